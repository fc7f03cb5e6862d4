import PyProof.Rows.All
import Wide.All
import OpenK.AllK
import Wide.FinOn
import HandS.ForMost
import HandS.TupAny
import HandS.Wide
import HandS.Gcd
import HandS.Zip
import HandS.Flow
import HandS.Style
import HandS.TupMul
import PySem.Challenge.RW_chancesmet_k37_whole_digits_moved_and_tu
set_option Elab.async false
set_option linter.all false
set_option maxRecDepth 100000
/-! FD1: data, heaps, slots -/
namespace FD
open PySem PySem.Spec PyProof.Rows L2

abbrev D := PyData
/-- the token of the source -/
def SRC : D := .dict [(.none, .none)]
def keyPy : Key → D
  | .inl i => .int i
  | .inr x => .str x

/-! ### a value bears data: N: the addresses that it may not lead to -/
mutual
def Rp (ad : Addr) (H : Hp) (N : Addr → Prop) : D → V → Prop
  | .none, v => v = .non
  | .bool b, v => v = .bl b
  | .int i, v => v = .int i
  | .str x, v => v = .str x
  | .tuple ds, v => ∃ a xs, v = .ref a ∧ H a = some (.tup xs) ∧ RpL ad H N ds xs
  | .list ds, v => ∃ a xs, v = .ref a ∧ ¬ N a ∧ H a = some (.lst xs) ∧ RpL ad H N ds xs
  | .dict kvs, v => (kvs = [(.none, .none)] ∧ v = .ref ad) ∨ (∃ a ys, v = .ref a ∧ ¬ N a ∧ H a = some (.dK ys) ∧ RpK ad H N kvs ys)
def RpL (ad : Addr) (H : Hp) (N : Addr → Prop) : List D → List V → Prop
  | [], xs => xs = []
  | d :: ds, xs => ∃ v vs, xs = v :: vs ∧ Rp ad H N d v ∧ RpL ad H N ds vs
def RpK (ad : Addr) (H : Hp) (N : Addr → Prop) : List (D × D) → List (Key × V) → Prop
  | [], ys => ys = []
  | (k, d) :: kvs, ys => ∃ kk v r, ys = (kk, v) :: r ∧ k = keyPy kk ∧ Rp ad H N d v ∧ RpK ad H N kvs r
end

/-- what of a heap is kept for data that avoid N -/
structure Kp (N N' : Addr → Prop) (H H' : Hp) : Prop where
  t : ∀ a xs, H a = some (.tup xs) → H' a = some (.tup xs)
  l : ∀ a xs, ¬ N a → H a = some (.lst xs) → H' a = some (.lst xs) ∧ ¬ N' a
  d : ∀ a xs, ¬ N a → H a = some (.dK xs) → H' a = some (.dK xs) ∧ ¬ N' a

mutual
theorem Rp.kp {ad : Addr} {H H' : Hp} {N N' : Addr → Prop} (k : Kp N N' H H') : ∀ (d : D) (v : V), Rp ad H N d v → Rp ad H' N' d v
  | .none, _, h => h
  | .bool _, _, h => h
  | .int _, _, h => h
  | .str _, _, h => h
  | .tuple ds, v, h => by
    obtain ⟨a, xs, e, h1, h2⟩ := h
    exact ⟨a, xs, e, k.t a xs h1, RpL.kp k ds xs h2⟩
  | .list ds, v, h => by
    obtain ⟨a, xs, e, hn, h1, h2⟩ := h
    exact ⟨a, xs, e, (k.l a xs hn h1).2, (k.l a xs hn h1).1, RpL.kp k ds xs h2⟩
  | .dict kvs, v, h => by
    rcases h with h | ⟨a, ys, e, hn, h1, h2⟩
    · exact .inl h
    · exact .inr ⟨a, ys, e, (k.d a ys hn h1).2, (k.d a ys hn h1).1, RpK.kp k kvs ys h2⟩
theorem RpL.kp {ad : Addr} {H H' : Hp} {N N' : Addr → Prop} (k : Kp N N' H H') : ∀ (ds : List D) (vs : List V), RpL ad H N ds vs → RpL ad H' N' ds vs
  | [], _, h => h
  | d :: ds, xs, h => by
    obtain ⟨v, vs, e, h1, h2⟩ := h
    exact ⟨v, vs, e, Rp.kp k d v h1, RpL.kp k ds vs h2⟩
theorem RpK.kp {ad : Addr} {H H' : Hp} {N N' : Addr → Prop} (k : Kp N N' H H') : ∀ (ds : List (D × D)) (vs : List (Key × V)), RpK ad H N ds vs → RpK ad H' N' ds vs
  | [], _, h => h
  | (k0, d) :: ds, xs, h => by
    obtain ⟨kk, v, r, e, e2, h1, h2⟩ := h
    exact ⟨kk, v, r, e, e2, Rp.kp k d v h1, RpK.kp k ds r h2⟩
end

/-! ### lists of data -/
theorem RpL.length {ad : Addr} {H : Hp} {N : Addr → Prop} : ∀ {ds : List D} {vs : List V}, RpL ad H N ds vs → vs.length = ds.length
  | [], _, h => by rw [show _ = [] from h]; rfl
  | d :: ds, xs, h => by
    obtain ⟨v, vs, rfl, _, h2⟩ := h
    rw [List.length_cons, List.length_cons, RpL.length h2]
theorem RpL.get {ad : Addr} {H : Hp} {N : Addr → Prop} : ∀ {ds : List D} {vs : List V} {i : Nat} {d : D}, RpL ad H N ds vs → ds[i]? = some d → ∃ v, vs[i]? = some v ∧ Rp ad H N d v
  | [], _, _, _, _, e => by simp at e
  | d :: ds, xs, 0, d', h, e => by
    obtain ⟨v, vs, rfl, h1, _⟩ := h
    simp at e; subst e
    exact ⟨v, rfl, h1⟩
  | d :: ds, xs, i + 1, d', h, e => by
    obtain ⟨v, vs, rfl, _, h2⟩ := h
    simpa using RpL.get (i := i) (d := d') h2 (by simpa using e)
theorem RpL.append {ad : Addr} {H : Hp} {N : Addr → Prop} : ∀ {ds es : List D} {vs us : List V}, RpL ad H N ds vs → RpL ad H N es us → RpL ad H N (ds ++ es) (vs ++ us)
  | [], _, _, _, h, h' => by rw [show _ = [] from h]; exact h'
  | d :: ds, es, xs, us, h, h' => by
    obtain ⟨v, vs, rfl, h1, h2⟩ := h
    exact ⟨v, vs ++ us, rfl, h1, RpL.append h2 h'⟩
theorem RpL.take {ad : Addr} {H : Hp} {N : Addr → Prop} : ∀ {ds : List D} {vs : List V} (n : Nat), RpL ad H N ds vs → RpL ad H N (ds.take n) (vs.take n)
  | ds, vs, 0, h => by simp [RpL]
  | [], _, n + 1, h => by rw [show _ = [] from h]; simp [RpL]
  | d :: ds, xs, n + 1, h => by
    obtain ⟨v, vs, rfl, h1, h2⟩ := h
    exact ⟨v, vs.take n, rfl, h1, RpL.take n h2⟩
theorem RpL.drop {ad : Addr} {H : Hp} {N : Addr → Prop} : ∀ {ds : List D} {vs : List V} (n : Nat), RpL ad H N ds vs → RpL ad H N (ds.drop n) (vs.drop n)
  | ds, vs, 0, h => h
  | [], _, n + 1, h => by rw [show _ = [] from h]; simp [RpL]
  | d :: ds, xs, n + 1, h => by
    obtain ⟨v, vs, rfl, h1, h2⟩ := h
    exact RpL.drop n h2
theorem RpL.set {ad : Addr} {H : Hp} {N : Addr → Prop} {d : D} {v : V} (r : Rp ad H N d v) : ∀ {ds : List D} {vs : List V} (n : Nat), RpL ad H N ds vs → RpL ad H N (ds.set n d) (vs.set n v)
  | [], _, n, h => by rw [show _ = [] from h]; simp [RpL]
  | d0 :: ds, xs, 0, h => by
    obtain ⟨v0, vs, rfl, h1, h2⟩ := h
    exact ⟨v, vs, rfl, r, h2⟩
  | d0 :: ds, xs, n + 1, h => by
    obtain ⟨v0, vs, rfl, h1, h2⟩ := h
    exact ⟨v0, vs.set n v, rfl, h1, RpL.set r n h2⟩
theorem RpL.reverse {ad : Addr} {H : Hp} {N : Addr → Prop} : ∀ {ds : List D} {vs : List V}, RpL ad H N ds vs → RpL ad H N ds.reverse vs.reverse
  | [], _, h => by rw [show _ = [] from h]; simp [RpL]
  | d :: ds, xs, h => by
    obtain ⟨v, vs, rfl, h1, h2⟩ := h
    rw [List.reverse_cons, List.reverse_cons]
    exact RpL.append (RpL.reverse h2) ⟨v, [], rfl, h1, rfl⟩
theorem RpL.rep {ad : Addr} {H : Hp} {N : Addr → Prop} {ds : List D} {vs : List V} (h : RpL ad H N ds vs) : ∀ k : Nat, RpL ad H N (List.replicate k ds).flatten (List.replicate k vs).flatten
  | 0 => by simp [RpL]
  | k + 1 => by
    rw [List.replicate_succ, List.replicate_succ, List.flatten_cons, List.flatten_cons]
    exact RpL.append h (RpL.rep h k)
theorem RpL.ints {ad : Addr} {H : Hp} {N : Addr → Prop} : ∀ {ns : List Int} {vs : List V}, RpL ad H N (ns.map PyData.int) vs → vs = ns.map V.int
  | [], _, h => h
  | n :: ns, xs, h => by
    obtain ⟨v, vs, rfl, h1, h2⟩ := h
    rw [show v = V.int n from h1, RpL.ints h2]; rfl
theorem RpL.bools {ad : Addr} {H : Hp} {N : Addr → Prop} : ∀ {ns : List Bool} {vs : List V}, RpL ad H N (ns.map PyData.bool) vs → vs = ns.map V.bl
  | [], _, h => h
  | n :: ns, xs, h => by
    obtain ⟨v, vs, rfl, h1, h2⟩ := h
    rw [show v = V.bl n from h1, RpL.bools h2]; rfl
theorem RpL.of_ints {ad : Addr} {H : Hp} {N : Addr → Prop} : ∀ (ns : List Int), RpL ad H N (ns.map PyData.int) (ns.map V.int)
  | [] => rfl
  | n :: ns => ⟨_, _, rfl, rfl, RpL.of_ints ns⟩

/-! ### the same as the layer's own data -/
mutual
theorem Rp.dp {K : PySem.W.Frag} {ad : Addr} {H : Hp} {N : Addr → Prop} : ∀ (d : D) (v : V), d.canLay0 = true → Rp ad H N d v → Dp K H v d
  | .none, v, _, h => by rw [show v = _ from h]; exact .non
  | .bool b, v, _, h => by rw [show v = _ from h]; exact .bl b
  | .int i, v, _, h => by rw [show v = _ from h]; exact .int i
  | .str x, v, _, h => by rw [show v = _ from h]; exact .str x
  | .tuple ds, v, c, h => by
    obtain ⟨a, xs, rfl, h1, h2⟩ := h
    exact .tup (SqT.of h1) (RpL.dp ds xs (by simpa [PyData.canLay0] using c) h2)
  | .list ds, v, c, h => by
    obtain ⟨a, xs, rfl, _, h1, h2⟩ := h
    exact .lst (SqL.of h1) (RpL.dp ds xs (by simpa [PyData.canLay0] using c) h2)
  | .dict _, _, c, _ => by simp [PyData.canLay0] at c
theorem RpL.dp {K : PySem.W.Frag} {ad : Addr} {H : Hp} {N : Addr → Prop} : ∀ (ds : List D) (vs : List V), PyData.canLayAll0 ds = true → RpL ad H N ds vs → DpAll K H vs ds
  | [], vs, _, h => by rw [show vs = [] from h]; exact .nil
  | d :: ds, xs, c, h => by
    obtain ⟨v, vs, rfl, h1, h2⟩ := h
    have c' : d.canLay0 = true ∧ PyData.canLayAll0 ds = true := by simpa [PyData.canLayAll0] using c
    exact .cons (Rp.dp d v c'.1 h1) (RpL.dp ds vs c'.2 h2)
end

/-! ### flat data: no list, no dict -/
mutual
def flatD : D → Bool
  | .none | .bool _ | .int _ | .str _ => true
  | .tuple ds => flatDs ds
  | .list _ | .dict _ => false
def flatDs : List D → Bool
  | [] => true
  | d :: ds => flatD d && flatDs ds
end
mutual
theorem Rp.flat {ad : Addr} {H : Hp} {N N' : Addr → Prop} : ∀ (d : D) (v : V), flatD d = true → Rp ad H N d v → Rp ad H N' d v
  | .none, _, _, h => h
  | .bool _, _, _, h => h
  | .int _, _, _, h => h
  | .str _, _, _, h => h
  | .tuple ds, v, f, h => by
    obtain ⟨a, xs, e, h1, h2⟩ := h
    exact ⟨a, xs, e, h1, RpL.flat ds xs (by simpa [flatD] using f) h2⟩
  | .list _, _, f, _ => by simp [flatD] at f
  | .dict _, _, f, _ => by simp [flatD] at f
theorem RpL.flat {ad : Addr} {H : Hp} {N N' : Addr → Prop} : ∀ (ds : List D) (vs : List V), flatDs ds = true → RpL ad H N ds vs → RpL ad H N' ds vs
  | [], _, _, h => h
  | d :: ds, xs, f, h => by
    obtain ⟨v, vs, e, h1, h2⟩ := h
    have f' : flatD d = true ∧ flatDs ds = true := by simpa [flatDs] using f
    exact ⟨v, vs, e, Rp.flat d v f'.1 h1, RpL.flat ds vs f'.2 h2⟩
end

/-! ### the source -/
structure Pick where
  cells : List Int
  left : Int
  mixed : Int
  turn : Int
def srcKV (al : Addr) (S : Pick) : List (Key × V) := [(.inr "cells", .ref al), (.inr "left", .int S.left), (.inr "mixed", .int S.mixed), (.inr "turn", .int S.turn)]
structure SrcAt (ad al : Addr) (H : Hp) (S : Pick) : Prop where
  d : H ad = some (.dK (srcKV al S))
  l : H al = some (.lst (S.cells.map V.int))

/-! ### slots -/
inductive Slot where
  | un | val (d : D) | own (d : D)
abbrev Env := List Slot

/-- the constant things of a def's run: the heap at the entry, what its data may not lead to, the source's place -/
structure G where
  H0 : Hp
  N : Addr → Prop
  ad : Addr
  al : Addr

/-- the container at p -/
def Cont (ad : Addr) (H : Hp) (N : Addr → Prop) : D → Addr → Prop
  | .list ds, p => ∃ xs, H p = some (.lst xs) ∧ RpL ad H N ds xs
  | .dict kvs, p => ∃ ys, H p = some (.dK ys) ∧ RpK ad H N kvs ys
  | _, _ => False

abbrev U (γ : G) (O : Addr → Prop) : Addr → Prop := fun a => γ.N a ∨ O a

def SlotOk (γ : G) (O : Addr → Prop) (H : Hp) : Option Slot → Option (Option V) → Prop
  | some (.val d), s => ∃ v, s = some (some v) ∧ Rp γ.ad H (U γ O) d v
  | some (.own d), s => ∃ p, s = some (some (.ref p)) ∧ O p ∧ Cont γ.ad H (U γ O) d p
  | _, _ => True

def notTup : HO → Prop
  | .lst _ => True
  | .dK _ => True
  | _ => False

structure Rel (γ : G) (O : Addr → Prop) (σ : L2.St) (ρ : Env) (S : Pick) (H : Hp) : Prop where
  src : SrcAt γ.ad γ.al H S
  nd : γ.N γ.ad
  nl : γ.N γ.al
  dom : ∀ a, U γ O a → ∃ o, H a = some o ∧ notTup o
  sep : ∀ a, O a → ¬ γ.N a
  base : ∀ a o, a ≠ γ.ad → a ≠ γ.al → γ.H0 a = some o → H a = some o
  new : ∀ a, O a → γ.H0 a = none
  len : ρ.length = σ.length
  sl : ∀ i : Nat, SlotOk γ O H (ρ[i]?) (σ[i]?)
  inj : ∀ (i j : Nat) (p : Addr) (d e : D), ρ[i]? = some (.own d) → ρ[j]? = some (.own e) → σ[i]? = some (some (.ref p)) → σ[j]? = some (some (.ref p)) → i = j

def Ext (γ : G) (H H' : Hp) : Prop := ∀ a o, a ≠ γ.ad → a ≠ γ.al → H a = some o → H' a = some o
def Ex (H H' : Hp) : Prop := ∀ a o, H a = some o → H' a = some o
theorem Ex.refl (H : Hp) : Ex H H := fun _ _ h => h
theorem Ex.trans {H H1 H2 : Hp} (a : Ex H H1) (b : Ex H1 H2) : Ex H H2 := fun x o h => b x o (a x o h)
theorem Ex.new {H : Hp} {p : Addr} {o : HO} (h : H p = none) : Ex H (upd H p o) := fun a u e => by
  rw [upd_ne (ne_of_none e h)]
  exact e
theorem Ex.ext {γ : G} {H H' : Hp} (e : Ex H H') : Ext γ H H' := fun a o _ _ h => e a o h
theorem Ext.refl (γ : G) (H : Hp) : Ext γ H H := fun _ _ _ _ h => h
theorem Ext.trans {γ : G} {H H1 H2 : Hp} (a : Ext γ H H1) (b : Ext γ H1 H2) : Ext γ H H2 := fun x o h1 h2 h => b x o h1 h2 (a x o h1 h2 h)
theorem Ex.src {ad al : Addr} {H H' : Hp} {S : Pick} (e : Ex H H') (s : SrcAt ad al H S) : SrcAt ad al H' S := ⟨e _ _ s.d, e _ _ s.l⟩

section
variable {γ : G} {O : Addr → Prop} {σ : L2.St} {ρ : Env} {S S' : Pick} {H H' : Hp}
theorem Rel.kp (R : Rel γ O σ ρ S H) (e : Ext γ H H') : Kp (U γ O) (U γ O) H H' where
  t := fun a xs h => by
    refine e a _ (fun q => ?_) (fun q => ?_) h
    · rw [q, R.src.d] at h; cases h
    · rw [q, R.src.l] at h; cases h
  l := fun a xs hn h => ⟨e a _ (fun q => hn (.inl (q ▸ R.nd))) (fun q => hn (.inl (q ▸ R.nl))) h, hn⟩
  d := fun a xs hn h => ⟨e a _ (fun q => hn (.inl (q ▸ R.nd))) (fun q => hn (.inl (q ▸ R.nl))) h, hn⟩
theorem Rel.kpN (R : Rel γ O σ ρ S H) (e : Ext γ H H') : Kp γ.N γ.N H H' where
  t := fun a xs h => by
    refine e a _ (fun q => ?_) (fun q => ?_) h
    · rw [q, R.src.d] at h; cases h
    · rw [q, R.src.l] at h; cases h
  l := fun a xs hn h => ⟨e a _ (fun q => hn (q ▸ R.nd)) (fun q => hn (q ▸ R.nl)) h, hn⟩
  d := fun a xs hn h => ⟨e a _ (fun q => hn (q ▸ R.nd)) (fun q => hn (q ▸ R.nl)) h, hn⟩
theorem Rel.one (R : Rel γ O σ ρ S H) {a : Addr} (h : O a) : a ≠ γ.ad ∧ a ≠ γ.al := ⟨fun q => R.sep a h (q ▸ R.nd), fun q => R.sep a h (q ▸ R.nl)⟩
theorem Cont.kp {ad : Addr} {N N' : Addr → Prop} (k : Kp N N' H H') {d : D} {p : Addr} (hp : ∀ o, H p = some o → H' p = some o) (h : Cont ad H N d p) : Cont ad H' N' d p := by
  cases d with
  | list ds => obtain ⟨xs, h1, h2⟩ := h; exact ⟨xs, hp _ h1, RpL.kp k _ _ h2⟩
  | dict ds => obtain ⟨xs, h1, h2⟩ := h; exact ⟨xs, hp _ h1, RpK.kp k _ _ h2⟩
  | _ => exact h.elim
theorem Rel.ext (R : Rel γ O σ ρ S H) (e : Ext γ H H') (s : SrcAt γ.ad γ.al H' S') : Rel γ O σ ρ S' H' where
  src := s
  nd := R.nd
  nl := R.nl
  dom := fun a h => by
    by_cases h1 : a = γ.ad
    · subst h1; exact ⟨_, s.d, trivial⟩
    · by_cases h2 : a = γ.al
      · subst h2; exact ⟨_, s.l, trivial⟩
      · obtain ⟨o, q, t⟩ := R.dom a h
        exact ⟨o, e a o h1 h2 q, t⟩
  sep := R.sep
  base := fun a o h1 h2 h => e a o h1 h2 (R.base a o h1 h2 h)
  new := R.new
  len := R.len
  sl := fun i => by
    have h := R.sl i
    cases hr : ρ[i]? with
    | none => trivial
    | some s =>
      rw [hr] at h
      cases s with
      | un => trivial
      | val d => obtain ⟨v, h1, h2⟩ := h; exact ⟨v, h1, Rp.kp (R.kp e) d v h2⟩
      | own d => obtain ⟨p, h1, h2, h3⟩ := h; exact ⟨p, h1, h2, Cont.kp (R.kp e) (fun o ho => e p o (R.one h2).1 (R.one h2).2 ho) h3⟩
  inj := R.inj
end

/-! ### the class of a value: free, a new container, an own one -/
inductive Cl where
  | cl | fr | al

def Val (γ : G) (O : Addr → Prop) (H H' : Hp) (v : V) (d : D) : Cl → Prop
  | .cl => Rp γ.ad H' (U γ O) d v
  | .fr => ∃ p, v = .ref p ∧ H p = none ∧ p ≠ γ.ad ∧ p ≠ γ.al ∧ Cont γ.ad H' (fun a => U γ O a ∨ a = p) d p
  | .al => ∃ p, v = .ref p ∧ O p ∧ Cont γ.ad H' (U γ O) d p

section
variable {γ : G} {O : Addr → Prop} {σ : L2.St} {ρ : Env} {S S' : Pick} {H Ha H1 H2 : Hp} {v : V} {d : D} {c : Cl}
theorem ext_none (R : Rel γ O σ ρ S H) (e : Ext γ H H1) {p : Addr} (h : H1 p = none) (s : SrcAt γ.ad γ.al H1 S') : H p = none := by
  cases q : H p with
  | none => rfl
  | some o =>
    by_cases h1 : p = γ.ad
    · subst h1; rw [s.d] at h; cases h
    · by_cases h2 : p = γ.al
      · subst h2; rw [s.l] at h; cases h
      · rw [e p o h1 h2 q] at h; cases h
/-- a value stays one as the heap grows (Ha: the heap ahead of it) -/
theorem Val.ext (R : Rel γ O σ ρ S H1) (e : Ext γ H1 H2) (h : Val γ O Ha H1 v d c) : Val γ O Ha H2 v d c := by
  cases c with
  | cl => exact Rp.kp (R.kp e) d v h
  | al =>
    obtain ⟨p, h1, h2, h3⟩ := h
    exact ⟨p, h1, h2, Cont.kp (R.kp e) (fun o ho => e p o (R.one h2).1 (R.one h2).2 ho) h3⟩
  | fr =>
    obtain ⟨p, h1, h2, h4, h5, h3⟩ := h
    refine ⟨p, h1, h2, h4, h5, Cont.kp ⟨(R.kp e).t, fun a xs hn q => ?_, fun a xs hn q => ?_⟩ (fun o ho => e p o h4 h5 ho) h3⟩
    · exact ⟨((R.kp e).l a xs (fun z => hn (.inl z)) q).1, hn⟩
    · exact ⟨((R.kp e).d a xs (fun z => hn (.inl z)) q).1, hn⟩
/-- .. and looked at from an earlier heap -/
theorem Val.back (h : Val γ O H1 H2 v d c) (hb : ∀ p, H1 p = none → H p = none) : Val γ O H H2 v d c := by
  cases c with
  | cl => exact h
  | al => exact h
  | fr =>
    obtain ⟨p, h1, h2, h3⟩ := h
    exact ⟨p, h1, hb p h2, h3⟩
/-- a container's place, whatever the class -/
theorem Val.list {ds : List D} (h : Val γ O Ha H1 v (.list ds) c) : ∃ p xs, v = .ref p ∧ H1 p = some (.lst xs) ∧ RpL γ.ad H1 (U γ O) ds xs := by
  cases c with
  | cl => obtain ⟨a, xs, e, _, h1, h2⟩ := h; exact ⟨a, xs, e, h1, h2⟩
  | al => obtain ⟨p, e, _, xs, h1, h2⟩ := h; exact ⟨p, xs, e, h1, h2⟩
  | fr =>
    obtain ⟨p, e, _, _, _, xs, h1, h2⟩ := h
    exact ⟨p, xs, e, h1, RpL.kp ⟨fun _ _ h => h, fun a xs hn h => ⟨h, fun z => hn (.inl z)⟩, fun a xs hn h => ⟨h, fun z => hn (.inl z)⟩⟩ _ _ h2⟩
theorem Val.tuple {ds : List D} (h : Val γ O Ha H1 v (.tuple ds) c) : ∃ p xs, v = .ref p ∧ H1 p = some (.tup xs) ∧ RpL γ.ad H1 (U γ O) ds xs := by
  cases c with
  | cl => exact h
  | al => obtain ⟨p, e, _, h1⟩ := h; exact h1.elim
  | fr => obtain ⟨p, e, _, _, _, h1⟩ := h; exact h1.elim
theorem Val.int {i : Int} (h : Val γ O Ha H1 v (.int i) c) : v = .int i := by
  cases c with
  | cl => exact h
  | al => obtain ⟨p, e, _, h1⟩ := h; exact h1.elim
  | fr => obtain ⟨p, e, _, _, _, h1⟩ := h; exact h1.elim
theorem Val.bool {i : Bool} (h : Val γ O Ha H1 v (.bool i) c) : v = .bl i := by
  cases c with
  | cl => exact h
  | al => obtain ⟨p, e, _, h1⟩ := h; exact h1.elim
  | fr => obtain ⟨p, e, _, _, _, h1⟩ := h; exact h1.elim
theorem Val.str {i : Str} (h : Val γ O Ha H1 v (.str i) c) : v = .str i := by
  cases c with
  | cl => exact h
  | al => obtain ⟨p, e, _, h1⟩ := h; exact h1.elim
  | fr => obtain ⟨p, e, _, _, _, h1⟩ := h; exact h1.elim
theorem Val.none (h : Val γ O Ha H1 v .none c) : v = .non := by
  cases c with
  | cl => exact h
  | al => obtain ⟨p, e, _, h1⟩ := h; exact h1.elim
  | fr => obtain ⟨p, e, _, _, _, h1⟩ := h; exact h1.elim
/-- what avoids the def's own addresses or is new: free -/
theorem Cont.rp {ad : Addr} {N N' : Addr → Prop} {p : Addr} (hN : ∀ a, N' a → N a) (hp : ¬ N' p) (h : Cont ad H1 N d p) : Rp ad H1 N' d (.ref p) := by
  have k : Kp N N' H1 H1 := ⟨fun _ _ h => h, fun a xs hn h => ⟨h, fun z => hn (hN a z)⟩, fun a xs hn h => ⟨h, fun z => hn (hN a z)⟩⟩
  cases d with
  | list ds => obtain ⟨xs, h1, h2⟩ := h; exact ⟨p, xs, rfl, hp, h1, RpL.kp k _ _ h2⟩
  | dict ds => obtain ⟨xs, h1, h2⟩ := h; exact .inr ⟨p, xs, rfl, hp, h1, RpK.kp k _ _ h2⟩
  | _ => exact h.elim
theorem Val.free (R : Rel γ O σ ρ S Ha) (h : Val γ O Ha H1 v d c) (hc : c ≠ .al) : Rp γ.ad H1 (U γ O) d v := by
  cases c with
  | cl => exact h
  | al => exact (hc rfl).elim
  | fr =>
    obtain ⟨p, rfl, hn, _, _, h1⟩ := h
    refine Cont.rp (fun a z => .inl z) (fun z => ?_) h1
    obtain ⟨o, q, _⟩ := R.dom p z
    rw [hn] at q; cases q
/-- any value, without the def's own restriction -/
theorem Val.any (R : Rel γ O σ ρ S Ha) (h : Val γ O Ha H1 v d c) : Rp γ.ad H1 γ.N d v := by
  cases c with
  | cl => exact Rp.kp ⟨fun _ _ h => h, fun a xs hn h => ⟨h, fun z => hn (.inl z)⟩, fun a xs hn h => ⟨h, fun z => hn (.inl z)⟩⟩ d v h
  | al =>
    obtain ⟨p, rfl, ho, h1⟩ := h
    exact Cont.rp (fun a z => .inl z) (R.sep p ho) h1
  | fr =>
    obtain ⟨p, rfl, hn, _, _, h1⟩ := h
    refine Cont.rp (fun a z => .inl (.inl z)) (fun z => ?_) h1
    obtain ⟨o, q, _⟩ := R.dom p (.inl z)
    rw [hn] at q; cases q
end
end FD

/-! FD2: what an expression computes on data, and that the layer's rules follow it -/
namespace FD
open PySem PySem.Spec PyProof.Rows L2

abbrev EvF := Env → Pick → Option (D × Cl × Pick)
abbrev EvT := Env → Pick → Option (Bool × Pick)
abbrev EvA := Env → Pick → Option (List (D × Cl) × Pick)
abbrev EvO := Env → Pick → Option (Option Int × Pick)

def ValL (γ : G) (O : Addr → Prop) (Ha H : Hp) : List V → List (D × Cl) → Prop
  | [], [] => True
  | v :: vs, (d, c) :: r => Val γ O Ha H v d c ∧ ValL γ O Ha H vs r
  | _, _ => False

def tE (f : EvF) : TE := fun σ H Q => ∃ (γ : G) (O : Addr → Prop) (ρ : Env) (S : Pick) (d : D) (c : Cl) (S' : Pick), Rel γ O σ ρ S H ∧ f ρ S = some (d, c, S') ∧
  ∀ H' v, Ext γ H H' → SrcAt γ.ad γ.al H' S' → Val γ O H H' v d c → Q v H'
def tT (f : EvT) : TT := fun σ H Q => ∃ (γ : G) (O : Addr → Prop) (ρ : Env) (S : Pick) (b : Bool) (S' : Pick), Rel γ O σ ρ S H ∧ f ρ S = some (b, S') ∧
  ∀ H', Ext γ H H' → SrcAt γ.ad γ.al H' S' → Q b H'
def tA (f : EvA) : TA := fun σ H Q => ∃ (γ : G) (O : Addr → Prop) (ρ : Env) (S : Pick) (l : List (D × Cl)) (S' : Pick), Rel γ O σ ρ S H ∧ f ρ S = some (l, S') ∧
  ∀ H' vs, Ext γ H H' → SrcAt γ.ad γ.al H' S' → ValL γ O H H' vs l → Q vs H'
def tO (f : EvO) : TO := fun σ H Q => ∃ (γ : G) (O : Addr → Prop) (ρ : Env) (S : Pick) (o : Option Int) (S' : Pick), Rel γ O σ ρ S H ∧ f ρ S = some (o, S') ∧
  ∀ H', Ext γ H H' → SrcAt γ.ad γ.al H' S' → Q o H'

theorem pe_imp {X : Cx} {e : Expr} {t u : TE} (p : PE X e t) (h : ∀ σ H Q, u σ H Q → t σ H Q) : PE X e u := ⟨fun pins s σ H Q I q => p.run pins s σ H Q I (h σ H Q q)⟩
theorem pt_imp {X : Cx} {e : Expr} {t u : TT} (p : PT X e t) (h : ∀ σ H Q, u σ H Q → t σ H Q) : PT X e u := ⟨fun pins s σ H Q I q => p.run pins s σ H Q I (h σ H Q q)⟩
theorem pw_imp {X : Cx} {e : Expr} {t u : TT} (p : PW X e t) (h : ∀ σ H Q, u σ H Q → t σ H Q) : PW X e u := ⟨fun wh pins s σ H Q I q => p.run wh pins s σ H Q I (h σ H Q q)⟩
theorem pa_imp {X : Cx} {e : List Expr} {t u : TA} (p : PA X e t) (h : ∀ σ H Q, u σ H Q → t σ H Q) : PA X e u := ⟨fun pos pins s σ H Q I q => p.run pos pins s σ H Q I (h σ H Q q)⟩
theorem po_imp {X : Cx} {e : Option Expr} {t u : TO} (p : PO X e t) (h : ∀ σ H Q, u σ H Q → t σ H Q) : PO X e u := ⟨fun pins s σ H Q I q => p.run pins s σ H Q I (h σ H Q q)⟩

abbrev DE (X : Cx) (e : Expr) (f : EvF) : Prop := PE X e (tE f)
abbrev DT (X : Cx) (e : Expr) (f : EvT) : Prop := PT X e (tT f)
abbrev DW (X : Cx) (e : Expr) (f : EvT) : Prop := PW X e (tT f)
abbrev DA (X : Cx) (e : List Expr) (f : EvA) : Prop := PA X e (tA f)
abbrev DO (X : Cx) (e : Option Expr) (f : EvO) : Prop := PO X e (tO f)

section
variable {γ : G} {O : Addr → Prop} {σ : L2.St} {ρ : Env} {S S' : Pick} {H Ha H1 H2 : Hp} {v : V} {d : D} {c : Cl}
theorem ValL.ext (R : Rel γ O σ ρ S H1) (e : Ext γ H1 H2) : ∀ {vs : List V} {l : List (D × Cl)}, ValL γ O Ha H1 vs l → ValL γ O Ha H2 vs l
  | [], [], _ => trivial
  | v :: vs, (d, c) :: r, h => ⟨Val.ext R e h.1, ValL.ext R e h.2⟩
  | [], _ :: _, h => h.elim
  | _ :: _, [], h => h.elim
theorem ValL.back (hb : ∀ p, H1 p = none → H p = none) : ∀ {vs : List V} {l : List (D × Cl)}, ValL γ O H1 H2 vs l → ValL γ O H H2 vs l
  | [], [], _ => trivial
  | v :: vs, (d, c) :: r, h => ⟨Val.back h.1 hb, ValL.back hb h.2⟩
  | [], _ :: _, h => h.elim
  | _ :: _, [], h => h.elim
theorem ValL.length : ∀ {vs : List V} {l : List (D × Cl)}, ValL γ O Ha H1 vs l → vs.length = l.length
  | [], [], _ => rfl
  | v :: vs, (d, c) :: r, h => by rw [List.length_cons, List.length_cons, ValL.length h.2]
  | [], _ :: _, h => h.elim
  | _ :: _, [], h => h.elim
theorem ValL.any (R : Rel γ O σ ρ S Ha) : ∀ {vs : List V} {l : List (D × Cl)}, ValL γ O Ha H1 vs l → RpL γ.ad H1 γ.N (l.map (·.1)) vs
  | [], [], _ => rfl
  | v :: vs, (d, c) :: r, h => ⟨v, vs, rfl, Val.any R h.1, ValL.any R h.2⟩
  | [], _ :: _, h => h.elim
  | _ :: _, [], h => h.elim
def noAl : List (D × Cl) → Bool
  | [] => true
  | (_, .al) :: _ => false
  | (_, _) :: r => noAl r
theorem ValL.free (R : Rel γ O σ ρ S Ha) : ∀ {vs : List V} {l : List (D × Cl)}, ValL γ O Ha H1 vs l → noAl l = true → RpL γ.ad H1 (U γ O) (l.map (·.1)) vs
  | [], [], _, _ => rfl
  | v :: vs, (d, .cl) :: r, h, n => ⟨v, vs, rfl, Val.free R h.1 (fun q => by cases q), ValL.free R h.2 n⟩
  | v :: vs, (d, .fr) :: r, h, n => ⟨v, vs, rfl, Val.free R h.1 (fun q => by cases q), ValL.free R h.2 n⟩
  | v :: vs, (d, .al) :: r, h, n => by cases n
  | [], _ :: _, h, _ => h.elim
  | _ :: _, [], h, _ => h.elim
theorem Rel.back (R : Rel γ O σ ρ S H) (e : Ext γ H H1) (s : SrcAt γ.ad γ.al H1 S') : ∀ p, H1 p = none → H p = none := fun p h => ext_none R e h s
theorem Rel.fresh (R : Rel γ O σ ρ S H) {p : Addr} (h : H p = none) : p ≠ γ.ad ∧ p ≠ γ.al ∧ ¬ U γ O p := by
  refine ⟨fun q => ?_, fun q => ?_, fun q => ?_⟩
  · rw [q, R.src.d] at h; cases h
  · rw [q, R.src.l] at h; cases h
  · obtain ⟨o, e, _⟩ := R.dom p q
    rw [h] at e; cases e
/-- a new container -/
theorem Rel.newL (R : Rel γ O σ ρ S H) {p : Addr} (h : H p = none) {ds : List D} {xs : List V} (r : RpL γ.ad H (U γ O) ds xs) : Val γ O H (upd H p (.lst xs)) (.ref p) (.list ds) .fr := by
  obtain ⟨h1, h2, h3⟩ := R.fresh h
  refine ⟨p, rfl, h, h1, h2, xs, upd_same, RpL.kp ⟨fun a ys q => ?_, fun a ys hn q => ⟨?_, fun z => ?_⟩, fun a ys hn q => ⟨?_, fun z => ?_⟩⟩ ds xs r⟩
  · rw [upd_ne (ne_of_none q h)]; exact q
  · rw [upd_ne (ne_of_none q h)]; exact q
  · rcases z with z | z
    · exact hn z
    · rw [z, h] at q; cases q
  · rw [upd_ne (ne_of_none q h)]; exact q
  · rcases z with z | z
    · exact hn z
    · rw [z, h] at q; cases q
theorem Rel.newT (R : Rel γ O σ ρ S H) {p : Addr} (h : H p = none) {ds : List D} {xs : List V} (r : RpL γ.ad H (U γ O) ds xs) : Val γ O H (upd H p (.tup xs)) (.ref p) (.tuple ds) .cl :=
  ⟨p, xs, rfl, upd_same, RpL.kp (R.kp (Ex.new h).ext) ds xs r⟩
end

/-! ### names and constants -/
def evC (d : D) : EvF := fun _ S => some (d, .cl, S)
def evV (i : Nat) : EvF := fun ρ S => match ρ[i]? with
  | some (.val d) => some (d, .cl, S)
  | some (.own d) => some (d, .al, S)
  | _ => none
section
variable {X : Cx}
theorem de_var (i : Nat) {x : Str} {pos : Pos} (hN : X.N[i]? = some x := by rfl) (hv : Vis X.env.scope x := by first | exact Or.inl rfl | exact Or.inr (Or.inl rfl) | exact Or.inr (Or.inr rfl)) (hd : (x == ("__debug__" : Str)) = false := by decide) (hcd : (x == ("__classdict__" : Str)) = false := by decide) : DE X (.Name x pos) (evV i) :=
  pe_imp (pe_var hN hv hd hcd) fun σ H Q ⟨γ, O, ρ, S, d, c, S', R, e, q⟩ => by
    have sl := R.sl i
    unfold evV at e
    split at e
    · rename_i d' hr
      rw [hr] at sl
      obtain ⟨v, h1, h2⟩ := sl
      cases e
      exact ⟨v, h1, q H v (Ext.refl γ H) R.src h2⟩
    · rename_i d' hr
      rw [hr] at sl
      obtain ⟨p, h1, h2, h3⟩ := sl
      cases e
      exact ⟨.ref p, h1, q H _ (Ext.refl γ H) R.src ⟨p, rfl, h2, h3⟩⟩
    · cases e
theorem de_const {e : Expr} {v : V} {d : D} (hp : PE X e (tC v)) (hr : ∀ ad H N, Rp ad H N d v) : DE X e (evC d) :=
  pe_imp hp fun σ H Q ⟨γ, O, ρ, S, d', c, S', R, e, q⟩ => by
    cases e
    exact q H v (Ext.refl γ H) R.src (hr _ _ _)
theorem de_int {i j pos} : DE X (.Constant (.int i) j pos) (evC (.int i)) := de_const pe_int fun _ _ _ => rfl
theorem de_bl {i j pos} : DE X (.Constant (.bool i) j pos) (evC (.bool i)) := de_const pe_bl fun _ _ _ => rfl
theorem de_str {i j pos} : DE X (.Constant (.str i) j pos) (evC (.str i)) := de_const pe_str fun _ _ _ => rfl
theorem de_non {j pos} : DE X (.Constant .none j pos) (evC .none) := de_const pe_non fun _ _ _ => rfl
end

/-! ### one after another -/
def ev2 (op : D → D → Option (D × Cl)) (f g : EvF) : EvF := fun ρ S => match f ρ S with
  | some (a, _, S1) => match g ρ S1 with
    | some (b, _, S2) => match op a b with
      | some (d, c) => some (d, c, S2)
      | none => none
    | none => none
  | none => none
def ev1 (op : D → Option (D × Cl)) (f : EvF) : EvF := fun ρ S => match f ρ S with
  | some (a, _, S1) => match op a with
    | some (d, c) => some (d, c, S1)
    | none => none
  | none => none
theorem seq1 {γ : G} {O : Addr → Prop} {σ : L2.St} {ρ : Env} {S S1 : Pick} {H : Hp} {f : EvF} {a : D} {ca : Cl} {P : V → Hp → Prop} (R : Rel γ O σ ρ S H) (ea : f ρ S = some (a, ca, S1))
    (k : ∀ H1 v, Ext γ H H1 → Rel γ O σ ρ S1 H1 → (∀ p, H1 p = none → H p = none) → Val γ O H H1 v a ca → P v H1) : tE f σ H P :=
  ⟨γ, O, ρ, S, a, ca, S1, R, ea, fun H1 v e s V => k H1 v e (R.ext e s) (R.back e s) V⟩
theorem seq2 {γ : G} {O : Addr → Prop} {σ : L2.St} {ρ : Env} {S S1 S2 : Pick} {H : Hp} {f g : EvF} {a b : D} {ca cb : Cl} {P : V → V → Hp → Prop} (R : Rel γ O σ ρ S H) (ea : f ρ S = some (a, ca, S1)) (eb : g ρ S1 = some (b, cb, S2))
    (k : ∀ H2 v u, Ext γ H H2 → Rel γ O σ ρ S2 H2 → (∀ p, H2 p = none → H p = none) → Val γ O H H2 v a ca → Val γ O H H2 u b cb → P v u H2) : tE f σ H fun x H1 => tE g σ H1 fun y H2 => P x y H2 :=
  seq1 R ea fun H1 v e1 R1 b1 V1 => seq1 R1 eb fun H2 u e2 R2 b2 V2 => k H2 v u (e1.trans e2) R2 (fun p h => b1 p (b2 p h)) (V1.ext R1 e2) (V2.back b1)

structure Op2 (r : R2) (op : D → D → Option (D × Cl)) : Prop where
  ok : ∀ {γ : G} {O : Addr → Prop} {σ : L2.St} {ρ : Env} {S : Pick} {Ha H : Hp} {v u : V} {a b : D} {ca cb : Cl} {d : D} {c : Cl} (Q : VK), Rel γ O σ ρ S H → Val γ O Ha H v a ca → Val γ O Ha H u b cb → op a b = some (d, c) →
    (∀ H' z, Ex H H' → Val γ O H H' z d c → Q z H') → r v u H Q
structure Op1 (r : V → Hp → VK → Prop) (op : D → Option (D × Cl)) : Prop where
  ok : ∀ {γ : G} {O : Addr → Prop} {σ : L2.St} {ρ : Env} {S : Pick} {Ha H : Hp} {v : V} {a : D} {ca : Cl} {d : D} {c : Cl} (Q : VK), Rel γ O σ ρ S H → Val γ O Ha H v a ca → op a = some (d, c) →
    (∀ H' z, Ex H H' → Val γ O H H' z d c → Q z H') → r v H Q
theorem op2_run {r : R2} {op : D → D → Option (D × Cl)} (ho : Op2 r op) {f g : EvF} {σ : L2.St} {H : Hp} {Q : VK} (h : tE (ev2 op f g) σ H Q) : tOp r (tE f) (tE g) σ H Q := by
  obtain ⟨γ, O, ρ, S, d, c, S', R, e, q⟩ := h
  unfold ev2 at e
  split at e
  · rename_i a ca S1 ea
    split at e
    · rename_i b cb S2 eb
      split at e
      · rename_i d' c' eo
        cases e
        refine seq2 R ea eb fun H2 v u e2 R2 b2 V U' => ho.ok Q R2 V U' eo fun H' z ex Vz => q H' z (e2.trans ex.ext) (ex.src R2.src) (Vz.back b2)
      · cases e
    · cases e
  · cases e
theorem op1_run {r : V → Hp → VK → Prop} {op : D → Option (D × Cl)} (ho : Op1 r op) {f : EvF} {σ : L2.St} {H : Hp} {Q : VK} (h : tE (ev1 op f) σ H Q) : tUn r (tE f) σ H Q := by
  obtain ⟨γ, O, ρ, S, d, c, S', R, e, q⟩ := h
  unfold ev1 at e
  split at e
  · rename_i a ca S1 ea
    split at e
    · rename_i d' c' eo
      cases e
      exact seq1 R ea fun H2 v e2 R2 b2 V => ho.ok Q R2 V eo fun H' z ex Vz => q H' z (e2.trans ex.ext) (ex.src R2.src) (Vz.back b2)
    · cases e
  · cases e
section
variable {X : Cx} {a b : Expr} {pos : Pos} {f g : EvF}
theorem de_op {op : Operator} {r : R2} {o : D → D → Option (D × Cl)} (ho : OpR X (binaryOp op) r) (h2 : Op2 r o) (ha : DE X a f) (hb : DE X b g) : DE X (.BinOp a op b pos) (ev2 o f g) := pe_imp (pe_op ho ha hb) fun _ _ _ h => op2_run h2 h
theorem de_cmp {op : CmpOp} {r : R2} {o : D → D → Option (D × Cl)} (ho : OpR X (compareOp op) r) (h2 : Op2 r o) (ha : DE X a f) (hb : DE X b g) (hm : behindInMarks op b = false) : DE X (.Compare a [op] [b] pos) (ev2 o f g) := pe_imp (pe_cmpR ho ha hb hm) fun _ _ _ h => op2_run h2 h
theorem de_un {op : UnaryOp} {r : V → Hp → VK → Prop} {o : D → Option (D × Cl)} (ho : UnR X (unaryOp op) r) (h1 : Op1 r o) (ha : DE X a f) : DE X (.UnaryOp op a pos) (ev1 o f) := pe_imp (pe_un ho ha) fun _ _ _ h => op1_run h1 h
theorem de_ix {r : R2} {o : D → D → Option (D × Cl)} (hr : IxR X r) (h2 : Op2 r o) (ha : DE X a f) (hb : DE X b g) (hs : PlainIx b) : DE X (.Subscript a b pos) (ev2 o f g) := pe_imp (pe_ix hr ha hb hs) fun _ _ _ h => op2_run h2 h
end

theorem line_eq : sizeLine = 16777216 := by decide +kernel
theorem Op2.or {r r' : R2} {o o' : D → D → Option (D × Cl)} (h : Op2 r o) (h' : Op2 r' o') : Op2 (fun x y H Q => r x y H Q ∨ r' x y H Q) (fun a b => match o a b with | some z => some z | none => o' a b) := ⟨fun Q R V U' e k => by
  split at e
  · rename_i z ez
    exact .inl (h.ok Q R V U' (ez.trans e) k)
  · exact .inr (h'.ok Q R V U' e k)⟩
theorem Op2.imp {r r' : R2} {o : D → D → Option (D × Cl)} (h : Op2 r o) (hi : ∀ x y H Q, r x y H Q → r' x y H Q) : Op2 r' o := ⟨fun Q R V U' e k => hi _ _ _ _ (h.ok Q R V U' e k)⟩
theorem val_int {γ : G} {O : Addr → Prop} {H H' : Hp} {i : Int} : Val γ O H H' (.int i) (.int i) .cl := rfl
theorem val_bl {γ : G} {O : Addr → Prop} {H H' : Hp} {i : Bool} : Val γ O H H' (.bl i) (.bool i) .cl := rfl
theorem val_str {γ : G} {O : Addr → Prop} {H H' : Hp} {i : Str} : Val γ O H H' (.str i) (.str i) .cl := rfl
end FD

/-! FD3: the operations -/
namespace FD
open PySem PySem.Spec PyProof.Rows L2
noncomputable section

theorem Val.ofCl {γ : G} {O : Addr → Prop} {H H' : Hp} {v : V} {d : D} (h : Rp γ.ad H' (U γ O) d v) : Val γ O H H' v d .cl := h

/-! ### guards: propositions that nothing unfolds, the kernel neither -/
structure OkLen (n : Nat) : Prop where
  h : n ≤ 16777216
structure OkMul (i j : Int) : Prop where
  h : i.natAbs.log2 + j.natAbs.log2 < 1000000
structure OkMulS (i j : Int) : Prop where
  h : (-(2 ^ 64) < i ∧ i < 2 ^ 64) ∨ (-(2 ^ 64) < j ∧ j < 2 ^ 64)
structure OkDiv (j : Int) : Prop where
  h : 0 < j ∧ j.natAbs.log2 < 9000
structure OkPow (i j : Int) : Prop where
  h : 0 ≤ j ∧ j ≤ 1000000 ∧ i.natAbs < 2 ^ 64
structure OkRep (n : Nat) (k : Int) : Prop where
  h : -(2 ^ 63) ≤ k ∧ k < 2 ^ 63 ∧ n * k.toNat ≤ 16777216
structure Ok62 (j : Int) : Prop where
  h : -(2 ^ 62) ≤ j ∧ j < 2 ^ 62
structure OkSh (d : D) : Prop where
  h : SeqAt.shaped d = true
open Classical in
/-- a value under a guard -/
def grd {α : Type} (p : Prop) (x : Option α) : Option α := if p then x else none
theorem grd_of {α : Type} {p : Prop} (h : p) (x : Option α) : grd p x = x := if_pos h
theorem grd_some {α : Type} {p : Prop} {x : Option α} {y : α} (h : grd p x = some y) : p ∧ x = some y := by
  unfold grd at h
  split at h
  · rename_i hp; exact ⟨hp, h⟩
  · cases h

/-! ### + - * // % ** << -/
def addI : D → D → Option (D × Cl)
  | .int i, .int j => some (.int (i + j), .cl)
  | _, _ => none
def addB : D → D → Option (D × Cl)
  | .int i, .bool k => some (.int (i + b2i k), .cl)
  | _, _ => none
def addS : D → D → Option (D × Cl)
  | .str i, .str j => grd (OkLen (i.length + j.length)) (some (.str (i ++ j), .cl))
  | _, _ => none
def addT : D → D → Option (D × Cl)
  | .tuple xs, .tuple ys => grd (OkLen (xs.length + ys.length)) (some (.tuple (xs ++ ys), .cl))
  | _, _ => none
def addL : D → D → Option (D × Cl)
  | .list xs, .list ys => grd (OkLen (xs.length + ys.length)) (some (.list (xs ++ ys), .fr))
  | _, _ => none
theorem o_addI : Op2 (rI0 fun i j => .int (i + j)) addI := ⟨fun {γ O σ ρ S Ha H v u a b ca cb d c} Q R V U' e k => by
  unfold addI at e
  split at e
  · cases e
    exact ⟨_, _, V.int, U'.int, k H _ (Ex.refl H) rfl⟩
  · cases e⟩
theorem o_addB : Op2 (fun x y H Q => ∃ i k, x = .int i ∧ y = .bl k ∧ Q (.int (i + b2i k)) H) addB := ⟨fun {γ O σ ρ S Ha H v u a b ca cb d c} Q R V U' e k => by
  unfold addB at e
  split at e
  · cases e
    exact ⟨_, _, V.int, U'.bool, k H _ (Ex.refl H) rfl⟩
  · cases e⟩
theorem o_addS : Op2 (fun x y H Q => ∃ i j, x = .str i ∧ y = .str j ∧ i.length + j.length ≤ sizeLine ∧ Q (.str (i ++ j)) H) addS := ⟨fun {γ O σ ρ S Ha H v u a b ca cb d c} Q R V U' e k => by
  unfold addS at e
  split at e
  · obtain ⟨h, e⟩ := grd_some e
    cases e
    exact ⟨_, _, V.str, U'.str, by rw [line_eq]; exact h.h, k H _ (Ex.refl H) rfl⟩
  · cases e⟩
theorem o_addT {K : PySem.W.Frag} : Op2 (rCatA K) addT := ⟨fun {γ O σ ρ S Ha H v u a b ca cb d c} Q R V U' e k => by
  unfold addT at e
  split at e
  · rename_i ds es
    obtain ⟨h, e⟩ := grd_some e
    · cases e
      obtain ⟨p, xs, rfl, hp, rp⟩ := V.tuple
      obtain ⟨q, ys, rfl, hq, rq⟩ := U'.tuple
      refine ⟨p, q, xs, ys, rfl, rfl, SqT.of hp, SqT.of hq, by rw [line_eq, RpL.length rp, RpL.length rq]; exact h.h, fun e0 => ?_, fun _ e0 => ?_, fun _ _ z hz => ?_⟩
      · refine k H _ (Ex.refl H) ⟨q, ys, rfl, hq, ?_⟩
        have hl := RpL.length rp
        rw [e0] at hl
        have : ds = [] := List.length_eq_zero_iff.mp hl.symm
        rw [this]; exact rq
      · refine k H _ (Ex.refl H) ⟨p, xs, rfl, hp, ?_⟩
        have hl := RpL.length rq
        rw [e0] at hl
        have : es = [] := List.length_eq_zero_iff.mp hl.symm
        rw [this, List.append_nil]; exact rp
      · exact k _ _ (Ex.new hz) (R.newT hz (RpL.append rp rq))
  · cases e⟩
theorem o_addL : Op2 rCat addL := ⟨fun {γ O σ ρ S Ha H v u a b ca cb d c} Q R V U' e k => by
  unfold addL at e
  split at e
  · obtain ⟨h, e⟩ := grd_some e
    · cases e
      obtain ⟨p, xs, rfl, hp, rp⟩ := V.list
      obtain ⟨q, ys, rfl, hq, rq⟩ := U'.list
      exact ⟨p, q, xs, ys, rfl, rfl, hp, hq, by rw [line_eq, RpL.length rp, RpL.length rq]; exact h.h, fun z hz => k _ _ (Ex.new hz) (R.newL hz (RpL.append rp rq))⟩
  · cases e⟩
def addD (a b : D) : Option (D × Cl) := match addI a b with
  | some z => some z
  | none => match addT a b with
    | some z => some z
    | none => match addL a b with
      | some z => some z
      | none => match addS a b with
        | some z => some z
        | none => addB a b
section
variable {X : Cx} {a b : Expr} {pos : Pos} {f g : EvF}
theorem de_add (ha : DE X a f) (hb : DE X b g) : DE X (.BinOp a .Add b pos) (ev2 addD f g) :=
  de_op (OpR.or op_add (OpR.or op_catA (OpR.or op_cat (OpR.or op_add_str op_add_ib)))) (Op2.or o_addI (Op2.or o_addT (Op2.or o_addL (Op2.or o_addS o_addB)))) ha hb
def subD : D → D → Option (D × Cl)
  | .int i, .int j => some (.int (i - j), .cl)
  | _, _ => none
theorem o_sub : Op2 (rI0 fun i j => .int (i - j)) subD := ⟨fun {γ O σ ρ S Ha H v u a b ca cb d c} Q R V U' e k => by
  unfold subD at e
  split at e
  · cases e
    exact ⟨_, _, V.int, U'.int, k H _ (Ex.refl H) rfl⟩
  · cases e⟩
theorem de_sub (ha : DE X a f) (hb : DE X b g) : DE X (.BinOp a .Sub b pos) (ev2 subD f g) := de_op op_sub o_sub ha hb
def mulI : D → D → Option (D × Cl)
  | .int i, .int j => grd (OkMul i j) (some (.int (i * j), .cl))
  | _, _ => none
theorem o_mulI : Op2 (rI CMulW fun i j => .int (i * j)) mulI := ⟨fun {γ O σ ρ S Ha H v u a b ca cb d c} Q R V U' e k => by
  unfold mulI at e
  split at e
  · obtain ⟨h, e⟩ := grd_some e
    · cases e
      exact ⟨_, _, V.int, U'.int, h.h, k H _ (Ex.refl H) rfl⟩
  · cases e⟩
/-- a small factor, the other of any size -/
def mulS : D → D → Option (D × Cl)
  | .int i, .int j => grd (OkMulS i j) (some (.int (i * j), .cl))
  | _, _ => none
theorem o_mulS : Op2 (rI CMul fun i j => .int (i * j)) mulS := ⟨fun {γ O σ ρ S Ha H v u a b ca cb d c} Q R V U' e k => by
  unfold mulS at e
  split at e
  · obtain ⟨h, e⟩ := grd_some e
    · cases e
      exact ⟨_, _, V.int, U'.int, h.h, k H _ (Ex.refl H) rfl⟩
  · cases e⟩
def mulL : D → D → Option (D × Cl)
  | .list xs, .int k => grd (OkRep xs.length k) (some (.list (List.replicate k.toNat xs).flatten, .fr))
  | _, _ => none
theorem o_mulL : Op2 rRep mulL := ⟨fun {γ O σ ρ S Ha H v u a b ca cb d c} Q R V U' e k => by
  unfold mulL at e
  split at e
  · rename_i ds i
    obtain ⟨h, e⟩ := grd_some e
    · cases e
      obtain ⟨p, xs, rfl, hp, rp⟩ := V.list
      have h := h.h
      exact ⟨p, i, xs, rfl, U'.int, hp, h.1, h.2.1, by rw [line_eq, RpL.length rp]; exact h.2.2, fun z hz => k _ _ (Ex.new hz) (R.newL hz (RpL.rep rp _))⟩
  · cases e⟩
/-- a tuple, two times or more, a million items at most -/
def rManyT (K : PySem.W.Frag) : R2 := fun x y H Q => ∃ (a : Addr) (m : Nat) (ys : List V), x = V.ref a ∧ y = V.int (m : Nat) ∧ SqT K H a ys ∧ 0 < ys.length ∧ 2 ≤ m ∧ m * ys.length ≤ 1000000 ∧
  ∀ p, H p = none → Q (.ref p) (upd H p (.tup (List.replicate m ys).flatten))
theorem op_manyT : OpR X (binaryOp .Mult) (rManyT X.K) := by
  intro pins s σ H x y v u Q I rx ry ⟨a, m, ys, ex, ey, hT, h0, h2, hm, q⟩
  subst ex; subst ey
  have hv : v = Value.ref a := rx
  obtain ⟨t, hu⟩ := ry
  subst hv; subst hu
  obtain ⟨ws, rel, tp, _⟩ := I.tuple hT
  obtain ⟨⟨c, dd, dat, sl⟩, hob, hcl, n, hdat⟩ := tp
  dsimp only at hcl hdat
  subst hcl; subst hdat
  have hw : ws.length = ys.length := (Vals.length rel).symm
  have hw0 : 0 < ws.length := by omega
  have nE : ws.toArray.isEmpty = false := by cases ws <;> simp_all
  have sz : ws.toArray.size = ys.length := by simp [hw]
  have big : ((ws.toArray.size : Nat) : Int) * ((m : Nat) : Int) ≤ 1000000 := by
    rw [sz, ← Int.natCast_mul, Nat.mul_comm]
    exact Int.ofNat_le.mpr hm
  have fl : (List.replicate m ws).flatten.length ≤ sizeLine := by
    rw [PyProof.Rows.lm_len_rep_flat, hw, line_eq]
    omega
  have k0 : (decide (((m : Nat) : Int) < -(2 ^ 63)) || decide (((m : Nat) : Int) ≥ 2 ^ 63)) = false := by
    have hm1 : m ≤ 1000000 := Nat.le_trans (Nat.le_mul_of_pos_right m h0) hm
    exact Bool.or_eq_false_iff.mpr ⟨decide_eq_false (by omega), decide_eq_false (by omega)⟩
  have k1 : (ws.toArray.isEmpty || ((m : Nat) : Int) == 1) = false := by
    simp only [nE, Bool.false_or, beq_eq_false_iff_ne]
    omega
  have k2 : (decide (((m : Nat) : Int) ≤ 0) || ws.toArray.isEmpty) = false := by
    simp only [nE, Bool.or_false, decide_eq_false_iff_not]
    omega
  have k4 : Builtin.Tuple.tupleTooMany (((ws.toArray.size : Nat) : Int) * ((m : Nat) : Int)) = false := by
    show decide _ = false
    refine decide_eq_false ?_
    rw [line_eq]
    omega
  have last : (List.replicate ((m : Nat) : Int).toNat ws).flatten = (List.replicate m ws).flatten := by rw [Int.toNat_natCast]
  have fl' := fl
  rw [← last, ← List.size_toArray, ← size_rep] at fl'
  have inner := tuple_mulW a ws.toArray n dd sl ((m : Nat) : Int) t k0 k1 k2 (by omega) k4 fl'
  refine wpAny_binaryOp_repeat_ref (T := "tuple") (U := "int") (by decide) ⟨_, hob, rfl⟩ (fun z => typeIs_int z ((m : Nat) : Int) t) noFill_tuple_mul PySem.F.fills_int_mul PySem.F.slot_int_rmul repeat_tuple PySem.F.slot_int_index.lookup ?_
  refine call_meets PySem.F.slot_int_rmul (typeIs_int s ((m : Nat) : Int) t) PySem.F.entry_int_rmul (PySem.F.args_int_rmul_2 _ _) (int_rmul_tuple ((m : Nat) : Int) t a ws.toArray n dd sl) ⟨hob, rfl, ⟨_, hob, rfl⟩, ?_⟩
  refine call_meets PySem.F.slot_tuple_mul ⟨_, hob, rfl⟩ PySem.F.entry_tuple_mul (PySem.F.args_tuple_mul_2 _ _) inner ⟨hob, ?_⟩
  rw [size_rep, last]
  refine ⟨V.ref s.heap.objs.size, upd H s.heap.objs.size (.tup (List.replicate m ys).flatten), ?_, rfl, q _ (HOk.fresh I.hok (Nat.le_refl _))⟩
  refine Inv.laid (t' := s.toks) I (fun b ob e => Heap.get?_push_of_some _ e) (Nat.le_refl _) ⟨?_, _, Vals.rep rel m, IsTup.new _ _⟩
  rw [PyProof.Rows.lm_len_rep_flat, line_eq]
  omega
structure OkMany (n : Nat) (k : Int) : Prop where
  h : 0 < n ∧ 2 ≤ k ∧ k.toNat * n ≤ 1000000
def mulT : D → D → Option (D × Cl)
  | .tuple xs, .int k => grd (OkMany xs.length k) (some (.tuple (List.replicate k.toNat xs).flatten, .cl))
  | _, _ => none
theorem o_mulT {K : PySem.W.Frag} : Op2 (rManyT K) mulT := ⟨fun {γ O σ ρ S Ha H v u a b ca cb d c} Q R V U' e k => by
  unfold mulT at e
  split at e
  · rename_i ds i
    obtain ⟨h, e⟩ := grd_some e
    cases e
    obtain ⟨p, xs, rfl, hp, rp⟩ := V.tuple
    have h := h.h
    have hi : i = ((i.toNat : Nat) : Int) := by omega
    refine ⟨p, i.toNat, xs, rfl, by rw [← hi]; exact U'.int, SqT.of hp, by rw [RpL.length rp]; exact h.1, by omega, by rw [RpL.length rp]; exact h.2.2, fun z hz => k _ _ (Ex.new hz) (R.newT hz (RpL.rep rp _))⟩
  · cases e⟩
def mulD (a b : D) : Option (D × Cl) := match mulI a b with
  | some z => some z
  | none => match mulL a b with
    | some z => some z
    | none => match mulT a b with
      | some z => some z
      | none => mulS a b
theorem de_mul (ha : DE X a f) (hb : DE X b g) : DE X (.BinOp a .Mult b pos) (ev2 mulD f g) :=
  de_op (OpR.or op_mulW (OpR.or op_rep (OpR.or op_manyT op_mul))) (Op2.or o_mulI (Op2.or o_mulL (Op2.or o_mulT o_mulS))) ha hb
def divW : D → D → Option (D × Cl)
  | .int i, .int j => grd (OkDiv j) (some (.int (i / j), .cl))
  | _, _ => none
theorem o_div : Op2 (rI CDivW fun i j => .int (i / j)) divW := ⟨fun {γ O σ ρ S Ha H v u a b ca cb d c} Q R V U' e k => by
  unfold divW at e
  split at e
  · obtain ⟨h, e⟩ := grd_some e
    · cases e
      exact ⟨_, _, V.int, U'.int, h.h, k H _ (Ex.refl H) rfl⟩
  · cases e⟩
theorem de_div (ha : DE X a f) (hb : DE X b g) : DE X (.BinOp a .FloorDiv b pos) (ev2 divW f g) := de_op op_fdivW o_div ha hb
def modD : D → D → Option (D × Cl)
  | .int i, .int j => if 0 < j then some (.int (i % j), .cl) else none
  | _, _ => none
theorem o_mod : Op2 (rI (fun _ j => 0 < j) fun i j => .int (i % j)) modD := ⟨fun {γ O σ ρ S Ha H v u a b ca cb d c} Q R V U' e k => by
  unfold modD at e
  split at e
  · split at e
    · rename_i h
      cases e
      exact ⟨_, _, V.int, U'.int, h, k H _ (Ex.refl H) rfl⟩
    · cases e
  · cases e⟩
theorem de_mod (ha : DE X a f) (hb : DE X b g) : DE X (.BinOp a .Mod b pos) (ev2 modD f g) := de_op op_mod o_mod ha hb
def powD : D → D → Option (D × Cl)
  | .int i, .int j => grd (OkPow i j) (some (.int (i ^ j.toNat), .cl))
  | _, _ => none
theorem o_pow : Op2 (rI CPow fun i j => .int (i ^ j.toNat)) powD := ⟨fun {γ O σ ρ S Ha H v u a b ca cb d c} Q R V U' e k => by
  unfold powD at e
  split at e
  · obtain ⟨h, e⟩ := grd_some e
    · cases e
      exact ⟨_, _, V.int, U'.int, h.h, k H _ (Ex.refl H) rfl⟩
  · cases e⟩
theorem de_pow (ha : DE X a f) (hb : DE X b g) : DE X (.BinOp a .Pow b pos) (ev2 powD f g) := de_op op_pow o_pow ha hb
def shlD : D → D → Option (D × Cl)
  | .int i, .int j => grd (OkPow i j) (some (.int (i * 2 ^ j.toNat), .cl))
  | _, _ => none
theorem o_shl : Op2 (rI CPow fun i j => .int (i * 2 ^ j.toNat)) shlD := ⟨fun {γ O σ ρ S Ha H v u a b ca cb d c} Q R V U' e k => by
  unfold shlD at e
  split at e
  · obtain ⟨h, e⟩ := grd_some e
    · cases e
      exact ⟨_, _, V.int, U'.int, h.h, k H _ (Ex.refl H) rfl⟩
  · cases e⟩
theorem de_shl (ha : DE X a f) (hb : DE X b g) : DE X (.BinOp a .LShift b pos) (ev2 shlD f g) := de_op op_shl o_shl ha hb
def negD : D → Option (D × Cl)
  | .int i => some (.int (-i), .cl)
  | _ => none
theorem o_neg : Op1 (rU fun i => .int (-i)) negD := ⟨fun {γ O σ ρ S Ha H v a ca d c} Q R V e k => by
  unfold negD at e
  split at e
  · cases e
    exact ⟨_, V.int, k H _ (Ex.refl H) rfl⟩
  · cases e⟩
theorem de_neg (ha : DE X a f) : DE X (.UnaryOp .USub a pos) (ev1 negD f) := de_un un_neg o_neg ha
end

/-! ### comparisons -/
def cmpI (p : Int → Int → Bool) : D → D → Option (D × Cl)
  | .int i, .int j => some (.bool (p i j), .cl)
  | _, _ => none
theorem o_cmpI {p : Int → Int → Bool} : Op2 (rI0 fun i j => .bl (p i j)) (cmpI p) := ⟨fun {γ O σ ρ S Ha H v u a b ca cb d c} Q R V U' e k => by
  unfold cmpI at e
  split at e
  · cases e
    exact ⟨_, _, V.int, U'.int, k H _ (Ex.refl H) rfl⟩
  · cases e⟩
def eqD (a b : D) : Option (D × Cl) := grd (OkSh a ∧ OkSh b) (some (.bool (PyData.eqv a b), .cl))
def neD (a b : D) : Option (D × Cl) := grd (OkSh a ∧ OkSh b) (some (.bool (!PyData.eqv a b), .cl))
theorem o_eq {K : PySem.W.Frag} : Op2 (rEqD K) eqD := ⟨fun {γ O σ ρ S Ha H v u a b ca cb d c} Q R V U' e k => by
  unfold eqD at e
  obtain ⟨h, e⟩ := grd_some e
  · cases e
    have r1 : ∃ N, Rp γ.ad H N a v := by
      cases ca with
      | cl => exact ⟨_, V⟩
      | al => obtain ⟨p, rfl, ho, h1⟩ := V; exact ⟨γ.N, Cont.rp (fun a z => .inl z) (R.sep p ho) h1⟩
      | fr => obtain ⟨p, rfl, hn, _, _, h1⟩ := V; exact ⟨fun _ => False, Cont.rp (fun a z => z.elim) (fun z => z) h1⟩
    have r2 : ∃ N, Rp γ.ad H N b u := by
      cases cb with
      | cl => exact ⟨_, U'⟩
      | al => obtain ⟨p, rfl, ho, h1⟩ := U'; exact ⟨γ.N, Cont.rp (fun a z => .inl z) (R.sep p ho) h1⟩
      | fr => obtain ⟨p, rfl, hn, _, _, h1⟩ := U'; exact ⟨fun _ => False, Cont.rp (fun a z => z.elim) (fun z => z) h1⟩
    obtain ⟨N1, r1⟩ := r1
    obtain ⟨N2, r2⟩ := r2
    exact ⟨a, b, Rp.dp a v (SeqAt.canLay_of_shaped h.1.h) r1, Rp.dp b u (SeqAt.canLay_of_shaped h.2.h) r2, h.1.h, h.2.h, k H _ (Ex.refl H) rfl⟩⟩
theorem o_ne {K : PySem.W.Frag} : Op2 (rNeD K) neD := ⟨fun {γ O σ ρ S Ha H v u a b ca cb d c} Q R V U' e k => by
  unfold neD at e
  obtain ⟨h, e⟩ := grd_some e
  · cases e
    have q : rEqD K v u H fun z H' => True := o_eq.ok _ R V U' (show eqD a b = some (.bool (PyData.eqv a b), .cl) from grd_of h _) fun _ _ _ _ => trivial
    have r1 : ∃ N, Rp γ.ad H N a v := by
      cases ca with
      | cl => exact ⟨_, V⟩
      | al => obtain ⟨p, rfl, ho, h1⟩ := V; exact ⟨γ.N, Cont.rp (fun a z => .inl z) (R.sep p ho) h1⟩
      | fr => obtain ⟨p, rfl, hn, _, _, h1⟩ := V; exact ⟨fun _ => False, Cont.rp (fun a z => z.elim) (fun z => z) h1⟩
    have r2 : ∃ N, Rp γ.ad H N b u := by
      cases cb with
      | cl => exact ⟨_, U'⟩
      | al => obtain ⟨p, rfl, ho, h1⟩ := U'; exact ⟨γ.N, Cont.rp (fun a z => .inl z) (R.sep p ho) h1⟩
      | fr => obtain ⟨p, rfl, hn, _, _, h1⟩ := U'; exact ⟨fun _ => False, Cont.rp (fun a z => z.elim) (fun z => z) h1⟩
    obtain ⟨N1, r1⟩ := r1
    obtain ⟨N2, r2⟩ := r2
    exact ⟨a, b, Rp.dp a v (SeqAt.canLay_of_shaped h.1.h) r1, Rp.dp b u (SeqAt.canLay_of_shaped h.2.h) r2, h.1.h, h.2.h, k H _ (Ex.refl H) rfl⟩⟩
/-- == of ints, quickly -/
def flatS : D → Bool
  | .none | .bool _ | .int _ | .str _ => true
  | _ => false
def eqS : D → D → Bool
  | .none, .none => true
  | .bool a, .bool b => a == b
  | .bool a, .int b => (if a then 1 else 0) == b
  | .int a, .bool b => a == (if b then 1 else 0)
  | .int a, .int b => a == b
  | .str a, .str b => a == b
  | _, _ => false
def inD : D → D → Option (D × Cl)
  | x, .list ds => if flatS x = true ∧ ds.all flatS = true then some (.bool (ds.any fun y => eqS y x), .cl) else none
  | x, .tuple ds => if flatS x = true ∧ ds.all flatS = true then some (.bool (ds.any fun y => eqS y x), .cl) else none
  | _, _ => none
def notInD (a b : D) : Option (D × Cl) := match inD a b with
  | some (.bool k, c) => some (.bool (!k), c)
  | _ => none
theorem flatS_V {ad : Addr} {H : Hp} {N : Addr → Prop} {d : D} {v : V} (f : flatS d = true) (r : Rp ad H N d v) : flatV v = true := by
  cases d with
  | none => rw [show v = _ from r]; rfl
  | bool b => rw [show v = _ from r]; rfl
  | int b => rw [show v = _ from r]; rfl
  | str b => rw [show v = _ from r]; rfl
  | _ => cases f
theorem eqS_V {ad : Addr} {H : Hp} {N N' : Addr → Prop} {d e : D} {v u : V} (f : flatS d = true) (g : flatS e = true) (r : Rp ad H N d v) (q : Rp ad H N' e u) : eqV v u = eqS d e := by
  cases d with
  | none => cases e with
    | none => rw [show v = _ from r, show u = _ from q]; rfl
    | bool b => rw [show v = _ from r, show u = _ from q]; rfl
    | int b => rw [show v = _ from r, show u = _ from q]; rfl
    | str b => rw [show v = _ from r, show u = _ from q]; rfl
    | _ => cases g
  | bool b => cases e with
    | none => rw [show v = _ from r, show u = _ from q]; rfl
    | bool b => rw [show v = _ from r, show u = _ from q]; rfl
    | int b => rw [show v = _ from r, show u = _ from q]; rfl
    | str b => rw [show v = _ from r, show u = _ from q]; rfl
    | _ => cases g
  | int b => cases e with
    | none => rw [show v = _ from r, show u = _ from q]; rfl
    | bool b => rw [show v = _ from r, show u = _ from q]; rfl
    | int b => rw [show v = _ from r, show u = _ from q]; rfl
    | str b => rw [show v = _ from r, show u = _ from q]; rfl
    | _ => cases g
  | str b => cases e with
    | none => rw [show v = _ from r, show u = _ from q]; rfl
    | bool b => rw [show v = _ from r, show u = _ from q]; rfl
    | int b => rw [show v = _ from r, show u = _ from q]; rfl
    | str b => rw [show v = _ from r, show u = _ from q]; rfl
    | _ => cases g
  | _ => cases f
theorem all_flatV {ad : Addr} {H : Hp} {N : Addr → Prop} : ∀ {ds : List D} {vs : List V}, ds.all flatS = true → RpL ad H N ds vs → vs.all flatV = true
  | [], _, _, h => by rw [show _ = [] from h]; rfl
  | d :: ds, xs, f, h => by
    obtain ⟨v, vs, rfl, h1, h2⟩ := h
    rw [List.all_cons, Bool.and_eq_true] at f
    rw [List.all_cons, flatS_V f.1 h1, all_flatV f.2 h2]; rfl
theorem any_eqS {ad : Addr} {H : Hp} {N N' : Addr → Prop} {x : D} {u : V} (fx : flatS x = true) (q : Rp ad H N' x u) : ∀ {ds : List D} {vs : List V}, ds.all flatS = true → RpL ad H N ds vs → inV u vs = ds.any fun y => eqS y x
  | [], _, _, h => by rw [show _ = [] from h]; rfl
  | d :: ds, xs, f, h => by
    obtain ⟨v, vs, rfl, h1, h2⟩ := h
    rw [List.all_cons, Bool.and_eq_true] at f
    have ih := any_eqS fx q f.2 h2
    unfold inV at ih ⊢
    rw [List.any_cons, List.any_cons, eqS_V f.1 fx h1 q, ih]
theorem in_core {γ : G} {O : Addr → Prop} {Ha H : Hp} {v u : V} {a b : D} {ca cb : Cl} {k : D} {c : Cl} {K : PySem.W.Frag} {σ : L2.St} {ρ : Env} {S : Pick} (R : Rel γ O σ ρ S H) (V : Val γ O Ha H v a ca) (U' : Val γ O Ha H u b cb) (e : inD a b = some (k, c)) :
    c = .cl ∧ ∃ p xs, u = .ref p ∧ (SqL K H p xs ∨ SqT K H p xs) ∧ flatV v = true ∧ xs.all flatV = true ∧ k = .bool (inV v xs) := by
  have fv : flatS a = true → Rp γ.ad H (U γ O) a v := fun f => by
    cases ca with
    | cl => exact V
    | al => obtain ⟨p, rfl, ho, h1⟩ := V; cases a <;> first | exact h1.elim | cases f
    | fr => obtain ⟨p, rfl, hn, _, _, h1⟩ := V; cases a <;> first | exact h1.elim | cases f
  unfold inD at e
  split at e
  · split at e
    · rename_i h
      cases e
      obtain ⟨p, xs, rfl, hp, rp⟩ := U'.list
      exact ⟨rfl, p, xs, rfl, .inl (SqL.of hp), flatS_V h.1 (fv h.1), all_flatV h.2 rp, by rw [any_eqS h.1 (fv h.1) h.2 rp]⟩
    · cases e
  · split at e
    · rename_i h
      cases e
      obtain ⟨p, xs, rfl, hp, rp⟩ := U'.tuple
      exact ⟨rfl, p, xs, rfl, .inr (SqT.of hp), flatS_V h.1 (fv h.1), all_flatV h.2 rp, by rw [any_eqS h.1 (fv h.1) h.2 rp]⟩
    · cases e
  · cases e
theorem o_in {K : PySem.W.Frag} : Op2 (rIn K false) inD := ⟨fun {γ O σ ρ S Ha H v u a b ca cb d c} Q R V U' e k => by
  obtain ⟨rfl, p, xs, e1, e2, e3, e4, rfl⟩ := in_core (K := K) R V U' e
  exact ⟨p, xs, e1, e2, e3, e4, k H _ (Ex.refl H) rfl⟩⟩
theorem o_notIn {K : PySem.W.Frag} : Op2 (rIn K true) notInD := ⟨fun {γ O σ ρ S Ha H v u a b ca cb d c} Q R V U' e k => by
  unfold notInD at e
  split at e
  · rename_i k' c' e'
    obtain ⟨rfl, p, xs, e1, e2, e3, e4, e5⟩ := in_core (K := K) R V U' e'
    cases e5
    cases e
    exact ⟨p, xs, e1, e2, e3, e4, k H _ (Ex.refl H) rfl⟩
  · cases e⟩
section
variable {X : Cx} {a b : Expr} {pos : Pos} {f g : EvF}
theorem de_lt (ha : DE X a f) (hb : DE X b g) : DE X (.Compare a [.Lt] [b] pos) (ev2 (cmpI fun i j => decide (i < j)) f g) := de_cmp op_lt o_cmpI ha hb (nomark _)
theorem de_le (ha : DE X a f) (hb : DE X b g) : DE X (.Compare a [.LtE] [b] pos) (ev2 (cmpI fun i j => decide (i ≤ j)) f g) := de_cmp op_le o_cmpI ha hb (nomark _)
theorem de_gt (ha : DE X a f) (hb : DE X b g) : DE X (.Compare a [.Gt] [b] pos) (ev2 (cmpI fun i j => decide (j < i)) f g) := de_cmp op_gt o_cmpI ha hb (nomark _)
theorem de_ge (ha : DE X a f) (hb : DE X b g) : DE X (.Compare a [.GtE] [b] pos) (ev2 (cmpI fun i j => decide (j ≤ i)) f g) := de_cmp op_ge o_cmpI ha hb (nomark _)
theorem de_eq (hu : X.A.units + 64 < cLine) (ha : DE X a f) (hb : DE X b g) : DE X (.Compare a [.Eq] [b] pos) (ev2 eqD f g) := de_cmp (op_eqD hu) o_eq ha hb (nomark _)
theorem de_ne (hu : X.A.units + 64 < cLine) (ha : DE X a f) (hb : DE X b g) : DE X (.Compare a [.NotEq] [b] pos) (ev2 neD f g) := de_cmp (op_neD hu) o_ne ha hb (nomark _)
theorem de_in (ha : DE X a f) (hb : DE X b g) (hm : behindInMarks .In b = false := by rfl) : DE X (.Compare a [.In] [b] pos) (ev2 inD f g) := de_cmp op_in_seq o_in ha hb hm
theorem de_notIn (ha : DE X a f) (hb : DE X b g) (hm : behindInMarks .NotIn b = false := by rfl) : DE X (.Compare a [.NotIn] [b] pos) (ev2 notInD f g) := de_cmp op_notIn_seq o_notIn ha hb hm
end

/-! ### items and slices -/
def ixD : D → D → Option (D × Cl)
  | .list ds, .int i => match atI ds i with | some d => some (d, .cl) | none => none
  | .tuple ds, .int i => match atI ds i with | some d => some (d, .cl) | none => none
  | _, _ => none
theorem RpL.at {ad : Addr} {H : Hp} {N : Addr → Prop} {ds : List D} {vs : List V} {i : Int} {d : D} (h : RpL ad H N ds vs) (e : atI ds i = some d) : ∃ v, atI vs i = some v ∧ Rp ad H N d v := by
  unfold atI at e ⊢
  rw [RpL.length h]
  cases q : ixN ds.length i with
  | none => rw [q] at e; cases e
  | some j =>
    rw [q] at e
    exact RpL.get h e
theorem o_ix {K : PySem.W.Frag} : Op2 (rIx K) ixD := ⟨fun {γ O σ ρ S Ha H v u a b ca cb d c} Q R V U' e k => by
  unfold ixD at e
  split at e
  · split at e
    · rename_i q
      cases e
      obtain ⟨p, xs, rfl, hp, rp⟩ := V.list
      obtain ⟨z, hz, rz⟩ := RpL.at rp q
      exact .inl ⟨p, xs, _, z, rfl, U'.int, SqL.of hp, hz, k H z (Ex.refl H) rz⟩
    · cases e
  · split at e
    · rename_i q
      cases e
      obtain ⟨p, xs, rfl, hp, rp⟩ := V.tuple
      obtain ⟨z, hz, rz⟩ := RpL.at rp q
      exact .inr (.inl ⟨p, xs, _, z, rfl, U'.int, SqT.of hp, hz, k H z (Ex.refl H) rz⟩)
    · cases e
  · cases e⟩
theorem de_item {X : Cx} {a b : Expr} {pos : Pos} {f g : EvF} (ha : DE X a f) (hb : DE X b g) (hs : PlainIx b := by exact fun _ _ => rfl) : DE X (.Subscript a b pos) (ev2 ixD f g) := de_ix ix_seq o_ix ha hb hs

def cutD (ds : List D) (lo hi : Option Int) : List D := (ds.drop (HT.sIx ds.length 0 lo)).take (HT.sIx ds.length ds.length hi - HT.sIx ds.length 0 lo)
theorem RpL.cut {ad : Addr} {H : Hp} {N : Addr → Prop} {ds : List D} {vs : List V} {lo hi : Option Int} (h : RpL ad H N ds vs) : RpL ad H N (cutD ds lo hi) (cutV vs lo hi) := by
  unfold cutD cutV
  rw [RpL.length h]
  exact RpL.take _ (RpL.drop _ h)
def slD (d : D) (lo hi : Option Int) : Option (D × Cl) := match d with
  | .list ds => some (.list (cutD ds lo hi), .fr)
  | .tuple ds => some (.tuple (cutD ds lo hi), .cl)
  | _ => none
def evSl (f : EvF) (l u : EvO) : EvF := fun ρ S => match f ρ S with
  | some (a, _, S1) => match l ρ S1 with
    | some (lo, S2) => match u ρ S2 with
      | some (hi, S3) => match slD a lo hi with
        | some (d, c) => some (d, c, S3)
        | none => none
      | none => none
    | none => none
  | none => none
def evNoPart : EvO := fun _ S => some (none, S)
def evPart (f : EvF) : EvO := fun ρ S => match f ρ S with
  | some (.int i, _, S1) => some (some i, S1)
  | _ => none
theorem seqO {γ : G} {O : Addr → Prop} {σ : L2.St} {ρ : Env} {S S1 : Pick} {H : Hp} {f : EvO} {o : Option Int} {P : Option Int → Hp → Prop} (R : Rel γ O σ ρ S H) (ea : f ρ S = some (o, S1))
    (k : ∀ H1, Ext γ H H1 → Rel γ O σ ρ S1 H1 → (∀ p, H1 p = none → H p = none) → P o H1) : tO f σ H P :=
  ⟨γ, O, ρ, S, o, S1, R, ea, fun H1 e s => k H1 e (R.ext e s) (R.back e s)⟩
section
variable {X : Cx} {a : Expr} {lo hi : Option Expr} {pos p2 : Pos} {f : EvF} {l u : EvO}
theorem do_none : DO X none evNoPart := po_imp po_none fun σ H Q ⟨γ, O, ρ, S, o, S', R, e, q⟩ => by
  cases e
  exact q H (Ext.refl γ H) R.src
theorem do_some (ha : DE X a f) : DO X (some a) (evPart f) := po_imp (po_some ha) fun σ H Q ⟨γ, O, ρ, S, o, S', R, e, q⟩ => by
  unfold evPart at e
  split at e
  · rename_i ea
    cases e
    exact seq1 R ea fun H1 v e1 R1 b1 V => ⟨_, V.int, q H1 e1 R1.src⟩
  · cases e
theorem de_slice (ha : DE X a f) (hl : DO X lo l) (hu : DO X hi u) : DE X (.Subscript a (.Slice lo hi none p2) pos) (evSl f l u) :=
  pe_imp (pe_slice (SlR.or sl_list sl_tupA) ha hl hu) fun σ H Q ⟨γ, O, ρ, S, d, c, S', R, e, q⟩ => by
    unfold evSl at e
    split at e
    · rename_i a0 ca S1 ea
      split at e
      · rename_i lo0 S2 el
        split at e
        · rename_i hi0 S3 eu
          split at e
          · rename_i d' c' es
            cases e
            refine seq1 R ea fun H1 v e1 R1 b1 V1 => seqO R1 el fun H2 e2 R2 b2 => seqO R2 eu fun H3 e3 R3 b3 => ?_
            have V3 := (V1.ext R1 e2).ext R2 e3
            have E3 := (e1.trans e2).trans e3
            have B3 : ∀ p, H3 p = none → H p = none := fun p h => b1 p (b2 p (b3 p h))
            unfold slD at es
            split at es
            · cases es
              obtain ⟨p, xs, rfl, hp, rp⟩ := V3.list
              exact .inl ⟨p, xs, rfl, SqL.of hp, fun z hz => q _ _ (E3.trans (Ex.new hz).ext) ((Ex.new hz).src R3.src) ((R3.newL hz (RpL.cut rp)).back B3)⟩
            · cases es
              obtain ⟨p, xs, rfl, hp, rp⟩ := V3.tuple
              refine .inr ⟨p, xs, rfl, SqT.of hp, fun w => q _ _ E3 R3.src ⟨p, xs, rfl, hp, ?_⟩, fun w z hz => q _ _ (E3.trans (Ex.new hz).ext) ((Ex.new hz).src R3.src) ((R3.newT hz (RpL.cut rp)).back B3)⟩
              rename_i ds
              have hc : cutD ds lo0 hi0 = ds := by
                unfold cutD
                rw [← RpL.length rp, w.1, w.2, List.drop_zero, Nat.sub_zero, RpL.length rp]
                exact List.take_length
              rw [hc]
              exact rp
            · cases es
          · cases e
        · cases e
      · cases e
    · cases e
end
end
end FD

/-! FD4: argument lists, displays, calls, tests -/
namespace FD
open PySem PySem.Spec PyProof.Rows L2
noncomputable section

/-! ### argument lists, displays -/
def evNil : EvA := fun _ S => some ([], S)
def evCons (f : EvF) (g : EvA) : EvA := fun ρ S => match f ρ S with
  | some (d, c, S1) => match g ρ S1 with
    | some (l, S2) => some ((d, c) :: l, S2)
    | none => none
  | none => none
theorem seqA {γ : G} {O : Addr → Prop} {σ : L2.St} {ρ : Env} {S S1 : Pick} {H : Hp} {f : EvA} {l : List (D × Cl)} {P : List V → Hp → Prop} (R : Rel γ O σ ρ S H) (ea : f ρ S = some (l, S1))
    (k : ∀ H1 vs, Ext γ H H1 → Rel γ O σ ρ S1 H1 → (∀ p, H1 p = none → H p = none) → ValL γ O H H1 vs l → P vs H1) : tA f σ H P :=
  ⟨γ, O, ρ, S, l, S1, R, ea, fun H1 v e s V => k H1 v e (R.ext e s) (R.back e s) V⟩
section
variable {X : Cx} {e : Expr} {es : List Expr} {pos : Pos} {f : EvF} {g : EvA}
theorem da_nil : DA X [] evNil := pa_imp pa_nil fun σ H Q ⟨γ, O, ρ, S, l, S', R, e, q⟩ => by
  cases e
  exact q H [] (Ext.refl γ H) R.src trivial
theorem da_cons (ha : DE X e f) (hr : DA X es g) (hs : starEach (e :: es) X.env = (false, eval e X.env) :: starEach es X.env := by rfl) : DA X (e :: es) (evCons f g) :=
  pa_imp (pa_cons ha hr hs) fun σ H Q ⟨γ, O, ρ, S, l, S', R, e, q⟩ => by
    unfold evCons at e
    split at e
    · rename_i d c S1 ea
      split at e
      · rename_i l' S2 eb
        cases e
        exact seq1 R ea fun H1 v e1 R1 b1 V => seqA R1 eb fun H2 vs e2 R2 b2 W => q H2 (v :: vs) (e1.trans e2) R2.src ⟨V.ext R1 e2, ValL.back b1 W⟩
      · cases e
    · cases e
def evTup (g : EvA) : EvF := fun ρ S => match g ρ S with
  | some (l, S1) => grd (noAl l = true ∧ OkLen l.length) (some (.tuple (l.map (·.1)), .cl, S1))
  | none => none
def evLst (g : EvA) : EvF := fun ρ S => match g ρ S with
  | some (l, S1) => grd (noAl l = true ∧ OkLen l.length) (some (.list (l.map (·.1)), .fr, S1))
  | none => none
theorem de_tup {x1} (h : DA X es g) : DE X (.Tuple es x1 pos) (evTup g) := pe_imp (pe_tup h) fun σ H Q ⟨γ, O, ρ, S, d, c, S', R, e, q⟩ => by
  unfold evTup at e
  split at e
  · rename_i l S1 ea
    obtain ⟨hh, e⟩ := grd_some e
    · cases e
      refine seqA R ea fun H1 vs e1 R1 b1 W => ⟨by rw [line_eq, ValL.length W]; exact hh.2.h, fun z hz => ?_⟩
      exact q _ _ (e1.trans (Ex.new hz).ext) ((Ex.new hz).src R1.src) ((R1.newT hz (ValL.free R W hh.1)).back b1)
  · cases e
theorem de_lst (h : DA X es g) : DE X (.List es pos) (evLst g) := pe_imp (pe_lst h) fun σ H Q ⟨γ, O, ρ, S, d, c, S', R, e, q⟩ => by
  unfold evLst at e
  split at e
  · rename_i l S1 ea
    obtain ⟨hh, e⟩ := grd_some e
    · cases e
      refine seqA R ea fun H1 vs e1 R1 b1 W => ⟨by rw [line_eq, ValL.length W]; exact hh.2.h, fun z hz => ?_⟩
      exact q _ _ (e1.trans (Ex.new hz).ext) ((Ex.new hz).src R1.src) ((R1.newL hz (ValL.free R W hh.1)).back b1)
  · cases e
end

/-! ### built-in functions -/
structure CallB (r : List V → Hp → VK → Prop) (op : List D → Option (D × Cl)) : Prop where
  ok : ∀ {γ : G} {O : Addr → Prop} {σ : L2.St} {ρ : Env} {S : Pick} {Ha H : Hp} {vs : List V} {l : List (D × Cl)} {d : D} {c : Cl} (Q : VK), Rel γ O σ ρ S H → Rel γ O σ ρ S H → ValL γ O Ha H vs l → op (l.map (·.1)) = some (d, c) →
    (∀ H' z, Ex H H' → Val γ O H H' z d c → Q z H') → r vs H Q
def evB (op : List D → Option (D × Cl)) (g : EvA) : EvF := fun ρ S => match g ρ S with
  | some (l, S1) => match op (l.map (·.1)) with
    | some (d, c) => some (d, c, S1)
    | none => none
  | none => none
theorem callB_run {r : List V → Hp → VK → Prop} {op : List D → Option (D × Cl)} (hb : CallB r op) {g : EvA} {σ : L2.St} {H : Hp} {Q : VK} (h : tE (evB op g) σ H Q) : tCB r (tA g) σ H Q := by
  obtain ⟨γ, O, ρ, S, d, c, S', R, e, q⟩ := h
  unfold evB at e
  split at e
  · rename_i l S1 ea
    split at e
    · rename_i d' c' eo
      cases e
      exact seqA R ea fun H1 vs e1 R1 b1 W => hb.ok Q R1 R1 W eo fun H' z ex Vz => q H' z (e1.trans ex.ext) (ex.src R1.src) (Vz.back b1)
    · cases e
  · cases e
theorem CallB.or {r r' : List V → Hp → VK → Prop} {o o' : List D → Option (D × Cl)} (h : CallB r o) (h' : CallB r' o') : CallB (fun xs H Q => r xs H Q ∨ r' xs H Q) (fun a => match o a with | some z => some z | none => o' a) := ⟨fun Q R R2 W e k => by
  split at e
  · rename_i z ez
    exact .inl (h.ok Q R R2 W (ez.trans e) k)
  · exact .inr (h'.ok Q R R2 W e k)⟩
theorem valL1 {γ : G} {O : Addr → Prop} {Ha H : Hp} {vs : List V} {l : List (D × Cl)} {d : D} (W : ValL γ O Ha H vs l) (e : l.map (·.1) = [d]) : ∃ v c, vs = [v] ∧ Val γ O Ha H v d c := by
  match vs, l, W, e with
  | [v], [(d', c)], W, e =>
    simp at e; subst e
    exact ⟨v, c, rfl, W.1⟩
  | [], [_], W, _ => exact W.elim
  | _ :: _ :: _, [_], W, _ => exact W.2.elim
theorem valL2 {γ : G} {O : Addr → Prop} {Ha H : Hp} {vs : List V} {l : List (D × Cl)} {d d2 : D} (W : ValL γ O Ha H vs l) (e : l.map (·.1) = [d, d2]) : ∃ v c v2 c2, vs = [v, v2] ∧ Val γ O Ha H v d c ∧ Val γ O Ha H v2 d2 c2 := by
  match vs, l, W, e with
  | [v, v2], [(d', c), (d2', c2)], W, e =>
    simp at e; obtain ⟨rfl, rfl⟩ := e
    exact ⟨v, c, v2, c2, rfl, W.1, W.2.1⟩
  | [], [_, _], W, _ => exact W.elim
  | [_], [_, _], W, _ => exact W.2.elim
  | _ :: _ :: _ :: _, [_, _], W, _ => exact W.2.2.elim

def lenD : List D → Option (D × Cl)
  | [.list ds] => some (.int ds.length, .cl)
  | [.tuple ds] => some (.int ds.length, .cl)
  | _ => none
theorem b_len {K : PySem.W.Frag} : CallB (fun xs H Q => ∃ p ys, xs = [.ref p] ∧ (SqL K H p ys ∨ SqT K H p ys) ∧ Q (.int ys.length) H) lenD := ⟨fun {γ O σ ρ S Ha H vs l d c} Q R _ W e k => by
  unfold lenD at e
  split at e
  · rename_i ds el
    cases e
    obtain ⟨v, c, rfl, V⟩ := valL1 W el
    obtain ⟨p, xs, rfl, hp, rp⟩ := V.list
    exact ⟨p, xs, rfl, .inl (SqL.of hp), k H _ (Ex.refl H) (by rw [RpL.length rp]; rfl)⟩
  · rename_i ds el
    cases e
    obtain ⟨v, c, rfl, V⟩ := valL1 W el
    obtain ⟨p, xs, rfl, hp, rp⟩ := V.tuple
    exact ⟨p, xs, rfl, .inr (SqT.of hp), k H _ (Ex.refl H) (by rw [RpL.length rp]; rfl)⟩
  · cases e⟩
def absD : List D → Option (D × Cl)
  | [.int i] => some (.int (if i < 0 then -i else i), .cl)
  | _ => none
theorem b_abs : CallB (fun xs H Q => ∃ i, xs = [.int i] ∧ Q (.int (if i < 0 then -i else i)) H) absD := ⟨fun {γ O σ ρ S Ha H vs l d c} Q R _ W e k => by
  unfold absD at e
  split at e
  · rename_i i el
    cases e
    obtain ⟨v, c, rfl, V⟩ := valL1 W el
    exact ⟨i, by rw [V.int], k H _ (Ex.refl H) rfl⟩
  · cases e⟩
def intD : List D → Option (D × Cl)
  | [.int i] => some (.int i, .cl)
  | [.bool b] => some (.int (if b then 1 else 0), .cl)
  | _ => none
theorem b_int : CallB (fun xs H Q => (∃ i, xs = [.int i] ∧ Q (.int i) H) ∨ ∃ k, xs = [.bl k] ∧ Q (.int (if k then 1 else 0)) H) intD := ⟨fun {γ O σ ρ S Ha H vs l d c} Q R _ W e k => by
  unfold intD at e
  split at e
  · rename_i i el
    cases e
    obtain ⟨v, c, rfl, V⟩ := valL1 W el
    exact .inl ⟨i, by rw [V.int], k H _ (Ex.refl H) rfl⟩
  · rename_i i el
    cases e
    obtain ⟨v, c, rfl, V⟩ := valL1 W el
    exact .inr ⟨i, by rw [V.bool], k H _ (Ex.refl H) rfl⟩
  · cases e⟩
def tupleD : List D → Option (D × Cl)
  | [.list ds] => some (.tuple ds, .cl)
  | [.tuple ds] => some (.tuple ds, .cl)
  | _ => none
theorem b_tuple {K : PySem.W.Frag} : CallB (fun xs H Q => ∃ p ys, xs = [.ref p] ∧ ((SqL K H p ys ∧ ∀ l, H l = none → Q (.ref l) (upd H l (.tup ys))) ∨ (SqT K H p ys ∧ Q (.ref p) H))) tupleD := ⟨fun {γ O σ ρ S Ha H vs l d c} Q R _ W e k => by
  unfold tupleD at e
  split at e
  · rename_i ds el
    cases e
    obtain ⟨v, c, rfl, V⟩ := valL1 W el
    obtain ⟨p, xs, rfl, hp, rp⟩ := V.list
    exact ⟨p, xs, rfl, .inl ⟨SqL.of hp, fun z hz => k _ _ (Ex.new hz) (R.newT hz rp)⟩⟩
  · rename_i ds el
    cases e
    obtain ⟨v, c, rfl, V⟩ := valL1 W el
    obtain ⟨p, xs, rfl, hp, rp⟩ := V.tuple
    exact ⟨p, xs, rfl, .inr ⟨SqT.of hp, k H _ (Ex.refl H) ⟨p, xs, rfl, hp, rp⟩⟩⟩
  · cases e⟩
def listD : List D → Option (D × Cl)
  | [.list ds] => some (.list ds, .fr)
  | [.tuple ds] => some (.list ds, .fr)
  | _ => none
theorem b_list {K : PySem.W.Frag} : CallB (fun xs H Q => ∃ p ys, xs = [.ref p] ∧ (SqL K H p ys ∨ SqT K H p ys) ∧ ∀ l, H l = none → Q (.ref l) (upd H l (.lst ys))) listD := ⟨fun {γ O σ ρ S Ha H vs l d c} Q R _ W e k => by
  unfold listD at e
  split at e
  · rename_i ds el
    cases e
    obtain ⟨v, c, rfl, V⟩ := valL1 W el
    obtain ⟨p, xs, rfl, hp, rp⟩ := V.list
    exact ⟨p, xs, rfl, .inl (SqL.of hp), fun z hz => k _ _ (Ex.new hz) (R.newL hz rp)⟩
  · rename_i ds el
    cases e
    obtain ⟨v, c, rfl, V⟩ := valL1 W el
    obtain ⟨p, xs, rfl, hp, rp⟩ := V.tuple
    exact ⟨p, xs, rfl, .inr (SqT.of hp), fun z hz => k _ _ (Ex.new hz) (R.newL hz rp)⟩
  · cases e⟩
def toInts : List D → Option (List Int)
  | [] => some []
  | .int i :: r => (toInts r).map (i :: ·)
  | _ => none
theorem toInts_eq : ∀ {ds : List D} {ns : List Int}, toInts ds = some ns → ds = ns.map PyData.int
  | [], ns, e => by cases e; rfl
  | d :: r, ns, e => by
    cases d with
    | int i =>
      have e' : (toInts r).map (i :: ·) = some ns := e
      cases hq : toInts r with
      | none => rw [hq] at e'; cases e'
      | some ms =>
        rw [hq] at e'
        cases e'
        rw [toInts_eq hq]; rfl
    | _ => cases e
theorem toInts_map : ∀ ns : List Int, toInts (ns.map PyData.int) = some ns
  | [] => rfl
  | n :: ns => by
    show (toInts (ns.map PyData.int)).map (n :: ·) = _
    rw [toInts_map ns]; rfl
def toBools : List D → Option (List Bool)
  | [] => some []
  | .bool i :: r => (toBools r).map (i :: ·)
  | _ => none
theorem toBools_eq : ∀ {ds : List D} {ns : List Bool}, toBools ds = some ns → ds = ns.map PyData.bool
  | [], ns, e => by cases e; rfl
  | d :: r, ns, e => by
    cases d with
    | bool i =>
      have e' : (toBools r).map (i :: ·) = some ns := e
      cases hq : toBools r with
      | none => rw [hq] at e'; cases e'
      | some ms =>
        rw [hq] at e'
        cases e'
        rw [toBools_eq hq]; rfl
    | _ => cases e
theorem toBools_map : ∀ ns : List Bool, toBools (ns.map PyData.bool) = some ns
  | [] => rfl
  | n :: ns => by
    show (toBools (ns.map PyData.bool)).map (n :: ·) = _
    rw [toBools_map ns]; rfl
def sumD : List D → Option (D × Cl)
  | [.list ds] => match toInts ds with | some ns => some (.int ns.sum, .cl) | none => none
  | _ => none
theorem b_sum {K : PySem.W.Frag} : CallB (rSum K) sumD := ⟨fun {γ O σ ρ S Ha H vs l d c} Q R _ W e k => by
  unfold sumD at e
  split at e
  · rename_i ds el
    split at e
    · rename_i ns en
      cases e
      obtain ⟨v, c, rfl, V⟩ := valL1 W el
      obtain ⟨p, xs, rfl, hp, rp⟩ := V.list
      rw [toInts_eq en] at rp
      rw [RpL.ints rp] at hp
      exact ⟨p, ns, rfl, SqL.of hp, k H _ (Ex.refl H) rfl⟩
    · cases e
  · cases e⟩
def anyD : List D → Option (D × Cl)
  | [.list ds] => match toBools ds with | some ns => some (.bool (ns.any id), .cl) | none => none
  | _ => none
theorem b_any {K : PySem.W.Frag} : CallB (rAny K) anyD := ⟨fun {γ O σ ρ S Ha H vs l d c} Q R _ W e k => by
  unfold anyD at e
  split at e
  · rename_i ds el
    split at e
    · rename_i ns en
      cases e
      obtain ⟨v, c, rfl, V⟩ := valL1 W el
      obtain ⟨p, xs, rfl, hp, rp⟩ := V.list
      rw [toBools_eq en] at rp
      rw [RpL.bools rp] at hp
      exact ⟨p, ns, rfl, SqL.of hp, k H _ (Ex.refl H) rfl⟩
    · cases e
  · cases e⟩
def allD : List D → Option (D × Cl)
  | [.list ds] => match toBools ds with | some ns => some (.bool (ns.all id), .cl) | none => none
  | _ => none
theorem b_all {K : PySem.W.Frag} : CallB (rAll K) allD := ⟨fun {γ O σ ρ S Ha H vs l d c} Q R _ W e k => by
  unfold allD at e
  split at e
  · rename_i ds el
    split at e
    · rename_i ns en
      cases e
      obtain ⟨v, c, rfl, V⟩ := valL1 W el
      obtain ⟨p, xs, rfl, hp, rp⟩ := V.list
      rw [toBools_eq en] at rp
      rw [RpL.bools rp] at hp
      exact ⟨p, ns, rfl, SqL.of hp, k H _ (Ex.refl H) rfl⟩
    · cases e
  · cases e⟩
def max2D : List D → Option (D × Cl)
  | [.int i, .int j] => some (.int (if j > i then j else i), .cl)
  | _ => none
theorem b_max2 : CallB (fun xs H Q => ∃ i j, xs = [.int i, .int j] ∧ Q (.int (if j > i then j else i)) H) max2D := ⟨fun {γ O σ ρ S Ha H vs l d c} Q R _ W e k => by
  unfold max2D at e
  split at e
  · rename_i i j el
    cases e
    obtain ⟨v, c, v2, c2, rfl, V, V2⟩ := valL2 W el
    exact ⟨i, j, by rw [V.int, V2.int], k H _ (Ex.refl H) rfl⟩
  · cases e⟩
def min2D : List D → Option (D × Cl)
  | [.int i, .int j] => some (.int (if j < i then j else i), .cl)
  | _ => none
theorem b_min2 : CallB (fun xs H Q => ∃ i j, xs = [.int i, .int j] ∧ Q (.int (if j < i then j else i)) H) min2D := ⟨fun {γ O σ ρ S Ha H vs l d c} Q R _ W e k => by
  unfold min2D at e
  split at e
  · rename_i i j el
    cases e
    obtain ⟨v, c, v2, c2, rfl, V, V2⟩ := valL2 W el
    exact ⟨i, j, by rw [V.int, V2.int], k H _ (Ex.refl H) rfl⟩
  · cases e⟩
def maxI : Int → List Int → Int
  | m, [] => m
  | m, n :: r => maxI (if m < n then n else m) r
def minI : Int → List Int → Int
  | m, [] => m
  | m, n :: r => minI (if n < m then n else m) r
theorem maxI_mem : ∀ (r : List Int) (m : Int), maxI m r ∈ m :: r
  | [], m => by simp [maxI]
  | n :: r, m => by
    have h := maxI_mem r (if m < n then n else m)
    unfold maxI
    rcases List.mem_cons.mp h with e | e
    · rw [e]
      split
      · simp
      · simp
    · simp [e]
theorem maxI_ge : ∀ (r : List Int) (m : Int), ∀ y ∈ m :: r, y ≤ maxI m r
  | [], m => by simp [maxI]
  | n :: r, m => fun y hy => by
    have h := maxI_ge r (if m < n then n else m)
    unfold maxI
    have h0 := h (if m < n then n else m) (by simp)
    rcases List.mem_cons.mp hy with rfl | hy
    · split at h0 <;> split <;> omega
    · rcases List.mem_cons.mp hy with rfl | hy
      · split at h0 <;> split <;> omega
      · exact h y (by simp [hy])
theorem minI_mem : ∀ (r : List Int) (m : Int), minI m r ∈ m :: r
  | [], m => by simp [minI]
  | n :: r, m => by
    have h := minI_mem r (if n < m then n else m)
    unfold minI
    rcases List.mem_cons.mp h with e | e
    · rw [e]
      split
      · simp
      · simp
    · simp [e]
theorem minI_le : ∀ (r : List Int) (m : Int), ∀ y ∈ m :: r, minI m r ≤ y
  | [], m => by simp [minI]
  | n :: r, m => fun y hy => by
    have h := minI_le r (if n < m then n else m)
    unfold minI
    have h0 := h (if n < m then n else m) (by simp)
    rcases List.mem_cons.mp hy with rfl | hy
    · split at h0 <;> split <;> omega
    · rcases List.mem_cons.mp hy with rfl | hy
      · split at h0 <;> split <;> omega
      · exact h y (by simp [hy])
def maxLD : List D → Option (D × Cl)
  | [.list ds] => match toInts ds with | some (n :: r) => some (.int (maxI n r), .cl) | _ => none
  | _ => none
theorem b_maxL {K : PySem.W.Frag} : CallB (rMax K) maxLD := ⟨fun {γ O σ ρ S Ha H vs l d c} Q R _ W e k => by
  unfold maxLD at e
  split at e
  · rename_i ds el
    split at e
    · rename_i n r en
      cases e
      obtain ⟨v, c, rfl, V⟩ := valL1 W el
      obtain ⟨p, xs, rfl, hp, rp⟩ := V.list
      rw [toInts_eq en] at rp
      rw [RpL.ints rp] at hp
      refine ⟨p, n :: r, rfl, SqL.of hp, by simp, fun m hm hle => ?_⟩
      have h1 : m = maxI n r := Int.le_antisymm (maxI_ge r n m hm) (hle _ (maxI_mem r n))
      rw [h1]
      exact k H _ (Ex.refl H) rfl
    · cases e
  · cases e⟩
def minLD : List D → Option (D × Cl)
  | [.list ds] => match toInts ds with | some (n :: r) => some (.int (minI n r), .cl) | _ => none
  | _ => none
theorem b_minL {K : PySem.W.Frag} : CallB (rMin K) minLD := ⟨fun {γ O σ ρ S Ha H vs l d c} Q R _ W e k => by
  unfold minLD at e
  split at e
  · rename_i ds el
    split at e
    · rename_i n r en
      cases e
      obtain ⟨v, c, rfl, V⟩ := valL1 W el
      obtain ⟨p, xs, rfl, hp, rp⟩ := V.list
      rw [toInts_eq en] at rp
      rw [RpL.ints rp] at hp
      refine ⟨p, n :: r, rfl, SqL.of hp, by simp, fun m hm hle => ?_⟩
      have h1 : m = minI n r := Int.le_antisymm (hle _ (minI_mem r n)) (minI_le r n m hm)
      rw [h1]
      exact k H _ (Ex.refl H) rfl
    · cases e
  · cases e⟩
def gcdD : List D → Option (D × Cl)
  | [.int a, .int b] => some (.int ((Nat.gcd a.natAbs b.natAbs : Nat) : Int), .cl)
  | _ => none
theorem b_gcd : CallB rGcd gcdD := ⟨fun {γ O σ ρ S Ha H vs l d c} Q R _ W e k => by
  unfold gcdD at e
  split at e
  · rename_i i j el
    cases e
    obtain ⟨v, c, v2, c2, rfl, V, V2⟩ := valL2 W el
    exact ⟨i, j, by rw [V.int, V2.int], k H _ (Ex.refl H) rfl⟩
  · cases e⟩
section
variable {X : Cx} {e : Expr} {es : List Expr} {p pos : Pos} {g : EvA}
theorem de_callB {x : Str} {id : String} {r : List V → Hp → VK → Prop} {op : List D → Option (D × Cl)} (hc : CallR X (.builtin id) r) (hb : CallB r op) (hm : X.mg x = none) (hv : bootBuiltins x = some (.builtin id)) (ha : DA X (e :: es) g) (hg : Gl X x) (hn : x ≠ "__name__") (hdb : (x == ("__debug__" : Str)) = false)
    (he : starEach (e :: es) X.env = (false, eval e X.env) :: starEach es X.env) (hpl : (backTo pos (starEach es X.env)).any (·.1) = false) : DE X (.Call (.Name x p) (e :: es) [] pos) (evB op g) := pe_imp (pe_callB hc hg hm hv ha hn hdb he hpl) fun _ _ _ h => callB_run hb h
theorem de_callTy {x : Str} {id : String} {r : List V → Hp → VK → Prop} {op : List D → Option (D × Cl)} (hc : CallR X (.type id) r) (hb : CallB r op) (hm : X.mg x = none) (hv : bootBuiltins x = some (.type id)) (ha : DA X (e :: es) g) (hg : Gl X x) (hn : x ≠ "__name__") (hdb : (x == ("__debug__" : Str)) = false)
    (he : starEach (e :: es) X.env = (false, eval e X.env) :: starEach es X.env) (hpl : (backTo pos (starEach es X.env)).any (·.1) = false) : DE X (.Call (.Name x p) (e :: es) [] pos) (evB op g) := pe_imp (pe_callTy hc hg hm hv ha hn hdb he hpl) fun _ _ _ h => callB_run hb h
end

/-! ### defs of the text -/
def spF (n : Nat) (fn : List D → Pick → Option (D × Pick)) : Sp := fun vs H Q E => ∃ (N : Addr → Prop) (ad al : Addr) (S : Pick) (ds : List D) (d : D) (S' : Pick),
  SrcAt ad al H S ∧ N ad ∧ N al ∧ (∀ a, N a → ∃ o, H a = some o ∧ notTup o) ∧ ds.length = n ∧ RpL ad H N ds vs ∧ fn ds S = some (d, S') ∧
  ∀ H' v, (∀ a o, a ≠ ad → a ≠ al → H a = some o → H' a = some o) → SrcAt ad al H' S' → Rp ad H' N d v → Q v H'
/-- the def named x keeps its word -/
def FnD (P : Program) (w : World) (K : PySem.W.Frag) (mg : Str → Option Value) (base : Heap) (k : Nat) (x : Str) (n : Nat) (fn : List D → Pick → Option (D × Pick)) : Prop :=
  ∃ (f : Addr) (fd : FuncData) (ps : List Str), FnOk P w K mg base CX0 k f fd ps (spF n fn) ∧ mg x = some (.ref f) ∧ PySem.W.keepIn K (.ref f) = true ∧ Binds K fd ps []
theorem FnD.mono {P : Program} {w : World} {K : PySem.W.Frag} {mg : Str → Option Value} {base : Heap} {k k' : Nat} {x : Str} {n : Nat} {fn : List D → Pick → Option (D × Pick)} (h : FnD P w K mg base k x n fn) (hk : k ≤ k') : FnD P w K mg base k' x n fn :=
  let ⟨f, fd, ps, F, a, b, c⟩ := h
  ⟨f, fd, ps, F.mono hk, a, b, c⟩
def evCall (fn : List D → Pick → Option (D × Pick)) (g : EvA) : EvF := fun ρ S => match g ρ S with
  | some (l, S1) => match fn (l.map (·.1)) S1 with
    | some (d, S2) => if noAl l = true ∨ flatD d = true then some (d, .cl, S2) else none
    | none => none
  | none => none
theorem RpL.len {ad : Addr} {H : Hp} {N : Addr → Prop} {ds : List D} {vs : List V} (h : RpL ad H N ds vs) : vs.length = ds.length := RpL.length h
theorem call_run {n : Nat} {fn : List D → Pick → Option (D × Pick)} {g : EvA} {σ : L2.St} {H : Hp} {Q : VK} {E : XK} (hn : ∀ ρ S l S', g ρ S = some (l, S') → l.length = n) (h : tE (evCall fn g) σ H Q) : tCall (spF n fn) [] E (tA g) σ H Q := by
  obtain ⟨γ, O, ρ, S, d, c, S', R, e, q⟩ := h
  unfold evCall at e
  split at e
  · rename_i l S1 ea
    split at e
    · rename_i d' S2 ef
      split at e
      · rename_i hf
        cases e
        refine seqA R ea fun H1 vs e1 R1 b1 W => ?_
        show spF n fn (vs ++ []) H1 Q E
        rw [List.append_nil]
        have hlen : (l.map (·.1)).length = n := by rw [List.length_map]; exact hn _ _ _ _ ea
        rcases hf with hf | hf
        · refine ⟨U γ O, γ.ad, γ.al, S1, l.map (·.1), d, S', R1.src, .inl R1.nd, .inl R1.nl, R1.dom, hlen, ValL.free R W hf, ef, fun H' v e2 s2 r => q H' v (e1.trans e2) s2 r⟩
        · refine ⟨γ.N, γ.ad, γ.al, S1, l.map (·.1), d, S', R1.src, R1.nd, R1.nl, fun a h => R1.dom a (.inl h), hlen, ValL.any R W, ef, fun H' v e2 s2 r => q H' v (e1.trans e2) s2 (Rp.flat d v hf r)⟩
      · cases e
    · cases e
  · cases e
/-- the number of arguments -/
class Arity (g : EvA) (n : outParam Nat) : Prop where
  ok : ∀ ρ S l S', g ρ S = some (l, S') → l.length = n
instance : Arity evNil 0 := ⟨fun ρ S l S' e => by cases e; rfl⟩
instance {f : EvF} {g : EvA} {n : Nat} [h : Arity g n] : Arity (evCons f g) (n + 1) := ⟨fun ρ S l S' e => by
  unfold evCons at e
  split at e
  · split at e
    · rename_i eb
      cases e
      rw [List.length_cons, h.ok _ _ _ _ eb]
    · cases e
  · cases e⟩
theorem de_call {X : Cx} {e : Expr} {es : List Expr} {p pos : Pos} {g : EvA} {x : Str} {k n : Nat} {fn : List D → Pick → Option (D × Pick)} [ar : Arity g n] (F : FnD X.prog X.w X.K X.mg X.base k x n fn) (hr : Room k X.A) (ha : DA X (e :: es) g)
    (hg : Gl X x := by rfl) (hdb : (x == ("__debug__" : Str)) = false := by decide) (he : starEach (e :: es) X.env = (false, eval e X.env) :: starEach es X.env := by rfl) (hpl : (backTo pos (starEach es X.env)).any (·.1) = false := by rfl) : DE X (.Call (.Name x p) (e :: es) [] pos) (evCall fn g) := by
  obtain ⟨f, fd, ps, F, hm, hk, hb⟩ := F
  exact pe_imp (pe_call F hr hg hm hk hb .nil pass0 ha hdb he hpl) fun _ _ _ h => call_run ar.ok h

/-! ### tests -/
def evTB (f : EvF) : EvT := fun ρ S => match f ρ S with
  | some (.bool b, _, S1) => some (b, S1)
  | _ => none
theorem tb_run {f : EvF} {σ : L2.St} {H : Hp} {Q : Bool → Hp → Prop} (h : tT (evTB f) σ H Q) : tE f σ H fun x H1 => ∃ c, x = .bl c ∧ Q c H1 := by
  obtain ⟨γ, O, ρ, S, b, S', R, e, q⟩ := h
  unfold evTB at e
  split at e
  · rename_i ea
    cases e
    exact seq1 R ea fun H1 v e1 R1 b1 V => ⟨b, V.bool, q H1 e1 R1.src⟩
  · cases e
theorem seqT {γ : G} {O : Addr → Prop} {σ : L2.St} {ρ : Env} {S S1 : Pick} {H : Hp} {f : EvT} {b : Bool} {P : Bool → Hp → Prop} (R : Rel γ O σ ρ S H) (ea : f ρ S = some (b, S1))
    (k : ∀ H1, Ext γ H H1 → Rel γ O σ ρ S1 H1 → (∀ p, H1 p = none → H p = none) → P b H1) : tT f σ H P :=
  ⟨γ, O, ρ, S, b, S1, R, ea, fun H1 e s => k H1 e (R.ext e s) (R.back e s)⟩
def evAndT (f g : EvT) : EvT := fun ρ S => match f ρ S with
  | some (true, S1) => g ρ S1
  | some (false, S1) => some (false, S1)
  | none => none
def evOrT (f g : EvT) : EvT := fun ρ S => match f ρ S with
  | some (true, S1) => some (true, S1)
  | some (false, S1) => g ρ S1
  | none => none
def evNotT (f : EvT) : EvT := fun ρ S => match f ρ S with
  | some (b, S1) => some (!b, S1)
  | none => none
theorem and_run {f g : EvT} {σ : L2.St} {H : Hp} {Q : Bool → Hp → Prop} (h : tT (evAndT f g) σ H Q) : L2.tAnd (tT f) (tT g) σ H Q := by
  obtain ⟨γ, O, ρ, S, b, S', R, e, q⟩ := h
  unfold evAndT at e
  split at e
  · rename_i S1 ea
    exact seqT R ea fun H1 e1 R1 b1 => by
      rw [if_pos rfl]
      exact seqT R1 e fun H2 e2 R2 b2 => q H2 (e1.trans e2) R2.src
  · rename_i S1 ea
    cases e
    exact seqT R ea fun H1 e1 R1 b1 => by
      rw [if_neg (fun z => by cases z)]
      exact q H1 e1 R1.src
  · cases e
theorem or_run {f g : EvT} {σ : L2.St} {H : Hp} {Q : Bool → Hp → Prop} (h : tT (evOrT f g) σ H Q) : L2.tOr (tT f) (tT g) σ H Q := by
  obtain ⟨γ, O, ρ, S, b, S', R, e, q⟩ := h
  unfold evOrT at e
  split at e
  · rename_i S1 ea
    cases e
    exact seqT R ea fun H1 e1 R1 b1 => by
      rw [if_pos rfl]
      exact q H1 e1 R1.src
  · rename_i S1 ea
    exact seqT R ea fun H1 e1 R1 b1 => by
      rw [if_neg (fun z => by cases z)]
      exact seqT R1 e fun H2 e2 R2 b2 => q H2 (e1.trans e2) R2.src
  · cases e
section
variable {X : Cx} {a b : Expr} {rest : List Expr} {pos : Pos} {f g : EvF} {s t : EvT}
theorem dt_cmp {op : CmpOp} {r : R2} {o : D → D → Option (D × Cl)} (ho : OpR X (compareOp op) r) (h2 : Op2 r o) (ha : DE X a f) (hb : DE X b g) (hm : behindInMarks op b = false) : DT X (.Compare a [op] [b] pos) (evTB (ev2 o f g)) :=
  pt_imp (pt_cmpR ho ha hb hm) fun σ H Q h => by
    obtain ⟨γ, O, ρ, S, d, c, S', R, e, q⟩ := tb_run h
    exact op2_run h2 ⟨γ, O, ρ, S, d, c, S', R, e, q⟩
theorem dt_lt (ha : DE X a f) (hb : DE X b g) : DT X (.Compare a [.Lt] [b] pos) (evTB (ev2 (cmpI fun i j => decide (i < j)) f g)) := dt_cmp op_lt o_cmpI ha hb (nomark _)
theorem dt_le (ha : DE X a f) (hb : DE X b g) : DT X (.Compare a [.LtE] [b] pos) (evTB (ev2 (cmpI fun i j => decide (i ≤ j)) f g)) := dt_cmp op_le o_cmpI ha hb (nomark _)
theorem dt_gt (ha : DE X a f) (hb : DE X b g) : DT X (.Compare a [.Gt] [b] pos) (evTB (ev2 (cmpI fun i j => decide (j < i)) f g)) := dt_cmp op_gt o_cmpI ha hb (nomark _)
theorem dt_ge (ha : DE X a f) (hb : DE X b g) : DT X (.Compare a [.GtE] [b] pos) (evTB (ev2 (cmpI fun i j => decide (j ≤ i)) f g)) := dt_cmp op_ge o_cmpI ha hb (nomark _)
theorem dt_eq (hu : X.A.units + 64 < cLine) (ha : DE X a f) (hb : DE X b g) : DT X (.Compare a [.Eq] [b] pos) (evTB (ev2 eqD f g)) := dt_cmp (op_eqD hu) o_eq ha hb (nomark _)
theorem dt_ne (hu : X.A.units + 64 < cLine) (ha : DE X a f) (hb : DE X b g) : DT X (.Compare a [.NotEq] [b] pos) (evTB (ev2 neD f g)) := dt_cmp (op_neD hu) o_ne ha hb (nomark _)
theorem dt_in (ha : DE X a f) (hb : DE X b g) (hm : behindInMarks .In b = false := by rfl) : DT X (.Compare a [.In] [b] pos) (evTB (ev2 inD f g)) := dt_cmp op_in_seq o_in ha hb hm
theorem dt_notIn (ha : DE X a f) (hb : DE X b g) (hm : behindInMarks .NotIn b = false := by rfl) : DT X (.Compare a [.NotIn] [b] pos) (evTB (ev2 notInD f g)) := dt_cmp op_notIn_seq o_notIn ha hb hm
/-- truth -/
def truD : D → Option Bool
  | .none => some false
  | .bool b => some b
  | .int i => some (i != 0)
  | .list ds => some (!ds.isEmpty)
  | .tuple ds => some (!ds.isEmpty)
  | _ => none
def evTru (f : EvF) : EvT := fun ρ S => match f ρ S with
  | some (d, _, S1) => match truD d with
    | some b => some (b, S1)
    | none => none
  | none => none
theorem isEmpty_rp {ad : Addr} {H : Hp} {N : Addr → Prop} {ds : List D} {vs : List V} (h : RpL ad H N ds vs) : vs.isEmpty = ds.isEmpty := by
  have := RpL.length h
  cases ds <;> cases vs <;> simp_all
theorem dt_tru (ha : DE X a f) (he : ∀ whole, isTrue a X.env whole = (do let v ← whole; standAt a.pos; holding [v] (truthy v)) := by intro _; rfl) : DT X a (evTru f) := pt_imp (pt_truth ha he) fun σ H Q ⟨γ, O, ρ, S, b, S', R, e, q⟩ => by
  unfold evTru at e
  split at e
  · rename_i d c S1 ea
    split at e
    · rename_i b' eb
      cases e
      refine seq1 R ea fun H1 v e1 R1 b1 V => ⟨b, ?_, q H1 e1 R1.src⟩
      cases d with
      | none => cases eb; rw [V.none]; rfl
      | bool k => cases eb; rw [V.bool]; rfl
      | int k => cases eb; rw [V.int]; rfl
      | list ds =>
        cases eb
        obtain ⟨p, xs, rfl, hp, rp⟩ := V.list
        exact .inl ⟨xs, SqL.of hp, by rw [isEmpty_rp rp]⟩
      | tuple ds =>
        cases eb
        obtain ⟨p, xs, rfl, hp, rp⟩ := V.tuple
        exact .inr (.inl ⟨xs, SqT.of hp, by rw [isEmpty_rp rp]⟩)
      | _ => cases eb
    · cases e
  · cases e
theorem dw_and1 (ha : DT X a s) : DW X (.BoolOp .And [a] pos) s := pw_and1 ha
theorem dw_or1 (ha : DT X a s) : DW X (.BoolOp .Or [a] pos) s := pw_or1 ha
theorem dw_and (ha : DT X a s) (hb : DW X (.BoolOp .And (b :: rest) pos) t) : DW X (.BoolOp .And (a :: b :: rest) pos) (evAndT s t) := pw_imp (pw_and ha hb) fun _ _ _ h => and_run h
theorem dw_or (ha : DT X a s) (hb : DW X (.BoolOp .Or (b :: rest) pos) t) : DW X (.BoolOp .Or (a :: b :: rest) pos) (evOrT s t) := pw_imp (pw_or ha hb) fun _ _ _ h => or_run h
theorem dt_w {e : Expr} (h : DW X e s) : DT X e s := h.pt
theorem dt_not (ha : DT X a s) : DT X (.UnaryOp .Not a pos) (evNotT s) := pt_imp (pt_not ha) fun σ H Q ⟨γ, O, ρ, S, b, S', R, e, q⟩ => by
  unfold evNotT at e
  split at e
  · rename_i b' S1 ea
    cases e
    exact seqT R ea fun H1 e1 R1 b1 => q H1 e1 R1.src
  · cases e
/-! and, or, not as values -/
def evAndV (f g : EvF) : EvF := fun ρ S => match f ρ S with
  | some (.bool true, _, S1) => g ρ S1
  | some (.bool false, _, S1) => some (.bool false, .cl, S1)
  | _ => none
def evOrV (f g : EvF) : EvF := fun ρ S => match f ρ S with
  | some (.bool true, _, S1) => some (.bool true, .cl, S1)
  | some (.bool false, _, S1) => g ρ S1
  | _ => none
def notD : D → Option (D × Cl)
  | .bool b => some (.bool (!b), .cl)
  | _ => none
theorem de_one {op} (h : DE X a f) : DE X (.BoolOp op [a] pos) f := pe_one h
theorem de_and (ha : DE X a f) (hb : DE X (.BoolOp .And (b :: rest) pos) g) : DE X (.BoolOp .And (a :: b :: rest) pos) (evAndV f g) := pe_imp (pe_and ha hb) fun σ H Q ⟨γ, O, ρ, S, d, c, S', R, e, q⟩ => by
  unfold evAndV at e
  split at e
  · rename_i ea
    exact seq1 R ea fun H1 v e1 R1 b1 V => ⟨true, V.bool, by
      rw [if_pos rfl]
      exact seq1 R1 e fun H2 u e2 R2 b2 V2 => q H2 u (e1.trans e2) R2.src (V2.back b1)⟩
  · rename_i ea
    cases e
    exact seq1 R ea fun H1 v e1 R1 b1 V => ⟨false, V.bool, by
      rw [if_neg (fun z => by cases z)]
      exact q H1 _ e1 R1.src rfl⟩
  · cases e
theorem de_or (ha : DE X a f) (hb : DE X (.BoolOp .Or (b :: rest) pos) g) : DE X (.BoolOp .Or (a :: b :: rest) pos) (evOrV f g) := pe_imp (pe_or ha hb) fun σ H Q ⟨γ, O, ρ, S, d, c, S', R, e, q⟩ => by
  unfold evOrV at e
  split at e
  · rename_i ea
    cases e
    exact seq1 R ea fun H1 v e1 R1 b1 V => ⟨true, V.bool, by
      rw [if_pos rfl]
      exact q H1 _ e1 R1.src rfl⟩
  · rename_i ea
    exact seq1 R ea fun H1 v e1 R1 b1 V => ⟨false, V.bool, by
      rw [if_neg (fun z => by cases z)]
      exact seq1 R1 e fun H2 u e2 R2 b2 V2 => q H2 u (e1.trans e2) R2.src (V2.back b1)⟩
  · cases e
theorem de_not (ha : DE X a f) : DE X (.UnaryOp .Not a pos) (ev1 notD f) := pe_imp (pe_not ha) fun σ H Q ⟨γ, O, ρ, S, d, c, S', R, e, q⟩ => by
  unfold ev1 at e
  split at e
  · rename_i a' ca S1 ea
    split at e
    · rename_i d' c' eo
      cases e
      unfold notD at eo
      split at eo
      · cases eo
        exact seq1 R ea fun H1 v e1 R1 b1 V => ⟨_, V.bool, q H1 _ e1 R1.src rfl⟩
      · cases eo
    · cases e
  · cases e
def evIf (t : EvT) (f g : EvF) : EvF := fun ρ S => match t ρ S with
  | some (true, S1) => f ρ S1
  | some (false, S1) => g ρ S1
  | none => none
theorem de_if {c : Expr} (hc : DT X c s) (ha : DE X a f) (hb : DE X b g) : DE X (.IfExp c a b pos) (evIf s f g) := pe_imp (pe_ifExp hc ha hb) fun σ H Q ⟨γ, O, ρ, S, d, c, S', R, e, q⟩ => by
  unfold evIf at e
  split at e
  · rename_i S1 ea
    exact seqT R ea fun H1 e1 R1 b1 => by
      rw [if_pos rfl]
      exact seq1 R1 e fun H2 u e2 R2 b2 V2 => q H2 u (e1.trans e2) R2.src (V2.back b1)
  · rename_i S1 ea
    exact seqT R ea fun H1 e1 R1 b1 => by
      rw [if_neg (fun z => by cases z)]
      exact seq1 R1 e fun H2 u e2 R2 b2 V2 => q H2 u (e1.trans e2) R2.src (V2.back b1)
  · cases e
/-! is None -/
def isNoneD : D → Bool
  | .none => true
  | _ => false
def isND (a b : D) : Option (D × Cl) := match b with
  | .none => some (.bool (isNoneD a), .cl)
  | _ => none
def isNotND (a b : D) : Option (D × Cl) := match b with
  | .none => some (.bool (!(isNoneD a)), .cl)
  | _ => none
end
theorem val_non {γ : G} {O : Addr → Prop} {Ha H : Hp} {v : V} {a : D} {c : Cl} (V : Val γ O Ha H v a c) : decide (v = .non) = (isNoneD a) := by
  cases c with
  | cl =>
    cases a with
    | none => rw [show v = _ from V]; rfl
    | bool b => rw [show v = _ from V]; rfl
    | int b => rw [show v = _ from V]; rfl
    | str b => rw [show v = _ from V]; rfl
    | list b => obtain ⟨p, xs, rfl, _⟩ := V.list; rfl
    | tuple b => obtain ⟨p, xs, rfl, _⟩ := V.tuple; rfl
    | dict b => rcases V with ⟨_, rfl⟩ | ⟨p, ys, rfl, _⟩ <;> rfl
  | al => obtain ⟨p, rfl, _, h⟩ := V; cases a <;> first | rfl | exact h.elim
  | fr => obtain ⟨p, rfl, _, _, _, h⟩ := V; cases a <;> first | rfl | exact h.elim
theorem o_isN : Op2 (fun x y H Q => y = .non ∧ Q (.bl (decide (x = .non))) H) isND := ⟨fun {γ O σ ρ S Ha H v u a b ca cb d c} Q R V U' e k => by
  unfold isND at e
  split at e
  · cases e
    exact ⟨U'.none, k H _ (Ex.refl H) (by rw [val_non V]; rfl)⟩
  · cases e⟩
theorem o_isNotN : Op2 (fun x y H Q => y = .non ∧ Q (.bl (!decide (x = .non))) H) isNotND := ⟨fun {γ O σ ρ S Ha H v u a b ca cb d c} Q R V U' e k => by
  unfold isNotND at e
  split at e
  · cases e
    exact ⟨U'.none, k H _ (Ex.refl H) (by rw [val_non V]; rfl)⟩
  · cases e⟩
section
variable {X : Cx} {a b : Expr} {pos : Pos} {f g : EvF}
theorem de_isN (ha : DE X a f) (hb : DE X b g) : DE X (.Compare a [.Is] [b] pos) (ev2 isND f g) := de_cmp op_isN o_isN ha hb (nomark _)
theorem de_isNotN (ha : DE X a f) (hb : DE X b g) : DE X (.Compare a [.IsNot] [b] pos) (ev2 isNotND f g) := de_cmp op_notN o_isNotN ha hb (nomark _)
theorem dt_isN (ha : DE X a f) (hb : DE X b g) : DT X (.Compare a [.Is] [b] pos) (evTB (ev2 isND f g)) := dt_cmp op_isN o_isN ha hb (nomark _)
theorem dt_isNotN (ha : DE X a f) (hb : DE X b g) : DT X (.Compare a [.IsNot] [b] pos) (evTB (ev2 isNotND f g)) := dt_cmp op_notN o_isNotN ha hb (nomark _)
end
end
end FD

/-! FD5: slots set, statements, loops, comprehensions -/
namespace FD
open PySem PySem.Spec PyProof.Rows L2

inductive Fl where
  | nx (ρ : Env) | rt (d : D) | bk (ρ : Env) | ct (ρ : Env)
abbrev ExF := Env → Pick → Option (Fl × Pick)

structure RetOk (γ : G) (H' : Hp) (v : V) (d : D) (S' : Pick) : Prop where
  base : ∀ a o, a ≠ γ.ad → a ≠ γ.al → γ.H0 a = some o → H' a = some o
  src : SrcAt γ.ad γ.al H' S'
  val : Rp γ.ad H' γ.N d v
def endOk (γ : G) (E : Ends) (S' : Pick) : Fl → Prop
  | .nx ρ' => ∀ σ' H' O', Rel γ O' σ' ρ' S' H' → E.nx σ' H'
  | .rt d => ∀ H' v, RetOk γ H' v d S' → E.rt v H'
  | .bk ρ' => ∀ σ' H' O', Rel γ O' σ' ρ' S' H' → E.bk σ' H'
  | .ct ρ' => ∀ σ' H' O', Rel γ O' σ' ρ' S' H' → E.ct σ' H'
def tS (F : ExF) : TS := fun E σ H => ∃ (γ : G) (O : Addr → Prop) (ρ : Env) (S : Pick) (fl : Fl) (S' : Pick), Rel γ O σ ρ S H ∧ F ρ S = some (fl, S') ∧ endOk γ E S' fl
abbrev DS (X : Cx) (s : Stmt) (F : ExF) : Prop := PS X s (tS F)
abbrev DSs (X : Cx) (s : List Stmt) (F : ExF) : Prop := PSs X s (tS F)
theorem ps_imp {X : Cx} {s : Stmt} {t u : TS} (p : PS X s t) (h : ∀ E σ H, u E σ H → t E σ H) : PS X s u := ⟨fun pins s σ H E I q => p.run pins s σ H E I (h E σ H q)⟩
theorem pss_imp {X : Cx} {s : List Stmt} {t u : TS} (p : PSs X s t) (h : ∀ E σ H, u E σ H → t E σ H) : PSs X s u := ⟨fun pins s σ H E I q => p.run pins s σ H E I (h E σ H q)⟩

def exSeq (F G : ExF) : ExF := fun ρ S => match F ρ S with
  | some (.nx ρ', S1) => G ρ' S1
  | r => r
def exNil : ExF := fun ρ S => some (.nx ρ, S)
section
variable {X : Cx} {st : Stmt} {sts : List Stmt} {F F' : ExF} {pos : Pos}
theorem dss_nil : DSs X [] exNil := pss_imp pss_nil fun E σ H ⟨γ, O, ρ, S, fl, S', R, e, q⟩ => by
  cases e
  exact q σ H O R
theorem dss_cons (h : DS X st F) (h' : DSs X sts F') : DSs X (st :: sts) (exSeq F F') := pss_imp (pss_cons h h') fun E σ H ⟨γ, O, ρ, S, fl, S', R, e, q⟩ => by
  unfold exSeq at e
  split at e
  · rename_i ρ' S1 ea
    exact ⟨γ, O, ρ, S, .nx ρ', S1, R, ea, fun σ' H' O' R' => ⟨γ, O', ρ', S1, fl, S', R', e, q⟩⟩
  · rename_i r hr
    refine ⟨γ, O, ρ, S, fl, S', R, e, ?_⟩
    cases fl with
    | nx ρ' => exact (hr _ _ e).elim
    | rt d => exact q
    | bk ρ' => exact q
    | ct ρ' => exact q
theorem dss_one (h : DS X st F) : DSs X [st] F := pss_imp (pss_one h) fun _ _ _ q => q
end

/-! ### slots -/
section
variable {γ : G} {O : Addr → Prop} {σ : L2.St} {ρ : Env} {S S1 : Pick} {H H1 : Hp} {v : V} {d : D} {c : Cl} {i : Nat}
def slotOf : Cl → D → Slot
  | .cl, d => .val d
  | _, d => .own d
theorem get_set {α : Type} (l : List α) (i j : Nat) (x : α) : (l.set i x)[j]? = if i = j then (if i < l.length then some x else none) else l[j]? := by
  by_cases h : i = j
  · subst h
    rw [if_pos rfl]
    by_cases hl : i < l.length
    · rw [if_pos hl, List.getElem?_set_self hl]
    · rw [if_neg hl, List.getElem?_eq_none]
      simpa using hl
  · rw [if_neg h, List.getElem?_set_ne h]
theorem SlotOk.set {H : Hp} {O : Addr → Prop} {s : Slot} {x : Option V} (hσ : ρ.length = σ.length) (h : ∀ j : Nat, SlotOk γ O H (ρ[j]?) (σ[j]?)) (hs : SlotOk γ O H (some s) (some x)) : ∀ j : Nat, SlotOk γ O H ((ρ.set i s)[j]?) ((σ.set i x)[j]?) := fun j => by
  rw [get_set, get_set]
  by_cases e : i = j
  · rw [if_pos e, if_pos e]
    by_cases hl : i < ρ.length
    · rw [if_pos hl, if_pos (hσ ▸ hl)]; exact hs
    · rw [if_neg hl]; trivial
  · rw [if_neg e, if_neg e]; exact h j
theorem Rel.setVal (R : Rel γ O σ ρ S H) (r : Rp γ.ad H (U γ O) d v) : Rel γ O (σ.set i (some v)) (ρ.set i (.val d)) S H where
  src := R.src
  nd := R.nd
  nl := R.nl
  dom := R.dom
  sep := R.sep
  base := R.base
  new := R.new
  len := by rw [List.length_set, List.length_set, R.len]
  sl := SlotOk.set R.len R.sl ⟨v, rfl, r⟩
  inj := fun a b p d' e h1 h2 h3 h4 => by
    rw [get_set] at h1 h2 h3 h4
    by_cases e1 : i = a
    · rw [if_pos e1] at h1
      split at h1 <;> cases h1
    · by_cases e2 : i = b
      · rw [if_pos e2] at h2
        split at h2 <;> cases h2
      · rw [if_neg e1] at h1 h3
        rw [if_neg e2] at h2 h4
        exact R.inj a b p d' e h1 h2 h3 h4
theorem Cont.some {ad : Addr} {N : Addr → Prop} {p : Addr} (h : Cont ad H N d p) : ∃ o, H p = some o ∧ notTup o := by
  cases d with
  | list ds => obtain ⟨xs, h1, _⟩ := h; exact ⟨_, h1, trivial⟩
  | dict ds => obtain ⟨xs, h1, _⟩ := h; exact ⟨_, h1, trivial⟩
  | _ => exact h.elim
/-- a larger set of own addresses, all new -/
theorem Rel.grow (R : Rel γ O σ ρ S H) (e : Ext γ H H1) (s : SrcAt γ.ad γ.al H1 S1) {p : Addr} (hp : H p = none) (hs : ∃ o, H1 p = some o ∧ notTup o) : Rel γ (fun a => O a ∨ a = p) σ ρ S1 H1 := by
  have R1 := R.ext e s
  obtain ⟨n1, n2, n3⟩ := R.fresh hp
  have k : Kp (U γ O) (U γ fun a => O a ∨ a = p) H H1 := ⟨(R.kp e).t, fun a xs hn h => ⟨((R.kp e).l a xs hn h).1, fun z => by
      rcases z with z | z | z
      · exact hn (.inl z)
      · exact hn (.inr z)
      · rw [z, hp] at h; cases h⟩, fun a xs hn h => ⟨((R.kp e).d a xs hn h).1, fun z => by
      rcases z with z | z | z
      · exact hn (.inl z)
      · exact hn (.inr z)
      · rw [z, hp] at h; cases h⟩⟩
  refine ⟨s, R.nd, R.nl, fun a z => ?_, fun a z => ?_, R1.base, fun a z => ?_, R.len, fun j => ?_, R.inj⟩
  · rcases z with z | z | z
    · exact R1.dom a (.inl z)
    · exact R1.dom a (.inr z)
    · rw [z]; exact hs
  · rcases z with z | z
    · exact R.sep a z
    · rw [z]; exact fun q => n3 (.inl q)
  · rcases z with z | z
    · exact R.new a z
    · rw [z]
      cases q : γ.H0 p with
      | none => rfl
      | some o => rw [R.base p o n1 n2 q] at hp; cases hp
  · have h := R.sl j
    cases hr : ρ[j]? with
    | none => trivial
    | some sl =>
      rw [hr] at h
      cases sl with
      | un => trivial
      | val d' => obtain ⟨v', h1, h2⟩ := h; exact ⟨v', h1, Rp.kp k d' v' h2⟩
      | own d' => obtain ⟨q, h1, h2, h3⟩ := h; exact ⟨q, h1, .inl h2, Cont.kp k (fun o ho => e q o (R.one h2).1 (R.one h2).2 ho) h3⟩
theorem Rel.setOwn (R : Rel γ O σ ρ S H) (e : Ext γ H H1) (s : SrcAt γ.ad γ.al H1 S1) (V : Val γ O H H1 v d .fr) : ∃ O', Rel γ O' (σ.set i (some v)) (ρ.set i (.own d)) S1 H1 := by
  obtain ⟨p, rfl, hp, _, _, hc⟩ := V
  have R2 := R.grow e s hp hc.some
  have hn : ¬ O p := fun z => by
    obtain ⟨o, q, _⟩ := R.dom p (.inr z)
    rw [hp] at q; cases q
  have hc' : Cont γ.ad H1 (U γ fun a => O a ∨ a = p) d p := Cont.kp (H := H1) ⟨fun _ _ h => h, fun a xs hn h => ⟨h, fun z => hn (by rcases z with z | z | z; exact .inl (.inl z); exact .inl (.inr z); exact .inr z)⟩, fun a xs hn h => ⟨h, fun z => hn (by rcases z with z | z | z; exact .inl (.inl z); exact .inl (.inr z); exact .inr z)⟩⟩ (fun _ h => h) hc
  refine ⟨_, R2.src, R2.nd, R2.nl, R2.dom, R2.sep, R2.base, R2.new, by rw [List.length_set, List.length_set, R.len], SlotOk.set R.len R2.sl ⟨p, rfl, .inr rfl, hc'⟩, ?_⟩
  intro a b q d' e' h1 h2 h3 h4
  rw [get_set] at h1 h2 h3 h4
  have other : ∀ (a : Nat) (d' : D), ρ[a]? = some (.own d') → σ[a]? = some (some (.ref p)) → False := fun a d' q1 q2 => by
    have h := R.sl a
    rw [q1] at h
    obtain ⟨p', h5, h6, _⟩ := h
    rw [q2] at h5
    cases h5
    exact hn h6
  by_cases e1 : i = a
  · by_cases e2 : i = b
    · rw [← e1, ← e2]
    · rw [if_pos e1] at h1 h3
      rw [if_neg e2] at h2 h4
      split at h3
      · cases h3
        exact (other b e' h2 h4).elim
      · cases h3
  · by_cases e2 : i = b
    · rw [if_neg e1] at h1 h3
      rw [if_pos e2] at h2 h4
      split at h4
      · cases h4
        exact (other a d' h1 h3).elim
      · cases h4
    · rw [if_neg e1] at h1 h3
      rw [if_neg e2] at h2 h4
      exact R.inj a b q d' e' h1 h2 h3 h4
theorem Rel.setAny (R : Rel γ O σ ρ S H) (e : Ext γ H H1) (s : SrcAt γ.ad γ.al H1 S1) (V : Val γ O H H1 v d c) (hc : c ≠ .al) : ∃ O', Rel γ O' (σ.set i (some v)) (ρ.set i (slotOf c d)) S1 H1 := by
  cases c with
  | cl => exact ⟨O, (R.ext e s).setVal V⟩
  | fr => exact R.setOwn e s V
  | al => exact (hc rfl).elim
/-- the own container of slot i is changed -/
theorem Rel.updOwn (R : Rel γ O σ ρ S H) {p : Addr} {d' : D} {o : HO} (hi : ρ[i]? = some (.own d)) (hσ : σ[i]? = some (some (.ref p))) (ho : O p) (ht : notTup o) (hc : Cont γ.ad (upd H p o) (U γ O) d' p) : Rel γ O σ (ρ.set i (.own d')) S (upd H p o) := by
  have n1 := (R.one ho).1
  have n2 := (R.one ho).2
  obtain ⟨o0, q0, t0⟩ := R.dom p (.inr ho)
  have k : Kp (U γ O) (U γ O) H (upd H p o) := ⟨fun a xs h => by rw [upd_ne (fun z => by rw [z, q0] at h; cases h; exact t0)]; exact h,
    fun a xs hn h => ⟨by rw [upd_ne (fun z : a = p => hn (.inr (by rw [z]; exact ho)))]; exact h, hn⟩, fun a xs hn h => ⟨by rw [upd_ne (fun z : a = p => hn (.inr (by rw [z]; exact ho)))]; exact h, hn⟩⟩
  have hlen : i < ρ.length := (List.getElem?_eq_some_iff.mp hi).1
  refine ⟨⟨by rw [upd_ne n1.symm]; exact R.src.d, by rw [upd_ne n2.symm]; exact R.src.l⟩, R.nd, R.nl, fun a z => ?_, R.sep, fun a o' h1 h2 h => ?_, R.new, by rw [List.length_set, R.len], fun j => ?_, ?_⟩
  · by_cases e : a = p
    · subst e; exact ⟨o, upd_same, ht⟩
    · rw [upd_ne e]; exact R.dom a z
  · rw [upd_ne (fun z => by rw [z, R.new p ho] at h; cases h)]
    exact R.base a o' h1 h2 h
  · rw [get_set]
    by_cases e : i = j
    · rw [if_pos e, if_pos hlen, ← e, hσ]
      exact ⟨p, rfl, ho, hc⟩
    · rw [if_neg e]
      have h := R.sl j
      cases hr : ρ[j]? with
      | none => trivial
      | some sl =>
        rw [hr] at h
        cases sl with
        | un => trivial
        | val d0 => obtain ⟨v', h1, h2⟩ := h; exact ⟨v', h1, Rp.kp k d0 v' h2⟩
        | own d0 =>
          obtain ⟨q, h1, h2, h3⟩ := h
          have hq : q ≠ p := fun z => e (R.inj i j p d d0 hi hr hσ (z ▸ h1))
          exact ⟨q, h1, h2, Cont.kp k (fun o ho => by rw [upd_ne hq]; exact ho) h3⟩
  · intro a b q d1 e1 h1 h2 h3 h4
    have back : ∀ (a : Nat) (d1 : D), (ρ.set i (.own d'))[a]? = some (.own d1) → ∃ d2, ρ[a]? = some (.own d2) := fun a d1 h => by
      rw [get_set] at h
      by_cases e : i = a
      · rw [← e]; exact ⟨d, hi⟩
      · rw [if_neg e] at h; exact ⟨d1, h⟩
    obtain ⟨d3, h5⟩ := back a d1 h1
    obtain ⟨d4, h6⟩ := back b e1 h2
    exact R.inj a b q d3 d4 h5 h6 h3 h4
/-- an own container is own no more -/
theorem Rel.freeze (R : Rel γ O σ ρ S H) (hi : ρ[i]? = some (.own d)) : ∃ O', Rel γ O' σ (ρ.set i (.val d)) S H := by
  have hlen : i < ρ.length := (List.getElem?_eq_some_iff.mp hi).1
  have h0 := R.sl i
  rw [hi] at h0
  obtain ⟨p, hσ, ho, hc⟩ := h0
  have k : Kp (U γ O) (U γ fun a => O a ∧ a ≠ p) H H := ⟨fun _ _ h => h, fun a xs hn h => ⟨h, fun z => hn (by rcases z with z | z; exact .inl z; exact .inr z.1)⟩, fun a xs hn h => ⟨h, fun z => hn (by rcases z with z | z; exact .inl z; exact .inr z.1)⟩⟩
  refine ⟨fun a => O a ∧ a ≠ p, R.src, R.nd, R.nl, fun a z => R.dom a (by rcases z with z | z; exact .inl z; exact .inr z.1), fun a z => R.sep a z.1, R.base, fun a z => R.new a z.1, by rw [List.length_set, R.len], fun j => ?_, ?_⟩
  · rw [get_set]
    by_cases e : i = j
    · rw [if_pos e, if_pos hlen, ← e, hσ]
      refine ⟨_, rfl, Cont.rp (N := U γ O) (fun a z => ?_) (fun z => ?_) hc⟩
      · rcases z with z | z
        · exact .inl z
        · exact .inr z.1
      · rcases z with z | z
        · exact R.sep p ho z
        · exact z.2 rfl
    · rw [if_neg e]
      have h := R.sl j
      cases hr : ρ[j]? with
      | none => trivial
      | some sl =>
        rw [hr] at h
        cases sl with
        | un => trivial
        | val d0 => obtain ⟨v', h1, h2⟩ := h; exact ⟨v', h1, Rp.kp k d0 v' h2⟩
        | own d0 =>
          obtain ⟨q, h1, h2, h3⟩ := h
          exact ⟨q, h1, ⟨h2, fun z => e (R.inj i j p d d0 hi hr hσ (z ▸ h1))⟩, Cont.kp k (fun _ h => h) h3⟩
  · intro a b q d1 e1 h1 h2 h3 h4
    have back : ∀ (a : Nat) (d1 : D), (ρ.set i (.val d))[a]? = some (.own d1) → ρ[a]? = some (.own d1) := fun a d1 h => by
      rw [get_set] at h
      by_cases e : i = a
      · rw [if_pos e, if_pos hlen] at h; cases h
      · rw [if_neg e] at h; exact h
    exact R.inj a b q d1 e1 (back a d1 h1) (back b e1 h2) h3 h4
end

/-! ### targets -/
abbrev GvF := D → Env → Option Env
abbrev GvFs := List D → Env → Option Env
def tG (ws : List Nat) (F : GvF) : TG := fun v σ H Q => ∃ (γ : G) (O : Addr → Prop) (ρ : Env) (S : Pick) (d : D) (ρ' : Env), Rel γ O σ ρ S H ∧ Rp γ.ad H (U γ O) d v ∧ F d ρ = some ρ' ∧
  ∀ σ', σ'.length = σ.length → (∀ j : Nat, j ∉ ws → σ'[j]? = σ[j]?) → Rel γ O σ' ρ' S H → Q σ' H
def tGs (ws : List Nat) (F : GvFs) : TGs := fun vs σ H Q => ∃ (γ : G) (O : Addr → Prop) (ρ : Env) (S : Pick) (ds : List D) (ρ' : Env), Rel γ O σ ρ S H ∧ RpL γ.ad H (U γ O) ds vs ∧ F ds ρ = some ρ' ∧
  ∀ σ', σ'.length = σ.length → (∀ j : Nat, j ∉ ws → σ'[j]? = σ[j]?) → Rel γ O σ' ρ' S H → Q σ' H
abbrev DG (X : Cx) (e : Expr) (ws : List Nat) (F : GvF) : Prop := PG X e (tG ws F)
abbrev DGs (X : Cx) (es : List Expr) (ws : List Nat) (F : GvFs) : Prop := PGs X es (tGs ws F)
theorem pg_imp {X : Cx} {e : Expr} {t u : TG} (p : PG X e t) (h : ∀ v σ H Q, u v σ H Q → t v σ H Q) : PG X e u := ⟨fun pins s σ H v u Q I r q => p.run pins s σ H v u Q I r (h v σ H Q q)⟩
theorem pgs_imp {X : Cx} {e : List Expr} {t u : TGs} (p : PGs X e t) (h : ∀ v σ H Q, u v σ H Q → t v σ H Q) : PGs X e u := ⟨fun pins s σ H v u Q I r q => p.run pins s σ H v u Q I r (h v σ H Q q)⟩
def gvName (i : Nat) : GvF := fun d ρ => if i < ρ.length then some (ρ.set i (.val d)) else none
def gvTup (n : Nat) (F : GvFs) : GvF := fun d ρ => match d with
  | .tuple ds => if ds.length = n then F ds ρ else none
  | _ => none
def gvNil : GvFs := fun ds ρ => match ds with
  | [] => some ρ
  | _ => none
def gvCons (F : GvF) (Fs : GvFs) : GvFs := fun ds ρ => match ds with
  | d :: r => match F d ρ with
    | some ρ1 => Fs r ρ1
    | none => none
  | _ => none
section
variable {X : Cx} {e : Expr} {es : List Expr} {pos : Pos} {ws us : List Nat} {F : GvF} {Fs : GvFs}
theorem dg_name (i : Nat) {x : Str} (hN : X.N.Nodup) (hi : X.N[i]? = some x := by rfl) (hx : Loc X.env.scope x := by first | exact Or.inl rfl | exact Or.inr rfl) (hf : X.fn x = true ∨ X.env.scope.names.lookup x = some .local := by first | exact .inl rfl | exact .inr rfl) : DG X (.Name x pos) [i] (gvName i) :=
  pg_imp (pg_name hN hi hx hf) fun v σ H Q ⟨γ, O, ρ, S, d, ρ', R, r, e, q⟩ => by
    unfold gvName at e
    split at e
    · cases e
      refine q _ List.length_set (fun j hj => ?_) (R.setVal r)
      rw [List.getElem?_set_ne (fun z => hj (by simp [z]))]
    · cases e
theorem dgs_nil : DGs X [] [] gvNil := pgs_imp pgs_nil fun v σ H Q ⟨γ, O, ρ, S, d, ρ', R, r, e, q⟩ => by
  unfold gvNil at e
  split at e
  · cases e
    exact ⟨r, q σ rfl (fun _ _ => rfl) R⟩
  · cases e
theorem dgs_cons (h1 : DG X e ws F) (h2 : DGs X es us Fs) (hs : (assignEach (e :: es) X.env).map (·.2) = assign e X.env :: (assignEach es X.env).map (·.2) := by rfl) : DGs X (e :: es) (ws ++ us) (gvCons F Fs) :=
  pgs_imp (pgs_cons h1 h2 hs) fun v σ H Q ⟨γ, O, ρ, S, ds, ρ', R, r, e, q⟩ => by
    unfold gvCons at e
    split at e
    · rename_i d r' 
      split at e
      · rename_i ρ1 e1
        obtain ⟨v0, vs, rfl, r1, r2⟩ := r
        refine ⟨v0, vs, rfl, γ, O, ρ, S, d, ρ1, R, r1, e1, fun σ1 l1 a1 R1 => ⟨γ, O, ρ1, S, r', ρ', R1, r2, e, fun σ2 l2 a2 R2 => q σ2 (l2.trans l1) (fun j hj => ?_) R2⟩⟩
        rw [a2 j (fun z => hj (by simp [z])), a1 j (fun z => hj (by simp [z]))]
      · cases e
    · cases e
theorem dg_tup {k n : Nat} (hc : X.calm = true) (h : DGs X es ws Fs) (hn : (assignEach es X.env).length = n := by rfl) (hst : (assignEach es X.env).findIdx? (·.1) = none := by rfl) : DG X (.Tuple es k pos) ws (gvTup n Fs) :=
  pg_imp (pg_tup hc h hn hst) fun v σ H Q ⟨γ, O, ρ, S, d, ρ', R, r, e, q⟩ => by
    unfold gvTup at e
    split at e
    · split at e
      · rename_i ds hl
        obtain ⟨a, xs, rfl, h1, h2⟩ := r
        exact ⟨a, xs, rfl, SqT.of h1, by rw [RpL.length h2, hl], γ, O, ρ, S, ds, ρ', R, h2, e, q⟩
      · cases e
    · cases e
end

/-! ### small statements -/
def exSet (i : Nat) (f : EvF) : ExF := fun ρ S => match f ρ S with
  | some (d, .cl, S1) => some (.nx (ρ.set i (.val d)), S1)
  | some (d, .fr, S1) => some (.nx (ρ.set i (.own d)), S1)
  | _ => none
theorem set_run {i : Nat} {f : EvF} {E : Ends} {σ : L2.St} {H : Hp} (h : tS (exSet i f) E σ H) : tAsg (tE f) (gName i) E σ H := by
  obtain ⟨γ, O, ρ, S, fl, S', R, e, q⟩ := h
  unfold exSet at e
  split at e
  · rename_i d S1 ea
    cases e
    refine ⟨γ, O, ρ, S, d, _, _, R, ea, fun H1 v e1 s1 V => ?_⟩
    obtain ⟨O', R'⟩ := R.setAny (i := i) e1 s1 V (fun z => by cases z)
    exact q _ _ O' R'
  · rename_i d S1 ea
    cases e
    refine ⟨γ, O, ρ, S, d, _, _, R, ea, fun H1 v e1 s1 V => ?_⟩
    obtain ⟨O', R'⟩ := R.setAny (i := i) e1 s1 V (fun z => by cases z)
    exact q _ _ O' R'
  · cases e
def exAsg (f : EvF) (G : GvF) : ExF := fun ρ S => match f ρ S with
  | some (_, .al, _) => none
  | some (d, _, S1) => match G d ρ with
    | some ρ' => some (.nx ρ', S1)
    | none => none
  | none => none
/-- a, b = x, y, stored from the right -/
def exPar (i j : Nat) (f g : EvF) : ExF := fun ρ S => match f ρ S with
  | some (d, c, S1) => match g ρ S1 with
    | some (e, c', S2) => match c, c' with
      | .cl, .cl => some (.nx ((ρ.set i (.val d)).set j (.val e)), S2)
      | .fr, .cl => some (.nx ((ρ.set i (.own d)).set j (.val e)), S2)
      | .cl, .fr => some (.nx ((ρ.set i (.val d)).set j (.own e)), S2)
      | .fr, .fr => some (.nx ((ρ.set i (.own d)).set j (.own e)), S2)
      | _, _ => none
    | none => none
  | none => none
def exRet (f : EvF) : ExF := fun ρ S => match f ρ S with
  | some (d, _, S1) => some (.rt d, S1)
  | none => none
def exRetN : ExF := fun _ S => some (.rt .none, S)
def exDrop (f : EvF) : ExF := fun ρ S => match f ρ S with
  | some (_, _, S1) => some (.nx ρ, S1)
  | none => none
def exIf (t : EvT) (F G : ExF) : ExF := fun ρ S => match t ρ S with
  | some (true, S1) => F ρ S1
  | some (false, S1) => G ρ S1
  | none => none
def exBreak : ExF := fun ρ S => some (.bk ρ, S)
def exCont : ExF := fun ρ S => some (.ct ρ, S)
def exFreeze (i : Nat) : ExF := fun ρ S => match ρ[i]? with
  | some (.own d) => some (.nx (ρ.set i (.val d)), S)
  | _ => some (.nx ρ, S)
/-- a value is given out -/
theorem Val.out {γ : G} {O : Addr → Prop} {σ : L2.St} {ρ : Env} {S S1 : Pick} {H H1 : Hp} {v : V} {d : D} {c : Cl} (R : Rel γ O σ ρ S H) (e : Ext γ H H1) (s : SrcAt γ.ad γ.al H1 S1) (V : Val γ O H H1 v d c) : RetOk γ H1 v d S1 :=
  ⟨(R.ext e s).base, s, V.any R⟩
section
variable {X : Cx} {e a b : Expr} {pos : Pos} {f g : EvF} {ws : List Nat} {G : GvF} {F F' : ExF} {t : EvT} {sts sts' : List Stmt}
theorem ds_set (i : Nat) {x : Str} {pos' : Pos} (hN : X.N.Nodup) (he : DE X e f) (hi : X.N[i]? = some x := by rfl) (hx : Loc X.env.scope x := by first | exact Or.inl rfl | exact Or.inr rfl) (hs : swapsWith e (some (.Name x pos')) pos.line X.env = pure false := by rfl)
    (hf : X.fn x = true ∨ X.env.scope.names.lookup x = some .local := by first | exact .inl rfl | exact .inr rfl) : DS X (.Assign [.Name x pos'] e pos) (exSet i f) := ps_imp (ps_set hN hi hx he hs hf) fun _ _ _ h => set_run h
theorem ds_asg {tg : Expr} (he : DE X e f) (hg : DG X tg ws G) (hs : swapsWithSole [tg] e pos.line X.env = pure false := by rfl) (hw : swappedStores [tg] e X.env = pure none := by rfl) (h1 : (assignEach [tg] X.env).map (·.2) = [assign tg X.env] := by rfl) :
    DS X (.Assign [tg] e pos) (exAsg f G) := ps_imp (ps_asg he hg hs hw h1) fun E σ H ⟨γ, O, ρ, S, fl, S', R, e, q⟩ => by
  unfold exAsg at e
  split at e
  · cases e
  · rename_i d c S1 hc ea
    split at e
    · rename_i ρ' eg
      cases e
      exact seq1 R ea fun H1 v e1 R1 b1 V => ⟨γ, O, ρ, _, d, ρ', R1, V.free R hc, eg, fun σ' _ _ R' => q σ' H1 O R'⟩
    · cases e
  · cases e
theorem ds_par (i j : Nat) {x y : Str} {px py pt : Pos} {kt k2 pt2} (hc : X.calm = true) (hN : X.N.Nodup) (ha : DE X a f) (hb : DE X b g) (hi : X.N[i]? = some x := by rfl) (hj : X.N[j]? = some y := by rfl) (hij : i ≠ j := by decide)
    (hx : X.env.scope.names.lookup x = some .local := by rfl) (hy : X.env.scope.names.lookup y = some .local := by rfl)
    (hw : swappedStores [.Tuple [.Name x px, .Name y py] kt pt] (.Tuple [a, b] k2 pt2) X.env = pure (some [x, y]) := by rfl)
    (hs : swapsWithSole [.Tuple [.Name x px, .Name y py] kt pt] (.Tuple [a, b] k2 pt2) pos.line X.env = pure false := by rfl)
    (h2 : starEach [a, b] X.env = (false, eval a X.env) :: starEach [b] X.env := by rfl) (h3 : starEach [b] X.env = (false, eval b X.env) :: starEach [] X.env := by rfl) :
    DS X (.Assign [.Tuple [.Name x px, .Name y py] kt pt] (.Tuple [a, b] k2 pt2) pos) (exPar i j f g) :=
  ps_imp (ps_par hc hN hi hj hij hx hy (pa_cons ha (pa_cons hb pa_nil h3) h2) hw hs) fun E σ H ⟨γ, O, ρ, S, fl, S', R, e, q⟩ => by
    unfold exPar at e
    split at e
    · rename_i d c S1 ea
      split at e
      · rename_i d2 c2 S2 eb
        have key : ∀ (c c2 : Cl), c ≠ .al → c2 ≠ .al → f ρ S = some (d, c, S1) → g ρ S1 = some (d2, c2, S2) → (∀ σ' H' O', Rel γ O' σ' ((ρ.set i (slotOf c d)).set j (slotOf c2 d2)) S2 H' → E.nx σ' H') → tPar i j (L2.tCons (tE f) (L2.tCons (tE g) L2.tNil)) E σ H := fun c c2 hc hc2 ea eb q => by
          cases c with
          | al => exact (hc rfl).elim
          | cl =>
            refine ⟨γ, O, ρ, S, d, _, S1, R, ea, fun H1 v e1 s1 V => ?_⟩
            refine ⟨γ, O, ρ, S1, d2, _, S2, R.ext e1 s1, eb, fun H2 u e2 s2 W => ?_⟩
            have V2 : Rp γ.ad H2 (U γ O) d v := Rp.kp ((R.ext e1 s1).kp e2) d v V
            have Rv : Rel γ O (σ.set i (some v)) (ρ.set i (.val d)) S1 H1 := (R.ext e1 s1).setVal V
            obtain ⟨O', R'⟩ := Rv.setAny (i := j) e2 s2 W hc2
            exact ⟨v, u, rfl, q _ _ O' R'⟩
          | fr =>
            refine ⟨γ, O, ρ, S, d, _, S1, R, ea, fun H1 v e1 s1 V => ?_⟩
            obtain ⟨p, rfl, hp, n1, n2, hcn⟩ := id V
            have R2 := R.grow e1 s1 hp hcn.some
            refine ⟨γ, _, ρ, S1, d2, _, S2, R2, eb, fun H2 u e2 s2 W => ?_⟩
            have hR : ∃ O', Rel γ O' (σ.set i (some (.ref p))) (ρ.set i (.own d)) S1 H1 ∧ O' = fun a => O a ∨ a = p := by
              have hn : ¬ O p := fun z => by
                obtain ⟨o, q, _⟩ := R.dom p (.inr z)
                rw [hp] at q; cases q
              have hc' : Cont γ.ad H1 (U γ fun a => O a ∨ a = p) d p := Cont.kp (H := H1) ⟨fun _ _ h => h, fun a xs hn h => ⟨h, fun z => hn (by rcases z with z | z | z; exact .inl (.inl z); exact .inl (.inr z); exact .inr z)⟩, fun a xs hn h => ⟨h, fun z => hn (by rcases z with z | z | z; exact .inl (.inl z); exact .inl (.inr z); exact .inr z)⟩⟩ (fun _ h => h) hcn
              refine ⟨_, ⟨R2.src, R2.nd, R2.nl, R2.dom, R2.sep, R2.base, R2.new, by rw [List.length_set, List.length_set, R.len], SlotOk.set R.len R2.sl ⟨p, rfl, .inr rfl, hc'⟩, ?_⟩, rfl⟩
              intro a b q d' e' h1 h2 h3 h4
              rw [get_set] at h1 h2 h3 h4
              have other : ∀ (a : Nat) (d' : D), ρ[a]? = some (.own d') → σ[a]? = some (some (.ref p)) → False := fun a d' q1 q2 => by
                have h := R.sl a
                rw [q1] at h
                obtain ⟨p', h5, h6, _⟩ := h
                rw [q2] at h5
                cases h5
                exact hn h6
              by_cases e1 : i = a
              · by_cases e2 : i = b
                · rw [← e1, ← e2]
                · rw [if_pos e1] at h1 h3
                  rw [if_neg e2] at h2 h4
                  split at h3
                  · cases h3
                    exact (other b e' h2 h4).elim
                  · cases h3
              · by_cases e2 : i = b
                · rw [if_neg e1] at h1 h3
                  rw [if_pos e2] at h2 h4
                  split at h4
                  · cases h4
                    exact (other a d' h1 h3).elim
                  · cases h4
                · rw [if_neg e1] at h1 h3
                  rw [if_neg e2] at h2 h4
                  exact R.inj a b q d' e' h1 h2 h3 h4
            obtain ⟨O', RO, rfl⟩ := hR
            obtain ⟨O'', R'⟩ := RO.setAny (i := j) e2 s2 W hc2
            exact ⟨.ref p, u, rfl, q _ _ O'' R'⟩
        split at e
        · cases e; exact key .cl .cl (fun z => by cases z) (fun z => by cases z) ea eb q
        · cases e; exact key .fr .cl (fun z => by cases z) (fun z => by cases z) ea eb q
        · cases e; exact key .cl .fr (fun z => by cases z) (fun z => by cases z) ea eb q
        · cases e; exact key .fr .fr (fun z => by cases z) (fun z => by cases z) ea eb q
        · cases e
      · cases e
    · cases e
theorem ds_ret (he : DE X e f) : DS X (.Return (some e) pos) (exRet f) := ps_imp (ps_ret he) fun E σ H ⟨γ, O, ρ, S, fl, S', R, e, q⟩ => by
  unfold exRet at e
  split at e
  · rename_i d c S1 ea
    cases e
    exact ⟨γ, O, ρ, S, d, c, _, R, ea, fun H1 v e1 s1 V => q H1 v (Val.out R e1 s1 V)⟩
  · cases e
theorem ds_retN : DS X (.Return none pos) exRetN := ps_imp ps_retN fun E σ H ⟨γ, O, ρ, S, fl, S', R, e, q⟩ => by
  cases e
  exact q H _ ⟨R.base, R.src, rfl⟩
theorem ds_pass : DS X (.Pass pos) exNil := ps_imp ps_pass fun E σ H ⟨γ, O, ρ, S, fl, S', R, e, q⟩ => by
  cases e
  exact q σ H O R
theorem ds_doc {x j pos pos'} : DS X (.Expr (.Constant (.str x) j pos) pos') exNil := ps_imp ps_doc fun E σ H ⟨γ, O, ρ, S, fl, S', R, e, q⟩ => by
  cases e
  exact q σ H O R
theorem ds_break : DS X (.Break pos) exBreak := ps_imp ps_break fun E σ H ⟨γ, O, ρ, S, fl, S', R, e, q⟩ => by
  cases e
  exact q σ H O R
theorem ds_cont : DS X (.Continue pos) exCont := ps_imp ps_continue fun E σ H ⟨γ, O, ρ, S, fl, S', R, e, q⟩ => by
  cases e
  exact q σ H O R
theorem ds_expr (he : DE X e f) (hs : swapsWith e none pos.line X.env = pure false := by rfl) : DS X (.Expr e pos) (exDrop f) := ps_imp (ps_expr he hs) fun E σ H ⟨γ, O, ρ, S, fl, S', R, e, q⟩ => by
  unfold exDrop at e
  split at e
  · rename_i d c S1 ea
    cases e
    exact seq1 R ea fun H1 v e1 R1 b1 V => q σ H1 O R1
  · cases e
theorem ds_if {c : Expr} (hc : DT X c t) (ha : DSs X sts F) (hb : DSs X sts' F') : DS X (.If c sts sts' pos) (exIf t F F') := ps_imp (ps_if hc ha hb) fun E σ H ⟨γ, O, ρ, S, fl, S', R, e, q⟩ => by
  unfold exIf at e
  split at e
  · rename_i S1 ea
    exact seqT R ea fun H1 e1 R1 b1 => by
      rw [if_pos rfl]
      exact ⟨γ, O, ρ, _, fl, S', R1, e, q⟩
  · rename_i S1 ea
    exact seqT R ea fun H1 e1 R1 b1 => by
      rw [if_neg (fun z => by cases z)]
      exact ⟨γ, O, ρ, _, fl, S', R1, e, q⟩
  · cases e
theorem dss_freeze (i : Nat) (h : DSs X sts F) : DSs X sts (exSeq (exFreeze i) F) := pss_imp h fun E σ H ⟨γ, O, ρ, S, fl, S', R, e, q⟩ => by
  unfold exSeq exFreeze at e
  cases hr : ρ[i]? with
  | none =>
    rw [hr] at e
    exact ⟨γ, O, ρ, S, fl, S', R, e, q⟩
  | some s =>
    rw [hr] at e
    cases s with
    | un => exact ⟨γ, O, ρ, S, fl, S', R, e, q⟩
    | val d => exact ⟨γ, O, ρ, S, fl, S', R, e, q⟩
    | own d =>
      obtain ⟨O', R'⟩ := R.freeze hr
      exact ⟨γ, O', _, S, fl, S', R', e, q⟩
end
end FD

/-! FD6: append, what is walked, for, while, comprehensions, defs -/
namespace FD
open PySem PySem.Spec PyProof.Rows L2
noncomputable section

/-! ### xs.append(e) -/
def exApp (i : Nat) (f : EvF) : ExF := fun ρ S => match ρ[i]? with
  | some (.own (.list ds)) => match f ρ S with
    | some (_, .al, _) => none
    | some (d, _, S1) => grd (OkLen (ds.length + 1)) (some (.nx (ρ.set i (.own (.list (ds ++ [d])))), S1))
    | none => none
  | _ => none
theorem Rel.own_at {γ : G} {O : Addr → Prop} {σ : L2.St} {ρ : Env} {S : Pick} {H : Hp} {i : Nat} {ds : List D} (R : Rel γ O σ ρ S H) (h : ρ[i]? = some (.own (.list ds))) : ∃ p xs, σ[i]? = some (some (.ref p)) ∧ O p ∧ H p = some (.lst xs) ∧ RpL γ.ad H (U γ O) ds xs := by
  have h0 := R.sl i
  rw [h] at h0
  obtain ⟨p, hσ, ho, xs, h1, h2⟩ := h0
  exact ⟨p, xs, hσ, ho, h1, h2⟩
theorem kp_own {γ : G} {O : Addr → Prop} {σ : L2.St} {ρ : Env} {S : Pick} {H : Hp} {p : Addr} {o : HO} (R : Rel γ O σ ρ S H) (ho : O p) : Kp (U γ O) (U γ O) H (upd H p o) := by
  obtain ⟨o0, q0, t0⟩ := R.dom p (.inr ho)
  exact ⟨fun a xs h => by rw [upd_ne (fun z => by rw [z, q0] at h; cases h; exact t0)]; exact h,
    fun a xs hn h => ⟨by rw [upd_ne (fun z : a = p => hn (.inr (by rw [z]; exact ho)))]; exact h, hn⟩, fun a xs hn h => ⟨by rw [upd_ne (fun z : a = p => hn (.inr (by rw [z]; exact ho)))]; exact h, hn⟩⟩
section
variable {X : Cx} {e : Expr} {f : EvF}
theorem ds_app (i : Nat) {x : Str} {p1 apos cpos pos : Pos} (he : DE X e f) (hN : X.N[i]? = some x := by rfl) (hv : Vis X.env.scope x := by first | exact Or.inl rfl | exact Or.inr (Or.inl rfl) | exact Or.inr (Or.inr rfl)) (hd : (x == ("__debug__" : Str)) = false := by decide) (hcd : (x == ("__classdict__" : Str)) = false := by decide)
    (hst : starEach [e] X.env = (false, eval e X.env) :: starEach [] X.env := by rfl)
    (hbase : attributeBase (.Name x p1) "append" X.env (eval (.Name x p1) X.env) = eval (.Name x p1) X.env := by rfl)
    (hfew : ((backTo cpos (starEach [e] X.env)).all (fun x => !x.1) && (backToKw cpos (keywordEach [] X.env)).all (fun x => x.1.isSome)
      && decide (([e] : List Expr).length + ([] : List Keyword).length + (if ([] : List Keyword).isEmpty then 0 else 1) < 30)) = true := by rfl)
    (hline : (apos.endLine == cpos.line) = true := by rfl) (hplain : (backTo cpos (starEach [] X.env)).any (·.1) = false := by rfl)
    (hs : swapsWith (.Call (.Attribute (.Name x p1) "append" apos) [e] [] cpos) none pos.line X.env = pure false := by rfl) :
    DS X (.Expr (.Call (.Attribute (.Name x p1) "append" apos) [e] [] cpos) pos) (exApp i f) :=
  ps_imp (ps_expr (pe_bm PySem.F.plainAttrs_list PySem.F.slot_list_append PySem.F.type_list_append mt_append (pe_var hN hv hd hcd) (pa_cons he pa_nil hst) hbase hfew hline hst hplain) hs) fun E σ H ⟨γ, O, ρ, S, fl, S', R, e, q⟩ => by
    unfold exApp at e
    split at e
    · rename_i ds hr
      obtain ⟨p, xs, hσ, ho, hp, rp⟩ := R.own_at hr
      split at e
      · cases e
      · rename_i d c S1 hc ea
        obtain ⟨hl, e⟩ := grd_some e
        · cases e
          refine ⟨.ref p, hσ, .inl ⟨rfl, xs, SqL.of hp⟩, ?_⟩
          refine seq1 R ea fun H1 v e1 R1 b1 V => ?_
          have hp1 := e1 p _ (R.one ho).1 (R.one ho).2 hp
          refine ⟨p, xs, v, rfl, rfl, hp1, by rw [line_eq, RpL.length rp]; exact hl.h, ?_⟩
          refine q _ _ O (R1.updOwn hr hσ ho trivial ⟨_, upd_same, ?_⟩)
          refine RpL.append (RpL.kp (kp_own R1 ho) _ _ (RpL.kp (R.kp e1) _ _ rp)) ⟨v, [], rfl, Rp.kp (kp_own R1 ho) _ _ (V.free R hc), rfl⟩
      · cases e
    · cases e
end

/-! ### what is walked -/
abbrev EvI := Env → Pick → Option (List D × Pick)
def stable (γ : G) (W : Addr → Prop) (Hs H : Hp) : Prop := ∀ a o, a ≠ γ.ad → a ≠ γ.al → ¬ W a → Hs a = some o → H a = some o
structure ItOk (γ : G) (O W : Addr → Prop) (Hs : Hp) (items : List D) (J : It) : Prop where
  go : ∀ H i, stable γ W Hs H → i < items.length → J.go i H
  stop : ∀ H, stable γ W Hs H → J.stop items.length H
  yld : ∀ H i d x H', stable γ W Hs H → items[i]? = some d → J.yld i H x H' → Ex H H' ∧ ∀ O' : Addr → Prop, (∀ a, O' a → (O a ∨ Hs a = none) ∧ ∃ o, H a = some o) → Rp γ.ad H' (U γ O') d x
def wOf (st : Bool) (O : Addr → Prop) : Addr → Prop := fun a => st = true ∧ O a
def tI (st : Bool) (f : EvI) : TI := fun σ H R => ∃ (γ : G) (O : Addr → Prop) (ρ : Env) (S : Pick) (items : List D) (S' : Pick), Rel γ O σ ρ S H ∧ f ρ S = some (items, S') ∧
  ∀ H' J, Ext γ H H' → SrcAt γ.ad γ.al H' S' → ItOk γ O (wOf st O) H' items J → R J H'
abbrev DI (X : Cx) (st : Bool) (tg e : Expr) (f : EvI) : Prop := PI X tg e (tI st f)
theorem kp_stable {γ : G} {O W O' : Addr → Prop} {σ : L2.St} {ρ : Env} {S : Pick} {Hs H : Hp} (R : Rel γ O σ ρ S Hs) (hW : ∀ a, W a → O a) (s : stable γ W Hs H) (h : ∀ a, O' a → O a ∨ Hs a = none) : Kp (U γ O) (U γ O') Hs H where
  t := fun a xs q => s a _ (fun z => by rw [z, R.src.d] at q; cases q) (fun z => by rw [z, R.src.l] at q; cases q) (fun z => by
    obtain ⟨o, e, t⟩ := R.dom a (.inr (hW a z))
    rw [q] at e; cases e; exact t) q
  l := fun a xs hn q => ⟨s a _ (fun z => hn (.inl (z ▸ R.nd))) (fun z => hn (.inl (z ▸ R.nl))) (fun z => hn (.inr (hW a z))) q, fun z => by
    rcases z with z | z
    · exact hn (.inl z)
    · rcases h a z with z | z
      · exact hn (.inr z)
      · rw [z] at q; cases q⟩
  d := fun a xs hn q => ⟨s a _ (fun z => hn (.inl (z ▸ R.nd))) (fun z => hn (.inl (z ▸ R.nl))) (fun z => hn (.inr (hW a z))) q, fun z => by
    rcases z with z | z
    · exact hn (.inl z)
    · rcases h a z with z | z
      · exact hn (.inr z)
      · rw [z] at q; cases q⟩
def evSeq (st : Bool) (f : EvF) : EvI := fun ρ S => match f ρ S with
  | some (.list ds, .al, S1) => if st = true then none else some (ds, S1)
  | some (.list ds, _, S1) => some (ds, S1)
  | some (.tuple ds, _, S1) => some (ds, S1)
  | _ => none
theorem it_list {K : PySem.W.Frag} {γ : G} {O W : Addr → Prop} {σ : L2.St} {ρ : Env} {S : Pick} {Hs : Hp} {ds : List D} {xs : List V} {a : Addr} (R : Rel γ O σ ρ S Hs) (hW : ∀ a, W a → O a) (h : Hs a = some (.lst xs)) (r : RpL γ.ad Hs (U γ O) ds xs) (n1 : a ≠ γ.ad) (n2 : a ≠ γ.al) (n3 : ¬ W a) : ItOk γ O W Hs ds (Itl K a) where
  go := fun H i s hi => by
    have h1 := s a _ n1 n2 n3 h
    have hl : i < xs.length := by rw [RpL.length r]; exact hi
    exact ⟨xs, xs[i], SqL.of h1, List.getElem?_eq_getElem hl⟩
  stop := fun H s => ⟨xs, SqL.of (s a _ n1 n2 n3 h), by rw [RpL.length r]; exact Nat.le_refl _⟩
  yld := fun H i d x H' s hi q => by
    obtain ⟨rfl, q⟩ := q
    refine ⟨Ex.refl _, fun O' ho => ?_⟩
    obtain ⟨v, h1, h2⟩ := RpL.get r hi
    have h3 := q xs (SqL.of (s a _ n1 n2 n3 h))
    rw [h1] at h3; cases h3
    exact Rp.kp (kp_stable R hW s fun a z => (ho a z).1) d _ h2
theorem it_tup {K : PySem.W.Frag} {γ : G} {O W : Addr → Prop} {σ : L2.St} {ρ : Env} {S : Pick} {Hs : Hp} {ds : List D} {xs : List V} {a : Addr} (R : Rel γ O σ ρ S Hs) (hW : ∀ a, W a → O a) (h : Hs a = some (.tup xs)) (r : RpL γ.ad Hs (U γ O) ds xs) : ItOk γ O W Hs ds (Itt K a) where
  go := fun H i s hi => by
    have h1 := (kp_stable (O' := O) R hW s (fun a z => .inl z)).t a _ h
    have hl : i < xs.length := by rw [RpL.length r]; exact hi
    exact ⟨xs, xs[i], SqT.of h1, List.getElem?_eq_getElem hl⟩
  stop := fun H s => ⟨xs, SqT.of ((kp_stable (O' := O) R hW s (fun a z => .inl z)).t a _ h), by rw [RpL.length r]; exact Nat.le_refl _⟩
  yld := fun H i d x H' s hi q => by
    obtain ⟨rfl, q⟩ := q
    refine ⟨Ex.refl _, fun O' ho => ?_⟩
    obtain ⟨v, h1, h2⟩ := RpL.get r hi
    have h3 := q xs (SqT.of ((kp_stable (O' := O) R hW s (fun a z => .inl z)).t a _ h))
    rw [h1] at h3; cases h3
    exact Rp.kp (kp_stable R hW s fun a z => (ho a z).1) d _ h2
def rgD (lo : Int) (n : Nat) : List D := (List.range n).map fun (i : Nat) => PyData.int (lo + i)
theorem it_rng {γ : G} {O W : Addr → Prop} {Hs : Hp} {lo : Int} {n : Nat} : ItOk γ O W Hs (rgD lo n) (Itr lo n) where
  go := fun H i s hi => by
    show i < n
    simpa [rgD] using hi
  stop := fun H s => by simp [rgD, Itr]
  yld := fun H i d x H' s hi q => by
    obtain ⟨rfl, rfl⟩ := q
    refine ⟨Ex.refl _, fun O' ho => ?_⟩
    unfold rgD at hi
    rw [List.getElem?_map] at hi
    cases hr : (List.range n)[i]? with
    | none => rw [hr] at hi; cases hi
    | some j =>
      rw [hr] at hi
      cases hi
      have : j = i := by
        obtain ⟨_, h⟩ := List.getElem?_eq_some_iff.mp hr
        rw [← h, List.getElem_range]
      subst this
      rfl
section
variable {X : Cx} {tg e : Expr} {f : EvF} {g : EvA} {st : Bool}
theorem wOf_sub {st : Bool} {O : Addr → Prop} : ∀ a, wOf st O a → O a := fun _ h => h.2
theorem di_seq (he : DE X e f) : DI X st tg e (evSeq st f) := ⟨fun pins s σ H R I ⟨γ, O, ρ, S, items, S', Re, e, q⟩ => by
  unfold evSeq at e
  split at e
  · rename_i ds S1 ea
    split at e
    · cases e
    · rename_i hst
      cases e
      refine (pi_list he).run pins s σ H R I (seq1 Re ea fun H1 v e1 R1 b1 V => ?_)
      obtain ⟨p, rfl, ho, xs, h1, h2⟩ := V
      exact ⟨p, rfl, ⟨xs, SqL.of h1⟩, q H1 _ e1 R1.src (it_list R1 wOf_sub h1 h2 (Re.one ho).1 (Re.one ho).2 fun z => hst z.1)⟩
  · rename_i ds c S1 hc ea
    cases e
    refine (pi_list he).run pins s σ H R I (seq1 Re ea fun H1 v e1 R1 b1 V => ?_)
    cases c with
    | al => exact (hc rfl).elim
    | cl =>
      obtain ⟨p, xs, rfl, hn, h1, h2⟩ := V
      exact ⟨p, rfl, ⟨xs, SqL.of h1⟩, q H1 _ e1 R1.src (it_list R1 wOf_sub h1 h2 (fun z => hn (.inl (z ▸ R1.nd))) (fun z => hn (.inl (z ▸ R1.nl))) fun z => hn (.inr z.2))⟩
    | fr =>
      obtain ⟨p, xs, e0, h1, h2⟩ := Val.list V
      obtain ⟨p', e9, hp, n1, n2, _⟩ := V
      have e8 : p' = p := V.ref.inj (e9.symm.trans e0)
      subst e8
      subst e0
      exact ⟨_, rfl, ⟨xs, SqL.of h1⟩, q H1 _ e1 R1.src (it_list R1 wOf_sub h1 h2 n1 n2 fun z => by
        obtain ⟨o, w, _⟩ := Re.dom _ (.inr z.2)
        rw [hp] at w; cases w)⟩
  · rename_i ds c S1 ea
    cases e
    refine (pi_tup he).run pins s σ H R I (seq1 Re ea fun H1 v e1 R1 b1 V => ?_)
    obtain ⟨p, xs, rfl, h1, h2⟩ := V.tuple
    exact ⟨p, rfl, ⟨xs, SqT.of h1⟩, q H1 _ e1 R1.src (it_tup R1 wOf_sub h1 h2)⟩
  · cases e⟩
def evRng1 (g : EvA) : EvI := fun ρ S => match g ρ S with
  | some ([(.int j, _)], S1) => grd (Ok62 j) (some (rgD 0 j.toNat, S1))
  | _ => none
def evRng2 (g : EvA) : EvI := fun ρ S => match g ρ S with
  | some ([(.int i, _), (.int j, _)], S1) => grd (Ok62 i ∧ Ok62 j) (some (rgD i (j - i).toNat, S1))
  | _ => none
theorem di_range1 {a : Expr} {p pos : Pos} (hm : X.mg "range" = none) (ha : DA X [a] g) (hg : Gl X "range" := by rfl) (hs : starEach [a] X.env = [(false, eval a X.env)] := by rfl) : DI X st tg (.Call (.Name "range" p) [a] [] pos) (evRng1 g) := ⟨fun pins s σ H R I ⟨γ, O, ρ, S, items, S', Re, e, q⟩ => by
  unfold evRng1 at e
  split at e
  · rename_i j c S1 ea
    obtain ⟨hb, e⟩ := grd_some e
    · cases e
      refine (pi_range1 hg hm ha hs).run pins s σ H R I (seqA Re ea fun H1 vs e1 R1 b1 W => ?_)
      obtain ⟨v, c', rfl, V⟩ := valL1 W rfl
      have hb := hb.h
      exact ⟨j, by rw [V.int], hb.1, hb.2, q H1 _ e1 R1.src it_rng⟩
  · cases e⟩
theorem di_range2 {a b : Expr} {p pos : Pos} (hm : X.mg "range" = none) (ha : DA X [a, b] g) (hg : Gl X "range" := by rfl) (hs : starEach [a, b] X.env = [(false, eval a X.env), (false, eval b X.env)] := by rfl) (hs2 : starEach [b] X.env = [(false, eval b X.env)] := by rfl) : DI X st tg (.Call (.Name "range" p) [a, b] [] pos) (evRng2 g) := ⟨fun pins s σ H R I ⟨γ, O, ρ, S, items, S', Re, e, q⟩ => by
  unfold evRng2 at e
  split at e
  · rename_i i c j c' S1 ea
    obtain ⟨hb, e⟩ := grd_some e
    · cases e
      refine (pi_range2 hg hm ha hs hs2).run pins s σ H R I (seqA Re ea fun H1 vs e1 R1 b1 W => ?_)
      obtain ⟨v, c', v2, c2, rfl, V, V2⟩ := valL2 W rfl
      have h1 := hb.1.h
      have h2 := hb.2.h
      exact ⟨i, j, by rw [V.int, V2.int], ⟨h1.1, h1.2, h2.1, h2.2⟩, q H1 _ e1 R1.src it_rng⟩
  · cases e⟩
end

/-! ### for -/
def forL (G : GvF) (F : ExF) : List D → Env → Pick → Option (Fl × Pick)
  | [], ρ, S => some (.nx ρ, S)
  | d :: r, ρ, S => match G d ρ with
    | none => none
    | some ρ1 => match F ρ1 S with
      | some (.nx ρ2, S2) => forL G F r ρ2 S2
      | some (.ct ρ2, S2) => forL G F r ρ2 S2
      | some (.bk ρ2, S2) => some (.nx ρ2, S2)
      | some (.rt d, S2) => some (.rt d, S2)
      | none => none
def exFor (I : EvI) (G : GvF) (F : ExF) : ExF := fun ρ S => match I ρ S with
  | some (items, S1) => forL G F items ρ S1
  | none => none
open Classical in
/-- the constants of a loop: all that stands but the own containers -/
def G.loop (γ : G) (O : Addr → Prop) (H : Hp) : G := { γ with H0 := fun a => if O a then none else H a }
section
variable {γ : G} {O O2 : Addr → Prop} {σ σ2 : L2.St} {ρ ρ2 : Env} {S S2 : Pick} {H H2 : Hp}
theorem loop_some {a : Addr} {o : HO} (h : (γ.loop O H).H0 a = some o) : ¬ O a ∧ H a = some o := by
  unfold G.loop at h
  simp only at h
  split at h
  · cases h
  · rename_i q; exact ⟨q, h⟩
theorem loop_none {a : Addr} (h : (γ.loop O H).H0 a = none) : O a ∨ H a = none := by
  unfold G.loop at h
  simp only at h
  split at h
  · rename_i q; exact .inl q
  · exact .inr h
theorem loop_eq {a : Addr} (h : O a) : (γ.loop O H).H0 a = none := by
  unfold G.loop
  simp only
  rw [if_pos h]
theorem Rel.loopIn (R : Rel γ O σ ρ S H) : Rel (γ.loop O H) O σ ρ S H where
  src := R.src
  nd := R.nd
  nl := R.nl
  dom := R.dom
  sep := R.sep
  base := fun a o _ _ h => (loop_some h).2
  new := fun a h => loop_eq h
  len := R.len
  sl := R.sl
  inj := R.inj
theorem Rel.loopOut (R : Rel γ O σ ρ S H) (Q : Rel (γ.loop O H) O2 σ2 ρ2 S2 H2) : Rel γ O2 σ2 ρ2 S2 H2 where
  src := Q.src
  nd := Q.nd
  nl := Q.nl
  dom := Q.dom
  sep := Q.sep
  base := fun a o h1 h2 h => Q.base a o h1 h2 (by
    unfold G.loop
    simp only
    rw [if_neg (fun z => by rw [R.new a z] at h; cases h)]
    exact R.base a o h1 h2 h)
  new := fun a h => by
    cases q : γ.H0 a with
    | none => rfl
    | some o =>
      have n1 := (Q.one h).1
      have n2 := (Q.one h).2
      rcases loop_none (Q.new a h) with z | z
      · rw [R.new a z] at q; cases q
      · rw [R.base a o n1 n2 q] at z; cases z
  len := Q.len
  sl := Q.sl
  inj := Q.inj
theorem RetOk.loopOut {v : V} {d : D} (R : Rel γ O σ ρ S H) (Q : RetOk (γ.loop O H) H2 v d S2) : RetOk γ H2 v d S2 :=
  ⟨fun a o h1 h2 h => Q.base a o h1 h2 (by
    unfold G.loop
    simp only
    rw [if_neg (fun z => by rw [R.new a z] at h; cases h)]
    exact R.base a o h1 h2 h), Q.src, Q.val⟩
theorem loop_stable (Q : Rel (γ.loop O H) O2 σ2 ρ2 S2 H2) : stable γ O H H2 := fun a o h1 h2 h3 h => Q.base a o h1 h2 (by
  unfold G.loop
  simp only
  rw [if_neg h3]; exact h)
end
theorem for_run {I : EvI} {G : GvF} {F : ExF} {ws : List Nat} {E : Ends} {σ : L2.St} {H : Hp} (h : tS (exFor I G F) E σ H) : tFor (tI true I) (tG ws G) (tS F) E σ H := by
  obtain ⟨γ, O, ρ, S, fl, S', R, e, q⟩ := h
  unfold exFor at e
  split at e
  · rename_i items S1 ei
    refine ⟨γ, O, ρ, S, items, S1, R, ei, fun H1 J e1 s1 hJ => ?_⟩
    have hJ : ItOk γ O O H1 items J := by
      have : wOf true O = O := funext fun a => propext ⟨fun z => z.2, fun z => ⟨rfl, z⟩⟩
      rw [this] at hJ; exact hJ
    have R1 := R.ext e1 s1
    refine ⟨fun i m σ2 H2 => ∃ (O2 : Addr → Prop) (ρ2 : Env) (S2 : Pick), Rel (γ.loop O H1) O2 σ2 ρ2 S2 H2 ∧ i ≤ items.length ∧ m = items.length - i ∧ forL G F (items.drop i) ρ2 S2 = some (fl, S'),
      ⟨items.length, O, ρ, S1, R1.loopIn, Nat.zero_le _, rfl, e⟩, ?_⟩
    rintro i m σ2 H2 ⟨O2, ρ2, S2, R2, hi, rfl, ef⟩
    have hs : stable γ O H1 H2 := loop_stable R2
    by_cases hlt : i < items.length
    · refine .inr ⟨hJ.go H2 i hs hlt, fun σ' H' => ∃ (O' : Addr → Prop) (ρ' : Env) (S0 : Pick), Rel (γ.loop O H1) O' σ' ρ' S0 H' ∧ forL G F (items.drop (i + 1)) ρ' S0 = some (fl, S'), fun σ' H' ⟨O', ρ', S0, R', e'⟩ => ⟨_, by omega, O', ρ', S0, R', hlt, rfl, e'⟩, fun x H' hy => ?_⟩
      have hd : items[i]? = some items[i] := List.getElem?_eq_getElem hlt
      obtain ⟨ex, rp⟩ := hJ.yld H2 i items[i] x H' hs hd hy
      rw [List.drop_eq_getElem_cons hlt] at ef
      unfold forL at ef
      split at ef
      · cases ef
      · rename_i ρ3 eg
        have R2' : Rel (γ.loop O H1) O2 σ2 ρ2 S2 H' := R2.ext ex.ext (ex.src R2.src)
        refine ⟨γ.loop O H1, O2, ρ2, S2, items[i], ρ3, R2', rp O2 (fun a z => ⟨loop_none (R2.new a z), let ⟨o, w, _⟩ := R2.dom a (.inr z); ⟨o, w⟩⟩), eg, fun σ3 _ _ R3 => ?_⟩
        split at ef
        · rename_i ρ4 S4 e4
          exact ⟨γ.loop O H1, O2, ρ3, S2, _, _, R3, e4, fun σ' H'' O' R' => ⟨O', ρ4, S4, R', ef⟩⟩
        · rename_i ρ4 S4 e4
          exact ⟨γ.loop O H1, O2, ρ3, S2, _, _, R3, e4, fun σ' H'' O' R' => ⟨O', ρ4, S4, R', ef⟩⟩
        · rename_i ρ4 S4 e4
          cases ef
          exact ⟨γ.loop O H1, O2, ρ3, S2, _, _, R3, e4, fun σ' H'' O' R' => q σ' H'' O' (R1.loopOut R')⟩
        · rename_i d4 S4 e4
          cases ef
          exact ⟨γ.loop O H1, O2, ρ3, S2, _, _, R3, e4, fun H'' v r => q H'' v (RetOk.loopOut R1 r)⟩
        · cases ef
    · have hi' : i = items.length := Nat.le_antisymm hi (Nat.le_of_not_lt hlt)
      subst hi'
      refine .inl ⟨hJ.stop H2 hs, ?_⟩
      rw [List.drop_length] at ef
      cases ef
      exact q σ2 H2 O2 (R1.loopOut R2)
  · cases e
theorem ds_for {X : Cx} {tg iter : Expr} {body : List Stmt} {pos : Pos} {I : EvI} {G : GvF} {F : ExF} {ws : List Nat} (hp : PassesOwn (model X.prog X.w) X.A X.env X.xe) (hc : X.calm = true) (hi : DI X true tg iter I) (hg : DG X tg ws G) (hb : DSs X body F)
    (hs : ∀ x, foldedSetIterable iter X.env x = pure x := by intro _; rfl) : DS X (.For tg iter body [] pos) (exFor I G F) := ps_imp (ps_for hp hc hi hg hb hs) fun _ _ _ h => for_run h

/-! ### while -/
def whileN (t : EvT) (F : ExF) : Nat → Env → Pick → Option (Fl × Pick)
  | 0, _, _ => none
  | n + 1, ρ, S => match t ρ S with
    | some (false, S1) => some (.nx ρ, S1)
    | some (true, S1) => match F ρ S1 with
      | some (.nx ρ2, S2) => whileN t F n ρ2 S2
      | some (.ct ρ2, S2) => whileN t F n ρ2 S2
      | some (.bk ρ2, S2) => some (.nx ρ2, S2)
      | some (.rt d, S2) => some (.rt d, S2)
      | none => none
    | none => none
def exWhile (n : Nat) (t : EvT) (F : ExF) : ExF := fun ρ S => whileN t F n ρ S
theorem while_run {n : Nat} {t : EvT} {F : ExF} {E : Ends} {σ : L2.St} {H : Hp} (h : tS (exWhile n t F) E σ H) : tWhile (tT t) (tS F) E σ H := by
  obtain ⟨γ, O, ρ, S, fl, S', R, e, q⟩ := h
  refine ⟨fun m σ2 H2 => ∃ (O2 : Addr → Prop) (ρ2 : Env) (S2 : Pick), Rel γ O2 σ2 ρ2 S2 H2 ∧ whileN t F m ρ2 S2 = some (fl, S'), ⟨n, O, ρ, S, R, e⟩, ?_⟩
  rintro m σ2 H2 ⟨O2, ρ2, S2, R2, e2⟩
  cases m with
  | zero => cases e2
  | succ m =>
    unfold whileN at e2
    split at e2
    · rename_i S3 et
      cases e2
      refine seqT R2 et fun H3 e3 R3 b3 => ?_
      rw [if_neg (fun z => by cases z)]
      exact q σ2 H3 O2 R3
    · rename_i S3 et
      refine seqT R2 et fun H3 e3 R3 b3 => ?_
      rw [if_pos rfl]
      refine ⟨fun σ' H' => ∃ (O' : Addr → Prop) (ρ' : Env) (S0 : Pick), Rel γ O' σ' ρ' S0 H' ∧ whileN t F m ρ' S0 = some (fl, S'), fun σ' H' h => ⟨m, Nat.lt_succ_self m, h⟩, ?_⟩
      split at e2
      · rename_i ρ4 S4 e4
        exact ⟨γ, O2, ρ2, S3, _, _, R3, e4, fun σ' H'' O' R' => ⟨O', ρ4, S4, R', e2⟩⟩
      · rename_i ρ4 S4 e4
        exact ⟨γ, O2, ρ2, S3, _, _, R3, e4, fun σ' H'' O' R' => ⟨O', ρ4, S4, R', e2⟩⟩
      · rename_i ρ4 S4 e4
        cases e2
        exact ⟨γ, O2, ρ2, S3, _, _, R3, e4, fun σ' H'' O' R' => q σ' H'' O' R'⟩
      · rename_i d4 S4 e4
        cases e2
        exact ⟨γ, O2, ρ2, S3, _, _, R3, e4, fun H'' v r => q H'' v r⟩
      · cases e2
    · cases e2
theorem ds_while {X : Cx} {c : Expr} {body : List Stmt} {pos : Pos} {t : EvT} {F : ExF} (n : Nat) (hp : PassesOwn (model X.prog X.w) X.A X.env X.xe) (hc : DT X c t) (hb : DSs X body F) : DS X (.While c body [] pos) (exWhile n t F) := ps_imp (ps_while hp hc hb) fun _ _ _ h => while_run h

/-! ### comprehensions -/
def wipeE (ρ : Env) : List Nat → Env
  | [] => ρ
  | v :: vs => (wipeE ρ vs).set v .un
def evYes : EvT := fun _ S => some (true, S)
abbrev DTs (X : Cx) (ifs : List Expr) (t : EvT) : Prop := PTs X ifs (tT t)
theorem dts_nil {X : Cx} : DTs X [] evYes := ⟨fun pins s σ H Q I ⟨γ, O, ρ, S, b, S', R, e, q⟩ => pts_nil.run pins s σ H Q I (by
  cases e
  exact q H (Ext.refl γ H) R.src)⟩
theorem dts_one {X : Cx} {c : Expr} {t : EvT} (h : DT X c t) : DTs X [c] t := pts_one h
def lcL (G : GvF) (T : EvT) (El : EvF) : List D → Env → Pick → List D → Option (List D × Pick)
  | [], _, S, acc => some (acc, S)
  | d :: r, ρ, S, acc => match G d ρ with
    | none => none
    | some ρ1 => match T ρ1 S with
      | some (true, S1) => match El ρ1 S1 with
        | some (_, .al, _) => none
        | some (y, _, S2) => grd (OkLen (acc.length + 1)) (lcL G T El r ρ S2 (acc ++ [y]))
        | none => none
      | some (false, S1) => lcL G T El r ρ S1 acc
      | none => none
def evLc (vs : List Nat) (I : EvI) (G : GvF) (T : EvT) (El : EvF) : EvF := fun ρ S => match I ρ S with
  | some (items, S1) => match lcL G T El items (wipeE ρ vs) S1 [] with
    | some (acc, S2) => some (.list acc, .fr, S2)
    | none => none
  | none => none
theorem wipe_get (σ : L2.St) : ∀ (vs : List Nat) (j : Nat), (wipe σ vs)[j]? = if j ∈ vs ∧ j < σ.length then some none else σ[j]?
  | [], j => by simp [wipe]
  | v :: vs, j => by
    show ((wipe σ vs).set v none)[j]? = _
    rw [get_set, wipe_length, wipe_get σ vs j]
    by_cases e : v = j
    · subst e
      by_cases hl : v < σ.length
      · simp [hl]
      · simp [hl]
    · rw [if_neg e]
      have : j ∈ v :: vs ↔ j ∈ vs := ⟨fun z => (List.mem_cons.mp z).resolve_left (fun z => e z.symm), fun z => List.mem_cons_of_mem _ z⟩
      simp only [this]
theorem wipe_same {σ σ2 : L2.St} {vs ws : List Nat} (hl : σ2.length = σ.length) (hw : ∀ j ∈ ws, j ∈ vs) (h : ∀ j, j ∉ ws → σ2[j]? = (wipe σ vs)[j]?) : wipe σ2 vs = wipe σ vs := by
  apply List.ext_getElem?
  intro j
  rw [wipe_get, wipe_get, hl]
  by_cases hj : j ∈ vs
  · by_cases h2 : j < σ.length
    · rw [if_pos ⟨hj, h2⟩, if_pos ⟨hj, h2⟩]
    · rw [if_neg (fun z => h2 z.2), if_neg (fun z => h2 z.2), List.getElem?_eq_none (by omega), List.getElem?_eq_none (by omega)]
  · rw [if_neg (fun z => hj z.1), if_neg (fun z => hj z.1), h j (fun z => hj (hw j z)), wipe_get, if_neg (fun z => hj z.1)]
section
variable {γ : G} {O : Addr → Prop} {σ : L2.St} {ρ : Env} {S : Pick} {H : Hp}
theorem Rel.setUn (R : Rel γ O σ ρ S H) (v : Nat) : Rel γ O (σ.set v none) (ρ.set v .un) S H where
  src := R.src
  nd := R.nd
  nl := R.nl
  dom := R.dom
  sep := R.sep
  base := R.base
  new := R.new
  len := by rw [List.length_set, List.length_set, R.len]
  sl := SlotOk.set R.len R.sl trivial
  inj := fun a b p d' e h1 h2 h3 h4 => by
    rw [get_set] at h1 h2 h3 h4
    by_cases e1 : v = a
    · rw [if_pos e1] at h1
      split at h1 <;> cases h1
    · by_cases e2 : v = b
      · rw [if_pos e2] at h2
        split at h2 <;> cases h2
      · rw [if_neg e1] at h1 h3
        rw [if_neg e2] at h2 h4
        exact R.inj a b p d' e h1 h2 h3 h4
theorem Rel.wipe (R : Rel γ O σ ρ S H) : ∀ vs : List Nat, Rel γ O (L2.wipe σ vs) (wipeE ρ vs) S H
  | [] => R
  | v :: vs => (Rel.wipe R vs).setUn v
/-- an own container that no slot holds is changed -/
theorem Rel.updFree (R : Rel γ O σ ρ S H) {p : Addr} {o : HO} (ho : O p) (ht : notTup o) (hf : ∀ (j : Nat) d, ρ[j]? = some (.own d) → σ[j]? ≠ some (some (.ref p))) : Rel γ O σ ρ S (upd H p o) := by
  have n1 := (R.one ho).1
  have n2 := (R.one ho).2
  have k := kp_own (o := o) R ho
  refine ⟨⟨by rw [upd_ne n1.symm]; exact R.src.d, by rw [upd_ne n2.symm]; exact R.src.l⟩, R.nd, R.nl, fun a z => ?_, R.sep, fun a o' h1 h2 h => ?_, R.new, R.len, fun j => ?_, R.inj⟩
  · by_cases e : a = p
    · subst e; exact ⟨o, upd_same, ht⟩
    · rw [upd_ne e]; exact R.dom a z
  · rw [upd_ne (fun z => by rw [z, R.new p ho] at h; cases h)]
    exact R.base a o' h1 h2 h
  · have h := R.sl j
    cases hr : ρ[j]? with
    | none => trivial
    | some sl =>
      rw [hr] at h
      cases sl with
      | un => trivial
      | val d0 => obtain ⟨v', h1, h2⟩ := h; exact ⟨v', h1, Rp.kp k d0 v' h2⟩
      | own d0 =>
        obtain ⟨q, h1, h2, h3⟩ := h
        have hq : q ≠ p := fun z => hf j d0 hr (z ▸ h1)
        exact ⟨q, h1, h2, Cont.kp k (fun o ho => by rw [upd_ne hq]; exact ho) h3⟩
end
theorem lc_run {vs ws : List Nat} {I : EvI} {G : GvF} {T : EvT} {El : EvF} {σ : L2.St} {H : Hp} {Q : VK} (hw : ∀ j ∈ ws, j ∈ vs) (h : tE (evLc vs I G T El) σ H Q) : tLc (tI false I) (tG ws G) (tT T) (tE El) vs σ H Q := by
  obtain ⟨γ, O, ρ, S, d, c, S', R, e, q⟩ := h
  unfold evLc at e
  split at e
  · rename_i items S1 ei
    split at e
    · rename_i accF S2 el
      cases e
      refine ⟨γ, O, ρ, S, items, S1, R, ei, fun H1 J e1 s1 hJ Dn hD => ?_⟩
      have hJ : ItOk γ O (fun _ => False) H1 items J := by
        have : wOf false O = fun _ => False := funext fun a => propext ⟨fun z => Bool.noConfusion z.1, fun z => False.elim z⟩
        rw [this] at hJ; exact hJ
      have R1 := R.ext e1 s1
      have fD := R1.fresh hD
      have eD : Ext γ H1 (upd H1 Dn (.lst [])) := (Ex.new hD).ext
      have Rg : Rel γ (fun a => O a ∨ a = Dn) (L2.wipe σ vs) (wipeE ρ vs) S1 (upd H1 Dn (.lst [])) := (R1.wipe vs).grow eD ((Ex.new hD).src s1) hD ⟨_, upd_same, trivial⟩
      have hfree : ∀ (j : Nat) d, (wipeE ρ vs)[j]? = some (.own d) → (L2.wipe σ vs)[j]? ≠ some (some (.ref Dn)) := fun j d h1 h2 => by
        have h3 := (R1.wipe vs).sl j
        rw [h1] at h3
        obtain ⟨p, h4, h5, _⟩ := h3
        rw [h2] at h4
        cases h4
        exact fD.2.2 (.inr h5)
      refine ⟨fun i m H2 => ∃ (S2 : Pick) (acc : List D) (accV : List V), Rel γ (fun a => O a ∨ a = Dn) (L2.wipe σ vs) (wipeE ρ vs) S2 H2 ∧ H2 Dn = some (.lst accV) ∧ RpL γ.ad H2 (U γ fun a => O a ∨ a = Dn) acc accV ∧ Ext γ H1 H2 ∧ i ≤ items.length ∧ m = items.length - i ∧ lcL G T El (items.drop i) (wipeE ρ vs) S2 acc = some (accF, S'),
        ⟨items.length, S1, [], [], Rg, upd_same, rfl, eD, Nat.zero_le _, rfl, el⟩, ?_⟩
      rintro i m H2 ⟨S2, acc, accV, R2, hD2, rp2, E2, hi, rfl, el2⟩
      have hs : stable γ (fun _ => False) H1 H2 := fun a o h1 h2 _ h => E2 a o h1 h2 h
      by_cases hlt : i < items.length
      · refine .inr ⟨hJ.go H2 i hs hlt, fun H' => ∃ (S3 : Pick) (acc' : List D) (accV' : List V), Rel γ (fun a => O a ∨ a = Dn) (L2.wipe σ vs) (wipeE ρ vs) S3 H' ∧ H' Dn = some (.lst accV') ∧ RpL γ.ad H' (U γ fun a => O a ∨ a = Dn) acc' accV' ∧ Ext γ H1 H' ∧ lcL G T El (items.drop (i + 1)) (wipeE ρ vs) S3 acc' = some (accF, S'),
          fun H' ⟨S3, acc', accV', a1, a2, a3, a4, a5⟩ => ⟨_, by omega, S3, acc', accV', a1, a2, a3, a4, hlt, rfl, a5⟩, fun x H3 hy => ?_⟩
        have hd : items[i]? = some items[i] := List.getElem?_eq_getElem hlt
        obtain ⟨ex, rp⟩ := hJ.yld H2 i items[i] x H3 hs hd hy
        rw [List.drop_eq_getElem_cons hlt] at el2
        unfold lcL at el2
        split at el2
        · cases el2
        · rename_i ρ1 eg
          have R3 : Rel γ (fun a => O a ∨ a = Dn) (L2.wipe σ vs) (wipeE ρ vs) S2 H3 := R2.ext ex.ext (ex.src R2.src)
          have E3 : Ext γ H1 H3 := E2.trans ex.ext
          have hD3 : H3 Dn = some (.lst accV) := ex _ _ hD2
          have rp3 : RpL γ.ad H3 (U γ fun a => O a ∨ a = Dn) acc accV := RpL.kp (R2.kp ex.ext) _ _ rp2
          refine ⟨γ, fun a => O a ∨ a = Dn, wipeE ρ vs, S2, items[i], ρ1, R3, rp _ (fun a z => ⟨?_, ?_⟩), eg, fun σ2 lσ ha Rσ => ?_⟩
          · rcases z with z | z
            · exact .inl z
            · rw [z]; exact .inr hD
          · obtain ⟨o, w, _⟩ := R2.dom a (.inr z)
            exact ⟨o, w⟩
          have hl2 : σ2.length = σ.length := lσ.trans (wipe_length σ vs)
          refine ⟨wipe_same hl2 hw ha, ?_⟩
          split at el2
          · rename_i S3 et
            refine seqT Rσ et fun H4 e4 R4 b4 => ?_
            rw [if_pos rfl]
            split at el2
            · cases el2
            · rename_i y cy S4 hcy ey
              obtain ⟨hlen, el2⟩ := grd_some el2
              · refine seq1 R4 ey fun H5 yv e5 R5 b5 V5 => ?_
                have E35 : Ext γ H3 H5 := e4.trans e5
                have hD5 : H5 Dn = some (.lst accV) := E35 _ _ fD.1 fD.2.1 hD3
                have Rw : Rel γ (fun a => O a ∨ a = Dn) (L2.wipe σ vs) (wipeE ρ vs) S4 H5 := R3.ext E35 R5.src
                refine ⟨accV, hD5, by rw [line_eq, RpL.length rp3]; exact hlen.h, S4, acc ++ [y], accV ++ [yv], Rw.updFree (.inr rfl) trivial hfree, upd_same, ?_, ?_, el2⟩
                · exact RpL.append (RpL.kp (kp_own Rw (.inr rfl)) _ _ (RpL.kp (R3.kp E35) _ _ rp3)) ⟨yv, [], rfl, Rp.kp (kp_own Rw (.inr rfl)) _ _ (V5.free R4 hcy), rfl⟩
                · intro a o h1 h2 h
                  rw [upd_ne (fun z => by rw [z, hD] at h; cases h)]
                  exact E35 a o h1 h2 (E3 a o h1 h2 h)
            · cases el2
          · rename_i S3 et
            refine seqT Rσ et fun H4 e4 R4 b4 => ?_
            rw [if_neg (fun z => by cases z)]
            exact ⟨S3, acc, accV, R3.ext e4 R4.src, e4 _ _ fD.1 fD.2.1 hD3, RpL.kp (R3.kp e4) _ _ rp3, E3.trans e4, el2⟩
          · cases el2
      · have hi' : i = items.length := Nat.le_antisymm hi (Nat.le_of_not_lt hlt)
        subst hi'
        refine .inl ⟨hJ.stop H2 hs, ?_⟩
        rw [List.drop_length] at el2
        cases el2
        refine q H2 (.ref Dn) (e1.trans E2) R2.src ⟨Dn, rfl, R.back e1 s1 _ hD, fD.1, fD.2.1, accV, hD2, RpL.kp ⟨fun _ _ h => h, fun a xs hn h => ⟨h, fun z => hn ?_⟩, fun a xs hn h => ⟨h, fun z => hn ?_⟩⟩ _ _ rp2⟩
        · rcases z with (z | z) | z
          · exact .inl z
          · exact .inr (.inl z)
          · exact .inr (.inr z)
        · rcases z with (z | z) | z
          · exact .inl z
          · exact .inr (.inl z)
          · exact .inr (.inr z)
    · cases e
  · cases e
end
end FD

/-! FD7: comprehensions as rules, defs, the law's own def -/
namespace FD
open PySem PySem.Spec PyProof.Rows L2
noncomputable section

section
variable {X : Cx} {elt tg iter : Expr} {ifs : List Expr} {scope : Scope} {own : List (Str × Nat)} {ws : List Nat} {pos : Pos} {I : EvI} {G : GvF} {T : EvT} {El : EvF}
theorem de_lc (own : List (Str × Nat)) (hN : X.N.Nodup) (hi : DI X false tg iter I) (ok : BlkOk X.N X.env.scope scope own)
    (hg : ∀ (s : Shared) (H : Hp) (C : Addr) (cl : List (Str × Addr)) (fp : List Addr), DG (X.blk s H scope (compEnvC scope cl C X.env) fp) tg ws G)
    (ht : ∀ (s : Shared) (H : Hp) (C : Addr) (cl : List (Str × Addr)) (fp : List Addr), DTs (X.blk s H scope (compEnvC scope cl C X.env) fp) ifs T)
    (he : ∀ (s : Shared) (H : Hp) (C : Addr) (cl : List (Str × Addr)) (fp : List Addr), DE (X.blk s H scope (compEnvC scope cl C X.env) fp) elt El)
    (hw : ∀ j ∈ ws, j ∈ own.map (·.2) := by decide) (hc : X.calm = true := by rfl) (hs : ∀ x, foldedSetIterable iter X.env x = pure x := by intro _; rfl) :
    DE X (.ListComp elt [⟨tg, iter, ifs, 0⟩] scope pos) (evLc (own.map (·.2)) I G T El) := pe_imp (pe_lc hc hN hi ok hg ht he hs) fun _ _ _ h => lc_run hw h
theorem ds_setLc (i : Nat) (own : List (Str × Nat)) {y : Str} {py spos : Pos} (hN : X.N.Nodup) (hi : DI X false tg iter I) (ok : BlkOk X.N X.env.scope scope own)
    (hg : ∀ (s : Shared) (H : Hp) (C : Addr) (cl : List (Str × Addr)) (fp : List Addr), DG (X.blk s H scope (compEnvC scope cl C X.env) fp) tg ws G)
    (ht : ∀ (s : Shared) (H : Hp) (C : Addr) (cl : List (Str × Addr)) (fp : List Addr), DTs (X.blk s H scope (compEnvC scope cl C X.env) fp) ifs T)
    (he : ∀ (s : Shared) (H : Hp) (C : Addr) (cl : List (Str × Addr)) (fp : List Addr), DE (X.blk s H scope (compEnvC scope cl C X.env) fp) elt El)
    (hy : X.N[i]? = some y := by rfl) (hyl : X.env.scope.names.lookup y = some .local := by rfl)
    (hsw : swapsWith (.ListComp elt [⟨tg, iter, ifs, 0⟩] scope pos) (some (.Name y py)) spos.line X.env = pure true := by exact sw_true rfl rfl rfl (by decide +kernel))
    (hw : ∀ j ∈ ws, j ∈ own.map (·.2) := by decide) (hc : X.calm = true := by rfl) (hs : ∀ x, foldedSetIterable iter X.env x = pure x := by intro _; rfl) :
    DS X (.Assign [.Name y py] (.ListComp elt [⟨tg, iter, ifs, 0⟩] scope pos) spos) (exSet i (evLc (own.map (·.2)) I G T El)) := ps_imp (ps_setLc hc hN hy hyl hsw hi ok hg ht he hs) fun E σ H h => by
  have h2 := set_run h
  obtain ⟨γ, O, ρ, S, d, c, S', R, e, q⟩ := h2
  exact lc_run hw ⟨γ, O, ρ, S, d, c, S', R, e, q⟩
end

/-! ### built-ins by their names -/
section
variable {X : Cx} {e : Expr} {es : List Expr} {p pos : Pos} {g : EvA}
theorem de_len (hm : X.mg "len" = none) (ha : DA X [e] g) (hg : Gl X "len" := by rfl) (he : starEach [e] X.env = (false, eval e X.env) :: starEach [] X.env := by rfl) (hpl : (backTo pos (starEach [] X.env)).any (·.1) = false := by rfl) : DE X (.Call (.Name "len" p) [e] [] pos) (evB lenD g) :=
  de_callB call_len_seq b_len hm PySem.boot_len ha hg (by decide) (by decide) he hpl
theorem de_abs (hm : X.mg "abs" = none) (ha : DA X [e] g) (hg : Gl X "abs" := by rfl) (he : starEach [e] X.env = (false, eval e X.env) :: starEach [] X.env := by rfl) (hpl : (backTo pos (starEach [] X.env)).any (·.1) = false := by rfl) : DE X (.Call (.Name "abs" p) [e] [] pos) (evB absD g) :=
  de_callB call_abs b_abs hm (by decide +kernel) ha hg (by decide) (by decide) he hpl
theorem de_intf (hm : X.mg "int" = none) (ha : DA X [e] g) (hg : Gl X "int" := by rfl) (he : starEach [e] X.env = (false, eval e X.env) :: starEach [] X.env := by rfl) (hpl : (backTo pos (starEach [] X.env)).any (·.1) = false := by rfl) : DE X (.Call (.Name "int" p) [e] [] pos) (evB intD g) :=
  de_callTy call_int1 b_int hm (by decide +kernel) ha hg (by decide) (by decide) he hpl
theorem de_tuplef (hm : X.mg "tuple" = none) (ha : DA X [e] g) (hg : Gl X "tuple" := by rfl) (he : starEach [e] X.env = (false, eval e X.env) :: starEach [] X.env := by rfl) (hpl : (backTo pos (starEach [] X.env)).any (·.1) = false := by rfl) : DE X (.Call (.Name "tuple" p) [e] [] pos) (evB tupleD g) :=
  de_callTy call_tuple_of b_tuple hm (by decide +kernel) ha hg (by decide) (by decide) he hpl
theorem de_listf (hm : X.mg "list" = none) (ha : DA X [e] g) (hg : Gl X "list" := by rfl) (he : starEach [e] X.env = (false, eval e X.env) :: starEach [] X.env := by rfl) (hpl : (backTo pos (starEach [] X.env)).any (·.1) = false := by rfl) : DE X (.Call (.Name "list" p) [e] [] pos) (evB listD g) :=
  de_callTy call_list_of b_list hm (by decide +kernel) ha hg (by decide) (by decide) he hpl
theorem de_sum (hm : X.mg "sum" = none) (ha : DA X [e] g) (hc : X.calm = true := by rfl) (hg : Gl X "sum" := by rfl) (he : starEach [e] X.env = (false, eval e X.env) :: starEach [] X.env := by rfl) (hpl : (backTo pos (starEach [] X.env)).any (·.1) = false := by rfl) : DE X (.Call (.Name "sum" p) [e] [] pos) (evB sumD g) :=
  de_callB (cr_sum hc) b_sum hm (by decide +kernel) ha hg (by decide) (by decide) he hpl
theorem de_any (hm : X.mg "any" = none) (ha : DA X [e] g) (hc : X.calm = true := by rfl) (hg : Gl X "any" := by rfl) (he : starEach [e] X.env = (false, eval e X.env) :: starEach [] X.env := by rfl) (hpl : (backTo pos (starEach [] X.env)).any (·.1) = false := by rfl) : DE X (.Call (.Name "any" p) [e] [] pos) (evB anyD g) :=
  de_callB (cr_any hc) b_any hm (by decide +kernel) ha hg (by decide) (by decide) he hpl
theorem de_all (hm : X.mg "all" = none) (ha : DA X [e] g) (hc : X.calm = true := by rfl) (hg : Gl X "all" := by rfl) (he : starEach [e] X.env = (false, eval e X.env) :: starEach [] X.env := by rfl) (hpl : (backTo pos (starEach [] X.env)).any (·.1) = false := by rfl) : DE X (.Call (.Name "all" p) [e] [] pos) (evB allD g) :=
  de_callB (cr_all hc) b_all hm (by decide +kernel) ha hg (by decide) (by decide) he hpl
theorem de_max1 (hm : X.mg "max" = none) (ha : DA X [e] g) (hc : X.calm = true := by rfl) (hg : Gl X "max" := by rfl) (he : starEach [e] X.env = (false, eval e X.env) :: starEach [] X.env := by rfl) (hpl : (backTo pos (starEach [] X.env)).any (·.1) = false := by rfl) : DE X (.Call (.Name "max" p) [e] [] pos) (evB maxLD g) :=
  de_callB (cr_max hc) b_maxL hm (by decide +kernel) ha hg (by decide) (by decide) he hpl
theorem de_min1 (hm : X.mg "min" = none) (ha : DA X [e] g) (hc : X.calm = true := by rfl) (hg : Gl X "min" := by rfl) (he : starEach [e] X.env = (false, eval e X.env) :: starEach [] X.env := by rfl) (hpl : (backTo pos (starEach [] X.env)).any (·.1) = false := by rfl) : DE X (.Call (.Name "min" p) [e] [] pos) (evB minLD g) :=
  de_callB (cr_min hc) b_minL hm (by decide +kernel) ha hg (by decide) (by decide) he hpl
variable {e2 : Expr}
theorem de_max2 (hm : X.mg "max" = none) (ha : DA X [e, e2] g) (hc : X.calm = true := by rfl) (hg : Gl X "max" := by rfl) (he : starEach [e, e2] X.env = (false, eval e X.env) :: starEach [e2] X.env := by rfl) (hpl : (backTo pos (starEach [e2] X.env)).any (·.1) = false := by rfl) : DE X (.Call (.Name "max" p) [e, e2] [] pos) (evB max2D g) :=
  de_callB (call_max2 hc) b_max2 hm (by decide +kernel) ha hg (by decide) (by decide) he hpl
theorem de_min2 (hm : X.mg "min" = none) (ha : DA X [e, e2] g) (hc : X.calm = true := by rfl) (hg : Gl X "min" := by rfl) (he : starEach [e, e2] X.env = (false, eval e X.env) :: starEach [e2] X.env := by rfl) (hpl : (backTo pos (starEach [e2] X.env)).any (·.1) = false := by rfl) : DE X (.Call (.Name "min" p) [e, e2] [] pos) (evB min2D g) :=
  de_callB (call_min2 hc) b_min2 hm (by decide +kernel) ha hg (by decide) (by decide) he hpl
theorem de_gcd (hm : X.mg "gcd" = some (.builtin "math.gcd")) (ha : DA X [e, e2] g) (hg : Gl X "gcd" := by rfl) (he : starEach [e, e2] X.env = (false, eval e X.env) :: starEach [e2] X.env := by rfl) (hpl : (backTo pos (starEach [e2] X.env)).any (·.1) = false := by rfl) : DE X (.Call (.Name "gcd" p) [e, e2] [] pos) (evB gcdD g) :=
  pe_imp (pe_callBfun cr_gcd hg hm ha (by decide) he hpl) fun _ _ _ h => callB_run b_gcd h
end

/-! ### xs.index(y), flat items -/
def idxOf (x : D) : List D → Option Nat
  | [] => none
  | d :: r => if eqS d x then some 0 else (idxOf x r).map (· + 1)
def indexD : D → D → Option (D × Cl)
  | .list ds, x => if flatS x = true ∧ ds.all flatS = true then match idxOf x ds with | some j => some (.int (j : Nat), .cl) | none => none else none
  | _, _ => none
theorem idxOf_ok {x : D} : ∀ {ds : List D} {j : Nat}, idxOf x ds = some j → ∃ z, ds[j]? = some z ∧ eqS z x = true ∧ ∀ m z', m < j → ds[m]? = some z' → eqS z' x = false
  | [], j, e => by cases e
  | d :: r, j, e => by
    unfold idxOf at e
    split at e
    · rename_i h
      cases e
      exact ⟨d, rfl, h, fun m z' h => absurd h (Nat.not_lt_zero m)⟩
    · rename_i h
      cases hr : idxOf x r with
      | none => rw [hr] at e; cases e
      | some i =>
        rw [hr] at e
        cases e
        obtain ⟨z, h1, h2, h3⟩ := idxOf_ok hr
        refine ⟨z, by simpa using h1, h2, fun m z' hm hz => ?_⟩
        cases m with
        | zero => simp at hz; subst hz; simpa using h
        | succ m => exact h3 m z' (Nat.lt_of_succ_lt_succ hm) (by simpa using hz)
theorem de_index {X : Cx} {o e : Expr} {f g : EvF} {apos cpos : Pos} (ho : DE X o f) (he : DE X e g) (hst : starEach [e] X.env = (false, eval e X.env) :: starEach [] X.env := by rfl)
    (hbase : attributeBase o "index" X.env (eval o X.env) = eval o X.env := by rfl)
    (hfew : ((backTo cpos (starEach [e] X.env)).all (fun x => !x.1) && (backToKw cpos (keywordEach [] X.env)).all (fun x => x.1.isSome)
      && decide (([e] : List Expr).length + ([] : List Keyword).length + (if ([] : List Keyword).isEmpty then 0 else 1) < 30)) = true := by rfl)
    (hline : (apos.endLine == cpos.line) = true := by rfl) (hplain : (backTo cpos (starEach [] X.env)).any (·.1) = false := by rfl) :
    DE X (.Call (.Attribute o "index" apos) [e] [] cpos) (ev2 indexD f g) :=
  pe_imp (pe_bm PySem.F.plainAttrs_list PySem.F.slot_list_index PySem.F.type_list_index mt_index ho (pa_cons he pa_nil hst) hbase hfew hline hst hplain) fun σ H Q ⟨γ, O, ρ, S, d, c, S', R, e, q⟩ => by
    unfold ev2 at e
    split at e
    · rename_i a ca S1 ea
      split at e
      · rename_i b cb S2 eb
        split at e
        · rename_i d' c' eo
          cases e
          unfold indexD at eo
          split at eo
          · rename_i ds
            split at eo
            · rename_i hf
              split at eo
              · rename_i j ej
                cases eo
                refine seq1 R ea fun H1 v e1 R1 b1 V => ?_
                obtain ⟨p, xs, rfl, hp, rp⟩ := V.list
                refine ⟨.inl ⟨rfl, xs, SqL.of hp⟩, ?_⟩
                refine seq1 R1 eb fun H2 u e2 R2 b2 W => ?_
                obtain ⟨p2, xs2, e9, hp2, rp2⟩ := (V.ext R1 e2).list
                cases e9
                obtain ⟨z, h1, h2, h3⟩ := idxOf_ok ej
                have hp3 := hp2
                have hx : xs2 = xs := by
                  obtain ⟨q1, q2, q3, q4, q5⟩ := (V.ext R1 e2).list
                  exact rfl.trans (by
                    have : H2 p = some (.lst xs) := by
                      by_cases ha : p = γ.ad
                      · rw [ha, R1.src.d] at hp; cases hp
                      · by_cases hl : p = γ.al
                        · exact (by
                            cases ca with
                            | cl => obtain ⟨a9, x9, e8, hn, _⟩ := V; cases e8; exact (hn (.inl (hl ▸ R1.nl))).elim
                            | al => obtain ⟨a9, e8, ho9, _⟩ := V; cases e8; exact ((R1.one ho9).2 hl).elim
                            | fr => obtain ⟨a9, e8, _, _, hn, _⟩ := V; cases e8; exact (hn hl).elim)
                        · exact e2 p _ ha hl hp
                    rw [this] at hp2
                    cases hp2
                    rfl)
                subst hx
                have rb : Rp γ.ad H2 (U γ O) b u := by
                  cases cb with
                  | cl => exact W
                  | al => obtain ⟨p9, rfl, _, h9⟩ := W; cases b <;> first | exact h9.elim | cases hf.1
                  | fr => obtain ⟨p9, rfl, _, _, _, h9⟩ := W; cases b <;> first | exact h9.elim | cases hf.1
                obtain ⟨zv, hz, rz⟩ := RpL.get rp2 h1
                have fl : ∀ (m : Nat) (z' : D), ds[m]? = some z' → flatS z' = true := fun m z' h => List.all_eq_true.mp hf.2 z' (List.mem_of_getElem? h)
                refine ⟨p, xs2, u, j, zv, rfl, rfl, SqL.of hp2, flatS_V hf.1 rb, all_flatV hf.2 rp2, hz, by rw [eqS_V (fl _ _ h1) hf.1 rz rb]; exact h2, fun m zv' hm hz' => ?_, q H2 _ (e1.trans e2) R2.src rfl⟩
                have hlen : m < ds.length := by
                  have := (List.getElem?_eq_some_iff.mp hz').1
                  rw [RpL.length rp2] at this
                  exact this
                have hd : ds[m]? = some ds[m] := List.getElem?_eq_getElem hlen
                obtain ⟨zv2, h4, r4⟩ := RpL.get rp2 hd
                rw [hz'] at h4; cases h4
                rw [eqS_V (fl _ _ hd) hf.1 r4 rb]
                exact h3 m _ hm hd
              · cases eo
            · cases eo
          · cases eo
        · cases e
      · cases e
    · cases e

/-! ### a def of the text -/
def runB (L : Nat) (B : ExF) : List D → Pick → Option (D × Pick) := fun ds S => match B (ds.map Slot.val ++ List.replicate (L - ds.length) Slot.un) S with
  | some (.rt d, S') => some (d, S')
  | some (.nx _, S') => some (.none, S')
  | _ => none
theorem start_sl {γ : G} {H : Hp} : ∀ {ds : List D} {vs : List V} (n : Nat) (_ : RpL γ.ad H γ.N ds vs) (i : Nat), SlotOk γ (fun _ => False) H ((ds.map Slot.val ++ List.replicate n Slot.un)[i]?) ((vs.map some ++ List.replicate n none)[i]?)
  | [], vs, n, h, i => by
    rw [show vs = [] from h]
    simp only [List.map_nil, List.nil_append]
    by_cases hi : i < n
    · rw [List.getElem?_replicate, if_pos hi]; trivial
    · rw [List.getElem?_replicate, if_neg hi]; trivial
  | d :: ds, xs, n, h, i => by
    obtain ⟨v, vs, rfl, h1, h2⟩ := h
    cases i with
    | zero => exact ⟨v, rfl, Rp.kp ⟨fun _ _ h => h, fun a xs hn h => ⟨h, fun z => hn (z.resolve_right (fun z => z))⟩, fun a xs hn h => ⟨h, fun z => hn (z.resolve_right (fun z => z))⟩⟩ d v h1⟩
    | succ i => exact start_sl n h2 i
theorem no_own (ds : List D) (n i : Nat) (d : D) : (ds.map Slot.val ++ List.replicate n Slot.un)[i]? ≠ some (.own d) := fun h => by
  have hm := List.mem_of_getElem? h
  rcases List.mem_append.mp hm with h | h
  · obtain ⟨_, _, e⟩ := List.mem_map.mp h
    cases e
  · have := List.eq_of_mem_replicate h
    cases this
theorem fn_ok {P : Program} {w : World} {K : PySem.W.Frag} {mg : Str → Option Value} {base : Heap} {x qual : Str} {st : Stmt} {f : Addr} {fd : FuncData} {N ps : List Str} {k n : Nat} {B : ExF} (F : Fun K x qual st f fd) (S : FnScope N ps (defScope st)) (hn : ps.length = n)
    (hbody : ∀ (cdv : Value) (A : Around) (outer : List PySem.Env) (s : Shared) (H : Hp) (E : XK), Room k (A.deeper (envOfC qual (defScope st) s.heap.objs.size f cdv)) → DSs (cxOf CX0 P w K mg base N qual (defScope st) f cdv A outer s H E).nox (defBody st) B) :
    FnOk P w K mg base CX0 (k + 1) f fd ps (spF n (runB N.length B)) := by
  refine F.ok S (fun vs H Q E h => ?_) (fun cdv A outer s H vs Q E hr h => ?_)
  · obtain ⟨N', ad, al, S0, ds, d, S', _, _, _, _, hl, rp, _⟩ := h
    rw [RpL.length rp, hl, hn]
  · obtain ⟨N', ad, al, S0, ds, d, S', hs, h1, h2, hd, hl, rp, hf, q⟩ := h
    refine ⟨tS B, hbody cdv A outer s H E hr, ?_⟩
    unfold runB at hf
    have R : Rel ⟨H, N', ad, al⟩ (fun _ => False) (L2.start N vs) (ds.map Slot.val ++ List.replicate (N.length - ds.length) Slot.un) S0 H := {
      src := hs
      nd := h1
      nl := h2
      dom := fun a z => hd a (z.resolve_right (fun z => z))
      sep := fun a z => z.elim
      base := fun a o _ _ z => z
      new := fun a z => z.elim
      len := by unfold L2.start; rw [List.length_append, List.length_append, List.length_map, List.length_map, List.length_replicate, List.length_replicate, RpL.length rp]
      sl := fun i => by
        unfold L2.start
        rw [RpL.length rp]
        exact start_sl (γ := ⟨H, N', ad, al⟩) _ rp i
      inj := fun i j p d1 e1 z _ _ _ => (no_own _ _ _ _ z).elim }
    split at hf
    · rename_i d' S1 eb
      cases hf
      exact ⟨_, _, _, S0, _, _, R, eb, fun H' v r => q H' v r.base r.src r.val⟩
    · rename_i ρ' S1 eb
      cases hf
      exact ⟨_, _, _, S0, _, _, R, eb, fun σ' H' O' R' => q H' _ R'.base R'.src rfl⟩
    · cases hf
theorem fnD_of {P : Program} {w : World} {K : PySem.W.Frag} {mg : Str → Option Value} {base : Heap} {x : Str} {st : Stmt} {f : Addr} {fd : FuncData} {ps : List Str} {k n : Nat} {fn : List D → Pick → Option (D × Pick)} (F : Fun K x x st f fd)
    (h : FnOk P w K mg base CX0 k f fd ps (spF n fn)) (hm : mg x = some (.ref f)) (hb : Binds K fd ps []) : FnD P w K mg base k x n fn := ⟨f, fd, ps, h, hm, F.kp, hb⟩

/-! ### the law -/
/-- the promise of the def that opens the source -/
def spOpen (K : PySem.W.Frag) (st : List Int → Pick) : Sp := fun vs H Q _ => ∃ (a : Addr) (ns : List Int), vs = [.ref a] ∧ SqL K H a (ns.map V.int) ∧ ns.length ≤ 63 ∧ ∀ H' p q, SrcAt p q H' (st ns) → Q (.ref p) H'
def spLaw (K : PySem.W.Frag) : Sp := fun vs H Q _ => ∃ (a : Addr) (ns : List Int), vs = [.ref a] ∧ SqL K H a (ns.map V.int) ∧ ns.length ≤ 63 ∧ ∀ H', Q (.bl true) H'
theorem law_ok {P : Program} {w : World} {K : PySem.W.Frag} {mg : Str → Option Value} {base : Heap} {x qual : Str} {st : Stmt} {first : Stmt} {rest : List Stmt} {f : Addr} {fd : FuncData} {N : List Str} {k i : Nat} {B : ExF} {op : List Int → Pick} {E0' : XK} (F : Fun K x qual st f fd) (S : FnScope N ["script"] (defScope st)) (hst : defBody st = first :: rest)
    (hfirst : ∀ (cdv : Value) (A : Around) (outer : List PySem.Env) (s : Shared) (H : Hp) (E : XK), Room k (A.deeper (envOfC qual (defScope st) s.heap.objs.size f cdv)) → PS (cxOf CX0 P w K mg base N qual (defScope st) f cdv A outer s H E).nox first (tAsg (tCall (spOpen K op) [] E0' (L2.tCons (tVar 0) L2.tNil)) (gName i)))
    (hbody : ∀ (cdv : Value) (A : Around) (outer : List PySem.Env) (s : Shared) (H : Hp) (E : XK), Room k (A.deeper (envOfC qual (defScope st) s.heap.objs.size f cdv)) → DSs (cxOf CX0 P w K mg base N qual (defScope st) f cdv A outer s H E).nox rest B)
    (hrun : ∀ ns : List Int, ns.length ≤ 63 → ∃ S', B ((List.replicate N.length Slot.un).set i (.val SRC)) (op ns) = some (.rt (.bool true), S')) :
    FnOk P w K mg base CX0 (k + 1) f fd ["script"] (spLaw K) := by
  refine F.ok S (fun vs H Q E h => ?_) (fun cdv A outer s H vs Q E hr h => ?_)
  · obtain ⟨a, ns, rfl, _⟩ := h
    rfl
  · obtain ⟨a, ns, rfl, hS, hl, q⟩ := h
    refine ⟨_, by rw [hst]; exact pss_cons (hfirst cdv A outer s H E hr) (hbody cdv A outer s H E hr), ?_⟩
    have h0 : (L2.start N [V.ref a])[0]? = some (some (V.ref a)) := rfl
    refine ⟨.ref a, h0, a, ns, rfl, hS, hl, fun H' p q' hs => ?_⟩
    obtain ⟨S', e⟩ := hrun ns hl
    refine ⟨⟨fun _ => none, fun b => b = p ∨ b = q', p, q'⟩, fun _ => False, _, op ns, _, S', ?_, e, fun H2 v r => ?_⟩
    · have hN : 1 ≤ N.length := by
        have := S.pre
        cases N with
        | nil => cases this
        | cons _ _ => simp
      have hlen : (L2.start N [V.ref a]).length = N.length := by
        unfold L2.start
        simp
        omega
      exact {
        src := hs
        nd := .inl rfl
        nl := .inr rfl
        dom := fun b z => by
          rcases z with (z | z) | z
          · rw [z]; exact ⟨_, hs.d, trivial⟩
          · rw [z]; exact ⟨_, hs.l, trivial⟩
          · exact z.elim
        sep := fun b z => z.elim
        base := fun b o _ _ z => by cases z
        new := fun b z => z.elim
        len := by rw [List.length_set, List.length_set, List.length_replicate, hlen]
        sl := fun j => by
          rw [get_set, get_set]
          by_cases hj : i = j
          · rw [if_pos hj, if_pos hj, List.length_replicate, hlen]
            by_cases hi : i < N.length
            · rw [if_pos hi, if_pos hi]
              exact ⟨.ref p, rfl, .inl ⟨rfl, rfl⟩⟩
            · rw [if_neg hi]; trivial
          · rw [if_neg hj]
            by_cases hi : j < N.length
            · rw [List.getElem?_replicate, if_pos hi]; trivial
            · rw [List.getElem?_replicate, if_neg hi]; trivial
        inj := fun a b p' d1 e1 z _ _ _ => by
          rw [get_set] at z
          by_cases hj : i = a
          · rw [if_pos hj] at z
            split at z <;> cases z
          · rw [if_neg hj] at z
            have := List.eq_of_mem_replicate (List.mem_of_getElem? z)
            cases this }
    · rw [show v = .bl true from r.val]
      exact q H2
end
end FD

/-! FD8: the law's own source of numbers, opened and drawn from (the form of k37, k38, k70) -/
namespace FD
open PySem PySem.Spec PyProof.Rows L2

/-- turns that any while may take -/
def FUEL : Nat := 1000000000000

def absI (i : Int) : Int := if i < 0 then -i else i
def stirF (ns : List Int) : Int := ns.foldl (fun s c => (s * 69069 + c * 31 + 5) % 2147483629) 11
def openF (ns : List Int) : Pick := ⟨(ns.map absI).reverse, 1, stirF ns, 0⟩
def popF : Nat → Pick → Pick
  | 0, S => S
  | n + 1, S => if S.left < 2 ∧ 0 < S.cells.length then popF n { S with left := S.cells.getLastD 0, cells := S.cells.dropLast } else S
def pickF (m : Int) (S : Pick) : Int × Pick :=
  if m < 2 then (0, S) else
    let S1 := popF S.cells.length S
    if 1 < S1.left then (S1.left % m, { S1 with left := S1.left / m })
    else ((((((S1.mixed + (S1.turn + 1) * 104729) % 998244353) * ((S1.mixed + (S1.turn + 1) * 104729) % 998244353) + (S1.turn + 1) * 17) % 2147483647) / 16) % m, { S1 with turn := S1.turn + 1 })
noncomputable def fnPick : List D → Pick → Option (D × Pick)
  | [.dict [(.none, .none)], .int m], S => grd (m < 1073741824) (some (.int (pickF m S).1, (pickF m S).2))
  | _, _ => none
theorem pick_lo (m : Int) (S : Pick) : 0 ≤ (pickF m S).1 := by
  unfold pickF
  split
  · exact Int.le_refl 0
  · simp only
    split
    · exact Int.emod_nonneg _ (by omega)
    · exact Int.emod_nonneg _ (by omega)
theorem pick_hi (m : Int) (S : Pick) (h : 1 ≤ m) : (pickF m S).1 < m := by
  unfold pickF
  split
  · show (0 : Int) < m
    omega
  · simp only
    split
    · exact Int.emod_lt_of_pos _ (by omega)
    · exact Int.emod_lt_of_pos _ (by omega)

theorem srcKV_cells {al : Addr} {S : Pick} : valV (srcKV al S) (.inr "cells") = some (.ref al) := rfl
theorem srcKV_left {al : Addr} {S : Pick} : valV (srcKV al S) (.inr "left") = some (.int S.left) := rfl
theorem srcKV_mixed {al : Addr} {S : Pick} : valV (srcKV al S) (.inr "mixed") = some (.int S.mixed) := rfl
theorem srcKV_turn {al : Addr} {S : Pick} : valV (srcKV al S) (.inr "turn") = some (.int S.turn) := rfl
theorem put_left {al : Addr} {S : Pick} {n : Int} : putK (srcKV al S) (.inr "left") (.int n) = srcKV al { S with left := n } := rfl
theorem put_turn {al : Addr} {S : Pick} {n : Int} : putK (srcKV al S) (.inr "turn") (.int n) = srcKV al { S with turn := n } := rfl
theorem put_mixed {al : Addr} {S : Pick} {n : Int} : putK (srcKV al S) (.inr "mixed") (.int n) = srcKV al { S with mixed := n } := rfl
theorem merge_src {al : Addr} {S : Pick} : mergeK [] (srcKV al S) = srcKV al S := rfl
theorem SrcAt.upd {ad al : Addr} {H : Hp} {S S' : Pick} (h : SrcAt ad al H S) (hc : S'.cells = S.cells) : SrcAt ad al (upd H ad (.dK (srcKV al S'))) S' := by
  have hne : al ≠ ad := fun z => by have := h.l; rw [z, h.d] at this; cases this
  exact ⟨upd_same, by rw [upd_ne hne, hc]; exact h.l⟩
end FD

/-! FM1: lemmas about what the terms of the data layer compute -/
namespace FD
open PySem

theorem seq_step {F G : ExF} {ρ ρ1 : Env} {S S1 : Pick} {r : Option (Fl × Pick)} (h : F ρ S = some (.nx ρ1, S1)) (h2 : G ρ1 S1 = r) : exSeq F G ρ S = r := by
  unfold exSeq; rw [h]; exact h2
theorem seq_rt {F G : ExF} {ρ : Env} {S S1 : Pick} {d : D} (h : F ρ S = some (.rt d, S1)) : exSeq F G ρ S = some (.rt d, S1) := by
  unfold exSeq; rw [h]
theorem seq_ct {F G : ExF} {ρ ρ1 : Env} {S S1 : Pick} (h : F ρ S = some (.ct ρ1, S1)) : exSeq F G ρ S = some (.ct ρ1, S1) := by
  unfold exSeq; rw [h]

/-- a loop whose turns go on -/
theorem forL_inv {G : GvF} {F : ExF} (P : Nat → Env → Pick → Prop) : ∀ (items : List D) (k : Nat) (ρ : Env) (S : Pick), P k ρ S →
    (∀ i d ρ S, items[i]? = some d → P (k + i) ρ S → ∃ ρ1 ρ2 S2, G d ρ = some ρ1 ∧ (F ρ1 S = some (.nx ρ2, S2) ∨ F ρ1 S = some (.ct ρ2, S2)) ∧ P (k + i + 1) ρ2 S2) →
    ∃ ρ' S', forL G F items ρ S = some (.nx ρ', S') ∧ P (k + items.length) ρ' S'
  | [], k, ρ, S, h, _ => ⟨ρ, S, rfl, h⟩
  | d :: r, k, ρ, S, h, st => by
    obtain ⟨ρ1, ρ2, S2, e1, e2, h2⟩ := st 0 d ρ S rfl h
    obtain ⟨ρ', S', e3, h3⟩ := forL_inv P r (k + 1) ρ2 S2 h2 (fun i d' ρ S hi hp => by
      have := st (i + 1) d' ρ S (by simpa using hi) (by rw [show k + (i + 1) = k + 1 + i by omega]; exact hp)
      rw [show k + (i + 1) + 1 = k + 1 + i + 1 by omega] at this
      exact this)
    refine ⟨ρ', S', ?_, by rw [List.length_cons, show k + (r.length + 1) = k + 1 + r.length by omega]; exact h3⟩
    unfold forL
    rw [e1]
    rcases e2 with e2 | e2
    · simp only [e2]; exact e3
    · simp only [e2]; exact e3
/-- a loop that carries one state -/
theorem forL_fold {α β : Type} {G : GvF} {F : ExF} {S : Pick} (env : α → Env) (f : α → β → α) (enc : β → D) : ∀ (items : List β) (a : α),
    (∀ b a, b ∈ items → ∃ ρ1, G (enc b) (env a) = some ρ1 ∧ F ρ1 S = some (.nx (env (f a b)), S)) → forL G F (items.map enc) (env a) S = some (.nx (env (items.foldl f a)), S)
  | [], a, _ => rfl
  | b :: r, a, h => by
    obtain ⟨ρ1, e1, e2⟩ := h b a (by simp)
    show forL G F (enc b :: r.map enc) (env a) S = _
    unfold forL
    rw [e1]
    simp only [e2]
    exact forL_fold env f enc r (f a b) fun b' a' hb => h b' a' (by simp [hb])
theorem whileN_inv {t : EvT} {F : ExF} (P Q : Env → Pick → Prop) (μ : Env → Pick → Nat)
    (step : ∀ ρ S, P ρ S → (∃ S1, t ρ S = some (false, S1) ∧ Q ρ S1) ∨ ∃ S1 ρ2 S2, t ρ S = some (true, S1) ∧ F ρ S1 = some (.nx ρ2, S2) ∧ P ρ2 S2 ∧ μ ρ2 S2 < μ ρ S) :
    ∀ (n : Nat) (ρ : Env) (S : Pick), P ρ S → μ ρ S < n → ∃ ρ' S', whileN t F n ρ S = some (.nx ρ', S') ∧ Q ρ' S'
  | 0, _, _, _, h => absurd h (Nat.not_lt_zero _)
  | n + 1, ρ, S, hp, hm => by
    rcases step ρ S hp with ⟨S1, e, hq⟩ | ⟨S1, ρ2, S2, e1, e2, hp2, hlt⟩
    · exact ⟨ρ, S1, by unfold whileN; rw [e], hq⟩
    · obtain ⟨ρ', S', e3, hq⟩ := whileN_inv P Q μ step n ρ2 S2 hp2 (by omega)
      exact ⟨ρ', S', by unfold whileN; rw [e1]; simp only [e2]; exact e3, hq⟩
/-- a comprehension over items, each its own element -/
theorem lcL_map {G : GvF} {T : EvT} {El : EvF} {ρ : Env} {S : Pick} (f : D → D) : ∀ (items acc : List D),
    (∀ d ∈ items, ∃ ρ1 c, G d ρ = some ρ1 ∧ T ρ1 S = some (true, S) ∧ El ρ1 S = some (f d, c, S) ∧ c ≠ .al) → acc.length + items.length ≤ 16777216 →
    lcL G T El items ρ S acc = some (acc ++ items.map f, S)
  | [], acc, _, _ => by simp [lcL]
  | d :: r, acc, h, hl => by
    obtain ⟨ρ1, c, e1, e2, e3, hc⟩ := h d (by simp)
    unfold lcL
    rw [e1]
    simp only [e2, e3]
    have ih := lcL_map (G := G) (T := T) (El := El) (ρ := ρ) (S := S) f r (acc ++ [f d]) (fun d' hd => h d' (by simp [hd])) (by simp at hl ⊢; omega)
    have hlt : OkLen (acc.length + 1) := ⟨by simp at hl; omega⟩
    cases c with
    | al => exact (hc rfl).elim
    | cl => simp only [grd_of hlt]; rw [ih]; simp
    | fr => simp only [grd_of hlt]; rw [ih]; simp

/-! ### ranges -/
theorem rgD_nil (lo : Int) : rgD lo 0 = [] := rfl
theorem rgD_length (lo : Int) (n : Nat) : (rgD lo n).length = n := by simp [rgD]
theorem rgD_get {lo : Int} {n i : Nat} {d : D} (h : (rgD lo n)[i]? = some d) : i < n ∧ d = .int (lo + i) := by
  unfold rgD at h
  rw [List.getElem?_map] at h
  cases hr : (List.range n)[i]? with
  | none => rw [hr] at h; cases h
  | some j =>
    rw [hr] at h
    obtain ⟨hl, e⟩ := List.getElem?_eq_some_iff.mp hr
    rw [List.getElem_range] at e
    rw [List.length_range] at hl
    subst e
    cases h
    exact ⟨hl, rfl⟩

/-! ### fractions -/
/-- the pair of a fraction in lowest terms -/
def frq (r : Rat) : D := .tuple [.int r.num, .int r.den]
theorem frq_inj {a b : Rat} (h : frq a = frq b) : a = b := by
  unfold frq at h
  injection h with h
  injection h with h1 h2
  injection h1 with h1
  injection h2 with h2 _
  injection h2 with h2
  exact Rat.ext h1 (by exact_mod_cast h2)
theorem eqv_int (a b : Int) : PyData.eqv (.int a) (.int b) = (a == b) := by simp [PyData.eqv]
theorem eqv_frq (a b : Rat) : PyData.eqv (frq a) (frq b) = decide (a = b) := by
  unfold frq
  simp only [PyData.eqv, PyData.eqvAll, Bool.and_true]
  by_cases h : a = b
  · subst h; simp
  · rw [decide_eq_false h]
    rw [Bool.and_eq_false_iff]
    by_cases h1 : a.num = b.num
    · right
      rw [beq_eq_false_iff_ne]
      intro h2
      exact h (Rat.ext h1 (by exact_mod_cast h2))
    · left
      rw [beq_eq_false_iff_ne]
      exact h1
theorem shaped_frq (a : Rat) : SeqAt.shaped (frq a) = true := by
  unfold frq
  simp [SeqAt.shaped, PyData.canLay0, PyData.canLayAll0, PyData.depth, PyData.depthAll]
end FD
namespace FD
open PySem
theorem for_rng {G : GvF} {F : ExF} (P : Nat → Env → Pick → Prop) (lo : Int) (n : Nat) (ρ : Env) (S : Pick) (h0 : P 0 ρ S)
    (step : ∀ (i : Nat) ρ S, i < n → P i ρ S → ∃ ρ1 ρ2 S2, G (.int (lo + i)) ρ = some ρ1 ∧ F ρ1 S = some (.nx ρ2, S2) ∧ P (i + 1) ρ2 S2) :
    ∃ ρ' S', forL G F (rgD lo n) ρ S = some (.nx ρ', S') ∧ P n ρ' S' := by
  have h := forL_inv (G := G) (F := F) P (rgD lo n) 0 ρ S h0 (fun i d ρ S hi hp => by
    obtain ⟨h1, rfl⟩ := rgD_get hi
    obtain ⟨ρ1, ρ2, S2, e1, e2, e3⟩ := step i ρ S h1 (by rw [Nat.zero_add] at hp; exact hp)
    exact ⟨ρ1, ρ2, S2, e1, .inl e2, by rw [Nat.zero_add]; exact e3⟩)
  rw [rgD_length, Nat.zero_add] at h
  exact h
theorem for_map {β : Type} {G : GvF} {F : ExF} (P : Nat → Env → Pick → Prop) (l : List β) (enc : β → D) (ρ : Env) (S : Pick) (h0 : P 0 ρ S)
    (step : ∀ (i : Nat) (b : β) ρ S, l[i]? = some b → P i ρ S → ∃ ρ1 ρ2 S2, G (enc b) ρ = some ρ1 ∧ F ρ1 S = some (.nx ρ2, S2) ∧ P (i + 1) ρ2 S2) :
    ∃ ρ' S', forL G F (l.map enc) ρ S = some (.nx ρ', S') ∧ P l.length ρ' S' := by
  have h := forL_inv (G := G) (F := F) P (l.map enc) 0 ρ S h0 (fun i d ρ S hi hp => by
    rw [List.getElem?_map] at hi
    cases hb : l[i]? with
    | none => rw [hb] at hi; cases hi
    | some b =>
      rw [hb] at hi
      cases hi
      obtain ⟨ρ1, ρ2, S2, e1, e2, e3⟩ := step i b ρ S hb (by rw [Nat.zero_add] at hp; exact hp)
      exact ⟨ρ1, ρ2, S2, e1, .inl e2, by rw [Nat.zero_add]; exact e3⟩)
  rw [List.length_map, Nat.zero_add] at h
  exact h
end FD
namespace FD
open PySem
theorem cut_to (ds : List D) (k : Nat) : cutD ds none (some (k : Int)) = ds.take k := by
  unfold cutD
  rw [HT.sIx_none, HT.sIx_nat, List.drop_zero, Nat.sub_zero]
  by_cases h : k ≤ ds.length
  · rw [Nat.min_eq_left h]
  · rw [Nat.min_eq_right (by omega), List.take_of_length_le (Nat.le_refl _), List.take_of_length_le (by omega)]
theorem cut_from (ds : List D) (k : Nat) : cutD ds (some (k : Int)) none = ds.drop k := by
  unfold cutD
  rw [HT.sIx_none, HT.sIx_nat]
  by_cases h : k ≤ ds.length
  · rw [Nat.min_eq_left h, List.take_of_length_le (by rw [List.length_drop]; exact Nat.le_refl _)]
  · rw [Nat.min_eq_right (by omega), List.drop_of_length_le (Nat.le_refl _), List.drop_of_length_le (by omega)]
    simp
theorem cut_at (ds : List D) (k : Nat) (l : Nat) : cutD ds (some (k : Int)) (some (l : Int)) = (ds.drop k).take (l - k) := by
  unfold cutD
  rw [HT.sIx_nat, HT.sIx_nat]
  by_cases h : k ≤ ds.length
  · rw [Nat.min_eq_left h]
    by_cases h2 : l ≤ ds.length
    · rw [Nat.min_eq_left h2]
    · rw [Nat.min_eq_right (by omega), List.take_of_length_le (by rw [List.length_drop]; exact Nat.le_refl _), List.take_of_length_le (by rw [List.length_drop]; omega)]
  · rw [Nat.min_eq_right (by omega : ds.length ≤ k), List.drop_of_length_le (Nat.le_refl _), List.drop_of_length_le (by omega)]
    simp
theorem atI_at {ds : List D} {k : Nat} {d : D} (h : ds[k]? = some d) : L2.atI ds (k : Int) = some d := L2.atI_nat h
end FD

/-! printed by gen.py: what each def computes, as a term of the data layer -/
namespace LawK37
open FD
noncomputable section
abbrev fn_law_pick := FD.fnPick
open PySem FD
def B_in_least_terms : ExF :=
  exSeq (exSet 2 (evB gcdD (evCons (evV 0) (evCons (evV 1) (evNil)))))
      (exSeq (exSet 2 (evIf (evTB (ev2 (cmpI fun i j => decide (i < j)) (evV 1) (evC (.int 0)))) (ev2 subD (evC (.int 0)) (evV 2)) (evV 2)))
      (exRet (evTup (evCons (ev2 divW (evV 0) (evV 2)) (evCons (ev2 divW (evV 1) (evV 2)) (evNil))))))
def fn_in_least_terms : List D → Pick → Option (D × Pick) := runB 3 B_in_least_terms
def B_power_of_two : ExF :=
  exSeq (exSet 1 (evC (.int 1)))
      (exSeq (exFor (evRng1 (evCons (evV 0) (evNil))) (gvName 2) (exSet 1 (ev2 mulD (evV 1) (evC (.int 2)))))
      (exRet (evV 1)))
def fn_power_of_two : List D → Pick → Option (D × Pick) := runB 3 B_power_of_two
def B_rest_of : ExF :=
  exSeq (exAsg (evV 0) (gvTup 2 (gvCons (gvName 2) (gvCons (gvName 3) (gvNil)))))
      (exSeq (exFor (evRng1 (evCons (evV 1) (evNil))) (gvName 4) (exSet 2 (ev2 modD (ev2 mulD (evV 2) (evC (.int 2))) (evV 3))))
      (exRet (evCall fn_in_least_terms (evCons (evV 2) (evCons (evV 3) (evNil))))))
def fn_rest_of : List D → Pick → Option (D × Pick) := runB 5 B_rest_of
def B_digit_of : ExF :=
  exSeq (exAsg (evCall fn_rest_of (evCons (evV 0) (evCons (ev2 subD (evV 1) (evC (.int 1))) (evNil)))) (gvTup 2 (gvCons (gvName 2) (gvCons (gvName 3) (gvNil)))))
      (exRet (evB intD (evCons (ev2 (cmpI fun i j => decide (j ≤ i)) (ev2 mulD (evC (.int 2)) (evV 2)) (evV 3)) (evNil))))
def fn_digit_of : List D → Pick → Option (D × Pick) := runB 4 B_digit_of
def B_rests_till_again : ExF :=
  exSeq (exAsg (evV 0) (gvTup 2 (gvCons (gvName 1) (gvCons (gvName 2) (gvNil)))))
      (exSeq (exSet 3 (evLst (evNil)))
      (exSeq (exWhile FUEL (evTB (ev2 notInD (evV 1) (evV 3))) (exSeq (exApp 3 (evV 1))
      (exSet 1 (ev2 modD (ev2 mulD (evV 1) (evC (.int 2))) (evV 2)))))
      (exSeq (exFreeze 3) (exRet (evTup (evCons (evV 3) (evCons (ev2 indexD (evV 3) (evV 1)) (evNil))))))))
def fn_rests_till_again : List D → Pick → Option (D × Pick) := runB 4 B_rests_till_again
def B_fraction_wheel : ExF :=
  exSeq (exAsg (evCall fn_rests_till_again (evCons (evV 0) (evNil))) (gvTup 2 (gvCons (gvName 1) (gvCons (gvName 2) (gvNil)))))
      (exSeq (exSet 3 (evLc [4] (evSeq false (evV 1)) (gvName 4) (evYes) (evB intD (evCons (ev2 (cmpI fun i j => decide (j ≤ i)) (ev2 mulD (evC (.int 2)) (evV 4)) (ev2 ixD (evV 0) (evC (.int 1)))) (evNil)))))
      (exRet (evTup (evCons (evB tupleD (evCons (evSl (evV 3) (evNoPart) (evPart (evV 2))) (evNil))) (evCons (evB tupleD (evCons (evSl (evV 3) (evPart (evV 2)) (evNoPart)) (evNil))) (evNil))))))
def fn_fraction_wheel : List D → Pick → Option (D × Pick) := runB 5 B_fraction_wheel
def B_number_of_digits : ExF :=
  exSeq (exSet 1 (evC (.int 0)))
      (exSeq (exFor (evSeq true (evV 0)) (gvName 2) (exSet 1 (ev2 addD (ev2 mulD (evC (.int 2)) (evV 1)) (evV 2))))
      (exRet (evV 1)))
def fn_number_of_digits : List D → Pick → Option (D × Pick) := runB 3 B_number_of_digits
def B_fraction_by_wheel : ExF :=
  exSeq (exSet 2 (ev2 subD (evCall fn_power_of_two (evCons (evB lenD (evCons (evV 1) (evNil))) (evNil))) (evC (.int 1))))
      (exRet (evCall fn_in_least_terms (evCons (ev2 addD (ev2 mulD (evCall fn_number_of_digits (evCons (evV 0) (evNil))) (evV 2)) (evCall fn_number_of_digits (evCons (evV 1) (evNil)))) (evCons (ev2 mulD (evCall fn_power_of_two (evCons (evB lenD (evCons (evV 0) (evNil))) (evNil))) (evV 2)) (evNil)))))
def fn_fraction_by_wheel : List D → Pick → Option (D × Pick) := runB 3 B_fraction_by_wheel
def B_sum_of_two : ExF :=
  exRet (evCall fn_in_least_terms (evCons (ev2 addD (ev2 mulD (ev2 ixD (evV 0) (evC (.int 0))) (ev2 ixD (evV 1) (evC (.int 1)))) (ev2 mulD (ev2 ixD (evV 1) (evC (.int 0))) (ev2 ixD (evV 0) (evC (.int 1))))) (evCons (ev2 mulD (ev2 ixD (evV 0) (evC (.int 1))) (ev2 ixD (evV 1) (evC (.int 1)))) (evNil))))
def fn_sum_of_two : List D → Pick → Option (D × Pick) := runB 2 B_sum_of_two
def B_toss_sum : ExF :=
  exSeq (exSet 1 (ev2 ixD (evV 0) (evC (.int 1))))
      (exSeq (exAsg (evCall fn_rests_till_again (evCons (evV 0) (evNil))) (gvTup 2 (gvCons (gvName 2) (gvCons (gvName 3) (gvNil)))))
      (exSeq (exAsg (evTup (evCons (evTup (evCons (evC (.int 0)) (evCons (evC (.int 1)) (evNil)))) (evCons (evC (.int 1)) (evNil)))) (gvTup 2 (gvCons (gvName 4) (gvCons (gvName 5) (gvNil)))))
      (exSeq (exFor (evSeq true (evSl (evV 2) (evNoPart) (evPart (evV 3)))) (gvName 6) (exSeq (exSet 4 (evCall fn_sum_of_two (evCons (evV 4) (evCons (evTup (evCons (evV 6) (evCons (ev2 mulD (evV 1) (evV 5)) (evNil)))) (evNil)))))
      (exSet 5 (ev2 mulD (evV 5) (evC (.int 2))))))
      (exSeq (exAsg (evTup (evCons (evTup (evCons (evC (.int 0)) (evCons (evC (.int 1)) (evNil)))) (evCons (evC (.int 1)) (evNil)))) (gvTup 2 (gvCons (gvName 7) (gvCons (gvName 8) (gvNil)))))
      (exSeq (exFor (evSeq true (evSl (evV 2) (evPart (evV 3)) (evNoPart))) (gvName 6) (exSeq (exSet 7 (evCall fn_sum_of_two (evCons (evV 7) (evCons (evTup (evCons (evV 6) (evCons (ev2 mulD (evV 1) (evV 8)) (evNil)))) (evNil)))))
      (exSet 8 (ev2 mulD (evV 8) (evC (.int 2))))))
      (exRet (evCall fn_sum_of_two (evCons (evV 4) (evCons (evTup (evCons (ev2 mulD (ev2 ixD (evV 7) (evC (.int 0))) (evV 8)) (evCons (ev2 mulD (ev2 mulD (ev2 ixD (evV 7) (evC (.int 1))) (evV 5)) (ev2 subD (evV 8) (evC (.int 1)))) (evNil)))) (evNil))))))))))
def fn_toss_sum : List D → Pick → Option (D × Pick) := runB 9 B_toss_sum
def B_least_mean : ExF :=
  exSeq (exSet 1 (evTup (evCons (evC (.int 0)) (evCons (evC (.int 1)) (evNil)))))
      (exSeq (exFor (evSeq true (evV 0)) (gvName 2) (exIf (evTB (ev2 neD (evV 2) (evTup (evCons (evC (.int 1)) (evCons (evC (.int 1)) (evNil)))))) (exSet 1 (evCall fn_sum_of_two (evCons (evV 1) (evCons (evCall fn_toss_sum (evCons (evV 2) (evNil))) (evNil))))) (exNil)))
      (exRet (evV 1)))
def fn_least_mean : List D → Pick → Option (D × Pick) := runB 3 B_least_mean
def B_law_cut : ExF :=
  exSeq (exPar 2 3 (evB absD (evCons (evV 0) (evNil))) (evV 1))
      (exSeq (exWhile FUEL (evTB (ev2 (cmpI fun i j => decide (j < i)) (evV 3) (evC (.int 0)))) (exPar 2 3 (evV 3) (ev2 modD (evB intD (evCons (evV 2) (evNil))) (evV 3))))
      (exRet (evTup (evCons (ev2 divW (evV 0) (evV 2)) (evCons (ev2 divW (evV 1) (evV 2)) (evNil))))))
def fn_law_cut : List D → Pick → Option (D × Pick) := runB 4 B_law_cut
def B_law_sum : ExF :=
  exSeq (exAsg (evTup (evCons (evC (.int 0)) (evCons (evC (.int 1)) (evNil)))) (gvTup 2 (gvCons (gvName 1) (gvCons (gvName 2) (gvNil)))))
      (exSeq (exFor (evSeq true (evV 0)) (gvTup 2 (gvCons (gvName 3) (gvCons (gvName 4) (gvNil)))) (exAsg (evCall fn_law_cut (evCons (ev2 addD (ev2 mulD (evV 1) (evV 4)) (ev2 mulD (evV 3) (evV 2))) (evCons (ev2 mulD (evV 2) (evV 4)) (evNil)))) (gvTup 2 (gvCons (gvName 1) (gvCons (gvName 2) (gvNil))))))
      (exRet (evTup (evCons (evV 1) (evCons (evV 2) (evNil))))))
def fn_law_sum : List D → Pick → Option (D × Pick) := runB 5 B_law_sum
def B_law_mul : ExF :=
  exRet (evCall fn_law_cut (evCons (ev2 mulD (ev2 ixD (evV 0) (evC (.int 0))) (ev2 ixD (evV 1) (evC (.int 0)))) (evCons (ev2 mulD (ev2 ixD (evV 0) (evC (.int 1))) (ev2 ixD (evV 1) (evC (.int 1)))) (evNil))))
def fn_law_mul : List D → Pick → Option (D × Pick) := runB 2 B_law_mul
def B_law_rest : ExF :=
  exSeq (exAsg (evV 0) (gvTup 2 (gvCons (gvName 2) (gvCons (gvName 3) (gvNil)))))
      (exSeq (exFor (evRng1 (evCons (evV 1) (evNil))) (gvName 4) (exSet 2 (ev2 modD (evB intD (evCons (ev2 mulD (evC (.int 2)) (evV 2)) (evNil))) (evV 3))))
      (exRet (evCall fn_law_cut (evCons (evV 2) (evCons (evV 3) (evNil))))))
def fn_law_rest : List D → Pick → Option (D × Pick) := runB 5 B_law_rest
def B_law_again : ExF :=
  exSeq (exPar 1 2 (evC (.int 1)) (ev2 modD (evB intD (evCons (evC (.int 2)) (evNil))) (evV 0)))
      (exSeq (exWhile FUEL (evAndT (evTB (ev2 (cmpI fun i j => decide (j < i)) (evV 0) (evC (.int 1)))) (evTB (ev2 neD (evV 2) (evC (.int 1))))) (exPar 1 2 (ev2 addD (evV 1) (evC (.int 1))) (ev2 modD (evB intD (evCons (ev2 mulD (evC (.int 2)) (evV 2)) (evNil))) (evV 0))))
      (exRet (evV 1)))
def fn_law_again : List D → Pick → Option (D × Pick) := runB 3 B_law_again
def B_law : ExF :=
  exSeq (exFor (evRng1 (evCons (evC (.int 3)) (evNil))) (gvName 2) (exSeq (exSet 3 (ev2 addD (evC (.int 2)) (evCall fn_law_pick (evCons (evV 1) (evCons (ev2 ixD (evLst (evCons (evC (.int 30)) (evCons (evC (.int 300)) (evCons (evC (.int 1999)) (evNil))))) (evV 2)) (evNil))))))
      (exSeq (exSet 4 (evCall fn_law_cut (evCons (evCall fn_law_pick (evCons (evV 1) (evCons (evV 3) (evNil)))) (evCons (evV 3) (evNil)))))
      (exSeq (exAsg (evV 4) (gvTup 2 (gvCons (gvName 5) (gvCons (gvName 3) (gvNil)))))
      (exSeq (exAsg (evCall fn_fraction_wheel (evCons (evV 4) (evNil))) (gvTup 2 (gvCons (gvName 6) (gvCons (gvName 7) (gvNil)))))
      (exSeq (exPar 8 9 (evC (.int 0)) (evV 3))
      (exSeq (exWhile FUEL (evTB (ev2 eqD (ev2 mulD (ev2 divW (evV 9) (evC (.int 2))) (evC (.int 2))) (evV 9))) (exPar 8 9 (ev2 addD (evV 8) (evC (.int 1))) (ev2 divW (evV 9) (evC (.int 2)))))
      (exSeq (exIf (evOrT (evTB (ev2 neD (evB lenD (evCons (evV 6) (evNil))) (evV 8))) (evTB (ev2 neD (evB lenD (evCons (evV 7) (evNil))) (evCall fn_law_again (evCons (evV 9) (evNil)))))) (exRet (evC (.bool false))) (exNil))
      (exSeq (exFor (evRng2 (evCons (evC (.int 1)) (evCons (ev2 addD (evB min2D (evCons (evC (.int 60)) (evCons (ev2 addD (evV 8) (evB lenD (evCons (evV 7) (evNil)))) (evNil)))) (evC (.int 1))) (evNil)))) (gvName 10) (exSeq (exSet 11 (evB intD (evCons (ev2 (cmpI fun i j => decide (j ≤ i)) (ev2 mulD (evC (.int 2)) (ev2 ixD (evCall fn_law_rest (evCons (evV 4) (evCons (ev2 subD (evV 10) (evC (.int 1))) (evNil)))) (evC (.int 0)))) (ev2 ixD (evCall fn_law_rest (evCons (evV 4) (evCons (ev2 subD (evV 10) (evC (.int 1))) (evNil)))) (evC (.int 1)))) (evNil))))
      (exIf (evOrT (evTB (ev2 neD (evCall fn_rest_of (evCons (evV 4) (evCons (evV 10) (evNil)))) (evCall fn_law_rest (evCons (evV 4) (evCons (evV 10) (evNil)))))) (evOrT (evTB (ev2 neD (evCall fn_digit_of (evCons (evV 4) (evCons (evV 10) (evNil)))) (evV 11))) (evTB (ev2 neD (ev2 ixD (ev2 addD (evV 6) (evV 7)) (ev2 subD (evV 10) (evC (.int 1)))) (evV 11))))) (exRet (evC (.bool false))) (exNil))))
      (exSeq (exIf (evTB (ev2 neD (evLst (evCons (evCall fn_fraction_by_wheel (evCons (evV 6) (evCons (evV 7) (evNil)))) (evCons (evCall fn_fraction_by_wheel (evCons (ev2 addD (evV 6) (evV 7)) (evCons (ev2 mulD (evV 7) (evC (.int 2))) (evNil)))) (evNil)))) (evLst (evCons (evV 4) (evCons (evV 4) (evNil)))))) (exRet (evC (.bool false))) (exNil))
      (exSeq (exSet 12 (evCall fn_fraction_wheel (evCons (evCall fn_law_rest (evCons (evV 4) (evCons (evC (.int 1)) (evNil)))) (evNil))))
      (exSeq (exIf (evTB (ev2 neD (evV 12) (evIf (evTB (ev2 neD (evV 6) (evTup (evNil)))) (evTup (evCons (evSl (evV 6) (evPart (evC (.int 1))) (evNoPart)) (evCons (evV 7) (evNil)))) (evTup (evCons (evTup (evNil)) (evCons (ev2 addD (evSl (evV 7) (evPart (evC (.int 1))) (evNoPart)) (evSl (evV 7) (evNoPart) (evPart (evC (.int 1))))) (evNil))))))) (exRet (evC (.bool false))) (exNil))
      (exSeq (exSet 12 (evCall fn_fraction_wheel (evCons (evCall fn_law_mul (evCons (evTup (evCons (evC (.int 1)) (evCons (evC (.int 2)) (evNil)))) (evCons (evV 4) (evNil)))) (evNil))))
      (exSeq (exIf (evAndT (evTB (ev2 eqD (evV 6) (evTup (evNil)))) (evTB (ev2 eqD (ev2 ixD (evV 7) (ev2 subD (evB lenD (evCons (evV 7) (evNil))) (evC (.int 1)))) (evC (.int 0))))) (exIf (evTB (ev2 neD (evV 12) (evTup (evCons (evTup (evNil)) (evCons (ev2 addD (evTup (evCons (evC (.int 0)) (evNil))) (evSl (evV 7) (evNoPart) (evPart (ev2 subD (evB lenD (evCons (evV 7) (evNil))) (evC (.int 1)))))) (evNil)))))) (exRet (evC (.bool false))) (exNil)) (exIf (evTB (ev2 neD (evV 12) (evTup (evCons (ev2 addD (evTup (evCons (evC (.int 0)) (evNil))) (evV 6)) (evCons (evV 7) (evNil)))))) (exRet (evC (.bool false))) (exNil)))
      (exSeq (exIf (evTB (ev2 neD (evCall fn_toss_sum (evCons (evV 4) (evNil))) (evCall fn_law_sum (evCons (evLst (evCons (evV 4) (evCons (evCall fn_law_mul (evCons (evTup (evCons (evC (.int 1)) (evCons (evC (.int 2)) (evNil)))) (evCons (evCall fn_toss_sum (evCons (evCall fn_law_rest (evCons (evV 4) (evCons (evC (.int 1)) (evNil)))) (evNil))) (evNil)))) (evNil)))) (evNil))))) (exRet (evC (.bool false))) (exNil))
      (exSeq (exIf (evTB (ev2 eqD (evV 5) (evC (.int 0)))) (exSeq (exIf (evTB (ev2 neD (evCall fn_toss_sum (evCons (evV 4) (evNil))) (evTup (evCons (evC (.int 0)) (evCons (evC (.int 1)) (evNil)))))) (exRet (evC (.bool false))) (exNil))
      (exCont)) (exNil))
      (exSeq (exSet 13 (evCall fn_law_cut (evCons (ev2 subD (evV 3) (evV 5)) (evCons (evV 3) (evNil)))))
      (exSeq (exSet 14 (evCall fn_law_sum (evCons (evLst (evCons (evCall fn_toss_sum (evCons (evV 4) (evNil))) (evCons (evCall fn_toss_sum (evCons (evV 13) (evNil))) (evNil)))) (evNil))))
      (exSeq (exIf (evTB (ev2 neD (evV 14) (evCall fn_law_cut (evCons (ev2 subD (ev2 shlD (evC (.int 2)) (evV 8)) (evIf (evTB (ev2 eqD (evV 9) (evC (.int 1)))) (evC (.int 2)) (evC (.int 0)))) (evCons (ev2 shlD (evC (.int 1)) (evV 8)) (evNil)))))) (exRet (evC (.bool false))) (exNil))
      (exSeq (exIf (evOrT (evTB (ev2 neD (evCall fn_least_mean (evCons (evTup (evCons (evV 4) (evCons (evV 13) (evNil)))) (evNil))) (evV 14))) (evTB (ev2 neD (evCall fn_least_mean (evCons (evTup (evCons (evV 13) (evCons (evV 4) (evNil)))) (evNil))) (evV 14)))) (exRet (evC (.bool false))) (exNil))
      (exIf (evTB (ev2 (cmpI fun i j => decide (j < i)) (evV 9) (evC (.int 1)))) (exSeq (exSet 15 (evLc [16] (evSeq false (evTup (evCons (evV 6) (evCons (evV 7) (evNil))))) (gvName 16) (evYes) (evB tupleD (evCons (evLc [17] (evSeq false (evV 16)) (gvName 17) (evYes) (ev2 subD (evC (.int 1)) (evV 17))) (evNil)))))
      (exSeq (exIf (evTB (ev2 neD (evCall fn_fraction_wheel (evCons (evV 13) (evNil))) (evTup (evCons (ev2 ixD (evV 15) (evC (.int 0))) (evCons (ev2 ixD (evV 15) (evC (.int 1))) (evNil)))))) (exRet (evC (.bool false))) (exNil))
      (exSeq (exSet 18 (ev2 divW (evB lenD (evCons (evV 7) (evNil))) (evC (.int 2))))
      (exSeq (exSet 19 (evC (.int 1)))
      (exSeq (exFor (evRng1 (evCons (evV 18) (evNil))) (gvName 20) (exSet 19 (ev2 modD (evB intD (evCons (ev2 mulD (evC (.int 2)) (evV 19)) (evNil))) (evV 9))))
      (exIf (evAndT (evTB (ev2 eqD (ev2 mulD (evC (.int 2)) (evV 18)) (evB lenD (evCons (evV 7) (evNil))))) (evAndT (evTB (ev2 eqD (evV 19) (ev2 subD (evV 9) (evC (.int 1))))) (evTB (ev2 neD (evSl (evV 7) (evPart (evV 18)) (evNoPart)) (evB tupleD (evCons (evLc [17] (evSeq false (evSl (evV 7) (evNoPart) (evPart (evV 18)))) (gvName 17) (evYes) (ev2 subD (evC (.int 1)) (evV 17))) (evNil))))))) (exRet (evC (.bool false))) (exNil))))))) (exNil))))))))))))))))))))))
      (exRet (evC (.bool true)))
end
end LawK37

/-! printed by gen.py: the text follows these terms -/
namespace LawK37
open PySem PySem.Spec PyProof.Rows L2 FD
def topS (i : Nat) : Stmt := PySem.Challenge.pw_chancesmet_k37_whole_digits_moved_and_tu.main.body.getD i (.Pass ⟨0, 0, 0, 0⟩)
abbrev s_in_least_terms : Stmt := topS 2
theorem sc_in_least_terms : FnScope ["p", "q", "by"] ["p", "q"] (defScope s_in_least_terms) := ⟨rfl, rfl, rfl, by decide +kernel, rfl, by decide +kernel, by decide +kernel⟩
abbrev s_power_of_two : Stmt := topS 3
theorem sc_power_of_two : FnScope ["many", "found", "lap"] ["many"] (defScope s_power_of_two) := ⟨rfl, rfl, rfl, by decide +kernel, rfl, by decide +kernel, by decide +kernel⟩
abbrev s_rest_of : Stmt := topS 4
theorem sc_rest_of : FnScope ["x", "j", "p", "q", "lap"] ["x", "j"] (defScope s_rest_of) := ⟨rfl, rfl, rfl, by decide +kernel, rfl, by decide +kernel, by decide +kernel⟩
abbrev s_digit_of : Stmt := topS 5
theorem sc_digit_of : FnScope ["x", "j", "p", "q"] ["x", "j"] (defScope s_digit_of) := ⟨rfl, rfl, rfl, by decide +kernel, rfl, by decide +kernel, by decide +kernel⟩
abbrev s_rests_till_again : Stmt := topS 6
theorem sc_rests_till_again : FnScope ["x", "p", "q", "found"] ["x"] (defScope s_rests_till_again) := ⟨rfl, rfl, rfl, by decide +kernel, rfl, by decide +kernel, by decide +kernel⟩
abbrev s_fraction_wheel : Stmt := topS 7
theorem sc_fraction_wheel : FnScope ["x", "rests", "first", "digits", "p"] ["x"] (defScope s_fraction_wheel) := ⟨rfl, rfl, rfl, by decide +kernel, rfl, by decide +kernel, by decide +kernel⟩
abbrev s_number_of_digits : Stmt := topS 8
theorem sc_number_of_digits : FnScope ["digits", "found", "digit"] ["digits"] (defScope s_number_of_digits) := ⟨rfl, rfl, rfl, by decide +kernel, rfl, by decide +kernel, by decide +kernel⟩
abbrev s_fraction_by_wheel : Stmt := topS 9
theorem sc_fraction_by_wheel : FnScope ["ahead", "again", "whole"] ["ahead", "again"] (defScope s_fraction_by_wheel) := ⟨rfl, rfl, rfl, by decide +kernel, rfl, by decide +kernel, by decide +kernel⟩
abbrev s_sum_of_two : Stmt := topS 10
theorem sc_sum_of_two : FnScope ["one", "other"] ["one", "other"] (defScope s_sum_of_two) := ⟨rfl, rfl, rfl, by decide +kernel, rfl, by decide +kernel, by decide +kernel⟩
abbrev s_toss_sum : Stmt := topS 11
theorem sc_toss_sum : FnScope ["x", "q", "rests", "first", "total", "by", "p", "round_total", "late"] ["x"] (defScope s_toss_sum) := ⟨rfl, rfl, rfl, by decide +kernel, rfl, by decide +kernel, by decide +kernel⟩
abbrev s_least_mean : Stmt := topS 12
theorem sc_least_mean : FnScope ["share", "total", "x"] ["share"] (defScope s_least_mean) := ⟨rfl, rfl, rfl, by decide +kernel, rfl, by decide +kernel, by decide +kernel⟩
abbrev s_law_open_cells : Stmt := topS 14
theorem sc_law_open_cells : FnScope ["script", "stirred", "cell", "cells"] ["script"] (defScope s_law_open_cells) := ⟨rfl, rfl, rfl, by decide +kernel, rfl, by decide +kernel, by decide +kernel⟩
abbrev s_law_pick : Stmt := topS 15
theorem sc_law_pick : FnScope ["source", "most", "cells", "others", "lap", "stirred"] ["source", "most"] (defScope s_law_pick) := ⟨rfl, rfl, rfl, by decide +kernel, rfl, by decide +kernel, by decide +kernel⟩
abbrev s_law_cut : Stmt := topS 16
theorem sc_law_cut : FnScope ["p", "q", "a", "b"] ["p", "q"] (defScope s_law_cut) := ⟨rfl, rfl, rfl, by decide +kernel, rfl, by decide +kernel, by decide +kernel⟩
abbrev s_law_sum : Stmt := topS 17
theorem sc_law_sum : FnScope ["some", "p", "q", "x", "y"] ["some"] (defScope s_law_sum) := ⟨rfl, rfl, rfl, by decide +kernel, rfl, by decide +kernel, by decide +kernel⟩
abbrev s_law_mul : Stmt := topS 18
theorem sc_law_mul : FnScope ["x", "y"] ["x", "y"] (defScope s_law_mul) := ⟨rfl, rfl, rfl, by decide +kernel, rfl, by decide +kernel, by decide +kernel⟩
abbrev s_law_rest : Stmt := topS 19
theorem sc_law_rest : FnScope ["x", "j", "p", "q", "turn"] ["x", "j"] (defScope s_law_rest) := ⟨rfl, rfl, rfl, by decide +kernel, rfl, by decide +kernel, by decide +kernel⟩
abbrev s_law_again : Stmt := topS 20
theorem sc_law_again : FnScope ["b", "many", "here"] ["b"] (defScope s_law_again) := ⟨rfl, rfl, rfl, by decide +kernel, rfl, by decide +kernel, by decide +kernel⟩
abbrev s_law : Stmt := topS 21
theorem sc_law : FnScope ["script", "source", "lap", "q", "x", "p", "ahead", "again", "twos", "b", "j", "due", "late", "other", "whole", "turned", "row", "d", "h", "here", "turn"] ["script"] (defScope s_law) := ⟨rfl, rfl, rfl, by decide +kernel, rfl, by decide +kernel, by decide +kernel⟩
structure Glob (mg : Str → Option Value) : Prop where
  b_abs : mg "abs" = none
  b_int : mg "int" = none
  b_len : mg "len" = none
  b_min : mg "min" = none
  b_range : mg "range" = none
  b_tuple : mg "tuple" = none
  gcd : mg "gcd" = some (.builtin "math.gcd")
section
variable {P : Program} {w : World} {K : PySem.W.Frag} {mg : Str → Option Value} {base : Heap}
structure Need_in_least_terms (P : Program) (w : World) (K : PySem.W.Frag) (mg : Str → Option Value) (base : Heap) : Prop extends Glob mg
set_option maxHeartbeats 4000000 in
theorem ok_in_least_terms (M : Need_in_least_terms P w K mg base) {f : Addr} {fd : FuncData} (F : Fun K "in_least_terms" "in_least_terms" s_in_least_terms f fd) : FnOk P w K mg base CX0 1 f fd ["p", "q"] (spF 2 fn_in_least_terms) :=
  fn_ok (k := 0) (B := B_in_least_terms) F sc_in_least_terms rfl fun cdv A outer s H E hr => by
    have hu := hr.units
    exact dss_cons (ds_set 2 sc_in_least_terms.nd (de_gcd M.gcd (da_cons (de_var 0) (da_cons (de_var 1) (da_nil)))))
      (dss_cons (ds_set 2 sc_in_least_terms.nd (de_if (dt_lt (de_var 1) (de_int)) (de_sub (de_int) (de_var 2)) (de_var 2)))
      (dss_one (ds_ret (de_tup (da_cons (de_div (de_var 0) (de_var 2)) (da_cons (de_div (de_var 1) (de_var 2)) (da_nil)))))))
structure Need_power_of_two (P : Program) (w : World) (K : PySem.W.Frag) (mg : Str → Option Value) (base : Heap) : Prop extends Glob mg
set_option maxHeartbeats 4000000 in
theorem ok_power_of_two (M : Need_power_of_two P w K mg base) {f : Addr} {fd : FuncData} (F : Fun K "power_of_two" "power_of_two" s_power_of_two f fd) : FnOk P w K mg base CX0 1 f fd ["many"] (spF 1 fn_power_of_two) :=
  fn_ok (k := 0) (B := B_power_of_two) F sc_power_of_two rfl fun cdv A outer s H E hr => by
    have hu := hr.units
    exact dss_cons (ds_set 1 sc_power_of_two.nd (de_int))
      (dss_cons (ds_for PassesOwn.never rfl (di_range1 M.b_range (da_cons (de_var 0) (da_nil))) (dg_name 2 sc_power_of_two.nd) (dss_one (ds_set 1 sc_power_of_two.nd (de_mul (de_var 1) (de_int)))))
      (dss_one (ds_ret (de_var 1))))
structure Need_rest_of (P : Program) (w : World) (K : PySem.W.Frag) (mg : Str → Option Value) (base : Heap) : Prop extends Glob mg where
  f_in_least_terms : FnD P w K mg base 1 "in_least_terms" 2 fn_in_least_terms
set_option maxHeartbeats 4000000 in
theorem ok_rest_of (M : Need_rest_of P w K mg base) {f : Addr} {fd : FuncData} (F : Fun K "rest_of" "rest_of" s_rest_of f fd) : FnOk P w K mg base CX0 2 f fd ["x", "j"] (spF 2 fn_rest_of) :=
  fn_ok (k := 1) (B := B_rest_of) F sc_rest_of rfl fun cdv A outer s H E hr => by
    have hu := hr.units
    exact dss_cons (ds_asg (de_var 0) (dg_tup rfl (dgs_cons (dg_name 2 sc_rest_of.nd) (dgs_cons (dg_name 3 sc_rest_of.nd) (dgs_nil)))))
      (dss_cons (ds_for PassesOwn.never rfl (di_range1 M.b_range (da_cons (de_var 1) (da_nil))) (dg_name 4 sc_rest_of.nd) (dss_one (ds_set 2 sc_rest_of.nd (de_mod (de_mul (de_var 2) (de_int)) (de_var 3)))))
      (dss_one (ds_ret (de_call (M.f_in_least_terms.mono (by decide)) hr (da_cons (de_var 2) (da_cons (de_var 3) (da_nil)))))))
structure Need_digit_of (P : Program) (w : World) (K : PySem.W.Frag) (mg : Str → Option Value) (base : Heap) : Prop extends Glob mg where
  f_rest_of : FnD P w K mg base 2 "rest_of" 2 fn_rest_of
set_option maxHeartbeats 4000000 in
theorem ok_digit_of (M : Need_digit_of P w K mg base) {f : Addr} {fd : FuncData} (F : Fun K "digit_of" "digit_of" s_digit_of f fd) : FnOk P w K mg base CX0 3 f fd ["x", "j"] (spF 2 fn_digit_of) :=
  fn_ok (k := 2) (B := B_digit_of) F sc_digit_of rfl fun cdv A outer s H E hr => by
    have hu := hr.units
    exact dss_cons (ds_asg (de_call (M.f_rest_of.mono (by decide)) hr (da_cons (de_var 0) (da_cons (de_sub (de_var 1) (de_int)) (da_nil)))) (dg_tup rfl (dgs_cons (dg_name 2 sc_digit_of.nd) (dgs_cons (dg_name 3 sc_digit_of.nd) (dgs_nil)))))
      (dss_one (ds_ret (de_intf M.b_int (da_cons (de_ge (de_mul (de_int) (de_var 2)) (de_var 3)) (da_nil)))))
structure Need_rests_till_again (P : Program) (w : World) (K : PySem.W.Frag) (mg : Str → Option Value) (base : Heap) : Prop extends Glob mg
set_option maxHeartbeats 4000000 in
theorem ok_rests_till_again (M : Need_rests_till_again P w K mg base) {f : Addr} {fd : FuncData} (F : Fun K "rests_till_again" "rests_till_again" s_rests_till_again f fd) : FnOk P w K mg base CX0 1 f fd ["x"] (spF 1 fn_rests_till_again) :=
  fn_ok (k := 0) (B := B_rests_till_again) F sc_rests_till_again rfl fun cdv A outer s H E hr => by
    have hu := hr.units
    exact dss_cons (ds_asg (de_var 0) (dg_tup rfl (dgs_cons (dg_name 1 sc_rests_till_again.nd) (dgs_cons (dg_name 2 sc_rests_till_again.nd) (dgs_nil)))))
      (dss_cons (ds_set 3 sc_rests_till_again.nd (de_lst (da_nil)))
      (dss_cons (ds_while FUEL PassesOwn.never (dt_notIn (de_var 1) (de_var 3)) (dss_cons (ds_app 3 (de_var 1))
      (dss_one (ds_set 1 sc_rests_till_again.nd (de_mod (de_mul (de_var 1) (de_int)) (de_var 2))))))
      (dss_freeze 3 (dss_one (ds_ret (de_tup (da_cons (de_var 3) (da_cons (de_index (de_var 3) (de_var 1)) (da_nil)))))))))
structure Need_fraction_wheel (P : Program) (w : World) (K : PySem.W.Frag) (mg : Str → Option Value) (base : Heap) : Prop extends Glob mg where
  f_rests_till_again : FnD P w K mg base 1 "rests_till_again" 1 fn_rests_till_again
set_option maxHeartbeats 4000000 in
theorem ok_fraction_wheel (M : Need_fraction_wheel P w K mg base) {f : Addr} {fd : FuncData} (F : Fun K "fraction_wheel" "fraction_wheel" s_fraction_wheel f fd) : FnOk P w K mg base CX0 2 f fd ["x"] (spF 1 fn_fraction_wheel) :=
  fn_ok (k := 1) (B := B_fraction_wheel) F sc_fraction_wheel rfl fun cdv A outer s H E hr => by
    have hu := hr.units
    exact dss_cons (ds_asg (de_call (M.f_rests_till_again.mono (by decide)) hr (da_cons (de_var 0) (da_nil))) (dg_tup rfl (dgs_cons (dg_name 1 sc_fraction_wheel.nd) (dgs_cons (dg_name 2 sc_fraction_wheel.nd) (dgs_nil)))))
      (dss_cons (by first | exact (ds_setLc 3 [("p", 4)] sc_fraction_wheel.nd (di_seq (de_var 1)) (blkOk_by (N := ["x", "rests", "first", "digits", "p"]) (sc := defScope s_fraction_wheel) (by decide +kernel)) (fun _ _ _ _ _ => dg_name 4 sc_fraction_wheel.nd) (fun _ _ _ _ _ => dts_nil) (fun _ _ _ _ _ => de_intf M.b_int (da_cons (de_ge (de_mul (de_int) (de_var 4)) (de_item (de_var 0) (de_int))) (da_nil)))) | exact (ds_set 3 sc_fraction_wheel.nd (de_lc [("p", 4)] sc_fraction_wheel.nd (di_seq (de_var 1)) (blkOk_by (N := ["x", "rests", "first", "digits", "p"]) (sc := defScope s_fraction_wheel) (by decide +kernel)) (fun _ _ _ _ _ => dg_name 4 sc_fraction_wheel.nd) (fun _ _ _ _ _ => dts_nil) (fun _ _ _ _ _ => de_intf M.b_int (da_cons (de_ge (de_mul (de_int) (de_var 4)) (de_item (de_var 0) (de_int))) (da_nil))))))
      (dss_one (ds_ret (de_tup (da_cons (de_tuplef M.b_tuple (da_cons (de_slice (de_var 3) (do_none) (do_some (de_var 2))) (da_nil))) (da_cons (de_tuplef M.b_tuple (da_cons (de_slice (de_var 3) (do_some (de_var 2)) (do_none)) (da_nil))) (da_nil)))))))
structure Need_number_of_digits (P : Program) (w : World) (K : PySem.W.Frag) (mg : Str → Option Value) (base : Heap) : Prop extends Glob mg
set_option maxHeartbeats 4000000 in
theorem ok_number_of_digits (M : Need_number_of_digits P w K mg base) {f : Addr} {fd : FuncData} (F : Fun K "number_of_digits" "number_of_digits" s_number_of_digits f fd) : FnOk P w K mg base CX0 1 f fd ["digits"] (spF 1 fn_number_of_digits) :=
  fn_ok (k := 0) (B := B_number_of_digits) F sc_number_of_digits rfl fun cdv A outer s H E hr => by
    have hu := hr.units
    exact dss_cons (ds_set 1 sc_number_of_digits.nd (de_int))
      (dss_cons (ds_for PassesOwn.never rfl (di_seq (de_var 0)) (dg_name 2 sc_number_of_digits.nd) (dss_one (ds_set 1 sc_number_of_digits.nd (de_add (de_mul (de_int) (de_var 1)) (de_var 2)))))
      (dss_one (ds_ret (de_var 1))))
structure Need_fraction_by_wheel (P : Program) (w : World) (K : PySem.W.Frag) (mg : Str → Option Value) (base : Heap) : Prop extends Glob mg where
  f_in_least_terms : FnD P w K mg base 1 "in_least_terms" 2 fn_in_least_terms
  f_power_of_two : FnD P w K mg base 1 "power_of_two" 1 fn_power_of_two
  f_number_of_digits : FnD P w K mg base 1 "number_of_digits" 1 fn_number_of_digits
set_option maxHeartbeats 4000000 in
theorem ok_fraction_by_wheel (M : Need_fraction_by_wheel P w K mg base) {f : Addr} {fd : FuncData} (F : Fun K "fraction_by_wheel" "fraction_by_wheel" s_fraction_by_wheel f fd) : FnOk P w K mg base CX0 2 f fd ["ahead", "again"] (spF 2 fn_fraction_by_wheel) :=
  fn_ok (k := 1) (B := B_fraction_by_wheel) F sc_fraction_by_wheel rfl fun cdv A outer s H E hr => by
    have hu := hr.units
    exact dss_cons (ds_set 2 sc_fraction_by_wheel.nd (de_sub (de_call (M.f_power_of_two.mono (by decide)) hr (da_cons (de_len M.b_len (da_cons (de_var 1) (da_nil))) (da_nil))) (de_int)))
      (dss_one (ds_ret (de_call (M.f_in_least_terms.mono (by decide)) hr (da_cons (de_add (de_mul (de_call (M.f_number_of_digits.mono (by decide)) hr (da_cons (de_var 0) (da_nil))) (de_var 2)) (de_call (M.f_number_of_digits.mono (by decide)) hr (da_cons (de_var 1) (da_nil)))) (da_cons (de_mul (de_call (M.f_power_of_two.mono (by decide)) hr (da_cons (de_len M.b_len (da_cons (de_var 0) (da_nil))) (da_nil))) (de_var 2)) (da_nil))))))
structure Need_sum_of_two (P : Program) (w : World) (K : PySem.W.Frag) (mg : Str → Option Value) (base : Heap) : Prop extends Glob mg where
  f_in_least_terms : FnD P w K mg base 1 "in_least_terms" 2 fn_in_least_terms
set_option maxHeartbeats 4000000 in
theorem ok_sum_of_two (M : Need_sum_of_two P w K mg base) {f : Addr} {fd : FuncData} (F : Fun K "sum_of_two" "sum_of_two" s_sum_of_two f fd) : FnOk P w K mg base CX0 2 f fd ["one", "other"] (spF 2 fn_sum_of_two) :=
  fn_ok (k := 1) (B := B_sum_of_two) F sc_sum_of_two rfl fun cdv A outer s H E hr => by
    have hu := hr.units
    exact dss_one (ds_ret (de_call (M.f_in_least_terms.mono (by decide)) hr (da_cons (de_add (de_mul (de_item (de_var 0) (de_int)) (de_item (de_var 1) (de_int))) (de_mul (de_item (de_var 1) (de_int)) (de_item (de_var 0) (de_int)))) (da_cons (de_mul (de_item (de_var 0) (de_int)) (de_item (de_var 1) (de_int))) (da_nil)))))
structure Need_toss_sum (P : Program) (w : World) (K : PySem.W.Frag) (mg : Str → Option Value) (base : Heap) : Prop extends Glob mg where
  f_rests_till_again : FnD P w K mg base 1 "rests_till_again" 1 fn_rests_till_again
  f_sum_of_two : FnD P w K mg base 2 "sum_of_two" 2 fn_sum_of_two
set_option maxHeartbeats 4000000 in
theorem ok_toss_sum (M : Need_toss_sum P w K mg base) {f : Addr} {fd : FuncData} (F : Fun K "toss_sum" "toss_sum" s_toss_sum f fd) : FnOk P w K mg base CX0 3 f fd ["x"] (spF 1 fn_toss_sum) :=
  fn_ok (k := 2) (B := B_toss_sum) F sc_toss_sum rfl fun cdv A outer s H E hr => by
    have hu := hr.units
    exact dss_cons (ds_set 1 sc_toss_sum.nd (de_item (de_var 0) (de_int)))
      (dss_cons (ds_asg (de_call (M.f_rests_till_again.mono (by decide)) hr (da_cons (de_var 0) (da_nil))) (dg_tup rfl (dgs_cons (dg_name 2 sc_toss_sum.nd) (dgs_cons (dg_name 3 sc_toss_sum.nd) (dgs_nil)))))
      (dss_cons (ds_asg (de_tup (da_cons (de_tup (da_cons (de_int) (da_cons (de_int) (da_nil)))) (da_cons (de_int) (da_nil)))) (dg_tup rfl (dgs_cons (dg_name 4 sc_toss_sum.nd) (dgs_cons (dg_name 5 sc_toss_sum.nd) (dgs_nil)))))
      (dss_cons (ds_for PassesOwn.never rfl (di_seq (de_slice (de_var 2) (do_none) (do_some (de_var 3)))) (dg_name 6 sc_toss_sum.nd) (dss_cons (ds_set 4 sc_toss_sum.nd (de_call (M.f_sum_of_two.mono (by decide)) hr (da_cons (de_var 4) (da_cons (de_tup (da_cons (de_var 6) (da_cons (de_mul (de_var 1) (de_var 5)) (da_nil)))) (da_nil)))))
      (dss_one (ds_set 5 sc_toss_sum.nd (de_mul (de_var 5) (de_int))))))
      (dss_cons (ds_asg (de_tup (da_cons (de_tup (da_cons (de_int) (da_cons (de_int) (da_nil)))) (da_cons (de_int) (da_nil)))) (dg_tup rfl (dgs_cons (dg_name 7 sc_toss_sum.nd) (dgs_cons (dg_name 8 sc_toss_sum.nd) (dgs_nil)))))
      (dss_cons (ds_for PassesOwn.never rfl (di_seq (de_slice (de_var 2) (do_some (de_var 3)) (do_none))) (dg_name 6 sc_toss_sum.nd) (dss_cons (ds_set 7 sc_toss_sum.nd (de_call (M.f_sum_of_two.mono (by decide)) hr (da_cons (de_var 7) (da_cons (de_tup (da_cons (de_var 6) (da_cons (de_mul (de_var 1) (de_var 8)) (da_nil)))) (da_nil)))))
      (dss_one (ds_set 8 sc_toss_sum.nd (de_mul (de_var 8) (de_int))))))
      (dss_one (ds_ret (de_call (M.f_sum_of_two.mono (by decide)) hr (da_cons (de_var 4) (da_cons (de_tup (da_cons (de_mul (de_item (de_var 7) (de_int)) (de_var 8)) (da_cons (de_mul (de_mul (de_item (de_var 7) (de_int)) (de_var 5)) (de_sub (de_var 8) (de_int))) (da_nil)))) (da_nil)))))))))))
structure Need_least_mean (P : Program) (w : World) (K : PySem.W.Frag) (mg : Str → Option Value) (base : Heap) : Prop extends Glob mg where
  f_sum_of_two : FnD P w K mg base 2 "sum_of_two" 2 fn_sum_of_two
  f_toss_sum : FnD P w K mg base 3 "toss_sum" 1 fn_toss_sum
set_option maxHeartbeats 4000000 in
theorem ok_least_mean (M : Need_least_mean P w K mg base) {f : Addr} {fd : FuncData} (F : Fun K "least_mean" "least_mean" s_least_mean f fd) : FnOk P w K mg base CX0 4 f fd ["share"] (spF 1 fn_least_mean) :=
  fn_ok (k := 3) (B := B_least_mean) F sc_least_mean rfl fun cdv A outer s H E hr => by
    have hu := hr.units
    exact dss_cons (ds_set 1 sc_least_mean.nd (de_tup (da_cons (de_int) (da_cons (de_int) (da_nil)))))
      (dss_cons (ds_for PassesOwn.never rfl (di_seq (de_var 0)) (dg_name 2 sc_least_mean.nd) (dss_one (ds_if (dt_ne hu (de_var 2) (de_tup (da_cons (de_int) (da_cons (de_int) (da_nil))))) (dss_one (ds_set 1 sc_least_mean.nd (de_call (M.f_sum_of_two.mono (by decide)) hr (da_cons (de_var 1) (da_cons (de_call (M.f_toss_sum.mono (by decide)) hr (da_cons (de_var 2) (da_nil))) (da_nil)))))) (dss_nil))))
      (dss_one (ds_ret (de_var 1))))
structure Need_law_cut (P : Program) (w : World) (K : PySem.W.Frag) (mg : Str → Option Value) (base : Heap) : Prop extends Glob mg
set_option maxHeartbeats 4000000 in
theorem ok_law_cut (M : Need_law_cut P w K mg base) {f : Addr} {fd : FuncData} (F : Fun K "_law_cut" "_law_cut" s_law_cut f fd) : FnOk P w K mg base CX0 1 f fd ["p", "q"] (spF 2 fn_law_cut) :=
  fn_ok (k := 0) (B := B_law_cut) F sc_law_cut rfl fun cdv A outer s H E hr => by
    have hu := hr.units
    exact dss_cons (ds_par 2 3 rfl sc_law_cut.nd (de_abs M.b_abs (da_cons (de_var 0) (da_nil))) (de_var 1))
      (dss_cons (ds_while FUEL PassesOwn.never (dt_gt (de_var 3) (de_int)) (dss_one (ds_par 2 3 rfl sc_law_cut.nd (de_var 3) (de_mod (de_intf M.b_int (da_cons (de_var 2) (da_nil))) (de_var 3)))))
      (dss_one (ds_ret (de_tup (da_cons (de_div (de_var 0) (de_var 2)) (da_cons (de_div (de_var 1) (de_var 2)) (da_nil)))))))
structure Need_law_sum (P : Program) (w : World) (K : PySem.W.Frag) (mg : Str → Option Value) (base : Heap) : Prop extends Glob mg where
  f_law_cut : FnD P w K mg base 1 "_law_cut" 2 fn_law_cut
set_option maxHeartbeats 4000000 in
theorem ok_law_sum (M : Need_law_sum P w K mg base) {f : Addr} {fd : FuncData} (F : Fun K "_law_sum" "_law_sum" s_law_sum f fd) : FnOk P w K mg base CX0 2 f fd ["some"] (spF 1 fn_law_sum) :=
  fn_ok (k := 1) (B := B_law_sum) F sc_law_sum rfl fun cdv A outer s H E hr => by
    have hu := hr.units
    exact dss_cons (ds_asg (de_tup (da_cons (de_int) (da_cons (de_int) (da_nil)))) (dg_tup rfl (dgs_cons (dg_name 1 sc_law_sum.nd) (dgs_cons (dg_name 2 sc_law_sum.nd) (dgs_nil)))))
      (dss_cons (ds_for PassesOwn.never rfl (di_seq (de_var 0)) (dg_tup rfl (dgs_cons (dg_name 3 sc_law_sum.nd) (dgs_cons (dg_name 4 sc_law_sum.nd) (dgs_nil)))) (dss_one (ds_asg (de_call (M.f_law_cut.mono (by decide)) hr (da_cons (de_add (de_mul (de_var 1) (de_var 4)) (de_mul (de_var 3) (de_var 2))) (da_cons (de_mul (de_var 2) (de_var 4)) (da_nil)))) (dg_tup rfl (dgs_cons (dg_name 1 sc_law_sum.nd) (dgs_cons (dg_name 2 sc_law_sum.nd) (dgs_nil)))))))
      (dss_one (ds_ret (de_tup (da_cons (de_var 1) (da_cons (de_var 2) (da_nil)))))))
structure Need_law_mul (P : Program) (w : World) (K : PySem.W.Frag) (mg : Str → Option Value) (base : Heap) : Prop extends Glob mg where
  f_law_cut : FnD P w K mg base 1 "_law_cut" 2 fn_law_cut
set_option maxHeartbeats 4000000 in
theorem ok_law_mul (M : Need_law_mul P w K mg base) {f : Addr} {fd : FuncData} (F : Fun K "_law_mul" "_law_mul" s_law_mul f fd) : FnOk P w K mg base CX0 2 f fd ["x", "y"] (spF 2 fn_law_mul) :=
  fn_ok (k := 1) (B := B_law_mul) F sc_law_mul rfl fun cdv A outer s H E hr => by
    have hu := hr.units
    exact dss_one (ds_ret (de_call (M.f_law_cut.mono (by decide)) hr (da_cons (de_mul (de_item (de_var 0) (de_int)) (de_item (de_var 1) (de_int))) (da_cons (de_mul (de_item (de_var 0) (de_int)) (de_item (de_var 1) (de_int))) (da_nil)))))
structure Need_law_rest (P : Program) (w : World) (K : PySem.W.Frag) (mg : Str → Option Value) (base : Heap) : Prop extends Glob mg where
  f_law_cut : FnD P w K mg base 1 "_law_cut" 2 fn_law_cut
set_option maxHeartbeats 4000000 in
theorem ok_law_rest (M : Need_law_rest P w K mg base) {f : Addr} {fd : FuncData} (F : Fun K "_law_rest" "_law_rest" s_law_rest f fd) : FnOk P w K mg base CX0 2 f fd ["x", "j"] (spF 2 fn_law_rest) :=
  fn_ok (k := 1) (B := B_law_rest) F sc_law_rest rfl fun cdv A outer s H E hr => by
    have hu := hr.units
    exact dss_cons (ds_asg (de_var 0) (dg_tup rfl (dgs_cons (dg_name 2 sc_law_rest.nd) (dgs_cons (dg_name 3 sc_law_rest.nd) (dgs_nil)))))
      (dss_cons (ds_for PassesOwn.never rfl (di_range1 M.b_range (da_cons (de_var 1) (da_nil))) (dg_name 4 sc_law_rest.nd) (dss_one (ds_set 2 sc_law_rest.nd (de_mod (de_intf M.b_int (da_cons (de_mul (de_int) (de_var 2)) (da_nil))) (de_var 3)))))
      (dss_one (ds_ret (de_call (M.f_law_cut.mono (by decide)) hr (da_cons (de_var 2) (da_cons (de_var 3) (da_nil)))))))
structure Need_law_again (P : Program) (w : World) (K : PySem.W.Frag) (mg : Str → Option Value) (base : Heap) : Prop extends Glob mg
set_option maxHeartbeats 4000000 in
theorem ok_law_again (M : Need_law_again P w K mg base) {f : Addr} {fd : FuncData} (F : Fun K "_law_again" "_law_again" s_law_again f fd) : FnOk P w K mg base CX0 1 f fd ["b"] (spF 1 fn_law_again) :=
  fn_ok (k := 0) (B := B_law_again) F sc_law_again rfl fun cdv A outer s H E hr => by
    have hu := hr.units
    exact dss_cons (ds_par 1 2 rfl sc_law_again.nd (de_int) (de_mod (de_intf M.b_int (da_cons (de_int) (da_nil))) (de_var 0)))
      (dss_cons (ds_while FUEL PassesOwn.never (dt_w (dw_and (dt_gt (de_var 0) (de_int)) (dw_and1 (dt_ne hu (de_var 2) (de_int))))) (dss_one (ds_par 1 2 rfl sc_law_again.nd (de_add (de_var 1) (de_int)) (de_mod (de_intf M.b_int (da_cons (de_mul (de_int) (de_var 2)) (da_nil))) (de_var 0)))))
      (dss_one (ds_ret (de_var 1))))
structure Need_law (P : Program) (w : World) (K : PySem.W.Frag) (mg : Str → Option Value) (base : Heap) : Prop extends Glob mg where
  f_rest_of : FnD P w K mg base 2 "rest_of" 2 fn_rest_of
  f_digit_of : FnD P w K mg base 3 "digit_of" 2 fn_digit_of
  f_fraction_wheel : FnD P w K mg base 2 "fraction_wheel" 1 fn_fraction_wheel
  f_fraction_by_wheel : FnD P w K mg base 2 "fraction_by_wheel" 2 fn_fraction_by_wheel
  f_toss_sum : FnD P w K mg base 3 "toss_sum" 1 fn_toss_sum
  f_least_mean : FnD P w K mg base 4 "least_mean" 1 fn_least_mean
  f_law_pick : FnD P w K mg base 1 "_law_pick" 2 fn_law_pick
  f_law_cut : FnD P w K mg base 1 "_law_cut" 2 fn_law_cut
  f_law_sum : FnD P w K mg base 2 "_law_sum" 1 fn_law_sum
  f_law_mul : FnD P w K mg base 2 "_law_mul" 2 fn_law_mul
  f_law_rest : FnD P w K mg base 2 "_law_rest" 2 fn_law_rest
  f_law_again : FnD P w K mg base 1 "_law_again" 1 fn_law_again
set_option maxHeartbeats 4000000 in
theorem ok_law (M : Need_law P w K mg base) {f fo : Addr} {fd fdo : FuncData} {op : List Int → Pick} (Fo : FnOk P w K mg base CX0 1 fo fdo ["script"] (spOpen K op)) (mo : mg "_law_open_cells" = some (.ref fo)) (ko : PySem.W.keepIn K (.ref fo) = true) (bo : Binds K fdo ["script"] []) (F : Fun K "law" "law" s_law f fd)
    (hrun : ∀ ns : List Int, ns.length ≤ 63 → ∃ S', B_law ((List.replicate 21 Slot.un).set 1 (.val SRC)) (op ns) = some (.rt (.bool true), S')) : FnOk P w K mg base CX0 5 f fd ["script"] (spLaw K) :=
  law_ok (k := 4) (i := 1) (B := B_law) (E0' := E0) F sc_law rfl (fun cdv A outer s H E hr => ps_set (i := 1) sc_law.nd rfl (.inl rfl) (pe_call Fo (hr.mono (by decide)) (by rfl) mo ko bo .nil pass0 (pa_cons (pv 0) pa_nil))) (fun cdv A outer s H E hr => by
    have hu := hr.units
    exact dss_cons (ds_for PassesOwn.never rfl (di_range1 M.b_range (da_cons (de_int) (da_nil))) (dg_name 2 sc_law.nd) (dss_cons (ds_set 3 sc_law.nd (de_add (de_int) (de_call (M.f_law_pick.mono (by decide)) hr (da_cons (de_var 1) (da_cons (de_item (de_lst (da_cons (de_int) (da_cons (de_int) (da_cons (de_int) (da_nil))))) (de_var 2)) (da_nil))))))
      (dss_cons (ds_set 4 sc_law.nd (de_call (M.f_law_cut.mono (by decide)) hr (da_cons (de_call (M.f_law_pick.mono (by decide)) hr (da_cons (de_var 1) (da_cons (de_var 3) (da_nil)))) (da_cons (de_var 3) (da_nil)))))
      (dss_cons (ds_asg (de_var 4) (dg_tup rfl (dgs_cons (dg_name 5 sc_law.nd) (dgs_cons (dg_name 3 sc_law.nd) (dgs_nil)))))
      (dss_cons (ds_asg (de_call (M.f_fraction_wheel.mono (by decide)) hr (da_cons (de_var 4) (da_nil))) (dg_tup rfl (dgs_cons (dg_name 6 sc_law.nd) (dgs_cons (dg_name 7 sc_law.nd) (dgs_nil)))))
      (dss_cons (ds_par 8 9 rfl sc_law.nd (de_int) (de_var 3))
      (dss_cons (ds_while FUEL PassesOwn.never (dt_eq hu (de_mul (de_div (de_var 9) (de_int)) (de_int)) (de_var 9)) (dss_one (ds_par 8 9 rfl sc_law.nd (de_add (de_var 8) (de_int)) (de_div (de_var 9) (de_int)))))
      (dss_cons (ds_if (dt_w (dw_or (dt_ne hu (de_len M.b_len (da_cons (de_var 6) (da_nil))) (de_var 8)) (dw_or1 (dt_ne hu (de_len M.b_len (da_cons (de_var 7) (da_nil))) (de_call (M.f_law_again.mono (by decide)) hr (da_cons (de_var 9) (da_nil))))))) (dss_one (ds_ret (de_bl))) (dss_nil))
      (dss_cons (ds_for PassesOwn.never rfl (di_range2 M.b_range (da_cons (de_int) (da_cons (de_add (de_min2 M.b_min (da_cons (de_int) (da_cons (de_add (de_var 8) (de_len M.b_len (da_cons (de_var 7) (da_nil)))) (da_nil)))) (de_int)) (da_nil)))) (dg_name 10 sc_law.nd) (dss_cons (ds_set 11 sc_law.nd (de_intf M.b_int (da_cons (de_ge (de_mul (de_int) (de_item (de_call (M.f_law_rest.mono (by decide)) hr (da_cons (de_var 4) (da_cons (de_sub (de_var 10) (de_int)) (da_nil)))) (de_int))) (de_item (de_call (M.f_law_rest.mono (by decide)) hr (da_cons (de_var 4) (da_cons (de_sub (de_var 10) (de_int)) (da_nil)))) (de_int))) (da_nil))))
      (dss_one (ds_if (dt_w (dw_or (dt_ne hu (de_call (M.f_rest_of.mono (by decide)) hr (da_cons (de_var 4) (da_cons (de_var 10) (da_nil)))) (de_call (M.f_law_rest.mono (by decide)) hr (da_cons (de_var 4) (da_cons (de_var 10) (da_nil))))) (dw_or (dt_ne hu (de_call (M.f_digit_of.mono (by decide)) hr (da_cons (de_var 4) (da_cons (de_var 10) (da_nil)))) (de_var 11)) (dw_or1 (dt_ne hu (de_item (de_add (de_var 6) (de_var 7)) (de_sub (de_var 10) (de_int))) (de_var 11)))))) (dss_one (ds_ret (de_bl))) (dss_nil)))))
      (dss_cons (ds_if (dt_ne hu (de_lst (da_cons (de_call (M.f_fraction_by_wheel.mono (by decide)) hr (da_cons (de_var 6) (da_cons (de_var 7) (da_nil)))) (da_cons (de_call (M.f_fraction_by_wheel.mono (by decide)) hr (da_cons (de_add (de_var 6) (de_var 7)) (da_cons (de_mul (de_var 7) (de_int)) (da_nil)))) (da_nil)))) (de_lst (da_cons (de_var 4) (da_cons (de_var 4) (da_nil))))) (dss_one (ds_ret (de_bl))) (dss_nil))
      (dss_cons (ds_set 12 sc_law.nd (de_call (M.f_fraction_wheel.mono (by decide)) hr (da_cons (de_call (M.f_law_rest.mono (by decide)) hr (da_cons (de_var 4) (da_cons (de_int) (da_nil)))) (da_nil))))
      (dss_cons (ds_if (dt_ne hu (de_var 12) (de_if (dt_ne hu (de_var 6) (de_tup (da_nil))) (de_tup (da_cons (de_slice (de_var 6) (do_some (de_int)) (do_none)) (da_cons (de_var 7) (da_nil)))) (de_tup (da_cons (de_tup (da_nil)) (da_cons (de_add (de_slice (de_var 7) (do_some (de_int)) (do_none)) (de_slice (de_var 7) (do_none) (do_some (de_int)))) (da_nil)))))) (dss_one (ds_ret (de_bl))) (dss_nil))
      (dss_cons (ds_set 12 sc_law.nd (de_call (M.f_fraction_wheel.mono (by decide)) hr (da_cons (de_call (M.f_law_mul.mono (by decide)) hr (da_cons (de_tup (da_cons (de_int) (da_cons (de_int) (da_nil)))) (da_cons (de_var 4) (da_nil)))) (da_nil))))
      (dss_cons (ds_if (dt_w (dw_and (dt_eq hu (de_var 6) (de_tup (da_nil))) (dw_and1 (dt_eq hu (de_item (de_var 7) (de_sub (de_len M.b_len (da_cons (de_var 7) (da_nil))) (de_int))) (de_int))))) (dss_one (ds_if (dt_ne hu (de_var 12) (de_tup (da_cons (de_tup (da_nil)) (da_cons (de_add (de_tup (da_cons (de_int) (da_nil))) (de_slice (de_var 7) (do_none) (do_some (de_sub (de_len M.b_len (da_cons (de_var 7) (da_nil))) (de_int))))) (da_nil))))) (dss_one (ds_ret (de_bl))) (dss_nil))) (dss_one (ds_if (dt_ne hu (de_var 12) (de_tup (da_cons (de_add (de_tup (da_cons (de_int) (da_nil))) (de_var 6)) (da_cons (de_var 7) (da_nil))))) (dss_one (ds_ret (de_bl))) (dss_nil))))
      (dss_cons (ds_if (dt_ne hu (de_call (M.f_toss_sum.mono (by decide)) hr (da_cons (de_var 4) (da_nil))) (de_call (M.f_law_sum.mono (by decide)) hr (da_cons (de_lst (da_cons (de_var 4) (da_cons (de_call (M.f_law_mul.mono (by decide)) hr (da_cons (de_tup (da_cons (de_int) (da_cons (de_int) (da_nil)))) (da_cons (de_call (M.f_toss_sum.mono (by decide)) hr (da_cons (de_call (M.f_law_rest.mono (by decide)) hr (da_cons (de_var 4) (da_cons (de_int) (da_nil)))) (da_nil))) (da_nil)))) (da_nil)))) (da_nil)))) (dss_one (ds_ret (de_bl))) (dss_nil))
      (dss_cons (ds_if (dt_eq hu (de_var 5) (de_int)) (dss_cons (ds_if (dt_ne hu (de_call (M.f_toss_sum.mono (by decide)) hr (da_cons (de_var 4) (da_nil))) (de_tup (da_cons (de_int) (da_cons (de_int) (da_nil))))) (dss_one (ds_ret (de_bl))) (dss_nil))
      (dss_one (ds_cont))) (dss_nil))
      (dss_cons (ds_set 13 sc_law.nd (de_call (M.f_law_cut.mono (by decide)) hr (da_cons (de_sub (de_var 3) (de_var 5)) (da_cons (de_var 3) (da_nil)))))
      (dss_cons (ds_set 14 sc_law.nd (de_call (M.f_law_sum.mono (by decide)) hr (da_cons (de_lst (da_cons (de_call (M.f_toss_sum.mono (by decide)) hr (da_cons (de_var 4) (da_nil))) (da_cons (de_call (M.f_toss_sum.mono (by decide)) hr (da_cons (de_var 13) (da_nil))) (da_nil)))) (da_nil))))
      (dss_cons (ds_if (dt_ne hu (de_var 14) (de_call (M.f_law_cut.mono (by decide)) hr (da_cons (de_sub (de_shl (de_int) (de_var 8)) (de_if (dt_eq hu (de_var 9) (de_int)) (de_int) (de_int))) (da_cons (de_shl (de_int) (de_var 8)) (da_nil))))) (dss_one (ds_ret (de_bl))) (dss_nil))
      (dss_cons (ds_if (dt_w (dw_or (dt_ne hu (de_call (M.f_least_mean.mono (by decide)) hr (da_cons (de_tup (da_cons (de_var 4) (da_cons (de_var 13) (da_nil)))) (da_nil))) (de_var 14)) (dw_or1 (dt_ne hu (de_call (M.f_least_mean.mono (by decide)) hr (da_cons (de_tup (da_cons (de_var 13) (da_cons (de_var 4) (da_nil)))) (da_nil))) (de_var 14))))) (dss_one (ds_ret (de_bl))) (dss_nil))
      (dss_one (ds_if (dt_gt (de_var 9) (de_int)) (dss_cons (by first | exact (ds_setLc 15 [("row", 16)] sc_law.nd (di_seq (de_tup (da_cons (de_var 6) (da_cons (de_var 7) (da_nil))))) (blkOk_by (N := ["script", "source", "lap", "q", "x", "p", "ahead", "again", "twos", "b", "j", "due", "late", "other", "whole", "turned", "row", "d", "h", "here", "turn"]) (sc := defScope s_law) (by decide +kernel)) (fun _ _ _ _ _ => dg_name 16 sc_law.nd) (fun _ _ _ _ _ => dts_nil) (fun _ _ _ _ _ => de_tuplef M.b_tuple (da_cons (de_lc [("d", 17)] sc_law.nd (di_seq (de_var 16)) (blkOk_by (by rfl)) (fun _ _ _ _ _ => dg_name 17 sc_law.nd) (fun _ _ _ _ _ => dts_nil) (fun _ _ _ _ _ => de_sub (de_int) (de_var 17))) (da_nil)))) | exact (ds_set 15 sc_law.nd (de_lc [("row", 16)] sc_law.nd (di_seq (de_tup (da_cons (de_var 6) (da_cons (de_var 7) (da_nil))))) (blkOk_by (N := ["script", "source", "lap", "q", "x", "p", "ahead", "again", "twos", "b", "j", "due", "late", "other", "whole", "turned", "row", "d", "h", "here", "turn"]) (sc := defScope s_law) (by decide +kernel)) (fun _ _ _ _ _ => dg_name 16 sc_law.nd) (fun _ _ _ _ _ => dts_nil) (fun _ _ _ _ _ => de_tuplef M.b_tuple (da_cons (de_lc [("d", 17)] sc_law.nd (di_seq (de_var 16)) (blkOk_by (by rfl)) (fun _ _ _ _ _ => dg_name 17 sc_law.nd) (fun _ _ _ _ _ => dts_nil) (fun _ _ _ _ _ => de_sub (de_int) (de_var 17))) (da_nil))))))
      (dss_cons (ds_if (dt_ne hu (de_call (M.f_fraction_wheel.mono (by decide)) hr (da_cons (de_var 13) (da_nil))) (de_tup (da_cons (de_item (de_var 15) (de_int)) (da_cons (de_item (de_var 15) (de_int)) (da_nil))))) (dss_one (ds_ret (de_bl))) (dss_nil))
      (dss_cons (ds_set 18 sc_law.nd (de_div (de_len M.b_len (da_cons (de_var 7) (da_nil))) (de_int)))
      (dss_cons (ds_set 19 sc_law.nd (de_int))
      (dss_cons (ds_for PassesOwn.never rfl (di_range1 M.b_range (da_cons (de_var 18) (da_nil))) (dg_name 20 sc_law.nd) (dss_one (ds_set 19 sc_law.nd (de_mod (de_intf M.b_int (da_cons (de_mul (de_int) (de_var 19)) (da_nil))) (de_var 9)))))
      (dss_one (ds_if (dt_w (dw_and (dt_eq hu (de_mul (de_int) (de_var 18)) (de_len M.b_len (da_cons (de_var 7) (da_nil)))) (dw_and (dt_eq hu (de_var 19) (de_sub (de_var 9) (de_int))) (dw_and1 (dt_ne hu (de_slice (de_var 7) (do_some (de_var 18)) (do_none)) (de_tuplef M.b_tuple (da_cons (de_lc [("d", 17)] sc_law.nd (di_seq (de_slice (de_var 7) (do_none) (do_some (de_var 18)))) (blkOk_by (N := ["script", "source", "lap", "q", "x", "p", "ahead", "again", "twos", "b", "j", "due", "late", "other", "whole", "turned", "row", "d", "h", "here", "turn"]) (sc := defScope s_law) (by decide +kernel)) (fun _ _ _ _ _ => dg_name 17 sc_law.nd) (fun _ _ _ _ _ => dts_nil) (fun _ _ _ _ _ => de_sub (de_int) (de_var 17))) (da_nil)))))))) (dss_one (ds_ret (de_bl))) (dss_nil)))))))) (dss_nil)))))))))))))))))))))))
      (dss_one (ds_ret (de_bl)))) hrun
end
end LawK37

/-! the two defs that touch the source, by hand -/
namespace LawK37
open PySem PySem.Spec PyProof.Rows L2 FD
section
variable {P : Program} {w : World} {K : PySem.W.Frag} {mg : Str → Option Value} {base : Heap}
set_option maxHeartbeats 4000000 in
theorem ok_law_open_cells (M : Glob mg) {f : Addr} {fd : FuncData} (F : Fun K "_law_open_cells" "_law_open_cells" s_law_open_cells f fd) : FnOk P w K mg base CX0 1 f fd ["script"] (spOpen K openF) := by
  refine F.ok sc_law_open_cells (fun vs H Q E h => ?_) (fun cdv A outer s H vs Q E hr h => ?_)
  · obtain ⟨a, ns, rfl, _⟩ := h
    rfl
  · obtain ⟨a, ns, rfl, hS, hl, q⟩ := h
    refine ⟨_, pss_cons (ps_set (i := 1) sc_law_open_cells.nd rfl (.inl rfl) pe_int)
      (pss_cons (ps_for PassesOwn.never rfl (pi_list (pv 0)) (pg_name (i := 2) sc_law_open_cells.nd rfl (.inl rfl))
        (pss_one (ps_set (i := 1) sc_law_open_cells.nd rfl (.inl rfl) (pe_op op_mod (pe_callTy call_int1 (by rfl) M.b_int (by decide +kernel) (pa_cons (pe_op op_add (pe_op op_add (pe_op op_mul (pv 1) pe_int) (pe_op op_mul (pv 2) pe_int)) pe_int) pa_nil)) pe_int))))
      (pss_cons (ps_setLc (i := 3) (own := [("cell", 2)]) (g := gName 2) (tt := tYes) rfl sc_law_open_cells.nd rfl rfl (sw_true rfl rfl rfl (by decide +kernel)) (pi_list (pv 0)) (blkOk_by (N := ["script", "stirred", "cell", "cells"]) (sc := defScope s_law_open_cells) (by decide +kernel)) (fun _ _ _ _ _ => pg_name (i := 2) sc_law_open_cells.nd rfl (.inl rfl)) (fun _ _ _ _ _ => pts_nil)
          (fun _ _ _ _ _ => pe_callB call_abs (by rfl) M.b_abs (by decide +kernel) (pa_cons (pv 2) pa_nil)))
      (pss_one (ps_ret (pe_disp (pps_cons pe_str (pe_revL (pv 3)) (pps_cons pe_str pe_int (pps_cons pe_str (pv 1) (pps_cons pe_str pe_int pps_nil)))) (by rfl) (by rfl) (fun z => by cases z) (by decide)))))), ?_⟩
    have eS : ∀ i, (ns.map V.int)[i]? = (ns[i]?).map V.int := fun i => List.getElem?_map
    refine ⟨.ref a, rfl, a, rfl, ⟨_, hS⟩, for_list (K := K) (a := a) (xs := ns.map V.int) (fun i σ H' => H' = H ∧ ∃ z v, σ = [some (.ref a), some (.int z), v, none] ∧ z = (ns.take i).foldl (fun s c => (s * 69069 + c * 31 + 5) % 2147483629) 11 ∧ 0 ≤ z ∧ z < 2147483629)
      ⟨rfl, 11, none, rfl, rfl, by decide, by decide⟩ (fun i σ H' _ h => by rw [h.1]; exact hS) ?_ ?_⟩
    · rintro i y σ H' hi ⟨rfl, z, v, rfl, ez, h0, h1⟩
      rw [eS] at hi
      cases hn : ns[i]? with
      | none => rw [hn] at hi; cases hi
      | some c =>
        rw [hn] at hi
        have hy : y = V.int c := (Option.some.inj hi).symm
        subst hy
        refine ⟨_, rfl, _, _, rfl, rfl, .inl ⟨by omega, by omega⟩, _, rfl, _, _, rfl, rfl, .inr ⟨by decide, by decide⟩, _, _, rfl, rfl, _, _, rfl, rfl, .inl ⟨_, rfl, _, _, rfl, rfl, (by show (0 : Int) < 2147483629; decide), rfl, _, _, rfl, ?_, Int.emod_nonneg _ (by decide), Int.emod_lt_of_pos _ (by decide)⟩⟩
        rw [List.take_add_one, hn, ez, Option.toList_some, List.foldl_append]
        rfl
    · rintro σ H' ⟨rfl, z, v, rfl, ez, h0, h1⟩
      rw [List.length_map, List.take_length] at ez
      refine ⟨.ref a, rfl, a, rfl, ⟨_, hS⟩, fun Dn hD => ?_⟩
      have hne : ∀ xs, SqL K H' a xs → SqL K (upd H' Dn (.lst (([] : List Int).map V.int))) a xs := fun xs h => (Same.seq (fun b o e => by rw [upd_ne (ne_of_none e hD)]; exact e) h)
      refine lc_list (K := K) (a := a) (xs := ns.map V.int) (fun i H2 => H2 = upd H' Dn (.lst ((ns.take i).map fun n => V.int (absI n)))) rfl (fun i H2 _ h => ?_) ?_ ?_
      · rw [h]
        exact Same.seq (fun b o e => by rw [upd_ne (ne_of_none e hD)]; exact e) hS
      · rintro i y H2 hi rfl
        rw [eS] at hi
        cases hn : ns[i]? with
        | none => rw [hn] at hi; cases hi
        | some c =>
          rw [hn] at hi
          have hy : y = V.int c := (Option.some.inj hi).symm
          subst hy
          refine ⟨rfl, ?_⟩
          unfold L2.tYes
          simp only [↓reduceIte]
          refine ⟨_, rfl, _, rfl, _, upd_same, ?_, ?_⟩
          · rw [List.length_map]
            exact Nat.lt_of_le_of_lt (Nat.le_trans (List.length_take_le' ..) hl) (by decide +kernel)
          · rw [upd_upd, List.take_add_one, hn, List.map_append]
            rfl
      · rintro H2 rfl
        rw [List.length_map, List.take_length]
        intro p hp
        have npD : Dn ≠ p := fun z => by rw [← z, upd_same] at hp; cases hp
        refine ⟨.ref Dn, rfl, Dn, _, rfl, SqL.of (by rw [upd_ne npD, upd_same]), fun r hr2 => ?_⟩
        have nrp : p ≠ r := fun z => by rw [← z, upd_same] at hr2; cases hr2
        refine ⟨.int z, rfl, ?_⟩
        refine ⟨by rw [upd_ne nrp, upd_same], srcKV r (openF ns), ?_, (by show 4 ≤ 15; decide), q _ p r ?_⟩
        · show [(V.str "cells", V.ref r), (V.str "left", V.int 1), (V.str "mixed", V.int z), (V.str "turn", V.int 0)] = _
          rw [ez]
          rfl
        · rw [merge_src]
          refine ⟨upd_same, ?_⟩
          rw [upd_ne nrp.symm, upd_same]
          show _ = some (HO.lst ((ns.map absI).reverse.map V.int))
          rw [List.map_reverse, List.map_map]
          rfl
set_option maxHeartbeats 4000000 in
theorem ok_law_pick (M : Glob mg) {f : Addr} {fd : FuncData} (F : Fun K "_law_pick" "_law_pick" s_law_pick f fd) : FnOk P w K mg base CX0 1 f fd ["source", "most"] (spF 2 fnPick) := by
  refine F.ok sc_law_pick (fun vs H Q E h => ?_) (fun cdv A outer s H vs Q E hr h => ?_)
  · obtain ⟨N', ad, al, S0, ds, d, S', _, _, _, _, hl, rp, _⟩ := h
    rw [RpL.length rp, hl]; rfl
  · obtain ⟨N', ad, al, S, ds, d, S', hs, h1, h2, hdom, hl, rp, hf, q⟩ := h
    have hu := hu_of hr
    -- the arguments
    obtain ⟨m, rfl, hm⟩ : ∃ m : Int, ds = [SRC, .int m] ∧ m < 1073741824 := by
      unfold fnPick at hf
      split at hf
      · exact ⟨_, rfl, (grd_some hf).1⟩
      · cases hf
    have hf2 : (PyData.int (pickF m S).1, (pickF m S).2) = (d, S') := by
      have : fnPick [SRC, .int m] S = some (.int (pickF m S).1, (pickF m S).2) := grd_of hm _
      rw [this] at hf
      exact Option.some.inj hf
    have hd1 : d = .int (pickF m S).1 := by cases hf2; rfl
    have hd2 : S' = (pickF m S).2 := by cases hf2; rfl
    subst hd1
    subst hd2
    obtain ⟨v, vs1, rfl, r1, v2, vs2, rfl, r2, r3⟩ := rp
    have e3 : vs2 = [] := r3
    subst e3
    have e2 : v2 = .int m := r2
    subst e2
    have e1 : v = .ref ad := by
      rcases r1 with ⟨_, e⟩ | ⟨a, ys, _, _, _, r⟩
      · exact e
      · obtain ⟨kk, v', r', _, ek, _⟩ := r
        cases kk <;> cases ek
    subst e1
    refine ⟨_, pss_cons (ps_if (pt_cmpR op_lt (pv 1) pe_int (nomark _)) (pss_one (ps_ret pe_int)) pss_nil)
      (pss_cons (ps_set (i := 2) sc_law_pick.nd rfl (.inl rfl) (pe_dget hu (pv 0) pe_str (fun _ _ => rfl)))
      (pss_cons (ps_while PassesOwn.never (PW.pt (pw_and (pt_cmpR op_lt (pe_dget hu (pv 0) pe_str (fun _ _ => rfl)) pe_int (nomark _)) (pw_and1 (pt_cmpR op_gt (pe_callB call_len_seq (by rfl) M.b_len PySem.boot_len (pa_cons (pv 2) pa_nil)) pe_int (nomark _)))))
          (pss_one (ps_dput hu (pv 0) pe_str (pe_bm0 PySem.F.plainAttrs_list PySem.F.slot_list_pop PySem.F.type_list_pop mt_pop (pv 2)) rfl)))
      (pss_cons (ps_set (i := 3) sc_law_pick.nd rfl (.inl rfl) (pe_dget hu (pv 0) pe_str (fun _ _ => rfl)))
      (pss_cons (ps_if (pt_cmpR op_gt (pv 3) pe_int (nomark _))
          (pss_cons (ps_dput hu (pv 0) pe_str (pe_op op_fdiv (pv 3) (pv 1)) rfl)
            (pss_one (ps_ret (pe_op op_mod (pe_callTy call_int1 (by rfl) M.b_int (by decide +kernel) (pa_cons (pv 3) pa_nil)) (pv 1))))) pss_nil)
      (pss_cons (ps_dput hu (pv 0) pe_str (pe_op op_add (pe_dget hu (pv 0) pe_str (fun _ _ => rfl)) pe_int) rfl)
      (pss_cons (ps_set (i := 4) sc_law_pick.nd rfl (.inl rfl) (pe_dget hu (pv 0) pe_str (fun _ _ => rfl)))
      (pss_cons (ps_set (i := 5) sc_law_pick.nd rfl (.inl rfl) (pe_op op_mod (pe_callTy call_int1 (by rfl) M.b_int (by decide +kernel) (pa_cons (pe_op op_add (pe_dget hu (pv 0) pe_str (fun _ _ => rfl)) (pe_op op_mul (pv 4) pe_int)) pa_nil)) pe_int))
      (pss_cons (ps_set (i := 5) sc_law_pick.nd rfl (.inl rfl) (pe_op op_mod (pe_callTy call_int1 (by rfl) M.b_int (by decide +kernel) (pa_cons (pe_op op_add (pe_op op_mul (pv 5) (pv 5)) (pe_op op_mul (pv 4) pe_int)) pa_nil)) pe_int))
      (pss_one (ps_ret (pe_op op_mod (pe_callTy call_int1 (by rfl) M.b_int (by decide +kernel) (pa_cons (pe_op op_fdiv (pv 5) pe_int) pa_nil)) (pv 1)))))))))))), ?_⟩
    have ext0 : ∀ a o, a ≠ ad → a ≠ al → H a = some o → H a = some o := fun _ _ _ _ h => h
    refine ⟨.int m, rfl, m, 2, rfl, rfl, _, rfl, ite2 (fun hlt => ?_) (fun hlt => ?_)⟩
    · have hlt := of_decide_eq_true hlt
      have hp : pickF m S = (0, S) := by unfold pickF; rw [if_pos hlt]
      rw [hp] at q
      exact q H _ ext0 hs rfl
    · have hge : ¬ m < 2 := fun z => hlt (decide_eq_true z)
      refine ⟨.ref ad, rfl, ad, .ref al, rfl, DGet.k (k := Sum.inr "cells") hs.d, ?_⟩
      refine ⟨fun n σ H1 => ∃ S1, n = S1.cells.length ∧ σ = [some (.ref ad), some (.int m), some (.ref al), none, none, none] ∧ SrcAt ad al H1 S1 ∧ (∀ a o, a ≠ ad → a ≠ al → H a = some o → H1 a = some o) ∧ popF S1.cells.length S1 = popF S.cells.length S,
        ⟨S.cells.length, S, rfl, rfl, hs, ext0, rfl⟩, ?_⟩
      rintro n σ H1 ⟨S1, rfl, rfl, hs1, ex1, ep⟩
      have hne : al ≠ ad := fun z => by have := hs1.l; rw [z, hs1.d] at this; cases this
      refine ⟨.ref ad, rfl, ad, .int S1.left, rfl, DGet.k (k := Sum.inr "left") hs1.d, S1.left, 2, rfl, rfl, _, rfl, ?_⟩
      have hstop : ¬ (S1.left < 2 ∧ 0 < S1.cells.length) → popF S.cells.length S = S1 := fun hn => by
        rw [← ep]
        cases hc : S1.cells.length with
        | zero => rfl
        | succ k => unfold popF; rw [if_neg hn]
      refine ite2 (fun hl2 => ⟨.ref al, rfl, al, _, rfl, .inl (SqL.of hs1.l), _, 0, rfl, rfl, _, rfl, ite2 (fun hpos => ?body) (fun hz => ?n1)⟩) (fun hg2 => ?n2)
      case body =>
        have hl2 := of_decide_eq_true hl2
        have hpos := of_decide_eq_true hpos
        rw [List.length_map] at hpos
        have hpos : 0 < S1.cells.length := by omega
        refine ⟨fun σ' H' => ∃ S2, S2.cells.length < S1.cells.length ∧ σ' = [some (.ref ad), some (.int m), some (.ref al), none, none, none] ∧ SrcAt ad al H' S2 ∧ (∀ a o, a ≠ ad → a ≠ al → H a = some o → H' a = some o) ∧ popF S2.cells.length S2 = popF S.cells.length S, fun σ' H' ⟨S2, b1, b2, b3, b4, b5⟩ => ⟨_, b1, S2, rfl, b2, b3, b4, b5⟩, ?_⟩
        have hlast : (S1.cells.map V.int)[(S1.cells.map V.int).length - 1]? = some (V.int (S1.cells.getLastD 0)) := by
          rw [List.length_map, List.getElem?_map, ← List.getLast?_eq_getElem?]
          cases hc : S1.cells with
          | nil => rw [hc] at hpos; exact absurd hpos (Nat.lt_irrefl 0)
          | cons x r => rw [List.getLast?_eq_getLast (List.cons_ne_nil x r), List.getLastD_cons, ]; simp [List.getLast_eq_getLastD]
        refine ⟨.ref al, rfl, .inl ⟨rfl, _, SqL.of hs1.l⟩, al, _, _, rfl, rfl, hs1.l, hlast, .ref ad, rfl, ad, _, rfl, DPut.k (k := Sum.inr "left") (by rw [upd_ne hne.symm]; exact hs1.d) (by show 4 < sizeLine; decide +kernel), ?_⟩
        refine ⟨{ S1 with left := S1.cells.getLastD 0, cells := S1.cells.dropLast }, by simp; omega, rfl, ⟨?_, ?_⟩, fun a o n1 n2 h => ?_, ?_⟩
        · rw [upd_same]; rfl
        · rw [upd_ne hne, upd_same, List.map_dropLast]
        · rw [upd_ne n1, upd_ne n2]; exact ex1 a o n1 n2 h
        · rw [← ep]
          cases hc : S1.cells.length with
          | zero => omega
          | succ k =>
            have e2 : ({ S1 with left := S1.cells.getLastD 0, cells := S1.cells.dropLast } : Pick).cells.length = k := by simp; omega
            rw [e2]
            conv => rhs; unfold popF
            rw [if_pos ⟨hl2, hpos⟩]
      all_goals
        have eS : popF S.cells.length S = S1 := hstop (fun z => by
          first
            | exact hg2 (decide_eq_true z.1)
            | (refine hz (decide_eq_true ?_); rw [List.length_map]; have := z.2; omega))
        have hp : pickF m S = if 1 < S1.left then (S1.left % m, { S1 with left := S1.left / m })
            else ((((((S1.mixed + (S1.turn + 1) * 104729) % 998244353) * ((S1.mixed + (S1.turn + 1) * 104729) % 998244353) + (S1.turn + 1) * 17) % 2147483647) / 16) % m, { S1 with turn := S1.turn + 1 }) := by
          unfold pickF
          rw [if_neg hge]
          simp only [eS]
        rw [hp] at q
        have hm0 : (0 : Int) < m := by omega
        (try rw [if_neg Bool.false_ne_true])
        refine ⟨.ref ad, rfl, ad, .int S1.left, rfl, DGet.k (k := Sum.inr "left") hs1.d, ?_⟩
        refine ⟨.int S1.left, rfl, S1.left, 1, rfl, rfl, _, rfl, ite2 (fun hgt => ?_) (fun hng => ?_)⟩
        · have hgt := of_decide_eq_true hgt
          rw [if_pos hgt] at q
          refine ⟨.int S1.left, rfl, .int m, rfl, S1.left, m, rfl, rfl, ⟨hm0, hm⟩, .ref ad, rfl, ad, _, rfl, DPut.k (k := Sum.inr "left") hs1.d (by show 4 < sizeLine; decide +kernel), ?_⟩
          refine ⟨.int S1.left, rfl, .inl ⟨_, rfl, .int m, rfl, S1.left, m, rfl, rfl, hm0, ?_⟩⟩
          refine q _ _ (fun a o n1 n2 h => ?_) (hs1.upd (S' := { S1 with left := S1.left / m }) rfl) rfl
          rw [upd_ne n1]; exact ex1 a o n1 n2 h
        · have hng : ¬ 1 < S1.left := fun z => hng (decide_eq_true z)
          rw [if_neg hng] at q
          refine ⟨.ref ad, rfl, ad, .int S1.turn, rfl, DGet.k (k := Sum.inr "turn") hs1.d, S1.turn, 1, rfl, rfl, .ref ad, rfl, ad, _, rfl, DPut.k (k := Sum.inr "turn") hs1.d (by show 4 < sizeLine; decide +kernel), ?_⟩
          have hs2 : SrcAt ad al (upd H1 ad (.dK (srcKV al { S1 with turn := S1.turn + 1 }))) { S1 with turn := S1.turn + 1 } := hs1.upd rfl
          refine ⟨.ref ad, rfl, ad, .int (S1.turn + 1), rfl, DGet.k (k := Sum.inr "turn") hs2.d, ?_⟩
          refine ⟨.ref ad, rfl, ad, .int S1.mixed, rfl, DGet.k (k := Sum.inr "mixed") hs2.d, .int (S1.turn + 1), rfl, S1.turn + 1, 104729, rfl, rfl, .inr ⟨by decide, by decide⟩, S1.mixed, _, rfl, rfl, .inl ⟨_, rfl, _, _, rfl, rfl, (by show (0 : Int) < 998244353; decide), ?_⟩⟩
          have hb0 : 0 ≤ (S1.mixed + (S1.turn + 1) * 104729) % 998244353 := Int.emod_nonneg _ (by decide)
          have hb1 : (S1.mixed + (S1.turn + 1) * 104729) % 998244353 < 998244353 := Int.emod_lt_of_pos _ (by decide)
          refine ⟨_, rfl, _, rfl, _, _, rfl, rfl, .inl ⟨by omega, by omega⟩, _, rfl, S1.turn + 1, 17, rfl, rfl, .inr ⟨by decide, by decide⟩, _, _, rfl, rfl, .inl ⟨_, rfl, _, _, rfl, rfl, (by show (0 : Int) < 2147483647; decide), ?_⟩⟩
          refine ⟨_, rfl, _, 16, rfl, rfl, ⟨by decide, by decide⟩, .inl ⟨_, rfl, .int m, rfl, _, m, rfl, rfl, hm0, ?_⟩⟩
          refine q _ _ (fun a o n1 n2 h => ?_) hs2 rfl
          rw [upd_ne n1]; exact ex1 a o n1 n2 h
end
end LawK37

/-! NT: doubling modulo a number -/
namespace NT

theorem pigeon : ∀ (b : Nat) (f : Nat → Nat), (∀ i, i ≤ b → f i < b) → ∃ i j, i < j ∧ j ≤ b ∧ f i = f j
  | 0, f, h => absurd (h 0 (Nat.le_refl 0)) (Nat.not_lt_zero _)
  | b + 1, f, h => by
    by_cases hv : ∃ i, i ≤ b ∧ f i = f (b + 1)
    · obtain ⟨i, hi, e⟩ := hv
      exact ⟨i, b + 1, by omega, Nat.le_refl _, e⟩
    · have hne : ∀ i, i ≤ b → f i ≠ f (b + 1) := fun i hi e => hv ⟨i, hi, e⟩
      obtain ⟨i, j, hij, hj, e⟩ := pigeon b (fun i => if f i = b then f (b + 1) else f i) (fun i hi => by
        have h1 := h i (by omega)
        have h2 := hne i hi
        have h3 := h (b + 1) (Nat.le_refl _)
        show (if f i = b then f (b + 1) else f i) < b
        split <;> omega)
      refine ⟨i, j, hij, by omega, ?_⟩
      have hi' := hne i (by omega)
      have hj' := hne j hj
      split at e <;> split at e <;> omega

theorem mod_eq_dvd {a c q : Nat} (h : a ≤ c) : a % q = c % q ↔ q ∣ c - a := by
  constructor
  · intro e
    exact Nat.dvd_of_mod_eq_zero (Nat.sub_mod_eq_zero_of_mod_eq e.symm)
  · rintro ⟨k, hk⟩
    have : c = a + q * k := by omega
    rw [this, Nat.add_mul_mod_self_left]

/-- the least m above 0 with 2 so often 1 modulo b -/
structure IsOrd (b m : Nat) : Prop where
  pos : 1 ≤ m
  one : 2 ^ m % b = 1 % b
  least : ∀ k, 1 ≤ k → k < m → 2 ^ k % b ≠ 1 % b

theorem cop_two {b : Nat} (hb : b % 2 = 1) (k : Nat) : Nat.Coprime b (2 ^ k) := by
  apply Nat.Coprime.pow_right
  have : Nat.Coprime 2 b := by
    have h := Nat.gcd_rec 2 b
    unfold Nat.Coprime
    rw [h, hb]
    rfl
  exact this.symm
theorem pow_sub_mod {b i j : Nat} (hb : b % 2 = 1) (hij : i ≤ j) (h : 2 ^ i % b = 2 ^ j % b) : 2 ^ (j - i) % b = 1 % b := by
  have h1 : b ∣ 2 ^ j - 2 ^ i := (mod_eq_dvd (Nat.pow_le_pow_right (by omega) hij)).mp h
  have h2 : 2 ^ j - 2 ^ i = 2 ^ i * (2 ^ (j - i) - 1) := by
    rw [Nat.mul_sub, ← Nat.pow_add, Nat.mul_one]
    congr 2
    omega
  rw [h2] at h1
  have h3 : b ∣ 2 ^ (j - i) - 1 := (cop_two hb i).dvd_of_dvd_mul_left h1
  exact ((mod_eq_dvd (Nat.one_le_two_pow)).mpr h3).symm
theorem ex_pow {b : Nat} (hb : b % 2 = 1) : ∃ n, 1 ≤ n ∧ n ≤ b ∧ 2 ^ n % b = 1 % b := by
  obtain ⟨i, j, hij, hj, e⟩ := pigeon b (fun i => 2 ^ i % b) (fun i _ => Nat.mod_lt _ (by omega))
  exact ⟨j - i, by omega, by omega, pow_sub_mod hb (by omega) e⟩
theorem IsOrd.le {b m : Nat} (h : IsOrd b m) (hb : b % 2 = 1) : m ≤ b := by
  obtain ⟨n, h1, h2, h3⟩ := ex_pow hb
  by_cases hn : n < m
  · exact (h.least n h1 hn h3).elim
  · omega
theorem mul_mod_of {a b c : Nat} (h : a % b = 1 % b) : (a * c) % b = c % b := by
  rw [Nat.mul_mod, h, ← Nat.mul_mod, Nat.one_mul]
theorem IsOrd.mul {b m : Nat} (h : IsOrd b m) (a c : Nat) : 2 ^ (m * a + c) % b = 2 ^ c % b := by
  induction a with
  | zero => simp
  | succ a ih =>
    rw [show m * (a + 1) + c = m + (m * a + c) by rw [Nat.mul_succ]; omega, Nat.pow_add, mul_mod_of h.one, ih]
theorem IsOrd.dvd {b m d : Nat} (h : IsOrd b m) (hd : 2 ^ d % b = 1 % b) : m ∣ d := by
  have h1 := h.mul (d / m) (d % m)
  rw [Nat.div_add_mod, hd] at h1
  by_cases h0 : d % m = 0
  · exact Nat.dvd_of_mod_eq_zero h0
  · exact (h.least (d % m) (by omega) (Nat.mod_lt _ h.pos) h1.symm).elim

/-! ### the rests -/
def rest (p q j : Nat) : Nat := 2 ^ j * p % q
structure Low (p q t b m : Nat) : Prop where
  eq : q = 2 ^ t * b
  odd : b % 2 = 1
  cop : Nat.Coprime p q
  lt : p < q
  ord : IsOrd b m
section
variable {p q t b m : Nat}
theorem Low.qpos (h : Low p q t b m) : 0 < q := Nat.lt_of_le_of_lt (Nat.zero_le _) h.lt
theorem rest_zero (h : p < q) : rest p q 0 = p := by unfold rest; rw [Nat.pow_zero, Nat.one_mul, Nat.mod_eq_of_lt h]
theorem rest_succ (p q j : Nat) : rest p q (j + 1) = 2 * rest p q j % q := by
  unfold rest
  rw [Nat.pow_succ, Nat.mul_comm (2 ^ j) 2, Nat.mul_assoc, Nat.mul_mod, Nat.mul_mod 2 (2 ^ j * p % q), Nat.mod_mod]
theorem rest_lt (p : Nat) {q : Nat} (hq : 0 < q) (j : Nat) : rest p q j < q := Nat.mod_lt _ hq
theorem rest_add (p q i j : Nat) : rest p q (i + j) = 2 ^ j * rest p q i % q := by
  unfold rest
  rw [Nat.pow_add, Nat.mul_comm (2 ^ i) (2 ^ j), Nat.mul_assoc, Nat.mul_mod, Nat.mul_mod (2 ^ j) (2 ^ i * p % q), Nat.mod_mod]
theorem Low.period (h : Low p q t b m) {i : Nat} (hi : t ≤ i) : rest p q (i + m) = rest p q i := by
  unfold rest
  symm
  rw [mod_eq_dvd (Nat.mul_le_mul_right _ (Nat.pow_le_pow_right (by omega) (by omega)))]
  rw [← Nat.sub_mul, Nat.pow_add, show 2 ^ i * 2 ^ m - 2 ^ i = 2 ^ i * (2 ^ m - 1) by rw [Nat.mul_sub, Nat.mul_one]]
  have h1 : b ∣ 2 ^ m - 1 := (mod_eq_dvd Nat.one_le_two_pow).mp h.ord.one.symm
  have h2 : 2 ^ t ∣ 2 ^ i := Nat.pow_dvd_pow 2 hi
  rw [h.eq]
  exact Nat.dvd_mul_right_of_dvd (Nat.mul_dvd_mul h2 h1) _
theorem Low.back (h : Low p q t b m) {i j : Nat} (hij : i < j) (e : rest p q i = rest p q j) : t ≤ i ∧ m ∣ j - i := by
  unfold rest at e
  rw [mod_eq_dvd (Nat.mul_le_mul_right _ (Nat.pow_le_pow_right (by omega) (by omega)))] at e
  have e2 : 2 ^ j * p - 2 ^ i * p = p * (2 ^ i * (2 ^ (j - i) - 1)) := by
    rw [← Nat.sub_mul, Nat.mul_comm, Nat.mul_sub (2 ^ i), ← Nat.pow_add, Nat.mul_one]
    congr 3
    omega
  rw [e2] at e
  have h1 : q ∣ 2 ^ i * (2 ^ (j - i) - 1) := h.cop.symm.dvd_of_dvd_mul_left e
  have hodd : (2 ^ (j - i) - 1) % 2 = 1 := by
    have : 2 ^ (j - i) = 2 * 2 ^ (j - i - 1) := by rw [← Nat.pow_succ']; congr 1; omega
    have h3 : 1 ≤ 2 ^ (j - i - 1) := Nat.one_le_two_pow
    omega
  have ht : 2 ^ t ∣ 2 ^ i * (2 ^ (j - i) - 1) := Nat.dvd_trans ⟨b, h.eq⟩ h1
  have ht2 : 2 ^ t ∣ 2 ^ i := (cop_two hodd t).symm.dvd_of_dvd_mul_right ht
  have hb1 : b ∣ 2 ^ i * (2 ^ (j - i) - 1) := Nat.dvd_trans ⟨2 ^ t, by rw [h.eq, Nat.mul_comm]⟩ h1
  have hb2 : b ∣ 2 ^ (j - i) - 1 := (cop_two h.odd i).dvd_of_dvd_mul_left hb1
  refine ⟨(Nat.pow_dvd_pow_iff_le_right (by omega)).mp ht2, h.ord.dvd ?_⟩
  exact ((mod_eq_dvd Nat.one_le_two_pow).mpr hb2).symm
theorem Low.new (h : Low p q t b m) {i n : Nat} (hi : i < n) (hn : n < t + m) : rest p q i ≠ rest p q n := fun e => by
  obtain ⟨h1, h2⟩ := h.back hi e
  have := Nat.le_of_dvd (by omega) h2
  omega
theorem Low.first (h : Low p q t b m) {i : Nat} (hi : i < t) : rest p q i ≠ rest p q (t + m) := fun e => by
  have := (h.back (by omega) e).1
  omega
/-! ### digits -/
def dig (p q j : Nat) : Nat := if q ≤ 2 * rest p q j then 1 else 0
theorem dig_le (p q j : Nat) : dig p q j ≤ 1 := by unfold dig; split <;> omega
theorem two_rest (p : Nat) {q : Nat} (hq : 0 < q) (j : Nat) : 2 * rest p q j = dig p q j * q + rest p q (j + 1) := by
  have h1 := rest_lt p hq j
  rw [rest_succ]
  unfold dig
  split
  · rename_i h
    have : 2 * rest p q j % q = 2 * rest p q j - q := by
      rw [Nat.mod_eq_sub_mod h, Nat.mod_eq_of_lt (by omega)]
    omega
  · rename_i h
    rw [Nat.mod_eq_of_lt (by omega)]
    omega
/-- the number with the digits i .. i + k - 1 -/
def num (p q i : Nat) : Nat → Nat
  | 0 => 0
  | k + 1 => 2 * num p q i k + dig p q (i + k)
theorem num_rest (p : Nat) {q : Nat} (hq : 0 < q) (i k : Nat) : 2 ^ k * rest p q i = num p q i k * q + rest p q (i + k) := by
  induction k with
  | zero => simp [num]
  | succ k ih =>
    have h2 := two_rest p hq (i + k)
    rw [Nat.pow_succ, Nat.mul_comm (2 ^ k) 2, Nat.mul_assoc, ih, Nat.mul_add, h2]
    show _ = (2 * num p q i k + dig p q (i + k)) * q + rest p q (i + (k + 1))
    rw [Nat.add_mul, Nat.mul_assoc, ← Nat.add_assoc]
    rfl
theorem num_lt (p q i k : Nat) : num p q i k < 2 ^ k := by
  induction k with
  | zero => simp [num]
  | succ k ih =>
    have := dig_le p q (i + k)
    show 2 * num p q i k + dig p q (i + k) < 2 ^ (k + 1)
    rw [Nat.pow_succ]
    omega
/-- told again and again -/
theorem wheel_num (p : Nat) {q : Nat} (hq : 0 < q) (hp : p < q) {k l : Nat} (h : rest p q (k + l) = rest p q k) : (num p q 0 k * (2 ^ l - 1) + num p q k l) * q = 2 ^ k * (2 ^ l - 1) * p := by
  have h1 := num_rest p hq 0 k
  have h2 := num_rest p hq k l
  rw [rest_zero hp, Nat.zero_add] at h1
  rw [h] at h2
  have hl : 1 ≤ 2 ^ l := Nat.one_le_two_pow
  have h3 : num p q k l * q = (2 ^ l - 1) * rest p q k := by rw [Nat.sub_mul, Nat.one_mul]; omega
  rw [Nat.add_mul, h3, Nat.mul_comm (num p q 0 k) (2 ^ l - 1), Nat.mul_assoc, ← Nat.mul_add, ← h1, Nat.mul_comm (2 ^ k) (2 ^ l - 1), Nat.mul_assoc]
end
end NT

namespace NT
theorem ex_ord_le {b : Nat} : ∀ n, 1 ≤ n → 2 ^ n % b = 1 % b → ∃ m, IsOrd b m := by
  intro n
  induction n using Nat.strongRecOn with
  | _ n ih =>
    intro h1 h2
    by_cases hk : ∃ k, 1 ≤ k ∧ k < n ∧ 2 ^ k % b = 1 % b
    · obtain ⟨k, k1, k2, k3⟩ := hk
      exact ih k k2 k1 k3
    · exact ⟨n, h1, h2, fun k k1 k2 k3 => hk ⟨k, k1, k2, k3⟩⟩
theorem ex_ord {b : Nat} (hb : b % 2 = 1) : ∃ m, IsOrd b m := by
  obtain ⟨n, h1, _, h3⟩ := ex_pow hb
  exact ex_ord_le n h1 h3
theorem sum_mod {a c q : Nat} (hq : 0 < q) (h : q ∣ a + c) (hc : c % q ≠ 0) : a % q + c % q = q := by
  have h0 := Nat.mod_eq_zero_of_dvd h
  rw [Nat.add_mod] at h0
  have h1 := Nat.mod_lt a hq
  have h2 := Nat.mod_lt c hq
  generalize a % q = u at *
  generalize c % q = v at *
  by_cases h3 : u + v < q
  · rw [Nat.mod_eq_of_lt h3] at h0; omega
  · rw [Nat.mod_eq_sub_mod (by omega), Nat.mod_eq_of_lt (by omega)] at h0; omega
section
variable {p q t b m : Nat}
theorem Low.dvd_of (h : Low p q t b m) {j : Nat} (hz : rest p q j = 0) : q ∣ 2 ^ j := by
  unfold rest at hz
  exact h.cop.symm.dvd_of_dvd_mul_right (Nat.dvd_of_mod_eq_zero hz)
theorem Low.ne (h : Low p q t b m) (hb : 1 < b) (j : Nat) : rest p q j ≠ 0 := fun hz => by
  have h1 := h.dvd_of hz
  have h2 : b ∣ 2 ^ j := Nat.dvd_trans ⟨2 ^ t, by rw [h.eq, Nat.mul_comm]⟩ h1
  have h3 : Nat.gcd b (2 ^ j) = 1 := cop_two h.odd j
  rw [Nat.gcd_eq_left h2] at h3
  omega
theorem Low.ne1 (h : Low p q t b m) {j : Nat} (hj : j < t) : rest p q j ≠ 0 := fun hz => by
  have h1 := h.dvd_of hz
  have h2 : 2 ^ t ∣ 2 ^ j := Nat.dvd_trans ⟨b, h.eq⟩ h1
  have := (Nat.pow_dvd_pow_iff_le_right (by omega)).mp h2
  omega
theorem Low.z1 (h : Low p q t 1 m) {j : Nat} (hj : t ≤ j) : rest p q j = 0 := by
  unfold rest
  have h1 : q ∣ 2 ^ j := by rw [h.eq, Nat.mul_one]; exact Nat.pow_dvd_pow 2 hj
  exact Nat.mod_eq_zero_of_dvd (Nat.dvd_mul_right_of_dvd h1 p)
theorem comp_sum (hp : p < q) (j : Nat) : q ∣ 2 ^ j * (q - p) + 2 ^ j * p := by
  rw [← Nat.mul_add, Nat.sub_add_cancel (by omega)]
  exact ⟨2 ^ j, Nat.mul_comm _ _⟩
theorem rest_comp (hp : p < q) {j : Nat} (h : rest p q j ≠ 0) : rest (q - p) q j + rest p q j = q := sum_mod (by omega) (comp_sum hp j) h
theorem rest_comp0 (hp : p < q) {j : Nat} (h : rest p q j = 0) : rest (q - p) q j = 0 := by
  by_cases h0 : rest (q - p) q j = 0
  · exact h0
  · have h1 := comp_sum hp j
    rw [Nat.add_comm] at h1
    have h2 := sum_mod (by omega) h1 h0
    unfold rest at h h0
    rw [h] at h2
    have := Nat.mod_lt (2 ^ j * (q - p)) (show 0 < q by omega)
    omega
theorem Low.comp (h : Low p q t b m) (hp : 0 < p) : Low (q - p) q t b m where
  eq := h.eq
  odd := h.odd
  cop := by
    have h1 : Nat.gcd (q - p) q = Nat.gcd p q := by
      rw [Nat.gcd_sub_left_left_of_dvd]
      · exact Nat.le_of_lt h.lt
      · exact Nat.dvd_refl q
    exact h1.trans h.cop
  lt := by have := h.lt; omega
  ord := h.ord
theorem dig_flip {r s : Nat} (hs : s + r = q) (h2 : 2 * r ≠ q) : (if q ≤ 2 * s then 1 else 0) = 1 - (if q ≤ 2 * r then 1 else 0) := by
  split <;> split <;> omega
theorem Low.twice_ne (h : Low p q t b m) (hb : 1 < b) (j : Nat) : 2 * rest p q j ≠ q := fun e => by
  have h1 := rest_succ p q j
  rw [e, Nat.mod_self] at h1
  exact h.ne hb _ h1
theorem Low.dig_comp (h : Low p q t b m) (hb : 1 < b) (j : Nat) : dig (q - p) q j = 1 - dig p q j := dig_flip (rest_comp h.lt (h.ne hb j)) (h.twice_ne hb j)
theorem Low.rest_half (h : Low p q t b m) (hb : 1 < b) {k i : Nat} (hk : 2 ^ k % b = b - 1) (hi : t ≤ i) : rest p q (i + k) + rest p q i = q := by
  refine sum_mod h.qpos ?_ (h.ne hb i)
  have e : 2 ^ (i + k) * p + 2 ^ i * p = 2 ^ i * (2 ^ k + 1) * p := by
    rw [Nat.pow_add, Nat.mul_add, Nat.mul_one, Nat.add_mul]
  rw [e, h.eq]
  refine Nat.dvd_mul_right_of_dvd (Nat.mul_dvd_mul (Nat.pow_dvd_pow 2 hi) ?_) p
  apply Nat.dvd_of_mod_eq_zero
  rw [Nat.add_mod, hk, Nat.mod_eq_of_lt hb, Nat.sub_add_cancel (by omega), Nat.mod_self]
theorem Low.dig_half (h : Low p q t b m) (hb : 1 < b) {k i : Nat} (hk : 2 ^ k % b = b - 1) (hi : t ≤ i) : dig p q (i + k) = 1 - dig p q i := dig_flip (h.rest_half hb hk hi) (h.twice_ne hb i)

/-- one place on -/
def Sh (P Q p q : Nat) : Prop := ∃ g, 0 < g ∧ Q = g * q ∧ ∀ j, rest P Q (j + 1) = g * rest p q j
theorem Sh.dig {P Q : Nat} (h : Sh P Q p q) (j : Nat) : dig P Q (j + 1) = dig p q j := by
  obtain ⟨g, hg, rfl, hr⟩ := h
  unfold NT.dig
  rw [hr, show 2 * (g * rest p q j) = g * (2 * rest p q j) by rw [← Nat.mul_assoc, Nat.mul_comm 2 g, Nat.mul_assoc]]
  have : g * q ≤ g * (2 * rest p q j) ↔ q ≤ 2 * rest p q j := Nat.mul_le_mul_left_iff hg
  simp only [this]
theorem cop_mod {a q : Nat} (h : Nat.Coprime a q) : Nat.Coprime (a % q) q := by
  unfold Nat.Coprime at *
  rw [← Nat.gcd_rec, Nat.gcd_comm]; exact h
theorem rest_twice (P p q j : Nat) : rest p (2 * q) (j + 1) = 2 * rest p q j := by
  unfold rest
  rw [Nat.pow_succ, Nat.mul_comm (2 ^ j) 2, Nat.mul_assoc, Nat.mul_mod_mul_left]
theorem Low.shift (h : Low p q t b m) : ∃ p' q', Low p' q' (t - 1) b m ∧ Sh p q p' q' := by
  obtain ⟨eq, odd, cop, lt, ord⟩ := h
  cases t with
  | zero =>
    have hq1 : q % 2 = 1 := by rw [eq, Nat.pow_zero, Nat.one_mul]; exact odd
    refine ⟨2 * p % q, q, ⟨eq, odd, ?_, Nat.mod_lt _ (by omega), ord⟩, 1, by decide, by omega, fun j => ?_⟩
    · have h2 : Nat.Coprime 2 q := by have := (cop_two hq1 1).symm; rwa [Nat.pow_one] at this
      exact cop_mod (Nat.Coprime.mul_left h2 cop)
    · unfold rest
      rw [Nat.mul_mod, Nat.mul_mod (2 ^ j), Nat.mod_mod, ← Nat.mul_mod (2 ^ j), Nat.one_mul, ← Nat.mul_mod, Nat.pow_succ, Nat.mul_assoc]
  | succ s =>
    obtain ⟨q', hq'⟩ : ∃ q', q' = 2 ^ s * b := ⟨_, rfl⟩
    have e : q = 2 * q' := by rw [eq, hq', Nat.pow_succ, Nat.mul_comm (2 ^ s) 2, Nat.mul_assoc]
    subst e
    refine ⟨p % q', q', ⟨hq', odd, cop_mod (Nat.Coprime.coprime_mul_left_right cop), Nat.mod_lt _ (by omega), ord⟩, 2, by decide, rfl, fun j => ?_⟩
    rw [rest_twice 0]
    congr 1
    unfold rest
    rw [Nat.mul_mod (2 ^ j) (p % q'), Nat.mod_mod, ← Nat.mul_mod]
theorem Low.half_odd (h : Low p q t b m) (hp : p % 2 = 1) : Low p (2 * q) (t + 1) b m ∧ Sh p (2 * q) p q := by
  refine ⟨⟨?_, h.odd, ?_, by have := h.lt; omega, h.ord⟩, 2, by decide, rfl, fun j => rest_twice 0 p q j⟩
  · rw [Nat.pow_succ, Nat.mul_comm (2 ^ t) 2, Nat.mul_assoc, ← h.eq]
  · have h2 : Nat.Coprime p 2 := by have := cop_two hp 1; rwa [Nat.pow_one] at this
    exact Nat.Coprime.mul_right h2 h.cop
theorem Low.even_t (h : Low p q t b m) (hp : p % 2 = 0) : t = 0 := by
  cases t with
  | zero => rfl
  | succ s =>
    have h1 : (2 : Nat) ∣ p := Nat.dvd_of_mod_eq_zero hp
    have h2 : (2 : Nat) ∣ q := ⟨2 ^ s * b, by rw [h.eq, Nat.pow_succ, Nat.mul_comm (2 ^ s) 2, Nat.mul_assoc]⟩
    have h3 := Nat.dvd_gcd h1 h2
    rw [h.cop] at h3
    have := Nat.le_of_dvd (by decide) h3
    omega
theorem Low.half_even (h : Low p q t b m) (hp : p % 2 = 0) : Low (p / 2) q t b m ∧ Sh (p / 2) q p q := by
  have e : 2 * (p / 2) = p := by omega
  refine ⟨⟨h.eq, h.odd, ?_, by have := h.lt; omega, h.ord⟩, 1, by decide, by omega, fun j => ?_⟩
  · have := h.cop
    rw [← e] at this
    exact Nat.Coprime.coprime_mul_left this
  · unfold rest
    rw [Nat.one_mul, Nat.pow_succ, Nat.mul_assoc, e]
theorem Low.last (h : Low p q 0 b m) : dig p q (m - 1) = p % 2 := by
  have h1 := two_rest p h.qpos (m - 1)
  have hm := h.ord.pos
  rw [Nat.sub_add_cancel hm] at h1
  have h2 := h.period (Nat.le_refl 0)
  rw [Nat.zero_add, rest_zero h.lt] at h2
  rw [h2] at h1
  have hq1 : q % 2 = 1 := by rw [h.eq, Nat.pow_zero, Nat.one_mul]; exact h.odd
  have hd := dig_le p q (m - 1)
  generalize dig p q (m - 1) = d at *
  have : d = 0 ∨ d = 1 := by omega
  rcases this with rfl | rfl <;> omega
end
end NT

namespace LawK37
open PySem FD

theorem gcd_pos_right {a b : Nat} (h : 0 < b) : 0 < Nat.gcd a b := Nat.gcd_pos_of_pos_right _ h
theorem low_num (p q : Int) (hq : 0 < q) : ((p : Rat) / (q : Rat)).num = p / ((Nat.gcd p.natAbs q.natAbs : Nat) : Int) := by
  rw [← Rat.divInt_eq_div, Rat.num_divInt, Int.sign_eq_one_of_pos hq, Int.one_mul, Int.gcd_comm]; rfl
theorem low_den (p q : Int) (hq : 0 < q) : (((p : Rat) / (q : Rat)).den : Int) = q / ((Nat.gcd p.natAbs q.natAbs : Nat) : Int) := by
  rw [← Rat.divInt_eq_div, Rat.den_divInt, if_neg (by omega), Int.gcd_comm]
  show (((q.natAbs / Nat.gcd p.natAbs q.natAbs : Nat)) : Int) = _
  rw [Int.natCast_ediv, Int.natAbs_of_nonneg (by omega)]
theorem log_lt {n k : Nat} (h : n < 2 ^ k) (hk : 0 < k) : n.log2 < k := by
  by_cases h0 : n = 0
  · subst h0; simpa using hk
  · exact (Nat.log2_lt h0).mpr h
/-- a number below 2 ^ k in size -/
def Sz (k : Nat) (i : Int) : Prop := i.natAbs < 2 ^ k
theorem Sz.mono {k l : Nat} {i : Int} (h : Sz k i) (hkl : k ≤ l) : Sz l i := Nat.lt_of_lt_of_le h (Nat.pow_le_pow_right (by omega) hkl)
theorem Sz.mul {k l : Nat} {i j : Int} (h : Sz k i) (h' : Sz l j) : Sz (k + l) (i * j) := by
  unfold Sz
  rw [Int.natAbs_mul, Nat.pow_add]
  exact Nat.mul_lt_mul'' h h'
theorem Sz.add {k : Nat} {i j : Int} (h : Sz k i) (h' : Sz k j) : Sz (k + 1) (i + j) := by
  unfold Sz at *
  have := Int.natAbs_add_le i j
  rw [Nat.pow_succ]; omega
theorem Sz.le {k : Nat} {i j : Int} (h : Sz k j) (h0 : 0 ≤ i) (h1 : i ≤ j) : Sz k i := by
  unfold Sz at *
  omega
theorem Sz.nat {k n : Nat} (h : n < 2 ^ k) : Sz k (n : Int) := by unfold Sz; rw [Int.natAbs_natCast]; exact h
theorem Sz.pow {n k : Nat} (h : n < k) : Sz k ((2 ^ n : Nat) : Int) := Sz.nat (Nat.pow_lt_pow_right (by omega) h)
theorem okMul_of {k l : Nat} {i j : Int} (h : Sz k i) (h' : Sz l j) (hk : 0 < k) (hl : 0 < l) (hkl : k + l ≤ 1000000) : OkMul i j := by
  have h1 := log_lt h hk
  have h2 := log_lt h' hl
  exact ⟨by omega⟩
theorem okDiv_of {k : Nat} {j : Int} (h : Sz k j) (hk : 0 < k) (h0 : 0 < j) (h9 : k ≤ 9000) : OkDiv j := by
  have h1 := log_lt h hk
  exact ⟨⟨h0, by omega⟩⟩
theorem ok62_of {j : Int} (h0 : -1000000000 ≤ j) (h1 : j ≤ 1000000000) : Ok62 j := ⟨⟨by omega, by omega⟩⟩

theorem lowest_eq {k : Nat} (p q : Int) (S : Pick) (hq : 0 < q) (h : Sz k q) (hk : k ≤ 8999) : fn_in_least_terms [.int p, .int q] S = some (frq ((p : Rat) / (q : Rat)), S) := by
  have g0 : 0 < ((Nat.gcd p.natAbs q.natAbs : Nat) : Int) := by exact_mod_cast gcd_pos_right (by omega)
  have gl : Sz 9000 ((Nat.gcd p.natAbs q.natAbs : Nat) : Int) := (h.mono (by omega)).le (by omega) (by
    have h1 : Nat.gcd p.natAbs q.natAbs ≤ q.natAbs := Nat.gcd_le_right _ (by omega)
    omega)
  have hd := okDiv_of gl (by decide) g0 (by decide)
  unfold frq
  rw [low_num p q hq, low_den p q hq]
  simp [fn_in_least_terms, B_in_least_terms, runB, exSeq, exSet, exAsg, exPar, exRet, exRetN, exDrop, exIf, exBreak, exCont, exFreeze, exFor, exWhile, exApp, exNil, evC, evV, ev1, ev2, evNil, evCons, evTup, evLst, evB, evTB, evTru, evAndT, evOrT, evNotT, evAndV, evOrV, evIf, evSl, evPart, evNoPart, evSeq, evRng1, evRng2, gvName, gvTup, gvNil, gvCons, addD, addI, subD, mulD, mulI, divW, modD, shlD, powD, negD, cmpI, gcdD, lenD, absD, intD, tupleD, listD, sumD, min2D, max2D, ixD, slD, notD, truD, noAl, show ¬ q < 0 by omega, grd_of hd, show OkLen 2 from ⟨by decide⟩, grd_of, -Int.natAbs_natCast]
end LawK37

namespace LawK37
open PySem FD NT

def fr (p q : Nat) : D := .tuple [.int p, .int q]
def dl (p q i k : Nat) : List D := (List.range k).map fun a => .int (dig p q (i + a))
theorem dl_length (p q i k : Nat) : (dl p q i k).length = k := by simp [dl]
theorem frq_nat {p q : Nat} (hq : 0 < q) (h : Nat.Coprime p q) : frq ((p : Rat) / (q : Rat)) = fr p q := by
  have e1 := low_num (p : Int) (q : Int) (by omega)
  have e2 := low_den (p : Int) (q : Int) (by omega)
  have hg : Nat.gcd p q = 1 := h
  simp only [Int.natAbs_natCast, hg] at e1 e2
  unfold frq fr
  simp only [Rat.intCast_natCast] at e1 e2
  rw [e1, e2]
  simp
theorem frq_gcd {p q g p' q' : Nat} (hg : 0 < g) (hq : 0 < q') (ep : p = g * p') (eq : q = g * q') (h : Nat.Coprime p' q') : frq ((p : Rat) / (q : Rat)) = fr p' q' := by
  rw [← frq_nat hq h]
  congr 1
  subst ep
  subst eq
  have h1 : (g : Rat) ≠ 0 := by rw [Ne, Rat.natCast_eq_zero_iff]; omega
  have h2 : (q' : Rat) ≠ 0 := by rw [Ne, Rat.natCast_eq_zero_iff]; omega
  rw [Rat.natCast_mul, Rat.natCast_mul]
  grind
theorem pow_eval (n : Nat) (hn : n ≤ 100000) (S : Pick) : fn_power_of_two [.int n] S = some (.int ((2 ^ n : Nat) : Int), S) := by
  obtain ⟨ρ', S', e, s, rfl, rfl⟩ := for_rng (G := gvName 2) (F := exSet 1 (ev2 mulD (evV 1) (evC (.int 2)))) (fun i ρ S' => ∃ s, ρ = [.val (.int n), .val (.int ((2 ^ i : Nat) : Int)), s] ∧ S' = S)
    0 n [.val (.int n), .val (.int 1), .un] S ⟨_, rfl, rfl⟩ (fun i ρ S' hi hp => by
      obtain ⟨s, rfl, rfl⟩ := hp
      refine ⟨_, [.val (.int n), .val (.int ((2 ^ (i + 1) : Nat) : Int)), .val (.int (0 + i))], S', rfl, ?_, _, rfl, rfl⟩
      have hg : OkMul ((2 ^ i : Nat) : Int) 2 := okMul_of (Sz.pow (Nat.lt_succ_self i)) (Sz.pow (n := 1) (k := 2) (by decide)) (by omega) (by decide) (by omega)
      simp only [exSet, ev2, evV, evC, mulD, mulI, grd_of hg, List.getElem?_cons_succ, List.getElem?_cons_zero, ↓reduceIte, List.set]
      rw [Nat.pow_succ, Int.natCast_mul]
      rfl)
  have h62 : Ok62 (n : Int) := ok62_of (by omega) (by omega)
  simp [fn_power_of_two, B_power_of_two, runB, exSeq, exSet, exAsg, exPar, exRet, exRetN, exDrop, exIf, exBreak, exCont, exFreeze, exFor, exWhile, exApp, exNil, evC, evV, ev1, ev2, evNil, evCons, evTup, evLst, evB, evTB, evTru, evAndT, evOrT, evNotT, evAndV, evOrV, evIf, evSl, evPart, evNoPart, evSeq, evRng1, evRng2, gvName, gvTup, gvNil, gvCons, addD, addI, subD, mulD, mulI, divW, modD, shlD, powD, negD, cmpI, gcdD, lenD, absD, intD, tupleD, listD, sumD, min2D, max2D, ixD, slD, notD, truD, noAl, grd_of h62, e]
end LawK37

namespace LawK37
open PySem FD NT

/-! ### the fraction of two numbers, by Euclid -/
def euc : Int → Int → FD.Env → FD.Env := fun _ _ ρ => ρ
theorem mod_half {b c : Nat} (hc : c < b) (h0 : 0 < c) : b % c < b / 2 + b % 2 ∧ 2 * (b % c) < b := by
  have h1 := Nat.mod_lt b h0
  by_cases h : 2 * c ≤ b
  · omega
  · have : b % c = b - c := by
      rw [Nat.mod_eq_sub_mod (by omega), Nat.mod_eq_of_lt (by omega)]
    omega
def eucT : EvT := evTB (ev2 (cmpI fun i j => decide (j < i)) (evV 3) (evC (.int 0)))
def eucF : ExF := exPar 2 3 (evV 3) (ev2 modD (evB intD (evCons (evV 2) (evNil))) (evV 3))
theorem euc_step (x y : FD.Slot) (a b : Nat) (S : Pick) (hb : 0 < b) : eucT [x, y, .val (.int a), .val (.int b)] S = some (true, S) ∧ eucF [x, y, .val (.int a), .val (.int b)] S = some (.nx [x, y, .val (.int b), .val (.int ((a % b : Nat) : Int))], S) := by
  constructor
  · simp [eucT, runB, exSeq, exSet, exAsg, exPar, exRet, exRetN, exDrop, exIf, exBreak, exCont, exFreeze, exFor, exWhile, exApp, exNil, evC, evV, ev1, ev2, evNil, evCons, evTup, evLst, evB, evTB, evTru, evAndT, evOrT, evNotT, evAndV, evOrV, evIf, evSl, evPart, evNoPart, evSeq, evRng1, evRng2, gvName, gvTup, gvNil, gvCons, addD, addI, subD, mulD, mulI, divW, modD, shlD, powD, negD, cmpI, gcdD, lenD, absD, intD, tupleD, listD, sumD, min2D, max2D, ixD, slD, notD, truD, noAl, hb]
  · have : (0 : Int) < (b : Int) := by omega
    simp [eucF, runB, exSeq, exSet, exAsg, exPar, exRet, exRetN, exDrop, exIf, exBreak, exCont, exFreeze, exFor, exWhile, exApp, exNil, evC, evV, ev1, ev2, evNil, evCons, evTup, evLst, evB, evTB, evTru, evAndT, evOrT, evNotT, evAndV, evOrV, evIf, evSl, evPart, evNoPart, evSeq, evRng1, evRng2, gvName, gvTup, gvNil, gvCons, addD, addI, subD, mulD, mulI, divW, modD, shlD, powD, negD, cmpI, gcdD, lenD, absD, intD, tupleD, listD, sumD, min2D, max2D, ixD, slD, notD, truD, noAl, this, hb]
theorem euc_end (x y : FD.Slot) (a : Nat) (S : Pick) : eucT [x, y, .val (.int a), .val (.int (0 : Nat))] S = some (false, S) := by
  simp [eucT, runB, exSeq, exSet, exAsg, exPar, exRet, exRetN, exDrop, exIf, exBreak, exCont, exFreeze, exFor, exWhile, exApp, exNil, evC, evV, ev1, ev2, evNil, evCons, evTup, evLst, evB, evTB, evTru, evAndT, evOrT, evNotT, evAndV, evOrV, evIf, evSl, evPart, evNoPart, evSeq, evRng1, evRng2, gvName, gvTup, gvNil, gvCons, addD, addI, subD, mulD, mulI, divW, modD, shlD, powD, negD, cmpI, gcdD, lenD, absD, intD, tupleD, listD, sumD, min2D, max2D, ixD, slD, notD, truD, noAl]
theorem euc_while (x y : FD.Slot) (S : Pick) : ∀ (k a b n : Nat), b < 2 ^ k → 2 * k + 1 < n → whileN eucT eucF n [x, y, .val (.int a), .val (.int b)] S = some (.nx [x, y, .val (.int (Nat.gcd a b : Nat)), .val (.int (0 : Nat))], S)
  | 0, a, b, n, hb, hn => by
    have : b = 0 := by simpa using hb
    subst this
    obtain ⟨n, rfl⟩ : ∃ m, n = m + 1 := ⟨n - 1, by omega⟩
    unfold whileN
    rw [euc_end]
    simp
  | k + 1, a, b, n, hb, hn => by
    obtain ⟨n, rfl⟩ : ∃ m, n = m + 2 := ⟨n - 2, by omega⟩
    by_cases h0 : b = 0
    · subst h0
      unfold whileN
      rw [euc_end]
      simp
    · have hb0 : 0 < b := by omega
      unfold whileN
      rw [(euc_step x y a b S hb0).1]
      simp only [(euc_step x y a b S hb0).2]
      by_cases h1 : a % b = 0
      · rw [h1]
        unfold whileN
        rw [euc_end]
        simp only
        rw [Nat.gcd_comm a b, Nat.gcd_rec b a, h1, Nat.gcd_zero_left]
      · have hc0 : 0 < a % b := by omega
        unfold whileN
        rw [(euc_step x y b (a % b) S hc0).1]
        simp only [(euc_step x y b (a % b) S hc0).2]
        have hlt := mod_half (Nat.mod_lt a hb0) hc0
        rw [euc_while x y S k (a % b) (b % (a % b)) n (by rw [Nat.pow_succ] at hb; omega) (by omega)]
        rw [Nat.gcd_comm (a % b) (b % (a % b)), ← Nat.gcd_rec (a % b) b, ← Nat.gcd_rec b a, Nat.gcd_comm b a]
theorem cut_eq {k : Nat} (p q : Int) (S : Pick) (hq : 0 < q) (h : Sz k q) (hk : k ≤ 8999) : fn_law_cut [.int p, .int q] S = some (frq ((p : Rat) / (q : Rat)), S) := by
  have g0 : 0 < ((Nat.gcd p.natAbs q.natAbs : Nat) : Int) := by exact_mod_cast gcd_pos_right (by omega)
  have gl : Sz 9000 ((Nat.gcd p.natAbs q.natAbs : Nat) : Int) := (h.mono (by omega)).le (by omega) (by
    have h1 : Nat.gcd p.natAbs q.natAbs ≤ q.natAbs := Nat.gcd_le_right _ (by omega)
    omega)
  have hd := okDiv_of gl (by decide) g0 (by decide)
  have hw := euc_while (.val (.int p)) (.val (.int q)) S k p.natAbs q.natAbs FUEL h (by unfold FUEL; omega)
  rw [Int.natAbs_of_nonneg (by omega : 0 ≤ q)] at hw
  unfold eucT eucF at hw
  have ha : (if p < 0 then -p else p) = ((p.natAbs : Nat) : Int) := by split <;> omega
  unfold frq
  rw [low_num p q hq, low_den p q hq]
  simp [fn_law_cut, B_law_cut, runB, exSeq, exSet, exAsg, exPar, exRet, exRetN, exDrop, exIf, exBreak, exCont, exFreeze, exFor, exWhile, exApp, exNil, evC, evV, ev1, ev2, evNil, evCons, evTup, evLst, evB, evTB, evTru, evAndT, evOrT, evNotT, evAndV, evOrV, evIf, evSl, evPart, evNoPart, evSeq, evRng1, evRng2, gvName, gvTup, gvNil, gvCons, addD, addI, subD, mulD, mulI, divW, modD, shlD, powD, negD, cmpI, gcdD, lenD, absD, intD, tupleD, listD, sumD, min2D, max2D, ixD, slD, notD, truD, noAl, ha, hw, grd_of hd, show OkLen 2 from ⟨by decide⟩, grd_of, -Int.natAbs_natCast]

/-! ### small functions -/
theorem rest_eval (p q j : Nat) (S : Pick) (hp : p < q) (hq : q < 2 ^ 40) (hj : j ≤ 100000) : fn_rest_of [fr p q, .int j] S = some (frq ((rest p q j : Rat) / (q : Rat)), S) := by
  have hq0 : (0 : Int) < (q : Int) := by omega
  obtain ⟨ρ', S', e, s, rfl, rfl⟩ := for_rng (G := gvName 4) (F := exSet 2 (ev2 modD (ev2 mulD (evV 2) (evC (.int 2))) (evV 3))) (fun i ρ S' => ∃ s, ρ = [.val (fr p q), .val (.int j), .val (.int (rest p q i)), .val (.int q), s] ∧ S' = S)
    0 j [.val (fr p q), .val (.int j), .val (.int p), .val (.int q), .un] S ⟨_, by rw [rest_zero hp], rfl⟩ (fun i ρ S' hi h => by
      obtain ⟨s, rfl, rfl⟩ := h
      refine ⟨_, [.val (fr p q), .val (.int j), .val (.int (rest p q (i + 1))), .val (.int q), .val (.int (0 + i))], S', rfl, ?_, _, rfl, rfl⟩
      have hr := rest_lt p (by omega : 0 < q) i
      have hg : OkMul (rest p q i : Int) 2 := okMul_of (Sz.nat (k := 40) (by omega)) (Sz.nat (n := 2) (k := 2) (by decide)) (by decide) (by decide) (by decide)
      have e1 : (rest p q i : Int) * 2 % (q : Int) = ((rest p q (i + 1) : Nat) : Int) := by rw [rest_succ, Int.natCast_emod, Int.natCast_mul, Int.mul_comm]; rfl
      simp only [exSet, ev2, evV, evC, mulD, mulI, modD, grd_of hg, if_pos hq0, List.getElem?_cons_succ, List.getElem?_cons_zero, List.set, e1])
  have h62 : Ok62 (j : Int) := ok62_of (by omega) (by omega)
  have hl := lowest_eq (k := 40) (rest p q j : Int) (q : Int) S' hq0 (Sz.nat hq) (by decide)
  simp only [fr] at e
  simp [fn_rest_of, B_rest_of, runB, exSeq, exSet, exAsg, exPar, exRet, exRetN, exDrop, exIf, exBreak, exCont, exFreeze, exFor, exWhile, exApp, exNil, evC, evV, ev1, ev2, evNil, evCons, evTup, evLst, evB, evTB, evTru, evAndT, evOrT, evNotT, evAndV, evOrV, evIf, evSl, evPart, evNoPart, evSeq, evRng1, evRng2, gvName, gvTup, gvNil, gvCons, addD, addI, subD, mulD, mulI, divW, modD, shlD, powD, negD, cmpI, gcdD, lenD, absD, intD, tupleD, listD, sumD, min2D, max2D, ixD, slD, notD, truD, noAl, evCall, fr, grd_of h62, e, hl, Rat.intCast_natCast]
theorem lrest_eval (p q j : Nat) (S : Pick) (hp : p < q) (hq : q < 2 ^ 40) (hj : j ≤ 100000) : fn_law_rest [fr p q, .int j] S = some (frq ((rest p q j : Rat) / (q : Rat)), S) := by
  have hq0 : (0 : Int) < (q : Int) := by omega
  obtain ⟨ρ', S', e, s, rfl, rfl⟩ := for_rng (G := gvName 4) (F := exSet 2 (ev2 modD (evB intD (evCons (ev2 mulD (evC (.int 2)) (evV 2)) (evNil))) (evV 3))) (fun i ρ S' => ∃ s, ρ = [.val (fr p q), .val (.int j), .val (.int (rest p q i)), .val (.int q), s] ∧ S' = S)
    0 j [.val (fr p q), .val (.int j), .val (.int p), .val (.int q), .un] S ⟨_, by rw [rest_zero hp], rfl⟩ (fun i ρ S' hi h => by
      obtain ⟨s, rfl, rfl⟩ := h
      refine ⟨_, [.val (fr p q), .val (.int j), .val (.int (rest p q (i + 1))), .val (.int q), .val (.int (0 + i))], S', rfl, ?_, _, rfl, rfl⟩
      have hr := rest_lt p (by omega : 0 < q) i
      have hg : OkMul 2 (rest p q i : Int) := okMul_of (Sz.nat (n := 2) (k := 2) (by decide)) (Sz.nat (k := 40) (by omega)) (by decide) (by decide) (by decide)
      have e1 : 2 * (rest p q i : Int) % (q : Int) = ((rest p q (i + 1) : Nat) : Int) := by rw [rest_succ, Int.natCast_emod, Int.natCast_mul]; rfl
      simp only [exSet, ev2, evV, evC, evB, evCons, evNil, intD, List.map, mulD, mulI, modD, grd_of hg, if_pos hq0, List.getElem?_cons_succ, List.getElem?_cons_zero, List.set, e1])
  have h62 : Ok62 (j : Int) := ok62_of (by omega) (by omega)
  have hl := cut_eq (k := 40) (rest p q j : Int) (q : Int) S' hq0 (Sz.nat hq) (by decide)
  simp only [fr] at e
  simp [fn_law_rest, B_law_rest, runB, exSeq, exSet, exAsg, exPar, exRet, exRetN, exDrop, exIf, exBreak, exCont, exFreeze, exFor, exWhile, exApp, exNil, evC, evV, ev1, ev2, evNil, evCons, evTup, evLst, evB, evTB, evTru, evAndT, evOrT, evNotT, evAndV, evOrV, evIf, evSl, evPart, evNoPart, evSeq, evRng1, evRng2, gvName, gvTup, gvNil, gvCons, addD, addI, subD, mulD, mulI, divW, modD, shlD, powD, negD, cmpI, gcdD, lenD, absD, intD, tupleD, listD, sumD, min2D, max2D, ixD, slD, notD, truD, noAl, evCall, fr, grd_of h62, e, hl, Rat.intCast_natCast]
/-- twice a fraction at least 1 -/
theorem twice_ge (p q : Nat) (hq : 0 < q) : (((((p : Rat) / (q : Rat)).den : Int)) ≤ 2 * ((p : Rat) / (q : Rat)).num) ↔ q ≤ 2 * p := by
  have e1 := low_num (p : Int) (q : Int) (by omega)
  have e2 := low_den (p : Int) (q : Int) (by omega)
  simp only [Rat.intCast_natCast, Int.natAbs_natCast] at e1 e2
  have hg : 0 < Nat.gcd p q := gcd_pos_right hq
  rw [e1, e2]
  obtain ⟨a, ha⟩ := Nat.gcd_dvd_left p q
  obtain ⟨b, hb⟩ := Nat.gcd_dvd_right p q
  generalize Nat.gcd p q = g at *
  subst ha
  subst hb
  rw [← Int.natCast_ediv, ← Int.natCast_ediv, Nat.mul_div_cancel_left _ hg, Nat.mul_div_cancel_left _ hg]
  constructor
  · intro h
    have : b ≤ 2 * a := by omega
    calc g * b ≤ g * (2 * a) := Nat.mul_le_mul_left _ this
      _ = 2 * (g * a) := by rw [← Nat.mul_assoc, Nat.mul_comm g 2, Nat.mul_assoc]
  · intro h
    have h2 : g * b ≤ g * (2 * a) := by
      calc g * b ≤ 2 * (g * a) := h
        _ = g * (2 * a) := by rw [← Nat.mul_assoc, Nat.mul_comm 2 g, Nat.mul_assoc]
    have := Nat.le_of_mul_le_mul_left h2 hg
    omega
theorem Sz.frac_num {p q k : Nat} (hq : 0 < q) (hp : p < 2 ^ k) : Sz k ((p : Rat) / (q : Rat)).num := by
  have e1 := low_num (p : Int) (q : Int) (by omega)
  simp only [Rat.intCast_natCast, Int.natAbs_natCast] at e1
  rw [e1, ← Int.natCast_ediv]
  exact Sz.nat (Nat.lt_of_le_of_lt (Nat.div_le_self _ _) hp)
theorem Sz.frac_den {p q k : Nat} (hq : 0 < q) (hp : q < 2 ^ k) : Sz k (((p : Rat) / (q : Rat)).den : Int) := by
  have e2 := low_den (p : Int) (q : Int) (by omega)
  simp only [Rat.intCast_natCast, Int.natAbs_natCast] at e2
  rw [e2, ← Int.natCast_ediv]
  exact Sz.nat (Nat.lt_of_le_of_lt (Nat.div_le_self _ _) hp)
theorem digit_eval (p q j : Nat) (S : Pick) (hp : p < q) (hq : q < 2 ^ 40) (hj : j ≤ 100000) : fn_digit_of [fr p q, .int (j + 1)] S = some (.int (dig p q j), S) := by
  have hr := rest_eval p q j S hp hq hj
  have hlt := rest_lt p (by omega : 0 < q) j
  have hg : OkMul 2 ((rest p q j : Rat) / (q : Rat)).num := okMul_of (Sz.nat (n := 2) (k := 2) (by decide)) (Sz.frac_num (k := 40) (by omega) (by omega)) (by decide) (by decide) (by decide)
  have ht := twice_ge (rest p q j) q (by omega)
  simp only [fr] at hr
  simp [fn_digit_of, B_digit_of, runB, exSeq, exSet, exAsg, exPar, exRet, exRetN, exDrop, exIf, exBreak, exCont, exFreeze, exFor, exWhile, exApp, exNil, evC, evV, ev1, ev2, evNil, evCons, evTup, evLst, evB, evTB, evTru, evAndT, evOrT, evNotT, evAndV, evOrV, evIf, evSl, evPart, evNoPart, evSeq, evRng1, evRng2, gvName, gvTup, gvNil, gvCons, addD, addI, subD, mulD, mulI, divW, modD, shlD, powD, negD, cmpI, gcdD, lenD, absD, intD, tupleD, listD, sumD, min2D, max2D, ixD, slD, notD, truD, noAl, evCall, fr, hr, frq, grd_of hg, ht, show (j : Int) + 1 - 1 = (j : Int) by omega, dig]
  split <;> rfl
end LawK37

namespace LawK37
open PySem FD NT
noncomputable section

theorem idxOf_eq {x : D} : ∀ {ds : List D} {j : Nat} {z : D}, ds[j]? = some z → eqS z x = true → (∀ m z', m < j → ds[m]? = some z' → eqS z' x = false) → idxOf x ds = some j
  | [], j, z, h, _, _ => by simp at h
  | d :: r, 0, z, h, e, _ => by
    simp at h; subst h
    unfold idxOf
    rw [if_pos e]
  | d :: r, j + 1, z, h, e, hn => by
    have h0 := hn 0 d (by omega) rfl
    unfold idxOf
    rw [if_neg (by rw [h0]; exact Bool.false_ne_true), idxOf_eq (j := j) (by simpa using h) e (fun m z' hm hz => hn (m + 1) z' (by omega) (by simpa using hz))]
    rfl
/-- the rests met so far -/
def rl (p q n : Nat) : List D := (List.range n).map fun a => PyData.int (rest p q a : Nat)
theorem rl_length (p q n : Nat) : (rl p q n).length = n := by simp [rl]
theorem rl_flat (p q n : Nat) : (rl p q n).all flatS = true := by simp [rl, flatS]
theorem rl_get {p q n i : Nat} (h : i < n) : (rl p q n)[i]? = some (.int (rest p q i : Nat)) := by simp [rl, h]
theorem rl_succ (p q n : Nat) : rl p q (n + 1) = rl p q n ++ [.int (rest p q n : Nat)] := by simp [rl, List.range_succ]
theorem eqS_int (a b : Int) : eqS (.int a) (.int b) = (a == b) := rfl
theorem rl_any {p q n k : Nat} : ((rl p q n).any fun y => eqS y (.int (rest p q k : Nat))) = true ↔ ∃ a, a < n ∧ rest p q a = rest p q k := by
  simp only [rl, List.any_map, List.any_eq_true, List.mem_range, Function.comp, eqS_int, beq_iff_eq]
  constructor
  · rintro ⟨a, h1, h2⟩; exact ⟨a, h1, by omega⟩
  · rintro ⟨a, h1, h2⟩; exact ⟨a, h1, by omega⟩
def rtT : EvT := evTB (ev2 notInD (evV 1) (evV 3))
def rtF : ExF := exSeq (exApp 3 (evV 1)) (exSet 1 (ev2 modD (ev2 mulD (evV 1) (evC (.int 2))) (evV 2)))
section
variable {p q t b m : Nat}
theorem rt_go (h : Low p q t b m) (hq : q < 2 ^ 40) (x : FD.Slot) (S : Pick) : ∀ (d i n : Nat), i + d = t + m → t + m ≤ 100000 → d < n →
    whileN rtT rtF n [x, .val (.int (rest p q i : Nat)), .val (.int q), .own (.list (rl p q i))] S = some (.nx [x, .val (.int (rest p q (t + m) : Nat)), .val (.int q), .own (.list (rl p q (t + m)))], S)
  | 0, i, n, hi, hb, hn => by
    obtain ⟨n, rfl⟩ : ∃ k, n = k + 1 := ⟨n - 1, by omega⟩
    have hi : i = t + m := by omega
    subst hi
    have ha : ((rl p q (t + m)).any fun y => eqS y (.int (rest p q (t + m) : Nat))) = true := rl_any.mpr ⟨t, by have := h.ord.pos; omega, (h.period (Nat.le_refl t)).symm⟩
    have hT : rtT [x, .val (.int (rest p q (t + m) : Nat)), .val (.int q), .own (.list (rl p q (t + m)))] S = some (false, S) := by
      simp only [rtT, evTB, ev2, evV, notInD, inD, List.getElem?_cons_succ, List.getElem?_cons_zero, flatS, rl_flat, ha]
      simp
    unfold whileN
    rw [hT]
  | d + 1, i, n, hi, hb, hn => by
    obtain ⟨n, rfl⟩ : ∃ k, n = k + 1 := ⟨n - 1, by omega⟩
    have ha : ((rl p q i).any fun y => eqS y (.int (rest p q i : Nat))) = false := by
      cases hc : ((rl p q i).any fun y => eqS y (.int (rest p q i : Nat))) with
      | false => rfl
      | true =>
        obtain ⟨a, h1, h2⟩ := rl_any.mp hc
        exact (h.new h1 (by omega) h2).elim
    have hT : rtT [x, .val (.int (rest p q i : Nat)), .val (.int q), .own (.list (rl p q i))] S = some (true, S) := by
      simp only [rtT, evTB, ev2, evV, notInD, inD, List.getElem?_cons_succ, List.getElem?_cons_zero, flatS, rl_flat, ha]
      simp
    have hq0 : (0 : Int) < (q : Int) := by have := h.qpos; omega
    have hr := rest_lt p h.qpos i
    have hg : OkMul (rest p q i : Int) 2 := okMul_of (Sz.nat (k := 40) (by omega)) (Sz.nat (n := 2) (k := 2) (by decide)) (by decide) (by decide) (by decide)
    have e1 : (rest p q i : Int) * 2 % (q : Int) = ((rest p q (i + 1) : Nat) : Int) := by rw [rest_succ, Int.natCast_emod, Int.natCast_mul, Int.mul_comm]; rfl
    have hL : OkLen ((rl p q i).length + 1) := ⟨by rw [rl_length]; omega⟩
    have hF : rtF [x, .val (.int (rest p q i : Nat)), .val (.int q), .own (.list (rl p q i))] S = some (.nx [x, .val (.int (rest p q (i + 1) : Nat)), .val (.int q), .own (.list (rl p q (i + 1)))], S) := by
      simp only [rtF, exSeq, exApp, exSet, ev2, evV, evC, mulD, mulI, modD, grd_of hg, grd_of hL, if_pos hq0, List.getElem?_cons_succ, List.getElem?_cons_zero, List.set, e1, rl_succ]
    unfold whileN
    rw [hT]
    simp only [hF]
    exact rt_go h hq x S d (i + 1) n (by omega) hb (by omega)
theorem rests_eval (h : Low p q t b m) (hq : q < 2 ^ 40) (hb : t + m ≤ 100000) (S : Pick) : fn_rests_till_again [fr p q] S = some (.tuple [.list (rl p q (t + m)), .int t], S) := by
  have hw := rt_go h hq (.val (fr p q)) S (t + m) 0 FUEL (by omega) hb (by unfold FUEL; omega)
  have hx : idxOf (.int (rest p q (t + m) : Nat)) (rl p q (t + m)) = some t := by
    refine idxOf_eq (rl_get (by have := h.ord.pos; omega)) ?_ (fun k z' hk hz => ?_)
    · rw [eqS_int, h.period (Nat.le_refl t)]; simp
    · rw [rl_get (by omega)] at hz
      cases hz
      rw [eqS_int]
      have := h.first hk
      rw [beq_eq_false_iff_ne]
      omega
  rw [rest_zero h.lt, show rl p q 0 = [] from rfl] at hw
  unfold rtT rtF at hw
  have hfl : flatS (.int (rest p q (t + m) : Nat)) = true := rfl
  simp only [fr] at hw
  simp [fn_rests_till_again, B_rests_till_again, runB, exSeq, exSet, exAsg, exPar, exRet, exRetN, exDrop, exIf, exBreak, exCont, exFreeze, exFor, exWhile, exApp, exNil, evC, evV, ev1, ev2, evNil, evCons, evTup, evLst, evB, evTB, evTru, evAndT, evOrT, evNotT, evAndV, evOrV, evIf, evSl, evPart, evNoPart, evSeq, evRng1, evRng2, gvName, gvTup, gvNil, gvCons, addD, addI, subD, mulD, mulI, divW, modD, shlD, powD, negD, cmpI, gcdD, lenD, absD, intD, tupleD, listD, sumD, min2D, max2D, ixD, slD, notD, truD, noAl, fr, grd_of, show OkLen 0 from ⟨by decide⟩, show OkLen 2 from ⟨by decide⟩, hw, indexD, hfl, rl_flat, hx]
end
end
end LawK37

namespace LawK37
open PySem FD NT
noncomputable section
section
variable {p q t b m : Nat}
def dgF (q : Nat) : D → D
  | .int r => .int (if (q : Int) ≤ 2 * r then 1 else 0)
  | d => d
theorem dg_rl (p q n : Nat) : (rl p q n).map (dgF q) = dl p q 0 n := by
  unfold rl dl
  rw [List.map_map]
  apply List.map_congr_left
  intro a _
  show PyData.int (if (q : Int) ≤ 2 * (rest p q a : Nat) then 1 else 0) = .int ((dig p q (0 + a) : Nat) : Int)
  rw [Nat.zero_add]
  unfold dig
  split <;> split <;> first | rfl | omega
theorem dl_take (p q i k l : Nat) (h : l ≤ k) : (dl p q i k).take l = dl p q i l := by
  unfold dl
  rw [← List.map_take, List.take_range, Nat.min_eq_left h]
theorem dl_drop (p q i k l : Nat) : (dl p q i k).drop l = dl p q (i + l) (k - l) := by
  unfold dl
  apply List.ext_getElem?
  intro j
  rw [List.getElem?_drop]
  by_cases hj : l + j < k
  · rw [List.getElem?_map, List.getElem?_range hj, List.getElem?_map, List.getElem?_range (by omega)]
    simp [Nat.add_assoc]
  · rw [List.getElem?_eq_none (by simp; omega), List.getElem?_eq_none (by simp; omega)]
theorem dl_app (p q i k l : Nat) : dl p q i k ++ dl p q (i + k) l = dl p q i (k + l) := by
  have h1 := dl_take p q i (k + l) k (by omega)
  have h2 := dl_drop p q i (k + l) k
  rw [← List.take_append_drop k (dl p q i (k + l)), h1, h2, Nat.add_sub_cancel_left]
theorem dl_get {p q i k j : Nat} (h : j < k) : (dl p q i k)[j]? = some (.int (dig p q (i + j) : Nat)) := by
  unfold dl
  rw [List.getElem?_map, List.getElem?_range h]
  rfl
theorem wheel_eval (h : Low p q t b m) (hq : q < 2 ^ 40) (hb : t + m ≤ 100000) (S : Pick) : fn_fraction_wheel [fr p q] S = some (.tuple [.tuple (dl p q 0 t), .tuple (dl p q t m)], S) := by
  have hr := rests_eval h hq hb S
  have hl := lcL_map (G := gvName 4) (T := evYes) (El := evB intD (evCons (ev2 (cmpI fun i j => decide (j ≤ i)) (ev2 mulD (evC (.int 2)) (evV 4)) (ev2 ixD (evV 0) (evC (.int 1)))) (evNil)))
    (ρ := [.val (fr p q), .val (.list (rl p q (t + m))), .val (.int t), .un, .un]) (S := S) (dgF q) (rl p q (t + m)) [] (fun d hd => by
      obtain ⟨a, ha, rfl⟩ := List.mem_map.mp hd
      refine ⟨_, .cl, rfl, rfl, ?_, fun z => by cases z⟩
      have hlt := rest_lt p h.qpos a
      have hg : OkMul 2 (rest p q a : Int) := okMul_of (Sz.nat (n := 2) (k := 2) (by decide)) (Sz.nat (k := 40) (by omega)) (by decide) (by decide) (by decide)
      have h1 : L2.atI [PyData.int (p : Int), PyData.int (q : Int)] 1 = some (.int q) := rfl
      simp [runB, exSeq, exSet, exAsg, exPar, exRet, exRetN, exDrop, exIf, exBreak, exCont, exFreeze, exFor, exWhile, exApp, exNil, evC, evV, ev1, ev2, evNil, evCons, evTup, evLst, evB, evTB, evTru, evAndT, evOrT, evNotT, evAndV, evOrV, evIf, evSl, evPart, evNoPart, evSeq, evRng1, evRng2, gvName, gvTup, gvNil, gvCons, addD, addI, subD, mulD, mulI, divW, modD, shlD, powD, negD, cmpI, gcdD, lenD, absD, intD, tupleD, listD, sumD, min2D, max2D, ixD, slD, notD, truD, noAl, fr, grd_of hg, dgF, h1]) (by rw [rl_length]; simp; omega)
  rw [dg_rl, List.nil_append] at hl
  simp only [fr] at hr hl
  have h0 : t + m - t = m := by omega
  simp [fn_fraction_wheel, B_fraction_wheel, runB, exSeq, exSet, exAsg, exPar, exRet, exRetN, exDrop, exIf, exBreak, exCont, exFreeze, exFor, exWhile, exApp, exNil, evC, evV, ev1, ev2, evNil, evCons, evTup, evLst, evB, evTB, evTru, evAndT, evOrT, evNotT, evAndV, evOrV, evIf, evSl, evPart, evNoPart, evSeq, evRng1, evRng2, gvName, gvTup, gvNil, gvCons, addD, addI, subD, mulD, mulI, divW, modD, shlD, powD, negD, cmpI, gcdD, lenD, absD, intD, tupleD, listD, sumD, min2D, max2D, ixD, slD, notD, truD, noAl, evCall, evLc, wipeE, fr, hr, hl, cut_to, cut_from, dl_take, dl_drop, h0, grd_of, show OkLen 2 from ⟨by decide⟩]
end

/-! ### digits as numbers -/
theorem num_eval (p q i k : Nat) (S : Pick) (hk : k ≤ 100000) : fn_number_of_digits [.tuple (dl p q i k)] S = some (.int (num p q i k : Nat), S) := by
  obtain ⟨ρ', S', e, s, rfl, rfl⟩ := for_map (G := gvName 2) (F := exSet 1 (ev2 addD (ev2 mulD (evC (.int 2)) (evV 1)) (evV 2))) (fun j ρ S' => ∃ s, ρ = [.val (.tuple (dl p q i k)), .val (.int (num p q i j : Nat)), s] ∧ S' = S)
    (List.range k) (fun a => PyData.int (dig p q (i + a) : Nat)) [.val (.tuple (dl p q i k)), .val (.int 0), .un] S ⟨_, rfl, rfl⟩ (fun j b ρ S' hj h => by
      obtain ⟨s, rfl, rfl⟩ := h
      obtain ⟨hl, hb⟩ := List.getElem?_eq_some_iff.mp hj
      rw [List.getElem_range] at hb
      rw [List.length_range] at hl
      subst hb
      refine ⟨_, [.val (.tuple (dl p q i k)), .val (.int (num p q i (j + 1) : Nat)), .val (.int (dig p q (i + j) : Nat))], S', rfl, ?_, _, rfl, rfl⟩
      have hn := num_lt p q i j
      have hg : OkMul 2 (num p q i j : Int) := okMul_of (Sz.nat (n := 2) (k := 2) (by decide)) (Sz.nat (k := j + 1) (Nat.lt_of_lt_of_le hn (Nat.pow_le_pow_right (by decide) (by omega)))) (by decide) (by omega) (by omega)
      have e1 : (2 * (num p q i j : Int) + (dig p q (i + j) : Nat)) = ((num p q i (j + 1) : Nat) : Int) := by simp [num]
      simp only [exSet, ev2, evV, evC, addD, addI, mulD, mulI, grd_of hg, List.getElem?_cons_succ, List.getElem?_cons_zero, List.set, e1])
  rw [List.length_range] at e
  have hd : (List.range k).map (fun a => PyData.int (dig p q (i + a) : Nat)) = dl p q i k := rfl
  rw [hd] at e
  simp [fn_number_of_digits, B_number_of_digits, runB, exSeq, exSet, exAsg, exPar, exRet, exRetN, exDrop, exIf, exBreak, exCont, exFreeze, exFor, exWhile, exApp, exNil, evC, evV, ev1, ev2, evNil, evCons, evTup, evLst, evB, evTB, evTru, evAndT, evOrT, evNotT, evAndV, evOrV, evIf, evSl, evPart, evNoPart, evSeq, evRng1, evRng2, gvName, gvTup, gvNil, gvCons, addD, addI, subD, mulD, mulI, divW, modD, shlD, powD, negD, cmpI, gcdD, lenD, absD, intD, tupleD, listD, sumD, min2D, max2D, ixD, slD, notD, truD, noAl, e]
end
end LawK37

namespace LawK37
open PySem FD NT
noncomputable section
theorem natR_ne {n : Nat} (h : 0 < n) : (n : Rat) ≠ 0 := by rw [Ne, Rat.natCast_eq_zero_iff]; omega
theorem frac_eq {a c p q : Nat} (hc : 0 < c) (hq : 0 < q) (h : a * q = c * p) : (a : Rat) / (c : Rat) = (p : Rat) / (q : Rat) := by
  have h1 := natR_ne hc
  have h2 := natR_ne hq
  have h3 : (a : Rat) * q = c * p := by exact_mod_cast h
  grind
section
variable {p q t b m : Nat}
theorem byw_eval (k l : Nat) (S : Pick) (hp : p < q) (hc : Nat.Coprime p q) (hk : k ≤ 4000) (hl : l ≤ 4000) (hl1 : 1 ≤ l) (h : rest p q (k + l) = rest p q k) : fn_fraction_by_wheel [.tuple (dl p q 0 k), .tuple (dl p q k l)] S = some (fr p q, S) := by
  have hq : 0 < q := by omega
  have h1 := pow_eval l (by omega) S
  have h2 := pow_eval k (by omega) S
  have h3 := num_eval p q 0 k S (by omega)
  have h4 := num_eval p q k l S (by omega)
  have hw := wheel_num p hq hp h
  have hl2 : 2 ≤ 2 ^ l := by
    calc 2 = 2 ^ 1 := rfl
      _ ≤ 2 ^ l := Nat.pow_le_pow_right (by decide) hl1
  have hk2 : 1 ≤ 2 ^ k := Nat.one_le_two_pow
  have hD : 0 < 2 ^ k * (2 ^ l - 1) := Nat.mul_pos (by omega) (by omega)
  have s1 : Sz (l + 1) ((2 ^ l - 1 : Nat) : Int) := Sz.nat (by rw [Nat.pow_succ]; omega)
  have s2 : Sz (k + 1) ((2 ^ k : Nat) : Int) := Sz.pow (by omega)
  have s3 : Sz (k + 1) ((num p q 0 k : Nat) : Int) := Sz.nat (by have := num_lt p q 0 k; rw [Nat.pow_succ]; omega)
  have g1 := okMul_of s3 s1 (by omega) (by omega) (by omega)
  have g2 := okMul_of s2 s1 (by omega) (by omega) (by omega)
  have sD : Sz (k + 1 + (l + 1)) (((2 ^ k * (2 ^ l - 1) : Nat)) : Int) := by rw [Int.natCast_mul]; exact s2.mul s1
  have hlow := lowest_eq (k := k + 1 + (l + 1)) (((num p q 0 k * (2 ^ l - 1) + num p q k l : Nat)) : Int) (((2 ^ k * (2 ^ l - 1) : Nat)) : Int) S (by exact_mod_cast hD) sD (by omega)
  have e1 : (((2 ^ l : Nat)) : Int) - 1 = ((2 ^ l - 1 : Nat) : Int) := by omega
  have e2 : ((num p q 0 k : Nat) : Int) * ((2 ^ l - 1 : Nat) : Int) + (num p q k l : Nat) = ((num p q 0 k * (2 ^ l - 1) + num p q k l : Nat) : Int) := by rw [Int.natCast_add, Int.natCast_mul]
  have e3 : ((2 ^ k : Nat) : Int) * ((2 ^ l - 1 : Nat) : Int) = ((2 ^ k * (2 ^ l - 1) : Nat) : Int) := by rw [Int.natCast_mul]
  have hv : frq (((((num p q 0 k * (2 ^ l - 1) + num p q k l : Nat)) : Int) : Rat) / ((((2 ^ k * (2 ^ l - 1) : Nat)) : Int) : Rat)) = fr p q := by
    rw [Rat.intCast_natCast, Rat.intCast_natCast, frac_eq hD hq hw, frq_nat hq hc]
  rw [hv] at hlow
  generalize hN : ((num p q 0 k * (2 ^ l - 1) + num p q k l : Nat) : Int) = NN at *
  generalize hDD : ((2 ^ k * (2 ^ l - 1) : Nat) : Int) = DD at *
  generalize hL : ((2 ^ l : Nat) : Int) = LL at *
  generalize hL1 : ((2 ^ l - 1 : Nat) : Int) = L1 at *
  generalize hK : ((2 ^ k : Nat) : Int) = KK at *
  simp [fn_fraction_by_wheel, B_fraction_by_wheel, runB, exSeq, exSet, exAsg, exPar, exRet, exRetN, exDrop, exIf, exBreak, exCont, exFreeze, exFor, exWhile, exApp, exNil, evC, evV, ev1, ev2, evNil, evCons, evTup, evLst, evB, evTB, evTru, evAndT, evOrT, evNotT, evAndV, evOrV, evIf, evSl, evPart, evNoPart, evSeq, evRng1, evRng2, gvName, gvTup, gvNil, gvCons, addD, addI, subD, mulD, mulI, divW, modD, shlD, powD, negD, cmpI, gcdD, lenD, absD, intD, tupleD, listD, sumD, min2D, max2D, ixD, slD, notD, truD, noAl, evCall, dl_length, h1, h2, h3, h4, e1, grd_of g1, grd_of g2, e2, e3, hlow]
theorem dl_period (h : Low p q t b m) {i : Nat} (hi : t ≤ i) : dl p q (i + m) m = dl p q i m := by
  unfold dl
  apply List.map_congr_left
  intro a _
  have : dig p q (i + m + a) = dig p q (i + a) := by
    unfold dig
    rw [show i + m + a = i + a + m by omega, h.period (by omega)]
  rw [this]
theorem dl_twice (h : Low p q t b m) : (List.replicate 2 (dl p q t m)).flatten = dl p q (t + m) (2 * m) := by
  have h1 := dl_app p q (t + m) m m
  rw [dl_period h (Nat.le_refl t), dl_period h (by omega), dl_period h (Nat.le_refl t)] at h1
  rw [Nat.two_mul, ← h1]
  simp [List.replicate]
end
theorem sum2_eval {ka kb kc kd : Nat} (a b c d : Int) (S : Pick) (hb : 0 < b) (hd : 0 < d) (sa : Sz ka a) (sb : Sz kb b) (sc : Sz kc c) (sd : Sz kd d) (h0 : 0 < ka) (h1 : 0 < kb) (h2 : 0 < kc) (h3 : 0 < kd) (hk : kb + kd ≤ 8999) (ha : ka ≤ 9000) (hc : kc ≤ 9000) :
    fn_sum_of_two [.tuple [.int a, .int b], .tuple [.int c, .int d]] S = some (frq ((a : Rat) / (b : Rat) + (c : Rat) / (d : Rat)), S) := by
  have g1 := okMul_of sa sd h0 h3 (by omega)
  have g2 := okMul_of sc sb h2 h1 (by omega)
  have g3 := okMul_of sb sd h1 h3 (by omega)
  have hbd : 0 < b * d := Int.mul_pos hb hd
  have hlow := lowest_eq (k := kb + kd) (a * d + c * b) (b * d) S hbd (sb.mul sd) hk
  have e : (((a * d + c * b : Int)) : Rat) / (((b * d : Int)) : Rat) = (a : Rat) / (b : Rat) + (c : Rat) / (d : Rat) := by
    have hb' : (b : Rat) ≠ 0 := by rw [Ne, Rat.intCast_eq_zero_iff]; omega
    have hd' : (d : Rat) ≠ 0 := by rw [Ne, Rat.intCast_eq_zero_iff]; omega
    rw [Rat.intCast_add, Rat.intCast_mul, Rat.intCast_mul, Rat.intCast_mul]
    grind
  rw [e] at hlow
  have i0 : ∀ x y : D, L2.atI [x, y] 0 = some x := fun _ _ => rfl
  have i1 : ∀ x y : D, L2.atI [x, y] 1 = some y := fun _ _ => rfl
  simp [fn_sum_of_two, B_sum_of_two, runB, exSeq, exSet, exAsg, exPar, exRet, exRetN, exDrop, exIf, exBreak, exCont, exFreeze, exFor, exWhile, exApp, exNil, evC, evV, ev1, ev2, evNil, evCons, evTup, evLst, evB, evTB, evTru, evAndT, evOrT, evNotT, evAndV, evOrV, evIf, evSl, evPart, evNoPart, evSeq, evRng1, evRng2, gvName, gvTup, gvNil, gvCons, addD, addI, subD, mulD, mulI, divW, modD, shlD, powD, negD, cmpI, gcdD, lenD, absD, intD, tupleD, listD, sumD, min2D, max2D, ixD, slD, notD, truD, noAl, evCall, i0, i1, grd_of g1, grd_of g2, grd_of g3, hlow]
end
end LawK37

namespace LawK37
open PySem FD NT
noncomputable section
/-- rests from place i on, added, each halved once more: 2 ^ k times that -/
def Zs (p q i : Nat) : Nat → Nat
  | 0 => 0
  | k + 1 => 2 * (Zs p q i k + rest p q (i + k))
theorem Zs_le (p : Nat) {q : Nat} (hq : 0 < q) (i k : Nat) : Zs p q i k ≤ 2 * q * (2 ^ k - 1) := by
  induction k with
  | zero => simp [Zs]
  | succ k ih =>
    have h := rest_lt p hq (i + k)
    have h1 : 1 ≤ 2 ^ k := Nat.one_le_two_pow
    have e : 2 * q * (2 ^ (k + 1) - 1) = 2 * (2 * q * (2 ^ k - 1)) + 2 * q := by
      rw [Nat.pow_succ]
      obtain ⟨c, hc⟩ : ∃ c, 2 ^ k = c + 1 := ⟨2 ^ k - 1, by omega⟩
      rw [hc, show (c + 1) * 2 - 1 = 2 * c + 1 by omega, Nat.add_sub_cancel, Nat.mul_add, Nat.mul_one]
      rw [← Nat.mul_assoc, Nat.mul_comm (2 * q) 2, Nat.mul_assoc]
    show 2 * (Zs p q i k + rest p q (i + k)) ≤ _
    rw [e]; omega
theorem Zs_lt (p : Nat) {q : Nat} (hq : 0 < q) (h : q < 2 ^ 11) (i k : Nat) : Zs p q i k < 2 ^ (k + 12) := by
  have h1 := Zs_le p hq i k
  have h2 : 1 ≤ 2 ^ k := Nat.one_le_two_pow
  have h3 : 2 * q * (2 ^ k - 1) ≤ 2 ^ 12 * (2 ^ k - 1) := Nat.mul_le_mul_right _ (by omega)
  have h4 : 2 ^ 12 * (2 ^ k - 1) < 2 ^ 12 * 2 ^ k := Nat.mul_lt_mul_of_pos_left (by omega) (by decide)
  rw [Nat.pow_add, Nat.mul_comm]
  omega
def rli (p q i k : Nat) : List D := (List.range k).map fun a => PyData.int (rest p q (i + a) : Nat)
theorem rl_take (p q k l : Nat) (h : l ≤ k) : (rl p q k).take l = rli p q 0 l := by
  unfold rl rli
  rw [← List.map_take, List.take_range, Nat.min_eq_left h]
  simp
theorem rl_drop (p q k l : Nat) : (rl p q k).drop l = rli p q l (k - l) := by
  unfold rl rli
  apply List.ext_getElem?
  intro j
  rw [List.getElem?_drop]
  by_cases hj : l + j < k
  · rw [List.getElem?_map, List.getElem?_range hj, List.getElem?_map, List.getElem?_range (by omega)]
    rfl
  · rw [List.getElem?_eq_none (by simp; omega), List.getElem?_eq_none (by simp; omega)]
/-- the running sum of a loop of toss_sum -/
def Zq (p q i k : Nat) : Rat := (Zs p q i k : Rat) / ((q * 2 ^ k : Nat) : Rat)
theorem Zq_zero (p q i : Nat) : Zq p q i 0 = 0 := by simp [Zq, Zs, Rat.div_def]
theorem Zq_succ (p : Nat) {q : Nat} (hq : 0 < q) (i k : Nat) : Zq p q i (k + 1) = Zq p q i k + (rest p q (i + k) : Rat) / ((q * 2 ^ k : Nat) : Rat) := by
  have h1 : ((q * 2 ^ k : Nat) : Rat) ≠ 0 := natR_ne (Nat.mul_pos hq (Nat.pow_pos (by decide)))
  have h2 : ((q * 2 ^ (k + 1) : Nat) : Rat) = 2 * ((q * 2 ^ k : Nat) : Rat) := by
    rw [Nat.pow_succ, ← Nat.mul_assoc, Rat.natCast_mul, Rat.mul_comm]; rfl
  unfold Zq
  rw [h2]
  show ((2 * (Zs p q i k + rest p q (i + k)) : Nat) : Rat) / _ = _
  rw [Rat.natCast_mul, Rat.natCast_add]
  have h3 : ((2 : Nat) : Rat) = 2 := rfl
  rw [h3]
  generalize ((q * 2 ^ k : Nat) : Rat) = M at *
  grind
theorem Zq_sz (p : Nat) {q : Nat} (hq : 0 < q) (h : q < 2 ^ 11) (i k : Nat) : Sz (k + 12) (Zq p q i k).num ∧ Sz (k + 12) ((Zq p q i k).den : Int) := by
  have h0 : 0 < q * 2 ^ k := Nat.mul_pos hq (Nat.pow_pos (by decide))
  have h2 : q * 2 ^ k < 2 ^ (k + 12) := by
    rw [Nat.pow_add, Nat.mul_comm]
    exact Nat.mul_lt_mul_of_pos_left (by omega) (Nat.pow_pos (by decide))
  exact ⟨Sz.frac_num h0 (Zs_lt p hq h i k), Sz.frac_den h0 h2⟩
/-- one loop of toss_sum: slots a (the sum), c (the power) -/
theorem toss_loop (p : Nat) {q : Nat} (hq : 0 < q) (h : q < 2 ^ 11) (i k : Nat) (hk : k ≤ 2100) (S : Pick) (s0 : FD.Slot) (env : D → D → FD.Slot → FD.Env) (F : ExF)
    (hG : ∀ a c s (r : Int), gvName 6 (.int r) (env a c s) = some (env a c (.val (.int r))))
    (hF : ∀ (A : Rat) (c r : Int) (S : Pick) (A' : Rat) (c' : Int), fn_sum_of_two [frq A, .tuple [.int r, .int ((q : Int) * c)]] S = some (frq A', S) → OkMul (q : Int) c → OkMul c 2 → c' = c * 2 → F (env (frq A) (.int c) (.val (.int r))) S = some (.nx (env (frq A') (.int c') (.val (.int r))), S)) :
    ∃ s, forL (gvName 6) F (rli p q i k) (env (frq 0) (.int 1) s0) S = some (.nx (env (frq (Zq p q i k)) (.int ((2 ^ k : Nat) : Int)) s), S) := by
  obtain ⟨ρ', S', e, s, rfl, rfl⟩ := for_map (G := gvName 6) (F := F) (fun j ρ S' => ∃ s, ρ = env (frq (Zq p q i j)) (.int ((2 ^ j : Nat) : Int)) s ∧ S' = S)
    (List.range k) (fun a => PyData.int (rest p q (i + a) : Nat)) (env (frq 0) (.int 1) s0) S ⟨_, by rw [Zq_zero]; rfl, rfl⟩ (fun j b ρ S' hj hh => by
      obtain ⟨s, rfl, rfl⟩ := hh
      obtain ⟨hl, hb⟩ := List.getElem?_eq_some_iff.mp hj
      rw [List.getElem_range] at hb
      rw [List.length_range] at hl
      subst hb
      refine ⟨_, env (frq (Zq p q i (j + 1))) (.int ((2 ^ (j + 1) : Nat) : Int)) (.val (.int (rest p q (i + j) : Nat))), S', hG _ _ _ _, ?_, _, rfl, rfl⟩
      have hr := rest_lt p hq (i + j)
      have hz := Zq_sz p hq h i j
      have sq : Sz 11 (q : Int) := Sz.nat h
      have sp : Sz (j + 1) ((2 ^ j : Nat) : Int) := Sz.pow (by omega)
      have s2 : Sz 2 (2 : Int) := Sz.nat (n := 2) (k := 2) (by decide)
      have sd : Sz (11 + (j + 1)) ((q : Int) * ((2 ^ j : Nat) : Int)) := sq.mul sp
      have sr : Sz 11 (rest p q (i + j) : Int) := Sz.nat (by omega)
      have hd0 : 0 < (q : Int) * ((2 ^ j : Nat) : Int) := Int.mul_pos (by omega) (by have := Nat.pow_pos (n := j) (show 0 < 2 by decide); omega)
      have hs := sum2_eval (Zq p q i j).num ((Zq p q i j).den : Int) (rest p q (i + j) : Int) ((q : Int) * ((2 ^ j : Nat) : Int)) S' (by have := (Zq p q i j).den_pos; omega) hd0 hz.1 hz.2 sr sd (by omega) (by omega) (by decide) (by omega) (by omega) (by omega) (by decide)
      have ev : (((Zq p q i j).num : Int) : Rat) / ((((Zq p q i j).den : Nat) : Int) : Rat) + ((rest p q (i + j) : Int) : Rat) / (((q : Int) * ((2 ^ j : Nat) : Int) : Int) : Rat) = Zq p q i (j + 1) := by
        rw [Zq_succ p hq, ← Rat.divInt_eq_div, Rat.num_divInt_den, ← Int.natCast_mul, Rat.intCast_natCast, Rat.intCast_natCast]
      rw [ev] at hs
      exact hF (Zq p q i j) _ _ S' _ _ hs (okMul_of sq sp (by decide) (by omega) (by omega)) (okMul_of sp s2 (by omega) (by decide) (by omega)) (by rw [Nat.pow_succ, Int.natCast_mul]; rfl))
  rw [List.length_range] at e
  exact ⟨s, e⟩

/-- all rests of a fraction, each halved once more -/
def TT (p q t m : Nat) : Rat := Zq p q 0 t + (Zs p q t m : Rat) / ((q * 2 ^ t * (2 ^ m - 1) : Nat) : Rat)
theorem TT_eq {p q t m : Nat} (hq : 0 < q) (hm : 1 ≤ m) : Zq p q 0 t + (((Zq p q t m).num * ((2 ^ m : Nat) : Int) : Int) : Rat) / (((((Zq p q t m).den : Nat) : Int) * ((2 ^ t : Nat) : Int) * (((2 ^ m : Nat) : Int) - 1) : Int) : Rat) = TT p q t m := by
  unfold TT
  congr 1
  have h2 : 2 ≤ 2 ^ m := by
    calc 2 = 2 ^ 1 := rfl
      _ ≤ 2 ^ m := Nat.pow_le_pow_right (by decide) hm
  have e1 : ((2 ^ m : Nat) : Int) - 1 = ((2 ^ m - 1 : Nat) : Int) := by omega
  rw [e1, Rat.intCast_mul, Rat.intCast_mul, Rat.intCast_mul, Rat.intCast_natCast, Rat.intCast_natCast, Rat.intCast_natCast, Rat.intCast_natCast]
  have hz : ((Zq p q t m).num : Rat) / ((Zq p q t m).den : Rat) = Zq p q t m := by
    have := Rat.num_divInt_den (Zq p q t m)
    rw [Rat.divInt_eq_div, Rat.intCast_natCast] at this
    exact this
  have hzd : Zq p q t m = (Zs p q t m : Rat) / ((q : Rat) * ((2 ^ m : Nat) : Rat)) := by unfold Zq; rw [Rat.natCast_mul]
  have n1 : ((Zq p q t m).den : Rat) ≠ 0 := natR_ne (Zq p q t m).den_pos
  have n2 : ((2 ^ t : Nat) : Rat) ≠ 0 := natR_ne (Nat.pow_pos (by decide))
  have n3 : ((2 ^ m : Nat) : Rat) ≠ 0 := natR_ne (Nat.pow_pos (by decide))
  have n4 : ((2 ^ m - 1 : Nat) : Rat) ≠ 0 := natR_ne (by omega)
  have n5 : (q : Rat) ≠ 0 := natR_ne hq
  have hx := hz.trans hzd
  clear hz hzd
  rw [Rat.natCast_mul, Rat.natCast_mul]
  generalize hA : ((Zq p q t m).num : Rat) = a at *
  generalize ((Zq p q t m).den : Rat) = b at *
  generalize ((2 ^ t : Nat) : Rat) = c at *
  generalize ((2 ^ m : Nat) : Rat) = d at *
  generalize ((2 ^ m - 1 : Nat) : Rat) = e at *
  generalize (Zs p q t m : Rat) = z at *
  generalize (q : Rat) = q at *
  have k1 : a = z / (q * d) * b := by rw [← hx]; grind
  rw [k1]
  grind
theorem toss_eval {p q t b m : Nat} (h : Low p q t b m) (hq : q < 2 ^ 11) (ht : t ≤ 100) (hm : m ≤ 2050) (S : Pick) : fn_toss_sum [fr p q] S = some (frq (TT p q t m), S) := by
  have hq0 := h.qpos
  have hm1 := h.ord.pos
  have hr := rests_eval h (by omega) (by omega) S
  have f0 : frq 0 = .tuple [.int 0, .int 1] := rfl
  obtain ⟨s1, l1⟩ := toss_loop p hq0 hq 0 t (by omega) S .un (fun a c s => [.val (fr p q), .val (.int q), .val (.list (rl p q (t + m))), .val (.int t), .val a, .val c, s, .un, .un])
    (exSeq (exSet 4 (evCall fn_sum_of_two (evCons (evV 4) (evCons (evTup (evCons (evV 6) (evCons (ev2 mulD (evV 1) (evV 5)) (evNil)))) (evNil))))) (exSet 5 (ev2 mulD (evV 5) (evC (.int 2)))))
    (fun a c s r => rfl) (fun A c r S A' c' hs g1 g2 hc => by
      subst hc
      simp [runB, exSeq, exSet, exAsg, exPar, exRet, exRetN, exDrop, exIf, exBreak, exCont, exFreeze, exFor, exWhile, exApp, exNil, evC, evV, ev1, ev2, evNil, evCons, evTup, evLst, evB, evTB, evTru, evAndT, evOrT, evNotT, evAndV, evOrV, evIf, evSl, evPart, evNoPart, evSeq, evRng1, evRng2, gvName, gvTup, gvNil, gvCons, addD, addI, subD, mulD, mulI, divW, modD, shlD, powD, negD, cmpI, gcdD, lenD, absD, intD, tupleD, listD, sumD, min2D, max2D, ixD, slD, notD, truD, noAl, evCall, grd_of g1, grd_of g2, grd_of, show OkLen 2 from ⟨by decide⟩, hs])
  obtain ⟨s2, l2⟩ := toss_loop p hq0 hq t m (by omega) S s1 (fun a c s => [.val (fr p q), .val (.int q), .val (.list (rl p q (t + m))), .val (.int t), .val (frq (Zq p q 0 t)), .val (.int ((2 ^ t : Nat) : Int)), s, .val a, .val c])
    (exSeq (exSet 7 (evCall fn_sum_of_two (evCons (evV 7) (evCons (evTup (evCons (evV 6) (evCons (ev2 mulD (evV 1) (evV 8)) (evNil)))) (evNil))))) (exSet 8 (ev2 mulD (evV 8) (evC (.int 2)))))
    (fun a c s r => rfl) (fun A c r S A' c' hs g1 g2 hc => by
      subst hc
      simp [runB, exSeq, exSet, exAsg, exPar, exRet, exRetN, exDrop, exIf, exBreak, exCont, exFreeze, exFor, exWhile, exApp, exNil, evC, evV, ev1, ev2, evNil, evCons, evTup, evLst, evB, evTB, evTru, evAndT, evOrT, evNotT, evAndV, evOrV, evIf, evSl, evPart, evNoPart, evSeq, evRng1, evRng2, gvName, gvTup, gvNil, gvCons, addD, addI, subD, mulD, mulI, divW, modD, shlD, powD, negD, cmpI, gcdD, lenD, absD, intD, tupleD, listD, sumD, min2D, max2D, ixD, slD, notD, truD, noAl, evCall, grd_of g1, grd_of g2, grd_of, show OkLen 2 from ⟨by decide⟩, hs])
  have z1 := Zq_sz p hq0 hq 0 t
  have z2 := Zq_sz p hq0 hq t m
  have st : Sz (t + 1) ((2 ^ t : Nat) : Int) := Sz.pow (by omega)
  have sm : Sz (m + 1) ((2 ^ m : Nat) : Int) := Sz.pow (by omega)
  have hm2 : 2 ≤ 2 ^ m := by
    calc 2 = 2 ^ 1 := rfl
      _ ≤ 2 ^ m := Nat.pow_le_pow_right (by decide) hm1
  have sm1 : Sz (m + 1) (((2 ^ m : Nat) : Int) - 1) := sm.le (by omega) (by omega)
  have ht2 : 1 ≤ 2 ^ t := Nat.one_le_two_pow
  have d1 : (0 : Int) < ((Zq p q t m).den : Int) * ((2 ^ t : Nat) : Int) * (((2 ^ m : Nat) : Int) - 1) := Int.mul_pos (Int.mul_pos (by have := (Zq p q t m).den_pos; omega) (by omega)) (by omega)
  have hs := sum2_eval (Zq p q 0 t).num ((Zq p q 0 t).den : Int) ((Zq p q t m).num * ((2 ^ m : Nat) : Int)) (((Zq p q t m).den : Int) * ((2 ^ t : Nat) : Int) * (((2 ^ m : Nat) : Int) - 1)) S (by have := (Zq p q 0 t).den_pos; omega) d1
    z1.1 z1.2 (z2.1.mul sm) ((z2.2.mul st).mul sm1) (by omega) (by omega) (by omega) (by omega) (by omega) (by omega) (by omega)
  have ev := TT_eq (p := p) (q := q) (t := t) (m := m) hq0 hm1
  have hz : ((Zq p q 0 t).num : Rat) / (((Zq p q 0 t).den : Int) : Rat) = Zq p q 0 t := by rw [← Rat.divInt_eq_div, Rat.num_divInt_den]
  rw [hz, ev] at hs
  have g1 := okMul_of z2.1 sm (by omega) (by omega) (by omega)
  have g2 := okMul_of z2.2 st (by omega) (by omega) (by omega)
  have g3 := okMul_of (z2.2.mul st) sm1 (by omega) (by omega) (by omega)
  have i0 : ∀ x y : D, L2.atI [x, y] 0 = some x := fun _ _ => rfl
  have i1 : ∀ x y : D, L2.atI [x, y] 1 = some y := fun _ _ => rfl
  have h0 : t + m - t = m := by omega
  have c1 : cutD (rl p q (t + m)) none (some (t : Int)) = rli p q 0 t := by rw [cut_to, rl_take _ _ _ _ (by omega)]
  have c2 : cutD (rl p q (t + m)) (some (t : Int)) none = rli p q t m := by rw [cut_from, rl_drop, h0]
  have lL : OkLen 2 := ⟨by decide⟩
  simp only [fr] at hr l1 l2
  rw [f0] at l1 l2
  have hfin : fn_sum_of_two [frq (Zq p q 0 t), .tuple [.int ((Zq p q t m).num * ((2 ^ m : Nat) : Int)), .int (((Zq p q t m).den : Int) * ((2 ^ t : Nat) : Int) * (((2 ^ m : Nat) : Int) - 1))]] S = some (frq (TT p q t m), S) := hs
  clear hs
  have main : B_toss_sum [.val (.tuple [.int p, .int q]), .un, .un, .un, .un, .un, .un, .un, .un] S = some (.rt (frq (TT p q t m)), S) := by
    unfold B_toss_sum
    refine seq_step (ρ1 := [.val (.tuple [.int p, .int q]), .val (.int q), .un, .un, .un, .un, .un, .un, .un]) (S1 := S) (by simp [runB, exAsg, exPar, exRet, exRetN, exDrop, exBreak, exCont, exFreeze, exApp, exNil, evC, evV, ev1, ev2, evNil, evCons, evTup, evLst, evB, evTB, evTru, evAndT, evOrT, evNotT, evAndV, evOrV, evIf, evSl, evPart, evNoPart, evSeq, evRng1, evRng2, gvName, gvTup, gvNil, gvCons, addD, addI, subD, mulD, mulI, divW, modD, shlD, powD, negD, cmpI, gcdD, lenD, absD, intD, tupleD, listD, sumD, min2D, max2D, ixD, slD, notD, truD, noAl, exSet, i1]) ?_
    refine seq_step (ρ1 := [.val (.tuple [.int p, .int q]), .val (.int q), .val (.list (rl p q (t + m))), .val (.int t), .un, .un, .un, .un, .un]) (S1 := S) (by simp [runB, exAsg, exPar, exRet, exRetN, exDrop, exBreak, exCont, exFreeze, exApp, exNil, evC, evV, ev1, ev2, evNil, evCons, evTup, evLst, evB, evTB, evTru, evAndT, evOrT, evNotT, evAndV, evOrV, evIf, evSl, evPart, evNoPart, evSeq, evRng1, evRng2, gvName, gvTup, gvNil, gvCons, addD, addI, subD, mulD, mulI, divW, modD, shlD, powD, negD, cmpI, gcdD, lenD, absD, intD, tupleD, listD, sumD, min2D, max2D, ixD, slD, notD, truD, noAl, evCall, hr]) ?_
    refine seq_step (ρ1 := [.val (.tuple [.int p, .int q]), .val (.int q), .val (.list (rl p q (t + m))), .val (.int t), .val (.tuple [.int 0, .int 1]), .val (.int 1), .un, .un, .un]) (S1 := S) (by simp [runB, exAsg, exPar, exRet, exRetN, exDrop, exBreak, exCont, exFreeze, exApp, exNil, evC, evV, ev1, ev2, evNil, evCons, evTup, evLst, evB, evTB, evTru, evAndT, evOrT, evNotT, evAndV, evOrV, evIf, evSl, evPart, evNoPart, evSeq, evRng1, evRng2, gvName, gvTup, gvNil, gvCons, addD, addI, subD, mulD, mulI, divW, modD, shlD, powD, negD, cmpI, gcdD, lenD, absD, intD, tupleD, listD, sumD, min2D, max2D, ixD, slD, notD, truD, noAl, grd_of lL]) ?_
    refine seq_step (ρ1 := _) (S1 := S) (by rw [exFor]; simp only [evSeq, evSl, evV, evNoPart, evPart, List.getElem?_cons_succ, List.getElem?_cons_zero, slD, c1]; exact l1) ?_
    refine seq_step (ρ1 := [.val (.tuple [.int p, .int q]), .val (.int q), .val (.list (rl p q (t + m))), .val (.int t), .val (frq (Zq p q 0 t)), .val (.int ((2 ^ t : Nat) : Int)), s1, .val (.tuple [.int 0, .int 1]), .val (.int 1)]) (S1 := S) (by simp [runB, exAsg, exPar, exRet, exRetN, exDrop, exBreak, exCont, exFreeze, exApp, exNil, evC, evV, ev1, ev2, evNil, evCons, evTup, evLst, evB, evTB, evTru, evAndT, evOrT, evNotT, evAndV, evOrV, evIf, evSl, evPart, evNoPart, evSeq, evRng1, evRng2, gvName, gvTup, gvNil, gvCons, addD, addI, subD, mulD, mulI, divW, modD, shlD, powD, negD, cmpI, gcdD, lenD, absD, intD, tupleD, listD, sumD, min2D, max2D, ixD, slD, notD, truD, noAl, grd_of lL]) ?_
    refine seq_step (ρ1 := _) (S1 := S) (by rw [exFor]; simp only [evSeq, evSl, evV, evNoPart, evPart, List.getElem?_cons_succ, List.getElem?_cons_zero, slD, c2]; exact l2) ?_
    have j0 : L2.atI [PyData.int (Zq p q t m).num, PyData.int (Zq p q t m).den] 0 = some (PyData.int (Zq p q t m).num) := rfl
    have j1 : L2.atI [PyData.int (Zq p q t m).num, PyData.int (Zq p q t m).den] 1 = some (PyData.int (Zq p q t m).den) := rfl
    generalize frq (TT p q t m) = T at *
    generalize frq (Zq p q 0 t) = Z1 at *
    rw [show frq (Zq p q t m) = .tuple [.int (Zq p q t m).num, .int ((Zq p q t m).den : Nat)] from rfl]
    generalize (Zq p q t m).num = n2 at *
    generalize (Zq p q t m).den = d2 at *
    generalize ((2 ^ t : Nat) : Int) = P1 at *
    generalize ((2 ^ m : Nat) : Int) = P2 at *
    simp [runB, exAsg, exPar, exRet, exRetN, exDrop, exBreak, exCont, exFreeze, exApp, exNil, evC, evV, ev1, ev2, evNil, evCons, evTup, evLst, evB, evTB, evTru, evAndT, evOrT, evNotT, evAndV, evOrV, evIf, evSl, evPart, evNoPart, evSeq, evRng1, evRng2, gvName, gvTup, gvNil, gvCons, addD, addI, subD, mulD, mulI, divW, modD, shlD, powD, negD, cmpI, gcdD, lenD, absD, intD, tupleD, listD, sumD, min2D, max2D, ixD, slD, notD, truD, noAl, evCall, j0, j1, grd_of g1, grd_of g2, grd_of g3, grd_of lL, hfin]
  show runB 9 B_toss_sum [.tuple [.int p, .int q]] S = _
  unfold runB
  show (match B_toss_sum [.val (.tuple [.int p, .int q]), .un, .un, .un, .un, .un, .un, .un, .un] S with | some (.rt d, S') => some (d, S') | some (.nx _, S') => some (.none, S') | _ => none) = _
  rw [main]
end
end LawK37

namespace LawK37
open PySem FD NT
noncomputable section
/-! ### the sum of all rests -/
def Pw (k : Nat) : Rat := ((2 ^ k : Nat) : Rat)
theorem Pw_zero : Pw 0 = 1 := rfl
theorem Pw_succ (k : Nat) : Pw (k + 1) = 2 * Pw k := by
  unfold Pw
  rw [Nat.pow_succ, Nat.mul_comm, Rat.natCast_mul]; rfl
theorem Pw_ne (k : Nat) : Pw k ≠ 0 := natR_ne (Nat.pow_pos (by decide))
theorem Pw_sub (k : Nat) : ((2 ^ k - 1 : Nat) : Rat) = Pw k - 1 := by
  have h : 1 ≤ 2 ^ k := Nat.one_le_two_pow
  obtain ⟨c, hc⟩ : ∃ c, 2 ^ k = c + 1 := ⟨2 ^ k - 1, by omega⟩
  unfold Pw
  rw [hc, Nat.add_sub_cancel, Rat.natCast_add]
  have : ((1 : Nat) : Rat) = 1 := rfl
  grind
theorem Pw_ne1 {k : Nat} (h : 1 ≤ k) : Pw k - 1 ≠ 0 := by
  rw [← Pw_sub]
  have : 2 ≤ 2 ^ k := by
    calc 2 = 2 ^ 1 := rfl
      _ ≤ 2 ^ k := Nat.pow_le_pow_right (by decide) h
  exact natR_ne (by omega)
def Ws (f : Nat → Rat) (i : Nat) : Nat → Rat
  | 0 => 0
  | k + 1 => Ws f i k + f (i + k) / Pw k
theorem Ws_front (f : Nat → Rat) (i k : Nat) : Ws f i (k + 1) = f i + Ws f (i + 1) k / 2 := by
  induction k with
  | zero =>
    show Ws f i 0 + f (i + 0) / Pw 0 = f i + Ws f (i + 1) 0 / 2
    rw [Pw_zero, Nat.add_zero]
    show 0 + f i / 1 = f i + 0 / 2
    grind
  | succ k ih =>
    show Ws f i (k + 1) + f (i + (k + 1)) / Pw (k + 1) = f i + (Ws f (i + 1) k + f (i + 1 + k) / Pw k) / 2
    rw [ih, Pw_succ, show i + (k + 1) = i + 1 + k by omega]
    have := Pw_ne k
    grind
theorem Ws_sh {f g : Nat → Rat} (h : ∀ j, f (j + 1) = g j) (i k : Nat) : Ws f (i + 1) k = Ws g i k := by
  induction k with
  | zero => rfl
  | succ k ih =>
    show Ws f (i + 1) k + f (i + 1 + k) / Pw k = Ws g i k + g (i + k) / Pw k
    rw [ih, show i + 1 + k = i + k + 1 by omega, h]
def Tq (f : Nat → Rat) (t m : Nat) : Rat := Ws f 0 t + Ws f t m * Pw m / (Pw t * (Pw m - 1))
theorem Tq_sh {f g : Nat → Rat} (h : ∀ j, f (j + 1) = g j) {t m : Nat} (hp : f (t + m) = f t) (hm : 1 ≤ m) : Tq f t m = f 0 + Tq g (t - 1) m / 2 := by
  unfold Tq
  have n1 := Pw_ne m
  have n2 := Pw_ne1 hm
  cases t with
  | succ s =>
    rw [Ws_front, Ws_sh h, Ws_sh h, Nat.add_sub_cancel, Pw_succ]
    have n3 := Pw_ne s
    grind
  | zero =>
    have h1 := Ws_front f 0 m
    rw [Ws_sh h] at h1
    have h2 : Ws f 0 (m + 1) = Ws f 0 m + f 0 / Pw m := by
      show Ws f 0 m + f (0 + m) / Pw m = _
      rw [hp]
    rw [h2] at h1
    rw [Pw_zero]
    show (0 : Rat) + Ws f 0 m * Pw m / (1 * (Pw m - 1)) = f 0 + (0 + Ws g 0 m * Pw m / (Pw 0 * (Pw m - 1))) / 2
    rw [Pw_zero]
    generalize Ws f 0 m = w at *
    generalize Ws g 0 m = w' at *
    generalize Pw m = M at *
    generalize f 0 = f0 at *
    have h3 : w = f0 + w' / 2 - f0 / M := by grind
    subst h3
    grind
theorem Ws_one {f g : Nat → Rat} (i k : Nat) (h : ∀ a, a < k → f (i + a) + g (i + a) = 1) : Ws f i k + Ws g i k = 2 - 2 / Pw k := by
  induction k with
  | zero =>
    rw [Pw_zero]
    show (0 : Rat) + 0 = 2 - 2 / 1
    grind
  | succ k ih =>
    have ih := ih (fun a ha => h a (by omega))
    have h1 := h k (by omega)
    show Ws f i k + f (i + k) / Pw k + (Ws g i k + g (i + k) / Pw k) = 2 - 2 / Pw (k + 1)
    rw [Pw_succ]
    have n := Pw_ne k
    generalize Ws f i k = a at *
    generalize Ws g i k = b at *
    generalize f (i + k) = c at *
    generalize g (i + k) = d at *
    generalize Pw k = P at *
    have e1 : a = 2 - 2 / P - b := by grind
    have e2 : c = 1 - d := by grind
    subst e1 e2
    grind
theorem Ws_nul {f : Nat → Rat} (i k : Nat) (h : ∀ a, a < k → f (i + a) = 0) : Ws f i k = 0 := by
  induction k with
  | zero => rfl
  | succ k ih =>
    show Ws f i k + f (i + k) / Pw k = 0
    rw [ih (fun a ha => h a (by omega)), h k (by omega), Rat.div_def, Rat.zero_mul, Rat.zero_add]
theorem Tq_one {f g : Nat → Rat} {t m : Nat} (hm : 1 ≤ m) (h : ∀ j, f j + g j = 1) : Tq f t m + Tq g t m = 2 := by
  have h1 := Ws_one (f := f) (g := g) 0 t (fun a _ => h _)
  have h2 := Ws_one (f := f) (g := g) t m (fun a _ => h _)
  unfold Tq
  have n1 := Pw_ne m
  have n2 := Pw_ne1 hm
  have n3 := Pw_ne t
  generalize Ws f 0 t = a at *
  generalize Ws g 0 t = b at *
  generalize Ws f t m = c at *
  generalize Ws g t m = d at *
  generalize Pw m = M at *
  generalize Pw t = P at *
  have e1 : a = 2 - 2 / P - b := by grind
  have e2 : c = 2 - 2 / M - d := by grind
  subst e1 e2
  grind
theorem Tq_end {f g : Nat → Rat} {t m : Nat} (h : ∀ j, j < t → f j + g j = 1) (hf : ∀ j, t ≤ j → f j = 0) (hg : ∀ j, t ≤ j → g j = 0) : Tq f t m + Tq g t m = 2 - 2 / Pw t := by
  have h1 := Ws_one (f := f) (g := g) 0 t (fun a ha => h _ (by omega))
  unfold Tq
  rw [Ws_nul t m (fun a _ => hf _ (by omega)), Ws_nul t m (fun a _ => hg _ (by omega))]
  rw [← h1, Rat.div_def, Rat.zero_mul, Rat.zero_mul]
  grind
/-! ### turned to rests -/
def rho (p q j : Nat) : Rat := (rest p q j : Rat) / (q : Rat)
theorem Zq_Ws (p : Nat) {q : Nat} (hq : 0 < q) (i k : Nat) : Zq p q i k = Ws (rho p q) i k := by
  induction k with
  | zero => exact Zq_zero p q i
  | succ k ih =>
    rw [Zq_succ p hq, ih]
    show _ = Ws (rho p q) i k + rho p q (i + k) / Pw k
    congr 1
    unfold rho Pw
    rw [Rat.natCast_mul]
    have n1 := natR_ne hq
    have n2 : ((2 ^ k : Nat) : Rat) ≠ 0 := Pw_ne k
    grind
theorem TT_Tq (p : Nat) {q t m : Nat} (hq : 0 < q) (hm : 1 ≤ m) : TT p q t m = Tq (rho p q) t m := by
  unfold TT Tq
  rw [Zq_Ws p hq]
  congr 1
  rw [← Zq_Ws p hq]
  unfold Zq
  rw [Rat.natCast_mul, Rat.natCast_mul, Rat.natCast_mul, Pw_sub]
  have n1 := natR_ne hq
  have n2 := Pw_ne m
  have n3 := Pw_ne t
  have n4 := Pw_ne1 hm
  show _ = (Zs p q t m : Rat) / ((q : Rat) * Pw m) * Pw m / (Pw t * (Pw m - 1))
  show (Zs p q t m : Rat) / ((q : Rat) * Pw t * (Pw m - 1)) = _
  generalize Pw m = M at *
  generalize Pw t = P at *
  generalize (q : Rat) = Q at *
  grind
section
variable {p q t b m : Nat}
theorem rho_sh {P Q : Nat} (hq : 0 < q) (h : Sh P Q p q) (j : Nat) : rho P Q (j + 1) = rho p q j := by
  obtain ⟨g, hg, rfl, hr⟩ := h
  unfold rho
  rw [hr, Rat.natCast_mul, Rat.natCast_mul]
  have n1 := natR_ne hq
  have n2 := natR_ne hg
  grind
theorem TT_sh {p' q' : Nat} (h : Low p q t b m) (h' : Low p' q' (t - 1) b m) (hs : Sh p q p' q') : TT p q t m = (p : Rat) / (q : Rat) + TT p' q' (t - 1) m / 2 := by
  rw [TT_Tq p h.qpos h.ord.pos, TT_Tq p' h'.qpos h.ord.pos]
  rw [Tq_sh (rho_sh h'.qpos hs) (by unfold rho; rw [h.period (Nat.le_refl t)]) h.ord.pos]
  congr 1
  unfold rho
  rw [rest_zero h.lt]
theorem rho_comp (hp : p < q) {j : Nat} (h : rest p q j ≠ 0) : rho p q j + rho (q - p) q j = 1 := by
  have h1 := rest_comp hp h
  have n1 := natR_ne (show 0 < q by omega)
  unfold rho
  have h2 : (rest (q - p) q j : Rat) + (rest p q j : Rat) = (q : Rat) := by rw [← Rat.natCast_add, h1]
  rw [← h2]
  grind
theorem rho_nul {p q j : Nat} (h : rest p q j = 0) : rho p q j = 0 := by
  unfold rho
  rw [h, Rat.div_def]
  show (0 : Rat) * _ = 0
  rw [Rat.zero_mul]
theorem TT_comp (h : Low p q t b m) (hb : 1 < b) : TT p q t m + TT (q - p) q t m = 2 := by
  rw [TT_Tq p h.qpos h.ord.pos, TT_Tq (q - p) h.qpos h.ord.pos]
  exact Tq_one h.ord.pos fun j => rho_comp h.lt (h.ne hb j)
theorem TT_comp1 (h : Low p q t 1 m) : TT p q t m + TT (q - p) q t m = 2 - 2 / Pw t := by
  rw [TT_Tq p h.qpos h.ord.pos, TT_Tq (q - p) h.qpos h.ord.pos]
  exact Tq_end (fun j hj => rho_comp h.lt (h.ne1 hj)) (fun j hj => rho_nul (h.z1 hj)) (fun j hj => rho_nul (rest_comp0 h.lt (h.z1 hj)))
theorem TT_nul (h : Low 0 q t b m) : TT 0 q t m = 0 := by
  rw [TT_Tq 0 h.qpos h.ord.pos]
  unfold Tq
  have hz : ∀ j, rho 0 q j = 0 := fun j => rho_nul (by unfold rest; rw [Nat.mul_zero, Nat.zero_mod])
  rw [Ws_nul 0 t (fun a _ => hz _), Ws_nul t m (fun a _ => hz _), Rat.div_def, Rat.zero_mul, Rat.zero_mul, Rat.zero_add]
/-- sizes of the sum -/
theorem TT_frac (p : Nat) {q : Nat} (hq : 0 < q) (hm : 1 ≤ m) : TT p q t m = ((Zs p q 0 t * (2 ^ m - 1) + Zs p q t m : Nat) : Rat) / ((q * 2 ^ t * (2 ^ m - 1) : Nat) : Rat) := by
  unfold TT Zq
  rw [Rat.natCast_mul, Rat.natCast_mul, Rat.natCast_add, Rat.natCast_mul, Rat.natCast_mul, Pw_sub]
  have n1 := natR_ne hq
  have n3 := Pw_ne t
  have n4 := Pw_ne1 hm
  show (Zs p q 0 t : Rat) / ((q : Rat) * Pw t) + (Zs p q t m : Rat) / ((q : Rat) * Pw t * (Pw m - 1)) = ((Zs p q 0 t : Rat) * (Pw m - 1) + (Zs p q t m : Rat)) / ((q : Rat) * Pw t * (Pw m - 1))
  generalize Pw m = M at *
  generalize Pw t = P at *
  generalize (q : Rat) = Q at *
  grind
theorem TT_sz (p : Nat) {q : Nat} (hq : 0 < q) (h : q < 2 ^ 11) (hm : 1 ≤ m) : Sz (t + m + 13) (TT p q t m).num ∧ Sz (t + m + 13) ((TT p q t m).den : Int) := by
  have h2 : 2 ≤ 2 ^ m := by
    calc 2 = 2 ^ 1 := rfl
      _ ≤ 2 ^ m := Nat.pow_le_pow_right (by decide) hm
  have ht : 0 < 2 ^ t := Nat.pow_pos (by decide)
  rw [TT_frac p hq hm]
  have d0 : 0 < q * 2 ^ t * (2 ^ m - 1) := Nat.mul_pos (Nat.mul_pos hq ht) (by omega)
  have z1 := Zs_lt p hq h 0 t
  have z2 := Zs_lt p hq h t m
  have e1 : 2 ^ (t + m + 13) = 2 ^ (t + 12) * 2 ^ m + 2 ^ (t + 12) * 2 ^ m := by
    rw [show t + m + 13 = t + 12 + m + 1 by omega, Nat.pow_succ, Nat.pow_add 2 (t + 12) m]; omega
  have k1 : Zs p q 0 t * (2 ^ m - 1) < 2 ^ (t + 12) * 2 ^ m := by
    calc Zs p q 0 t * (2 ^ m - 1) ≤ 2 ^ (t + 12) * (2 ^ m - 1) := Nat.mul_le_mul_right _ (by omega)
      _ < 2 ^ (t + 12) * 2 ^ m := Nat.mul_lt_mul_of_pos_left (by omega) (Nat.pow_pos (by decide))
  have k2 : Zs p q t m < 2 ^ (t + 12) * 2 ^ m := by
    calc Zs p q t m < 2 ^ (m + 12) := z2
      _ ≤ 2 ^ (t + 12 + m) := Nat.pow_le_pow_right (by decide) (by omega)
      _ = _ := Nat.pow_add _ _ _
  have k3 : q * 2 ^ t * (2 ^ m - 1) < 2 ^ (t + 12) * 2 ^ m := by
    calc q * 2 ^ t * (2 ^ m - 1) ≤ 2 ^ 12 * 2 ^ t * (2 ^ m - 1) := Nat.mul_le_mul_right _ (Nat.mul_le_mul_right _ (by omega))
      _ = 2 ^ (t + 12) * (2 ^ m - 1) := by rw [Nat.pow_add, Nat.mul_comm (2 ^ t)]
      _ < 2 ^ (t + 12) * 2 ^ m := Nat.mul_lt_mul_of_pos_left (by omega) (Nat.pow_pos (by decide))
  exact ⟨Sz.frac_num d0 (by rw [e1]; omega), Sz.frac_den d0 (by rw [e1]; omega)⟩
end
end
end LawK37

namespace LawK37
open PySem FD NT
noncomputable section
/-! ### == -/
theorem shI (i : Int) : OkSh (.int i) := ⟨by simp [SeqAt.shaped, PyData.canLay0, PyData.depth]⟩
theorem eqD_int (a c : Int) : eqD (.int a) (.int c) = some (.bool (a == c), .cl) := by unfold eqD; rw [grd_of ⟨shI a, shI c⟩, eqv_int]
theorem neD_int (a c : Int) : neD (.int a) (.int c) = some (.bool (!(a == c)), .cl) := by unfold neD; rw [grd_of ⟨shI a, shI c⟩, eqv_int]
theorem neD_frq (a c : Rat) : neD (frq a) (frq c) = some (.bool (!decide (a = c)), .cl) := by unfold neD; rw [grd_of ⟨⟨shaped_frq a⟩, ⟨shaped_frq c⟩⟩, eqv_frq]
theorem neD_same {x : D} (h : OkSh x) (e : PyData.eqv x x = true) : neD x x = some (.bool false, .cl) := by unfold neD; rw [grd_of ⟨h, h⟩, e]; rfl
def allI (l : List D) : Prop := ∀ x ∈ l, ∃ i : Int, x = .int i
theorem allI.lay {l : List D} (h : allI l) : PyData.canLayAll0 l = true ∧ PyData.depthAll l = 0 ∧ PyData.eqvAll l l = true := by
  induction l with
  | nil => exact ⟨rfl, rfl, rfl⟩
  | cons x r ih =>
    obtain ⟨h1, h2, h3⟩ := ih (fun y hy => h y (by simp [hy]))
    obtain ⟨i, rfl⟩ := h x (by simp)
    refine ⟨?_, ?_, ?_⟩
    · simp [PyData.canLayAll0, PyData.canLay0, h1]
    · simp [PyData.depthAll, PyData.depth, h2]
    · simp [PyData.eqvAll, PyData.eqv, h3]
theorem allI_dl (p q i k : Nat) : allI (dl p q i k) := fun x hx => by
  obtain ⟨a, _, rfl⟩ := List.mem_map.mp hx
  exact ⟨_, rfl⟩
theorem allI.app {l r : List D} (h : allI l) (h' : allI r) : allI (l ++ r) := fun x hx => by
  rcases List.mem_append.mp hx with z | z
  · exact h x z
  · exact h' x z
theorem sh_t {l : List D} (h : allI l) : OkSh (.tuple l) := ⟨by
  obtain ⟨h1, h2, h3⟩ := h.lay
  simp [SeqAt.shaped, PyData.canLay0, PyData.depth, h1, h2]⟩
theorem sh_tt {l r : List D} (h : allI l) (h' : allI r) : OkSh (.tuple [.tuple l, .tuple r]) := ⟨by
  obtain ⟨h1, h2, h3⟩ := h.lay
  obtain ⟨k1, k2, k3⟩ := h'.lay
  simp [SeqAt.shaped, PyData.canLay0, PyData.canLayAll0, PyData.depth, PyData.depthAll, h1, h2, k1, k2]⟩
theorem sh_ll {l r : List D} (h : allI l) (h' : allI r) : OkSh (.list [.tuple l, .tuple r]) := ⟨by
  obtain ⟨h1, h2, h3⟩ := h.lay
  obtain ⟨k1, k2, k3⟩ := h'.lay
  simp [SeqAt.shaped, PyData.canLay0, PyData.canLayAll0, PyData.depth, PyData.depthAll, h1, h2, k1, k2]⟩
theorem neD_t {l : List D} (h : allI l) : neD (.tuple l) (.tuple l) = some (.bool false, .cl) := neD_same (sh_t h) (by simp [PyData.eqv, h.lay])
theorem neD_tt {l r : List D} (h : allI l) (h' : allI r) : neD (.tuple [.tuple l, .tuple r]) (.tuple [.tuple l, .tuple r]) = some (.bool false, .cl) := neD_same (sh_tt h h') (by simp [PyData.eqv, PyData.eqvAll, h.lay, h'.lay])
theorem neD_ll {l r : List D} (h : allI l) (h' : allI r) : neD (.list [.tuple l, .tuple r]) (.list [.tuple l, .tuple r]) = some (.bool false, .cl) := neD_same (sh_ll h h') (by simp [PyData.eqv, PyData.eqvAll, h.lay, h'.lay])
theorem eqD_nil {l : List D} (h : allI l) : eqD (.tuple l) (.tuple []) = some (.bool l.isEmpty, .cl) := by
  unfold eqD
  rw [grd_of ⟨sh_t h, sh_t (l := []) (fun x hx => by cases hx)⟩]
  cases l <;> rfl
theorem neD_nil {l : List D} (h : allI l) : neD (.tuple l) (.tuple []) = some (.bool (!l.isEmpty), .cl) := by
  unfold neD
  rw [grd_of ⟨sh_t h, sh_t (l := []) (fun x hx => by cases hx)⟩]
  cases l <;> rfl

/-! ### fractions on fractions -/
theorem self_div (x : Rat) : ((x.num : Rat)) / (((x.den : Int)) : Rat) = x := by rw [← Rat.divInt_eq_div, Rat.num_divInt_den]
theorem sum2_rat {ka kb kc kd : Nat} (x y : Rat) (S : Pick) (sa : Sz ka x.num) (sb : Sz kb (x.den : Int)) (sc : Sz kc y.num) (sd : Sz kd (y.den : Int)) (h0 : 0 < ka) (h1 : 0 < kb) (h2 : 0 < kc) (h3 : 0 < kd) (hk : kb + kd ≤ 8999) (ha : ka ≤ 9000) (hc : kc ≤ 9000) :
    fn_sum_of_two [frq x, frq y] S = some (frq (x + y), S) := by
  have h := sum2_eval x.num (x.den : Int) y.num (y.den : Int) S (by have := x.den_pos; omega) (by have := y.den_pos; omega) sa sb sc sd h0 h1 h2 h3 hk ha hc
  rw [self_div, self_div] at h
  exact h
theorem one_sz : Sz 1 (1 : Int) := Sz.nat (n := 1) (k := 1) (by decide)
theorem zero_sz : Sz 1 (0 : Int) := Sz.nat (n := 0) (k := 1) (by decide)
theorem half_eval {ka kb : Nat} (x : Rat) (S : Pick) (sa : Sz ka x.num) (sb : Sz kb (x.den : Int)) (h0 : 0 < ka) (h1 : 0 < kb) (ha : ka ≤ 9000) (hb : kb ≤ 8000) :
    fn_law_mul [.tuple [.int 1, .int 2], frq x] S = some (frq (x / 2), S) := by
  have s2 : Sz 2 (2 : Int) := Sz.nat (n := 2) (k := 2) (by decide)
  have g1 := okMul_of one_sz sa (by decide) h0 (by omega)
  have g2 := okMul_of s2 sb (by decide) h1 (by omega)
  have hx : 0 < (x.den : Int) := by have := x.den_pos; omega
  have hc := cut_eq (k := 2 + kb) (1 * x.num) (2 * (x.den : Int)) S (by omega) (s2.mul sb) (by omega)
  have e : (((1 * x.num : Int)) : Rat) / (((2 * (x.den : Int) : Int)) : Rat) = x / 2 := by
    rw [Rat.intCast_mul, Rat.intCast_mul]
    have h := self_div x
    have n1 : (((x.den : Int)) : Rat) ≠ 0 := by rw [Ne, Rat.intCast_eq_zero_iff]; omega
    have e1 : ((1 : Int) : Rat) = 1 := rfl
    have e2 : ((2 : Int) : Rat) = 2 := rfl
    rw [e1, e2]
    generalize ((x.den : Int) : Rat) = d at *
    generalize (x.num : Rat) = n at *
    subst h
    grind
  rw [e] at hc
  have i0 : ∀ x y : D, L2.atI [x, y] 0 = some x := fun _ _ => rfl
  have i1 : ∀ x y : D, L2.atI [x, y] 1 = some y := fun _ _ => rfl
  generalize hz : frq (x / 2) = z at *
  unfold frq
  simp [fn_law_mul, B_law_mul, runB, exSeq, exSet, exAsg, exPar, exRet, exRetN, exDrop, exIf, exBreak, exCont, exFreeze, exFor, exWhile, exApp, exNil, evC, evV, ev1, ev2, evNil, evCons, evTup, evLst, evB, evTB, evTru, evAndT, evOrT, evNotT, evAndV, evOrV, evIf, evSl, evPart, evNoPart, evSeq, evRng1, evRng2, gvName, gvTup, gvNil, gvCons, addD, addI, subD, mulD, mulI, divW, modD, shlD, powD, negD, cmpI, gcdD, lenD, absD, intD, tupleD, listD, sumD, min2D, max2D, ixD, slD, notD, truD, noAl, evCall, i0, i1, grd_of g1, grd_of g2, -Int.one_mul, hc]
theorem lsum_eval {ka kb kc kd : Nat} (x y : Rat) (S : Pick) (sa : Sz ka x.num) (sb : Sz kb (x.den : Int)) (sc : Sz kc y.num) (sd : Sz kd (y.den : Int)) (h0 : 0 < ka) (h1 : 0 < kb) (h2 : 0 < kc) (h3 : 0 < kd) (hk : kb + kd ≤ 8000) (ha : ka ≤ 8000) (hc : kc ≤ 8000) :
    fn_law_sum [.list [frq x, frq y]] S = some (frq (x + y), S) := by
  have hx : 0 < (x.den : Int) := by have := x.den_pos; omega
  have hy : 0 < (y.den : Int) := by have := y.den_pos; omega
  have g1 : OkMul 0 (x.den : Int) := okMul_of zero_sz sb (by decide) h1 (by omega)
  have g2 : OkMul x.num 1 := okMul_of sa one_sz h0 (by decide) (by omega)
  have g3 : OkMul 1 (x.den : Int) := okMul_of one_sz sb (by decide) h1 (by omega)
  have g4 := okMul_of sa sd h0 h3 (by omega)
  have g5 := okMul_of sc sb h2 h1 (by omega)
  have g6 := okMul_of sb sd h1 h3 (by omega)
  have c1 := cut_eq (k := kb) x.num (x.den : Int) S hx sb (by omega)
  have c2 := cut_eq (k := kb + kd) (x.num * (y.den : Int) + y.num * (x.den : Int)) ((x.den : Int) * (y.den : Int)) S (Int.mul_pos hx hy) (sb.mul sd) (by omega)
  have e : (((x.num * (y.den : Int) + y.num * (x.den : Int) : Int)) : Rat) / ((((x.den : Int) * (y.den : Int) : Int)) : Rat) = x + y := by
    rw [Rat.intCast_add, Rat.intCast_mul, Rat.intCast_mul, Rat.intCast_mul]
    have e1 := self_div x
    have e2 := self_div y
    have n1 : (((x.den : Int)) : Rat) ≠ 0 := by rw [Ne, Rat.intCast_eq_zero_iff]; omega
    have n2 : (((y.den : Int)) : Rat) ≠ 0 := by rw [Ne, Rat.intCast_eq_zero_iff]; omega
    generalize ((x.den : Int) : Rat) = d at *
    generalize (x.num : Rat) = n at *
    generalize ((y.den : Int) : Rat) = d' at *
    generalize (y.num : Rat) = n' at *
    subst e1 e2
    grind
  rw [e] at c2
  rw [self_div] at c1
  have z1 : (0 : Int) * (x.den : Int) + x.num * 1 = x.num := by omega
  have z2 : (1 : Int) * (x.den : Int) = x.den := by omega
  generalize hz : frq (x + y) = z at *
  unfold frq at c1 ⊢
  generalize (x.den : Int) = d at *
  generalize x.num = n at *
  generalize (y.den : Int) = d' at *
  generalize y.num = n' at *
  obtain ⟨z0, z1', hz'⟩ : ∃ a b, z = .tuple [.int a, .int b] := ⟨_, _, hz.symm⟩
  subst hz'
  clear hz
  simp [fn_law_sum, B_law_sum, runB, exSeq, exSet, exAsg, exPar, exRet, exRetN, exDrop, exIf, exBreak, exCont, exFreeze, exFor, exWhile, exApp, exNil, evC, evV, ev1, ev2, evNil, evCons, evTup, evLst, evB, evTB, evTru, evAndT, evOrT, evNotT, evAndV, evOrV, evIf, evSl, evPart, evNoPart, evSeq, evRng1, evRng2, gvName, gvTup, gvNil, gvCons, addD, addI, subD, mulD, mulI, divW, modD, shlD, powD, negD, cmpI, gcdD, lenD, absD, intD, tupleD, listD, sumD, min2D, max2D, ixD, slD, notD, truD, noAl, forL, evCall, grd_of g1, grd_of g2, grd_of g3, grd_of g4, grd_of g5, grd_of g6, grd_of, show OkLen 2 from ⟨by decide⟩, c1, c2, -Int.zero_mul, -Int.mul_one, -Int.one_mul, z1, z2]
/-! ### the order, as the law finds it -/
def agT : EvT := evAndT (evTB (ev2 (cmpI fun i j => decide (j < i)) (evV 0) (evC (.int 1)))) (evTB (ev2 neD (evV 2) (evC (.int 1))))
def agF : ExF := exPar 1 2 (ev2 addD (evV 1) (evC (.int 1))) (ev2 modD (evB intD (evCons (ev2 mulD (evC (.int 2)) (evV 2)) (evNil))) (evV 0))
theorem ag_go {b m : Nat} (h : IsOrd b m) (hb : 1 < b) (hb2 : b < 2 ^ 40) (S : Pick) : ∀ (d k n : Nat), 1 ≤ k → k + d = m → d < n →
    whileN agT agF n [.val (.int b), .val (.int k), .val (.int (2 ^ k % b : Nat))] S = some (.nx [.val (.int b), .val (.int m), .val (.int (2 ^ m % b : Nat))], S)
  | 0, k, n, h1, hk, hn => by
    obtain ⟨n, rfl⟩ : ∃ j, n = j + 1 := ⟨n - 1, by omega⟩
    have : k = m := by omega
    subst this
    have h2 := h.one
    rw [Nat.mod_eq_of_lt hb] at h2
    have hT : agT [.val (.int b), .val (.int k), .val (.int (2 ^ k % b : Nat))] S = some (false, S) := by
      rw [h2]
      simp only [agT, runB, exSeq, exSet, exAsg, exPar, exRet, exRetN, exDrop, exIf, exBreak, exCont, exFreeze, exFor, exWhile, exApp, exNil, evC, evV, ev1, ev2, evNil, evCons, evTup, evLst, evB, evTB, evTru, evAndT, evOrT, evNotT, evAndV, evOrV, evIf, evSl, evPart, evNoPart, evSeq, evRng1, evRng2, gvName, gvTup, gvNil, gvCons, addD, addI, subD, mulD, mulI, divW, modD, shlD, powD, negD, cmpI, gcdD, lenD, absD, intD, tupleD, listD, sumD, min2D, max2D, ixD, slD, notD, truD, noAl, List.getElem?_cons_succ, List.getElem?_cons_zero, neD_int]
      rw [decide_eq_true (by omega)]
      rfl
    unfold whileN
    rw [hT]
  | d + 1, k, n, h1, hk, hn => by
    obtain ⟨n, rfl⟩ : ∃ j, n = j + 1 := ⟨n - 1, by omega⟩
    have h2 := h.least k h1 (by omega)
    rw [Nat.mod_eq_of_lt hb] at h2
    have hT : agT [.val (.int b), .val (.int k), .val (.int (2 ^ k % b : Nat))] S = some (true, S) := by
      simp only [agT, runB, exSeq, exSet, exAsg, exPar, exRet, exRetN, exDrop, exIf, exBreak, exCont, exFreeze, exFor, exWhile, exApp, exNil, evC, evV, ev1, ev2, evNil, evCons, evTup, evLst, evB, evTB, evTru, evAndT, evOrT, evNotT, evAndV, evOrV, evIf, evSl, evPart, evNoPart, evSeq, evRng1, evRng2, gvName, gvTup, gvNil, gvCons, addD, addI, subD, mulD, mulI, divW, modD, shlD, powD, negD, cmpI, gcdD, lenD, absD, intD, tupleD, listD, sumD, min2D, max2D, ixD, slD, notD, truD, noAl, List.getElem?_cons_succ, List.getElem?_cons_zero, neD_int]
      rw [decide_eq_true (by omega), show (((2 ^ k % b : Nat) : Int) == 1) = false by rw [beq_eq_false_iff_ne]; omega]
      rfl
    have hlt : 2 ^ k % b < b := Nat.mod_lt _ (by omega)
    have hg : OkMul 2 ((2 ^ k % b : Nat) : Int) := okMul_of (Sz.nat (n := 2) (k := 2) (by decide)) (Sz.nat (k := 40) (by omega)) (by decide) (by decide) (by decide)
    have e1 : 2 * ((2 ^ k % b : Nat) : Int) % (b : Int) = ((2 ^ (k + 1) % b : Nat) : Int) := by
      have e0 : 2 ^ (k + 1) % b = 2 * (2 ^ k % b) % b := by rw [Nat.pow_succ, Nat.mul_comm, Nat.mul_mod, Nat.mul_mod 2 (2 ^ k % b), Nat.mod_mod]
      rw [e0]
      generalize 2 ^ k % b = u
      rw [Int.natCast_emod, Int.natCast_mul]
      rfl
    have hF : agF [.val (.int b), .val (.int k), .val (.int (2 ^ k % b : Nat))] S = some (.nx [.val (.int b), .val (.int (k + 1 : Nat)), .val (.int (2 ^ (k + 1) % b : Nat))], S) := by
      generalize ((2 ^ (k + 1) % b : Nat) : Int) = v at *
      generalize ((2 ^ k % b : Nat) : Int) = u at *
      simp [agF, runB, exSeq, exSet, exAsg, exPar, exRet, exRetN, exDrop, exIf, exBreak, exCont, exFreeze, exFor, exWhile, exApp, exNil, evC, evV, ev1, ev2, evNil, evCons, evTup, evLst, evB, evTB, evTru, evAndT, evOrT, evNotT, evAndV, evOrV, evIf, evSl, evPart, evNoPart, evSeq, evRng1, evRng2, gvName, gvTup, gvNil, gvCons, addD, addI, subD, mulD, mulI, divW, modD, shlD, powD, negD, cmpI, gcdD, lenD, absD, intD, tupleD, listD, sumD, min2D, max2D, ixD, slD, notD, truD, noAl, grd_of hg, e1, show 0 < b by omega]
    unfold whileN
    rw [hT]
    simp only [hF]
    exact ag_go h hb hb2 S d (k + 1) n (by omega) (by omega) (by omega)
theorem again_eval {b m : Nat} (h : IsOrd b m) (hb0 : b % 2 = 1) (hb : b < 2 ^ 30) (S : Pick) : fn_law_again [.int b] S = some (.int m, S) := by
  have hm := h.le hb0
  by_cases h1 : 1 < b
  · have hw := ag_go h h1 (by omega) S (m - 1) 1 FUEL (by omega) (by have := h.pos; omega) (by unfold FUEL; omega)
    have e0 : 2 ^ 1 % b = 2 % b := by rw [Nat.pow_one]
    rw [e0] at hw
    have e1 : (2 : Int) % (b : Int) = ((2 % b : Nat) : Int) := rfl
    unfold agT agF at hw
    simp only [Int.natCast_one] at hw
    generalize ((2 % b : Nat) : Int) = u at *
    generalize ((2 ^ m % b : Nat) : Int) = u' at *
    simp [fn_law_again, B_law_again, runB, exSeq, exSet, exAsg, exPar, exRet, exRetN, exDrop, exIf, exBreak, exCont, exFreeze, exFor, exWhile, exApp, exNil, evC, evV, ev1, ev2, evNil, evCons, evTup, evLst, evB, evTB, evTru, evAndT, evOrT, evNotT, evAndV, evOrV, evIf, evSl, evPart, evNoPart, evSeq, evRng1, evRng2, gvName, gvTup, gvNil, gvCons, addD, addI, subD, mulD, mulI, divW, modD, shlD, powD, negD, cmpI, gcdD, lenD, absD, intD, tupleD, listD, sumD, min2D, max2D, ixD, slD, notD, truD, noAl, e1, show 0 < b by omega, hw]
  · have : b = 1 := by omega
    subst this
    have hm1 : m = 1 := by have := h.pos; omega
    subst hm1
    have e2 : FUEL = 999999999999 + 1 := rfl
    simp [fn_law_again, B_law_again, runB, exSeq, exSet, exAsg, exPar, exRet, exRetN, exDrop, exIf, exBreak, exCont, exFreeze, exFor, exWhile, exApp, exNil, evC, evV, ev1, ev2, evNil, evCons, evTup, evLst, evB, evTB, evTru, evAndT, evOrT, evNotT, evAndV, evOrV, evIf, evSl, evPart, evNoPart, evSeq, evRng1, evRng2, gvName, gvTup, gvNil, gvCons, addD, addI, subD, mulD, mulI, divW, modD, shlD, powD, negD, cmpI, gcdD, lenD, absD, intD, tupleD, listD, sumD, min2D, max2D, ixD, slD, notD, truD, noAl, e2, whileN]
/-! ### the twos of the lower number: slots 8 and 9 of the law -/
def twT : EvT := evTB (ev2 eqD (ev2 mulD (ev2 divW (evV 9) (evC (.int 2))) (evC (.int 2))) (evV 9))
def twF : ExF := exPar 8 9 (ev2 addD (evV 8) (evC (.int 1))) (ev2 divW (evV 9) (evC (.int 2)))
theorem tw_go (s0 s1 s2 s3 s4 s5 s6 s7 : FD.Slot) (tl : List FD.Slot) (S : Pick) : ∀ (d k b n : Nat), b % 2 = 1 → d < n → 2 ^ d * b < 2 ^ 40 →
    whileN twT twF n (s0 :: s1 :: s2 :: s3 :: s4 :: s5 :: s6 :: s7 :: .val (.int k) :: .val (.int (2 ^ d * b : Nat)) :: tl) S = some (.nx (s0 :: s1 :: s2 :: s3 :: s4 :: s5 :: s6 :: s7 :: .val (.int (k + d : Nat)) :: .val (.int b) :: tl), S)
  | 0, k, b, n, hb, hn, hz => by
    obtain ⟨n, rfl⟩ : ∃ j, n = j + 1 := ⟨n - 1, by omega⟩
    rw [Nat.pow_zero, Nat.one_mul] at *
    have g1 : OkDiv 2 := okDiv_of (Sz.nat (n := 2) (k := 2) (by decide)) (by decide) (by decide) (by decide)
    have g2 : OkMul ((b : Int) / 2) 2 := okMul_of (k := 40) (Sz.nat (n := b / 2) (by omega)) (Sz.nat (n := 2) (k := 2) (by decide)) (by decide) (by decide) (by decide)
    have hne : ((b : Int) / 2 * 2 == (b : Int)) = false := by rw [beq_eq_false_iff_ne]; omega
    have hT : twT (s0 :: s1 :: s2 :: s3 :: s4 :: s5 :: s6 :: s7 :: .val (.int k) :: .val (.int (b : Nat)) :: tl) S = some (false, S) := by
      simp only [twT, runB, exSeq, exSet, exAsg, exPar, exRet, exRetN, exDrop, exIf, exBreak, exCont, exFreeze, exFor, exWhile, exApp, exNil, evC, evV, ev1, ev2, evNil, evCons, evTup, evLst, evB, evTB, evTru, evAndT, evOrT, evNotT, evAndV, evOrV, evIf, evSl, evPart, evNoPart, evSeq, evRng1, evRng2, gvName, gvTup, gvNil, gvCons, addD, addI, subD, mulD, mulI, divW, modD, shlD, powD, negD, cmpI, gcdD, lenD, absD, intD, tupleD, listD, sumD, min2D, max2D, ixD, slD, notD, truD, noAl, List.getElem?_cons_succ, List.getElem?_cons_zero, eqD_int, grd_of g1, grd_of g2, hne]
    unfold whileN
    rw [hT]
    rfl
  | d + 1, k, b, n, hb, hn, hz => by
    obtain ⟨n, rfl⟩ : ∃ j, n = j + 1 := ⟨n - 1, by omega⟩
    have ez : 2 ^ (d + 1) * b = 2 * (2 ^ d * b) := by rw [Nat.pow_succ, Nat.mul_comm (2 ^ d) 2, Nat.mul_assoc]
    have ih := tw_go s0 s1 s2 s3 s4 s5 s6 s7 tl S d (k + 1) b n hb (by omega) (by omega)
    rw [ez] at hz ⊢
    generalize 2 ^ d * b = c at *
    have g1 : OkDiv 2 := okDiv_of (Sz.nat (n := 2) (k := 2) (by decide)) (by decide) (by decide) (by decide)
    have hq : ((2 * c : Nat) : Int) / 2 = (c : Int) := by omega
    have g2 : OkMul (c : Int) 2 := okMul_of (k := 40) (Sz.nat (n := c) (by omega)) (Sz.nat (n := 2) (k := 2) (by decide)) (by decide) (by decide) (by decide)
    have hne : ((c : Int) * 2 == ((2 * c : Nat) : Int)) = true := by rw [beq_iff_eq]; omega
    have hT : twT (s0 :: s1 :: s2 :: s3 :: s4 :: s5 :: s6 :: s7 :: .val (.int k) :: .val (.int (2 * c : Nat)) :: tl) S = some (true, S) := by
      simp only [twT, runB, exSeq, exSet, exAsg, exPar, exRet, exRetN, exDrop, exIf, exBreak, exCont, exFreeze, exFor, exWhile, exApp, exNil, evC, evV, ev1, ev2, evNil, evCons, evTup, evLst, evB, evTB, evTru, evAndT, evOrT, evNotT, evAndV, evOrV, evIf, evSl, evPart, evNoPart, evSeq, evRng1, evRng2, gvName, gvTup, gvNil, gvCons, addD, addI, subD, mulD, mulI, divW, modD, shlD, powD, negD, cmpI, gcdD, lenD, absD, intD, tupleD, listD, sumD, min2D, max2D, ixD, slD, notD, truD, noAl, List.getElem?_cons_succ, List.getElem?_cons_zero, eqD_int, grd_of g1, grd_of g2, hq, hne]
    have hF : twF (s0 :: s1 :: s2 :: s3 :: s4 :: s5 :: s6 :: s7 :: .val (.int k) :: .val (.int (2 * c : Nat)) :: tl) S = some (.nx (s0 :: s1 :: s2 :: s3 :: s4 :: s5 :: s6 :: s7 :: .val (.int (k + 1 : Nat)) :: .val (.int c) :: tl), S) := by
      simp only [twF, runB, exSeq, exSet, exAsg, exPar, exRet, exRetN, exDrop, exIf, exBreak, exCont, exFreeze, exFor, exWhile, exApp, exNil, evC, evV, ev1, ev2, evNil, evCons, evTup, evLst, evB, evTB, evTru, evAndT, evOrT, evNotT, evAndV, evOrV, evIf, evSl, evPart, evNoPart, evSeq, evRng1, evRng2, gvName, gvTup, gvNil, gvCons, addD, addI, subD, mulD, mulI, divW, modD, shlD, powD, negD, cmpI, gcdD, lenD, absD, intD, tupleD, listD, sumD, min2D, max2D, ixD, slD, notD, truD, noAl, List.getElem?_cons_succ, List.getElem?_cons_zero, grd_of g1, hq, List.set]
      rfl
    unfold whileN
    rw [hT]
    simp only [hF]
    rw [ih, show k + 1 + d = k + (d + 1) by omega]
/-! ### the mean of two -/
theorem least_eval {p q t b m p' q' t' b' m' : Nat} (h : Low p q t b m) (h' : Low p' q' t' b' m') (hq : q < 2 ^ 11) (hq' : q' < 2 ^ 11) (ht : t ≤ 100) (ht' : t' ≤ 100) (hm : m ≤ 2050) (hm' : m' ≤ 2050) (S : Pick) :
    fn_least_mean [.tuple [fr p q, fr p' q']] S = some (frq (TT p q t m + TT p' q' t' m'), S) := by
  have e1 := toss_eval h hq ht hm S
  have e2 := toss_eval h' hq' ht' hm' S
  have z1 := TT_sz p h.qpos hq h.ord.pos (t := t)
  have z2 := TT_sz p' h'.qpos hq' h'.ord.pos (t := t')
  have a0 := sum2_rat 0 (TT p q t m) S zero_sz (one_sz : Sz 1 ((((0 : Rat).den : Nat)) : Int)) z1.1 z1.2 (by omega) (by omega) (by omega) (by omega) (by omega) (by omega) (by omega)
  have a1 := sum2_rat (TT p q t m) (TT p' q' t' m') S z1.1 z1.2 z2.1 z2.2 (by omega) (by omega) (by omega) (by omega) (by omega) (by omega) (by omega)
  rw [Rat.zero_add] at a0
  have f0 : frq 0 = .tuple [.int 0, .int 1] := rfl
  rw [f0] at a0
  have n1 : neD (fr p q) (.tuple [.int 1, .int 1]) = some (.bool true, .cl) := by
    rw [← frq_nat h.qpos h.cop, show PyData.tuple [.int 1, .int 1] = frq 1 from rfl, neD_frq, decide_eq_false]; rfl
    intro z
    have := h.lt
    have hq0 := natR_ne h.qpos
    have : (p : Rat) = (q : Rat) := by grind
    have := Rat.natCast_inj.mp this
    omega
  have n2 : neD (fr p' q') (.tuple [.int 1, .int 1]) = some (.bool true, .cl) := by
    rw [← frq_nat h'.qpos h'.cop, show PyData.tuple [.int 1, .int 1] = frq 1 from rfl, neD_frq, decide_eq_false]; rfl
    intro z
    have := h'.lt
    have hq0 := natR_ne h'.qpos
    have : (p' : Rat) = (q' : Rat) := by grind
    have := Rat.natCast_inj.mp this
    omega
  generalize fr p q = X at *
  generalize fr p' q' = X' at *
  generalize frq (TT p q t m + TT p' q' t' m') = R at *
  generalize frq (TT p q t m) = R1 at *
  generalize frq (TT p' q' t' m') = R2 at *
  simp [fn_least_mean, B_least_mean, runB, exSeq, exSet, exAsg, exPar, exRet, exRetN, exDrop, exIf, exBreak, exCont, exFreeze, exFor, exWhile, exApp, exNil, evC, evV, ev1, ev2, evNil, evCons, evTup, evLst, evB, evTB, evTru, evAndT, evOrT, evNotT, evAndV, evOrV, evIf, evSl, evPart, evNoPart, evSeq, evRng1, evRng2, gvName, gvTup, gvNil, gvCons, addD, addI, subD, mulD, mulI, divW, modD, shlD, powD, negD, cmpI, gcdD, lenD, absD, intD, tupleD, listD, sumD, min2D, max2D, ixD, slD, notD, truD, noAl, forL, evCall, grd_of, show OkLen 2 from ⟨by decide⟩, n1, n2, e1, e2, a0, a1]
end
end LawK37

namespace LawK37
open PySem FD
noncomputable section
def st1 : ExF := exSet 3 (ev2 addD (evC (.int 2)) (evCall fn_law_pick (evCons (evV 1) (evCons (ev2 ixD (evLst (evCons (evC (.int 30)) (evCons (evC (.int 300)) (evCons (evC (.int 1999)) (evNil))))) (evV 2)) (evNil)))))
def st2 : ExF := exSet 4 (evCall fn_law_cut (evCons (evCall fn_law_pick (evCons (evV 1) (evCons (evV 3) (evNil)))) (evCons (evV 3) (evNil))))
def st3 : ExF := exAsg (evV 4) (gvTup 2 (gvCons (gvName 5) (gvCons (gvName 3) (gvNil))))
def st4 : ExF := exAsg (evCall fn_fraction_wheel (evCons (evV 4) (evNil))) (gvTup 2 (gvCons (gvName 6) (gvCons (gvName 7) (gvNil))))
def st5 : ExF := exPar 8 9 (evC (.int 0)) (evV 3)
def st6 : ExF := exWhile FUEL (evTB (ev2 eqD (ev2 mulD (ev2 divW (evV 9) (evC (.int 2))) (evC (.int 2))) (evV 9))) (exPar 8 9 (ev2 addD (evV 8) (evC (.int 1))) (ev2 divW (evV 9) (evC (.int 2))))
def st7 : ExF := exIf (evOrT (evTB (ev2 neD (evB lenD (evCons (evV 6) (evNil))) (evV 8))) (evTB (ev2 neD (evB lenD (evCons (evV 7) (evNil))) (evCall fn_law_again (evCons (evV 9) (evNil)))))) (exRet (evC (.bool false))) (exNil)
def st8_in : ExF := exSeq (exSet 11 (evB intD (evCons (ev2 (cmpI fun i j => decide (j ≤ i)) (ev2 mulD (evC (.int 2)) (ev2 ixD (evCall fn_law_rest (evCons (evV 4) (evCons (ev2 subD (evV 10) (evC (.int 1))) (evNil)))) (evC (.int 0)))) (ev2 ixD (evCall fn_law_rest (evCons (evV 4) (evCons (ev2 subD (evV 10) (evC (.int 1))) (evNil)))) (evC (.int 1)))) (evNil)))) (exIf (evOrT (evTB (ev2 neD (evCall fn_rest_of (evCons (evV 4) (evCons (evV 10) (evNil)))) (evCall fn_law_rest (evCons (evV 4) (evCons (evV 10) (evNil)))))) (evOrT (evTB (ev2 neD (evCall fn_digit_of (evCons (evV 4) (evCons (evV 10) (evNil)))) (evV 11))) (evTB (ev2 neD (ev2 ixD (ev2 addD (evV 6) (evV 7)) (ev2 subD (evV 10) (evC (.int 1)))) (evV 11))))) (exRet (evC (.bool false))) (exNil))
def st8 : ExF := exFor (evRng2 (evCons (evC (.int 1)) (evCons (ev2 addD (evB min2D (evCons (evC (.int 60)) (evCons (ev2 addD (evV 8) (evB lenD (evCons (evV 7) (evNil)))) (evNil)))) (evC (.int 1))) (evNil)))) (gvName 10) st8_in
def st9 : ExF := exIf (evTB (ev2 neD (evLst (evCons (evCall fn_fraction_by_wheel (evCons (evV 6) (evCons (evV 7) (evNil)))) (evCons (evCall fn_fraction_by_wheel (evCons (ev2 addD (evV 6) (evV 7)) (evCons (ev2 mulD (evV 7) (evC (.int 2))) (evNil)))) (evNil)))) (evLst (evCons (evV 4) (evCons (evV 4) (evNil)))))) (exRet (evC (.bool false))) (exNil)
def st10 : ExF := exSet 12 (evCall fn_fraction_wheel (evCons (evCall fn_law_rest (evCons (evV 4) (evCons (evC (.int 1)) (evNil)))) (evNil)))
def st11 : ExF := exIf (evTB (ev2 neD (evV 12) (evIf (evTB (ev2 neD (evV 6) (evTup (evNil)))) (evTup (evCons (evSl (evV 6) (evPart (evC (.int 1))) (evNoPart)) (evCons (evV 7) (evNil)))) (evTup (evCons (evTup (evNil)) (evCons (ev2 addD (evSl (evV 7) (evPart (evC (.int 1))) (evNoPart)) (evSl (evV 7) (evNoPart) (evPart (evC (.int 1))))) (evNil))))))) (exRet (evC (.bool false))) (exNil)
def st12 : ExF := exSet 12 (evCall fn_fraction_wheel (evCons (evCall fn_law_mul (evCons (evTup (evCons (evC (.int 1)) (evCons (evC (.int 2)) (evNil)))) (evCons (evV 4) (evNil)))) (evNil)))
def st13 : ExF := exIf (evAndT (evTB (ev2 eqD (evV 6) (evTup (evNil)))) (evTB (ev2 eqD (ev2 ixD (evV 7) (ev2 subD (evB lenD (evCons (evV 7) (evNil))) (evC (.int 1)))) (evC (.int 0))))) (exIf (evTB (ev2 neD (evV 12) (evTup (evCons (evTup (evNil)) (evCons (ev2 addD (evTup (evCons (evC (.int 0)) (evNil))) (evSl (evV 7) (evNoPart) (evPart (ev2 subD (evB lenD (evCons (evV 7) (evNil))) (evC (.int 1)))))) (evNil)))))) (exRet (evC (.bool false))) (exNil)) (exIf (evTB (ev2 neD (evV 12) (evTup (evCons (ev2 addD (evTup (evCons (evC (.int 0)) (evNil))) (evV 6)) (evCons (evV 7) (evNil)))))) (exRet (evC (.bool false))) (exNil))
def st14 : ExF := exIf (evTB (ev2 neD (evCall fn_toss_sum (evCons (evV 4) (evNil))) (evCall fn_law_sum (evCons (evLst (evCons (evV 4) (evCons (evCall fn_law_mul (evCons (evTup (evCons (evC (.int 1)) (evCons (evC (.int 2)) (evNil)))) (evCons (evCall fn_toss_sum (evCons (evCall fn_law_rest (evCons (evV 4) (evCons (evC (.int 1)) (evNil)))) (evNil))) (evNil)))) (evNil)))) (evNil))))) (exRet (evC (.bool false))) (exNil)
def st15 : ExF := exIf (evTB (ev2 eqD (evV 5) (evC (.int 0)))) (exSeq (exIf (evTB (ev2 neD (evCall fn_toss_sum (evCons (evV 4) (evNil))) (evTup (evCons (evC (.int 0)) (evCons (evC (.int 1)) (evNil)))))) (exRet (evC (.bool false))) (exNil)) (exCont)) (exNil)
def st16 : ExF := exSet 13 (evCall fn_law_cut (evCons (ev2 subD (evV 3) (evV 5)) (evCons (evV 3) (evNil))))
def st17 : ExF := exSet 14 (evCall fn_law_sum (evCons (evLst (evCons (evCall fn_toss_sum (evCons (evV 4) (evNil))) (evCons (evCall fn_toss_sum (evCons (evV 13) (evNil))) (evNil)))) (evNil)))
def st18 : ExF := exIf (evTB (ev2 neD (evV 14) (evCall fn_law_cut (evCons (ev2 subD (ev2 shlD (evC (.int 2)) (evV 8)) (evIf (evTB (ev2 eqD (evV 9) (evC (.int 1)))) (evC (.int 2)) (evC (.int 0)))) (evCons (ev2 shlD (evC (.int 1)) (evV 8)) (evNil)))))) (exRet (evC (.bool false))) (exNil)
def st19 : ExF := exIf (evOrT (evTB (ev2 neD (evCall fn_least_mean (evCons (evTup (evCons (evV 4) (evCons (evV 13) (evNil)))) (evNil))) (evV 14))) (evTB (ev2 neD (evCall fn_least_mean (evCons (evTup (evCons (evV 13) (evCons (evV 4) (evNil)))) (evNil))) (evV 14)))) (exRet (evC (.bool false))) (exNil)
def su1 : ExF := exSet 15 (evLc [16] (evSeq false (evTup (evCons (evV 6) (evCons (evV 7) (evNil))))) (gvName 16) (evYes) (evB tupleD (evCons (evLc [17] (evSeq false (evV 16)) (gvName 17) (evYes) (ev2 subD (evC (.int 1)) (evV 17))) (evNil))))
def su2 : ExF := exIf (evTB (ev2 neD (evCall fn_fraction_wheel (evCons (evV 13) (evNil))) (evTup (evCons (ev2 ixD (evV 15) (evC (.int 0))) (evCons (ev2 ixD (evV 15) (evC (.int 1))) (evNil)))))) (exRet (evC (.bool false))) (exNil)
def su3 : ExF := exSet 18 (ev2 divW (evB lenD (evCons (evV 7) (evNil))) (evC (.int 2)))
def su4 : ExF := exSet 19 (evC (.int 1))
def su5_in : ExF := exSet 19 (ev2 modD (evB intD (evCons (ev2 mulD (evC (.int 2)) (evV 19)) (evNil))) (evV 9))
def su5 : ExF := exFor (evRng1 (evCons (evV 18) (evNil))) (gvName 20) su5_in
def su6 : ExF := exIf (evAndT (evTB (ev2 eqD (ev2 mulD (evC (.int 2)) (evV 18)) (evB lenD (evCons (evV 7) (evNil))))) (evAndT (evTB (ev2 eqD (evV 19) (ev2 subD (evV 9) (evC (.int 1))))) (evTB (ev2 neD (evSl (evV 7) (evPart (evV 18)) (evNoPart)) (evB tupleD (evCons (evLc [17] (evSeq false (evSl (evV 7) (evNoPart) (evPart (evV 18)))) (gvName 17) (evYes) (ev2 subD (evC (.int 1)) (evV 17))) (evNil))))))) (exRet (evC (.bool false))) (exNil)
def st20 : ExF := exIf (evTB (ev2 (cmpI fun i j => decide (j < i)) (evV 9) (evC (.int 1)))) (exSeq su1 (exSeq su2 (exSeq su3 (exSeq su4 (exSeq su5 su6))))) (exNil)
def lapF : ExF := exSeq st1 (exSeq st2 (exSeq st3 (exSeq st4 (exSeq st5 (exSeq st6 (exSeq st7 (exSeq st8 (exSeq st9 (exSeq st10 (exSeq st11 (exSeq st12 (exSeq st13 (exSeq st14 (exSeq st15 (exSeq st16 (exSeq st17 (exSeq st18 (exSeq st19 st20))))))))))))))))))
theorem B_law_eq : B_law = exSeq (exFor (evRng1 (evCons (evC (.int 3)) (evNil))) (gvName 2) lapF) (exRet (evC (.bool true))) := rfl
end
end LawK37

namespace LawK37
open PySem FD NT
noncomputable section
theorem L3 {p q : Nat} (a2 a3 a4 a5 a6 a7 a8 a9 a10 a11 a12 a13 a14 a15 a16 a17 a18 a19 a20 : FD.Slot) (S : Pick) : st3 [.un, .val SRC, a2, a3, .val (fr p q), a5, a6, a7, a8, a9, a10, a11, a12, a13, a14, a15, a16, a17, a18, a19, a20] S = some (.nx [.un, .val SRC, a2, .val (.int q), .val (fr p q), .val (.int p), a6, a7, a8, a9, a10, a11, a12, a13, a14, a15, a16, a17, a18, a19, a20], S) := by
  simp [st3, runB, exSeq, exSet, exAsg, exPar, exRet, exRetN, exDrop, exIf, exBreak, exCont, exFreeze, exFor, exWhile, exApp, exNil, evC, evV, ev1, ev2, evNil, evCons, evTup, evLst, evB, evTB, evTru, evAndT, evOrT, evNotT, evAndV, evOrV, evIf, evSl, evPart, evNoPart, evSeq, evRng1, evRng2, gvName, gvTup, gvNil, gvCons, addD, addI, subD, mulD, mulI, divW, modD, shlD, powD, negD, cmpI, gcdD, lenD, absD, intD, tupleD, listD, sumD, min2D, max2D, ixD, slD, notD, truD, noAl, fr]
theorem L4 {p q t b m : Nat} (h : Low p q t b m) (hq : q < 2 ^ 11) (ht : t ≤ 10) (hm : m ≤ 2000) (a2 a3 a4 a5 a6 a7 a8 a9 a10 a11 a12 a13 a14 a15 a16 a17 a18 a19 a20 : FD.Slot) (S : Pick) : st4 [.un, .val SRC, a2, .val (.int q), .val (fr p q), .val (.int p), a6, a7, a8, a9, a10, a11, a12, a13, a14, a15, a16, a17, a18, a19, a20] S = some (.nx [.un, .val SRC, a2, .val (.int q), .val (fr p q), .val (.int p), .val (.tuple (dl p q 0 t)), .val (.tuple (dl p q t m)), a8, a9, a10, a11, a12, a13, a14, a15, a16, a17, a18, a19, a20], S) := by
  have hw := wheel_eval h (by omega) (by omega) S
  simp [st4, runB, exSeq, exSet, exAsg, exPar, exRet, exRetN, exDrop, exIf, exBreak, exCont, exFreeze, exFor, exWhile, exApp, exNil, evC, evV, ev1, ev2, evNil, evCons, evTup, evLst, evB, evTB, evTru, evAndT, evOrT, evNotT, evAndV, evOrV, evIf, evSl, evPart, evNoPart, evSeq, evRng1, evRng2, gvName, gvTup, gvNil, gvCons, addD, addI, subD, mulD, mulI, divW, modD, shlD, powD, negD, cmpI, gcdD, lenD, absD, intD, tupleD, listD, sumD, min2D, max2D, ixD, slD, notD, truD, noAl, evCall, hw]
theorem L5 {p q t b m : Nat} (h : Low p q t b m) (hq : q < 2 ^ 11) (ht : t ≤ 10) (hm : m ≤ 2000) (a2 a3 a4 a5 a6 a7 a8 a9 a10 a11 a12 a13 a14 a15 a16 a17 a18 a19 a20 : FD.Slot) (S : Pick) : st5 [.un, .val SRC, a2, .val (.int q), .val (fr p q), .val (.int p), .val (.tuple (dl p q 0 t)), .val (.tuple (dl p q t m)), a8, a9, a10, a11, a12, a13, a14, a15, a16, a17, a18, a19, a20] S = some (.nx [.un, .val SRC, a2, .val (.int q), .val (fr p q), .val (.int p), .val (.tuple (dl p q 0 t)), .val (.tuple (dl p q t m)), .val (.int 0), .val (.int q), a10, a11, a12, a13, a14, a15, a16, a17, a18, a19, a20], S) := by
  simp [st5, runB, exSeq, exSet, exAsg, exPar, exRet, exRetN, exDrop, exIf, exBreak, exCont, exFreeze, exFor, exWhile, exApp, exNil, evC, evV, ev1, ev2, evNil, evCons, evTup, evLst, evB, evTB, evTru, evAndT, evOrT, evNotT, evAndV, evOrV, evIf, evSl, evPart, evNoPart, evSeq, evRng1, evRng2, gvName, gvTup, gvNil, gvCons, addD, addI, subD, mulD, mulI, divW, modD, shlD, powD, negD, cmpI, gcdD, lenD, absD, intD, tupleD, listD, sumD, min2D, max2D, ixD, slD, notD, truD, noAl]
theorem L6 {p q t b m : Nat} (h : Low p q t b m) (hq : q < 2 ^ 11) (ht : t ≤ 10) (hm : m ≤ 2000) (a2 a3 a4 a5 a6 a7 a8 a9 a10 a11 a12 a13 a14 a15 a16 a17 a18 a19 a20 : FD.Slot) (S : Pick) : st6 [.un, .val SRC, a2, .val (.int q), .val (fr p q), .val (.int p), .val (.tuple (dl p q 0 t)), .val (.tuple (dl p q t m)), .val (.int 0), .val (.int q), a10, a11, a12, a13, a14, a15, a16, a17, a18, a19, a20] S = some (.nx [.un, .val SRC, a2, .val (.int q), .val (fr p q), .val (.int p), .val (.tuple (dl p q 0 t)), .val (.tuple (dl p q t m)), .val (.int t), .val (.int b), a10, a11, a12, a13, a14, a15, a16, a17, a18, a19, a20], S) := by
  have hw := tw_go .un (.val SRC) a2 (.val (.int q)) (.val (fr p q)) (.val (.int p)) (.val (.tuple (dl p q 0 t))) (.val (.tuple (dl p q t m))) [a10, a11, a12, a13, a14, a15, a16, a17, a18, a19, a20] S t 0 b FUEL h.odd (by unfold FUEL; omega) (by rw [← h.eq]; omega)
  rw [← h.eq, Nat.zero_add] at hw
  exact hw
theorem L7 {p q t b m : Nat} (h : Low p q t b m) (hq : q < 2 ^ 11) (ht : t ≤ 10) (hm : m ≤ 2000) (a2 a3 a4 a5 a6 a7 a8 a9 a10 a11 a12 a13 a14 a15 a16 a17 a18 a19 a20 : FD.Slot) (S : Pick) : st7 [.un, .val SRC, a2, .val (.int q), .val (fr p q), .val (.int p), .val (.tuple (dl p q 0 t)), .val (.tuple (dl p q t m)), .val (.int t), .val (.int b), a10, a11, a12, a13, a14, a15, a16, a17, a18, a19, a20] S = some (.nx [.un, .val SRC, a2, .val (.int q), .val (fr p q), .val (.int p), .val (.tuple (dl p q 0 t)), .val (.tuple (dl p q t m)), .val (.int t), .val (.int b), a10, a11, a12, a13, a14, a15, a16, a17, a18, a19, a20], S) := by
  have hb : b < 2 ^ 30 := by
    have h1 := h.eq
    have : b ≤ q := by rw [h1]; exact Nat.le_mul_of_pos_left _ (Nat.pow_pos (by decide))
    omega
  have hw := again_eval h.ord h.odd hb S
  simp [st7, runB, exSeq, exSet, exAsg, exPar, exRet, exRetN, exDrop, exIf, exBreak, exCont, exFreeze, exFor, exWhile, exApp, exNil, evC, evV, ev1, ev2, evNil, evCons, evTup, evLst, evB, evTB, evTru, evAndT, evOrT, evNotT, evAndV, evOrV, evIf, evSl, evPart, evNoPart, evSeq, evRng1, evRng2, gvName, gvTup, gvNil, gvCons, addD, addI, subD, mulD, mulI, divW, modD, shlD, powD, negD, cmpI, gcdD, lenD, absD, intD, tupleD, listD, sumD, min2D, max2D, ixD, slD, notD, truD, noAl, evCall, hw, neD_int, dl_length]
theorem L8in {p q t b m : Nat} (h : Low p q t b m) (hq : q < 2 ^ 11) (ht : t ≤ 10) (hm : m ≤ 2000) (s : Nat) (hs : s < t + m) (a2 a3 a4 a5 a6 a7 a8 a9 a10 a11 a12 a13 a14 a15 a16 a17 a18 a19 a20 : FD.Slot) (S : Pick) : ∃ c, st8_in [.un, .val SRC, a2, .val (.int q), .val (fr p q), .val (.int p), .val (.tuple (dl p q 0 t)), .val (.tuple (dl p q t m)), .val (.int t), .val (.int b), .val (.int (1 + (s : Int))), a11, a12, a13, a14, a15, a16, a17, a18, a19, a20] S = some (.nx [.un, .val SRC, a2, .val (.int q), .val (fr p q), .val (.int p), .val (.tuple (dl p q 0 t)), .val (.tuple (dl p q t m)), .val (.int t), .val (.int b), .val (.int (1 + (s : Int))), c, a12, a13, a14, a15, a16, a17, a18, a19, a20], S) := by
  have hlt := h.lt
  have r0 := lrest_eval p q s S hlt (by omega) (by omega)
  have r1 := lrest_eval p q (s + 1) S hlt (by omega) (by omega)
  have r2 := rest_eval p q (s + 1) S hlt (by omega) (by omega)
  have r3 := digit_eval p q s S hlt (by omega) (by omega)
  have hr := rest_lt p h.qpos s
  have g1 : OkMul 2 ((rest p q s : Rat) / (q : Rat)).num := okMul_of (Sz.nat (n := 2) (k := 2) (by decide)) (Sz.frac_num (k := 40) (by omega) (by omega)) (by decide) (by decide) (by decide)
  have tg := twice_ge (rest p q s) q h.qpos
  have i0 : ∀ x y : D, L2.atI [x, y] 0 = some x := fun _ _ => rfl
  have i1 : ∀ x y : D, L2.atI [x, y] 1 = some y := fun _ _ => rfl
  have e10 : (1 : Int) + (s : Int) - 1 = (s : Int) := by omega
  have e11 : (1 : Int) + (s : Int) = ((s + 1 : Nat) : Int) := by omega
  have ed : (if decide ((((rest p q s : Rat) / (q : Rat)).den : Int) ≤ 2 * ((rest p q s : Rat) / (q : Rat)).num) = true then (1 : Int) else 0) = ((dig p q s : Nat) : Int) := by
    unfold dig
    by_cases hz : q ≤ 2 * rest p q s
    · rw [if_pos hz, decide_eq_true (tg.mpr hz)]; rfl
    · rw [if_neg hz, decide_eq_false (fun z => hz (tg.mp z))]; rfl
  have hap := dl_app p q 0 t m
  rw [Nat.zero_add] at hap
  have hg : L2.atI (dl p q 0 (t + m)) (s : Int) = some (.int (dig p q s : Nat)) := atI_at (by rw [dl_get hs, Nat.zero_add])
  have hL : OkLen ((dl p q 0 t).length + (dl p q t m).length) := ⟨by rw [dl_length, dl_length]; omega⟩
  refine ⟨.val (.int (dig p q s : Nat)), ?_⟩
  have r3' : fn_digit_of [fr p q, .int ((s + 1 : Nat) : Int)] S = some (.int (dig p q s), S) := r3
  have fq : ∀ x : Rat, frq x = .tuple [.int x.num, .int (x.den : Nat)] := fun _ => rfl
  have k1 : exSet 11 (evB intD (evCons (ev2 (cmpI fun i j => decide (j ≤ i)) (ev2 mulD (evC (.int 2)) (ev2 ixD (evCall fn_law_rest (evCons (evV 4) (evCons (ev2 subD (evV 10) (evC (.int 1))) (evNil)))) (evC (.int 0)))) (ev2 ixD (evCall fn_law_rest (evCons (evV 4) (evCons (ev2 subD (evV 10) (evC (.int 1))) (evNil)))) (evC (.int 1)))) (evNil))) [.un, .val SRC, a2, .val (.int q), .val (fr p q), .val (.int p), .val (.tuple (dl p q 0 t)), .val (.tuple (dl p q t m)), .val (.int t), .val (.int b), .val (.int (1 + (s : Int))), a11, a12, a13, a14, a15, a16, a17, a18, a19, a20] S = some (.nx [.un, .val SRC, a2, .val (.int q), .val (fr p q), .val (.int p), .val (.tuple (dl p q 0 t)), .val (.tuple (dl p q t m)), .val (.int t), .val (.int b), .val (.int (1 + (s : Int))), .val (.int (dig p q s : Nat)), a12, a13, a14, a15, a16, a17, a18, a19, a20], S) := by
    generalize hx : (rest p q s : Rat) / (q : Rat) = x at *
    rw [fq] at r0
    rw [← ed]
    simp [runB, exSeq, exSet, exAsg, exPar, exRet, exRetN, exDrop, exIf, exBreak, exCont, exFreeze, exFor, exWhile, exApp, exNil, evC, evV, ev1, ev2, evNil, evCons, evTup, evLst, evB, evTB, evTru, evAndT, evOrT, evNotT, evAndV, evOrV, evIf, evSl, evPart, evNoPart, evSeq, evRng1, evRng2, gvName, gvTup, gvNil, gvCons, addD, addI, subD, mulD, mulI, divW, modD, shlD, powD, negD, cmpI, gcdD, lenD, absD, intD, tupleD, listD, sumD, min2D, max2D, ixD, slD, notD, truD, noAl, evCall, r0, e10, i0, i1, grd_of g1]
  unfold st8_in
  refine seq_step k1 ?_
  generalize hx : (rest p q (s + 1) : Rat) / (q : Rat) = x at *
  have hJ1 : (s : Int) + 1 = ((s + 1 : Nat) : Int) := rfl
  have hJ2 : ((s + 1 : Nat) : Int) - 1 = (s : Int) := by omega
  generalize hJ : ((s + 1 : Nat) : Int) = J at *
  have fa : ∀ x y : List D, addD (.tuple x) (.tuple y) = grd (OkLen (x.length + y.length)) (some (.tuple (x ++ y), .cl)) := fun x y => by
    simp only [addD, addI, addT]
    cases hh : grd (OkLen (x.length + y.length)) (some (PyData.tuple (x ++ y), Cl.cl)) with
    | some z => rfl
    | none => rfl
  simp [runB, exSeq, exSet, exAsg, exPar, exRet, exRetN, exDrop, exIf, exBreak, exCont, exFreeze, exFor, exWhile, exApp, exNil, evC, evV, ev1, ev2, evNil, evCons, evTup, evLst, evB, evTB, evTru, evAndT, evOrT, evNotT, evAndV, evOrV, evIf, evSl, evPart, evNoPart, evSeq, evRng1, evRng2, gvName, gvTup, gvNil, gvCons, addD, addI, subD, mulD, mulI, divW, modD, shlD, powD, negD, cmpI, gcdD, lenD, absD, intD, tupleD, listD, sumD, min2D, max2D, ixD, slD, notD, truD, noAl, evCall, e10, e11, r1, r2, r3', hJ2, addT, grd_of hL, hap, hg, neD_int, neD_frq]
theorem L8 {p q t b m : Nat} (h : Low p q t b m) (hq : q < 2 ^ 11) (ht : t ≤ 10) (hm : m ≤ 2000) (a2 a3 a4 a5 a6 a7 a8 a9 a10 a11 a12 a13 a14 a15 a16 a17 a18 a19 a20 : FD.Slot) (S : Pick) : ∃ c10 c11, st8 [.un, .val SRC, a2, .val (.int q), .val (fr p q), .val (.int p), .val (.tuple (dl p q 0 t)), .val (.tuple (dl p q t m)), .val (.int t), .val (.int b), a10, a11, a12, a13, a14, a15, a16, a17, a18, a19, a20] S = some (.nx [.un, .val SRC, a2, .val (.int q), .val (fr p q), .val (.int p), .val (.tuple (dl p q 0 t)), .val (.tuple (dl p q t m)), .val (.int t), .val (.int b), c10, c11, a12, a13, a14, a15, a16, a17, a18, a19, a20], S) := by
  obtain ⟨ρ', S', e, ⟨c10, c11, rfl, rfl⟩⟩ := for_rng (G := gvName 10) (F := st8_in) (fun i ρ S' => ∃ c10 c11, ρ = [.un, .val SRC, a2, .val (.int q), .val (fr p q), .val (.int p), .val (.tuple (dl p q 0 t)), .val (.tuple (dl p q t m)), .val (.int t), .val (.int b), c10, c11, a12, a13, a14, a15, a16, a17, a18, a19, a20] ∧ S' = S)
    1 ((if t + m < 60 then t + m else 60)) [.un, .val SRC, a2, .val (.int q), .val (fr p q), .val (.int p), .val (.tuple (dl p q 0 t)), .val (.tuple (dl p q t m)), .val (.int t), .val (.int b), a10, a11, a12, a13, a14, a15, a16, a17, a18, a19, a20] S ⟨_, _, rfl, rfl⟩ (fun i ρ S' hi hh => by
      obtain ⟨c10, c11, rfl, rfl⟩ := hh
      obtain ⟨c, hc⟩ := L8in h hq ht hm i (by split at hi <;> omega) a2 a3 a4 a5 a6 a7 a8 a9 .un c11 a12 a13 a14 a15 a16 a17 a18 a19 a20 S'
      exact ⟨_, _, S', rfl, hc, _, _, rfl, rfl⟩)
  refine ⟨c10, c11, ?_⟩
  rw [← e]
  have o1 : Ok62 1 := ok62_of (by decide) (by decide)
  have em : (if (t : Int) + (m : Int) < 60 then (t : Int) + (m : Int) else 60) = ((if t + m < 60 then t + m else 60 : Nat) : Int) := by
    split <;> split <;> omega
  have hn : (if t + m < 60 then t + m else 60) ≤ 60 := by split <;> omega
  generalize (if t + m < 60 then t + m else 60) = n at *
  have o2 : Ok62 ((n : Int) + 1) := ok62_of (by omega) (by omega)
  have en : ((n : Int) + 1 - 1).toNat = n := by omega
  simp only [st8, exFor, evRng2, evCons, evNil, evC, ev2, evB, evV, List.getElem?_cons_succ, List.getElem?_cons_zero, List.map, lenD, dl_length, addD, addI, min2D, em, grd_of (And.intro o1 o2), en]
theorem L9 {p q t b m : Nat} (h : Low p q t b m) (hq : q < 2 ^ 11) (ht : t ≤ 10) (hm : m ≤ 2000) (a2 a3 a4 a5 a6 a7 a8 a9 a10 a11 a12 a13 a14 a15 a16 a17 a18 a19 a20 : FD.Slot) (S : Pick) : st9 [.un, .val SRC, a2, .val (.int q), .val (fr p q), .val (.int p), .val (.tuple (dl p q 0 t)), .val (.tuple (dl p q t m)), .val (.int t), .val (.int b), a10, a11, a12, a13, a14, a15, a16, a17, a18, a19, a20] S = some (.nx [.un, .val SRC, a2, .val (.int q), .val (fr p q), .val (.int p), .val (.tuple (dl p q 0 t)), .val (.tuple (dl p q t m)), .val (.int t), .val (.int b), a10, a11, a12, a13, a14, a15, a16, a17, a18, a19, a20], S) := by
  have w1 := byw_eval t m S h.lt h.cop (by omega) (by omega) h.ord.pos (h.period (Nat.le_refl t))
  have w2 := byw_eval (t + m) (2 * m) S h.lt h.cop (by omega) (by omega) (by have := h.ord.pos; omega) (by rw [show t + m + 2 * m = t + m + m + m by omega, h.period (by omega), h.period (by omega)])
  have hL : OkLen ((dl p q 0 t).length + (dl p q t m).length) := ⟨by rw [dl_length, dl_length]; omega⟩
  have hap := dl_app p q 0 t m
  rw [Nat.zero_add] at hap
  have hM : OkMany (dl p q t m).length 2 := ⟨by rw [dl_length]; have := h.ord.pos; exact ⟨by omega, by decide, by show 2 * m ≤ _; omega⟩⟩
  have hT := dl_twice h
  have hN : neD (.list [fr p q, fr p q]) (.list [fr p q, fr p q]) = some (.bool false, .cl) := neD_ll (l := [.int p, .int q]) (r := [.int p, .int q]) (fun x hx => by simp at hx; rcases hx with rfl | rfl <;> exact ⟨_, rfl⟩) (fun x hx => by simp at hx; rcases hx with rfl | rfl <;> exact ⟨_, rfl⟩)
  simp [st9, runB, exSeq, exSet, exAsg, exPar, exRet, exRetN, exDrop, exIf, exBreak, exCont, exFreeze, exFor, exWhile, exApp, exNil, evC, evV, ev1, ev2, evNil, evCons, evTup, evLst, evB, evTB, evTru, evAndT, evOrT, evNotT, evAndV, evOrV, evIf, evSl, evPart, evNoPart, evSeq, evRng1, evRng2, gvName, gvTup, gvNil, gvCons, addD, addI, subD, mulD, mulI, divW, modD, shlD, powD, negD, cmpI, gcdD, lenD, absD, intD, tupleD, listD, sumD, min2D, max2D, ixD, slD, notD, truD, noAl, evCall, w1, w2, addT, mulL, mulT, grd_of hL, hap, grd_of hM, hT, -List.reduceReplicate, hN, grd_of, show OkLen 2 from ⟨by decide⟩]
theorem dl_sh {P Q p q : Nat} (h : Sh P Q p q) (i k : Nat) : dl P Q (i + 1) k = dl p q i k := by
  unfold dl
  apply List.map_congr_left
  intro a _
  rw [show i + 1 + a = i + a + 1 by omega, h.dig]
theorem sh_le {P Q p q : Nat} (h : Sh P Q p q) : q ≤ Q := by
  obtain ⟨g, hg, rfl, _⟩ := h
  exact Nat.le_mul_of_pos_left _ hg
theorem shift_frq {p q t b m p' q' : Nat} (h' : Low p' q' (t - 1) b m) (hs : Sh p q p' q') : frq ((rest p q 1 : Rat) / (q : Rat)) = fr p' q' := by
  obtain ⟨g, hg, rfl, hr⟩ := hs
  exact frq_gcd hg h'.qpos (by have := hr 0; rw [rest_zero h'.lt] at this; exact this) rfl h'.cop
theorem L10 {p q t b m : Nat} (h : Low p q t b m) (hq : q < 2 ^ 11) (ht : t ≤ 10) (hm : m ≤ 2000) {p' q' : Nat} (h' : Low p' q' (t - 1) b m) (hs : Sh p q p' q') (a2 a3 a4 a5 a6 a7 a8 a9 a10 a11 a12 a13 a14 a15 a16 a17 a18 a19 a20 : FD.Slot) (S : Pick) : st10 [.un, .val SRC, a2, .val (.int q), .val (fr p q), .val (.int p), .val (.tuple (dl p q 0 t)), .val (.tuple (dl p q t m)), .val (.int t), .val (.int b), a10, a11, a12, a13, a14, a15, a16, a17, a18, a19, a20] S = some (.nx [.un, .val SRC, a2, .val (.int q), .val (fr p q), .val (.int p), .val (.tuple (dl p q 0 t)), .val (.tuple (dl p q t m)), .val (.int t), .val (.int b), a10, a11, .val (.tuple [.tuple (dl p' q' 0 (t - 1)), .tuple (dl p' q' (t - 1) m)]), a13, a14, a15, a16, a17, a18, a19, a20], S) := by
  have hr := lrest_eval p q 1 S h.lt (by omega) (by omega)
  rw [shift_frq h' hs] at hr
  have hr' : fn_law_rest [fr p q, .int 1] S = some (fr p' q', S) := hr
  have hw := wheel_eval h' (by have := sh_le hs; omega) (by omega) S
  simp [st10, runB, exSeq, exSet, exAsg, exPar, exRet, exRetN, exDrop, exIf, exBreak, exCont, exFreeze, exFor, exWhile, exApp, exNil, evC, evV, ev1, ev2, evNil, evCons, evTup, evLst, evB, evTB, evTru, evAndT, evOrT, evNotT, evAndV, evOrV, evIf, evSl, evPart, evNoPart, evSeq, evRng1, evRng2, gvName, gvTup, gvNil, gvCons, addD, addI, subD, mulD, mulI, divW, modD, shlD, powD, negD, cmpI, gcdD, lenD, absD, intD, tupleD, listD, sumD, min2D, max2D, ixD, slD, notD, truD, noAl, evCall, hr', hw]
theorem L11 {p q t b m : Nat} (h : Low p q t b m) (hq : q < 2 ^ 11) (ht : t ≤ 10) (hm : m ≤ 2000) {p' q' : Nat} (h' : Low p' q' (t - 1) b m) (hs : Sh p q p' q') (a2 a3 a4 a5 a6 a7 a8 a9 a10 a11 a12 a13 a14 a15 a16 a17 a18 a19 a20 : FD.Slot) (S : Pick) : st11 [.un, .val SRC, a2, .val (.int q), .val (fr p q), .val (.int p), .val (.tuple (dl p q 0 t)), .val (.tuple (dl p q t m)), .val (.int t), .val (.int b), a10, a11, .val (.tuple [.tuple (dl p' q' 0 (t - 1)), .tuple (dl p' q' (t - 1) m)]), a13, a14, a15, a16, a17, a18, a19, a20] S = some (.nx [.un, .val SRC, a2, .val (.int q), .val (fr p q), .val (.int p), .val (.tuple (dl p q 0 t)), .val (.tuple (dl p q t m)), .val (.int t), .val (.int b), a10, a11, .val (.tuple [.tuple (dl p' q' 0 (t - 1)), .tuple (dl p' q' (t - 1) m)]), a13, a14, a15, a16, a17, a18, a19, a20], S) := by
  have e2 : dl p' q' (t - 1) m = dl p q (t - 1 + 1) m := (dl_sh hs _ _).symm
  have e1 : dl p' q' 0 (t - 1) = dl p q 1 (t - 1) := (dl_sh hs 0 _).symm
  have hm1 := h.ord.pos
  by_cases h0 : t = 0
  · subst h0
    have d0 : dl p q 0 0 = [] := rfl
    have d0' : dl p' q' 0 0 = [] := rfl
    have c1 : cutD (dl p q 0 m) (some 1) none = dl p q 1 (m - 1) := by
      have := cut_from (dl p q 0 m) 1
      rw [dl_drop] at this
      exact this
    have c2 : cutD (dl p q 0 m) none (some 1) = dl p q 0 1 := by
      have := cut_to (dl p q 0 m) 1
      rw [dl_take _ _ _ _ _ hm1] at this
      exact this
    have e3 : dl p q 1 (m - 1) ++ dl p q 0 1 = dl p' q' 0 m := by
      have k1 := dl_app p q 1 (m - 1) 1
      rw [show 1 + (m - 1) = m by omega, show m - 1 + 1 = m by omega, dl_sh hs 0 m] at k1
      have k2 : dl p q m 1 = dl p q 0 1 := by
        unfold dl
        have := h.period (Nat.le_refl 0)
        rw [Nat.zero_add] at this
        simp [dig, this]
      rw [k2] at k1
      exact k1
    have hL : OkLen ((dl p q 1 (m - 1)).length + (dl p q 0 1).length) := ⟨by rw [dl_length, dl_length]; omega⟩
    have n1 := neD_nil (l := []) (fun x hx => by cases hx)
    have n2 := neD_tt (l := []) (fun x hx => by cases hx) (allI_dl p' q' 0 m)
    simp [st11, runB, exSeq, exSet, exAsg, exPar, exRet, exRetN, exDrop, exIf, exBreak, exCont, exFreeze, exFor, exWhile, exApp, exNil, evC, evV, ev1, ev2, evNil, evCons, evTup, evLst, evB, evTB, evTru, evAndT, evOrT, evNotT, evAndV, evOrV, evIf, evSl, evPart, evNoPart, evSeq, evRng1, evRng2, gvName, gvTup, gvNil, gvCons, addD, addI, subD, mulD, mulI, divW, modD, shlD, powD, negD, cmpI, gcdD, lenD, absD, intD, tupleD, listD, sumD, min2D, max2D, ixD, slD, notD, truD, noAl, addT, d0, d0', c1, c2, e3, grd_of hL, grd_of, show OkLen 2 from ⟨by decide⟩, show OkLen 0 from ⟨by decide⟩, n1, n2]
  · have n1 := neD_nil (allI_dl p q 0 t)
    have n1' : (dl p q 0 t).isEmpty = false := by
      cases hd : dl p q 0 t with
      | nil => have := dl_length p q 0 t; rw [hd] at this; simp at this; omega
      | cons x r => rfl
    rw [n1'] at n1
    have c1 : cutD (dl p q 0 t) (some 1) none = dl p q 1 (t - 1) := by
      have := cut_from (dl p q 0 t) 1
      rw [dl_drop] at this
      exact this
    rw [show t - 1 + 1 = t by omega] at e2
    have n2 := neD_tt (allI_dl p q 1 (t - 1)) (allI_dl p q t m)
    simp [st11, runB, exSeq, exSet, exAsg, exPar, exRet, exRetN, exDrop, exIf, exBreak, exCont, exFreeze, exFor, exWhile, exApp, exNil, evC, evV, ev1, ev2, evNil, evCons, evTup, evLst, evB, evTB, evTru, evAndT, evOrT, evNotT, evAndV, evOrV, evIf, evSl, evPart, evNoPart, evSeq, evRng1, evRng2, gvName, gvTup, gvNil, gvCons, addD, addI, subD, mulD, mulI, divW, modD, shlD, powD, negD, cmpI, gcdD, lenD, absD, intD, tupleD, listD, sumD, min2D, max2D, ixD, slD, notD, truD, noAl, e1, e2, n1, c1, grd_of, show OkLen 2 from ⟨by decide⟩, show OkLen 0 from ⟨by decide⟩, n2]
theorem half_low {p q : Nat} (hc : Nat.Coprime p q) (hq0 : 0 < q) (hp : p < q) (hq : q < 2 ^ 11) (S : Pick) : fn_law_mul [.tuple [.int 1, .int 2], fr p q] S = some (frq ((p : Rat) / (q : Rat) / 2), S) := by
  have h1 := half_eval (ka := 11) (kb := 11) ((p : Rat) / (q : Rat)) S (Sz.frac_num hq0 (by omega)) (Sz.frac_den hq0 hq) (by decide) (by decide) (by decide) (by decide)
  rw [frq_nat hq0 hc] at h1
  exact h1
theorem L12o {p q t b m : Nat} (h : Low p q t b m) (hq : q < 2 ^ 11) (ht : t ≤ 10) (hm : m ≤ 2000) (hp : p % 2 = 1) (a2 a3 a4 a5 a6 a7 a8 a9 a10 a11 a12 a13 a14 a15 a16 a17 a18 a19 a20 : FD.Slot) (S : Pick) : st12 [.un, .val SRC, a2, .val (.int q), .val (fr p q), .val (.int p), .val (.tuple (dl p q 0 t)), .val (.tuple (dl p q t m)), .val (.int t), .val (.int b), a10, a11, a12, a13, a14, a15, a16, a17, a18, a19, a20] S = some (.nx [.un, .val SRC, a2, .val (.int q), .val (fr p q), .val (.int p), .val (.tuple (dl p q 0 t)), .val (.tuple (dl p q t m)), .val (.int t), .val (.int b), a10, a11, .val (.tuple [.tuple (dl p (2 * q) 0 (t + 1)), .tuple (dl p (2 * q) (t + 1) m)]), a13, a14, a15, a16, a17, a18, a19, a20], S) := by
  have hr := half_low h.cop h.qpos h.lt hq S
  have h2 := h.half_odd hp
  have e : (p : Rat) / (q : Rat) / 2 = (p : Rat) / ((2 * q : Nat) : Rat) := by
    have := natR_ne h.qpos
    rw [Rat.natCast_mul, show ((2 : Nat) : Rat) = 2 from rfl]
    grind
  rw [e, frq_nat h2.1.qpos h2.1.cop] at hr
  have hw := wheel_eval h2.1 (by omega) (by omega) S
  simp [st12, runB, exSeq, exSet, exAsg, exPar, exRet, exRetN, exDrop, exIf, exBreak, exCont, exFreeze, exFor, exWhile, exApp, exNil, evC, evV, ev1, ev2, evNil, evCons, evTup, evLst, evB, evTB, evTru, evAndT, evOrT, evNotT, evAndV, evOrV, evIf, evSl, evPart, evNoPart, evSeq, evRng1, evRng2, gvName, gvTup, gvNil, gvCons, addD, addI, subD, mulD, mulI, divW, modD, shlD, powD, negD, cmpI, gcdD, lenD, absD, intD, tupleD, listD, sumD, min2D, max2D, ixD, slD, notD, truD, noAl, evCall, hr, hw, grd_of, show OkLen 2 from ⟨by decide⟩]
theorem L12e {p q t b m : Nat} (h : Low p q t b m) (hq : q < 2 ^ 11) (ht : t ≤ 10) (hm : m ≤ 2000) (hp : p % 2 = 0) (a2 a3 a4 a5 a6 a7 a8 a9 a10 a11 a12 a13 a14 a15 a16 a17 a18 a19 a20 : FD.Slot) (S : Pick) : st12 [.un, .val SRC, a2, .val (.int q), .val (fr p q), .val (.int p), .val (.tuple (dl p q 0 t)), .val (.tuple (dl p q t m)), .val (.int t), .val (.int b), a10, a11, a12, a13, a14, a15, a16, a17, a18, a19, a20] S = some (.nx [.un, .val SRC, a2, .val (.int q), .val (fr p q), .val (.int p), .val (.tuple (dl p q 0 t)), .val (.tuple (dl p q t m)), .val (.int t), .val (.int b), a10, a11, .val (.tuple [.tuple (dl (p / 2) q 0 t), .tuple (dl (p / 2) q t m)]), a13, a14, a15, a16, a17, a18, a19, a20], S) := by
  have hr := half_low h.cop h.qpos h.lt hq S
  have h2 := h.half_even hp
  have e : (p : Rat) / (q : Rat) / 2 = ((p / 2 : Nat) : Rat) / (q : Rat) := by
    have n1 := natR_ne h.qpos
    have n2 : (p : Rat) = 2 * ((p / 2 : Nat) : Rat) := by
      have k : p = 2 * (p / 2) := by omega
      have k2 : (p : Rat) = ((2 * (p / 2) : Nat) : Rat) := congrArg _ k
      rw [Rat.natCast_mul] at k2
      exact k2
    grind
  rw [e, frq_nat h.qpos h2.1.cop] at hr
  have hw := wheel_eval h2.1 (by omega) (by omega) S
  simp [st12, runB, exSeq, exSet, exAsg, exPar, exRet, exRetN, exDrop, exIf, exBreak, exCont, exFreeze, exFor, exWhile, exApp, exNil, evC, evV, ev1, ev2, evNil, evCons, evTup, evLst, evB, evTB, evTru, evAndT, evOrT, evNotT, evAndV, evOrV, evIf, evSl, evPart, evNoPart, evSeq, evRng1, evRng2, gvName, gvTup, gvNil, gvCons, addD, addI, subD, mulD, mulI, divW, modD, shlD, powD, negD, cmpI, gcdD, lenD, absD, intD, tupleD, listD, sumD, min2D, max2D, ixD, slD, notD, truD, noAl, evCall, hr, hw, grd_of, show OkLen 2 from ⟨by decide⟩]
theorem dig0 {p q : Nat} (hp : p < q) (h2 : 2 * p < q) : dig p q 0 = 0 := by
  unfold dig; rw [rest_zero hp, if_neg (by omega)]
theorem dl_cons (p q k : Nat) : dl p q 0 (k + 1) = .int (dig p q 0 : Nat) :: dl p q 1 k := by
  have := dl_app p q 0 1 k
  rw [Nat.zero_add, Nat.add_comm 1 k] at this
  rw [← this]; rfl
theorem L13o {p q t b m : Nat} (h : Low p q t b m) (hq : q < 2 ^ 11) (ht : t ≤ 10) (hm : m ≤ 2000) (hp : p % 2 = 1) (a2 a3 a4 a5 a6 a7 a8 a9 a10 a11 a12 a13 a14 a15 a16 a17 a18 a19 a20 : FD.Slot) (S : Pick) : st13 [.un, .val SRC, a2, .val (.int q), .val (fr p q), .val (.int p), .val (.tuple (dl p q 0 t)), .val (.tuple (dl p q t m)), .val (.int t), .val (.int b), a10, a11, .val (.tuple [.tuple (dl p (2 * q) 0 (t + 1)), .tuple (dl p (2 * q) (t + 1) m)]), a13, a14, a15, a16, a17, a18, a19, a20] S = some (.nx [.un, .val SRC, a2, .val (.int q), .val (fr p q), .val (.int p), .val (.tuple (dl p q 0 t)), .val (.tuple (dl p q t m)), .val (.int t), .val (.int b), a10, a11, .val (.tuple [.tuple (dl p (2 * q) 0 (t + 1)), .tuple (dl p (2 * q) (t + 1) m)]), a13, a14, a15, a16, a17, a18, a19, a20], S) := by
  have h2 := h.half_odd hp
  have hm1 := h.ord.pos
  have e1 : dl p (2 * q) 0 (t + 1) = .int 0 :: dl p q 0 t := by
    rw [dl_cons, dl_sh h2.2, dig0 h2.1.lt (by have := h.lt; omega)]; rfl
  have e2 : dl p (2 * q) (t + 1) m = dl p q t m := dl_sh h2.2 _ _
  have hg : L2.atI (dl p q t m) ((m : Int) - 1) = some (.int (dig p q (t + (m - 1)) : Nat)) := by
    rw [show (m : Int) - 1 = ((m - 1 : Nat) : Int) by omega]
    exact atI_at (dl_get (by omega))
  have nt := neD_tt (l := .int 0 :: dl p q 0 t) (r := dl p q t m) (fun x hx => by
    rcases List.mem_cons.mp hx with z | z
    · exact ⟨_, z⟩
    · exact allI_dl p q 0 t x z) (allI_dl p q t m)
  have en := eqD_nil (allI_dl p q 0 t)
  have hL : OkLen (1 + (dl p q 0 t).length) := ⟨by rw [dl_length]; omega⟩
  by_cases h0 : t = 0
  · subst h0
    have hd := h.last
    rw [Nat.zero_add, hd, hp] at hg
    have d0 : dl p q 0 0 = [] := rfl
    simp only [d0] at *
    simp [st13, runB, exSeq, exSet, exAsg, exPar, exRet, exRetN, exDrop, exIf, exBreak, exCont, exFreeze, exFor, exWhile, exApp, exNil, evC, evV, ev1, ev2, evNil, evCons, evTup, evLst, evB, evTB, evTru, evAndT, evOrT, evNotT, evAndV, evOrV, evIf, evSl, evPart, evNoPart, evSeq, evRng1, evRng2, gvName, gvTup, gvNil, gvCons, addD, addI, subD, mulD, mulI, divW, modD, shlD, powD, negD, cmpI, gcdD, lenD, absD, intD, tupleD, listD, sumD, min2D, max2D, ixD, slD, notD, truD, noAl, e1, e2, en, dl_length, hg, eqD_int, addT, grd_of, show OkLen 1 from ⟨by decide⟩, show OkLen 2 from ⟨by decide⟩, show OkLen 0 from ⟨by decide⟩, nt]
  · have n1' : (dl p q 0 t).isEmpty = false := by
      cases hd : dl p q 0 t with
      | nil => have := dl_length p q 0 t; rw [hd] at this; simp at this; omega
      | cons x r => rfl
    rw [n1'] at en
    have hL' : OkLen ([PyData.int 0].length + (dl p q 0 t).length) := hL
    simp [st13, runB, exSeq, exSet, exAsg, exPar, exRet, exRetN, exDrop, exIf, exBreak, exCont, exFreeze, exFor, exWhile, exApp, exNil, evC, evV, ev1, ev2, evNil, evCons, evTup, evLst, evB, evTB, evTru, evAndT, evOrT, evNotT, evAndV, evOrV, evIf, evSl, evPart, evNoPart, evSeq, evRng1, evRng2, gvName, gvTup, gvNil, gvCons, addD, addI, subD, mulD, mulI, divW, modD, shlD, powD, negD, cmpI, gcdD, lenD, absD, intD, tupleD, listD, sumD, min2D, max2D, ixD, slD, notD, truD, noAl, e1, e2, en, addT, grd_of hL, grd_of, show OkLen 1 from ⟨by decide⟩, show OkLen 2 from ⟨by decide⟩, show OkLen 0 from ⟨by decide⟩, nt]
theorem L13e {p q t b m : Nat} (h : Low p q t b m) (hq : q < 2 ^ 11) (ht : t ≤ 10) (hm : m ≤ 2000) (hp : p % 2 = 0) (a2 a3 a4 a5 a6 a7 a8 a9 a10 a11 a12 a13 a14 a15 a16 a17 a18 a19 a20 : FD.Slot) (S : Pick) : st13 [.un, .val SRC, a2, .val (.int q), .val (fr p q), .val (.int p), .val (.tuple (dl p q 0 t)), .val (.tuple (dl p q t m)), .val (.int t), .val (.int b), a10, a11, .val (.tuple [.tuple (dl (p / 2) q 0 t), .tuple (dl (p / 2) q t m)]), a13, a14, a15, a16, a17, a18, a19, a20] S = some (.nx [.un, .val SRC, a2, .val (.int q), .val (fr p q), .val (.int p), .val (.tuple (dl p q 0 t)), .val (.tuple (dl p q t m)), .val (.int t), .val (.int b), a10, a11, .val (.tuple [.tuple (dl (p / 2) q 0 t), .tuple (dl (p / 2) q t m)]), a13, a14, a15, a16, a17, a18, a19, a20], S) := by
  have h2 := h.half_even hp
  have ht0 := h.even_t hp
  subst ht0
  have hm1 := h.ord.pos
  have d0 : dl p q 0 0 = [] := rfl
  have d0' : dl (p / 2) q 0 0 = [] := rfl
  have e1 : dl (p / 2) q 0 m = .int 0 :: dl p q 0 (m - 1) := by
    have := dl_cons (p / 2) q (m - 1)
    rw [show m - 1 + 1 = m by omega, dl_sh h2.2, dig0 h2.1.lt (by have := h.lt; omega)] at this
    exact this
  have hg : L2.atI (dl p q 0 m) ((m : Int) - 1) = some (.int (dig p q (0 + (m - 1)) : Nat)) := by
    rw [show (m : Int) - 1 = ((m - 1 : Nat) : Int) by omega]
    exact atI_at (dl_get (by omega))
  have hd := h.last
  rw [Nat.zero_add, hd, hp] at hg
  have c1 : cutD (dl p q 0 m) none (some ((m : Int) - 1)) = dl p q 0 (m - 1) := by
    rw [show (m : Int) - 1 = ((m - 1 : Nat) : Int) by omega, cut_to, dl_take _ _ _ _ _ (by omega)]
  have en := eqD_nil (l := []) (fun x hx => by cases hx)
  have nt := neD_tt (l := []) (r := .int 0 :: dl p q 0 (m - 1)) (fun x hx => by cases hx) (fun x hx => by
    rcases List.mem_cons.mp hx with z | z
    · exact ⟨_, z⟩
    · exact allI_dl p q 0 (m - 1) x z)
  have hL : OkLen ([PyData.int 0].length + (dl p q 0 (m - 1)).length) := ⟨by rw [dl_length]; show 1 + (m - 1) ≤ _; omega⟩
  have hL2 : OkLen (1 + (m - 1)) := ⟨by omega⟩
  simp [st13, runB, exSeq, exSet, exAsg, exPar, exRet, exRetN, exDrop, exIf, exBreak, exCont, exFreeze, exFor, exWhile, exApp, exNil, evC, evV, ev1, ev2, evNil, evCons, evTup, evLst, evB, evTB, evTru, evAndT, evOrT, evNotT, evAndV, evOrV, evIf, evSl, evPart, evNoPart, evSeq, evRng1, evRng2, gvName, gvTup, gvNil, gvCons, addD, addI, subD, mulD, mulI, divW, modD, shlD, powD, negD, cmpI, gcdD, lenD, absD, intD, tupleD, listD, sumD, min2D, max2D, ixD, slD, notD, truD, noAl, d0, d0', e1, en, dl_length, hg, eqD_int, addT, c1, grd_of hL2, grd_of, show OkLen 1 from ⟨by decide⟩, show OkLen 2 from ⟨by decide⟩, show OkLen 0 from ⟨by decide⟩, nt]
end
end LawK37

namespace LawK37
open PySem FD NT
noncomputable section
theorem half_sz {k : Nat} {N D : Nat} (hD : 0 < D) (h1 : N < 2 ^ k) (h2 : D < 2 ^ k) : Sz (k + 1) ((N : Rat) / (D : Rat) / 2).num ∧ Sz (k + 1) ((((N : Rat) / (D : Rat) / 2).den : Nat) : Int) := by
  have e : (N : Rat) / (D : Rat) / 2 = (N : Rat) / ((2 * D : Nat) : Rat) := by
    have := natR_ne hD
    rw [Rat.natCast_mul, show ((2 : Nat) : Rat) = 2 from rfl]
    grind
  rw [e]
  exact ⟨Sz.frac_num (by omega) (by rw [Nat.pow_succ]; omega), Sz.frac_den (by omega) (by rw [Nat.pow_succ]; omega)⟩
theorem TT_half_sz (p : Nat) {q t m : Nat} (hq : 0 < q) (h : q < 2 ^ 11) (hm : 1 ≤ m) : Sz (t + m + 14) (TT p q t m / 2).num ∧ Sz (t + m + 14) (((TT p q t m / 2).den : Nat) : Int) := by
  have z := TT_sz p hq h hm (t := t)
  have e : TT p q t m = ((TT p q t m).num.natAbs : Rat) / ((TT p q t m).den : Rat) := by
    have h0 : 0 ≤ (TT p q t m).num := by
      rw [TT_frac p hq hm]
      have h2 : 2 ≤ 2 ^ m := by
        calc 2 = 2 ^ 1 := rfl
          _ ≤ 2 ^ m := Nat.pow_le_pow_right (by decide) hm
      have d0 : 0 < q * 2 ^ t * (2 ^ m - 1) := Nat.mul_pos (Nat.mul_pos hq (Nat.pow_pos (by decide))) (by omega)
      have := low_num ((Zs p q 0 t * (2 ^ m - 1) + Zs p q t m : Nat) : Int) ((q * 2 ^ t * (2 ^ m - 1) : Nat) : Int) (by omega)
      rw [Rat.intCast_natCast, Rat.intCast_natCast] at this
      rw [this]
      exact Int.ediv_nonneg (by omega) (by omega)
    have h1 := self_div (TT p q t m)
    rw [Rat.intCast_natCast] at h1
    have h3 : (((TT p q t m).num : Int) : Rat) = (((TT p q t m).num.natAbs : Nat) : Rat) := by
      rw [← Rat.intCast_natCast]
      congr 1
      omega
    rw [h3] at h1
    exact h1.symm
  have k := half_sz (k := t + m + 13) (N := (TT p q t m).num.natAbs) (D := (TT p q t m).den) (TT p q t m).den_pos z.1 (by have := z.2; unfold Sz at this; rw [Int.natAbs_natCast] at this; exact this)
  rw [← e] at k
  exact k
theorem L14 {p q t b m : Nat} (h : Low p q t b m) (hq : q < 2 ^ 11) (ht : t ≤ 10) (hm : m ≤ 2000) {p' q' : Nat} (h' : Low p' q' (t - 1) b m) (hs : Sh p q p' q') (a2 a3 a4 a5 a6 a7 a8 a9 a10 a11 a12 a13 a14 a15 a16 a17 a18 a19 a20 : FD.Slot) (S : Pick) : st14 [.un, .val SRC, a2, .val (.int q), .val (fr p q), .val (.int p), .val (.tuple (dl p q 0 t)), .val (.tuple (dl p q t m)), .val (.int t), .val (.int b), a10, a11, a12, a13, a14, a15, a16, a17, a18, a19, a20] S = some (.nx [.un, .val SRC, a2, .val (.int q), .val (fr p q), .val (.int p), .val (.tuple (dl p q 0 t)), .val (.tuple (dl p q t m)), .val (.int t), .val (.int b), a10, a11, a12, a13, a14, a15, a16, a17, a18, a19, a20], S) := by
  have hq' : q' < 2 ^ 11 := by have := sh_le hs; omega
  have hr := lrest_eval p q 1 S h.lt (by omega) (by omega)
  rw [shift_frq h' hs] at hr
  have hr' : fn_law_rest [fr p q, .int 1] S = some (fr p' q', S) := hr
  have t1 := toss_eval h hq (by omega) (by omega) S
  have t2 := toss_eval h' hq' (by omega) (by omega) S
  have z2 := TT_sz p' h'.qpos hq' h.ord.pos (t := t - 1)
  have z3 := TT_half_sz p' h'.qpos hq' h.ord.pos (t := t - 1)
  have m1 := half_eval (TT p' q' (t - 1) m) S z2.1 z2.2 (by omega) (by omega) (by omega) (by omega)
  have s1 := lsum_eval ((p : Rat) / (q : Rat)) (TT p' q' (t - 1) m / 2) S (Sz.frac_num (k := 11) h.qpos (by have := h.lt; omega)) (Sz.frac_den (k := 11) h.qpos hq) z3.1 z3.2 (by decide) (by decide) (by omega) (by omega) (by omega) (by omega) (by omega)
  rw [frq_nat h.qpos h.cop, ← TT_sh h h' hs] at s1
  have nn := neD_frq (TT p q t m) (TT p q t m)
  rw [decide_eq_true rfl] at nn
  generalize frq (TT p q t m) = R at *
  generalize frq (TT p' q' (t - 1) m / 2) = R2 at *
  generalize frq (TT p' q' (t - 1) m) = R1 at *
  simp [st14, runB, exSeq, exSet, exAsg, exPar, exRet, exRetN, exDrop, exIf, exBreak, exCont, exFreeze, exFor, exWhile, exApp, exNil, evC, evV, ev1, ev2, evNil, evCons, evTup, evLst, evB, evTB, evTru, evAndT, evOrT, evNotT, evAndV, evOrV, evIf, evSl, evPart, evNoPart, evSeq, evRng1, evRng2, gvName, gvTup, gvNil, gvCons, addD, addI, subD, mulD, mulI, divW, modD, shlD, powD, negD, cmpI, gcdD, lenD, absD, intD, tupleD, listD, sumD, min2D, max2D, ixD, slD, notD, truD, noAl, evCall, hr', t1, t2, m1, s1, nn, grd_of, show OkLen 2 from ⟨by decide⟩]
theorem L15_ct {p q t b m : Nat} (h : Low p q t b m) (hq : q < 2 ^ 11) (ht : t ≤ 10) (hm : m ≤ 2000) (hp : p = 0) (a2 a3 a4 a5 a6 a7 a8 a9 a10 a11 a12 a13 a14 a15 a16 a17 a18 a19 a20 : FD.Slot) (S : Pick) : st15 [.un, .val SRC, a2, .val (.int q), .val (fr p q), .val (.int p), .val (.tuple (dl p q 0 t)), .val (.tuple (dl p q t m)), .val (.int t), .val (.int b), a10, a11, a12, a13, a14, a15, a16, a17, a18, a19, a20] S = some (.ct [.un, .val SRC, a2, .val (.int q), .val (fr p q), .val (.int p), .val (.tuple (dl p q 0 t)), .val (.tuple (dl p q t m)), .val (.int t), .val (.int b), a10, a11, a12, a13, a14, a15, a16, a17, a18, a19, a20], S) := by
  have t1 := toss_eval h hq (by omega) (by omega) S
  subst hp
  rw [TT_nul h] at t1
  have nn := neD_frq 0 0
  have f0 : frq 0 = .tuple [.int 0, .int 1] := rfl
  rw [f0] at t1 nn
  rw [decide_eq_true rfl] at nn
  have e0 : eqD (.int 0) (.int 0) = some (.bool true, .cl) := eqD_int 0 0
  simp [st15, runB, exSeq, exSet, exAsg, exPar, exRet, exRetN, exDrop, exIf, exBreak, exCont, exFreeze, exFor, exWhile, exApp, exNil, evC, evV, ev1, ev2, evNil, evCons, evTup, evLst, evB, evTB, evTru, evAndT, evOrT, evNotT, evAndV, evOrV, evIf, evSl, evPart, evNoPart, evSeq, evRng1, evRng2, gvName, gvTup, gvNil, gvCons, addD, addI, subD, mulD, mulI, divW, modD, shlD, powD, negD, cmpI, gcdD, lenD, absD, intD, tupleD, listD, sumD, min2D, max2D, ixD, slD, notD, truD, noAl, evCall, t1, nn, eqD_int, grd_of, show OkLen 2 from ⟨by decide⟩]
theorem L15 {p q t b m : Nat} (h : Low p q t b m) (hq : q < 2 ^ 11) (ht : t ≤ 10) (hm : m ≤ 2000) (hp : 0 < p) (a2 a3 a4 a5 a6 a7 a8 a9 a10 a11 a12 a13 a14 a15 a16 a17 a18 a19 a20 : FD.Slot) (S : Pick) : st15 [.un, .val SRC, a2, .val (.int q), .val (fr p q), .val (.int p), .val (.tuple (dl p q 0 t)), .val (.tuple (dl p q t m)), .val (.int t), .val (.int b), a10, a11, a12, a13, a14, a15, a16, a17, a18, a19, a20] S = some (.nx [.un, .val SRC, a2, .val (.int q), .val (fr p q), .val (.int p), .val (.tuple (dl p q 0 t)), .val (.tuple (dl p q t m)), .val (.int t), .val (.int b), a10, a11, a12, a13, a14, a15, a16, a17, a18, a19, a20], S) := by
  have e0 : ((p : Int) == 0) = false := by rw [beq_eq_false_iff_ne]; omega
  simp [st15, runB, exSeq, exSet, exAsg, exPar, exRet, exRetN, exDrop, exIf, exBreak, exCont, exFreeze, exFor, exWhile, exApp, exNil, evC, evV, ev1, ev2, evNil, evCons, evTup, evLst, evB, evTB, evTru, evAndT, evOrT, evNotT, evAndV, evOrV, evIf, evSl, evPart, evNoPart, evSeq, evRng1, evRng2, gvName, gvTup, gvNil, gvCons, addD, addI, subD, mulD, mulI, divW, modD, shlD, powD, negD, cmpI, gcdD, lenD, absD, intD, tupleD, listD, sumD, min2D, max2D, ixD, slD, notD, truD, noAl, eqD_int, e0]
theorem L16 {p q t b m : Nat} (h : Low p q t b m) (hq : q < 2 ^ 11) (ht : t ≤ 10) (hm : m ≤ 2000) (hp : 0 < p) (a2 a3 a4 a5 a6 a7 a8 a9 a10 a11 a12 a13 a14 a15 a16 a17 a18 a19 a20 : FD.Slot) (S : Pick) : st16 [.un, .val SRC, a2, .val (.int q), .val (fr p q), .val (.int p), .val (.tuple (dl p q 0 t)), .val (.tuple (dl p q t m)), .val (.int t), .val (.int b), a10, a11, a12, a13, a14, a15, a16, a17, a18, a19, a20] S = some (.nx [.un, .val SRC, a2, .val (.int q), .val (fr p q), .val (.int p), .val (.tuple (dl p q 0 t)), .val (.tuple (dl p q t m)), .val (.int t), .val (.int b), a10, a11, a12, .val (fr (q - p) q), a14, a15, a16, a17, a18, a19, a20], S) := by
  have hc := h.comp hp
  have h1 := cut_eq (k := 11) (((q - p : Nat)) : Int) (q : Int) S (by have := h.qpos; omega) (Sz.nat hq) (by decide)
  rw [Rat.intCast_natCast, Rat.intCast_natCast, frq_nat h.qpos hc.cop] at h1
  have e : (q : Int) - (p : Int) = ((q - p : Nat) : Int) := by have := h.lt; omega
  generalize ((q - p : Nat) : Int) = w at *
  simp [st16, runB, exSeq, exSet, exAsg, exPar, exRet, exRetN, exDrop, exIf, exBreak, exCont, exFreeze, exFor, exWhile, exApp, exNil, evC, evV, ev1, ev2, evNil, evCons, evTup, evLst, evB, evTB, evTru, evAndT, evOrT, evNotT, evAndV, evOrV, evIf, evSl, evPart, evNoPart, evSeq, evRng1, evRng2, gvName, gvTup, gvNil, gvCons, addD, addI, subD, mulD, mulI, divW, modD, shlD, powD, negD, cmpI, gcdD, lenD, absD, intD, tupleD, listD, sumD, min2D, max2D, ixD, slD, notD, truD, noAl, evCall, e, h1]
theorem L17 {p q t b m : Nat} (h : Low p q t b m) (hq : q < 2 ^ 11) (ht : t ≤ 10) (hm : m ≤ 2000) (hp : 0 < p) (a2 a3 a4 a5 a6 a7 a8 a9 a10 a11 a12 a13 a14 a15 a16 a17 a18 a19 a20 : FD.Slot) (S : Pick) : st17 [.un, .val SRC, a2, .val (.int q), .val (fr p q), .val (.int p), .val (.tuple (dl p q 0 t)), .val (.tuple (dl p q t m)), .val (.int t), .val (.int b), a10, a11, a12, .val (fr (q - p) q), a14, a15, a16, a17, a18, a19, a20] S = some (.nx [.un, .val SRC, a2, .val (.int q), .val (fr p q), .val (.int p), .val (.tuple (dl p q 0 t)), .val (.tuple (dl p q t m)), .val (.int t), .val (.int b), a10, a11, a12, .val (fr (q - p) q), .val (frq (TT p q t m + TT (q - p) q t m)), a15, a16, a17, a18, a19, a20], S) := by
  have hc := h.comp hp
  have t1 := toss_eval h hq (by omega) (by omega) S
  have t2 := toss_eval hc hq (by omega) (by omega) S
  have z1 := TT_sz p h.qpos hq h.ord.pos (t := t)
  have z2 := TT_sz (q - p) h.qpos hq h.ord.pos (t := t)
  have s1 := lsum_eval (TT p q t m) (TT (q - p) q t m) S z1.1 z1.2 z2.1 z2.2 (by omega) (by omega) (by omega) (by omega) (by omega) (by omega) (by omega)
  simp [st17, runB, exSeq, exSet, exAsg, exPar, exRet, exRetN, exDrop, exIf, exBreak, exCont, exFreeze, exFor, exWhile, exApp, exNil, evC, evV, ev1, ev2, evNil, evCons, evTup, evLst, evB, evTB, evTru, evAndT, evOrT, evNotT, evAndV, evOrV, evIf, evSl, evPart, evNoPart, evSeq, evRng1, evRng2, gvName, gvTup, gvNil, gvCons, addD, addI, subD, mulD, mulI, divW, modD, shlD, powD, negD, cmpI, gcdD, lenD, absD, intD, tupleD, listD, sumD, min2D, max2D, ixD, slD, notD, truD, noAl, evCall, t1, t2, s1, grd_of, show OkLen 2 from ⟨by decide⟩]
theorem L18 {p q t b m : Nat} (h : Low p q t b m) (hq : q < 2 ^ 11) (ht : t ≤ 10) (hm : m ≤ 2000) (hp : 0 < p) (a2 a3 a4 a5 a6 a7 a8 a9 a10 a11 a12 a13 a14 a15 a16 a17 a18 a19 a20 : FD.Slot) (S : Pick) : st18 [.un, .val SRC, a2, .val (.int q), .val (fr p q), .val (.int p), .val (.tuple (dl p q 0 t)), .val (.tuple (dl p q t m)), .val (.int t), .val (.int b), a10, a11, a12, .val (fr (q - p) q), .val (frq (TT p q t m + TT (q - p) q t m)), a15, a16, a17, a18, a19, a20] S = some (.nx [.un, .val SRC, a2, .val (.int q), .val (fr p q), .val (.int p), .val (.tuple (dl p q 0 t)), .val (.tuple (dl p q t m)), .val (.int t), .val (.int b), a10, a11, a12, .val (fr (q - p) q), .val (frq (TT p q t m + TT (q - p) q t m)), a15, a16, a17, a18, a19, a20], S) := by
  have hc := h.comp hp
  have g1 : OkPow 2 (t : Int) := ⟨⟨by omega, by omega, by decide⟩⟩
  have g2 : OkPow 1 (t : Int) := ⟨⟨by omega, by omega, by decide⟩⟩
  have pt : 0 < 2 ^ t := Nat.pow_pos (by decide)
  have sz : Sz (t + 1) ((2 ^ t : Nat) : Int) := Sz.pow (by omega)
  have n1 := Pw_ne t
  have ip : (((2 ^ t : Nat) : Int) : Rat) = Pw t := Rat.intCast_natCast _
  have fin : ∀ c : Int, (c : Rat) = (2 - (TT p q t m + TT (q - p) q t m)) * Pw t → fn_law_cut [.int (2 * ((2 ^ t : Nat) : Int) - c), .int ((2 ^ t : Nat) : Int)] S = some (frq (TT p q t m + TT (q - p) q t m), S) := fun c hcc => by
    have := cut_eq (2 * ((2 ^ t : Nat) : Int) - c) ((2 ^ t : Nat) : Int) S (by omega) sz (by omega)
    rw [this]
    congr 3
    rw [Rat.intCast_sub, Rat.intCast_mul, ip, hcc]
    have e2 : ((2 : Int) : Rat) = 2 := rfl
    rw [e2]
    grind
  have nn := neD_frq (TT p q t m + TT (q - p) q t m) (TT p q t m + TT (q - p) q t m)
  rw [decide_eq_true rfl] at nn
  have e2 : (2 : Int) * 2 ^ t = 2 * ((2 ^ t : Nat) : Int) := by rw [Int.natCast_pow]; rfl
  have e1 : (1 : Int) * 2 ^ t = ((2 ^ t : Nat) : Int) := by rw [Int.natCast_pow, Int.one_mul]; rfl
  by_cases hb : 1 < b
  · have hT := TT_comp h hb
    have f := fin 0 (by rw [hT, show ((0 : Int) : Rat) = 0 from rfl]; grind)
    have eb : ((b : Int) == 1) = false := by rw [beq_eq_false_iff_ne]; omega
    generalize ((2 ^ t : Nat) : Int) = P at *
    generalize frq (TT p q t m + TT (q - p) q t m) = R at *
    simp only [st18, runB, exSeq, exSet, exAsg, exPar, exRet, exRetN, exDrop, exIf, exBreak, exCont, exFreeze, exFor, exWhile, exApp, exNil, evC, evV, ev1, ev2, evNil, evCons, evTup, evLst, evB, evTB, evTru, evAndT, evOrT, evNotT, evAndV, evOrV, evIf, evSl, evPart, evNoPart, evSeq, evRng1, evRng2, gvName, gvTup, gvNil, gvCons, addD, addI, subD, mulD, mulI, divW, modD, shlD, powD, negD, cmpI, gcdD, lenD, absD, intD, tupleD, listD, sumD, min2D, max2D, ixD, slD, notD, truD, noAl, evCall, List.getElem?_cons_succ, List.getElem?_cons_zero, eqD_int, eb, grd_of g1, grd_of g2, Int.toNat_natCast, e1, e2, List.map, f, true_or, if_true, ite_true, nn, Bool.not_true]
  · have hb1 : b = 1 := by have := h.odd; omega
    subst hb1
    have hT := TT_comp1 h
    have f := fin 2 (by rw [hT, show ((2 : Int) : Rat) = 2 from rfl]; grind)
    have eb : (((1 : Nat) : Int) == 1) = true := rfl
    generalize ((2 ^ t : Nat) : Int) = P at *
    generalize frq (TT p q t m + TT (q - p) q t m) = R at *
    simp only [st18, runB, exSeq, exSet, exAsg, exPar, exRet, exRetN, exDrop, exIf, exBreak, exCont, exFreeze, exFor, exWhile, exApp, exNil, evC, evV, ev1, ev2, evNil, evCons, evTup, evLst, evB, evTB, evTru, evAndT, evOrT, evNotT, evAndV, evOrV, evIf, evSl, evPart, evNoPart, evSeq, evRng1, evRng2, gvName, gvTup, gvNil, gvCons, addD, addI, subD, mulD, mulI, divW, modD, shlD, powD, negD, cmpI, gcdD, lenD, absD, intD, tupleD, listD, sumD, min2D, max2D, ixD, slD, notD, truD, noAl, evCall, List.getElem?_cons_succ, List.getElem?_cons_zero, eqD_int, eb, grd_of g1, grd_of g2, Int.toNat_natCast, e1, e2, List.map, f, true_or, if_true, ite_true, nn, Bool.not_true]
theorem L19 {p q t b m : Nat} (h : Low p q t b m) (hq : q < 2 ^ 11) (ht : t ≤ 10) (hm : m ≤ 2000) (hp : 0 < p) (a2 a3 a4 a5 a6 a7 a8 a9 a10 a11 a12 a13 a14 a15 a16 a17 a18 a19 a20 : FD.Slot) (S : Pick) : st19 [.un, .val SRC, a2, .val (.int q), .val (fr p q), .val (.int p), .val (.tuple (dl p q 0 t)), .val (.tuple (dl p q t m)), .val (.int t), .val (.int b), a10, a11, a12, .val (fr (q - p) q), .val (frq (TT p q t m + TT (q - p) q t m)), a15, a16, a17, a18, a19, a20] S = some (.nx [.un, .val SRC, a2, .val (.int q), .val (fr p q), .val (.int p), .val (.tuple (dl p q 0 t)), .val (.tuple (dl p q t m)), .val (.int t), .val (.int b), a10, a11, a12, .val (fr (q - p) q), .val (frq (TT p q t m + TT (q - p) q t m)), a15, a16, a17, a18, a19, a20], S) := by
  have hc := h.comp hp
  have l1 := least_eval h hc hq hq (by omega) (by omega) (by omega) (by omega) S
  have l2 := least_eval hc h hq hq (by omega) (by omega) (by omega) (by omega) S
  rw [Rat.add_comm] at l2
  have nn := neD_frq (TT p q t m + TT (q - p) q t m) (TT p q t m + TT (q - p) q t m)
  rw [decide_eq_true rfl] at nn
  generalize frq (TT p q t m + TT (q - p) q t m) = R at *
  simp [st19, runB, exSeq, exSet, exAsg, exPar, exRet, exRetN, exDrop, exIf, exBreak, exCont, exFreeze, exFor, exWhile, exApp, exNil, evC, evV, ev1, ev2, evNil, evCons, evTup, evLst, evB, evTB, evTru, evAndT, evOrT, evNotT, evAndV, evOrV, evIf, evSl, evPart, evNoPart, evSeq, evRng1, evRng2, gvName, gvTup, gvNil, gvCons, addD, addI, subD, mulD, mulI, divW, modD, shlD, powD, negD, cmpI, gcdD, lenD, absD, intD, tupleD, listD, sumD, min2D, max2D, ixD, slD, notD, truD, noAl, evCall, l1, l2, nn, grd_of, show OkLen 2 from ⟨by decide⟩]
def flipD : D → D
  | .int i => .int (1 - i)
  | x => x
theorem flip_dl {p q p2 q2 i i2 k : Nat} (h : ∀ a, a < k → dig p2 q2 (i2 + a) = 1 - dig p q (i + a)) : (dl p q i k).map flipD = dl p2 q2 i2 k := by
  unfold dl
  rw [List.map_map]
  apply List.map_congr_left
  intro a ha
  rw [h a (List.mem_range.mp ha)]
  have := dig_le p q (i + a)
  show PyData.int (1 - (dig p q (i + a) : Int)) = _
  congr 1
  omega
theorem flip_lc (ρ : FD.Env) (S : Pick) (l : List D) (h : allI l) (hl : l.length ≤ 5000) (hs : 17 < ρ.length) :
    lcL (gvName 17) evYes (ev2 subD (evC (.int 1)) (evV 17)) l ρ S [] = some (l.map flipD, S) := by
  have := lcL_map (G := gvName 17) (T := evYes) (El := ev2 subD (evC (.int 1)) (evV 17)) (ρ := ρ) (S := S) flipD l [] (fun d hd => by
    obtain ⟨i, rfl⟩ := h d hd
    refine ⟨ρ.set 17 (.val (.int i)), .cl, if_pos hs, rfl, ?_, fun z => by cases z⟩
    have := List.getElem?_set_self (a := FD.Slot.val (.int i)) hs
    simp [runB, exSeq, exSet, exAsg, exPar, exRet, exRetN, exDrop, exIf, exBreak, exCont, exFreeze, exFor, exWhile, exApp, exNil, evC, evV, ev1, ev2, evNil, evCons, evTup, evLst, evB, evTB, evTru, evAndT, evOrT, evNotT, evAndV, evOrV, evIf, evSl, evPart, evNoPart, evSeq, evRng1, evRng2, gvName, gvTup, gvNil, gvCons, addD, addI, subD, mulD, mulI, divW, modD, shlD, powD, negD, cmpI, gcdD, lenD, absD, intD, tupleD, listD, sumD, min2D, max2D, ixD, slD, notD, truD, noAl, this, flipD]) (by simp; omega)
  exact this
theorem U1 {p q t b m : Nat} (h : Low p q t b m) (hq : q < 2 ^ 11) (ht : t ≤ 10) (hm : m ≤ 2000) (hp : 0 < p) (hb : 1 < b) (a2 a3 a4 a5 a6 a7 a8 a9 a10 a11 a12 a13 a14 a15 a16 a17 a18 a19 a20 : FD.Slot) (S : Pick) : su1 [.un, .val SRC, a2, .val (.int q), .val (fr p q), .val (.int p), .val (.tuple (dl p q 0 t)), .val (.tuple (dl p q t m)), .val (.int t), .val (.int b), a10, a11, a12, .val (fr (q - p) q), .val (frq (TT p q t m + TT (q - p) q t m)), a15, a16, a17, a18, a19, a20] S = some (.nx [.un, .val SRC, a2, .val (.int q), .val (fr p q), .val (.int p), .val (.tuple (dl p q 0 t)), .val (.tuple (dl p q t m)), .val (.int t), .val (.int b), a10, a11, a12, .val (fr (q - p) q), .val (frq (TT p q t m + TT (q - p) q t m)), .own (.list [.tuple (dl (q - p) q 0 t), .tuple (dl (q - p) q t m)]), a16, a17, a18, a19, a20], S) := by
  have f1 : (dl p q 0 t).map flipD = dl (q - p) q 0 t := flip_dl fun a _ => h.dig_comp hb _
  have f2 : (dl p q t m).map flipD = dl (q - p) q t m := flip_dl fun a _ => h.dig_comp hb _
  have c1 := fun ρ hs => flip_lc ρ S (dl p q 0 t) (allI_dl p q 0 t) (by rw [dl_length]; omega) hs
  have c2 := fun ρ hs => flip_lc ρ S (dl p q t m) (allI_dl p q t m) (by rw [dl_length]; omega) hs
  rw [f1] at c1
  rw [f2] at c2
  generalize frq (TT p q t m + TT (q - p) q t m) = R at *
  simp [su1, exSet, evLc, evSeq, evTup, evCons, evNil, evV, evB, evYes, gvName, lcL, wipeE, noAl, tupleD, c1, c2, grd_of, show OkLen 2 from ⟨by decide⟩, show OkLen 1 from ⟨by decide⟩]
theorem U2 {p q t b m : Nat} (h : Low p q t b m) (hq : q < 2 ^ 11) (ht : t ≤ 10) (hm : m ≤ 2000) (hp : 0 < p) (hb : 1 < b) (a2 a3 a4 a5 a6 a7 a8 a9 a10 a11 a12 a13 a14 a15 a16 a17 a18 a19 a20 : FD.Slot) (S : Pick) : su2 [.un, .val SRC, a2, .val (.int q), .val (fr p q), .val (.int p), .val (.tuple (dl p q 0 t)), .val (.tuple (dl p q t m)), .val (.int t), .val (.int b), a10, a11, a12, .val (fr (q - p) q), .val (frq (TT p q t m + TT (q - p) q t m)), .own (.list [.tuple (dl (q - p) q 0 t), .tuple (dl (q - p) q t m)]), a16, a17, a18, a19, a20] S = some (.nx [.un, .val SRC, a2, .val (.int q), .val (fr p q), .val (.int p), .val (.tuple (dl p q 0 t)), .val (.tuple (dl p q t m)), .val (.int t), .val (.int b), a10, a11, a12, .val (fr (q - p) q), .val (frq (TT p q t m + TT (q - p) q t m)), .own (.list [.tuple (dl (q - p) q 0 t), .tuple (dl (q - p) q t m)]), a16, a17, a18, a19, a20], S) := by
  have hc := h.comp hp
  have hw := wheel_eval hc (by omega) (by omega) S
  have nt := neD_tt (allI_dl (q - p) q 0 t) (allI_dl (q - p) q t m)
  have i0 : ∀ x y : D, L2.atI [x, y] 0 = some x := fun _ _ => rfl
  have i1 : ∀ x y : D, L2.atI [x, y] 1 = some y := fun _ _ => rfl
  generalize frq (TT p q t m + TT (q - p) q t m) = R at *
  simp [su2, runB, exSeq, exSet, exAsg, exPar, exRet, exRetN, exDrop, exIf, exBreak, exCont, exFreeze, exFor, exWhile, exApp, exNil, evC, evV, ev1, ev2, evNil, evCons, evTup, evLst, evB, evTB, evTru, evAndT, evOrT, evNotT, evAndV, evOrV, evIf, evSl, evPart, evNoPart, evSeq, evRng1, evRng2, gvName, gvTup, gvNil, gvCons, addD, addI, subD, mulD, mulI, divW, modD, shlD, powD, negD, cmpI, gcdD, lenD, absD, intD, tupleD, listD, sumD, min2D, max2D, ixD, slD, notD, truD, noAl, evCall, hw, nt, i0, i1, grd_of, show OkLen 2 from ⟨by decide⟩]
theorem U3 {p q t b m : Nat} (h : Low p q t b m) (hq : q < 2 ^ 11) (ht : t ≤ 10) (hm : m ≤ 2000) (hp : 0 < p) (hb : 1 < b) (a2 a3 a4 a5 a6 a7 a8 a9 a10 a11 a12 a13 a14 a15 a16 a17 a18 a19 a20 : FD.Slot) (S : Pick) : su3 [.un, .val SRC, a2, .val (.int q), .val (fr p q), .val (.int p), .val (.tuple (dl p q 0 t)), .val (.tuple (dl p q t m)), .val (.int t), .val (.int b), a10, a11, a12, .val (fr (q - p) q), .val (frq (TT p q t m + TT (q - p) q t m)), .own (.list [.tuple (dl (q - p) q 0 t), .tuple (dl (q - p) q t m)]), a16, a17, a18, a19, a20] S = some (.nx [.un, .val SRC, a2, .val (.int q), .val (fr p q), .val (.int p), .val (.tuple (dl p q 0 t)), .val (.tuple (dl p q t m)), .val (.int t), .val (.int b), a10, a11, a12, .val (fr (q - p) q), .val (frq (TT p q t m + TT (q - p) q t m)), .own (.list [.tuple (dl (q - p) q 0 t), .tuple (dl (q - p) q t m)]), a16, a17, .val (.int ((m / 2 : Nat) : Int)), a19, a20], S) := by
  have g1 : OkDiv 2 := okDiv_of (Sz.nat (n := 2) (k := 2) (by decide)) (by decide) (by decide) (by decide)
  have e : (m : Int) / 2 = ((m / 2 : Nat) : Int) := rfl
  generalize frq (TT p q t m + TT (q - p) q t m) = R at *
  generalize ((m / 2 : Nat) : Int) = w at *
  simp [su3, runB, exSeq, exSet, exAsg, exPar, exRet, exRetN, exDrop, exIf, exBreak, exCont, exFreeze, exFor, exWhile, exApp, exNil, evC, evV, ev1, ev2, evNil, evCons, evTup, evLst, evB, evTB, evTru, evAndT, evOrT, evNotT, evAndV, evOrV, evIf, evSl, evPart, evNoPart, evSeq, evRng1, evRng2, gvName, gvTup, gvNil, gvCons, addD, addI, subD, mulD, mulI, divW, modD, shlD, powD, negD, cmpI, gcdD, lenD, absD, intD, tupleD, listD, sumD, min2D, max2D, ixD, slD, notD, truD, noAl, dl_length, grd_of g1, e]
theorem U4 {p q t b m : Nat} (h : Low p q t b m) (hq : q < 2 ^ 11) (ht : t ≤ 10) (hm : m ≤ 2000) (hp : 0 < p) (hb : 1 < b) (a2 a3 a4 a5 a6 a7 a8 a9 a10 a11 a12 a13 a14 a15 a16 a17 a18 a19 a20 : FD.Slot) (S : Pick) : su4 [.un, .val SRC, a2, .val (.int q), .val (fr p q), .val (.int p), .val (.tuple (dl p q 0 t)), .val (.tuple (dl p q t m)), .val (.int t), .val (.int b), a10, a11, a12, .val (fr (q - p) q), .val (frq (TT p q t m + TT (q - p) q t m)), .own (.list [.tuple (dl (q - p) q 0 t), .tuple (dl (q - p) q t m)]), a16, a17, .val (.int ((m / 2 : Nat) : Int)), a19, a20] S = some (.nx [.un, .val SRC, a2, .val (.int q), .val (fr p q), .val (.int p), .val (.tuple (dl p q 0 t)), .val (.tuple (dl p q t m)), .val (.int t), .val (.int b), a10, a11, a12, .val (fr (q - p) q), .val (frq (TT p q t m + TT (q - p) q t m)), .own (.list [.tuple (dl (q - p) q 0 t), .tuple (dl (q - p) q t m)]), a16, a17, .val (.int ((m / 2 : Nat) : Int)), .val (.int ((1 : Nat) : Int)), a20], S) := by
  simp [su4, runB, exSeq, exSet, exAsg, exPar, exRet, exRetN, exDrop, exIf, exBreak, exCont, exFreeze, exFor, exWhile, exApp, exNil, evC, evV, ev1, ev2, evNil, evCons, evTup, evLst, evB, evTB, evTru, evAndT, evOrT, evNotT, evAndV, evOrV, evIf, evSl, evPart, evNoPart, evSeq, evRng1, evRng2, gvName, gvTup, gvNil, gvCons, addD, addI, subD, mulD, mulI, divW, modD, shlD, powD, negD, cmpI, gcdD, lenD, absD, intD, tupleD, listD, sumD, min2D, max2D, ixD, slD, notD, truD, noAl]
theorem U5 {p q t b m : Nat} (h : Low p q t b m) (hq : q < 2 ^ 11) (ht : t ≤ 10) (hm : m ≤ 2000) (hp : 0 < p) (hb : 1 < b) (a2 a3 a4 a5 a6 a7 a8 a9 a10 a11 a12 a13 a14 a15 a16 a17 a18 a19 a20 : FD.Slot) (S : Pick) : ∃ c20, su5 [.un, .val SRC, a2, .val (.int q), .val (fr p q), .val (.int p), .val (.tuple (dl p q 0 t)), .val (.tuple (dl p q t m)), .val (.int t), .val (.int b), a10, a11, a12, .val (fr (q - p) q), .val (frq (TT p q t m + TT (q - p) q t m)), .own (.list [.tuple (dl (q - p) q 0 t), .tuple (dl (q - p) q t m)]), a16, a17, .val (.int ((m / 2 : Nat) : Int)), .val (.int ((1 : Nat) : Int)), a20] S = some (.nx [.un, .val SRC, a2, .val (.int q), .val (fr p q), .val (.int p), .val (.tuple (dl p q 0 t)), .val (.tuple (dl p q t m)), .val (.int t), .val (.int b), a10, a11, a12, .val (fr (q - p) q), .val (frq (TT p q t m + TT (q - p) q t m)), .own (.list [.tuple (dl (q - p) q 0 t), .tuple (dl (q - p) q t m)]), a16, a17, .val (.int ((m / 2 : Nat) : Int)), .val (.int ((2 ^ (m / 2) % b : Nat) : Int)), c20], S) := by
  have hbq : b ≤ q := by
    have h1 := h.eq
    rw [h1]; exact Nat.le_mul_of_pos_left _ (Nat.pow_pos (by decide))
  obtain ⟨ρ', S', e, ⟨c20, rfl, rfl⟩⟩ := for_rng (G := gvName 20) (F := su5_in) (fun i ρ S' => ∃ c20, ρ = [.un, .val SRC, a2, .val (.int q), .val (fr p q), .val (.int p), .val (.tuple (dl p q 0 t)), .val (.tuple (dl p q t m)), .val (.int t), .val (.int b), a10, a11, a12, .val (fr (q - p) q), .val (frq (TT p q t m + TT (q - p) q t m)), .own (.list [.tuple (dl (q - p) q 0 t), .tuple (dl (q - p) q t m)]), a16, a17, .val (.int ((m / 2 : Nat) : Int)), .val (.int ((2 ^ i % b : Nat) : Int)), c20] ∧ S' = S)
    0 (m / 2) [.un, .val SRC, a2, .val (.int q), .val (fr p q), .val (.int p), .val (.tuple (dl p q 0 t)), .val (.tuple (dl p q t m)), .val (.int t), .val (.int b), a10, a11, a12, .val (fr (q - p) q), .val (frq (TT p q t m + TT (q - p) q t m)), .own (.list [.tuple (dl (q - p) q 0 t), .tuple (dl (q - p) q t m)]), a16, a17, .val (.int ((m / 2 : Nat) : Int)), .val (.int ((1 : Nat) : Int)), a20] S ⟨_, by rw [Nat.pow_zero, Nat.mod_eq_of_lt hb], rfl⟩ (fun i ρ S' hi hh => by
      obtain ⟨c20, rfl, rfl⟩ := hh
      refine ⟨_, _, S', rfl, ?_, .val (.int (0 + i)), rfl, rfl⟩
      have hlt : 2 ^ i % b < b := Nat.mod_lt _ (by omega)
      have hg : OkMul 2 ((2 ^ i % b : Nat) : Int) := okMul_of (Sz.nat (n := 2) (k := 2) (by decide)) (Sz.nat (k := 40) (by omega)) (by decide) (by decide) (by decide)
      have e0 : 2 ^ (i + 1) % b = 2 * (2 ^ i % b) % b := by rw [Nat.pow_succ, Nat.mul_comm, Nat.mul_mod, Nat.mul_mod 2 (2 ^ i % b), Nat.mod_mod]
      rw [e0]
      generalize 2 ^ i % b = u at *
      have e1 : 2 * (u : Int) % (b : Int) = ((2 * u % b : Nat) : Int) := by rw [Int.natCast_emod, Int.natCast_mul]; rfl
      generalize ((2 * u % b : Nat) : Int) = w at *
      generalize frq (TT p q t m + TT (q - p) q t m) = R at *
      simp [su5_in, runB, exSeq, exSet, exAsg, exPar, exRet, exRetN, exDrop, exIf, exBreak, exCont, exFreeze, exFor, exWhile, exApp, exNil, evC, evV, ev1, ev2, evNil, evCons, evTup, evLst, evB, evTB, evTru, evAndT, evOrT, evNotT, evAndV, evOrV, evIf, evSl, evPart, evNoPart, evSeq, evRng1, evRng2, gvName, gvTup, gvNil, gvCons, addD, addI, subD, mulD, mulI, divW, modD, shlD, powD, negD, cmpI, gcdD, lenD, absD, intD, tupleD, listD, sumD, min2D, max2D, ixD, slD, notD, truD, noAl, grd_of hg, e1, show 0 < b by omega])
  refine ⟨c20, ?_⟩
  rw [← e]
  have o2 : Ok62 ((m / 2 : Nat) : Int) := ok62_of (by omega) (by omega)
  simp only [su5, exFor, evRng1, evCons, evNil, evV, List.getElem?_cons_succ, List.getElem?_cons_zero, grd_of o2, Int.toNat_natCast]
theorem U6 {p q t b m : Nat} (h : Low p q t b m) (hq : q < 2 ^ 11) (ht : t ≤ 10) (hm : m ≤ 2000) (hp : 0 < p) (hb : 1 < b) (a2 a3 a4 a5 a6 a7 a8 a9 a10 a11 a12 a13 a14 a15 a16 a17 a18 a19 a20 : FD.Slot) (S : Pick) : su6 [.un, .val SRC, a2, .val (.int q), .val (fr p q), .val (.int p), .val (.tuple (dl p q 0 t)), .val (.tuple (dl p q t m)), .val (.int t), .val (.int b), a10, a11, a12, .val (fr (q - p) q), .val (frq (TT p q t m + TT (q - p) q t m)), .own (.list [.tuple (dl (q - p) q 0 t), .tuple (dl (q - p) q t m)]), a16, a17, .val (.int ((m / 2 : Nat) : Int)), .val (.int ((2 ^ (m / 2) % b : Nat) : Int)), a20] S = some (.nx [.un, .val SRC, a2, .val (.int q), .val (fr p q), .val (.int p), .val (.tuple (dl p q 0 t)), .val (.tuple (dl p q t m)), .val (.int t), .val (.int b), a10, a11, a12, .val (fr (q - p) q), .val (frq (TT p q t m + TT (q - p) q t m)), .own (.list [.tuple (dl (q - p) q 0 t), .tuple (dl (q - p) q t m)]), a16, a17, .val (.int ((m / 2 : Nat) : Int)), .val (.int ((2 ^ (m / 2) % b : Nat) : Int)), a20], S) := by
  have hm1 := h.ord.pos
  have g1 : OkMul 2 ((m / 2 : Nat) : Int) := okMul_of (Sz.nat (n := 2) (k := 2) (by decide)) (Sz.nat (k := 40) (by omega)) (by decide) (by decide) (by decide)
  have c1 : cutD (dl p q t m) (some ((m / 2 : Nat) : Int)) none = dl p q (t + m / 2) (m - m / 2) := by rw [cut_from, dl_drop]
  have c2 : cutD (dl p q t m) none (some ((m / 2 : Nat) : Int)) = dl p q t (m / 2) := by rw [cut_to, dl_take _ _ _ _ _ (by omega)]
  have lc := fun ρ hs => flip_lc ρ S (dl p q t (m / 2)) (allI_dl p q t (m / 2)) (by rw [dl_length]; omega) hs
  have nt := neD_t (allI_dl p q (t + m / 2) (m - m / 2))
  by_cases h1 : 2 * (m / 2) = m
  · by_cases h2 : 2 ^ (m / 2) % b = b - 1
    · have f : (dl p q t (m / 2)).map flipD = dl p q (t + m / 2) (m - m / 2) := by
        rw [show m - m / 2 = m / 2 by omega]
        exact flip_dl fun a _ => by rw [show t + m / 2 + a = t + a + m / 2 by omega, h.dig_half hb h2 (by omega)]
      rw [f] at lc
      have q1 : (2 * ((m / 2 : Nat) : Int) == (m : Int)) = true := by rw [beq_iff_eq]; omega
      have q2 : (((2 ^ (m / 2) % b : Nat) : Int) == (b : Int) - 1) = true := by rw [beq_iff_eq]; omega
      generalize frq (TT p q t m + TT (q - p) q t m) = R at *
      generalize ((2 ^ (m / 2) % b : Nat) : Int) = w at *
      generalize ((m / 2 : Nat) : Int) = v at *
      simp only [su6, evAndT, evOrT, evTB, ev2, evV, evC, evB, evCons, evNil, List.getElem?_cons_succ, List.getElem?_cons_zero, mulD, mulI, subD, lenD, List.map, eqD_int, dl_length, grd_of g1, q1, q2, exIf, exNil, evSl, evPart, evNoPart, slD, c1, c2]
      simp [evLc, evSeq, evSl, evV, evPart, evNoPart, slD, c2, wipeE, lc, tupleD, nt]
    · have q1 : (2 * ((m / 2 : Nat) : Int) == (m : Int)) = true := by rw [beq_iff_eq]; omega
      have q2 : (((2 ^ (m / 2) % b : Nat) : Int) == (b : Int) - 1) = false := by rw [beq_eq_false_iff_ne]; omega
      generalize frq (TT p q t m + TT (q - p) q t m) = R at *
      generalize ((2 ^ (m / 2) % b : Nat) : Int) = w at *
      generalize ((m / 2 : Nat) : Int) = v at *
      simp only [su6, evAndT, evOrT, evTB, ev2, evV, evC, evB, evCons, evNil, List.getElem?_cons_succ, List.getElem?_cons_zero, mulD, mulI, subD, lenD, List.map, eqD_int, dl_length, grd_of g1, q1, q2, exIf, exNil]
  · have q1 : (2 * ((m / 2 : Nat) : Int) == (m : Int)) = false := by rw [beq_eq_false_iff_ne]; omega
    generalize frq (TT p q t m + TT (q - p) q t m) = R at *
    generalize ((2 ^ (m / 2) % b : Nat) : Int) = w at *
    generalize ((m / 2 : Nat) : Int) = v at *
    simp only [su6, evAndT, evOrT, evTB, ev2, evV, evC, evB, evCons, evNil, List.getElem?_cons_succ, List.getElem?_cons_zero, mulD, mulI, subD, lenD, List.map, eqD_int, dl_length, grd_of g1, q1, exIf, exNil]
end
end LawK37

namespace LawK37
open PySem FD NT
noncomputable section
theorem ex_two : ∀ q : Nat, 0 < q → ∃ t b, q = 2 ^ t * b ∧ b % 2 = 1 := by
  intro q
  induction q using Nat.strongRecOn with
  | _ q ih =>
    intro hq
    by_cases h : q % 2 = 1
    · exact ⟨0, q, by simp, h⟩
    · obtain ⟨t, b, e, hb⟩ := ih (q / 2) (by omega) (by omega)
      refine ⟨t + 1, b, ?_, hb⟩
      rw [Nat.pow_succ, Nat.mul_comm (2 ^ t) 2, Nat.mul_assoc, ← e]
      omega
theorem ex_low {p q : Nat} (hc : Nat.Coprime p q) (hp : p < q) (hq : q ≤ 2000) : ∃ t b m, Low p q t b m ∧ t ≤ 10 ∧ m ≤ 2000 := by
  obtain ⟨t, b, e, hb⟩ := ex_two q (by omega)
  obtain ⟨m, hm⟩ := ex_ord hb
  refine ⟨t, b, m, ⟨e, hb, hc, hp, hm⟩, ?_, ?_⟩
  · by_cases ht : t ≤ 10
    · exact ht
    · have h1 : 2 ^ 11 ≤ 2 ^ t := Nat.pow_le_pow_right (by decide) (by omega)
      have h2 : 2 ^ t ≤ q := by rw [e]; exact Nat.le_mul_of_pos_right _ (by omega)
      omega
  · have h1 := hm.le hb
    have h2 : b ≤ q := by rw [e]; exact Nat.le_mul_of_pos_left _ (Nat.pow_pos (by decide))
    omega
/-- what stands between the laps -/
def Lap (ρ : FD.Env) : Prop := ∃ l : List FD.Slot, ρ = .un :: .val SRC :: l ∧ l.length = 19
theorem Lap.open {ρ : FD.Env} (h : Lap ρ) : ∃ a2 a3 a4 a5 a6 a7 a8 a9 a10 a11 a12 a13 a14 a15 a16 a17 a18 a19 a20 : FD.Slot, ρ = [.un, .val SRC, a2, a3, a4, a5, a6, a7, a8, a9, a10, a11, a12, a13, a14, a15, a16, a17, a18, a19, a20] := by
  obtain ⟨l, rfl, hl⟩ := h
  exact match l, hl with
    | [a2, a3, a4, a5, a6, a7, a8, a9, a10, a11, a12, a13, a14, a15, a16, a17, a18, a19, a20], _ => ⟨a2, a3, a4, a5, a6, a7, a8, a9, a10, a11, a12, a13, a14, a15, a16, a17, a18, a19, a20, rfl⟩
theorem L1 (i : Nat) (hi : i < 3) (a2 a3 a4 a5 a6 a7 a8 a9 a10 a11 a12 a13 a14 a15 a16 a17 a18 a19 a20 : FD.Slot) (S : Pick) : ∃ (Q : Nat) (S' : Pick), 2 ≤ Q ∧ Q ≤ 2000 ∧ st1 [.un, .val SRC, .val (.int (0 + (i : Int))), a3, a4, a5, a6, a7, a8, a9, a10, a11, a12, a13, a14, a15, a16, a17, a18, a19, a20] S = some (.nx [.un, .val SRC, .val (.int (0 + (i : Int))), .val (.int (Q : Int)), a4, a5, a6, a7, a8, a9, a10, a11, a12, a13, a14, a15, a16, a17, a18, a19, a20], S') := by
  have key : ∀ (v : Int), 1 ≤ v → v ≤ 1999 → L2.atI [PyData.int 30, PyData.int 300, PyData.int 1999] ((0 : Int) + i) = some (.int v) → ∃ (Q : Nat) (S' : Pick), 2 ≤ Q ∧ Q ≤ 2000 ∧ st1 [.un, .val SRC, .val (.int (0 + (i : Int))), a3, a4, a5, a6, a7, a8, a9, a10, a11, a12, a13, a14, a15, a16, a17, a18, a19, a20] S = some (.nx [.un, .val SRC, .val (.int (0 + (i : Int))), .val (.int (Q : Int)), a4, a5, a6, a7, a8, a9, a10, a11, a12, a13, a14, a15, a16, a17, a18, a19, a20], S') := fun v h1 h2 hv => by
    have lo := pick_lo v S
    have hi := pick_hi v S h1
    have hp : fn_law_pick [SRC, .int v] S = some (.int (pickF v S).1, (pickF v S).2) := grd_of (by omega) _
    refine ⟨(2 + (pickF v S).1).toNat, (pickF v S).2, by omega, by omega, ?_⟩
    have e : (((2 + (pickF v S).1).toNat : Nat) : Int) = 2 + (pickF v S).1 := by omega
    rw [e]
    generalize pickF v S = z at *
    generalize hj : (0 : Int) + (i : Int) = j at *
    simp [st1, runB, exSeq, exSet, exAsg, exPar, exRet, exRetN, exDrop, exIf, exBreak, exCont, exFreeze, exFor, exWhile, exApp, exNil, evC, evV, ev1, ev2, evNil, evCons, evTup, evLst, evB, evTB, evTru, evAndT, evOrT, evNotT, evAndV, evOrV, evIf, evSl, evPart, evNoPart, evSeq, evRng1, evRng2, gvName, gvTup, gvNil, gvCons, addD, addI, subD, mulD, mulI, divW, modD, shlD, powD, negD, cmpI, gcdD, lenD, absD, intD, tupleD, listD, sumD, min2D, max2D, ixD, slD, notD, truD, noAl, evCall, hv, hp, grd_of, show OkLen 3 from ⟨by decide⟩]
  have : i = 0 ∨ i = 1 ∨ i = 2 := by omega
  rcases this with rfl | rfl | rfl
  · exact key 30 (by decide) (by decide) rfl
  · exact key 300 (by decide) (by decide) rfl
  · exact key 1999 (by decide) (by decide) rfl
theorem L2' (Q : Nat) (hQ : 2 ≤ Q) (hQ2 : Q ≤ 2000) (a2 a3 a4 a5 a6 a7 a8 a9 a10 a11 a12 a13 a14 a15 a16 a17 a18 a19 a20 : FD.Slot) (S : Pick) : ∃ (p q : Nat) (S' : Pick), Nat.Coprime p q ∧ p < q ∧ q ≤ 2000 ∧ st2 [.un, .val SRC, a2, .val (.int (Q : Int)), a4, a5, a6, a7, a8, a9, a10, a11, a12, a13, a14, a15, a16, a17, a18, a19, a20] S = some (.nx [.un, .val SRC, a2, .val (.int (Q : Int)), .val (fr p q), a5, a6, a7, a8, a9, a10, a11, a12, a13, a14, a15, a16, a17, a18, a19, a20], S') := by
  have lo := pick_lo (Q : Int) S
  have hi := pick_hi (Q : Int) S (by omega)
  have hp : fn_law_pick [SRC, .int Q] S = some (.int (pickF Q S).1, (pickF Q S).2) := grd_of (by omega) _
  obtain ⟨p0, hp0⟩ : ∃ p0 : Nat, (pickF Q S).1 = (p0 : Int) := ⟨(pickF Q S).1.toNat, by omega⟩
  rw [hp0] at hp lo hi
  generalize (pickF Q S).2 = S' at *
  have hg : 0 < Nat.gcd p0 Q := gcd_pos_right (by omega)
  have hc := Nat.coprime_div_gcd_div_gcd hg
  have ep : p0 = Nat.gcd p0 Q * (p0 / Nat.gcd p0 Q) := (Nat.mul_div_cancel' (Nat.gcd_dvd_left p0 Q)).symm
  have eq : Q = Nat.gcd p0 Q * (Q / Nat.gcd p0 Q) := (Nat.mul_div_cancel' (Nat.gcd_dvd_right p0 Q)).symm
  generalize p0 / Nat.gcd p0 Q = p at *
  generalize Q / Nat.gcd p0 Q = q at *
  have hlt : p < q := by
    have : Nat.gcd p0 Q * p < Nat.gcd p0 Q * q := by rw [← ep, ← eq]; omega
    exact Nat.lt_of_mul_lt_mul_left this
  have hqQ : q ≤ Q := by
    have h1 : 1 * q ≤ Nat.gcd p0 Q * q := Nat.mul_le_mul_right _ hg
    rw [← eq] at h1
    omega
  have hcut := cut_eq (k := 11) (p0 : Int) (Q : Int) S' (by omega) (Sz.nat (by omega)) (by decide)
  rw [Rat.intCast_natCast, Rat.intCast_natCast, frq_gcd hg (by omega) ep eq hc] at hcut
  refine ⟨p, q, S', hc, hlt, by omega, ?_⟩
  simp [st2, runB, exSeq, exSet, exAsg, exPar, exRet, exRetN, exDrop, exIf, exBreak, exCont, exFreeze, exFor, exWhile, exApp, exNil, evC, evV, ev1, ev2, evNil, evCons, evTup, evLst, evB, evTB, evTru, evAndT, evOrT, evNotT, evAndV, evOrV, evIf, evSl, evPart, evNoPart, evSeq, evRng1, evRng2, gvName, gvTup, gvNil, gvCons, addD, addI, subD, mulD, mulI, divW, modD, shlD, powD, negD, cmpI, gcdD, lenD, absD, intD, tupleD, listD, sumD, min2D, max2D, ixD, slD, notD, truD, noAl, evCall, hp, hcut]
theorem st20_ok {p q t b m : Nat} (h : Low p q t b m) (hq : q < 2 ^ 11) (ht : t ≤ 10) (hm : m ≤ 2000) (hp : 0 < p) (a2 a3 a4 a5 a6 a7 a8 a9 a10 a11 a12 a13 a14 a15 a16 a17 a18 a19 a20 : FD.Slot) (S : Pick) : ∃ ρ, st20 [.un, .val SRC, a2, .val (.int q), .val (fr p q), .val (.int p), .val (.tuple (dl p q 0 t)), .val (.tuple (dl p q t m)), .val (.int t), .val (.int b), a10, a11, a12, .val (fr (q - p) q), .val (frq (TT p q t m + TT (q - p) q t m)), a15, a16, a17, a18, a19, a20] S = some (.nx ρ, S) ∧ Lap ρ := by
  have go : ∀ R : D, True := fun _ => trivial
  by_cases hb : 1 < b
  · have e : st20 [.un, .val SRC, a2, .val (.int q), .val (fr p q), .val (.int p), .val (.tuple (dl p q 0 t)), .val (.tuple (dl p q t m)), .val (.int t), .val (.int b), a10, a11, a12, .val (fr (q - p) q), .val (frq (TT p q t m + TT (q - p) q t m)), a15, a16, a17, a18, a19, a20] S = (exSeq su1 (exSeq su2 (exSeq su3 (exSeq su4 (exSeq su5 su6))))) [.un, .val SRC, a2, .val (.int q), .val (fr p q), .val (.int p), .val (.tuple (dl p q 0 t)), .val (.tuple (dl p q t m)), .val (.int t), .val (.int b), a10, a11, a12, .val (fr (q - p) q), .val (frq (TT p q t m + TT (q - p) q t m)), a15, a16, a17, a18, a19, a20] S := by
      have e0 : decide ((1 : Int) < (b : Int)) = true := decide_eq_true (by omega)
      simp only [st20, exIf, evTB, ev2, evV, evC, cmpI, List.getElem?_cons_succ, List.getElem?_cons_zero, e0]
    rw [e]
    obtain ⟨c20, h5⟩ := U5 h hq ht hm hp hb a2 a3 a4 a5 a6 a7 a8 a9 a10 a11 a12 a13 a14 a15 a16 a17 a18 a19 a20 S
    refine ⟨_, seq_step (U1 h hq ht hm hp hb _ .un .un .un .un .un .un .un _ _ _ .un .un _ _ _ _ _ _ _) (seq_step (U2 h hq ht hm hp hb _ .un .un .un .un .un .un .un _ _ _ .un .un .un _ _ _ _ _ _) (seq_step (U3 h hq ht hm hp hb _ .un .un .un .un .un .un .un _ _ _ .un .un .un _ _ _ _ _ _) (seq_step (U4 h hq ht hm hp hb _ .un .un .un .un .un .un .un _ _ _ .un .un .un _ _ .un _ _ _) (seq_step h5 (U6 h hq ht hm hp hb _ .un .un .un .un .un .un .un _ _ _ .un .un .un _ _ .un .un _ _))))), ?_⟩
    exact ⟨_, rfl, rfl⟩
  · refine ⟨[.un, .val SRC, a2, .val (.int q), .val (fr p q), .val (.int p), .val (.tuple (dl p q 0 t)), .val (.tuple (dl p q t m)), .val (.int t), .val (.int b), a10, a11, a12, .val (fr (q - p) q), .val (frq (TT p q t m + TT (q - p) q t m)), a15, a16, a17, a18, a19, a20], ?_, _, rfl, rfl⟩
    · have e0 : decide ((1 : Int) < (b : Int)) = false := decide_eq_false (by omega)
      simp only [st20, exIf, evTB, ev2, evV, evC, cmpI, List.getElem?_cons_succ, List.getElem?_cons_zero, e0, exNil]
theorem lap_ok (i : Nat) (hi : i < 3) (a2 a3 a4 a5 a6 a7 a8 a9 a10 a11 a12 a13 a14 a15 a16 a17 a18 a19 a20 : FD.Slot) (S : Pick) : ∃ ρ S2, (lapF [.un, .val SRC, .val (.int (0 + (i : Int))), a3, a4, a5, a6, a7, a8, a9, a10, a11, a12, a13, a14, a15, a16, a17, a18, a19, a20] S = some (.nx ρ, S2) ∨ lapF [.un, .val SRC, .val (.int (0 + (i : Int))), a3, a4, a5, a6, a7, a8, a9, a10, a11, a12, a13, a14, a15, a16, a17, a18, a19, a20] S = some (.ct ρ, S2)) ∧ Lap ρ := by
  obtain ⟨Q, S1, hQ, hQ2, h1⟩ := L1 i hi a2 a3 a4 a5 a6 a7 a8 a9 a10 a11 a12 a13 a14 a15 a16 a17 a18 a19 a20 S
  obtain ⟨p, q, S2, hc, hlt, hq2, h2⟩ := L2' Q hQ hQ2 (.val (.int (0 + (i : Int)))) a3 a4 a5 a6 a7 a8 a9 a10 a11 a12 a13 a14 a15 a16 a17 a18 a19 a20 S1
  obtain ⟨t, b, m, h, ht, hm⟩ := ex_low hc hlt hq2
  have hq : q < 2 ^ 11 := by omega
  obtain ⟨p', q', h', hs⟩ := h.shift
  unfold lapF
  by_cases hpar : p % 2 = 1
  · skip
    obtain ⟨c10, c11, h8⟩ := L8 h hq ht hm (.val (.int (0 + (i : Int)))) a3 a4 a5 a6 a7 a8 a9 a10 a11 a12 a13 a14 a15 a16 a17 a18 a19 a20 S2
    by_cases hp : 0 < p
    · obtain ⟨ρ, h20, hl⟩ := st20_ok h hq ht hm hp (.val (.int (0 + (i : Int)))) a3 a4 a5 a6 a7 a8 a9 c10 c11 (.val (.tuple [.tuple (dl p (2 * q) 0 (t + 1)), .tuple (dl p (2 * q) (t + 1) m)])) a13 a14 a15 a16 a17 a18 a19 a20 S2
      exact ⟨ρ, S2, .inl (seq_step (h1) (seq_step (h2) (seq_step (L3 _ _ .un _ _ _ _ _ _ _ _ _ _ _ _ _ _ _ _ _) (seq_step (L4 h hq ht hm _ .un .un .un _ _ _ _ _ _ _ _ _ _ _ _ _ _ _ _) (seq_step (L5 h hq ht hm _ .un .un .un .un .un _ _ _ _ _ _ _ _ _ _ _ _ _ _) (seq_step (L6 h hq ht hm _ .un .un .un .un .un .un .un _ _ _ _ _ _ _ _ _ _ _ _) (seq_step (L7 h hq ht hm _ .un .un .un .un .un .un .un _ _ _ _ _ _ _ _ _ _ _ _) (seq_step (h8) (seq_step (L9 h hq ht hm _ .un .un .un .un .un .un .un _ _ _ _ _ _ _ _ _ _ _ _) (seq_step (L10 h hq ht hm h' hs _ .un .un .un .un .un .un .un _ _ _ _ _ _ _ _ _ _ _ _) (seq_step (L11 h hq ht hm h' hs _ .un .un .un .un .un .un .un _ _ .un _ _ _ _ _ _ _ _ _) (seq_step (L12o h hq ht hm hpar _ .un .un .un .un .un .un .un _ _ _ _ _ _ _ _ _ _ _ _) (seq_step (L13o h hq ht hm hpar _ .un .un .un .un .un .un .un _ _ .un _ _ _ _ _ _ _ _ _) (seq_step (L14 h hq ht hm h' hs _ .un .un .un .un .un .un .un _ _ _ _ _ _ _ _ _ _ _ _) (seq_step (L15 h hq ht hm hp _ .un .un .un .un .un .un .un _ _ _ _ _ _ _ _ _ _ _ _) (seq_step (L16 h hq ht hm hp _ .un .un .un .un .un .un .un _ _ _ _ _ _ _ _ _ _ _ _) (seq_step (L17 h hq ht hm hp _ .un .un .un .un .un .un .un _ _ _ .un _ _ _ _ _ _ _ _) (seq_step (L18 h hq ht hm hp _ .un .un .un .un .un .un .un _ _ _ .un .un _ _ _ _ _ _ _) (seq_step (L19 h hq ht hm hp _ .un .un .un .un .un .un .un _ _ _ .un .un _ _ _ _ _ _ _) h20))))))))))))))))))), hl⟩
    · exact ⟨_, S2, .inr (seq_step (h1) (seq_step (h2) (seq_step (L3 _ _ .un _ _ _ _ _ _ _ _ _ _ _ _ _ _ _ _ _) (seq_step (L4 h hq ht hm _ .un .un .un _ _ _ _ _ _ _ _ _ _ _ _ _ _ _ _) (seq_step (L5 h hq ht hm _ .un .un .un .un .un _ _ _ _ _ _ _ _ _ _ _ _ _ _) (seq_step (L6 h hq ht hm _ .un .un .un .un .un .un .un _ _ _ _ _ _ _ _ _ _ _ _) (seq_step (L7 h hq ht hm _ .un .un .un .un .un .un .un _ _ _ _ _ _ _ _ _ _ _ _) (seq_step (h8) (seq_step (L9 h hq ht hm _ .un .un .un .un .un .un .un _ _ _ _ _ _ _ _ _ _ _ _) (seq_step (L10 h hq ht hm h' hs _ .un .un .un .un .un .un .un _ _ _ _ _ _ _ _ _ _ _ _) (seq_step (L11 h hq ht hm h' hs _ .un .un .un .un .un .un .un _ _ .un _ _ _ _ _ _ _ _ _) (seq_step (L12o h hq ht hm hpar _ .un .un .un .un .un .un .un _ _ _ _ _ _ _ _ _ _ _ _) (seq_step (L13o h hq ht hm hpar _ .un .un .un .un .un .un .un _ _ .un _ _ _ _ _ _ _ _ _) (seq_step (L14 h hq ht hm h' hs _ .un .un .un .un .un .un .un _ _ _ _ _ _ _ _ _ _ _ _) (seq_ct (L15_ct h hq ht hm (by omega) _ .un .un .un .un .un .un .un _ _ _ _ _ _ _ _ _ _ _ _)))))))))))))))), _, rfl, rfl⟩
  · have hpar : p % 2 = 0 := by omega
    obtain ⟨c10, c11, h8⟩ := L8 h hq ht hm (.val (.int (0 + (i : Int)))) a3 a4 a5 a6 a7 a8 a9 a10 a11 a12 a13 a14 a15 a16 a17 a18 a19 a20 S2
    by_cases hp : 0 < p
    · obtain ⟨ρ, h20, hl⟩ := st20_ok h hq ht hm hp (.val (.int (0 + (i : Int)))) a3 a4 a5 a6 a7 a8 a9 c10 c11 (.val (.tuple [.tuple (dl (p / 2) q 0 t), .tuple (dl (p / 2) q t m)])) a13 a14 a15 a16 a17 a18 a19 a20 S2
      exact ⟨ρ, S2, .inl (seq_step (h1) (seq_step (h2) (seq_step (L3 _ _ .un _ _ _ _ _ _ _ _ _ _ _ _ _ _ _ _ _) (seq_step (L4 h hq ht hm _ .un .un .un _ _ _ _ _ _ _ _ _ _ _ _ _ _ _ _) (seq_step (L5 h hq ht hm _ .un .un .un .un .un _ _ _ _ _ _ _ _ _ _ _ _ _ _) (seq_step (L6 h hq ht hm _ .un .un .un .un .un .un .un _ _ _ _ _ _ _ _ _ _ _ _) (seq_step (L7 h hq ht hm _ .un .un .un .un .un .un .un _ _ _ _ _ _ _ _ _ _ _ _) (seq_step (h8) (seq_step (L9 h hq ht hm _ .un .un .un .un .un .un .un _ _ _ _ _ _ _ _ _ _ _ _) (seq_step (L10 h hq ht hm h' hs _ .un .un .un .un .un .un .un _ _ _ _ _ _ _ _ _ _ _ _) (seq_step (L11 h hq ht hm h' hs _ .un .un .un .un .un .un .un _ _ .un _ _ _ _ _ _ _ _ _) (seq_step (L12e h hq ht hm hpar _ .un .un .un .un .un .un .un _ _ _ _ _ _ _ _ _ _ _ _) (seq_step (L13e h hq ht hm hpar _ .un .un .un .un .un .un .un _ _ .un _ _ _ _ _ _ _ _ _) (seq_step (L14 h hq ht hm h' hs _ .un .un .un .un .un .un .un _ _ _ _ _ _ _ _ _ _ _ _) (seq_step (L15 h hq ht hm hp _ .un .un .un .un .un .un .un _ _ _ _ _ _ _ _ _ _ _ _) (seq_step (L16 h hq ht hm hp _ .un .un .un .un .un .un .un _ _ _ _ _ _ _ _ _ _ _ _) (seq_step (L17 h hq ht hm hp _ .un .un .un .un .un .un .un _ _ _ .un _ _ _ _ _ _ _ _) (seq_step (L18 h hq ht hm hp _ .un .un .un .un .un .un .un _ _ _ .un .un _ _ _ _ _ _ _) (seq_step (L19 h hq ht hm hp _ .un .un .un .un .un .un .un _ _ _ .un .un _ _ _ _ _ _ _) h20))))))))))))))))))), hl⟩
    · exact ⟨_, S2, .inr (seq_step (h1) (seq_step (h2) (seq_step (L3 _ _ .un _ _ _ _ _ _ _ _ _ _ _ _ _ _ _ _ _) (seq_step (L4 h hq ht hm _ .un .un .un _ _ _ _ _ _ _ _ _ _ _ _ _ _ _ _) (seq_step (L5 h hq ht hm _ .un .un .un .un .un _ _ _ _ _ _ _ _ _ _ _ _ _ _) (seq_step (L6 h hq ht hm _ .un .un .un .un .un .un .un _ _ _ _ _ _ _ _ _ _ _ _) (seq_step (L7 h hq ht hm _ .un .un .un .un .un .un .un _ _ _ _ _ _ _ _ _ _ _ _) (seq_step (h8) (seq_step (L9 h hq ht hm _ .un .un .un .un .un .un .un _ _ _ _ _ _ _ _ _ _ _ _) (seq_step (L10 h hq ht hm h' hs _ .un .un .un .un .un .un .un _ _ _ _ _ _ _ _ _ _ _ _) (seq_step (L11 h hq ht hm h' hs _ .un .un .un .un .un .un .un _ _ .un _ _ _ _ _ _ _ _ _) (seq_step (L12e h hq ht hm hpar _ .un .un .un .un .un .un .un _ _ _ _ _ _ _ _ _ _ _ _) (seq_step (L13e h hq ht hm hpar _ .un .un .un .un .un .un .un _ _ .un _ _ _ _ _ _ _ _ _) (seq_step (L14 h hq ht hm h' hs _ .un .un .un .un .un .un .un _ _ _ _ _ _ _ _ _ _ _ _) (seq_ct (L15_ct h hq ht hm (by omega) _ .un .un .un .un .un .un .un _ _ _ _ _ _ _ _ _ _ _ _)))))))))))))))), _, rfl, rfl⟩
theorem law_true : ∀ ns : List Int, ns.length ≤ 63 → ∃ S', B_law ((List.replicate 21 Slot.un).set 1 (.val SRC)) (openF ns) = some (.rt (.bool true), S') := by
  intro ns _
  obtain ⟨ρ', S', e, hl⟩ := forL_inv (G := gvName 2) (F := lapF) (fun _ ρ _ => Lap ρ) (rgD 0 3) 0 ((List.replicate 21 Slot.un).set 1 (.val SRC)) (openF ns) ⟨_, rfl, rfl⟩ (fun i d ρ S hi hl => by
    obtain ⟨h1, rfl⟩ := rgD_get hi
    obtain ⟨a2, a3, a4, a5, a6, a7, a8, a9, a10, a11, a12, a13, a14, a15, a16, a17, a18, a19, a20, rfl⟩ := hl.open
    obtain ⟨ρ2, S2, hh, hl2⟩ := lap_ok i h1 a2 a3 a4 a5 a6 a7 a8 a9 a10 a11 a12 a13 a14 a15 a16 a17 a18 a19 a20 S
    exact ⟨_, ρ2, S2, rfl, hh, hl2⟩)
  refine ⟨S', ?_⟩
  rw [B_law_eq]
  refine seq_step (ρ1 := ρ') (S1 := S') ?_ rfl
  have o3 : Ok62 3 := ok62_of (by decide) (by decide)
  simp only [exFor, evRng1, evCons, evNil, evC, grd_of o3]
  exact e
end
end LawK37

/-! printed by gen.py: the end -/
namespace LawK37
open PySem PySem.Spec PyProof.Rows L2 FD
theorem all_mk {l : PySem.W.OpenLaw} {w : World} {K : PySem.W.Frag} {h : Heap} {mg : Str → Option Value} {fa f0 f1 f2 f3 f4 f5 f6 f7 f8 f9 f10 f11 f12 f13 f14 f15 f16 f17 f18 : Addr} (X : K.In h) (G : h.Ns mainGlobals mg) (hfa : mg "law" = some (.ref fa))
    {od0 an0 od1 an1 od2 an2 od3 an3 od4 an4 od5 an5 od6 an6 od7 an7 od8 an8 od9 an9 od10 an10 od11 an11 od12 an12 od13 an13 od14 an14 od15 an15 od16 an16 od17 an17 od18 an18 : Option Addr} {sl0 sl1 sl2 sl3 sl4 sl5 sl6 sl7 sl8 sl9 sl10 sl11 sl12 sl13 sl14 sl15 sl16 sl17 sl18 : Array (Option Value)} {oc0 kV0 dc0 pm0 cd0 ct0 oc1 kV1 dc1 pm1 cd1 ct1 oc2 kV2 dc2 pm2 cd2 ct2 oc3 kV3 dc3 pm3 cd3 ct3 oc4 kV4 dc4 pm4 cd4 ct4 oc5 kV5 dc5 pm5 cd5 ct5 oc6 kV6 dc6 pm6 cd6 ct6 oc7 kV7 dc7 pm7 cd7 ct7 oc8 kV8 dc8 pm8 cd8 ct8 oc9 kV9 dc9 pm9 cd9 ct9 oc10 kV10 dc10 pm10 cd10 ct10 oc11 kV11 dc11 pm11 cd11 ct11 oc12 kV12 dc12 pm12 cd12 ct12 oc13 kV13 dc13 pm13 cd13 ct13 oc14 kV14 dc14 pm14 cd14 ct14 oc15 kV15 dc15 pm15 cd15 ct15 oc16 kV16 dc16 pm16 cd16 ct16 oc17 kV17 dc17 pm17 cd17 ct17 oc18 kV18 dc18 pm18 cd18 ct18 : Value}
    (a0 : PySem.W.nsIn K mainGlobals "in_least_terms" = some (some (.ref f0))) (l0 : K.lookup f0 = some ⟨oc0, od0, .func (PySem.W.fnOf "in_least_terms" "in_least_terms" (defArgs s_in_least_terms) (defBody s_in_least_terms) (defScope s_in_least_terms) .none kV0 dc0 pm0 an0 cd0 ct0), sl0⟩) (c0 : PySem.W.codeIn K cd0 "in_least_terms" = true) (k0 : PySem.W.keepIn K (.ref f0) = true)
    (a1 : PySem.W.nsIn K mainGlobals "power_of_two" = some (some (.ref f1))) (l1 : K.lookup f1 = some ⟨oc1, od1, .func (PySem.W.fnOf "power_of_two" "power_of_two" (defArgs s_power_of_two) (defBody s_power_of_two) (defScope s_power_of_two) .none kV1 dc1 pm1 an1 cd1 ct1), sl1⟩) (c1 : PySem.W.codeIn K cd1 "power_of_two" = true) (k1 : PySem.W.keepIn K (.ref f1) = true)
    (a2 : PySem.W.nsIn K mainGlobals "rest_of" = some (some (.ref f2))) (l2 : K.lookup f2 = some ⟨oc2, od2, .func (PySem.W.fnOf "rest_of" "rest_of" (defArgs s_rest_of) (defBody s_rest_of) (defScope s_rest_of) .none kV2 dc2 pm2 an2 cd2 ct2), sl2⟩) (c2 : PySem.W.codeIn K cd2 "rest_of" = true) (k2 : PySem.W.keepIn K (.ref f2) = true)
    (a3 : PySem.W.nsIn K mainGlobals "digit_of" = some (some (.ref f3))) (l3 : K.lookup f3 = some ⟨oc3, od3, .func (PySem.W.fnOf "digit_of" "digit_of" (defArgs s_digit_of) (defBody s_digit_of) (defScope s_digit_of) .none kV3 dc3 pm3 an3 cd3 ct3), sl3⟩) (c3 : PySem.W.codeIn K cd3 "digit_of" = true) (k3 : PySem.W.keepIn K (.ref f3) = true)
    (a4 : PySem.W.nsIn K mainGlobals "rests_till_again" = some (some (.ref f4))) (l4 : K.lookup f4 = some ⟨oc4, od4, .func (PySem.W.fnOf "rests_till_again" "rests_till_again" (defArgs s_rests_till_again) (defBody s_rests_till_again) (defScope s_rests_till_again) .none kV4 dc4 pm4 an4 cd4 ct4), sl4⟩) (c4 : PySem.W.codeIn K cd4 "rests_till_again" = true) (k4 : PySem.W.keepIn K (.ref f4) = true)
    (a5 : PySem.W.nsIn K mainGlobals "fraction_wheel" = some (some (.ref f5))) (l5 : K.lookup f5 = some ⟨oc5, od5, .func (PySem.W.fnOf "fraction_wheel" "fraction_wheel" (defArgs s_fraction_wheel) (defBody s_fraction_wheel) (defScope s_fraction_wheel) .none kV5 dc5 pm5 an5 cd5 ct5), sl5⟩) (c5 : PySem.W.codeIn K cd5 "fraction_wheel" = true) (k5 : PySem.W.keepIn K (.ref f5) = true)
    (a6 : PySem.W.nsIn K mainGlobals "number_of_digits" = some (some (.ref f6))) (l6 : K.lookup f6 = some ⟨oc6, od6, .func (PySem.W.fnOf "number_of_digits" "number_of_digits" (defArgs s_number_of_digits) (defBody s_number_of_digits) (defScope s_number_of_digits) .none kV6 dc6 pm6 an6 cd6 ct6), sl6⟩) (c6 : PySem.W.codeIn K cd6 "number_of_digits" = true) (k6 : PySem.W.keepIn K (.ref f6) = true)
    (a7 : PySem.W.nsIn K mainGlobals "fraction_by_wheel" = some (some (.ref f7))) (l7 : K.lookup f7 = some ⟨oc7, od7, .func (PySem.W.fnOf "fraction_by_wheel" "fraction_by_wheel" (defArgs s_fraction_by_wheel) (defBody s_fraction_by_wheel) (defScope s_fraction_by_wheel) .none kV7 dc7 pm7 an7 cd7 ct7), sl7⟩) (c7 : PySem.W.codeIn K cd7 "fraction_by_wheel" = true) (k7 : PySem.W.keepIn K (.ref f7) = true)
    (a8 : PySem.W.nsIn K mainGlobals "sum_of_two" = some (some (.ref f8))) (l8 : K.lookup f8 = some ⟨oc8, od8, .func (PySem.W.fnOf "sum_of_two" "sum_of_two" (defArgs s_sum_of_two) (defBody s_sum_of_two) (defScope s_sum_of_two) .none kV8 dc8 pm8 an8 cd8 ct8), sl8⟩) (c8 : PySem.W.codeIn K cd8 "sum_of_two" = true) (k8 : PySem.W.keepIn K (.ref f8) = true)
    (a9 : PySem.W.nsIn K mainGlobals "toss_sum" = some (some (.ref f9))) (l9 : K.lookup f9 = some ⟨oc9, od9, .func (PySem.W.fnOf "toss_sum" "toss_sum" (defArgs s_toss_sum) (defBody s_toss_sum) (defScope s_toss_sum) .none kV9 dc9 pm9 an9 cd9 ct9), sl9⟩) (c9 : PySem.W.codeIn K cd9 "toss_sum" = true) (k9 : PySem.W.keepIn K (.ref f9) = true)
    (a10 : PySem.W.nsIn K mainGlobals "least_mean" = some (some (.ref f10))) (l10 : K.lookup f10 = some ⟨oc10, od10, .func (PySem.W.fnOf "least_mean" "least_mean" (defArgs s_least_mean) (defBody s_least_mean) (defScope s_least_mean) .none kV10 dc10 pm10 an10 cd10 ct10), sl10⟩) (c10 : PySem.W.codeIn K cd10 "least_mean" = true) (k10 : PySem.W.keepIn K (.ref f10) = true)
    (a11 : PySem.W.nsIn K mainGlobals "_law_open_cells" = some (some (.ref f11))) (l11 : K.lookup f11 = some ⟨oc11, od11, .func (PySem.W.fnOf "_law_open_cells" "_law_open_cells" (defArgs s_law_open_cells) (defBody s_law_open_cells) (defScope s_law_open_cells) .none kV11 dc11 pm11 an11 cd11 ct11), sl11⟩) (c11 : PySem.W.codeIn K cd11 "_law_open_cells" = true) (k11 : PySem.W.keepIn K (.ref f11) = true)
    (a12 : PySem.W.nsIn K mainGlobals "_law_pick" = some (some (.ref f12))) (l12 : K.lookup f12 = some ⟨oc12, od12, .func (PySem.W.fnOf "_law_pick" "_law_pick" (defArgs s_law_pick) (defBody s_law_pick) (defScope s_law_pick) .none kV12 dc12 pm12 an12 cd12 ct12), sl12⟩) (c12 : PySem.W.codeIn K cd12 "_law_pick" = true) (k12 : PySem.W.keepIn K (.ref f12) = true)
    (a13 : PySem.W.nsIn K mainGlobals "_law_cut" = some (some (.ref f13))) (l13 : K.lookup f13 = some ⟨oc13, od13, .func (PySem.W.fnOf "_law_cut" "_law_cut" (defArgs s_law_cut) (defBody s_law_cut) (defScope s_law_cut) .none kV13 dc13 pm13 an13 cd13 ct13), sl13⟩) (c13 : PySem.W.codeIn K cd13 "_law_cut" = true) (k13 : PySem.W.keepIn K (.ref f13) = true)
    (a14 : PySem.W.nsIn K mainGlobals "_law_sum" = some (some (.ref f14))) (l14 : K.lookup f14 = some ⟨oc14, od14, .func (PySem.W.fnOf "_law_sum" "_law_sum" (defArgs s_law_sum) (defBody s_law_sum) (defScope s_law_sum) .none kV14 dc14 pm14 an14 cd14 ct14), sl14⟩) (c14 : PySem.W.codeIn K cd14 "_law_sum" = true) (k14 : PySem.W.keepIn K (.ref f14) = true)
    (a15 : PySem.W.nsIn K mainGlobals "_law_mul" = some (some (.ref f15))) (l15 : K.lookup f15 = some ⟨oc15, od15, .func (PySem.W.fnOf "_law_mul" "_law_mul" (defArgs s_law_mul) (defBody s_law_mul) (defScope s_law_mul) .none kV15 dc15 pm15 an15 cd15 ct15), sl15⟩) (c15 : PySem.W.codeIn K cd15 "_law_mul" = true) (k15 : PySem.W.keepIn K (.ref f15) = true)
    (a16 : PySem.W.nsIn K mainGlobals "_law_rest" = some (some (.ref f16))) (l16 : K.lookup f16 = some ⟨oc16, od16, .func (PySem.W.fnOf "_law_rest" "_law_rest" (defArgs s_law_rest) (defBody s_law_rest) (defScope s_law_rest) .none kV16 dc16 pm16 an16 cd16 ct16), sl16⟩) (c16 : PySem.W.codeIn K cd16 "_law_rest" = true) (k16 : PySem.W.keepIn K (.ref f16) = true)
    (a17 : PySem.W.nsIn K mainGlobals "_law_again" = some (some (.ref f17))) (l17 : K.lookup f17 = some ⟨oc17, od17, .func (PySem.W.fnOf "_law_again" "_law_again" (defArgs s_law_again) (defBody s_law_again) (defScope s_law_again) .none kV17 dc17 pm17 an17 cd17 ct17), sl17⟩) (c17 : PySem.W.codeIn K cd17 "_law_again" = true) (k17 : PySem.W.keepIn K (.ref f17) = true)
    (a18 : PySem.W.nsIn K mainGlobals "law" = some (some (.ref f18))) (l18 : K.lookup f18 = some ⟨oc18, od18, .func (PySem.W.fnOf "law" "law" (defArgs s_law) (defBody s_law) (defScope s_law) .none kV18 dc18 pm18 an18 cd18 ct18), sl18⟩) (c18 : PySem.W.codeIn K cd18 "law" = true) (k18 : PySem.W.keepIn K (.ref f18) = true)
    (z_abs : PySem.W.nsIn K mainGlobals "abs" = some none)
    (z_int : PySem.W.nsIn K mainGlobals "int" = some none)
    (z_len : PySem.W.nsIn K mainGlobals "len" = some none)
    (z_min : PySem.W.nsIn K mainGlobals "min" = some none)
    (z_range : PySem.W.nsIn K mainGlobals "range" = some none)
    (z_tuple : PySem.W.nsIn K mainGlobals "tuple" = some none)
    (z_gcd : PySem.W.nsIn K mainGlobals "gcd" = some (some (.builtin "math.gcd"))) :
    ∃ fd : FuncData, (∀ (s : Shared) (v : Value), BindsTo s fd ⟨[v], []⟩ [("script", v)]) ∧ ∀ base : Heap, K.In base → base.Ns mainGlobals mg → FnOk l.prog w K mg base CX0 5 fa fd ["script"] (spLaw K) := by
  have e := hfa.symm.trans (PySem.W.mg_of X G a18)
  cases e
  refine ⟨PySem.W.fnOf "law" "law" (defArgs s_law) (defBody s_law) (defScope s_law) .none kV18 dc18 pm18 an18 cd18 ct18, fun s v => .of_eq rfl, fun base _ _ => ?_⟩
  have M : Glob mg := ⟨PySem.W.mg_none_of X G z_abs, PySem.W.mg_none_of X G z_int, PySem.W.mg_none_of X G z_len, PySem.W.mg_none_of X G z_min, PySem.W.mg_none_of X G z_range, PySem.W.mg_none_of X G z_tuple, PySem.W.mg_of X G z_gcd⟩
  have F11 := fun_mk (st := s_law_open_cells) l11 c11 k11
  have b11 := F11.binds (ps := ["script"]) fun _ _ _ _ _ _ us hl => match us, hl with | [_], _ => rfl
  have O11 := ok_law_open_cells (P := l.prog) (w := w) (base := base) M F11
  have F12 := fun_mk (st := s_law_pick) l12 c12 k12
  have b12 := F12.binds (ps := ["source", "most"]) fun _ _ _ _ _ _ us hl => match us, hl with | [_, _], _ => rfl
  have D12 : FnD l.prog w K mg base 1 "_law_pick" 2 fn_law_pick := fnD_of F12 (ok_law_pick M F12) (PySem.W.mg_of X G a12) b12
  have F0 := fun_mk (st := s_in_least_terms) l0 c0 k0
  have b0 := F0.binds (ps := ["p", "q"]) fun _ _ _ _ _ _ us hl => match us, hl with | [_, _], _ => rfl
  have D0 : FnD l.prog w K mg base 1 "in_least_terms" 2 fn_in_least_terms := fnD_of F0 (ok_in_least_terms ⟨M⟩ F0) (PySem.W.mg_of X G a0) b0
  have F1 := fun_mk (st := s_power_of_two) l1 c1 k1
  have b1 := F1.binds (ps := ["many"]) fun _ _ _ _ _ _ us hl => match us, hl with | [_], _ => rfl
  have D1 : FnD l.prog w K mg base 1 "power_of_two" 1 fn_power_of_two := fnD_of F1 (ok_power_of_two ⟨M⟩ F1) (PySem.W.mg_of X G a1) b1
  have F2 := fun_mk (st := s_rest_of) l2 c2 k2
  have b2 := F2.binds (ps := ["x", "j"]) fun _ _ _ _ _ _ us hl => match us, hl with | [_, _], _ => rfl
  have D2 : FnD l.prog w K mg base 2 "rest_of" 2 fn_rest_of := fnD_of F2 (ok_rest_of ⟨M, D0⟩ F2) (PySem.W.mg_of X G a2) b2
  have F3 := fun_mk (st := s_digit_of) l3 c3 k3
  have b3 := F3.binds (ps := ["x", "j"]) fun _ _ _ _ _ _ us hl => match us, hl with | [_, _], _ => rfl
  have D3 : FnD l.prog w K mg base 3 "digit_of" 2 fn_digit_of := fnD_of F3 (ok_digit_of ⟨M, D2⟩ F3) (PySem.W.mg_of X G a3) b3
  have F4 := fun_mk (st := s_rests_till_again) l4 c4 k4
  have b4 := F4.binds (ps := ["x"]) fun _ _ _ _ _ _ us hl => match us, hl with | [_], _ => rfl
  have D4 : FnD l.prog w K mg base 1 "rests_till_again" 1 fn_rests_till_again := fnD_of F4 (ok_rests_till_again ⟨M⟩ F4) (PySem.W.mg_of X G a4) b4
  have F5 := fun_mk (st := s_fraction_wheel) l5 c5 k5
  have b5 := F5.binds (ps := ["x"]) fun _ _ _ _ _ _ us hl => match us, hl with | [_], _ => rfl
  have D5 : FnD l.prog w K mg base 2 "fraction_wheel" 1 fn_fraction_wheel := fnD_of F5 (ok_fraction_wheel ⟨M, D4⟩ F5) (PySem.W.mg_of X G a5) b5
  have F6 := fun_mk (st := s_number_of_digits) l6 c6 k6
  have b6 := F6.binds (ps := ["digits"]) fun _ _ _ _ _ _ us hl => match us, hl with | [_], _ => rfl
  have D6 : FnD l.prog w K mg base 1 "number_of_digits" 1 fn_number_of_digits := fnD_of F6 (ok_number_of_digits ⟨M⟩ F6) (PySem.W.mg_of X G a6) b6
  have F7 := fun_mk (st := s_fraction_by_wheel) l7 c7 k7
  have b7 := F7.binds (ps := ["ahead", "again"]) fun _ _ _ _ _ _ us hl => match us, hl with | [_, _], _ => rfl
  have D7 : FnD l.prog w K mg base 2 "fraction_by_wheel" 2 fn_fraction_by_wheel := fnD_of F7 (ok_fraction_by_wheel ⟨M, D0, D1, D6⟩ F7) (PySem.W.mg_of X G a7) b7
  have F8 := fun_mk (st := s_sum_of_two) l8 c8 k8
  have b8 := F8.binds (ps := ["one", "other"]) fun _ _ _ _ _ _ us hl => match us, hl with | [_, _], _ => rfl
  have D8 : FnD l.prog w K mg base 2 "sum_of_two" 2 fn_sum_of_two := fnD_of F8 (ok_sum_of_two ⟨M, D0⟩ F8) (PySem.W.mg_of X G a8) b8
  have F9 := fun_mk (st := s_toss_sum) l9 c9 k9
  have b9 := F9.binds (ps := ["x"]) fun _ _ _ _ _ _ us hl => match us, hl with | [_], _ => rfl
  have D9 : FnD l.prog w K mg base 3 "toss_sum" 1 fn_toss_sum := fnD_of F9 (ok_toss_sum ⟨M, D4, D8⟩ F9) (PySem.W.mg_of X G a9) b9
  have F10 := fun_mk (st := s_least_mean) l10 c10 k10
  have b10 := F10.binds (ps := ["share"]) fun _ _ _ _ _ _ us hl => match us, hl with | [_], _ => rfl
  have D10 : FnD l.prog w K mg base 4 "least_mean" 1 fn_least_mean := fnD_of F10 (ok_least_mean ⟨M, D8, D9⟩ F10) (PySem.W.mg_of X G a10) b10
  have F13 := fun_mk (st := s_law_cut) l13 c13 k13
  have b13 := F13.binds (ps := ["p", "q"]) fun _ _ _ _ _ _ us hl => match us, hl with | [_, _], _ => rfl
  have D13 : FnD l.prog w K mg base 1 "_law_cut" 2 fn_law_cut := fnD_of F13 (ok_law_cut ⟨M⟩ F13) (PySem.W.mg_of X G a13) b13
  have F14 := fun_mk (st := s_law_sum) l14 c14 k14
  have b14 := F14.binds (ps := ["some"]) fun _ _ _ _ _ _ us hl => match us, hl with | [_], _ => rfl
  have D14 : FnD l.prog w K mg base 2 "_law_sum" 1 fn_law_sum := fnD_of F14 (ok_law_sum ⟨M, D13⟩ F14) (PySem.W.mg_of X G a14) b14
  have F15 := fun_mk (st := s_law_mul) l15 c15 k15
  have b15 := F15.binds (ps := ["x", "y"]) fun _ _ _ _ _ _ us hl => match us, hl with | [_, _], _ => rfl
  have D15 : FnD l.prog w K mg base 2 "_law_mul" 2 fn_law_mul := fnD_of F15 (ok_law_mul ⟨M, D13⟩ F15) (PySem.W.mg_of X G a15) b15
  have F16 := fun_mk (st := s_law_rest) l16 c16 k16
  have b16 := F16.binds (ps := ["x", "j"]) fun _ _ _ _ _ _ us hl => match us, hl with | [_, _], _ => rfl
  have D16 : FnD l.prog w K mg base 2 "_law_rest" 2 fn_law_rest := fnD_of F16 (ok_law_rest ⟨M, D13⟩ F16) (PySem.W.mg_of X G a16) b16
  have F17 := fun_mk (st := s_law_again) l17 c17 k17
  have b17 := F17.binds (ps := ["b"]) fun _ _ _ _ _ _ us hl => match us, hl with | [_], _ => rfl
  have D17 : FnD l.prog w K mg base 1 "_law_again" 1 fn_law_again := fnD_of F17 (ok_law_again ⟨M⟩ F17) (PySem.W.mg_of X G a17) b17
  exact ok_law ⟨M, D2, D3, D5, D7, D9, D10, D12, D13, D14, D15, D16, D17⟩ O11 (PySem.W.mg_of X G a11) F11.kp b11 (fun_mk (st := s_law) l18 c18 k18) law_true
end LawK37
open PySem PySem.W PyProof.Rows in
set_option maxRecDepth 100000 in
set_option maxHeartbeats 0 in
theorem PySem.Challenge.cw_chancesmet_k37_whole_digits_moved_and_tu_holds : PySem.Challenge.rw_chancesmet_k37_whole_digits_moved_and_tu.Holds := by
  w_on; o_law; k_head; (case hw => w_witness2)
  k_fill
  refine L2.walk_of (l := PySem.Challenge.rw_chancesmet_k37_whole_digits_moved_and_tu) (n := 63) (k := 5) (x := "script") (CX := fun _ => L2.CX0) (sp := fun w => FD.spLaw _) rfl (by decide) rfl ⟨rfl, by decide, by decide⟩ (fun w h Y => PySem.W.kIn_of Y) ?F (fun _ _ a ns hl _ hS => ⟨a, ns, rfl, hS, hl, fun _ => rfl⟩) (fun _ _ _ _ _ h => h)
  case F =>
    intro w mg fa h KX G hmg
    refine' LawK37.all_mk KX G hmg ?a0 ?l0 ?c0 ?k0 ?a1 ?l1 ?c1 ?k1 ?a2 ?l2 ?c2 ?k2 ?a3 ?l3 ?c3 ?k3 ?a4 ?l4 ?c4 ?k4 ?a5 ?l5 ?c5 ?k5 ?a6 ?l6 ?c6 ?k6 ?a7 ?l7 ?c7 ?k7 ?a8 ?l8 ?c8 ?k8 ?a9 ?l9 ?c9 ?k9 ?a10 ?l10 ?c10 ?k10 ?a11 ?l11 ?c11 ?k11 ?a12 ?l12 ?c12 ?k12 ?a13 ?l13 ?c13 ?k13 ?a14 ?l14 ?c14 ?k14 ?a15 ?l15 ?c15 ?k15 ?a16 ?l16 ?c16 ?k16 ?a17 ?l17 ?c17 ?k17 ?a18 ?l18 ?c18 ?k18 ?z_abs ?z_int ?z_len ?z_min ?z_range ?z_tuple ?z_gcd
    (case a0 => k_is)
    (case l0 => k_is)
    (case c0 => k_is)
    (case k0 => k_is)
    (case a1 => k_is)
    (case l1 => k_is)
    (case c1 => k_is)
    (case k1 => k_is)
    (case a2 => k_is)
    (case l2 => k_is)
    (case c2 => k_is)
    (case k2 => k_is)
    (case a3 => k_is)
    (case l3 => k_is)
    (case c3 => k_is)
    (case k3 => k_is)
    (case a4 => k_is)
    (case l4 => k_is)
    (case c4 => k_is)
    (case k4 => k_is)
    (case a5 => k_is)
    (case l5 => k_is)
    (case c5 => k_is)
    (case k5 => k_is)
    (case a6 => k_is)
    (case l6 => k_is)
    (case c6 => k_is)
    (case k6 => k_is)
    (case a7 => k_is)
    (case l7 => k_is)
    (case c7 => k_is)
    (case k7 => k_is)
    (case a8 => k_is)
    (case l8 => k_is)
    (case c8 => k_is)
    (case k8 => k_is)
    (case a9 => k_is)
    (case l9 => k_is)
    (case c9 => k_is)
    (case k9 => k_is)
    (case a10 => k_is)
    (case l10 => k_is)
    (case c10 => k_is)
    (case k10 => k_is)
    (case a11 => k_is)
    (case l11 => k_is)
    (case c11 => k_is)
    (case k11 => k_is)
    (case a12 => k_is)
    (case l12 => k_is)
    (case c12 => k_is)
    (case k12 => k_is)
    (case a13 => k_is)
    (case l13 => k_is)
    (case c13 => k_is)
    (case k13 => k_is)
    (case a14 => k_is)
    (case l14 => k_is)
    (case c14 => k_is)
    (case k14 => k_is)
    (case a15 => k_is)
    (case l15 => k_is)
    (case c15 => k_is)
    (case k15 => k_is)
    (case a16 => k_is)
    (case l16 => k_is)
    (case c16 => k_is)
    (case k16 => k_is)
    (case a17 => k_is)
    (case l17 => k_is)
    (case c17 => k_is)
    (case k17 => k_is)
    (case a18 => k_is)
    (case l18 => k_is)
    (case c18 => k_is)
    (case k18 => k_is)
    (case z_abs => k_is)
    (case z_int => k_is)
    (case z_len => k_is)
    (case z_min => k_is)
    (case z_range => k_is)
    (case z_tuple => k_is)
    (case z_gcd => k_is)

