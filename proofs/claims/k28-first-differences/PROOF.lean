import PyProof.Rows.All
import HandS.ForMost
import HandS.ForExc
import HandS.ExcIs
import HandS.TryMany
import KE.KDictKeyed
import HandS.More
import HandS.Deep
import HandS.IsInst
import HandS.Text
import HandS.TupAny
import HandS.TupLen
import HandS.Rev
import HandS.Zip
import HandS.RevRange
import KE.KDictDisplayH
import PyProof.Rows.TupDisplay
import PySem.Challenge.RW_doppelganger_k28_first_differences
set_option Elab.async false
set_option linter.all false
set_option maxRecDepth 100000
/-! Mn: a small deterministic machine of values over a heap of its own, and what it has to do with the hand layer's readings. -/
namespace Mn
open PySem PySem.Spec PyProof.Rows L2

/-- values: tuples stand as trees, lists, dicts and instances by their number in the small heap; ro: a list that nobody changes -/
inductive Val where
  | non | bl (b : Bool) | int (i : Int) | str (s : List Nat) | tup (vs : List Val) | loc (l : Nat) | ro (vs : List Val) | exc (c : Nat)
deriving Inhabited
inductive HObj where
  | lst (xs : List Val)
  | dN (kvs : List (Val × Val))
  | dK (kvs : List (Val × Val))
  | ins (c : Nat) (fs : List (Option Val))
deriving Inhabited
abbrev Hm := List HObj
abbrev LS := List (Option Val)
inductive R (α : Type) where
  | ok (a : α) (h : Hm) | xn (c : Nat) (h : Hm) | bad
inductive RS where
  | nx (s : LS) (h : Hm) | rt (v : Val) (h : Hm) | bk (s : LS) (h : Hm) | ct (s : LS) (h : Hm) | xn (c : Nat) (s : LS) (h : Hm) | bad
abbrev ME := LS → Hm → R Val
abbrev MA := LS → Hm → R (List Val)
abbrev MT := LS → Hm → R Bool
abbrev MS := LS → Hm → RS
abbrev MF := List Val → Hm → R Val

/-- the classes of the text: an exception's class; an instance's class with its fields' names -/
structure Tab where
  exc : Nat → Option Addr
  cls : Nat → Option (Addr × List Str)

/-- a list that nobody changes -/
def RoL (K : PySem.W.Frag) (H : Hp) (a : Addr) (xs : List V) : Prop := (∃ o, H a = some (.frz o (.lst xs))) ∨
  ∃ (o : Obj) (its : Array Value) (n : Nat), K.lookup a = some o ∧ o.cls = .type "list" ∧ o.dict = none ∧ o.data = .seq its n ∧ its.size ≤ sizeLine ∧ Vals xs its.toList
theorem RoL.sq {K : PySem.W.Frag} {H : Hp} {a : Addr} {xs : List V} (h : RoL K H a xs) : SqL K H a xs := h.elim (fun h => .inl (.inr h)) .inr
theorem RoL.of {K : PySem.W.Frag} {H : Hp} {a : Addr} {xs : List V} (h : SqL K H a xs) (n : H a ≠ some (.lst xs)) : RoL K H a xs := h.elim (fun h => h.elim (fun h => absurd h n) .inl) .inr
theorem RoL.keep {K : PySem.W.Frag} {H H' : Hp} {a : Addr} {xs : List V} (k : ∀ a o u, H a = some (.frz o u) → H' a = some (.frz o u)) (h : RoL K H a xs) : RoL K H' a xs := h.elim (fun ⟨o, h⟩ => .inl ⟨o, k _ _ _ h⟩) .inr
/-- v is what x is -/
inductive Rv (K : PySem.W.Frag) (ρ : List Addr) (H : Hp) : Val → V → Prop where
  | non : Rv K ρ H .non .non
  | bl (b : Bool) : Rv K ρ H (.bl b) (.bl b)
  | int (i : Int) : Rv K ρ H (.int i) (.int i)
  | str (x : Str) : Rv K ρ H (.str x.cps.toList) (.str x)
  | loc {l : Nat} {a : Addr} (h : ρ[l]? = some a) : Rv K ρ H (.loc l) (.ref a)
  | tup {vs : List Val} {xs : List V} {a : Addr} (h : SqT K H a xs) (hl : vs.length = xs.length) (hr : ∀ (i : Nat) (v : Val) (x : V), vs[i]? = some v → xs[i]? = some x → Rv K ρ H v x) : Rv K ρ H (.tup vs) (.ref a)
  | exc (a : Addr) : Rv K ρ H (.exc a) (.ref a)
  | ro {vs : List Val} {xs : List V} {a : Addr} (h : RoL K H a xs) (hl : vs.length = xs.length) (hr : ∀ (i : Nat) (v : Val) (x : V), vs[i]? = some v → xs[i]? = some x → Rv K ρ H v x) : Rv K ρ H (.ro vs) (.ref a)

def Rl (K : PySem.W.Frag) (ρ : List Addr) (H : Hp) (vs : List Val) (xs : List V) : Prop := vs.length = xs.length ∧ ∀ (i : Nat) (v : Val) (x : V), vs[i]? = some v → xs[i]? = some x → Rv K ρ H v x

structure Step (ρ : List Addr) (H : Hp) (ρ' : List Addr) (H' : Hp) : Prop where
  ext : ∃ ex, ρ' = ρ ++ ex ∧ ∀ a ∈ ex, H a = none
  frame : ∀ a o, H a = some o → a ∉ ρ → H' a = some o
  tups : ∀ a xs, H a = some (.tup xs) → H' a = some (.tup xs)
  frzs : ∀ a o u, H a = some (.frz o u) → H' a = some (.frz o u)
  there : ∀ a o, H a = some o → ∃ o', H' a = some o'

section
variable {K : PySem.W.Frag} {ρ ρ' ρ2 : List Addr} {H H' H2 : Hp}
theorem Step.refl : Step ρ H ρ H := ⟨⟨[], by simp, by simp⟩, fun _ _ h _ => h, fun _ _ h => h, fun _ _ _ h => h, fun _ o h => ⟨o, h⟩⟩
theorem Step.none_of (s : Step ρ H ρ' H') {a : Addr} (h : H' a = none) : H a = none := by
  cases e : H a with
  | none => rfl
  | some o =>
    obtain ⟨o', q⟩ := s.there a o e
    rw [h] at q; cases q
theorem Step.trans (s : Step ρ H ρ' H') (t : Step ρ' H' ρ2 H2) : Step ρ H ρ2 H2 := by
  obtain ⟨ex, e1, n1⟩ := s.ext
  obtain ⟨ex2, e2, n2⟩ := t.ext
  refine ⟨⟨ex ++ ex2, by rw [e2, e1, List.append_assoc], fun a ha => ?_⟩, fun a o h n => ?_, fun a xs h => t.tups _ _ (s.tups _ _ h), fun a o u h => t.frzs _ _ _ (s.frzs _ _ _ h), fun a o h => ?_⟩
  · rcases List.mem_append.mp ha with h | h
    · exact n1 a h
    · exact s.none_of (n2 a h)
  · refine t.frame a o (s.frame a o h n) fun hm => ?_
    rw [e1] at hm
    rcases List.mem_append.mp hm with z | z
    · exact n z
    · rw [n1 a z] at h; cases h
  · obtain ⟨o', h'⟩ := s.there a o h
    exact t.there a o' h'
theorem Step.get (s : Step ρ H ρ' H') {l : Nat} {a : Addr} (h : ρ[l]? = some a) : ρ'[l]? = some a := by
  obtain ⟨ex, e, _⟩ := s.ext
  rw [e, List.getElem?_append_left (List.getElem?_eq_some_iff.mp h).1]; exact h
theorem Step.sqT (s : Step ρ H ρ' H') {a : Addr} {xs : List V} (h : SqT K H a xs) : SqT K H' a xs := by
  rcases h with (h | ⟨o, h⟩) | h
  · exact .inl (.inl (s.tups _ _ h))
  · exact .inl (.inr ⟨o, s.frzs _ _ _ h⟩)
  · exact .inr h
/-- what a related value leans on -/
structure Wk (ρ : List Addr) (H : Hp) (ρ' : List Addr) (H' : Hp) : Prop where
  get : ∀ (l : Nat) (a : Addr), ρ[l]? = some a → ρ'[l]? = some a
  tups : ∀ a xs, H a = some (.tup xs) → H' a = some (.tup xs)
  frzs : ∀ a o u, H a = some (.frz o u) → H' a = some (.frz o u)
theorem Step.wk (s : Step ρ H ρ' H') : Wk ρ H ρ' H' := ⟨fun _ _ h => s.get h, s.tups, s.frzs⟩
theorem Wk.sqT (s : Wk ρ H ρ' H') {a : Addr} {xs : List V} (h : SqT K H a xs) : SqT K H' a xs := by
  rcases h with (h | ⟨o, h⟩) | h
  · exact .inl (.inl (s.tups _ _ h))
  · exact .inl (.inr ⟨o, s.frzs _ _ _ h⟩)
  · exact .inr h
theorem Rv.wk (s : Wk ρ H ρ' H') {v : Val} {x : V} (r : Rv K ρ H v x) : Rv K ρ' H' v x := by
  induction r with
  | non => exact .non
  | bl b => exact .bl b
  | int i => exact .int i
  | str x => exact .str x
  | exc a => exact .exc a
  | loc h => exact .loc (s.get _ _ h)
  | tup h hl _ ih => exact .tup (s.sqT h) hl ih
  | ro h hl _ ih => exact .ro (h.keep s.frzs) hl ih
theorem Rl.wk (s : Wk ρ H ρ' H') {vs : List Val} {xs : List V} (r : Rl K ρ H vs xs) : Rl K ρ' H' vs xs := ⟨r.1, fun i v x a b => (r.2 i v x a b).wk s⟩
theorem Rv.mono (s : Step ρ H ρ' H') {v : Val} {x : V} (r : Rv K ρ H v x) : Rv K ρ' H' v x := by
  induction r with
  | non => exact .non
  | bl b => exact .bl b
  | int i => exact .int i
  | str x => exact .str x
  | exc a => exact .exc a
  | loc h => exact .loc (s.get h)
  | tup h hl _ ih => exact .tup (s.sqT h) hl ih
  | ro h hl _ ih => exact .ro (h.keep s.frzs) hl ih
theorem Rl.mono (s : Step ρ H ρ' H') {vs : List Val} {xs : List V} (r : Rl K ρ H vs xs) : Rl K ρ' H' vs xs := ⟨r.1, fun i v x a b => (r.2 i v x a b).mono s⟩
theorem Rl.nil : Rl K ρ H [] [] := ⟨rfl, fun i v x h => by simp at h⟩
theorem Rl.cons {v : Val} {x : V} {vs : List Val} {xs : List V} (r : Rv K ρ H v x) (rs : Rl K ρ H vs xs) : Rl K ρ H (v :: vs) (x :: xs) := by
  refine ⟨by simp [rs.1], fun i w y h1 h2 => ?_⟩
  cases i with
  | zero => simp at h1 h2; subst h1; subst h2; exact r
  | succ i => simp at h1 h2; exact rs.2 i w y h1 h2
theorem Rl.get {vs : List Val} {xs : List V} (r : Rl K ρ H vs xs) {i : Nat} {v : Val} (h : vs[i]? = some v) : ∃ x, xs[i]? = some x ∧ Rv K ρ H v x := by
  have hi := (List.getElem?_eq_some_iff.mp h).1
  have hx : i < xs.length := by rw [← r.1]; exact hi
  exact ⟨xs[i], List.getElem?_eq_getElem hx, r.2 i v _ h (List.getElem?_eq_getElem hx)⟩
theorem Rl.getV {vs : List Val} {xs : List V} (r : Rl K ρ H vs xs) {i : Nat} {x : V} (h : xs[i]? = some x) : ∃ v, vs[i]? = some v ∧ Rv K ρ H v x := by
  have hi := (List.getElem?_eq_some_iff.mp h).1
  have hx : i < vs.length := by rw [r.1]; exact hi
  exact ⟨vs[i], List.getElem?_eq_getElem hx, r.2 i _ x (List.getElem?_eq_getElem hx) h⟩
theorem Rl.app {vs ws : List Val} {xs ys : List V} (r : Rl K ρ H vs xs) (q : Rl K ρ H ws ys) : Rl K ρ H (vs ++ ws) (xs ++ ys) := by
  refine ⟨by simp [r.1, q.1], fun i v x h1 h2 => ?_⟩
  by_cases hi : i < vs.length
  · rw [List.getElem?_append_left hi] at h1
    rw [List.getElem?_append_left (by rw [← r.1]; exact hi)] at h2
    exact r.2 i v x h1 h2
  · rw [List.getElem?_append_right (by omega)] at h1
    rw [List.getElem?_append_right (by have := r.1; omega)] at h2
    rw [← r.1] at h2
    exact q.2 _ v x h1 h2
theorem Rl.uncons {v : Val} {vs : List Val} {xs : List V} (r : Rl K ρ H (v :: vs) xs) : ∃ x ys, xs = x :: ys ∧ Rv K ρ H v x ∧ Rl K ρ H vs ys := by
  cases xs with
  | nil => have := r.1; simp at this
  | cons x ys => exact ⟨x, ys, rfl, r.2 0 v x rfl rfl, ⟨by simpa using r.1, fun i w y a b => r.2 (i + 1) w y (by simpa using a) (by simpa using b)⟩⟩
theorem Rl.nil_of {xs : List V} (r : Rl K ρ H [] xs) : xs = [] := by
  have := r.1; cases xs with
  | nil => rfl
  | cons _ _ => simp at this
theorem Rl.one {v : Val} {xs : List V} (r : Rl K ρ H [v] xs) : ∃ x, xs = [x] ∧ Rv K ρ H v x := by
  obtain ⟨x, ys, rfl, h, q⟩ := r.uncons
  exact ⟨x, by rw [q.nil_of], h⟩
theorem Rl.two {v w : Val} {xs : List V} (r : Rl K ρ H [v, w] xs) : ∃ x y, xs = [x, y] ∧ Rv K ρ H v x ∧ Rv K ρ H w y := by
  obtain ⟨x, ys, rfl, h, q⟩ := r.uncons
  obtain ⟨y, rfl, h2⟩ := q.one
  exact ⟨x, y, rfl, h, h2⟩
theorem Rl.take {vs : List Val} {xs : List V} (r : Rl K ρ H vs xs) (n : Nat) : Rl K ρ H (vs.take n) (xs.take n) := by
  refine ⟨by simp [r.1], fun i v x h1 h2 => ?_⟩
  rw [List.getElem?_take] at h1 h2
  split at h1
  · rename_i hi
    rw [if_pos hi] at h2
    exact r.2 i v x h1 h2
  · cases h1
theorem Rl.drop {vs : List Val} {xs : List V} (r : Rl K ρ H vs xs) (n : Nat) : Rl K ρ H (vs.drop n) (xs.drop n) := by
  refine ⟨by simp [r.1], fun i v x h1 h2 => ?_⟩
  rw [List.getElem?_drop] at h1 h2
  exact r.2 _ v x h1 h2
theorem Rl.set {vs : List Val} {xs : List V} (r : Rl K ρ H vs xs) {v : Val} {x : V} (q : Rv K ρ H v x) (n : Nat) : Rl K ρ H (vs.set n v) (xs.set n x) := by
  refine ⟨by simp [r.1], fun i w y h1 h2 => ?_⟩
  rw [List.getElem?_set] at h1 h2
  by_cases e : n = i
  · subst e
    rw [if_pos rfl] at h1 h2
    split at h1
    · split at h2
      · cases h1; cases h2; exact q
      · cases h2
    · cases h1
  · rw [if_neg e] at h1 h2
    exact r.2 i w y h1 h2
theorem Rl.rev {vs : List Val} {xs : List V} (r : Rl K ρ H vs xs) : Rl K ρ H vs.reverse xs.reverse := by
  refine ⟨by simp [r.1], fun i v x h1 h2 => ?_⟩
  have hi : i < vs.length := by simpa using (List.getElem?_eq_some_iff.mp h1).1
  rw [List.getElem?_reverse hi] at h1
  rw [List.getElem?_reverse (by rw [← r.1]; exact hi), ← r.1] at h2
  exact r.2 _ v x h1 h2
theorem Rl.eraseIdx {vs : List Val} {xs : List V} (r : Rl K ρ H vs xs) (n : Nat) : Rl K ρ H (vs.eraseIdx n) (xs.eraseIdx n) := by
  refine ⟨by rw [List.length_eraseIdx, List.length_eraseIdx, r.1], fun i v x h1 h2 => ?_⟩
  rw [List.getElem?_eraseIdx] at h1 h2
  split at h1
  · rename_i hi
    rw [if_pos hi] at h2
    exact r.2 _ v x h1 h2
  · rename_i hi
    rw [if_neg hi] at h2
    exact r.2 _ v x h1 h2
end


/-! ### keys -/
/-- as a key, to this depth -/
def Val.isKeyN : Nat → Val → Bool
  | _, .non => true
  | _, .bl _ => true
  | _, .int _ => true
  | _, .str _ => true
  | n + 1, .tup vs => vs.all (Val.isKeyN n)
  | _, _ => false
/-- the key that a value is (None for a list and its like: ask isKeyN ahead) -/
def nkeyN : Nat → Val → NestedKey
  | _, .bl b => .num (if b then 1 else 0)
  | _, .int i => .num i
  | _, .str s => .text ⟨s.toArray⟩
  | n + 1, .tup vs => .tup (vs.map (nkeyN n))
  | _, _ => .none
/-- item by item -/
def all2 (f : Val → Val → Bool) : List Val → List Val → Bool
  | [], [] => true
  | v :: vs, w :: ws => f v w && all2 f vs ws
  | _, _ => false
/-- are two values the same key -/
def keqN : Nat → Val → Val → Bool
  | _, .non, .non => true
  | _, .bl a, .bl b => a == b
  | _, .int a, .int b => a == b
  | _, .bl a, .int b => (if a then 1 else 0) == b
  | _, .int a, .bl b => a == (if b then 1 else 0)
  | _, .str a, .str b => a == b
  | n + 1, .tup vs, .tup ws => all2 (keqN n) vs ws
  | _, _, _ => false
end Mn

/-! Mn1: the small heap and the hand layer's heap; the readings that a small program gives. -/
namespace Mn
open PySem PySem.Spec PyProof.Rows L2

structure Cf where
  P : Program
  w : World
  K : PySem.W.Frag
  T : Tab

def cnt (fs : List (Option Val)) : Nat := (fs.filter Option.isSome).length
/-- a key of a dict of ints and texts -/
def kOf : Val → Option Key
  | .int i => some (.inl i)
  | .str s => some (.inr ⟨s.toArray⟩)
  | _ => none
/-- a dict with tuple keys, as its object says -/
def RawD (P : Program) (w : World) (a : Addr) (es : List (NestedKey × Addr × Value)) : HO := .ext fun h =>
  ∃ (o : Obj) (ar : Array DictEntry) (ep : _), h.get? a = some o ∧ o.ExactDict ∧ o.data = .dict ar ep ∧ ar.toList = es.map (entryOfKey (nestedKind P w))

def Ro (C : Cf) (ρ : List Addr) (H : Hp) : HObj → Addr → Prop
  | .lst vs, a => ∃ xs, H a = some (.lst xs) ∧ Rl C.K ρ H vs xs
  | .dK kvs, a => ∃ ks : List (Key × V), H a = some (.dK ks) ∧ Paired (fun (p : Val × Val) (q : Key × V) => kOf p.1 = some q.1 ∧ Rv C.K ρ H p.2 q.2) kvs ks
  | .dN kvs, a => ∃ es : List (NestedKey × Addr × Value), H a = some (RawD C.P C.w a es) ∧ (a == sysModules) = false ∧ (es.map (·.1)).Nodup ∧
      Paired (fun (p : Val × Val) (q : NestedKey × Addr × Value) => p.1.isKeyN 8 = true ∧ nkeyN 8 p.1 = q.1 ∧ Rv C.K ρ H p.1 (.ref q.2.1) ∧ ∃ x, RelV x q.2.2 ∧ Rv C.K ρ H p.2 x) kvs es
  | .ins c fs, a => ∃ (D dx : Addr) (FN : List Str) (gs : List (Str × V)), C.T.cls c = some (D, FN) ∧ H a = some (.ins D dx gs) ∧ fs.length = FN.length ∧ FN.Nodup ∧ FN.length ≤ 100 ∧ gs.length = cnt fs ∧
      (∀ f, f ∉ FN → gs.lookup f = none) ∧ ∀ (i : Nat) (f : Str), FN[i]? = some f → match fs[i]? with
        | some (some v) => ∃ x, gs.lookup f = some x ∧ Rv C.K ρ H v x
        | _ => gs.lookup f = none

structure Rep (C : Cf) (ρ : List Addr) (μ : Hm) (H : Hp) : Prop where
  len : ρ.length = μ.length
  nd : ρ.Nodup
  at' : ∀ (l : Nat) (o : HObj), μ[l]? = some o → ∃ a, ρ[l]? = some a ∧ Ro C ρ H o a

def Rs (K : PySem.W.Frag) (ρ : List Addr) (H : Hp) (s : LS) (σ : L2.St) : Prop := s.length = σ.length ∧ ∀ (i : Nat) (v : Val), s[i]? = some (some v) → ∃ x, σ[i]? = some (some x) ∧ Rv K ρ H v x

section
variable {C : Cf} {ρ ρ' : List Addr} {H H' : Hp} {μ μ' : Hm} {s : LS} {σ : L2.St}
theorem Rs.mono (st : Step ρ H ρ' H') (r : Rs C.K ρ H s σ) : Rs C.K ρ' H' s σ := ⟨r.1, fun i v h => let ⟨x, e, q⟩ := r.2 i v h; ⟨x, e, q.mono st⟩⟩
theorem Rs.set (r : Rs C.K ρ H s σ) {i : Nat} {v : Val} {x : V} (q : Rv C.K ρ H v x) : Rs C.K ρ H (s.set i (some v)) (σ.set i (some x)) := by
  refine ⟨by simp [r.1], fun j w h => ?_⟩
  rw [List.getElem?_set] at h
  rw [List.getElem?_set]
  by_cases e : i = j
  · subst e
    rw [if_pos rfl] at h ⊢
    split at h
    · rename_i hl
      rw [if_pos (by rw [← r.1]; exact hl)]
      cases h
      exact ⟨x, rfl, q⟩
    · cases h
  · rw [if_neg e] at h ⊢
    exact r.2 j w h
theorem Rs.start {vs : List Val} {xs : List V} (N : List Str) (r : Rl C.K ρ H vs xs) : Rs C.K ρ H (vs.map some ++ List.replicate (N.length - vs.length) none) (start N xs) := by
  unfold L2.start
  refine ⟨by simp [r.1], fun i v h => ?_⟩
  by_cases hi : i < vs.length
  · rw [List.getElem?_append_left (by simpa using hi), List.getElem?_map] at h
    cases e : vs[i]? with
    | none => rw [e] at h; cases h
    | some w =>
      rw [e] at h
      cases h
      obtain ⟨x, hx, q⟩ := r.get e
      refine ⟨x, ?_, q⟩
      rw [List.getElem?_append_left (by simpa [← r.1] using hi), List.getElem?_map, hx]; rfl
  · rw [List.getElem?_append_right (by simpa using hi), List.getElem?_replicate] at h
    split at h <;> cases h
theorem Ro.some {o : HObj} {a : Addr} (r : Ro C ρ H o a) : ∃ u, H a = some u ∧ (∀ xs, u ≠ .tup xs) ∧ (∀ o x, u ≠ .frz o x) := by
  cases o with
  | lst vs => obtain ⟨_, h, _⟩ := r; exact ⟨_, h, (fun _ z => nomatch z), (fun _ _ z => nomatch z)⟩
  | dK kvs => obtain ⟨_, h, _⟩ := r; exact ⟨_, h, (fun _ z => nomatch z), (fun _ _ z => nomatch z)⟩
  | dN kvs => obtain ⟨_, h, _⟩ := r; exact ⟨_, h, (fun _ z => nomatch z), (fun _ _ z => nomatch z)⟩
  | ins c fs => obtain ⟨_, _, _, _, _, h, _⟩ := r; exact ⟨_, h, (fun _ z => nomatch z), (fun _ _ z => nomatch z)⟩
/-- what an object is stays, where its own place stays -/
theorem Ro.mono {o : HObj} {a : Addr} (st : Step ρ H ρ' H') (ha : H' a = H a) (r : Ro C ρ H o a) : Ro C ρ' H' o a := by
  cases o with
  | lst vs => obtain ⟨xs, h, q⟩ := r; exact ⟨xs, ha.trans h, q.mono st⟩
  | dK kvs => obtain ⟨ks, h, q⟩ := r; exact ⟨ks, ha.trans h, Paired.mapP q fun _ _ ⟨x, y⟩ => ⟨x, y.mono st⟩⟩
  | dN kvs =>
    obtain ⟨es, h, hs, nd, q⟩ := r
    exact ⟨es, ha.trans h, hs, nd, Paired.mapP q fun _ _ ⟨x1, x2, x3, x, x4, x5⟩ => ⟨x1, x2, x3.mono st, x, x4, x5.mono st⟩⟩
  | ins c fs =>
    obtain ⟨D, dx, FN, gs, h1, h2, h3, h4, h5, h6, h7, h8⟩ := r
    refine ⟨D, dx, FN, gs, h1, ha.trans h2, h3, h4, h5, h6, h7, fun i f e => ?_⟩
    have z := h8 i f e
    split
    · rename_i v hv
      rw [hv] at z
      obtain ⟨x, e1, e2⟩ := z
      exact ⟨x, e1, e2.mono st⟩
    · rename_i hv
      split at z
      · rename_i v hv2
        exact absurd hv2 (hv v)
      · exact z
theorem Ro.wk {o : HObj} {a : Addr} (st : Wk ρ H ρ' H') (ha : H' a = H a) (r : Ro C ρ H o a) : Ro C ρ' H' o a := by
  cases o with
  | lst vs => obtain ⟨xs, h, q⟩ := r; exact ⟨xs, ha.trans h, q.wk st⟩
  | dK kvs => obtain ⟨ks, h, q⟩ := r; exact ⟨ks, ha.trans h, Paired.mapP q fun _ _ ⟨x, y⟩ => ⟨x, y.wk st⟩⟩
  | dN kvs =>
    obtain ⟨es, h, hs, nd, q⟩ := r
    exact ⟨es, ha.trans h, hs, nd, Paired.mapP q fun _ _ ⟨x1, x2, x3, x, x4, x5⟩ => ⟨x1, x2, x3.wk st, x, x4, x5.wk st⟩⟩
  | ins c fs =>
    obtain ⟨D, dx, FN, gs, h1, h2, h3, h4, h5, h6, h7, h8⟩ := r
    refine ⟨D, dx, FN, gs, h1, ha.trans h2, h3, h4, h5, h6, h7, fun i f e => ?_⟩
    have z := h8 i f e
    split
    · rename_i v hv
      rw [hv] at z
      obtain ⟨x, e1, e2⟩ := z
      exact ⟨x, e1, e2.wk st⟩
    · rename_i hv
      split at z
      · rename_i v hv2
        exact absurd hv2 (hv v)
      · exact z
theorem Rep.get (R : Rep C ρ μ H) {l : Nat} {o : HObj} (h : μ[l]? = some o) : ∃ a, ρ[l]? = some a ∧ Ro C ρ H o a := R.at' l o h
theorem Rep.fresh (R : Rep C ρ μ H) {p : Addr} (h : H p = none) : p ∉ ρ := fun hm => by
  obtain ⟨l, hl, e⟩ := List.getElem_of_mem hm
  have hl' : l < μ.length := by rw [← R.len]; exact hl
  obtain ⟨a, ha, r⟩ := R.at' l _ (List.getElem?_eq_getElem hl')
  rw [List.getElem?_eq_getElem hl] at ha
  cases ha
  obtain ⟨u, hu, _⟩ := r.some
  rw [e, h] at hu; cases hu
theorem Rep.notTup (R : Rep C ρ μ H) {a : Addr} (hm : a ∈ ρ) : (∀ xs, H a ≠ some (.tup xs)) ∧ ∀ o x, H a ≠ some (.frz o x) := by
  obtain ⟨l, hl, e⟩ := List.getElem_of_mem hm
  have hl' : l < μ.length := by rw [← R.len]; exact hl
  obtain ⟨b, hb, r⟩ := R.at' l _ (List.getElem?_eq_getElem hl')
  rw [List.getElem?_eq_getElem hl] at hb
  cases hb
  obtain ⟨u, hu, h1, h2⟩ := r.some
  rw [e] at hu
  exact ⟨fun xs z => h1 xs (Option.some.inj (hu.symm.trans z)), fun o x z => h2 o x (Option.some.inj (hu.symm.trans z))⟩
theorem Step.laid {p : Addr} {u : HO} (h : H p = none) (ex : List Addr) (he : ∀ a ∈ ex, a = p) : Step ρ H (ρ ++ ex) (upd H p u) :=
  ⟨⟨ex, rfl, fun a ha => by rw [he a ha]; exact h⟩, fun a o e _ => by rw [upd_ne (ne_of_none e h)]; exact e, fun a xs e => by rw [upd_ne (ne_of_none e h)]; exact e, fun a o v e => by rw [upd_ne (ne_of_none e h)]; exact e, fun a o e => ⟨o, by rw [upd_ne (ne_of_none e h)]; exact e⟩⟩
theorem Step.laid0 {p : Addr} {u : HO} (h : H p = none) : Step ρ H ρ (upd H p u) := by
  have := Step.laid (ρ := ρ) (u := u) h [] (by simp)
  rwa [List.append_nil] at this
theorem Step.wrote (R : Rep C ρ μ H) {a : Addr} {u : HO} (hm : a ∈ ρ) : Step ρ H ρ (upd H a u) := by
  refine ⟨⟨[], by simp, by simp⟩, fun b o e n => ?_, fun b xs e => ?_, fun b o v e => ?_, fun b o e => ?_⟩
  · have h : b ≠ a := fun z => n (by rw [z]; exact hm)
    rw [upd_ne h]; exact e
  · have h : b ≠ a := fun z => (R.notTup hm).1 xs (by rw [← z]; exact e)
    rw [upd_ne h]; exact e
  · have h : b ≠ a := fun z => (R.notTup hm).2 o v (by rw [← z]; exact e)
    rw [upd_ne h]; exact e
  · by_cases h : b = a
    · subst h; exact ⟨u, upd_same⟩
    · exact ⟨o, by rw [upd_ne h]; exact e⟩
/-- a new thing that the small heap does not know (a tuple) -/
theorem Rep.side (R : Rep C ρ μ H) {p : Addr} {u : HO} (h : H p = none) : Rep C ρ μ (upd H p u) :=
  ⟨R.len, R.nd, fun l o e => by
    obtain ⟨a, ha, r⟩ := R.at' l o e
    obtain ⟨v, hv, _⟩ := r.some
    exact ⟨a, ha, r.mono (Step.laid0 h) (upd_ne (ne_of_none hv h))⟩⟩
/-- a new object -/
theorem Rep.new (R : Rep C ρ μ H) {p : Addr} {u : HO} {o : HObj} (h : H p = none) (new : Ro C (ρ ++ [p]) (upd H p u) o p) : Rep C (ρ ++ [p]) (μ ++ [o]) (upd H p u) := by
  refine ⟨by simp [R.len], ?_, fun l q e => ?_⟩
  · rw [List.nodup_append]
    refine ⟨R.nd, by simp, fun x hx y hy => ?_⟩
    have : y = p := by simpa using hy
    subst this
    intro z
    subst z
    exact R.fresh h hx
  · by_cases hl : l < μ.length
    · rw [List.getElem?_append_left hl] at e
      obtain ⟨a, ha, r⟩ := R.at' l q e
      obtain ⟨v, hv, _⟩ := r.some
      refine ⟨a, ?_, r.mono (Step.laid h [p] (by simp)) (upd_ne (ne_of_none hv h))⟩
      rw [List.getElem?_append_left (by rw [R.len]; exact hl)]; exact ha
    · rw [List.getElem?_append_right (by omega)] at e
      have hz : l - μ.length = 0 := by
        by_cases z : l - μ.length = 0
        · exact z
        · rw [List.getElem?_eq_none (by simp; omega)] at e; cases e
      rw [hz] at e
      cases e
      have : l = ρ.length := by have := R.len; omega
      refine ⟨p, ?_, new⟩
      rw [this, List.getElem?_append_right (Nat.le_refl _)]; simp
/-- what stands aside is changed -/
theorem Wk.aside {d : Addr} {u : HO} (ht : ∀ xs, H d ≠ some (.tup xs)) (hf : ∀ o x, H d ≠ some (.frz o x)) : Wk ρ H ρ (upd H d u) :=
  ⟨fun _ _ h => h, fun a xs e => by
    have h : a ≠ d := fun z => ht xs (by rw [← z]; exact e)
    rw [upd_ne h]; exact e, fun a o x e => by
    have h : a ≠ d := fun z => hf o x (by rw [← z]; exact e)
    rw [upd_ne h]; exact e⟩
theorem Rep.aside (R : Rep C ρ μ H) {d : Addr} {u : HO} (hd : d ∉ ρ) (ht : ∀ xs, H d ≠ some (.tup xs)) (hf : ∀ o x, H d ≠ some (.frz o x)) : Rep C ρ μ (upd H d u) :=
  ⟨R.len, R.nd, fun l o e => by
    obtain ⟨a, ha, r⟩ := R.at' l o e
    exact ⟨a, ha, r.wk (Wk.aside ht hf) (upd_ne fun z => hd (by rw [← z]; exact List.mem_of_getElem? ha))⟩⟩
theorem Wk.more {ex : List Addr} : Wk ρ H (ρ ++ ex) H := ⟨fun l a h => by rw [List.getElem?_append_left (List.getElem?_eq_some_iff.mp h).1]; exact h, fun _ _ h => h, fun _ _ _ h => h⟩
/-- what stands aside is taken in -/
theorem Rep.adopt (R : Rep C ρ μ H) {d : Addr} {o : HObj} (hd : d ∉ ρ) (r : Ro C (ρ ++ [d]) H o d) : Rep C (ρ ++ [d]) (μ ++ [o]) H := by
  refine ⟨by simp [R.len], ?_, fun l q e => ?_⟩
  · rw [List.nodup_append]
    refine ⟨R.nd, by simp, fun x hx y hy => ?_⟩
    have : y = d := by simpa using hy
    subst this
    intro z
    subst z
    exact hd hx
  · by_cases hl : l < μ.length
    · rw [List.getElem?_append_left hl] at e
      obtain ⟨a, ha, r'⟩ := R.at' l q e
      have w : Wk ρ H (ρ ++ [d]) H := Wk.more
      exact ⟨a, w.get l a ha, r'.wk w rfl⟩
    · rw [List.getElem?_append_right (by omega)] at e
      have hz : l - μ.length = 0 := by
        by_cases z : l - μ.length = 0
        · exact z
        · rw [List.getElem?_eq_none (by simp; omega)] at e; cases e
      rw [hz] at e
      cases e
      have : l = ρ.length := by have := R.len; omega
      refine ⟨d, ?_, r⟩
      rw [this, List.getElem?_append_right (Nat.le_refl _)]; simp
/-- an object is changed -/
theorem Rep.write (R : Rep C ρ μ H) {l : Nat} {a : Addr} {u : HO} {o : HObj} (ha : ρ[l]? = some a) (new : Ro C ρ (upd H a u) o a) : Rep C ρ (μ.set l o) (upd H a u) := by
  have hm : a ∈ ρ := List.mem_of_getElem? ha
  refine ⟨by simp [R.len], R.nd, fun k q e => ?_⟩
  rw [List.getElem?_set] at e
  by_cases hk : l = k
  · subst hk
    rw [if_pos rfl] at e
    split at e
    · cases e
      exact ⟨a, ha, new⟩
    · cases e
  · rw [if_neg hk] at e
    obtain ⟨b, hb, r⟩ := R.at' k q e
    refine ⟨b, hb, r.mono (Step.wrote R hm) (upd_ne fun z => hk ?_)⟩
    subst z
    exact nd_ix R.nd ha hb
end

/-! ### what a small run means for a reading -/
section
variable (C : Cf)
def post {α β : Type} (Rr : List Addr → Hp → α → β → Prop) (W : XK) (ρ : List Addr) (H : Hp) (r : R α) (Q : β → Hp → Prop) : Prop := match r with
  | .ok a μ' => ∀ ρ' H' x, Step ρ H ρ' H' → Rep C ρ' μ' H' → Rr ρ' H' a x → Q x H'
  | .xn c μ' => ∀ ρ' H', Step ρ H ρ' H' → Rep C ρ' μ' H' → ∃ D, C.T.exc c = some D ∧ W (.ref D) none H'
  | .bad => False
abbrev RrV : List Addr → Hp → Val → V → Prop := fun ρ H v x => Rv C.K ρ H v x
abbrev RrL : List Addr → Hp → List Val → List V → Prop := fun ρ H v x => Rl C.K ρ H v x
abbrev RrB : List Addr → Hp → Bool → Bool → Prop := fun _ _ v x => v = x
def tE (W : WX) (m : ME) : TE := fun σ H Q => ∃ ρ μ s, Rep C ρ μ H ∧ Rs C.K ρ H s σ ∧ post C (RrV C) (WE W σ) ρ H (m s μ) Q
def tA (W : WX) (m : MA) : TA := fun σ H Q => ∃ ρ μ s, Rep C ρ μ H ∧ Rs C.K ρ H s σ ∧ post C (RrL C) (WE W σ) ρ H (m s μ) Q
def tT (W : WX) (m : MT) : TT := fun σ H Q => ∃ ρ μ s, Rep C ρ μ H ∧ Rs C.K ρ H s σ ∧ post C RrB (WE W σ) ρ H (m s μ) Q
def postS (W : WX) (ρ : List Addr) (H : Hp) (r : RS) (D : Ends) : Prop := match r with
  | .nx s' μ' => ∀ ρ' H' σ', Step ρ H ρ' H' → Rep C ρ' μ' H' → Rs C.K ρ' H' s' σ' → D.nx σ' H'
  | .rt v μ' => ∀ ρ' H' x, Step ρ H ρ' H' → Rep C ρ' μ' H' → Rv C.K ρ' H' v x → D.rt x H'
  | .bk s' μ' => ∀ ρ' H' σ', Step ρ H ρ' H' → Rep C ρ' μ' H' → Rs C.K ρ' H' s' σ' → D.bk σ' H'
  | .ct s' μ' => ∀ ρ' H' σ', Step ρ H ρ' H' → Rep C ρ' μ' H' → Rs C.K ρ' H' s' σ' → D.ct σ' H'
  | .xn c s' μ' => ∀ ρ' H' σ', Step ρ H ρ' H' → Rep C ρ' μ' H' → Rs C.K ρ' H' s' σ' → ∃ E, C.T.exc c = some E ∧ W (.ref E) none σ' H'
  | .bad => False
def tS (W : WX) (m : MS) : TS := fun D σ H => ∃ ρ μ s, Rep C ρ μ H ∧ Rs C.K ρ H s σ ∧ postS C W ρ H (m s μ) D
end
section
variable {C : Cf} {α β : Type} {Rr : List Addr → Hp → α → β → Prop} {W : XK} {ρ ρ' : List Addr} {H H' : Hp} {r : R α} {Q : β → Hp → Prop}
theorem post.shift (st : Step ρ H ρ' H') (h : post C Rr W ρ H r Q) : post C Rr W ρ' H' r Q := by
  cases r with
  | ok a μ' => exact fun ρ2 H2 x st2 R q => h ρ2 H2 x (st.trans st2) R q
  | xn c μ' => exact fun ρ2 H2 st2 R => h ρ2 H2 (st.trans st2) R
  | bad => exact h
theorem postS.shift {W : WX} {r : RS} {D : Ends} (st : Step ρ H ρ' H') (h : postS C W ρ H r D) : postS C W ρ' H' r D := by
  cases r with
  | nx s m => exact fun ρ2 H2 x st2 R q => h ρ2 H2 x (st.trans st2) R q
  | rt s m => exact fun ρ2 H2 x st2 R q => h ρ2 H2 x (st.trans st2) R q
  | bk s m => exact fun ρ2 H2 x st2 R q => h ρ2 H2 x (st.trans st2) R q
  | ct s m => exact fun ρ2 H2 x st2 R q => h ρ2 H2 x (st.trans st2) R q
  | xn c s m => exact fun ρ2 H2 x st2 R q => h ρ2 H2 x (st.trans st2) R q
  | bad => exact h
end

/-! ### joining runs -/
def bindR {α β : Type} (r : R α) (f : α → Hm → R β) : R β := match r with
  | .ok a h => f a h
  | .xn c h => .xn c h
  | .bad => .bad
def bindS {α : Type} (s : LS) (r : R α) (f : α → Hm → RS) : RS := match r with
  | .ok a h => f a h
  | .xn c h => .xn c s h
  | .bad => .bad
/-- the first part's run, and what follows -/
theorem post.bind {C : Cf} {α β γ δ : Type} {Rr : List Addr → Hp → α → β → Prop} {Rq : List Addr → Hp → γ → δ → Prop} {W : XK} {ρ : List Addr} {H : Hp} {r : R α} {f : α → Hm → R γ} {Q : δ → Hp → Prop} (h : post C Rq W ρ H (bindR r f) Q) :
    post C Rr W ρ H r fun x H1 => ∃ ρ1 μ1 a, Step ρ H ρ1 H1 ∧ Rep C ρ1 μ1 H1 ∧ Rr ρ1 H1 a x ∧ post C Rq W ρ1 H1 (f a μ1) Q := by
  cases r with
  | ok a μ' => exact fun ρ' H' x st R q => ⟨ρ', μ', a, st, R, q, post.shift st h⟩
  | xn c μ' => exact h
  | bad => exact h
theorem post.mono {C : Cf} {α β : Type} {Rr : List Addr → Hp → α → β → Prop} {W : XK} {ρ : List Addr} {H : Hp} {r : R α} {Q Q' : β → Hp → Prop} (h : post C Rr W ρ H r Q) (hQ : ∀ x H', Q x H' → Q' x H') : post C Rr W ρ H r Q' := by
  cases r with
  | ok a μ' => exact fun ρ' H' x st R q => hQ _ _ (h ρ' H' x st R q)
  | xn c μ' => exact h
  | bad => exact h
theorem post.bindS {C : Cf} {α β : Type} {Rr : List Addr → Hp → α → β → Prop} {W : WX} {ρ : List Addr} {H : Hp} {r : R α} {f : α → Hm → RS} {s : LS} {σ : L2.St} {D : Ends} (S : Rs C.K ρ H s σ) (h : postS C W ρ H (bindS s r f) D) :
    post C Rr (WE W σ) ρ H r fun x H1 => ∃ ρ1 μ1 a, Step ρ H ρ1 H1 ∧ Rep C ρ1 μ1 H1 ∧ Rr ρ1 H1 a x ∧ postS C W ρ1 H1 (f a μ1) D := by
  cases r with
  | ok a μ' => exact fun ρ' H' x st R q => ⟨ρ', μ', a, st, R, q, postS.shift st h⟩
  | xn c μ' => exact fun ρ' H' st R => h ρ' H' σ st R (S.mono st)
  | bad => exact h
theorem _root_.L2.PE.imp {X : Cx} {e : Expr} {t t' : TE} (h : PE X e t) (i : ∀ σ H Q, t' σ H Q → t σ H Q) : PE X e t' := ⟨fun pins s σ H Q I q => h.run pins s σ H Q I (i σ H Q q)⟩
theorem _root_.L2.PT.imp {X : Cx} {e : Expr} {t t' : TT} (h : PT X e t) (i : ∀ σ H Q, t' σ H Q → t σ H Q) : PT X e t' := ⟨fun pins s σ H Q I q => h.run pins s σ H Q I (i σ H Q q)⟩
theorem _root_.L2.PA.imp {X : Cx} {e : List Expr} {t t' : TA} (h : PA X e t) (i : ∀ σ H Q, t' σ H Q → t σ H Q) : PA X e t' := ⟨fun pos pins s σ H Q I q => h.run pos pins s σ H Q I (i σ H Q q)⟩
theorem _root_.L2.PS.imp {X : Cx} {e : Stmt} {t t' : TS} (h : PS X e t) (i : ∀ D σ H, t' D σ H → t D σ H) : PS X e t' := ⟨fun pins s σ H D I q => h.run pins s σ H D I (i D σ H q)⟩
theorem _root_.L2.PSs.imp {X : Cx} {e : List Stmt} {t t' : TS} (h : PSs X e t) (i : ∀ D σ H, t' D σ H → t D σ H) : PSs X e t' := ⟨fun pins s σ H D I q => h.run pins s σ H D I (i D σ H q)⟩
theorem _root_.L2.PW.imp {X : Cx} {e : Expr} {t t' : TT} (h : PW X e t) (i : ∀ σ H Q, t' σ H Q → t σ H Q) : PW X e t' := ⟨fun wh pins s σ H Q I q => h.run wh pins s σ H Q I (i σ H Q q)⟩
end Mn

/-! Mn2: expressions. -/
namespace Mn
open PySem PySem.Spec PyProof.Rows L2

abbrev cf (X : Cx) (T : Tab) : Cf := ⟨X.prog, X.w, X.K, T⟩
/-- small enough for every line of the machine's -/
def lim : Nat := 1000000
theorem lim_ok {n : Nat} (h : n < lim) : n < sizeLine := by rw [PySem.sizeLine_eq]; unfold lim at h; omega

/-! ### the small programs -/
def mVar (i : Nat) : ME := fun s h => match s[i]? with
  | some (some v) => .ok v h
  | _ => .bad
def mC (v : Val) : ME := fun _ h => .ok v h
def aNil : MA := fun _ h => .ok [] h
def aCons (m : ME) (r : MA) : MA := fun s h => bindR (m s h) fun v h1 => bindR (r s h1) fun vs h2 => .ok (v :: vs) h2
def mTup (a : MA) : ME := fun s h => bindR (a s h) fun vs h1 => if vs.length < lim then .ok (.tup vs) h1 else .bad
def mLst (a : MA) : ME := fun s h => bindR (a s h) fun vs h1 => if vs.length < lim then .ok (.loc h1.length) (h1 ++ [.lst vs]) else .bad
def mBin (f : Val → Val → Hm → R Val) (a b : ME) : ME := fun s h => bindR (a s h) fun x h1 => bindR (b s h1) fun y h2 => f x y h2
def mUn (f : Val → Hm → R Val) (a : ME) : ME := fun s h => bindR (a s h) f
def mCall (f : List Val → Hm → R Val) (a : MA) : ME := fun s h => bindR (a s h) f
def mIf (t : MT) (a b : ME) : ME := fun s h => bindR (t s h) fun c h1 => if c then a s h1 else b s h1
/-- a truth value as a test -/
def tB (m : ME) : MT := fun s h => bindR (m s h) fun v h1 => match v with
  | .bl b => .ok b h1
  | _ => .bad
def tAnd (a b : MT) : MT := fun s h => bindR (a s h) fun c h1 => if c then b s h1 else .ok false h1
def tOr (a b : MT) : MT := fun s h => bindR (a s h) fun c h1 => if c then .ok true h1 else b s h1
def tNot (a : MT) : MT := fun s h => bindR (a s h) fun c h1 => .ok (!c) h1
/-- and, or of truth values, as values -/
def mAnd (a b : ME) : ME := fun s h => bindR (a s h) fun v h1 => match v with
  | .bl c => if c then b s h1 else .ok (.bl false) h1
  | _ => .bad
def mOr (a b : ME) : ME := fun s h => bindR (a s h) fun v h1 => match v with
  | .bl c => if c then .ok (.bl true) h1 else b s h1
  | _ => .bad
def mNot (a : ME) : ME := fun s h => bindR (a s h) fun v h1 => match v with
  | .bl c => .ok (.bl (!c)) h1
  | _ => .bad

section
variable {X : Cx} {T : Tab} {W : WX} {a b c : Expr} {es : List Expr} {pos : Pos} {ma mb mc : ME} {mr : MA} {mt mu : MT}

theorem e_var (i : Nat) {x : Str} (hN : X.N[i]? = some x := by rfl) (hv : Vis X.env.scope x := by first | exact Or.inl rfl | exact Or.inr (Or.inl rfl) | exact Or.inr (Or.inr rfl)) (hd : (x == ("__debug__" : Str)) = false := by decide)
    (hcd : (x == ("__classdict__" : Str)) = false := by decide) : PE X (.Name x pos) (tE (cf X T) W (mVar i)) :=
  (pe_var hN hv hd hcd).imp fun σ H Q ⟨ρ, μ, s, R, S, h⟩ => by
    unfold mVar at h
    split at h
    · rename_i v hv
      obtain ⟨x, e, q⟩ := S.2 i v hv
      exact ⟨x, e, h ρ H x .refl R q⟩
    · exact h.elim
theorem tC_of {v : Val} {x : V} (r : ∀ ρ H, Rv X.K ρ H v x) (σ : L2.St) (H : Hp) (Q : VK) (h : tE (cf X T) W (mC v) σ H Q) : tC x σ H Q := by
  obtain ⟨ρ, μ, s, R, S, h⟩ := h
  exact h ρ H x .refl R (r ρ H)
theorem e_int {n : Int} {k : Nat} : PE X (.Constant (.int n) k pos) (tE (cf X T) W (mC (.int n))) := pe_int.imp (tC_of fun _ _ => .int n)
theorem e_bl {n : Bool} {k : Nat} : PE X (.Constant (.bool n) k pos) (tE (cf X T) W (mC (.bl n))) := pe_bl.imp (tC_of fun _ _ => .bl n)
theorem e_non {k : Nat} : PE X (.Constant .none k pos) (tE (cf X T) W (mC .non)) := pe_non.imp (tC_of fun _ _ => .non)
theorem e_str (l : List Nat) {x : Str} {k : Nat} (h : x.cps.toList = l := by decide +kernel) : PE X (.Constant (.str x) k pos) (tE (cf X T) W (mC (.str l))) := pe_str.imp (tC_of fun _ _ => by rw [← h]; exact .str x)

theorem a_nil : PA X [] (tA (cf X T) W aNil) := pa_nil.imp fun σ H Q ⟨ρ, μ, s, R, S, h⟩ => h ρ H [] .refl R Rl.nil
theorem a_cons (ha : PE X a (tE (cf X T) W ma)) (hr : PA X es (tA (cf X T) W mr)) (hs : starEach (a :: es) X.env = (false, eval a X.env) :: starEach es X.env := by rfl) : PA X (a :: es) (tA (cf X T) W (aCons ma mr)) :=
  (pa_cons ha hr hs).imp fun σ H Q ⟨ρ, μ, s, R, S, h⟩ => ⟨ρ, μ, s, R, S, (post.bind h).mono fun x H1 ⟨ρ1, μ1, v, st, R1, r1, h1⟩ => ⟨ρ1, μ1, s, R1, S.mono st, (post.bind (Rr := RrL (cf X T)) h1).mono
    fun xs H2 ⟨ρ2, μ2, vs, st2, R2, r2, h2⟩ => h2 ρ2 H2 (x :: xs) .refl R2 (.cons (r1.mono st2) r2)⟩⟩

theorem e_tup {k : Nat} (h : PA X es (tA (cf X T) W mr)) : PE X (.Tuple es k pos) (tE (cf X T) W (mTup mr)) :=
  (pe_tup h).imp fun σ H Q ⟨ρ, μ, s, R, S, h⟩ => ⟨ρ, μ, s, R, S, (post.bind h).mono fun xs H1 ⟨ρ1, μ1, vs, st, R1, r1, h1⟩ => by
    split at h1
    · rename_i hl
      have hx : xs.length < lim := by rw [← r1.1]; exact hl
      refine ⟨Nat.le_of_lt (lim_ok hx), fun p hp => ?_⟩
      have st' : Step ρ1 H1 ρ1 (upd H1 p (.tup xs)) := .laid0 hp
      exact h1 ρ1 _ _ st' (R1.side hp) (.tup (.inl (.inl upd_same)) r1.1 (r1.mono st').2)
    · exact h1.elim⟩
theorem new_lst {C : Cf} {ρ : List Addr} {μ : Hm} {H : Hp} {vs : List Val} {xs : List V} {p : Addr} (R : Rep C ρ μ H) (r : Rl C.K ρ H vs xs) (hp : H p = none) :
    Step ρ H (ρ ++ [p]) (upd H p (.lst xs)) ∧ Rep C (ρ ++ [p]) (μ ++ [.lst vs]) (upd H p (.lst xs)) ∧ Rv C.K (ρ ++ [p]) (upd H p (.lst xs)) (.loc μ.length) (.ref p) := by
  have st : Step ρ H (ρ ++ [p]) (upd H p (.lst xs)) := .laid hp [p] (by simp)
  refine ⟨st, R.new hp ⟨xs, upd_same, r.mono st⟩, .loc ?_⟩
  rw [← R.len, List.getElem?_append_right (Nat.le_refl _)]; simp
theorem e_lst (h : PA X es (tA (cf X T) W mr)) : PE X (.List es pos) (tE (cf X T) W (mLst mr)) :=
  (pe_lst h).imp fun σ H Q ⟨ρ, μ, s, R, S, h⟩ => ⟨ρ, μ, s, R, S, (post.bind h).mono fun xs H1 ⟨ρ1, μ1, vs, st, R1, r1, h1⟩ => by
    split at h1
    · rename_i hl
      have hx : xs.length < lim := by rw [← r1.1]; exact hl
      refine ⟨Nat.le_of_lt (lim_ok hx), fun p hp => ?_⟩
      obtain ⟨st', R', r'⟩ := new_lst R1 r1 hp
      exact h1 _ _ _ st' R' r'
    · exact h1.elim⟩

/-- a small operation is what the layer's operation asks -/
def OpS (C : Cf) (f : Val → Val → Hm → R Val) (r : R2) : Prop := ∀ (E : XK) (ρ : List Addr) (μ : Hm) (H : Hp) (v w : Val) (x y : V) (Q : VK), Rep C ρ μ H → Rv C.K ρ H v x → Rv C.K ρ H w y → post C (RrV C) E ρ H (f v w μ) Q → r x y H Q
theorem tOp_of {f : Val → Val → Hm → R Val} {r : R2} (hr : OpS (cf X T) f r) (σ : L2.St) (H : Hp) (Q : VK) (h : tE (cf X T) W (mBin f ma mb) σ H Q) : tOp r (tE (cf X T) W ma) (tE (cf X T) W mb) σ H Q := by
  obtain ⟨ρ, μ, s, R, S, h⟩ := h
  exact ⟨ρ, μ, s, R, S, (post.bind h).mono fun x H1 ⟨ρ1, μ1, v, st, R1, r1, h1⟩ => ⟨ρ1, μ1, s, R1, S.mono st, (post.bind h1).mono
    fun y H2 ⟨ρ2, μ2, w, st2, R2, r2, h2⟩ => hr _ _ _ _ _ _ _ _ _ R2 (r1.mono st2) r2 h2⟩⟩
theorem e_bin {op : Operator} {r : R2} {f : Val → Val → Hm → R Val} (ho : OpR X (binaryOp op) r) (hr : OpS (cf X T) f r) (ha : PE X a (tE (cf X T) W ma)) (hb : PE X b (tE (cf X T) W mb)) : PE X (.BinOp a op b pos) (tE (cf X T) W (mBin f ma mb)) :=
  (pe_op ho ha hb).imp (tOp_of hr)
theorem e_cmp {op : CmpOp} {r : R2} {f : Val → Val → Hm → R Val} (ho : OpR X (compareOp op) r) (hr : OpS (cf X T) f r) (ha : PE X a (tE (cf X T) W ma)) (hb : PE X b (tE (cf X T) W mb)) (hm : behindInMarks op b = false := by first | exact nomark _ | rfl) :
    PE X (.Compare a [op] [b] pos) (tE (cf X T) W (mBin f ma mb)) := (pe_cmpR ho ha hb hm).imp (tOp_of hr)
theorem e_ix {r : R2} {f : Val → Val → Hm → R Val} (ho : IxR X r) (hr : OpS (cf X T) f r) (ha : PE X a (tE (cf X T) W ma)) (hb : PE X b (tE (cf X T) W mb)) (hs : PlainIx b := by exact fun _ _ => rfl) :
    PE X (.Subscript a b pos) (tE (cf X T) W (mBin f ma mb)) := (pe_ix ho ha hb hs).imp (tOp_of hr)
def UnS (C : Cf) (f : Val → Hm → R Val) (r : V → Hp → VK → Prop) : Prop := ∀ (E : XK) (ρ : List Addr) (μ : Hm) (H : Hp) (v : Val) (x : V) (Q : VK), Rep C ρ μ H → Rv C.K ρ H v x → post C (RrV C) E ρ H (f v μ) Q → r x H Q
theorem e_un {op : UnaryOp} {r : V → Hp → VK → Prop} {f : Val → Hm → R Val} (ho : UnR X (unaryOp op) r) (hr : UnS (cf X T) f r) (ha : PE X a (tE (cf X T) W ma)) : PE X (.UnaryOp op a pos) (tE (cf X T) W (mUn f ma)) :=
  (pe_un ho ha).imp fun σ H Q ⟨ρ, μ, s, R, S, h⟩ => ⟨ρ, μ, s, R, S, (post.bind h).mono fun x H1 ⟨ρ1, μ1, v, st, R1, r1, h1⟩ => hr _ _ _ _ _ _ _ R1 r1 h1⟩
def CallS (C : Cf) (f : List Val → Hm → R Val) (r : List V → Hp → VK → Prop) : Prop := ∀ (E : XK) (ρ : List Addr) (μ : Hm) (H : Hp) (vs : List Val) (xs : List V) (Q : VK), Rep C ρ μ H → Rl C.K ρ H vs xs → post C (RrV C) E ρ H (f vs μ) Q → r xs H Q
theorem tCB_of {f : List Val → Hm → R Val} {r : List V → Hp → VK → Prop} (hr : CallS (cf X T) f r) (σ : L2.St) (H : Hp) (Q : VK) (h : tE (cf X T) W (mCall f mr) σ H Q) : tCB r (tA (cf X T) W mr) σ H Q := by
  obtain ⟨ρ, μ, s, R, S, h⟩ := h
  exact ⟨ρ, μ, s, R, S, (post.bind h).mono fun x H1 ⟨ρ1, μ1, v, st, R1, r1, h1⟩ => hr _ _ _ _ _ _ _ R1 r1 h1⟩
theorem e_callB {x : Str} {p : Pos} {id : String} {r : List V → Hp → VK → Prop} {f : List Val → Hm → R Val} (hc : CallR X (.builtin id) r) (hr : CallS (cf X T) f r) (hm : X.mg x = none) (ha : PA X (a :: es) (tA (cf X T) W mr))
    (hv : bootBuiltins x = some (.builtin id) := by decide +kernel) (hg : Gl X x := by rfl) (hn : x ≠ "__name__" := by decide) (hdb : (x == ("__debug__" : Str)) = false := by decide)
    (he : starEach (a :: es) X.env = (false, eval a X.env) :: starEach es X.env := by rfl) (hpl : (backTo pos (starEach es X.env)).any (·.1) = false := by rfl) : PE X (.Call (.Name x p) (a :: es) [] pos) (tE (cf X T) W (mCall f mr)) :=
  (pe_callB hc hg hm hv ha hn hdb he hpl).imp (tCB_of hr)
theorem e_callTy {x : Str} {p : Pos} {id : String} {r : List V → Hp → VK → Prop} {f : List Val → Hm → R Val} (hc : CallR X (.type id) r) (hr : CallS (cf X T) f r) (hm : X.mg x = none) (ha : PA X (a :: es) (tA (cf X T) W mr))
    (hv : bootBuiltins x = some (.type id) := by decide +kernel) (hg : Gl X x := by rfl) (hn : x ≠ "__name__" := by decide) (hdb : (x == ("__debug__" : Str)) = false := by decide)
    (he : starEach (a :: es) X.env = (false, eval a X.env) :: starEach es X.env := by rfl) (hpl : (backTo pos (starEach es X.env)).any (·.1) = false := by rfl) : PE X (.Call (.Name x p) (a :: es) [] pos) (tE (cf X T) W (mCall f mr)) :=
  (pe_callTy hc hg hm hv ha hn hdb he hpl).imp (tCB_of hr)

/-! tests -/
theorem t_bl (h : PE X a (tE (cf X T) W ma)) (he : ∀ whole, isTrue a X.env whole = (do let v ← whole; standAt a.pos; holding [v] (truthy v)) := by intro _; rfl) : PT X a (tT (cf X T) W (tB ma)) :=
  (pt_val h he).imp fun σ H Q ⟨ρ, μ, s, R, S, h⟩ => ⟨ρ, μ, s, R, S, (post.bind (Rr := RrV (cf X T)) h).mono fun x H1 ⟨ρ1, μ1, v, st, R1, r1, h1⟩ => by
    cases r1 with
    | bl b => exact ⟨b, rfl, h1 ρ1 H1 b .refl R1 rfl⟩
    | _ => exact h1.elim⟩
theorem t_cmp {op : CmpOp} {r : R2} {f : Val → Val → Hm → R Val} (ho : OpR X (compareOp op) r) (hr : OpS (cf X T) f r) (ha : PE X a (tE (cf X T) W ma)) (hb : PE X b (tE (cf X T) W mb)) (hm : behindInMarks op b = false := by first | exact nomark _ | rfl) :
    PT X (.Compare a [op] [b] pos) (tT (cf X T) W (tB (mBin f ma mb))) :=
  (pt_cmpR ho ha hb hm).imp fun σ H Q h => tOp_of (W := W) (ma := ma) (mb := mb) hr σ H _ (by
    obtain ⟨ρ, μ, s, R, S, h⟩ := h
    exact ⟨ρ, μ, s, R, S, (post.bind (Rr := RrV (cf X T)) h).mono fun x H1 ⟨ρ1, μ1, v, st, R1, r1, h1⟩ => by
      cases r1 with
      | bl b => exact ⟨b, rfl, h1 ρ1 H1 b .refl R1 rfl⟩
      | _ => exact h1.elim⟩)
theorem w_and1 (h : PT X a (tT (cf X T) W mt)) : PW X (.BoolOp .And [a] pos) (tT (cf X T) W mt) := pw_and1 h
theorem w_or1 (h : PT X a (tT (cf X T) W mt)) : PW X (.BoolOp .Or [a] pos) (tT (cf X T) W mt) := pw_or1 h
theorem w_and (ha : PT X a (tT (cf X T) W mt)) (hb : PW X (.BoolOp .And (b :: es) pos) (tT (cf X T) W mu)) : PW X (.BoolOp .And (a :: b :: es) pos) (tT (cf X T) W (tAnd mt mu)) :=
  (pw_and ha hb).imp fun σ H Q ⟨ρ, μ, s, R, S, h⟩ => ⟨ρ, μ, s, R, S, (post.bind h).mono fun x H1 ⟨ρ1, μ1, v, st, R1, r1, h1⟩ => by
    have e : v = x := r1
    subst e
    cases v with
    | true => exact ⟨ρ1, μ1, s, R1, S.mono st, h1⟩
    | false => exact h1 ρ1 H1 false .refl R1 rfl⟩
theorem w_or (ha : PT X a (tT (cf X T) W mt)) (hb : PW X (.BoolOp .Or (b :: es) pos) (tT (cf X T) W mu)) : PW X (.BoolOp .Or (a :: b :: es) pos) (tT (cf X T) W (tOr mt mu)) :=
  (pw_or ha hb).imp fun σ H Q ⟨ρ, μ, s, R, S, h⟩ => ⟨ρ, μ, s, R, S, (post.bind h).mono fun x H1 ⟨ρ1, μ1, v, st, R1, r1, h1⟩ => by
    have e : v = x := r1
    subst e
    cases v with
    | false => exact ⟨ρ1, μ1, s, R1, S.mono st, h1⟩
    | true => exact h1 ρ1 H1 true .refl R1 rfl⟩
theorem t_not (h : PT X a (tT (cf X T) W mt)) : PT X (.UnaryOp .Not a pos) (tT (cf X T) W (tNot mt)) :=
  (pt_not h).imp fun σ H Q ⟨ρ, μ, s, R, S, h⟩ => ⟨ρ, μ, s, R, S, (post.bind h).mono fun x H1 ⟨ρ1, μ1, v, st, R1, r1, h1⟩ => by
    have e : v = x := r1
    subst e
    exact h1 ρ1 H1 _ .refl R1 rfl⟩
theorem e_and1 {op} (h : PE X a (tE (cf X T) W ma)) : PE X (.BoolOp op [a] pos) (tE (cf X T) W ma) := pe_one h
theorem e_and (ha : PE X a (tE (cf X T) W ma)) (hb : PE X (.BoolOp .And (b :: es) pos) (tE (cf X T) W mb)) : PE X (.BoolOp .And (a :: b :: es) pos) (tE (cf X T) W (mAnd ma mb)) :=
  (pe_and ha hb).imp fun σ H Q ⟨ρ, μ, s, R, S, h⟩ => ⟨ρ, μ, s, R, S, (post.bind (Rr := RrV (cf X T)) h).mono fun x H1 ⟨ρ1, μ1, v, st, R1, r1, h1⟩ => by
    cases r1 with
    | bl c =>
      refine ⟨c, rfl, ?_⟩
      cases c with
      | true => exact ⟨ρ1, μ1, s, R1, S.mono st, h1⟩
      | false => exact h1 ρ1 H1 _ .refl R1 (.bl false)
    | _ => exact h1.elim⟩
theorem e_or (ha : PE X a (tE (cf X T) W ma)) (hb : PE X (.BoolOp .Or (b :: es) pos) (tE (cf X T) W mb)) : PE X (.BoolOp .Or (a :: b :: es) pos) (tE (cf X T) W (mOr ma mb)) :=
  (pe_or ha hb).imp fun σ H Q ⟨ρ, μ, s, R, S, h⟩ => ⟨ρ, μ, s, R, S, (post.bind (Rr := RrV (cf X T)) h).mono fun x H1 ⟨ρ1, μ1, v, st, R1, r1, h1⟩ => by
    cases r1 with
    | bl c =>
      refine ⟨c, rfl, ?_⟩
      cases c with
      | false => exact ⟨ρ1, μ1, s, R1, S.mono st, h1⟩
      | true => exact h1 ρ1 H1 _ .refl R1 (.bl true)
    | _ => exact h1.elim⟩
theorem e_not (ha : PE X a (tE (cf X T) W ma)) : PE X (.UnaryOp .Not a pos) (tE (cf X T) W (mNot ma)) :=
  (pe_not ha).imp fun σ H Q ⟨ρ, μ, s, R, S, h⟩ => ⟨ρ, μ, s, R, S, (post.bind (Rr := RrV (cf X T)) h).mono fun x H1 ⟨ρ1, μ1, v, st, R1, r1, h1⟩ => by
    cases r1 with
    | bl c => exact ⟨c, rfl, h1 ρ1 H1 _ .refl R1 (.bl _)⟩
    | _ => exact h1.elim⟩
theorem e_if (hc : PT X c (tT (cf X T) W mt)) (ha : PE X a (tE (cf X T) W ma)) (hb : PE X b (tE (cf X T) W mb)) : PE X (.IfExp c a b pos) (tE (cf X T) W (mIf mt ma mb)) :=
  (pe_ifExp hc ha hb).imp fun σ H Q ⟨ρ, μ, s, R, S, h⟩ => ⟨ρ, μ, s, R, S, (post.bind h).mono fun x H1 ⟨ρ1, μ1, v, st, R1, r1, h1⟩ => by
    have e : v = x := r1
    subst e
    cases v with
    | true => exact ⟨ρ1, μ1, s, R1, S.mono st, h1⟩
    | false => exact ⟨ρ1, μ1, s, R1, S.mono st, h1⟩⟩
end
end Mn

/-! Mn3: operations on values. -/
namespace Mn
open PySem PySem.Spec PyProof.Rows L2

/-! ### what a related value is -/
section
variable {K : PySem.W.Frag} {ρ : List Addr} {H : Hp} {x : V}
theorem Rv.non_inv (r : Rv K ρ H .non x) : x = .non := by cases r; rfl
theorem Rv.bl_inv {b : Bool} (r : Rv K ρ H (.bl b) x) : x = .bl b := by cases r; rfl
theorem Rv.int_inv {i : Int} (r : Rv K ρ H (.int i) x) : x = .int i := by cases r; rfl
theorem Rv.str_inv {s : List Nat} (r : Rv K ρ H (.str s) x) : ∃ z : Str, x = .str z ∧ z.cps.toList = s := by
  generalize e : Val.str s = v at r
  cases r with
  | str y => injection e with e; exact ⟨y, rfl, e.symm⟩
  | _ => cases e
theorem Rv.loc_inv {l : Nat} (r : Rv K ρ H (.loc l) x) : ∃ a, x = .ref a ∧ ρ[l]? = some a := by cases r with | loc h => exact ⟨_, rfl, h⟩
theorem Rv.tup_inv {vs : List Val} (r : Rv K ρ H (.tup vs) x) : ∃ a xs, x = .ref a ∧ SqT K H a xs ∧ Rl K ρ H vs xs := by cases r with | tup h hl hr => exact ⟨_, _, rfl, h, hl, hr⟩
theorem Rv.ro_inv {vs : List Val} (r : Rv K ρ H (.ro vs) x) : ∃ a xs, x = .ref a ∧ RoL K H a xs ∧ Rl K ρ H vs xs := by cases r with | ro h hl hr => exact ⟨_, _, rfl, h, hl, hr⟩
theorem Rv.exc_inv {c : Nat} (r : Rv K ρ H (.exc c) x) : x = .ref c := by cases r; rfl
end
section
variable {C : Cf} {ρ : List Addr} {H : Hp} {μ : Hm} {a : Addr} {l : Nat}
theorem Rep.lst {vs : List Val} (R : Rep C ρ μ H) (h : μ[l]? = some (.lst vs)) (ha : ρ[l]? = some a) : ∃ xs, H a = some (.lst xs) ∧ Rl C.K ρ H vs xs := by
  obtain ⟨b, hb, r⟩ := R.get h
  rw [ha] at hb; cases hb
  exact r
end
def listOf (v : Val) (h : Hm) : Option (List Val) := match v with
  | .ro vs => some vs
  | .loc l => match h[l]? with
    | some (.lst vs) => some vs
    | _ => none
  | _ => none
def seqOf (v : Val) (h : Hm) : Option (List Val) := match v with
  | .tup vs => some vs
  | .ro vs => some vs
  | .loc l => match h[l]? with
    | some (.lst vs) => some vs
    | _ => none
  | _ => none
section
variable {C : Cf} {ρ : List Addr} {H : Hp} {μ : Hm} {v : Val} {vs : List Val} {x : V}
theorem listOf_ok (R : Rep C ρ μ H) (r : Rv C.K ρ H v x) (h : listOf v μ = some vs) : ∃ a xs, x = .ref a ∧ SqL C.K H a xs ∧ Rl C.K ρ H vs xs := by
  unfold listOf at h
  split at h
  · obtain ⟨a, xs, e, h1, h2⟩ := r.ro_inv
    cases h
    exact ⟨a, xs, e, h1.sq, h2⟩
  · obtain ⟨a, e, ha⟩ := r.loc_inv
    split at h
    · rename_i hl
      cases h
      obtain ⟨xs, h1, h2⟩ := R.lst hl ha
      exact ⟨a, xs, e, .inl (.inl h1), h2⟩
    · cases h
  · cases h
theorem seqOf_ok (R : Rep C ρ μ H) (r : Rv C.K ρ H v x) (h : seqOf v μ = some vs) : ∃ a xs, x = .ref a ∧ (SqL C.K H a xs ∨ SqT C.K H a xs) ∧ Rl C.K ρ H vs xs := by
  unfold seqOf at h
  split at h
  · obtain ⟨a, xs, e, h1, h2⟩ := r.tup_inv
    cases h
    exact ⟨a, xs, e, .inr h1, h2⟩
  · obtain ⟨a, xs, e, h1, h2⟩ := r.ro_inv
    cases h
    exact ⟨a, xs, e, .inl h1.sq, h2⟩
  · obtain ⟨a, e, ha⟩ := r.loc_inv
    split at h
    · rename_i hl
      cases h
      obtain ⟨xs, h1, h2⟩ := R.lst hl ha
      exact ⟨a, xs, e, .inl (.inl (.inl h1)), h2⟩
    · cases h
  · cases h
end

/-! ### arithmetic -/
def opAdd : Val → Val → Hm → R Val := fun v w h => match v, w with
  | .int i, .int j => .ok (.int (i + j)) h
  | .str a, .str b => if a.length + b.length < lim then .ok (.str (a ++ b)) h else .bad
  | .tup a, .tup b => if a.length ≠ 0 ∧ a.length + b.length < lim then .ok (.tup (a ++ b)) h else .bad
  | .loc l, .loc k => match h[l]?, h[k]? with
    | some (.lst a), some (.lst b) => if a.length + b.length < lim then .ok (.loc h.length) (h ++ [.lst (a ++ b)]) else .bad
    | _, _ => .bad
  | _, _ => .bad
def opSub : Val → Val → Hm → R Val := fun v w h => match v, w with
  | .int i, .int j => .ok (.int (i - j)) h
  | _, _ => .bad
def small64 (i : Int) : Bool := decide (-(2 ^ 64) < i) && decide (i < 2 ^ 64)
def opMul : Val → Val → Hm → R Val := fun v w h => match v, w with
  | .int i, .int j => if small64 i || small64 j then .ok (.int (i * j)) h else .bad
  | .loc l, .int k => match h[l]? with
    | some (.lst a) => if -1000000 < k ∧ k < 1000000 ∧ a.length * k.toNat < lim then .ok (.loc h.length) (h ++ [.lst (List.replicate k.toNat a).flatten]) else .bad
    | _ => .bad
  | _, _ => .bad
def opMod : Val → Val → Hm → R Val := fun v w h => match v, w with
  | .int i, .int j => if 0 < j then .ok (.int (i % j)) h else .bad
  | _, _ => .bad
def opFdiv : Val → Val → Hm → R Val := fun v w h => match v, w with
  | .int i, .int j => if 0 < j ∧ j < 1073741824 then .ok (.int (i / j)) h else .bad
  | _, _ => .bad
def opPow : Val → Val → Hm → R Val := fun v w h => match v, w with
  | .int i, .int j => if 0 ≤ j ∧ j ≤ 1000 ∧ i.natAbs < 2 ^ 64 then .ok (.int (i ^ j.toNat)) h else .bad
  | _, _ => .bad
def opNeg : Val → Hm → R Val := fun v h => match v with
  | .int i => .ok (.int (-i)) h
  | _ => .bad
def opCmpI (p : Int → Int → Bool) : Val → Val → Hm → R Val := fun v w h => match v, w with
  | .int i, .int j => .ok (.bl (p i j)) h
  | _, _ => .bad
abbrev opLt : Val → Val → Hm → R Val := opCmpI fun i j => decide (i < j)
abbrev opLe : Val → Val → Hm → R Val := opCmpI fun i j => decide (i ≤ j)
abbrev opGt : Val → Val → Hm → R Val := opCmpI fun i j => decide (j < i)
abbrev opGe : Val → Val → Hm → R Val := opCmpI fun i j => decide (j ≤ i)
/-- with None alone -/
def opIs : Val → Val → Hm → R Val := fun v w h => match v, w with
  | .non, .non => .ok (.bl true) h
  | .loc _, .non => .ok (.bl false) h
  | .tup _, .non => .ok (.bl false) h
  | .int _, .non => .ok (.bl false) h
  | .bl _, .non => .ok (.bl false) h
  | .str _, .non => .ok (.bl false) h
  | .ro _, .non => .ok (.bl false) h
  | _, _ => .bad
def opIsNot : Val → Val → Hm → R Val := fun v w h => match v, w with
  | .non, .non => .ok (.bl false) h
  | .loc _, .non => .ok (.bl true) h
  | .tup _, .non => .ok (.bl true) h
  | .int _, .non => .ok (.bl true) h
  | .bl _, .non => .ok (.bl true) h
  | .str _, .non => .ok (.bl true) h
  | .ro _, .non => .ok (.bl true) h
  | _, _ => .bad

section
variable {X : Cx} {T : Tab}
theorem opI_of {p : Int → Int → V} {q : Int → Int → Val} {f : Val → Val → Hm → R Val} (hq : ∀ i j ρ H, Rv X.K ρ H (q i j) (p i j)) (hf : ∀ v w μ, (∃ i j, v = .int i ∧ w = .int j ∧ f v w μ = .ok (q i j) μ) ∨ f v w μ = .bad) : OpS (cf X T) f (rI0 p) := by
  intro E ρ μ H v w x y Q R r1 r2 h
  rcases hf v w μ with ⟨i, j, rfl, rfl, e⟩ | e
  · rw [e] at h
    rw [r1.int_inv, r2.int_inv]
    exact ⟨i, j, rfl, rfl, h ρ H _ .refl R (hq i j ρ H)⟩
  · rw [e] at h; exact h.elim
theorem opIC_of {c : Int → Int → Prop} {p : Int → Int → V} {q : Int → Int → Val} {f : Val → Val → Hm → R Val} (hq : ∀ i j ρ H, Rv X.K ρ H (q i j) (p i j)) (hf : ∀ v w μ, (∃ i j, v = .int i ∧ w = .int j ∧ c i j ∧ f v w μ = .ok (q i j) μ) ∨ f v w μ = .bad) : OpS (cf X T) f (rI c p) := by
  intro E ρ μ H v w x y Q R r1 r2 h
  rcases hf v w μ with ⟨i, j, rfl, rfl, hc, e⟩ | e
  · rw [e] at h
    rw [r1.int_inv, r2.int_inv]
    exact ⟨i, j, rfl, rfl, hc, h ρ H _ .refl R (hq i j ρ H)⟩
  · rw [e] at h; exact h.elim
theorem s_sub : OpS (cf X T) opSub (rI0 fun i j => .int (i - j)) := opI_of (fun _ _ _ _ => .int _) fun v w μ => by
  unfold opSub; split
  · exact .inl ⟨_, _, rfl, rfl, rfl⟩
  · exact .inr rfl
theorem s_mod : OpS (cf X T) opMod (rI (fun _ j => 0 < j) fun i j => .int (i % j)) := opIC_of (fun _ _ _ _ => .int _) fun v w μ => by
  unfold opMod; split
  · split
    · rename_i h; exact .inl ⟨_, _, rfl, rfl, h, rfl⟩
    · exact .inr rfl
  · exact .inr rfl
theorem s_fdiv : OpS (cf X T) opFdiv (rI CDiv fun i j => .int (i / j)) := opIC_of (fun _ _ _ _ => .int _) fun v w μ => by
  unfold opFdiv; split
  · split
    · rename_i h; exact .inl ⟨_, _, rfl, rfl, h, rfl⟩
    · exact .inr rfl
  · exact .inr rfl
theorem s_pow : OpS (cf X T) opPow (rI CPow fun i j => .int (i ^ j.toNat)) := opIC_of (fun _ _ _ _ => .int _) fun v w μ => by
  unfold opPow; split
  · split
    · rename_i h; exact .inl ⟨_, _, rfl, rfl, ⟨h.1, by omega, h.2.2⟩, rfl⟩
    · exact .inr rfl
  · exact .inr rfl
theorem s_cmp (p : Int → Int → Bool) : OpS (cf X T) (opCmpI p) (rI0 fun i j => .bl (p i j)) := opI_of (fun _ _ _ _ => .bl _) fun v w μ => by
  unfold opCmpI; split
  · exact .inl ⟨_, _, rfl, rfl, rfl⟩
  · exact .inr rfl
theorem s_neg : UnS (cf X T) opNeg (rU fun i => .int (-i)) := by
  intro E ρ μ H v x Q R r h
  unfold opNeg at h
  split at h
  · rw [r.int_inv]; exact ⟨_, rfl, h ρ H _ .refl R (.int _)⟩
  · exact h.elim
theorem s_is : OpS (cf X T) opIs (fun x y H Q => y = .non ∧ Q (.bl (decide (x = .non))) H) := by
  intro E ρ μ H v w x y Q R r1 r2 h
  unfold opIs at h
  split at h <;> first
    | exact h.elim
    | (refine ⟨r2.non_inv, ?_⟩
       have e : ∃ b, decide (x = V.non) = b ∧ True := ⟨_, rfl, trivial⟩
       first
         | (rw [r1.non_inv]; exact h ρ H _ .refl R (.bl _))
         | (obtain ⟨a, e, _⟩ := r1.loc_inv; rw [e]; exact h ρ H _ .refl R (.bl _))
         | (obtain ⟨a, _, e, _⟩ := r1.tup_inv; rw [e]; exact h ρ H _ .refl R (.bl _))
         | (obtain ⟨a, _, e, _⟩ := r1.ro_inv; rw [e]; exact h ρ H _ .refl R (.bl _))
         | (obtain ⟨a, e, _⟩ := r1.str_inv; rw [e]; exact h ρ H _ .refl R (.bl _))
         | (rw [r1.int_inv]; exact h ρ H _ .refl R (.bl _))
         | (rw [r1.bl_inv]; exact h ρ H _ .refl R (.bl _)))
theorem s_isnot : OpS (cf X T) opIsNot (fun x y H Q => y = .non ∧ Q (.bl (!decide (x = .non))) H) := by
  intro E ρ μ H v w x y Q R r1 r2 h
  unfold opIsNot at h
  split at h <;> first
    | exact h.elim
    | (refine ⟨r2.non_inv, ?_⟩
       first
         | (rw [r1.non_inv]; exact h ρ H _ .refl R (.bl _))
         | (obtain ⟨a, e, _⟩ := r1.loc_inv; rw [e]; exact h ρ H _ .refl R (.bl _))
         | (obtain ⟨a, _, e, _⟩ := r1.tup_inv; rw [e]; exact h ρ H _ .refl R (.bl _))
         | (obtain ⟨a, _, e, _⟩ := r1.ro_inv; rw [e]; exact h ρ H _ .refl R (.bl _))
         | (obtain ⟨a, e, _⟩ := r1.str_inv; rw [e]; exact h ρ H _ .refl R (.bl _))
         | (rw [r1.int_inv]; exact h ρ H _ .refl R (.bl _))
         | (rw [r1.bl_inv]; exact h ρ H _ .refl R (.bl _)))
/-- the four additions -/
def rAdds (K : PySem.W.Frag) : R2 := fun x y H Q => ((rI0 fun i j => .int (i + j)) x y H Q ∨ (∃ i j, x = .str i ∧ y = .str j ∧ i.length + j.length ≤ sizeLine ∧ Q (.str (i ++ j)) H)) ∨ (rCatT K x y H Q ∨ rCat x y H Q)
theorem op_adds : OpR X (binaryOp .Add) (rAdds X.K) := (op_add.or op_add_str).or (op_catT.or op_cat)
theorem strLen (z : Str) : z.length = z.cps.toList.length := by cases z; rfl
theorem strApp (z y : Str) : (z ++ y).cps.toList = z.cps.toList ++ y.cps.toList := by
  show (z.cps ++ y.cps).toList = _
  simp
theorem s_add : OpS (cf X T) opAdd (rAdds X.K) := by
  intro E ρ μ H v w x y Q R r1 r2 h
  unfold opAdd at h
  split at h
  · rw [r1.int_inv, r2.int_inv]
    exact .inl (.inl ⟨_, _, rfl, rfl, h ρ H _ .refl R (.int _)⟩)
  · split at h
    · rename_i a b hl
      obtain ⟨z, e1, z1⟩ := r1.str_inv
      obtain ⟨u, e2, z2⟩ := r2.str_inv
      rw [e1, e2]
      refine .inl (.inr ⟨z, u, rfl, rfl, ?_, ?_⟩)
      · rw [strLen, strLen, z1, z2]; exact Nat.le_of_lt (lim_ok hl)
      · have q := h ρ H (.str (z ++ u)) .refl R
        rw [← z1, ← z2, ← strApp] at q
        exact q (.str _)
    · exact h.elim
  · split at h
    · rename_i a b hl
      obtain ⟨p, xs, e1, s1, l1⟩ := r1.tup_inv
      obtain ⟨q, ys, e2, s2, l2⟩ := r2.tup_inv
      rw [e1, e2]
      have hx : xs ≠ [] := fun z => by
        have := l1.1
        rw [z] at this
        exact hl.1 this
      refine .inr (.inl ⟨p, q, xs, ys, rfl, rfl, s1, s2, hx, ?_, fun hy => ?_, fun hy p' hp => ?_⟩)
      · rw [← l1.1, ← l2.1]; exact Nat.le_of_lt (lim_ok hl.2)
      · have hb : b = [] := by
          have := l2.1
          rw [hy] at this
          exact List.length_eq_zero_iff.mp this
        rw [hb, List.append_nil] at h
        exact h ρ H _ .refl R (.tup s1 l1.1 l1.2)
      · have st : Step ρ H ρ (upd H p' (.tup (xs ++ ys))) := .laid0 hp
        have l3 := (l1.app l2).mono st
        exact h ρ _ _ st (R.side hp) (.tup (.inl (.inl upd_same)) l3.1 l3.2)
    · exact h.elim
  · split at h
    · rename_i l k a b h1 h2
      split at h
      · rename_i hl
        obtain ⟨p, e1, p1⟩ := r1.loc_inv
        obtain ⟨q, e2, p2⟩ := r2.loc_inv
        obtain ⟨xs, H1, l1⟩ := R.lst h1 p1
        obtain ⟨ys, H2, l2⟩ := R.lst h2 p2
        rw [e1, e2]
        refine .inr (.inr ⟨p, q, xs, ys, rfl, rfl, H1, H2, ?_, fun p' hp => ?_⟩)
        · rw [← l1.1, ← l2.1]; exact Nat.le_of_lt (lim_ok hl)
        · obtain ⟨st, R', r'⟩ := new_lst R (l1.app l2) hp
          exact h _ _ _ st R' r'
      · exact h.elim
    · exact h.elim
  · exact h.elim
def rMuls : R2 := fun x y H Q => (rI CMul fun i j => .int (i * j)) x y H Q ∨ rRep x y H Q
theorem op_muls : OpR X (binaryOp .Mult) rMuls := op_mul.or op_rep
theorem Rl.rep {K : PySem.W.Frag} {ρ : List Addr} {H : Hp} {vs : List Val} {xs : List V} (r : Rl K ρ H vs xs) : ∀ k : Nat, Rl K ρ H (List.replicate k vs).flatten (List.replicate k xs).flatten
  | 0 => by simpa using Rl.nil
  | k + 1 => by
    rw [List.replicate_succ, List.replicate_succ, List.flatten_cons, List.flatten_cons]
    exact r.app (r.rep k)
theorem s_mul : OpS (cf X T) opMul rMuls := by
  intro E ρ μ H v w x y Q R r1 r2 h
  unfold opMul at h
  split at h
  · split at h
    · rename_i i j hc
      rw [r1.int_inv, r2.int_inv]
      refine .inl ⟨i, j, rfl, rfl, ?_, h ρ H _ .refl R (.int _)⟩
      simp only [small64, Bool.or_eq_true, Bool.and_eq_true, decide_eq_true_eq] at hc
      exact hc
    · exact h.elim
  · split at h
    · rename_i l k _ a h1
      split at h
      · rename_i hl
        obtain ⟨p, e1, p1⟩ := r1.loc_inv
        obtain ⟨xs, H1, l1⟩ := R.lst h1 p1
        rw [e1, r2.int_inv]
        refine .inr ⟨p, k, xs, rfl, rfl, H1, by omega, by omega, ?_, fun p' hp => ?_⟩
        · rw [← l1.1]; exact Nat.le_of_lt (lim_ok hl.2.2)
        · obtain ⟨st, R', r'⟩ := new_lst R (l1.rep k.toNat) hp
          exact h _ _ _ st R' r'
      · exact h.elim
    · exact h.elim
  · exact h.elim
end
end Mn

/-! Mn4: equality of data, membership, subscripts, slices, built-in functions, methods of lists. -/
namespace Mn
open PySem PySem.Spec PyProof.Rows L2

/-! ### data -/
/-- data to this depth: None, bools, ints, texts, tuples, lists -/
def datN : Nat → Hm → Val → Bool
  | _, _, .non => true
  | _, _, .bl _ => true
  | _, _, .int _ => true
  | _, _, .str s => s.all fun c => decide (c < 0x110000)
  | n + 1, h, .tup vs => vs.all (datN n h)
  | n + 1, h, .ro vs => vs.all (datN n h)
  | n + 1, h, .loc l => match h[l]? with
    | some (.lst vs) => vs.all (datN n h)
    | _ => false
  | _, _, _ => false
def toD : Nat → Hm → Val → PyData
  | _, _, .bl b => .bool b
  | _, _, .int i => .int i
  | _, _, .str s => .str ⟨s.toArray⟩
  | n + 1, h, .tup vs => .tuple (vs.map (toD n h))
  | n + 1, h, .ro vs => .list (vs.map (toD n h))
  | n + 1, h, .loc l => match h[l]? with
    | some (.lst vs) => .list (vs.map (toD n h))
    | _ => .none
  | _, _, _ => .none
def eqvN : Nat → Hm → Val → Val → Bool
  | _, _, .non, .non => true
  | _, _, .bl a, .bl b => a == b
  | _, _, .int a, .int b => a == b
  | _, _, .bl a, .int b => (if a then 1 else 0) == b
  | _, _, .int a, .bl b => a == (if b then 1 else 0)
  | _, _, .str a, .str b => a == b
  | n + 1, h, .tup vs, .tup ws => all2 (eqvN n h) vs ws
  | n + 1, h, v, w => match listOf v h, listOf w h with
    | some vs, some ws => all2 (eqvN n h) vs ws
    | _, _ => false
  | _, _, _, _ => false
theorem datN_list {n : Nat} {h : Hm} {v : Val} {vs : List Val} (e : listOf v h = some vs) : datN (n + 1) h v = vs.all (datN n h) ∧ toD (n + 1) h v = .list (vs.map (toD n h)) := by
  unfold listOf at e
  split at e
  · cases e; exact ⟨by simp only [datN], by simp only [toD]⟩
  · split at e
    · rename_i hl
      cases e
      constructor
      · simp only [datN, hl]
      · simp only [toD, hl]
    · cases e
  · cases e
theorem Rl.dpAll {K : PySem.W.Frag} {H : Hp} {ρ : List Addr} {f : Val → PyData} : ∀ {vs : List Val} {xs : List V}, Rl K ρ H vs xs → (∀ v x, v ∈ vs → Rv K ρ H v x → Dp K H x (f v)) → DpAll K H xs (vs.map f)
  | [], xs, r, _ => by rw [r.nil_of]; exact .nil
  | v :: vs, xs, r, h => by
    obtain ⟨x, ys, rfl, rx, rr⟩ := r.uncons
    exact .cons (h v x List.mem_cons_self rx) (Rl.dpAll rr fun w y hw q => h w y (List.mem_cons_of_mem _ hw) q)
theorem datN_dp {C : Cf} {ρ : List Addr} {μ : Hm} {H : Hp} (R : Rep C ρ μ H) : ∀ (n : Nat) (v : Val) (x : V), datN n μ v = true → Rv C.K ρ H v x → Dp C.K H x (toD n μ v) := by
  intro n
  induction n with
  | zero =>
    intro v x h r
    cases v with
    | non => rw [r.non_inv]; exact .non
    | bl b => rw [r.bl_inv]; exact .bl b
    | int i => rw [r.int_inv]; exact .int i
    | str s => obtain ⟨z, rfl, e⟩ := r.str_inv; simp only [toD]; rw [← e]; exact .str z
    | _ => simp [datN] at h
  | succ n ih =>
    intro v x h r
    cases v with
    | non => rw [r.non_inv]; exact .non
    | bl b => rw [r.bl_inv]; exact .bl b
    | int i => rw [r.int_inv]; exact .int i
    | str s => obtain ⟨z, rfl, e⟩ := r.str_inv; simp only [toD]; rw [← e]; exact .str z
    | tup vs =>
      obtain ⟨a, xs, rfl, s, l⟩ := r.tup_inv
      simp only [datN, List.all_eq_true] at h
      simp only [toD]
      exact .tup s (l.dpAll fun v x hv q => ih v x (h v hv) q)
    | exc c => simp [datN] at h
    | ro vs =>
      obtain ⟨a, xs, rfl, s, l⟩ := listOf_ok R r (vs := vs) rfl
      simp only [datN, List.all_eq_true] at h
      simp only [toD]
      exact .lst s (l.dpAll fun v x hv q => ih v x (h v hv) q)
    | loc k =>
      obtain ⟨a, rfl, ha⟩ := r.loc_inv
      simp only [datN] at h
      split at h
      · rename_i vs hl
        obtain ⟨xs, h1, h2⟩ := R.lst hl ha
        rw [List.all_eq_true] at h
        simp only [toD, hl]
        exact .lst (.inl (.inl h1)) (h2.dpAll fun v x hv q => ih v x (h v hv) q)
      · cases h
theorem all_lay {f : Val → PyData} : ∀ {vs : List Val}, (∀ v ∈ vs, (f v).canLay0 = true) → PyData.canLayAll0 (vs.map f) = true
  | [], _ => by simp [PyData.canLayAll0]
  | v :: vs, h => by
    simp only [List.map_cons, PyData.canLayAll0, Bool.and_eq_true]
    exact ⟨h v List.mem_cons_self, all_lay fun w hw => h w (List.mem_cons_of_mem _ hw)⟩
theorem all_deep {f : Val → PyData} {n : Nat} : ∀ {vs : List Val}, (∀ v ∈ vs, (f v).depth ≤ n) → PyData.depthAll (vs.map f) ≤ n
  | [], _ => by simp [PyData.depthAll]
  | v :: vs, h => by
    simp only [List.map_cons, PyData.depthAll]
    exact Nat.max_le.mpr ⟨h v List.mem_cons_self, all_deep fun w hw => h w (List.mem_cons_of_mem _ hw)⟩
theorem datN_lay {μ : Hm} : ∀ (n : Nat) (v : Val), datN n μ v = true → (toD n μ v).canLay0 = true ∧ (toD n μ v).depth ≤ n := by
  intro n
  induction n with
  | zero =>
    intro v h
    cases v with
    | str s =>
      simp only [datN] at h
      simp only [toD, PyData.canLay0, PyData.depth, PyData.strOk]
      refine ⟨?_, Nat.le_refl _⟩
      simpa using h
    | _ => first | (simp [datN] at h; done) | simp [toD, PyData.canLay0, PyData.depth]
  | succ n ih =>
    intro v h
    cases v with
    | str s =>
      simp only [datN] at h
      simp only [toD, PyData.canLay0, PyData.depth, PyData.strOk]
      refine ⟨?_, Nat.zero_le _⟩
      simpa using h
    | tup vs =>
      simp only [datN, List.all_eq_true] at h
      simp only [toD, PyData.canLay0, PyData.depth]
      exact ⟨all_lay fun v hv => (ih v (h v hv)).1, Nat.succ_le_succ (all_deep fun v hv => (ih v (h v hv)).2)⟩
    | ro vs =>
      simp only [datN, List.all_eq_true] at h
      simp only [toD, PyData.canLay0, PyData.depth]
      exact ⟨all_lay fun v hv => (ih v (h v hv)).1, Nat.succ_le_succ (all_deep fun v hv => (ih v (h v hv)).2)⟩
    | loc k =>
      simp only [datN] at h
      split at h
      · rename_i vs hl
        rw [List.all_eq_true] at h
        simp only [toD, hl, PyData.canLay0, PyData.depth]
        exact ⟨all_lay fun v hv => (ih v (h v hv)).1, Nat.succ_le_succ (all_deep fun v hv => (ih v (h v hv)).2)⟩
      · cases h
    | _ => first | (simp [datN] at h; done) | simp [toD, PyData.canLay0, PyData.depth]
theorem str_beq (a b : List Nat) : ((⟨a.toArray⟩ : Str) == ⟨b.toArray⟩) = (a == b) := by
  by_cases h : a = b
  · subst h; simp
  · have h2 : ¬ (⟨a.toArray⟩ : Str) = ⟨b.toArray⟩ := fun e => h (by injection e with e; simpa using congrArg Array.toList e)
    rw [beq_eq_false_iff_ne.mpr h, beq_eq_false_iff_ne.mpr h2]
theorem all2_eqv {f : Val → Val → Bool} {g : Val → PyData} : ∀ {vs ws : List Val}, (∀ v ∈ vs, ∀ w ∈ ws, f v w = PyData.eqv (g v) (g w)) → all2 f vs ws = PyData.eqvAll (vs.map g) (ws.map g)
  | [], [], _ => by simp [all2, PyData.eqvAll]
  | [], _ :: _, _ => by simp [all2, PyData.eqvAll]
  | _ :: _, [], _ => by simp [all2, PyData.eqvAll]
  | v :: vs, w :: ws, h => by
    simp only [all2, List.map_cons, PyData.eqvAll]
    rw [h v List.mem_cons_self w List.mem_cons_self, all2_eqv fun v' hv w' hw => h v' (List.mem_cons_of_mem _ hv) w' (List.mem_cons_of_mem _ hw)]
theorem eqvN_eq {μ : Hm} : ∀ (n : Nat) (v w : Val), datN n μ v = true → datN n μ w = true → eqvN n μ v w = PyData.eqv (toD n μ v) (toD n μ w) := by
  intro n
  induction n with
  | zero =>
    intro v w hv hw
    cases v <;> first | (simp [datN] at hv; done) | (cases w <;> first | (simp [datN] at hw; done) | simp [eqvN, toD, PyData.eqv, str_beq])
  | succ n ih =>
    intro v w hv hw
    have key : ∀ {vs ws : List Val}, vs.all (datN n μ) = true → ws.all (datN n μ) = true → all2 (eqvN n μ) vs ws = PyData.eqvAll (vs.map (toD n μ)) (ws.map (toD n μ)) := fun {vs ws} h1 h2 =>
      all2_eqv fun v hv w hw => ih v w (List.all_eq_true.mp h1 v hv) (List.all_eq_true.mp h2 w hw)
    have hl : ∀ {k : Nat}, datN (n + 1) μ (.loc k) = true → ∃ vs, μ[k]? = some (.lst vs) ∧ vs.all (datN n μ) = true := fun {k} h => by
      simp only [datN] at h
      split at h
      · rename_i vs e; exact ⟨vs, e, h⟩
      · cases h
    cases v with
    | exc c => simp [datN] at hv
    | tup vs =>
      cases w with
      | tup ws =>
        simp only [datN] at hv hw
        simp only [eqvN, toD, PyData.eqv]
        exact key hv hw
      | loc k => obtain ⟨ws, e, _⟩ := hl hw; simp [eqvN, toD, PyData.eqv, listOf, e]
      | _ => first | (simp [datN] at hw; done) | simp [eqvN, toD, PyData.eqv, listOf]
    | ro vs =>
      simp only [datN] at hv
      cases w with
      | ro ws => simp only [datN] at hw; simp only [eqvN, toD, PyData.eqv, listOf]; exact key hv hw
      | loc k => obtain ⟨ws, e, hw⟩ := hl hw; simp only [eqvN, toD, PyData.eqv, listOf, e]; exact key hv hw
      | _ => first | (simp [datN] at hw; done) | simp [eqvN, toD, PyData.eqv, listOf]
    | loc j =>
      obtain ⟨vs, e1, hv⟩ := hl hv
      cases w with
      | ro ws => simp only [datN] at hw; simp only [eqvN, toD, PyData.eqv, listOf, e1]; exact key hv hw
      | loc k => obtain ⟨ws, e, hw⟩ := hl hw; simp only [eqvN, toD, PyData.eqv, listOf, e, e1]; exact key hv hw
      | _ => first | (simp [datN] at hw; done) | simp [eqvN, toD, PyData.eqv, listOf, e1]
    | _ =>
      cases w with
      | exc c => simp [datN] at hw
      | loc k => obtain ⟨ws, e, hw⟩ := hl hw; simp [eqvN, toD, PyData.eqv, listOf, e]
      | _ => simp [eqvN, toD, PyData.eqv, listOf, str_beq]

def opEq : Val → Val → Hm → R Val := fun v w h => if datN 40 h v && datN 40 h w then .ok (.bl (eqvN 40 h v w)) h else .bad
def opNe : Val → Val → Hm → R Val := fun v w h => if datN 40 h v && datN 40 h w then .ok (.bl (!eqvN 40 h v w)) h else .bad
section
variable {X : Cx} {T : Tab}
theorem shaped_of {μ : Hm} {v : Val} (h : datN 40 μ v = true) : SeqAt.shaped (toD 40 μ v) = true := by
  obtain ⟨h1, h2⟩ := datN_lay 40 v h
  unfold SeqAt.shaped
  rw [Bool.and_eq_true]
  exact ⟨h1, decide_eq_true (Nat.le_trans h2 (by decide))⟩
theorem s_eq : OpS (cf X T) opEq (rEqD X.K) := by
  intro E ρ μ H v w x y Q R r1 r2 h
  unfold opEq at h
  split at h
  · rename_i hd
    rw [Bool.and_eq_true] at hd
    rw [eqvN_eq 40 v w hd.1 hd.2] at h
    exact ⟨_, _, datN_dp R 40 v x hd.1 r1, datN_dp R 40 w y hd.2 r2, shaped_of hd.1, shaped_of hd.2, h ρ H _ .refl R (.bl _)⟩
  · exact h.elim
theorem s_ne : OpS (cf X T) opNe (rNeD X.K) := by
  intro E ρ μ H v w x y Q R r1 r2 h
  unfold opNe at h
  split at h
  · rename_i hd
    rw [Bool.and_eq_true] at hd
    rw [eqvN_eq 40 v w hd.1 hd.2] at h
    exact ⟨_, _, datN_dp R 40 v x hd.1 r1, datN_dp R 40 w y hd.2 r2, shaped_of hd.1, shaped_of hd.2, h ρ H _ .refl R (.bl _)⟩
  · exact h.elim
theorem any_congr_on {ws : List Val} {f g : Val → Bool} (h : ∀ z ∈ ws, f z = g z) : ws.any f = ws.any g := by
  induction ws with
  | nil => rfl
  | cons a r ih => rw [List.any_cons, List.any_cons, h a List.mem_cons_self, ih fun z hz => h z (List.mem_cons_of_mem _ hz)]
/-- in a list of data -/
def opIn : Val → Val → Hm → R Val := fun v w h => match listOf w h with
  | some ws => if datN 39 h v && ws.all (datN 39 h) then .ok (.bl (ws.any fun z => eqvN 39 h z v)) h else .bad
  | none => .bad
def opNotIn : Val → Val → Hm → R Val := fun v w h => match listOf w h with
  | some ws => if datN 39 h v && ws.all (datN 39 h) then .ok (.bl (!ws.any fun z => eqvN 39 h z v)) h else .bad
  | none => .bad
theorem shaped39 {μ : Hm} {v : Val} (h : datN 39 μ v = true) : SeqAt.shaped (toD 39 μ v) = true := by
  obtain ⟨h1, h2⟩ := datN_lay 39 v h
  unfold SeqAt.shaped
  rw [Bool.and_eq_true]
  exact ⟨h1, decide_eq_true (Nat.le_trans h2 (by decide))⟩
theorem in_of {E : XK} {ρ : List Addr} {μ : Hm} {H : Hp} {v w : Val} {x y : V} {ws : List Val} (R : Rep (cf X T) ρ μ H) (r1 : Rv X.K ρ H v x) (r2 : Rv X.K ρ H w y) (e : listOf w μ = some ws) (hd : (datN 39 μ v && ws.all (datN 39 μ)) = true) :
    Dp X.K H x (toD 39 μ v) ∧ Dp X.K H y (.list (ws.map (toD 39 μ))) ∧ SeqAt.shaped (toD 39 μ v) = true ∧ SeqAt.shaped (.list (ws.map (toD 39 μ))) = true ∧
      ((ws.map (toD 39 μ)).any fun z => PyData.eqv z (toD 39 μ v)) = ws.any fun z => eqvN 39 μ z v := by
  rw [Bool.and_eq_true] at hd
  obtain ⟨a, xs, rfl, s, l⟩ := listOf_ok R r2 e
  have ha := List.all_eq_true.mp hd.2
  refine ⟨datN_dp R 39 v x hd.1 r1, .lst s (l.dpAll fun v x hv q => datN_dp R 39 v x (ha v hv) q), shaped39 hd.1, ?_, ?_⟩
  · unfold SeqAt.shaped
    rw [Bool.and_eq_true]
    refine ⟨?_, decide_eq_true ?_⟩
    · simp only [PyData.canLay0]; exact all_lay fun v hv => (datN_lay 39 v (ha v hv)).1
    · simp only [PyData.depth]
      have := all_deep (f := toD 39 μ) (n := 39) fun v hv => (datN_lay 39 v (ha v hv)).2
      omega
  · rw [List.any_map]
    exact any_congr_on fun z hz => (eqvN_eq 39 z v (ha z hz) hd.1).symm
theorem s_in : OpS (cf X T) opIn (rInD X.K) := by
  intro E ρ μ H v w x y Q R r1 r2 h
  unfold opIn at h
  split at h
  · rename_i ws e
    split at h
    · rename_i hd
      obtain ⟨a1, a2, a3, a4, a5⟩ := in_of (E := E) R r1 r2 e hd
      rw [← a5] at h
      exact ⟨_, _, a1, a2, a3, a4, h ρ H _ .refl R (.bl _)⟩
    · exact h.elim
  · exact h.elim
theorem s_notin : OpS (cf X T) opNotIn (rNotInD X.K) := by
  intro E ρ μ H v w x y Q R r1 r2 h
  unfold opNotIn at h
  split at h
  · rename_i ws e
    split at h
    · rename_i hd
      obtain ⟨a1, a2, a3, a4, a5⟩ := in_of (E := E) R r1 r2 e hd
      rw [← a5] at h
      exact ⟨_, _, a1, a2, a3, a4, h ρ H _ .refl R (.bl _)⟩
    · exact h.elim
  · exact h.elim
end
end Mn

/-! Mn5: dicts, subscripts, slices. -/
namespace Mn
open PySem PySem.Spec PyProof.Rows L2

/-! ### keys -/
theorem all2_key {n : Nat} {f : Val → NestedKey} {g : Val → Val → Bool} : ∀ {vs ws : List Val}, (∀ v ∈ vs, ∀ w ∈ ws, g v w = decide (f v = f w)) → all2 g vs ws = decide (vs.map f = ws.map f)
  | [], [], _ => by simp [all2]
  | [], _ :: _, _ => by simp [all2]
  | _ :: _, [], _ => by simp [all2]
  | v :: vs, w :: ws, h => by
    simp only [all2, List.map_cons, List.cons.injEq]
    rw [h v List.mem_cons_self w List.mem_cons_self, all2_key (n := n) fun v' hv w' hw => h v' (List.mem_cons_of_mem _ hv) w' (List.mem_cons_of_mem _ hw)]
    by_cases a : f v = f w
    · by_cases b : vs.map f = ws.map f
      · simp [a, b]
      · simp [a, b]
    · simp [a]
theorem str_eq (a b : List Nat) : (a == b) = decide ((⟨a.toArray⟩ : Str) = ⟨b.toArray⟩) := by
  by_cases h : a = b
  · subst h; simp
  · have h2 : ¬ (⟨a.toArray⟩ : Str) = ⟨b.toArray⟩ := fun e => h (by injection e with e; simpa using congrArg Array.toList e)
    rw [beq_eq_false_iff_ne.mpr h, decide_eq_false h2]
theorem keqN_eq : ∀ (n : Nat) (v w : Val), v.isKeyN n = true → w.isKeyN n = true → keqN n v w = decide (nkeyN n v = nkeyN n w) := by
  intro n
  induction n with
  | zero =>
    intro v w hv hw
    cases v <;> first | (simp [Val.isKeyN] at hv; done) | (cases w <;> first | (simp [Val.isKeyN] at hw; done) | (simp only [keqN, nkeyN]; first | (simp; done) | (rw [str_eq]; simp; done) | (simp [Bool.beq_eq_decide_eq] <;> (try (rename_i a b; cases a <;> cases b <;> decide)))))
  | succ n ih =>
    intro v w hv hw
    have key : ∀ {vs ws : List Val}, vs.all (Val.isKeyN n) = true → ws.all (Val.isKeyN n) = true → all2 (keqN n) vs ws = decide (vs.map (nkeyN n) = ws.map (nkeyN n)) := fun {vs ws} h1 h2 =>
      all2_key (n := n) fun v hv w hw => ih v w (List.all_eq_true.mp h1 v hv) (List.all_eq_true.mp h2 w hw)
    cases v <;> first
      | (simp [Val.isKeyN] at hv; done)
      | (cases w <;> first
          | (simp [Val.isKeyN] at hw; done)
          | (simp only [Val.isKeyN] at hv hw; simp only [keqN, nkeyN]; first | (simp; done) | (rw [str_eq]; simp; done) | (rw [key hv hw]; simp; done) | (simp [Bool.beq_eq_decide_eq] <;> (try (rename_i a b; cases a <;> cases b <;> decide)))))
theorem nested_all {h : Heap} {f : Val → NestedKey} {K : PySem.W.Frag} {ρ : List Addr} {H : Hp} : ∀ {vs : List Val} {xs : List V} {us : List Value}, Rl K ρ H vs xs → Vals xs us → (∀ v x u, v ∈ vs → Rv K ρ H v x → RelV x u → NestedIs h (f v) u) → NestedAll h (vs.map f) us
  | [], xs, us, r, q, _ => by
    rw [r.nil_of] at q
    cases q
    exact .nil
  | v :: vs, xs, us, r, q, hh => by
    obtain ⟨x, ys, rfl, rx, rr⟩ := r.uncons
    cases q with
    | cons ru rus => exact .cons (hh v x _ List.mem_cons_self rx ru) (nested_all rr rus fun w y z hw a b => hh w y z (List.mem_cons_of_mem _ hw) a b)
theorem depth_all {f : Val → NestedKey} {n : Nat} : ∀ {vs : List Val}, (∀ v ∈ vs, (f v).depth ≤ n) → NestedKey.depthAll (vs.map f) ≤ n
  | [], _ => by simp [NestedKey.depthAll]
  | v :: vs, h => by
    simp only [List.map_cons, NestedKey.depthAll]
    exact Nat.max_le.mpr ⟨h v List.mem_cons_self, depth_all fun w hw => h w (List.mem_cons_of_mem _ hw)⟩
section
variable {X : Cx} {T : Tab} {pins : List (Addr × Obj)} {σ : L2.St} {H : Hp} {s : Shared} {ρ : List Addr}
theorem key_is (I : Inv X pins σ H s) : ∀ (n : Nat) (v : Val) (x : V) (u : Value), v.isKeyN n = true → Rv X.K ρ H v x → RelV x u → NestedIs s.heap (nkeyN n v) u := by
  intro n
  induction n with
  | zero =>
    intro v x u h r q
    cases v with
    | non => rw [r.non_inv] at q; cases q; exact .none
    | bl b => rw [r.bl_inv] at q; cases q; exact .bool rfl
    | int i => rw [r.int_inv] at q; obtain ⟨t, rfl⟩ := q; exact .int i t
    | str a => obtain ⟨z, rfl, e⟩ := r.str_inv; obtain ⟨t, rfl⟩ := q; simp only [nkeyN]; rw [← e]; exact .text z t
    | _ => simp [Val.isKeyN] at h
  | succ n ih =>
    intro v x u h r q
    cases v with
    | non => rw [r.non_inv] at q; cases q; exact .none
    | bl b => rw [r.bl_inv] at q; cases q; exact .bool rfl
    | int i => rw [r.int_inv] at q; obtain ⟨t, rfl⟩ := q; exact .int i t
    | str a => obtain ⟨z, rfl, e⟩ := r.str_inv; obtain ⟨t, rfl⟩ := q; simp only [nkeyN]; rw [← e]; exact .text z t
    | tup vs =>
      simp only [Val.isKeyN, List.all_eq_true] at h
      obtain ⟨a, xs, rfl, sq, l⟩ := r.tup_inv
      obtain rfl : u = Value.ref a := q
      obtain ⟨its, rv, ⟨o, ho, hc, m, hd⟩, _⟩ := I.tuple sq
      simp only [nkeyN]
      exact .tup ho hc hd (by simpa using nested_all l rv fun v x u hv a b => ih v x u (h v hv) a b)
    | _ => simp [Val.isKeyN] at h
theorem key_depth : ∀ (n : Nat) (v : Val), v.isKeyN n = true → (nkeyN n v).depth ≤ n := by
  intro n
  induction n with
  | zero => intro v h; cases v <;> first | (simp [Val.isKeyN] at h; done) | simp [nkeyN, NestedKey.depth]
  | succ n ih =>
    intro v h
    cases v <;> first
      | (simp [Val.isKeyN] at h; done)
      | (simp [nkeyN, NestedKey.depth]; done)
      | (simp only [Val.isKeyN, List.all_eq_true] at h
         simp only [nkeyN, NestedKey.depth]
         exact Nat.succ_le_succ (depth_all fun v hv => ih v (h v hv)))
/-- a tuple as a key, in the model's heap -/
theorem key_ok (I : Inv X pins σ H s) {v : Val} {b : Addr} (h : v.isKeyN 8 = true) (r : Rv X.K ρ H v (.ref b)) : (nestedKind X.prog X.w).is s.heap (nkeyN 8 v) b := ⟨key_is I 8 v _ _ h r rfl, key_depth 8 v h⟩
end

/-! ### a dict with tuple keys -/
def dnGet (kvs : List (Val × Val)) (k : Val) : Option Val := match kvs with
  | [] => none
  | p :: r => if keqN 8 p.1 k then some p.2 else dnGet r k
def dnSet (kvs : List (Val × Val)) (k v : Val) : List (Val × Val) := match kvs with
  | [] => [(k, v)]
  | p :: r => if keqN 8 p.1 k then (p.1, v) :: r else p :: dnSet r k v
abbrev DnR (K : PySem.W.Frag) (ρ : List Addr) (H : Hp) : List (Val × Val) → List (NestedKey × Addr × Value) → Prop :=
  Paired (fun (p : Val × Val) (q : NestedKey × Addr × Value) => p.1.isKeyN 8 = true ∧ nkeyN 8 p.1 = q.1 ∧ Rv K ρ H p.1 (.ref q.2.1) ∧ ∃ x, RelV x q.2.2 ∧ Rv K ρ H p.2 x)
section
variable {K : PySem.W.Frag} {ρ : List Addr} {H : Hp} {kvs : List (Val × Val)} {es : List (NestedKey × Addr × Value)} {k v : Val}
theorem atKey_cons (q : NestedKey × Addr × Value) (r : List (NestedKey × Addr × Value)) (k : NestedKey) : atKey (q :: r) k = if q.1 = k then some q.2 else atKey r k := by
  unfold atKey
  rw [List.find?_cons]
  by_cases h : q.1 = k
  · simp [h]
  · simp [h]
theorem DnR.get (r : DnR K ρ H kvs es) (hk : k.isKeyN 8 = true) : (∀ v, dnGet kvs k = some v → ∃ b u x, atKey es (nkeyN 8 k) = some (b, u) ∧ RelV x u ∧ Rv K ρ H v x) ∧ (dnGet kvs k = none → atKey es (nkeyN 8 k) = none) := by
  induction r with
  | nil => exact ⟨fun v h => by simp [dnGet] at h, fun _ => rfl⟩
  | @cons p q ps qs h t ih =>
    obtain ⟨h1, h2, h3, x, h4, h5⟩ := h
    have e := keqN_eq 8 p.1 k h1 hk
    rw [h2] at e
    unfold dnGet
    rw [atKey_cons, e]
    by_cases c : q.1 = nkeyN 8 k
    · rw [if_pos c, decide_eq_true c, if_pos rfl]
      exact ⟨fun v hv => by cases hv; exact ⟨q.2.1, q.2.2, x, rfl, h4, h5⟩, fun z => by cases z⟩
    · rw [if_neg c, decide_eq_false c, if_neg (by decide)]
      exact ih
theorem map_put_id {k : NestedKey} {u : Value} : ∀ {es : List (NestedKey × Addr × Value)}, (∀ q ∈ es, ¬ q.1 = k) → es.map (putAt k u) = es
  | [], _ => rfl
  | q :: qs, h => by
    rw [List.map_cons, map_put_id fun p hp => h p (List.mem_cons_of_mem _ hp)]
    unfold putAt
    rw [if_neg (h q List.mem_cons_self)]
theorem DnR.set (r : DnR K ρ H kvs es) (nd : (es.map (·.1)).Nodup) (hk : k.isKeyN 8 = true) {b : Addr} {x : V} {u : Value} (rk : Rv K ρ H k (.ref b)) (ru : RelV x u) (rv : Rv K ρ H v x) : DnR K ρ H (dnSet kvs k v) (storedH es (nkeyN 8 k) b u) := by
  have step : ∀ (q : NestedKey × Addr × Value) (qs : List (NestedKey × Addr × Value)), ¬ q.1 = nkeyN 8 k → storedH (q :: qs) (nkeyN 8 k) b u = q :: storedH qs (nkeyN 8 k) b u := fun q qs c => by
    unfold storedH
    rw [atKey_cons, if_neg c]
    split
    · rw [List.map_cons]; unfold putAt; rw [if_neg c]
    · rfl
  induction r with
  | nil => exact .cons ⟨hk, rfl, rk, x, ru, rv⟩ .nil
  | @cons p q ps qs h t ih =>
    obtain ⟨h1, h2, h3, y, h4, h5⟩ := id h
    have e := keqN_eq 8 p.1 k h1 hk
    rw [h2] at e
    rw [List.map_cons, List.nodup_cons] at nd
    unfold dnSet
    rw [e]
    by_cases c : q.1 = nkeyN 8 k
    · rw [decide_eq_true c, if_pos rfl]
      unfold storedH
      rw [atKey_cons, if_pos c]
      simp only [Option.isSome_some, if_true, List.map_cons]
      have hq : putAt (nkeyN 8 k) u q = (q.1, q.2.1, u) := by unfold putAt; rw [if_pos c]
      rw [hq, map_put_id fun z hz e => nd.1 (by rw [c, ← e]; exact List.mem_map_of_mem hz)]
      exact .cons ⟨h1, h2, h3, x, ru, rv⟩ t
    · rw [decide_eq_false c, if_neg (by decide), step q qs c]
      exact .cons h (ih nd.2)
theorem dnSet_len (k v : Val) : ∀ kvs : List (Val × Val), (dnSet kvs k v).length ≤ kvs.length + 1
  | [] => by simp [dnSet]
  | p :: r => by
    unfold dnSet
    split
    · simp
    · have := dnSet_len k v r; simp; omega
end
section
variable {X : Cx} {T : Tab} {pins : List (Addr × Obj)} {σ : L2.St} {H : Hp} {s : Shared} {ρ : List Addr} {kvs : List (Val × Val)} {a : Addr}
theorem dN_at (I : Inv X pins σ H s) (r : Ro (cf X T) ρ H (.dN kvs) a) :
    ∃ es, H a = some (RawD X.prog X.w a es) ∧ (a == sysModules) = false ∧ s.heap.DictOfH (nestedKind X.prog X.w) a es ∧ DnR X.K ρ H kvs es ∧ (es.map (·.1)).Nodup := by
  obtain ⟨es, h1, h2, h3, h4⟩ := r
  refine ⟨es, h1, h2, ?_, h4, h3⟩
  obtain ⟨⟨o, ar, ep, e1, e2, e3, e4⟩, _, _⟩ := I.hok a _ h1
  refine ⟨o, ar, ep, e1, e2, e3, e4, ?_, h3⟩
  have : ∀ {ks : List (Val × Val)} {qs : List (NestedKey × Addr × Value)}, DnR X.K ρ H ks qs → ∀ q ∈ qs, (nestedKind X.prog X.w).is s.heap q.1 q.2.1 := by
    intro ks qs r
    induction r with
    | nil => intro q hq; simp at hq
    | @cons p q ps qs h t ih =>
      intro z hz
      rcases List.mem_cons.mp hz with rfl | hz
      · obtain ⟨x1, x2, x3, _⟩ := h
        rw [← x2]
        exact key_ok I x1 x3
      · exact ih z hz
  exact this h4
/-- d[k], k in d: tuple keys -/
def rIxN (C : Cf) : R2 := fun x y H Q => ∃ ρ a b kvs k v, x = .ref a ∧ y = .ref b ∧ Ro C ρ H (.dN kvs) a ∧ k.isKeyN 8 = true ∧ Rv C.K ρ H k (.ref b) ∧ dnGet kvs k = some v ∧ ∀ z, Rv C.K ρ H v z → Q z H
theorem ix_dN (hu : X.A.units + 9 < cLine) : IxR X (rIxN (cf X T)) := by
  intro value slice pins s σ H x y v u Q I rx ry h hs
  obtain ⟨ρ, a, b, kvs, k, w, rfl, rfl, r, hk, rk, g, q⟩ := h
  cases rx
  cases ry
  obtain ⟨es, h1, h2, h3, h4, _⟩ := dN_at I r
  obtain ⟨c, u, x, e1, e2, e3⟩ := (h4.get hk).1 w g
  exact tail_any h3.typeIs slot_dict_getitem.lookup (wpAny_getItem_heap (by show X.A.units + 1 + 8 < cLine; omega) (key_ok I hk rk) h3 e1 ⟨x, H, I.tok _, e2, q x e3⟩) hs
def rIxK : R2 := fun x y H Q => ∃ a v, x = .ref a ∧ DGet H a y (some v) ∧ Q v H
theorem ix_dK (hu : X.A.units + 1 < cLine) : IxR X rIxK := by
  intro value slice pins s σ H x y v u Q I rx ry h hs
  obtain ⟨a, w, rfl, g, q⟩ := h
  cases rx
  exact tail_any (dict_typeIs I g) slot_dict_getitem.lookup (d_getItem hu I g ry fun w' s' I' r' => ⟨w, H, I', r', q⟩) hs
def rInN (C : Cf) (neg : Bool) : R2 := fun x y H Q => ∃ ρ a b kvs k, y = .ref a ∧ x = .ref b ∧ Ro C ρ H (.dN kvs) a ∧ k.isKeyN 8 = true ∧ Rv C.K ρ H k (.ref b) ∧ Q (.bl (if neg then !(dnGet kvs k).isSome else (dnGet kvs k).isSome)) H
theorem dn_some {k : Val} {es : List (NestedKey × Addr × Value)} (r : DnR X.K ρ H kvs es) (hk : k.isKeyN 8 = true) : (atKey es (nkeyN 8 k)).isSome = (dnGet kvs k).isSome := by
  obtain ⟨g1, g2⟩ := r.get hk
  cases e : dnGet kvs k with
  | none => rw [g2 e]; rfl
  | some v => obtain ⟨b, u, x, e1, _⟩ := g1 v e; rw [e1]; rfl
theorem op_inN (hu : X.A.units + 9 < cLine) : OpR X (compareOp .In) (rInN (cf X T) false) := by
  intro pins s σ H x y v u Q I rx ry h
  obtain ⟨ρ, a, b, kvs, k, rfl, rfl, r, hk, rk, q⟩ := h
  cases rx
  cases ry
  obtain ⟨es, h1, h2, h3, h4, _⟩ := dN_at I r
  refine wpAny_in_heap (by show X.A.units + 1 + 8 < cLine; omega) (key_ok I hk rk) h2 h3 ⟨.bl _, H, I.tok _, ?_, q⟩
  rw [dn_some h4 hk]; rfl
theorem op_notInN (hu : X.A.units + 9 < cLine) : OpR X (compareOp .NotIn) (rInN (cf X T) true) := by
  intro pins s σ H x y v u Q I rx ry h
  obtain ⟨ρ, a, b, kvs, k, rfl, rfl, r, hk, rk, q⟩ := h
  cases rx
  cases ry
  obtain ⟨es, h1, h2, h3, h4, _⟩ := dN_at I r
  refine notIn_keyed (by show X.A.units + 1 + 8 < cLine; omega) (key_ok I hk rk) h2 ⟨es, h3, rfl⟩ ⟨.bl _, H, I.tok _, ?_, q⟩
  rw [valueAt_pairsH, Option.isSome_map, dn_some h4 hk]; rfl
def rInK (neg : Bool) : R2 := fun x y H Q => ∃ a o, y = .ref a ∧ DGet H a x o ∧ Q (.bl (if neg then !o.isSome else o.isSome)) H
theorem op_inK (hu : X.A.units + 1 < cLine) : OpR X (compareOp .In) (rInK false) := by
  intro pins s σ H x y v u Q I rx ry h
  obtain ⟨a, o, rfl, g, q⟩ := h
  cases ry
  exact d_in hu I g rx fun s' I' => ⟨.bl _, H, I', rfl, q⟩
theorem op_notInK (hu : X.A.units + 1 < cLine) : OpR X (compareOp .NotIn) (rInK true) := by
  intro pins s σ H x y v u Q I rx ry h
  obtain ⟨a, o, rfl, g, q⟩ := h
  cases ry
  exact d_notIn hu I g rx fun s' I' => ⟨.bl _, H, I', rfl, q⟩
/-- d[k] = v, tuple keys -/
theorem dN_set {C : Cf} {μ : Hm} {l : Nat} {es : List (NestedKey × Addr × Value)} {k v : Val} {b : Addr} {x : V} {u : Value} (R : Rep C ρ μ H) (hl : ρ[l]? = some a) (h1 : H a = some (RawD C.P C.w a es)) (h2 : (a == sysModules) = false) (nd : (es.map (·.1)).Nodup) (r : DnR C.K ρ H kvs es)
    (nd' : ((storedH es (nkeyN 8 k) b u).map (·.1)).Nodup) (hk : k.isKeyN 8 = true) (rk : Rv C.K ρ H k (.ref b)) (ru : RelV x u) (rv : Rv C.K ρ H v x) :
    Rep C ρ (μ.set l (.dN (dnSet kvs k v))) (upd H a (RawD C.P C.w a (storedH es (nkeyN 8 k) b u))) ∧ Step ρ H ρ (upd H a (RawD C.P C.w a (storedH es (nkeyN 8 k) b u))) := by
  have st : Step ρ H ρ (upd H a (RawD C.P C.w a (storedH es (nkeyN 8 k) b u))) := Step.wrote R (List.mem_of_getElem? hl)
  refine ⟨R.write hl ⟨_, upd_same, h2, nd', ?_⟩, st⟩
  exact Paired.mapP (r.set nd hk rk ru rv) fun _ _ ⟨x1, x2, x3, x, x4, x5⟩ => ⟨x1, x2, x3.mono st, x, x4, x5.mono st⟩
theorem raw_ok {P : Program} {w : World} {H : Hp} {h : Heap} {a : Addr} {es : List (NestedKey × Addr × Value)} (d : h.DictOfH (nestedKind P w) a es) : ObjOk P w H h a (RawD P w a es) := by
  obtain ⟨o, ar, ep, e1, e2, e3, e4, _, _⟩ := d
  refine ⟨⟨o, ar, ep, e1, e2, e3, e4⟩, ⟨o, e1⟩, fun h1 h2 ⟨o', ar', ep', f1, f2, f3, f4⟩ k => ⟨o', ar', ep', k _ f1, f2, f3, f4⟩⟩
def rSetN (C : Cf) : V → V → V → Hp → (Hp → Prop) → Prop := fun o i v H Q => ∃ ρ μ l a b kvs k w, o = .ref a ∧ i = .ref b ∧ Rep C ρ μ H ∧ ρ[l]? = some a ∧ μ[l]? = some (.dN kvs) ∧ kvs.length < lim ∧ k.isKeyN 8 = true ∧ Rv C.K ρ H k (.ref b) ∧ Rv C.K ρ H w v ∧
  ∀ H', Step ρ H ρ H' → Rep C ρ (μ.set l (.dN (dnSet kvs k w))) H' → Q H'
theorem set_dN (hu : X.A.units + 9 < cLine) : PSet X (rSetN (cf X T)) := by
  intro pins s σ H o i v ov iv u Q I ro ri rv h
  obtain ⟨ρ, μ, l, a, b, kvs, k, w, rfl, rfl, R, hl, hm, hz, hk, rk, rw', q⟩ := h
  cases ro
  cases ri
  obtain ⟨a', ha', r⟩ := R.get hm
  rw [hl] at ha'; cases ha'
  obtain ⟨es, h1, h2, h3, h4, nd⟩ := dN_at I r
  have hsz : es.length ≤ sizeLine := by rw [← Paired.length h4]; exact Nat.le_of_lt (lim_ok hz)
  refine wpAny_setItem_heap (hsz := hsz) (by show X.A.units + 1 + 8 < cLine; omega) (key_ok I hk rk) h3 fun h' d' hs => ?_
  have nd' : ((storedH es (nkeyN 8 k) b u).map (·.1)).Nodup := let ⟨_, _, _, _, _, _, _, _, z⟩ := d'; z
  obtain ⟨R', st⟩ := dN_set (C := cf X T) R hl h1 h2 nd h4 nd' hk rk rv rw'
  have he : ∃ q, h'.get? a = some q := let ⟨q, _, _, hq, _⟩ := d'; ⟨q, hq⟩
  exact ⟨_, d_write I (by rw [h1]; exact True.intro) hs he (raw_ok d'), q _ st R'⟩
end

/-! ### dicts with int and text keys -/
def dkGet (kvs : List (Val × Val)) (k : Val) : Option Val := match kvs with
  | [] => none
  | p :: r => if keqN 0 p.1 k then some p.2 else dkGet r k
def dkSet (kvs : List (Val × Val)) (k v : Val) : List (Val × Val) := if (dkGet kvs k).isSome then kvs.map (fun p => if keqN 0 p.1 k then (p.1, v) else p) else kvs ++ [(k, v)]
def dkDel (kvs : List (Val × Val)) (k : Val) : List (Val × Val) := match kvs with
  | [] => []
  | p :: r => if keqN 0 p.1 k then dkDel r k else p :: dkDel r k
theorem keq_k {v w : Val} {a b : Key} (hv : kOf v = some a) (hw : kOf w = some b) : keqN 0 v w = decide (a = b) := by
  cases v <;> first
    | (simp [kOf] at hv; done)
    | (cases w <;> first
        | (simp [kOf] at hw; done)
        | (simp only [kOf, Option.some.injEq] at hv hw
           subst hv hw
           simp only [keqN]
           first
             | (rw [str_eq]; simp; done)
             | (simp [Bool.beq_eq_decide_eq]; done)
             | simp))
theorem kOf_V {K : PySem.W.Frag} {ρ : List Addr} {H : Hp} {v : Val} {x : V} {a : Key} (r : Rv K ρ H v x) (h : kOf v = some a) : x = kV a := by
  cases v with
  | int i => cases h; rw [r.int_inv]; rfl
  | str s => cases h; obtain ⟨z, rfl, e⟩ := r.str_inv; rw [← e]; rfl
  | _ => simp [kOf] at h
abbrev DkR (K : PySem.W.Frag) (ρ : List Addr) (H : Hp) : List (Val × Val) → List (Key × V) → Prop := Paired (fun (p : Val × Val) (q : Key × V) => kOf p.1 = some q.1 ∧ Rv K ρ H p.2 q.2)
section
variable {K : PySem.W.Frag} {ρ : List Addr} {H : Hp} {kvs : List (Val × Val)} {es : List (Key × V)} {k v : Val} {c : Key}
theorem valV_cons {q : Key × V} {r : List (Key × V)} {k : Key} : valV (q :: r) k = if q.1 = k then some q.2 else valV r k := by
  by_cases h : q.1 = k
  · rw [if_pos h, valV_pos h]
  · rw [if_neg h, valV_neg h]
theorem DkR.get (r : DkR K ρ H kvs es) (hk : kOf k = some c) : (∀ v, dkGet kvs k = some v → ∃ x, valV es c = some x ∧ Rv K ρ H v x) ∧ (dkGet kvs k = none → valV es c = none) := by
  induction r with
  | nil => exact ⟨fun v h => by simp [dkGet] at h, fun _ => rfl⟩
  | @cons p q ps qs h t ih =>
    obtain ⟨h1, h2⟩ := h
    have e := keq_k h1 hk
    unfold dkGet
    rw [valV_cons, e]
    by_cases d : q.1 = c
    · rw [if_pos d, decide_eq_true d, if_pos rfl]
      exact ⟨fun v hv => by cases hv; exact ⟨q.2, rfl, h2⟩, fun z => by cases z⟩
    · rw [if_neg d, decide_eq_false d, if_neg (by decide)]
      exact ih
theorem DkR.map (r : DkR K ρ H kvs es) (hk : kOf k = some c) {x : V} (rv : Rv K ρ H v x) : DkR K ρ H (kvs.map fun p => if keqN 0 p.1 k then (p.1, v) else p) (es.map fun kv => if kv.1 = c then (kv.1, x) else kv) := by
  induction r with
  | nil => exact .nil
  | @cons p q ps qs h t ih =>
    rw [List.map_cons, List.map_cons]
    refine .cons ?_ ih
    obtain ⟨h1, h2⟩ := h
    rw [keq_k h1 hk]
    by_cases d : q.1 = c
    · rw [decide_eq_true d, if_pos rfl, if_pos d]; exact ⟨h1, rv⟩
    · rw [decide_eq_false d, if_neg (by decide), if_neg d]; exact ⟨h1, h2⟩
theorem DkR.set (r : DkR K ρ H kvs es) (hk : kOf k = some c) {x : V} (rv : Rv K ρ H v x) : DkR K ρ H (dkSet kvs k v) (putK es c x) := by
  obtain ⟨g1, g2⟩ := r.get hk
  unfold dkSet putK
  rw [valV_any]
  cases e : dkGet kvs k with
  | none =>
    rw [g2 e]
    exact Paired.snoc r ⟨hk, rv⟩
  | some w =>
    obtain ⟨y, e1, _⟩ := g1 w e
    rw [e1]
    exact r.map hk rv
theorem DkR.del (r : DkR K ρ H kvs es) (hk : kOf k = some c) : DkR K ρ H (dkDel kvs k) (dropK es c) := by
  induction r with
  | nil => exact .nil
  | @cons p q ps qs h t ih =>
    unfold dkDel dropK
    rw [List.filter_cons, keq_k h.1 hk]
    by_cases d : q.1 = c
    · rw [decide_eq_true d, if_pos rfl, if_neg (by simp [d])]; exact ih
    · rw [decide_eq_false d, if_neg (by decide), if_pos (by simp [d])]; exact .cons h ih
theorem dkSet_len : (dkSet kvs k v).length ≤ kvs.length + 1 := by
  unfold dkSet
  split <;> simp
end
/-! ### d[k] = v -/
section
variable {C : Cf} {ρ : List Addr} {H : Hp} {μ : Hm} {kvs : List (Val × Val)} {a : Addr} {l : Nat} {k v : Val} {c : Key} {y x : V}
theorem Rep.dK (R : Rep C ρ μ H) (h : μ[l]? = some (.dK kvs)) (ha : ρ[l]? = some a) : ∃ ks, H a = some (.dK ks) ∧ DkR C.K ρ H kvs ks := by
  obtain ⟨b, hb, r⟩ := R.get h
  rw [ha] at hb; cases hb
  exact r
theorem Rep.dN (R : Rep C ρ μ H) (h : μ[l]? = some (.dN kvs)) (ha : ρ[l]? = some a) : Ro C ρ H (.dN kvs) a := by
  obtain ⟨b, hb, r⟩ := R.get h
  rw [ha] at hb; cases hb
  exact r
theorem Rep.setK (R : Rep C ρ μ H) {kvs' : List (Val × Val)} {ks : List (Key × V)} (ha : ρ[l]? = some a) (r : DkR C.K ρ H kvs' ks) :
    Rep C ρ (μ.set l (.dK kvs')) (upd H a (.dK ks)) ∧ Step ρ H ρ (upd H a (.dK ks)) := by
  have st : Step ρ H ρ (upd H a (.dK ks)) := Step.wrote R (List.mem_of_getElem? ha)
  exact ⟨R.write ha ⟨_, upd_same, Paired.mapP r fun _ _ ⟨x, y⟩ => ⟨x, y.mono st⟩⟩, st⟩
theorem Rep.setL (R : Rep C ρ μ H) {vs : List Val} {xs : List V} (ha : ρ[l]? = some a) (r : Rl C.K ρ H vs xs) :
    Rep C ρ (μ.set l (.lst vs)) (upd H a (.lst xs)) ∧ Step ρ H ρ (upd H a (.lst xs)) := by
  have st : Step ρ H ρ (upd H a (.lst xs)) := Step.wrote R (List.mem_of_getElem? ha)
  exact ⟨R.write ha ⟨_, upd_same, r.mono st⟩, st⟩
end

/-! ### a[b] -/
def opIx : Val → Val → Hm → R Val := fun v w h => match v, w with
  | .tup a, .int i => match atI a i with
    | some x => .ok x h
    | none => .bad
  | .ro a, .int i => match atI a i with
    | some x => .ok x h
    | none => .bad
  | .str a, .int i => if a.length < lim then match atI a i with
      | some c => .ok (.str [c]) h
      | none => .bad
    else .bad
  | .loc l, k => match h[l]? with
    | some (.lst a) => match k with
      | .int i => match atI a i with
        | some x => .ok x h
        | none => .bad
      | _ => .bad
    | some (.dK kvs) => match kOf k, dkGet kvs k with
      | some _, some x => .ok x h
      | _, _ => .bad
    | some (.dN kvs) => match k with
      | .tup _ => if k.isKeyN 8 then match dnGet kvs k with
          | some x => .ok x h
          | none => .bad
        else .bad
      | _ => .bad
    | _ => .bad
  | _, _ => .bad
def rIxs (C : Cf) : R2 := fun x y H Q => (rIx C.K x y H Q ∨ rIxK x y H Q) ∨ rIxN C x y H Q
section
variable {X : Cx} {T : Tab}
theorem ix_all (hu : X.A.units + 9 < cLine) : IxR X (rIxs (cf X T)) := (ix_seq.or (ix_dK (by omega))).or (ix_dN hu)
theorem Rl.atI {K : PySem.W.Frag} {ρ : List Addr} {H : Hp} {vs : List Val} {xs : List V} (r : Rl K ρ H vs xs) {i : Int} {v : Val} (h : atI vs i = some v) : ∃ x, L2.atI xs i = some x ∧ Rv K ρ H v x := by
  unfold L2.atI at h ⊢
  rw [← r.1]
  cases e : ixN vs.length i with
  | none => rw [e] at h; cases h
  | some j => rw [e] at h; exact r.get h
theorem s_ix : OpS (cf X T) opIx (rIxs (cf X T)) := by
  intro E ρ μ H v w x y Q R r1 r2 h
  unfold opIx at h
  split at h
  · split at h
    · rename_i e
      obtain ⟨a, xs, rfl, sq, l⟩ := r1.tup_inv
      obtain ⟨z, e1, rz⟩ := l.atI e
      rw [r2.int_inv]
      exact .inl (.inl (.inr (.inl ⟨a, xs, _, z, rfl, rfl, sq, e1, h ρ H z .refl R rz⟩)))
    · exact h.elim
  · split at h
    · rename_i e
      obtain ⟨a, xs, rfl, sq, l⟩ := listOf_ok R r1 rfl
      obtain ⟨z, e1, rz⟩ := l.atI e
      rw [r2.int_inv]
      exact .inl (.inl (.inl ⟨a, xs, _, z, rfl, rfl, sq, e1, h ρ H z .refl R rz⟩))
    · exact h.elim
  · split at h
    · rename_i hl
      split at h
      · rename_i c e
        obtain ⟨z, rfl, e1⟩ := r1.str_inv
        rw [r2.int_inv]
        refine .inl (.inl (.inr (.inr ⟨z, _, c, rfl, rfl, ?_, ?_, h ρ H (.str ⟨#[c]⟩) .refl R (.str ⟨#[c]⟩)⟩)))
        · rw [strLen, e1]; exact Nat.le_of_lt (lim_ok hl)
        · rw [e1]; exact e
      · exact h.elim
    · exact h.elim
  · obtain ⟨a, rfl, ha⟩ := r1.loc_inv
    split at h
    · rename_i vs hl
      obtain ⟨xs, h1, l⟩ := R.lst hl ha
      split at h
      · split at h
        · rename_i e
          obtain ⟨z, e1, rz⟩ := l.atI e
          rw [r2.int_inv]
          exact .inl (.inl (.inl ⟨a, xs, _, z, rfl, rfl, .inl (.inl h1), e1, h ρ H z .refl R rz⟩))
        · exact h.elim
      · exact h.elim
    · rename_i kvs hl
      split at h
      · rename_i c v e1 e2
        obtain ⟨ks, h1, r⟩ := R.dK hl ha
        obtain ⟨z, g, rz⟩ := (r.get e1).1 v e2
        rw [kOf_V r2 e1]
        exact .inl (.inr ⟨a, z, rfl, g ▸ DGet.k h1, h ρ H z .refl R rz⟩)
      · exact h.elim
    · rename_i kvs hl
      split at h
      · split at h
        · rename_i hk
          split at h
          · rename_i v e
            have r3 := r2
            obtain ⟨b, ys, rfl, _⟩ := r3.tup_inv
            exact .inr ⟨ρ, a, b, kvs, _, v, rfl, rfl, R.dN hl ha, hk, r2, e, fun z rz => h ρ H z .refl R rz⟩
          · exact h.elim
        · exact h.elim
      · exact h.elim
    · exact h.elim
  · exact h.elim
end
end Mn

/-! Mn6: membership of every kind, slices, built-in functions, methods of lists. -/
namespace Mn
open PySem PySem.Spec PyProof.Rows L2

/-! ### in -/
def flatS : Val → Bool
  | .non => true
  | .bl _ => true
  | .int _ => true
  | .str _ => true
  | _ => false
def opHas (v w : Val) (h : Hm) : Option Bool := match w with
  | .str a => match v with
    | .str [c] => some (a.contains c)
    | _ => none
  | .tup ws => if flatS v && ws.all flatS then some (ws.any fun z => eqvN 0 h z v) else none
  | .ro ws => if datN 39 h v && ws.all (datN 39 h) then some (ws.any fun z => eqvN 39 h z v) else none
  | .loc l => match h[l]? with
    | some (.lst ws) => if datN 39 h v && ws.all (datN 39 h) then some (ws.any fun z => eqvN 39 h z v) else none
    | some (.dK kvs) => match kOf v with
      | some _ => some (dkGet kvs v).isSome
      | none => none
    | some (.dN kvs) => match v with
      | .tup _ => if v.isKeyN 8 then some (dnGet kvs v).isSome else none
      | _ => none
    | _ => none
  | _ => none
def opInA : Val → Val → Hm → R Val := fun v w h => match opHas v w h with
  | some b => .ok (.bl b) h
  | none => .bad
def opNotInA : Val → Val → Hm → R Val := fun v w h => match opHas v w h with
  | some b => .ok (.bl (!b)) h
  | none => .bad
def rHas (C : Cf) (neg : Bool) : R2 := fun x y H Q => ((((if neg then rNotInD C.K else rInD C.K) x y H Q ∨ rIn C.K neg x y H Q) ∨ rInK neg x y H Q) ∨ rInN C neg x y H Q) ∨
  ∃ (c : Nat) (z : Str), x = .str ⟨#[c]⟩ ∧ y = .str z ∧ Q (.bl (if neg then !decide (c ∈ z.cps.toList) else decide (c ∈ z.cps.toList))) H
section
variable {X : Cx} {T : Tab}
theorem op_has (hu : X.A.units + 65 < cLine) : OpR X (compareOp .In) (rHas (cf X T) false) := ((((op_inD hu).or op_in_seq).or (op_inK (by omega))).or (op_inN (by omega))).or op_in_sign
theorem op_hasnt (hu : X.A.units + 65 < cLine) : OpR X (compareOp .NotIn) (rHas (cf X T) true) := ((((op_notInD hu).or op_notIn_seq).or (op_notInK (by omega))).or (op_notInN (by omega))).or op_notIn_sign
theorem flat_V {K : PySem.W.Frag} {ρ : List Addr} {H : Hp} {v : Val} {x : V} (r : Rv K ρ H v x) (h : flatS v = true) : flatV x = true := by
  cases r <;> first | rfl | (simp [flatS] at h)
theorem eqv_flat {K : PySem.W.Frag} {ρ : List Addr} {H : Hp} {v w : Val} {x y : V} {μ : Hm} (r1 : Rv K ρ H v x) (r2 : Rv K ρ H w y) (h1 : flatS v = true) (h2 : flatS w = true) : eqvN 0 μ v w = eqV x y := by
  cases r1 <;> first
    | (simp [flatS] at h1; done)
    | (cases r2 <;> first
        | (simp [flatS] at h2; done)
        | (simp only [eqvN, eqV] <;> try (rename_i a b; rw [← str_beq a.cps.toList b.cps.toList])))
theorem any_flat {K : PySem.W.Frag} {ρ : List Addr} {H : Hp} {v : Val} {x : V} {μ : Hm} (r : Rv K ρ H v x) (h : flatS v = true) : ∀ {ws : List Val} {ys : List V}, Rl K ρ H ws ys → ws.all flatS = true →
    ys.all flatV = true ∧ (ws.any fun z => eqvN 0 μ z v) = ys.any fun y => eqV y x
  | [], ys, l, _ => by rw [l.nil_of]; exact ⟨rfl, rfl⟩
  | w :: ws, ys, l, hw => by
    obtain ⟨y, zs, rfl, ry, l2⟩ := l.uncons
    rw [List.all_cons, Bool.and_eq_true] at hw
    obtain ⟨a1, a2⟩ := any_flat r h l2 hw.2
    rw [List.all_cons, List.any_cons, List.any_cons, a2, eqv_flat ry r hw.1 h, flat_V ry hw.1, a1]
    exact ⟨rfl, rfl⟩
theorem has_ok {ρ : List Addr} {μ : Hm} {H : Hp} {v w : Val} {x y : V} {b : Bool} {neg : Bool} {Q : VK} (R : Rep (cf X T) ρ μ H) (r1 : Rv X.K ρ H v x) (r2 : Rv X.K ρ H w y) (e : opHas v w μ = some b) (q : Q (.bl (if neg then !b else b)) H) : rHas (cf X T) neg x y H Q := by
  have lists : ∀ {ws : List Val}, listOf w μ = some ws → (datN 39 μ v && ws.all (datN 39 μ)) = true → (ws.any fun z => eqvN 39 μ z v) = b → rHas (cf X T) neg x y H Q := fun {ws} el hd eb => by
    obtain ⟨a1, a2, a3, a4, a5⟩ := in_of (E := fun _ _ _ => False) R r1 r2 el hd
    refine .inl (.inl (.inl (.inl ?_)))
    rw [eb] at a5
    cases neg with
    | true => exact ⟨_, _, a1, a2, a3, a4, by rw [a5]; exact q⟩
    | false => exact ⟨_, _, a1, a2, a3, a4, by rw [a5]; exact q⟩
  unfold opHas at e
  split at e
  · split at e
    · rename_i a _ c
      cases e
      obtain ⟨z, rfl, e1⟩ := r2.str_inv
      obtain ⟨u, rfl, e2⟩ := r1.str_inv
      have eu : u = ⟨#[c]⟩ := by
        cases u with
        | mk cps =>
          have e3 : cps.toList = [c] := e2
          have : cps = #[c] := by rw [← Array.toList_inj]; exact e3
          rw [this]
      subst eu
      refine .inr ⟨c, z, rfl, rfl, ?_⟩
      have ec : a.contains c = decide (c ∈ z.cps.toList) := by rw [e1, List.contains_eq_mem]
      rw [ec] at q
      exact q
    · cases e
  · split at e
    · rename_i ws hd
      cases e
      rw [Bool.and_eq_true] at hd
      obtain ⟨a, ys, rfl, sq, l⟩ := r2.tup_inv
      obtain ⟨a1, a2⟩ := any_flat (μ := μ) r1 hd.1 l hd.2
      refine .inl (.inl (.inl (.inr ⟨a, ys, rfl, .inr sq, flat_V r1 hd.1, a1, ?_⟩)))
      unfold inV
      rw [← a2]; exact q
    · cases e
  · split at e
    · rename_i ws hd
      exact lists rfl hd (Option.some.inj e)
    · cases e
  · obtain ⟨a, rfl, ha⟩ := r2.loc_inv
    split at e
    · rename_i ws hl
      split at e
      · rename_i hd
        refine lists ?_ hd (Option.some.inj e)
        unfold listOf
        simp only [hl]
      · cases e
    · rename_i kvs hl
      split at e
      · rename_i c ek
        cases e
        obtain ⟨ks, h1, r⟩ := R.dK hl ha
        obtain ⟨g1, g2⟩ := r.get ek
        refine .inl (.inl (.inr ⟨a, valV ks c, rfl, ?_, ?_⟩))
        · rw [kOf_V r1 ek]; exact DGet.k h1
        · have es : (valV ks c).isSome = (dkGet kvs v).isSome := by
            cases eg : dkGet kvs v with
            | none => rw [g2 eg]; rfl
            | some z => obtain ⟨z', e1, _⟩ := g1 z eg; rw [e1]; rfl
          rw [es]; exact q
      · cases e
    · rename_i kvs hl
      split at e
      · split at e
        · rename_i hk
          cases e
          have r3 := r1
          obtain ⟨b', ys, rfl, _⟩ := r3.tup_inv
          exact .inl (.inr ⟨ρ, a, b', kvs, _, rfl, rfl, R.dN hl ha, hk, r1, q⟩)
        · cases e
      · cases e
    · cases e
  · cases e
theorem s_has : OpS (cf X T) opInA (rHas (cf X T) false) := by
  intro E ρ μ H v w x y Q R r1 r2 h
  unfold opInA at h
  split at h
  · rename_i b e
    exact has_ok (neg := false) R r1 r2 e (h ρ H _ .refl R (.bl _))
  · exact h.elim
theorem s_hasnt : OpS (cf X T) opNotInA (rHas (cf X T) true) := by
  intro E ρ μ H v w x y Q R r1 r2 h
  unfold opNotInA at h
  split at h
  · rename_i b e
    exact has_ok (neg := true) R r1 r2 e (h ρ H _ .refl R (.bl _))
  · exact h.elim
end

/-! ### slices -/
def mPart (o : Option ME) : LS → Hm → R (Option Int) := fun s h => match o with
  | none => .ok none h
  | some m => bindR (m s h) fun v h1 => match v with
    | .int i => .ok (some i) h1
    | _ => .bad
def cutL (xs : List Val) (lo hi : Option Int) : List Val := (xs.drop (HT.sIx xs.length 0 lo)).take (HT.sIx xs.length xs.length hi - HT.sIx xs.length 0 lo)
def opSl (v : Val) (lo hi : Option Int) (h : Hm) : R Val := match v with
  | .loc l => match h[l]? with
    | some (.lst a) => .ok (.loc h.length) (h ++ [.lst (cutL a lo hi)])
    | _ => .bad
  | .str a => if a.length < lim then .ok (.str ((a.drop (HT.sIx a.length 0 lo)).take (HT.sIx a.length a.length hi - HT.sIx a.length 0 lo))) h else .bad
  | .tup a => if HT.sIx a.length 0 lo = 0 ∧ HT.sIx a.length a.length hi = a.length then .bad else .ok (.tup (cutL a lo hi)) h
  | .ro a => .ok (.loc h.length) (h ++ [.lst (cutL a lo hi)])
  | _ => .bad
def mSl (a : ME) (lo hi : Option ME) : ME := fun s h => bindR (a s h) fun v h1 => bindR (mPart lo s h1) fun l h2 => bindR (mPart hi s h2) fun u h3 => opSl v l u h3
def tP (C : Cf) (W : WX) (o : Option ME) : TO := fun σ H Q => ∃ ρ μ s, Rep C ρ μ H ∧ Rs C.K ρ H s σ ∧ post C (fun _ _ (a b : Option Int) => a = b) (WE W σ) ρ H (mPart o s μ) Q
def rSls (K : PySem.W.Frag) : V → Option Int → Option Int → Hp → VK → Prop := fun x lo hi H Q => (rSlL K x lo hi H Q ∨ rSlS x lo hi H Q) ∨ rSlT K x lo hi H Q
section
variable {X : Cx} {T : Tab} {W : WX} {a : Expr} {lo hi : Option Expr} {pos p2 : Pos} {ma : ME} {ml mh : Option ME}
theorem o_none : PO X none (tP (cf X T) W none) := ⟨fun pins s σ H Q I ⟨ρ, μ, ls, R, S, h⟩ => po_none.run pins s σ H Q I (h ρ H none .refl R rfl)⟩
theorem o_some {e : Expr} {m : ME} (he : PE X e (tE (cf X T) W m)) : PO X (some e) (tP (cf X T) W (some m)) := ⟨fun pins s σ H Q I ⟨ρ, μ, ls, R, S, h⟩ => (po_some he).run pins s σ H Q I
  ⟨ρ, μ, ls, R, S, (post.bind (Rr := RrV (cf X T)) h).mono fun x H1 ⟨ρ1, μ1, v, st, R1, r1, h1⟩ => by
    split at h1
    · exact ⟨_, r1.int_inv, h1 ρ1 H1 _ .refl R1 rfl⟩
    · exact h1.elim⟩⟩
theorem cut_len {α β : Type} {xs : List α} {ys : List β} (h : xs.length = ys.length) (lo hi : Option Int) : HT.sIx xs.length 0 lo = HT.sIx ys.length 0 lo ∧ HT.sIx xs.length xs.length hi = HT.sIx ys.length ys.length hi := by rw [h]; exact ⟨rfl, rfl⟩
theorem Rl.cut {K : PySem.W.Frag} {ρ : List Addr} {H : Hp} {vs : List Val} {xs : List V} (r : Rl K ρ H vs xs) (lo hi : Option Int) : Rl K ρ H (cutL vs lo hi) (cutV xs lo hi) := by
  unfold cutL cutV
  rw [r.1]
  exact (r.drop _).take _
theorem e_sl (ha : PE X a (tE (cf X T) W ma)) (hl : PO X lo (tP (cf X T) W ml)) (hh : PO X hi (tP (cf X T) W mh)) : PE X (.Subscript a (.Slice lo hi none p2) pos) (tE (cf X T) W (mSl ma ml mh)) :=
  (pe_slice (r := rSls X.K) ((sl_list.or sl_str).or sl_tup) ha hl hh).imp fun σ H Q ⟨ρ, μ, s, R, S, h⟩ => ⟨ρ, μ, s, R, S, (post.bind (Rr := RrV (cf X T)) h).mono fun x H1 ⟨ρ1, μ1, v, st, R1, r1, h1⟩ =>
    ⟨ρ1, μ1, s, R1, S.mono st, (post.bind (Rr := fun _ _ (a b : Option Int) => a = b) h1).mono fun l H2 ⟨ρ2, μ2, l', st2, R2, e2, h2⟩ =>
      ⟨ρ2, μ2, s, R2, (S.mono st).mono st2, (post.bind (Rr := fun _ _ (a b : Option Int) => a = b) h2).mono fun u H3 ⟨ρ3, μ3, u', st3, R3, e3, h3⟩ => by
        subst e2 e3
        have r3 := (r1.mono st2).mono st3
        unfold opSl at h3
        split at h3
        · split at h3
          · rename_i hx
            obtain ⟨p, rfl, hp⟩ := r3.loc_inv
            obtain ⟨xs, h4, l4⟩ := R3.lst hx hp
            refine .inl (.inl ⟨p, xs, rfl, .inl (.inl h4), fun q hq => ?_⟩)
            obtain ⟨st', R', r'⟩ := new_lst R3 (l4.cut l' u') hq
            exact h3 _ _ _ st' R' r'
          · exact h3.elim
        · split at h3
          · rename_i hb
            obtain ⟨z, rfl, ez⟩ := r3.str_inv
            subst ez
            have el := strLen z
            refine .inl (.inr ⟨z, rfl, by rw [el]; exact Nat.le_of_lt (lim_ok hb), ?_⟩)
            refine h3 ρ3 H3 _ .refl R3 ?_
            have e5 : (List.take (HT.sIx z.cps.toList.length z.cps.toList.length u' - HT.sIx z.cps.toList.length 0 l') (List.drop (HT.sIx z.cps.toList.length 0 l') z.cps.toList)) = (cutS z l' u').cps.toList := by
              unfold cutS
              rw [← el]
            rw [e5]
            exact .str _
          · exact h3.elim
        · split at h3
          · exact h3.elim
          · rename_i b hb
            obtain ⟨p, xs, rfl, sq, l4⟩ := r3.tup_inv
            refine .inr ⟨p, xs, rfl, sq, by rw [← l4.1]; exact hb, fun q hq => ?_⟩
            have st : Step ρ3 H3 ρ3 (upd H3 q (.tup (cutV xs l' u'))) := .laid0 hq
            have l5 := (l4.cut l' u').mono st
            exact h3 ρ3 _ _ st (R3.side hq) (.tup (.inl (.inl upd_same)) l5.1 l5.2)
        · obtain ⟨p, xs, rfl, sq, l4⟩ := listOf_ok R3 r3 rfl
          refine .inl (.inl ⟨p, xs, rfl, sq, fun q hq => ?_⟩)
          obtain ⟨st', R', r'⟩ := new_lst R3 (l4.cut l' u') hq
          exact h3 _ _ _ st' R' r'
        · exact h3.elim⟩⟩⟩
end
end Mn

/-! Mn7: built-in functions, methods of lists and dicts. -/
namespace Mn
open PySem PySem.Spec PyProof.Rows L2

/-! ### functions of values -/
def cLen : List Val → Hm → R Val := fun vs h => match vs with
  | [.str a] => if a.length < lim then .ok (.int a.length) h else .bad
  | [.tup a] => .ok (.int a.length) h
  | [.ro a] => .ok (.int a.length) h
  | [.loc l] => match h[l]? with
    | some (.lst a) => .ok (.int a.length) h
    | some (.dK a) => .ok (.int a.length) h
    | some (.dN a) => if a.length < lim then .ok (.int a.length) h else .bad
    | _ => .bad
  | _ => .bad
def cAbs : List Val → Hm → R Val := fun vs h => match vs with
  | [.int i] => .ok (.int (if i < 0 then -i else i)) h
  | _ => .bad
def cInt : List Val → Hm → R Val := fun vs h => match vs with
  | [.int i] => .ok (.int i) h
  | [.bl b] => .ok (.int (if b then 1 else 0)) h
  | _ => .bad
def cTuple : List Val → Hm → R Val := fun vs h => match vs with
  | [.tup a] => .ok (.tup a) h
  | [.ro a] => .ok (.tup a) h
  | [.loc l] => match h[l]? with
    | some (.lst a) => .ok (.tup a) h
    | _ => .bad
  | _ => .bad
def cList : List Val → Hm → R Val := fun vs h => match vs with
  | [v] => match seqOf v h with
    | some a => .ok (.loc h.length) (h ++ [.lst a])
    | none => .bad
  | _ => .bad
def asBls : List Val → Option (List Bool)
  | [] => some []
  | .bl b :: r => match asBls r with
    | some bs => some (b :: bs)
    | none => none
  | _ => none
def asInts : List Val → Option (List Int)
  | [] => some []
  | .int b :: r => match asInts r with
    | some bs => some (b :: bs)
    | none => none
  | _ => none
def overBls (f : List Bool → Bool) : List Val → Hm → R Val := fun vs h => match vs with
  | [v] => match listOf v h with
    | some a => match asBls a with
      | some bs => .ok (.bl (f bs)) h
      | none => .bad
    | none => .bad
  | _ => .bad
abbrev cAll := overBls fun bs => bs.all id
abbrev cAny := overBls fun bs => bs.any id
def cSum : List Val → Hm → R Val := fun vs h => match vs with
  | [v] => match listOf v h with
    | some a => match asInts a with
      | some ns => .ok (.int ns.sum) h
      | none => .bad
    | none => .bad
  | _ => .bad
def cMax2 : List Val → Hm → R Val := fun vs h => match vs with
  | [.int i, .int j] => .ok (.int (if j > i then j else i)) h
  | _ => .bad
def cMin2 : List Val → Hm → R Val := fun vs h => match vs with
  | [.int i, .int j] => .ok (.int (if j < i then j else i)) h
  | _ => .bad
def maxI : List Int → Int
  | [] => 0
  | [a] => a
  | a :: r => max a (maxI r)
def cMax : List Val → Hm → R Val := fun vs h => match vs with
  | [v] => match listOf v h with
    | some a => match asInts a with
      | some ns => if ns.isEmpty then .bad else .ok (.int (maxI ns)) h
      | none => .bad
    | none => .bad
  | _ => .bad
section
variable {X : Cx} {T : Tab}
def rLens (C : Cf) : List V → Hp → VK → Prop := fun xs H Q => ((∃ x n, xs = [x] ∧ LenV C.K x H n ∧ Q (.int n) H) ∨ ∃ a kvs, xs = [V.ref a] ∧ H a = some (.dK kvs) ∧ Q (.int kvs.length) H) ∨
  ∃ ρ a kvs, xs = [V.ref a] ∧ Ro C ρ H (.dN kvs) a ∧ kvs.length < lim ∧ Q (.int kvs.length) H
theorem call_lenN : CallR X (.builtin "len") (fun xs H Q => ∃ ρ a kvs, xs = [V.ref a] ∧ Ro (cf X T) ρ H (.dN kvs) a ∧ kvs.length < lim ∧ Q (.int kvs.length) H) := by
  intro pins s σ H xs us Q I r h
  obtain ⟨ρ, a, kvs, rfl, ro, hz, q⟩ := h
  obtain ⟨u, rfl, ru⟩ := vals1 r
  cases ru
  obtain ⟨es, h1, h2, h3, h4, _⟩ := dN_at I ro
  have hl : kvs.length = es.length := Paired.length h4
  refine call_len_dictH h2 h3 (by unfold lim at hz; omega) ?_
  rw [hl] at q
  exact ⟨.int es.length, H, I.tok _, ⟨_, rfl⟩, q⟩
theorem call_lens : CallR X (.builtin "len") (rLens (cf X T)) := (call_len.or call_lenD).or call_lenN
theorem s_len : CallS (cf X T) cLen (rLens (cf X T)) := by
  intro E ρ μ H vs xs Q R r h
  unfold cLen at h
  split at h
  · split at h
    · rename_i hz
      obtain ⟨x, rfl, rx⟩ := r.one
      obtain ⟨z, rfl, ez⟩ := rx.str_inv
      refine .inl (.inl ⟨.str z, z.length, rfl, ⟨?_, rfl⟩, ?_⟩)
      · rw [strLen, ez]; exact Nat.le_of_lt (lim_ok hz)
      · rw [strLen, ez]; exact h ρ H _ .refl R (.int _)
    · exact h.elim
  · obtain ⟨x, rfl, rx⟩ := r.one
    obtain ⟨a, ys, rfl, sq, l⟩ := rx.tup_inv
    exact .inl (.inl ⟨_, _, rfl, .inr ⟨ys, sq, rfl⟩, by rw [← l.1]; exact h ρ H _ .refl R (.int _)⟩)
  · obtain ⟨x, rfl, rx⟩ := r.one
    obtain ⟨a, ys, rfl, sq, l⟩ := listOf_ok R rx rfl
    exact .inl (.inl ⟨_, _, rfl, .inl ⟨ys, sq, rfl⟩, by rw [← l.1]; exact h ρ H _ .refl R (.int _)⟩)
  · obtain ⟨x, rfl, rx⟩ := r.one
    obtain ⟨a, rfl, ha⟩ := rx.loc_inv
    split at h
    · rename_i hl
      obtain ⟨ys, h1, l⟩ := R.lst hl ha
      exact .inl (.inl ⟨_, _, rfl, .inl ⟨ys, .inl (.inl h1), rfl⟩, by rw [← l.1]; exact h ρ H _ .refl R (.int _)⟩)
    · rename_i hl
      obtain ⟨ks, h1, l⟩ := R.dK hl ha
      exact .inl (.inr ⟨a, ks, rfl, h1, by rw [← Paired.length l]; exact h ρ H _ .refl R (.int _)⟩)
    · rename_i hl
      split at h
      · rename_i hz
        exact .inr ⟨ρ, a, _, rfl, R.dN hl ha, hz, h ρ H _ .refl R (.int _)⟩
      · exact h.elim
    · exact h.elim
  · exact h.elim
theorem s_abs : CallS (cf X T) cAbs (fun xs H Q => ∃ i, xs = [.int i] ∧ Q (.int (if i < 0 then -i else i)) H) := by
  intro E ρ μ H vs xs Q R r h
  unfold cAbs at h
  split at h
  · obtain ⟨x, rfl, rx⟩ := r.one
    rw [rx.int_inv]
    exact ⟨_, rfl, h ρ H _ .refl R (.int _)⟩
  · exact h.elim
theorem s_int : CallS (cf X T) cInt (fun xs H Q => (∃ i, xs = [.int i] ∧ Q (.int i) H) ∨ ∃ k, xs = [.bl k] ∧ Q (.int (if k then 1 else 0)) H) := by
  intro E ρ μ H vs xs Q R r h
  unfold cInt at h
  split at h
  · obtain ⟨x, rfl, rx⟩ := r.one
    rw [rx.int_inv]
    exact .inl ⟨_, rfl, h ρ H _ .refl R (.int _)⟩
  · obtain ⟨x, rfl, rx⟩ := r.one
    rw [rx.bl_inv]
    exact .inr ⟨_, rfl, h ρ H _ .refl R (.int _)⟩
  · exact h.elim
theorem s_tuple : CallS (cf X T) cTuple (fun xs H Q => ∃ p ys, xs = [.ref p] ∧ ((SqL X.K H p ys ∧ ∀ l, H l = none → Q (.ref l) (upd H l (.tup ys))) ∨ (SqT X.K H p ys ∧ Q (.ref p) H))) := by
  intro E ρ μ H vs xs Q R r h
  unfold cTuple at h
  have lists : ∀ {v : Val} {x : V} {a : List Val}, Rv X.K ρ H v x → listOf v μ = some a → post (cf X T) (RrV (cf X T)) E ρ H (.ok (.tup a) μ) Q → ∃ p ys, [x] = [V.ref p] ∧ ((SqL X.K H p ys ∧ ∀ l, H l = none → Q (.ref l) (upd H l (.tup ys))) ∨ (SqT X.K H p ys ∧ Q (.ref p) H)) := fun {v x a} rx e h => by
    obtain ⟨p, ys, rfl, sq, l⟩ := listOf_ok R rx e
    refine ⟨p, ys, rfl, .inl ⟨sq, fun q hq => ?_⟩⟩
    have st : Step ρ H ρ (upd H q (.tup ys)) := .laid0 hq
    have l2 := l.mono st
    exact h ρ _ _ st (R.side hq) (.tup (.inl (.inl upd_same)) l2.1 l2.2)
  split at h
  · obtain ⟨x, rfl, rx⟩ := r.one
    have rx' := rx
    obtain ⟨p, ys, rfl, sq, l⟩ := rx.tup_inv
    exact ⟨p, ys, rfl, .inr ⟨sq, h ρ H _ .refl R rx'⟩⟩
  · obtain ⟨x, rfl, rx⟩ := r.one
    exact lists rx rfl h
  · obtain ⟨x, rfl, rx⟩ := r.one
    split at h
    · rename_i hl
      exact lists rx (by unfold listOf; simp only [hl]) h
    · exact h.elim
  · exact h.elim
theorem s_list : CallS (cf X T) cList (fun xs H Q => ∃ p ys, xs = [.ref p] ∧ (SqL X.K H p ys ∨ SqT X.K H p ys) ∧ ∀ l, H l = none → Q (.ref l) (upd H l (.lst ys))) := by
  intro E ρ μ H vs xs Q R r h
  unfold cList at h
  split at h
  · obtain ⟨x, rfl, rx⟩ := r.one
    split at h
    · rename_i e
      obtain ⟨p, ys, rfl, sq, l⟩ := seqOf_ok R rx e
      refine ⟨p, ys, rfl, sq, fun q hq => ?_⟩
      obtain ⟨st', R', r'⟩ := new_lst R l hq
      exact h _ _ _ st' R' r'
    · exact h.elim
  · exact h.elim
theorem asBls_V {K : PySem.W.Frag} {ρ : List Addr} {H : Hp} : ∀ {vs : List Val} {xs : List V} {bs : List Bool}, Rl K ρ H vs xs → asBls vs = some bs → xs = bs.map V.bl
  | [], xs, bs, r, e => by cases e; exact r.nil_of
  | v :: vs, xs, bs, r, e => by
    obtain ⟨x, ys, rfl, rx, rr⟩ := r.uncons
    unfold asBls at e
    split at e
    · cases (‹_› : v :: vs = [])
    · rename_i b r' h2
      cases h2
      split at e
      · rename_i bs' e2
        cases e
        rw [rx.bl_inv, asBls_V rr e2]; rfl
      · cases e
    · cases e
theorem asInts_V {K : PySem.W.Frag} {ρ : List Addr} {H : Hp} : ∀ {vs : List Val} {xs : List V} {bs : List Int}, Rl K ρ H vs xs → asInts vs = some bs → xs = bs.map V.int
  | [], xs, bs, r, e => by cases e; exact r.nil_of
  | v :: vs, xs, bs, r, e => by
    obtain ⟨x, ys, rfl, rx, rr⟩ := r.uncons
    unfold asInts at e
    split at e
    · cases (‹_› : v :: vs = [])
    · rename_i b r' h2
      cases h2
      split at e
      · rename_i bs' e2
        cases e
        rw [rx.int_inv, asInts_V rr e2]; rfl
      · cases e
    · cases e
theorem s_bls (f : List Bool → Bool) : CallS (cf X T) (overBls f) (fun vs H Q => ∃ (a : Addr) (bs : List Bool), vs = [V.ref a] ∧ SqL X.K H a (bs.map V.bl) ∧ Q (.bl (f bs)) H) := by
  intro E ρ μ H vs xs Q R r h
  unfold overBls at h
  split at h
  · obtain ⟨x, rfl, rx⟩ := r.one
    split at h
    · rename_i e
      split at h
      · rename_i bs eb
        obtain ⟨p, ys, rfl, sq, l⟩ := listOf_ok R rx e
        rw [asBls_V l eb] at sq
        exact ⟨p, bs, rfl, sq, h ρ H _ .refl R (.bl _)⟩
      · exact h.elim
    · exact h.elim
  · exact h.elim
theorem s_all : CallS (cf X T) cAll (rAll X.K) := s_bls _
theorem s_any : CallS (cf X T) cAny (rAny X.K) := s_bls _
theorem s_sum : CallS (cf X T) cSum (rSum X.K) := by
  intro E ρ μ H vs xs Q R r h
  unfold cSum at h
  split at h
  · obtain ⟨x, rfl, rx⟩ := r.one
    split at h
    · rename_i e
      split at h
      · rename_i bs eb
        obtain ⟨p, ys, rfl, sq, l⟩ := listOf_ok R rx e
        rw [asInts_V l eb] at sq
        exact ⟨p, bs, rfl, sq, h ρ H _ .refl R (.int _)⟩
      · exact h.elim
    · exact h.elim
  · exact h.elim
theorem maxI_mem : ∀ {ns : List Int}, ns ≠ [] → maxI ns ∈ ns ∧ ∀ y ∈ ns, y ≤ maxI ns
  | [], h => absurd rfl h
  | [a], _ => ⟨by simp [maxI], by simp [maxI]⟩
  | a :: b :: r, _ => by
    obtain ⟨h1, h2⟩ := maxI_mem (ns := b :: r) (by simp)
    have e : maxI (a :: b :: r) = max a (maxI (b :: r)) := rfl
    rw [e]
    refine ⟨?_, fun y hy => ?_⟩
    · by_cases c : a ≤ maxI (b :: r)
      · rw [Int.max_eq_right c]; exact List.mem_cons_of_mem _ h1
      · rw [Int.max_eq_left (by omega)]; exact List.mem_cons_self
    · rcases List.mem_cons.mp hy with rfl | hy
      · exact Int.le_max_left _ _
      · exact Int.le_trans (h2 y hy) (Int.le_max_right _ _)
theorem s_max : CallS (cf X T) cMax (rMax X.K) := by
  intro E ρ μ H vs xs Q R r h
  unfold cMax at h
  split at h
  · obtain ⟨x, rfl, rx⟩ := r.one
    split at h
    · rename_i e
      split at h
      · rename_i bs eb
        split at h
        · exact h.elim
        · rename_i hn
          obtain ⟨p, ys, rfl, sq, l⟩ := listOf_ok R rx e
          rw [asInts_V l eb] at sq
          have hb : bs ≠ [] := fun z => hn (by rw [z]; rfl)
          obtain ⟨m1, m2⟩ := maxI_mem hb
          refine ⟨p, bs, rfl, sq, List.length_pos_iff.mpr hb, fun m hm hy => ?_⟩
          have e1 : m = maxI bs := Int.le_antisymm (m2 m hm) (hy _ m1)
          rw [e1]
          exact h ρ H _ .refl R (.int _)
      · exact h.elim
    · exact h.elim
  · exact h.elim
theorem s_max2 : CallS (cf X T) cMax2 (fun xs H Q => ∃ i j, xs = [.int i, .int j] ∧ Q (.int (if j > i then j else i)) H) := by
  intro E ρ μ H vs xs Q R r h
  unfold cMax2 at h
  split at h
  · obtain ⟨x, y, rfl, rx, ry⟩ := r.two
    rw [rx.int_inv, ry.int_inv]
    exact ⟨_, _, rfl, h ρ H _ .refl R (.int _)⟩
  · exact h.elim
theorem s_min2 : CallS (cf X T) cMin2 (fun xs H Q => ∃ i j, xs = [.int i, .int j] ∧ Q (.int (if j < i then j else i)) H) := by
  intro E ρ μ H vs xs Q R r h
  unfold cMin2 at h
  split at h
  · obtain ⟨x, y, rfl, rx, ry⟩ := r.two
    rw [rx.int_inv, ry.int_inv]
    exact ⟨_, _, rfl, h ρ H _ .refl R (.int _)⟩
  · exact h.elim

/-! ### isinstance of a built-in class -/
inductive Ty where
  | int | bool | str | tuple | list | dict
def Ty.name : Ty → String
  | .int => "int" | .bool => "bool" | .str => "str" | .tuple => "tuple" | .list => "list" | .dict => "dict"
def isTy (t : Ty) (v : Val) (h : Hm) : Option Bool := match v with
  | .non => some false
  | .bl _ => some (match t with | .int => true | .bool => true | _ => false)
  | .int _ => some (match t with | .int => true | _ => false)
  | .str _ => some (match t with | .str => true | _ => false)
  | .tup _ => some (match t with | .tuple => true | _ => false)
  | .ro _ => some (match t with | .list => true | _ => false)
  | .loc l => match h[l]? with
    | some (.lst _) => some (match t with | .list => true | _ => false)
    | some (.dK _) => some (match t with | .dict => true | _ => false)
    | _ => none
  | .exc _ => none
def mIsi (t : Ty) (m : ME) : ME := fun s h => bindR (m s h) fun v h1 => match isTy t v h1 with
  | some b => .ok (.bl b) h1
  | none => .bad
theorem tyx {ρ : List Addr} {μ : Hm} {H : Hp} {v : Val} {x : V} {t : Ty} {b : Bool} (R : Rep (cf X T) ρ μ H) (r : Rv X.K ρ H v x) (h : isTy t v μ = some b) : ∃ u : Value, TyX X.K H x u ∧ PySem.W.kitOne X.K u (.type t.name) = some b := by
  have sq : ∀ {a : Addr} {xs : List V}, SqT X.K H a xs → TyX X.K H (.ref a) (.type "tuple") := fun {a xs} s => by
    rcases s with (s | ⟨o, s⟩) | ⟨o, its, n, hk, hc, _⟩
    · exact .base (.tup s)
    · exact .fTuple s
    · exact .kTuple hk hc
  unfold isTy at h
  split at h
  · cases h; rw [r.non_inv]; exact ⟨_, .base .non, by cases t <;> exact kit_ty (by decide +kernel)⟩
  · cases h; rw [r.bl_inv]; exact ⟨_, .base (.bl _), by cases t <;> exact kit_ty (by decide +kernel)⟩
  · cases h; rw [r.int_inv]; exact ⟨_, .base (.int _), by cases t <;> exact kit_ty (by decide +kernel)⟩
  · cases h; obtain ⟨z, rfl, _⟩ := r.str_inv; exact ⟨_, .base (.str _), by cases t <;> exact kit_ty (by decide +kernel)⟩
  · cases h; obtain ⟨a, xs, rfl, s, _⟩ := r.tup_inv; exact ⟨_, sq s, by cases t <;> exact kit_ty (by decide +kernel)⟩
  · cases h; obtain ⟨a, xs, rfl, s, _⟩ := r.ro_inv; rcases s with ⟨o, s⟩ | ⟨o, its, n, hk, hc, _⟩; exact ⟨_, .base (.frz s), by cases t <;> exact kit_ty (by decide +kernel)⟩; exact ⟨_, .kList hk hc, by cases t <;> exact kit_ty (by decide +kernel)⟩
  · obtain ⟨a, rfl, ha⟩ := r.loc_inv
    split at h
    · rename_i hl
      cases h
      obtain ⟨ys, h1, _⟩ := R.lst hl ha
      exact ⟨_, .base (.lst h1), by cases t <;> exact kit_ty (by decide +kernel)⟩
    · rename_i hl
      cases h
      obtain ⟨ys, h1, _⟩ := R.dK hl ha
      exact ⟨_, .base (.dK h1), by cases t <;> exact kit_ty (by decide +kernel)⟩
    · cases h
  · cases h
theorem e_isi {W : WX} {a : Expr} {pos p q : Pos} {ma : ME} (t : Ty) {x : Str} (hi : X.mg "isinstance" = none) (hm : X.mg x = none) (ha : PE X a (tE (cf X T) W ma)) (hv : bootBuiltins x = some (.type t.name) := by decide +kernel) (hg : Gl X "isinstance" := by rfl) (hg2 : Gl X x := by rfl)
    (hn : x ≠ "__name__" := by decide) (hd : (x == ("__debug__" : Str)) = false := by decide)
    (he : starEach (a :: [.Name x q]) X.env = (false, eval a X.env) :: starEach [.Name x q] X.env := by rfl) (he2 : starEach [.Name x q] X.env = (false, eval (.Name x q) X.env) :: starEach [] X.env := by rfl) (hpl : (backTo pos (starEach [.Name x q] X.env)).any (·.1) = false := by rfl) :
    PE X (.Call (.Name "isinstance" p) [a, .Name x q] [] pos) (tE (cf X T) W (mIsi t ma)) :=
  (pe_callB call_isi hg hi (by decide +kernel) (pa_cons ha (pa_cons (pe_bltn (v := .ty t.name) hg2 hm hv rfl hn hd) pa_nil he2) he) (by decide) (by decide) he hpl).imp fun σ H Q ⟨ρ, μ, s, R, S, h⟩ => ⟨ρ, μ, s, R, S, (post.bind (Rr := RrV (cf X T)) h).mono fun x H1 ⟨ρ1, μ1, v, st, R1, r1, h1⟩ => by
    split at h1
    · rename_i b e
      obtain ⟨u, h2, h3⟩ := tyx R1 r1 e
      exact ⟨x, .ty t.name, u, .type t.name, b, rfl, .ty _, h2, h3, h1 ρ1 H1 _ .refl R1 (.bl _)⟩
    · exact h1.elim⟩
end

/-! ### methods of a built-in class -/
section
variable {X : Cx} {T : Tab} {W : WX} {o e : Expr} {es : List Expr} {mo : ME} {mr : MA} {name : Str} {apos cpos : Pos} {TY id : String}
def mMeth (p : Val → Hm → Bool) (f : Val → List Val → Hm → R Val) (o : ME) (a : MA) : ME := fun s h => bindR (o s h) fun v h1 => if p v h1 then bindR (a s h1) fun vs h2 => f v vs h2 else .bad
def MtS (C : Cf) (f : Val → List Val → Hm → R Val) (r : V → List V → Hp → VK → Prop) : Prop := ∀ (E : XK) (ρ : List Addr) (μ : Hm) (H : Hp) (v : Val) (x : V) (vs : List Val) (xs : List V) (Q : VK), Rep C ρ μ H → Rv C.K ρ H v x → Rl C.K ρ H vs xs → post C (RrV C) E ρ H (f v vs μ) Q → r x xs H Q
def isL (v : Val) (h : Hm) : Bool := (listOf v h).isSome
def PtS (X : Cx) (T : Tab) (TY : String) (p : Val → Hm → Bool) : Prop := ∀ (pins : List (Addr × Obj)) (σ : L2.St) (H : Hp) (s : Shared) (ρ : List Addr) (μ : Hm) (v : Val) (x : V) (u : Value), Inv X pins σ H s → Rep (cf X T) ρ μ H → Rv X.K ρ H v x → p v μ = true → RelV x u → s.TypeIs u TY ∧ ∀ a, u = .ref a → ∃ ob, s.heap.get? a = some ob ∧ ob.dict = none
theorem p_list : PtS X T "list" isL := fun pins σ H s ρ μ v x u I R r h q => by
  unfold isL at h
  obtain ⟨vs, e⟩ := Option.isSome_iff_exists.mp h
  obtain ⟨a, xs, rfl, sq, _⟩ := listOf_ok R r e
  exact tyV_is I q (.inl ⟨rfl, xs, sq⟩)
theorem e_meth {p : Val → Hm → Bool} {r : V → List V → Hp → VK → Prop} {f : Val → List Val → Hm → R Val} (pp : PtS X T TY p) (pa : PlainAttrs TY) (slot : Slot TY name id) (hty : typeOf (.builtin id) = pure (.type "method_descriptor")) (hm : MtR X id r) (hs' : MtS (cf X T) f r) (ho : PE X o (tE (cf X T) W mo)) (ha : PA X (e :: es) (tA (cf X T) W mr))
    (hbase : attributeBase o name X.env (eval o X.env) = eval o X.env := by rfl)
    (hfew : ((backTo cpos (starEach (e :: es) X.env)).all (fun x => !x.1) && (backToKw cpos (keywordEach [] X.env)).all (fun x => x.1.isSome)
      && decide ((e :: es).length + ([] : List Keyword).length + (if ([] : List Keyword).isEmpty then 0 else 1) < 30)) = true := by rfl)
    (hline : (apos.endLine == cpos.line) = true := by rfl) (hs : starEach (e :: es) X.env = (false, eval e X.env) :: starEach es X.env := by rfl) (hplain : (backTo cpos (starEach es X.env)).any (·.1) = false := by rfl) :
    PE X (.Call (.Attribute o name apos) (e :: es) [] cpos) (tE (cf X T) W (mMeth p f mo mr)) := by
  refine ⟨fun pins s σ H Q I ⟨ρ, μ, ls, R, S, h⟩ => ?_⟩
  refine wpAny_Call_method_late hbase hfew hline rfl (thn (ho.run pins s σ H _ I ⟨ρ, μ, ls, R, S, (post.bind (Rr := RrV (cf X T)) h)⟩) fun v s1 ⟨x, H1, I1, r1, ρ1, μ1, w, st, R1, q1, h1⟩ => ?_)
  split at h1
  · rename_i hp
    obtain ⟨t1, t2⟩ := pp pins σ H1 s1 ρ1 μ1 w x v I1 R1 q1 hp r1
    refine ⟨TY, id, pa, slot, hty, t1, t2, ?_⟩
    have hA := ha.run cpos pins s1 σ H1 _ I1 ⟨ρ1, μ1, ls, R1, S.mono st, (post.bind (Rr := RrL (cf X T)) h1)⟩
    rw [hs] at hA ⊢
    refine Calls.callWith_builtin (by show (false || (backTo cpos (starEach es X.env)).any (·.1)) = false; rw [hplain] <;> rfl) (Calls.evalArgs_plain ?_)
    exact thn hA fun us s2 ⟨vs, H2, I2, r2, ρ2, μ2, ws, st2, R2, q2, h2⟩ => hm pins s2 σ H2 x vs v us Q I2 r1 r2 (hs' _ _ _ _ _ _ _ _ _ R2 (q1.mono st2) q2 h2)
  · exact h1.elim
theorem e_meth0 {p : Val → Hm → Bool} {r : V → List V → Hp → VK → Prop} {f : Val → List Val → Hm → R Val} (pp : PtS X T TY p) (pa : PlainAttrs TY) (slot : Slot TY name id) (hty : typeOf (.builtin id) = pure (.type "method_descriptor")) (hm : MtR X id r) (hs' : MtS (cf X T) f r) (ho : PE X o (tE (cf X T) W mo))
    (hbase : attributeBase o name X.env (eval o X.env) = eval o X.env := by rfl) (hline : (apos.endLine == cpos.line) = true := by rfl) : PE X (.Call (.Attribute o name apos) [] [] cpos) (tE (cf X T) W (mMeth p f mo aNil)) := by
  refine ⟨fun pins s σ H Q I ⟨ρ, μ, ls, R, S, h⟩ => ?_⟩
  refine wpAny_Call_method0_late hbase hline (thn (ho.run pins s σ H _ I ⟨ρ, μ, ls, R, S, (post.bind (Rr := RrV (cf X T)) h)⟩) fun v s1 ⟨x, H1, I1, r1, ρ1, μ1, w, st, R1, q1, h1⟩ => ?_)
  split at h1
  · rename_i hp
    obtain ⟨t1, t2⟩ := pp pins σ H1 s1 ρ1 μ1 w x v I1 R1 q1 hp r1
    exact ⟨TY, id, pa, slot, hty, t1, t2, Calls.callWith_builtin rfl (PySem.evalArgs_none (hm pins s1 σ H1 x [] v [] Q I1 r1 .nil (hs' _ _ _ _ _ _ _ _ _ R1 q1 Rl.nil h1)))⟩
  · exact h1.elim

/-! lists -/
def lAppend : Val → List Val → Hm → R Val := fun v vs h => match v, vs with
  | .loc l, [w] => match h[l]? with
    | some (.lst a) => if a.length < lim then .ok .non (h.set l (.lst (a ++ [w]))) else .bad
    | _ => .bad
  | _, _ => .bad
def lExtend : Val → List Val → Hm → R Val := fun v vs h => match v, vs with
  | .loc l, [.loc k] => match h[l]?, h[k]? with
    | some (.lst a), some (.lst b) => if a.length + b.length < lim then .ok .non (h.set l (.lst (a ++ b))) else .bad
    | _, _ => .bad
  | _, _ => .bad
def lPop : Val → List Val → Hm → R Val := fun v vs h => match v, vs with
  | .loc l, [] => match h[l]? with
    | some (.lst a) => match a[a.length - 1]? with
      | some w => .ok w (h.set l (.lst (a.take (a.length - 1))))
      | none => .bad
    | _ => .bad
  | _, _ => .bad
def lPopAt : Val → List Val → Hm → R Val := fun v vs h => match v, vs with
  | .loc l, [.int i] => match h[l]? with
    | some (.lst a) => if 0 ≤ i ∧ i < 1000000 then match a[i.toNat]? with
        | some w => .ok w (h.set l (.lst (a.eraseIdx i.toNat)))
        | none => .bad
      else .bad
    | _ => .bad
  | _, _ => .bad
def lInsert : Val → List Val → Hm → R Val := fun v vs h => match v, vs with
  | .loc l, [.int i, w] => match h[l]? with
    | some (.lst a) => if 0 ≤ i ∧ i < 1000000 ∧ a.length < lim then .ok .non (h.set l (.lst (a.take i.toNat ++ [w] ++ a.drop i.toNat))) else .bad
    | _ => .bad
  | _, _ => .bad
theorem s_append : MtS (cf X T) lAppend rAppend := by
  intro E ρ μ H v x vs xs Q R r rs h
  unfold lAppend at h
  split at h
  · split at h
    · rename_i hl
      split at h
      · rename_i hz
        obtain ⟨a, rfl, ha⟩ := r.loc_inv
        obtain ⟨y, rfl, ry⟩ := rs.one
        obtain ⟨ys, h1, l⟩ := R.lst hl ha
        obtain ⟨R', st⟩ := R.setL ha (l.app (Rl.cons ry Rl.nil))
        exact ⟨a, ys, y, rfl, rfl, h1, by rw [← l.1]; exact lim_ok hz, h ρ _ _ st R' .non⟩
      · exact h.elim
    · exact h.elim
  · exact h.elim
theorem s_extend : MtS (cf X T) lExtend rExtend := by
  intro E ρ μ H v x vs xs Q R r rs h
  unfold lExtend at h
  split at h
  · split at h
    · rename_i hl hk
      split at h
      · rename_i hz
        obtain ⟨a, rfl, ha⟩ := r.loc_inv
        obtain ⟨y, rfl, ry⟩ := rs.one
        obtain ⟨b, rfl, hb⟩ := ry.loc_inv
        obtain ⟨ys, h1, l⟩ := R.lst hl ha
        obtain ⟨zs, h2, l2⟩ := R.lst hk hb
        obtain ⟨R', st⟩ := R.setL ha (l.app l2)
        exact ⟨a, b, ys, zs, rfl, rfl, h1, h2, by rw [← l.1, ← l2.1]; exact Nat.le_of_lt (lim_ok hz), h ρ _ _ st R' .non⟩
      · exact h.elim
    · exact h.elim
  · exact h.elim
theorem s_pop : MtS (cf X T) lPop rPop := by
  intro E ρ μ H v x vs xs Q R r rs h
  unfold lPop at h
  split at h
  · split at h
    · rename_i hl
      split at h
      · rename_i w e
        obtain ⟨a, rfl, ha⟩ := r.loc_inv
        obtain ⟨ys, h1, l⟩ := R.lst hl ha
        obtain ⟨y, e1, ry⟩ := l.get e
        have l3 := l.take (ys.length - 1)
        rw [← List.dropLast_eq_take, ← l.1] at l3
        obtain ⟨R', st⟩ := R.setL ha l3
        refine ⟨a, ys, y, rfl, rs.nil_of, h1, by rw [← l.1]; exact e1, h ρ _ _ st R' (ry.mono st)⟩
      · exact h.elim
    · exact h.elim
  · exact h.elim
theorem seqIx {i : Int} {n k : Nat} (h0 : 0 ≤ i) (hk : i.toNat < n) : seqIndex? i n = some i.toNat := by
  have : ixN n i = some i.toNat := by unfold ixN; rw [if_pos h0, if_pos (by omega)]
  exact (ixN_seq this).1
theorem s_popAt : MtS (cf X T) lPopAt rPopAt := by
  intro E ρ μ H v x vs xs Q R r rs h
  unfold lPopAt at h
  split at h
  · split at h
    · rename_i hl
      split at h
      · rename_i hi
        split at h
        · rename_i w e
          obtain ⟨a, rfl, ha⟩ := r.loc_inv
          obtain ⟨y, rfl, ry⟩ := rs.one
          obtain ⟨ys, h1, l⟩ := R.lst hl ha
          obtain ⟨y', e1, ry'⟩ := l.get e
          obtain ⟨R', st⟩ := R.setL ha (l.eraseIdx _)
          rw [ry.int_inv]
          exact ⟨a, ys, _, _, y', rfl, rfl, h1, by omega, by omega, seqIx (k := 0) hi.1 (List.getElem?_eq_some_iff.mp e1).1, e1, h ρ _ _ st R' (ry'.mono st)⟩
        · exact h.elim
      · exact h.elim
    · exact h.elim
  · exact h.elim
theorem s_insert : MtS (cf X T) lInsert (fun x vs H Q => ∃ (l : Addr) (xs : List V) (i : Int) (y : V), x = .ref l ∧ vs = [.int i, y] ∧ H l = some (.lst xs) ∧ xs.length < sizeLine ∧ 0 ≤ i ∧ i < 2 ^ 63 ∧
    Q .non (upd H l (.lst (xs.take i.toNat ++ [y] ++ xs.drop i.toNat)))) := by
  intro E ρ μ H v x vs xs Q R r rs h
  unfold lInsert at h
  split at h
  · split at h
    · rename_i hl
      split at h
      · rename_i hi
        obtain ⟨a, rfl, ha⟩ := r.loc_inv
        obtain ⟨y, z, rfl, ry, rz⟩ := rs.two
        obtain ⟨ys, h1, l⟩ := R.lst hl ha
        obtain ⟨R', st⟩ := R.setL ha (((l.take _).app (Rl.cons rz Rl.nil)).app (l.drop _))
        rw [ry.int_inv]
        exact ⟨a, ys, _, z, rfl, rfl, h1, by rw [← l.1]; exact lim_ok hi.2.2, by omega, by omega, h ρ _ _ st R' .non⟩
      · exact h.elim
    · exact h.elim
  · exact h.elim
/-- xs.index(v): it is there -/
def firstEq (h : Hm) (v : Val) : List Val → Option Nat
  | [] => none
  | w :: r => if eqvN 39 h w v then some 0 else match firstEq h v r with
    | some j => some (j + 1)
    | none => none
def lIndex : Val → List Val → Hm → R Val := fun v vs h => match vs with
  | [w] => match listOf v h with
    | some a => if datN 39 h w && a.all (datN 39 h) then match firstEq h w a with
        | some j => .ok (.int j) h
        | none => .bad
      else .bad
    | none => .bad
  | _ => .bad
theorem firstEq_at {μ : Hm} {w : Val} : ∀ {a : List Val} {j : Nat}, firstEq μ w a = some j → ∃ z, a[j]? = some z ∧ eqvN 39 μ z w = true ∧ ∀ (m : Nat) (z' : Val), m < j → a[m]? = some z' → eqvN 39 μ z' w = false
  | [], j, h => by simp [firstEq] at h
  | z :: r, j, h => by
    unfold firstEq at h
    by_cases c : eqvN 39 μ z w = true
    · rw [if_pos c] at h
      cases h
      exact ⟨z, rfl, c, fun m z' hm => absurd hm (Nat.not_lt_zero _)⟩
    · rw [if_neg c] at h
      split at h
      · rename_i i e
        cases h
        obtain ⟨y, h1, h2, h3⟩ := firstEq_at e
        refine ⟨y, by simpa using h1, h2, fun m z' hm hz => ?_⟩
        cases m with
        | zero => simp at hz; subst hz; simpa using c
        | succ m => exact h3 m z' (by omega) (by simpa using hz)
      · cases h
theorem s_index : MtS (cf X T) lIndex (rIndexD X.K) := by
  intro E ρ μ H v x vs xs Q R r rs h
  unfold lIndex at h
  split at h
  · obtain ⟨y, rfl, ry⟩ := rs.one
    split at h
    · rename_i a ea
      split at h
      · rename_i hd
        split at h
        · rename_i j ej
          obtain ⟨z, h1, h2, h3⟩ := firstEq_at ej
          obtain ⟨a1, a2, a3, a4, a5⟩ := in_of (E := fun _ _ _ => False) R ry r ea hd
          obtain ⟨p, ys, rfl, sq, l⟩ := listOf_ok R r ea
          rw [Bool.and_eq_true] at hd
          have hall := List.all_eq_true.mp hd.2
          refine ⟨p, y, toD 39 μ _, a.map (toD 39 μ), j, toD 39 μ z, rfl, rfl, a2, a1, a4, a3, by rw [List.getElem?_map, h1]; rfl, ?_, fun m z' hm hz => ?_, h ρ H _ .refl R (.int _)⟩
          · rw [← eqvN_eq 39 _ _ (hall z (List.mem_of_getElem? h1)) hd.1]; exact h2
          · rw [List.getElem?_map] at hz
            cases ez : a[m]? with
            | none => rw [ez] at hz; cases hz
            | some z0 =>
              rw [ez] at hz
              cases hz
              rw [← eqvN_eq 39 _ _ (hall z0 (List.mem_of_getElem? ez)) hd.1]
              exact h3 m z0 hm ez
        · exact h.elim
      · exact h.elim
    · exact h.elim
  · exact h.elim
end
end Mn

/-! Mn8: statements, loops, comprehensions. -/
namespace Mn
open PySem PySem.Spec PyProof.Rows L2

/-! ### the small programs -/
abbrev MG := Val → LS → Hm → RS
def sNx : MS := fun s h => .nx s h
def sSeq (a b : MS) : MS := fun s h => match a s h with
  | .nx s1 h1 => b s1 h1
  | r => r
def sBrk : MS := fun s h => .bk s h
def sCnt : MS := fun s h => .ct s h
def sExp (m : ME) : MS := fun s h => bindS s (m s h) fun _ h1 => .nx s h1
def sRet (m : ME) : MS := fun s h => bindS s (m s h) fun v h1 => .rt v h1
def sRetN : MS := fun _ h => .rt .non h
def sIf (t : MT) (a b : MS) : MS := fun s h => bindS s (t s h) fun c h1 => if c then a s h1 else b s h1
def only (r : RS) : RS := match r with
  | .nx s h => .nx s h
  | .xn c s h => .xn c s h
  | _ => .bad
def sAsg (m : ME) (g : MG) : MS := fun s h => bindS s (m s h) fun v h1 => only (g v s h1)
def gVar (i : Nat) : MG := fun v s h => .nx (s.set i (some v)) h
def gRun : List MG → List Val → LS → Hm → RS
  | [], [], s, h => .nx s h
  | g :: gs, v :: vs, s, h => match g v s h with
    | .nx s1 h1 => gRun gs vs s1 h1
    | r => r
  | _, _, _, _ => .bad
def gTupM (gs : List MG) : MG := fun v s h => match v with
  | .tup vs => if vs.length = gs.length then gRun gs vs s h else .bad
  | _ => .bad
def gSubM (o i : ME) (f : Val → Val → Val → Hm → Option Hm) : MG := fun v s h => bindS s (o s h) fun ov h1 => bindS s (i s h1) fun iv h2 => match f ov iv v h2 with
  | some h3 => .nx s h3
  | none => .bad
def sAug (i : Nat) (f : Val → Val → Hm → R Val) (m : ME) : MS := fun s h => match s[i]? with
  | some (some v) => bindS s (m s h) fun w h1 => bindS s (f v w h1) fun z h2 => .nx (s.set i (some z)) h2
  | _ => .bad
def whileN (t : MT) (b : MS) : Nat → MS
  | 0 => fun _ _ => .bad
  | n + 1 => fun s h => match t s h with
    | .ok c h1 => if c then (match b s h1 with
      | .nx s2 h2 => whileN t b n s2 h2
      | .ct s2 h2 => whileN t b n s2 h2
      | .bk s2 h2 => .nx s2 h2
      | .rt v h2 => .rt v h2
      | .xn c s2 h2 => .xn c s2 h2
      | .bad => .bad) else .nx s h1
    | .xn c h1 => .xn c s h1
    | .bad => .bad
inductive Turn' where
  | stop | item (v : Val) | bad
structure It' where
  fuel : Nat
  turn : Nat → Hm → Turn'
abbrev MI := LS → Hm → R It'
def forN (g : MG) (b : MS) (turn : Nat → Hm → Turn') : Nat → Nat → MS
  | 0, _ => fun _ _ => .bad
  | n + 1, i => fun s h => match turn i h with
    | .stop => .nx s h
    | .bad => .bad
    | .item v => match g v s h with
      | .nx s1 h1 => (match b s1 h1 with
        | .nx s2 h2 => forN g b turn n (i + 1) s2 h2
        | .ct s2 h2 => forN g b turn n (i + 1) s2 h2
        | .bk s2 h2 => .nx s2 h2
        | .rt v h2 => .rt v h2
        | .xn c s2 h2 => .xn c s2 h2
        | .bad => .bad)
      | .xn c s2 h2 => .xn c s2 h2
      | _ => .bad
def sFor (it : MI) (g : MG) (b : MS) : MS := fun s h => bindS s (it s h) fun J h1 => forN g b J.turn J.fuel 0 s h1
def wipeS (s : LS) : List Nat → LS
  | [] => s
  | v :: vs => (wipeS s vs).set v none
/-- a comprehension's turns: what is made so far stands in acc, the last one first -/
def lcN (g : MG) (t : MT) (e : ME) (turn : Nat → Hm → Turn') (s : LS) : Nat → Nat → List Val → Hm → R (List Val)
  | 0, _, _, _ => .bad
  | n + 1, i, acc, h => match turn i h with
    | .stop => .ok acc h
    | .bad => .bad
    | .item v => match g v s h with
      | .nx s1 h1 => (match t s1 h1 with
        | .ok c h2 => if c then (match e s1 h2 with
          | .ok x h3 => if acc.length < lim then lcN g t e turn s n (i + 1) (x :: acc) h3 else .bad
          | _ => .bad) else lcN g t e turn s n (i + 1) acc h2
        | _ => .bad)
      | _ => .bad
def mLc (it : MI) (vs : List Nat) (g : MG) (t : MT) (e : ME) : ME := fun s h => bindR (it s h) fun J h1 => bindR (lcN g t e J.turn (wipeS s vs) J.fuel 0 [] h1) fun acc h2 => .ok (.loc h2.length) (h2 ++ [.lst acc.reverse])
def tTrue : MT := fun _ h => .ok true h

/-! ### what they mean -/
section
variable (C : Cf)
abbrev gEnds (Q : L2.St → Hp → Prop) : Ends := { nx := Q, rt := fun _ _ => False }
def tG (W : WX) (g : MG) : TG := fun x σ H Q => ∃ ρ μ s v, Rep C ρ μ H ∧ Rs C.K ρ H s σ ∧ Rv C.K ρ H v x ∧ postS C W ρ H (g v s μ) (gEnds Q)
def tGs (W : WX) (gs : List MG) : TGs := fun xs σ H Q => ∃ ρ μ s vs, Rep C ρ μ H ∧ Rs C.K ρ H s σ ∧ Rl C.K ρ H vs xs ∧ postS C W ρ H (gRun gs vs s μ) (gEnds Q)
def ItR (ρ : List Addr) (H : Hp) (a : It') (J : L2.It) : Prop := ∀ ρ' μ' H', Step ρ H ρ' H' → Rep C ρ' μ' H' → ∀ i, match a.turn i μ' with
  | .stop => J.stop i H'
  | .item v => J.go i H' ∧ ∀ x H2, J.yld i H' x H2 → Step ρ' H' ρ' H2 ∧ Rep C ρ' μ' H2 ∧ Rv C.K ρ' H2 v x
  | .bad => True
def tI (W : WX) (it : MI) : TI := fun σ H R => ∃ ρ μ s, Rep C ρ μ H ∧ Rs C.K ρ H s σ ∧ post C (ItR C) (WE W σ) ρ H (it s μ) R
end
section
variable {X : Cx} {T : Tab} {W : WX} {a b e : Expr} {st : Stmt} {es : List Expr} {rest as bs : List Stmt} {pos : Pos} {ma mb : ME} {m m2 : MS} {mt : MT}

theorem ss_nil : PSs X [] (tS (cf X T) W sNx) := pss_nil.imp fun D σ H ⟨ρ, μ, s, R, S, h⟩ => h ρ H σ .refl R S
theorem tSeq_of (D : Ends) (σ : L2.St) (H : Hp) (h : tS (cf X T) W (sSeq m m2) D σ H) : tSeq (tS (cf X T) W m) (tS (cf X T) W m2) D σ H := by
  obtain ⟨ρ, μ, s, R, S, h⟩ := h
  refine ⟨ρ, μ, s, R, S, ?_⟩
  unfold sSeq at h
  cases e : m s μ with
  | nx s1 μ1 => rw [e] at h; exact fun ρ' H' σ' st' R' S' => ⟨ρ', μ1, s1, R', S', postS.shift st' h⟩
  | rt v μ1 => rw [e] at h; exact h
  | bk s1 μ1 => rw [e] at h; exact h
  | ct s1 μ1 => rw [e] at h; exact h
  | xn c s1 μ1 => rw [e] at h; exact h
  | bad => rw [e] at h; exact h
theorem ss_cons (h1 : PS X st (tS (cf X T) W m)) (h2 : PSs X rest (tS (cf X T) W m2)) : PSs X (st :: rest) (tS (cf X T) W (sSeq m m2)) := (pss_cons h1 h2).imp tSeq_of
theorem ss_one (h1 : PS X st (tS (cf X T) W m)) : PSs X [st] (tS (cf X T) W m) := pss_one h1
theorem s_pass : PS X (.Pass pos) (tS (cf X T) W sNx) := ps_pass.imp fun D σ H ⟨ρ, μ, s, R, S, h⟩ => h ρ H σ .refl R S
theorem s_brk : PS X (.Break pos) (tS (cf X T) W sBrk) := ps_break.imp fun D σ H ⟨ρ, μ, s, R, S, h⟩ => h ρ H σ .refl R S
theorem s_cnt : PS X (.Continue pos) (tS (cf X T) W sCnt) := ps_continue.imp fun D σ H ⟨ρ, μ, s, R, S, h⟩ => h ρ H σ .refl R S
theorem s_retN : PS X (.Return none pos) (tS (cf X T) W sRetN) := ps_retN.imp fun D σ H ⟨ρ, μ, s, R, S, h⟩ => h ρ H .non .refl R .non
theorem s_exp (he : PE X e (tE (cf X T) W ma)) (hs : swapsWith e none pos.line X.env = pure false := by rfl) : PS X (.Expr e pos) (tS (cf X T) W (sExp ma)) :=
  (ps_expr he hs).imp fun D σ H ⟨ρ, μ, s, R, S, h⟩ => ⟨ρ, μ, s, R, S, (post.bindS (Rr := RrV (cf X T)) S h).mono fun x H1 ⟨ρ1, μ1, v, st, R1, r1, h1⟩ => h1 ρ1 H1 σ .refl R1 (S.mono st)⟩
theorem s_ret (he : PE X e (tE (cf X T) W ma)) : PS X (.Return (some e) pos) (tS (cf X T) W (sRet ma)) :=
  (ps_ret he).imp fun D σ H ⟨ρ, μ, s, R, S, h⟩ => ⟨ρ, μ, s, R, S, (post.bindS (Rr := RrV (cf X T)) S h).mono fun x H1 ⟨ρ1, μ1, v, st, R1, r1, h1⟩ => h1 ρ1 H1 x .refl R1 r1⟩
theorem s_if (hc : PT X e (tT (cf X T) W mt)) (ha : PSs X as (tS (cf X T) W m)) (hb : PSs X bs (tS (cf X T) W m2)) : PS X (.If e as bs pos) (tS (cf X T) W (sIf mt m m2)) :=
  (ps_if hc ha hb).imp fun D σ H ⟨ρ, μ, s, R, S, h⟩ => ⟨ρ, μ, s, R, S, (post.bindS (Rr := RrB) S h).mono fun c H1 ⟨ρ1, μ1, v, st, R1, r1, h1⟩ => by
    have e : v = c := r1
    subst e
    cases v with
    | true => exact ⟨ρ1, μ1, s, R1, S.mono st, h1⟩
    | false => exact ⟨ρ1, μ1, s, R1, S.mono st, h1⟩⟩

/-! targets -/
theorem g_var {i : Nat} {x : Str} (hN : X.N.Nodup) (hi : X.N[i]? = some x := by rfl) (hx : Loc X.env.scope x := by first | exact .inl rfl | exact .inr rfl) (hf : X.fn x = true ∨ X.env.scope.names.lookup x = some .local := by first | exact .inl rfl | exact .inr rfl | assumption) : PG X (.Name x pos) (tG (cf X T) W (gVar i)) :=
  ⟨fun pins s σ H v u Q I r ⟨ρ, μ, ls, w, R, S, q, h⟩ => (pg_name hN hi hx hf).run pins s σ H v u Q I r (h ρ H _ .refl R (S.set q))⟩
theorem gs_nil : PGs X [] (tGs (cf X T) W []) := ⟨fun pins s σ H vs us Q I r ⟨ρ, μ, ls, ws, R, S, q, h⟩ => by
  cases ws with
  | nil => exact pgs_nil.run pins s σ H vs us Q I r ⟨q.nil_of, h ρ H σ .refl R S⟩
  | cons w ws => exact h.elim⟩
theorem gs_cons {g : MG} {gs : List MG} (h1 : PG X e (tG (cf X T) W g)) (h2 : PGs X es (tGs (cf X T) W gs)) (hs : (assignEach (e :: es) X.env).map (·.2) = assign e X.env :: (assignEach es X.env).map (·.2) := by rfl) : PGs X (e :: es) (tGs (cf X T) W (g :: gs)) :=
  ⟨fun pins s σ H vs us Q I r ⟨ρ, μ, ls, ws, R, S, q, h⟩ => by
    cases ws with
    | nil => exact h.elim
    | cons w ws =>
      obtain ⟨x, ys, rfl, rx, rr⟩ := q.uncons
      refine (pgs_cons h1 h2 hs).run pins s σ H _ us Q I r ⟨x, ys, rfl, ρ, μ, ls, w, R, S, rx, ?_⟩
      unfold gRun at h
      cases e : g w ls μ with
      | nx s1 μ1 => rw [e] at h; exact fun ρ' H' σ' st' R' S' => ⟨ρ', μ1, s1, ws, R', S', rr.mono st', postS.shift st' h⟩
      | rt v μ1 => rw [e] at h; exact h
      | bk s1 μ1 => rw [e] at h; exact h
      | ct s1 μ1 => rw [e] at h; exact h
      | xn c s1 μ1 => rw [e] at h; exact h
      | bad => rw [e] at h; exact h⟩
theorem gRun_len : ∀ {gs : List MG} {vs : List Val} {s : LS} {μ : Hm}, gs.length ≠ vs.length → ∀ {C : Cf} {W : WX} {ρ : List Addr} {H : Hp} {Q : L2.St → Hp → Prop}, postS C W ρ H (gRun gs vs s μ) (gEnds Q) → True := fun _ => fun _ => trivial
theorem g_tup {gs : List MG} {k : Nat} (hc : X.calm = true) (hg : PGs X es (tGs (cf X T) W gs)) (hn : (assignEach es X.env).length = gs.length := by rfl) (hst : (assignEach es X.env).findIdx? (·.1) = none := by rfl) :
    PG X (.Tuple es k pos) (tG (cf X T) W (gTupM gs)) :=
  ⟨fun pins s σ H v u Q I r ⟨ρ, μ, ls, w, R, S, q, h⟩ => by
    unfold gTupM at h
    split at h
    · split at h
      · rename_i hl
        obtain ⟨a, xs, rfl, sq, l⟩ := q.tup_inv
        exact (pg_tup hc hg hn hst).run pins s σ H _ u Q I r ⟨a, xs, rfl, sq, by rw [← l.1]; exact hl, ρ, μ, ls, _, R, S, l, h⟩
      · exact h.elim
    · exact h.elim⟩
def SetS (C : Cf) (f : Val → Val → Val → Hm → Option Hm) (t : TSet) : Prop := ∀ (ρ : List Addr) (μ μ' : Hm) (H : Hp) (o i v : Val) (ox ix vx : V) (Q : Hp → Prop), Rep C ρ μ H → Rv C.K ρ H o ox → Rv C.K ρ H i ix → Rv C.K ρ H v vx → f o i v μ = some μ' →
  (∀ ρ' H', Step ρ H ρ' H' → Rep C ρ' μ' H' → Q H') → t ox ix vx H Q
theorem g_sub {f : Val → Val → Val → Hm → Option Hm} {t : TSet} (ho : PE X a (tE (cf X T) W ma)) (hi : PE X b (tE (cf X T) W mb)) (hs : PSet X t) (hf : SetS (cf X T) f t)
    (ha : ∀ v, assign (.Subscript a b pos) X.env v = (do
      let ov ← holding [v] (eval a X.env)
      let iv ← holding [v, ov] (eval b X.env)
      standAt pos
      holding [v, ov, iv] (setItem ov iv v)
      release [v, ov, iv] []) := by intro _; rfl) : PG X (.Subscript a b pos) (tG (cf X T) W (gSubM ma mb f)) :=
  ⟨fun pins s σ H v u Q I r ⟨ρ, μ, ls, w, R, S, q, h⟩ => (pg_sub ho hi hs ha).run pins s σ H v u Q I r
    ⟨ρ, μ, ls, R, S, (post.bindS (Rr := RrV (cf X T)) S h).mono fun ox H1 ⟨ρ1, μ1, ov, st1, R1, r1, h1⟩ => ⟨ρ1, μ1, ls, R1, S.mono st1, (post.bindS (Rr := RrV (cf X T)) (S.mono st1) h1).mono fun ix H2 ⟨ρ2, μ2, iv, st2, R2, r2, h2⟩ => by
      split at h2
      · rename_i μ3 e
        exact hf ρ2 μ2 μ3 H2 ov iv w ox ix v _ R2 (r1.mono st2) r2 ((q.mono st1).mono st2) e fun ρ3 H3 st3 R3 => h2 ρ3 H3 σ st3 R3 (((S.mono st1).mono st2).mono st3)
      · exact h2.elim⟩⟩⟩
theorem s_asg {tg : Expr} {g : MG} (he : PE X e (tE (cf X T) W ma)) (hg : PG X tg (tG (cf X T) W g)) (hs : swapsWithSole [tg] e pos.line X.env = pure false := by rfl) (hw : swappedStores [tg] e X.env = pure none := by rfl)
    (h1 : (assignEach [tg] X.env).map (·.2) = [assign tg X.env] := by rfl) : PS X (.Assign [tg] e pos) (tS (cf X T) W (sAsg ma g)) :=
  (ps_asg he hg hs hw h1).imp fun D σ H ⟨ρ, μ, s, R, S, h⟩ => ⟨ρ, μ, s, R, S, (post.bindS (Rr := RrV (cf X T)) S h).mono fun x H1 ⟨ρ1, μ1, v, st, R1, r1, h1⟩ => ⟨ρ1, μ1, s, v, R1, S.mono st, r1, by
    cases e : g v s μ1 with
    | nx s2 μ2 => rw [e] at h1; exact h1
    | xn c s2 μ2 => rw [e] at h1; exact h1
    | _ => rw [e] at h1; exact h1.elim⟩⟩

theorem s_aug {i : Nat} {x : Str} {op : Operator} {r : R2} {f : Val → Val → Hm → R Val} {p' : Pos} (ho : OpR X (inplaceOp op) r) (hr : OpS (cf X T) f r) (hN : X.N.Nodup) (he : PE X e (tE (cf X T) W ma)) (hi : X.N[i]? = some x := by rfl) (hx : Loc X.env.scope x := by first | exact .inl rfl | exact .inr rfl)
    (hf : X.fn x = true ∨ X.env.scope.names.lookup x = some .local := by first | exact .inl rfl | exact .inr rfl | assumption) : PS X (.AugAssign (.Name x p') op e pos) (tS (cf X T) W (sAug i f ma)) :=
  (ps_aug hN hi hx he ho hf).imp fun D σ H ⟨ρ, μ, s, R, S, h⟩ => by
    unfold sAug at h
    split at h
    · rename_i v hv
      obtain ⟨y, ey, ry⟩ := S.2 i v hv
      refine ⟨y, ey, ρ, μ, s, R, S, (post.bindS (Rr := RrV (cf X T)) S h).mono fun z H1 ⟨ρ1, μ1, w, st1, R1, r1, h1⟩ => ?_⟩
      exact hr (WE W σ) ρ1 μ1 H1 v w y z _ R1 (ry.mono st1) r1 ((post.bindS (Rr := RrV (cf X T)) (S.mono st1) h1).mono fun u H2 ⟨ρ2, μ2, w2, st2, R2, r2, h2⟩ => h2 ρ2 H2 _ .refl R2 (((S.mono st1).mono st2).set r2))
    · exact h.elim

/-! while -/
theorem s_while {n : Nat} (hp : PassesOwn (model X.prog X.w) X.A X.env X.xe) (hc : PT X e (tT (cf X T) W mt)) (hb : PSs X bs (tS (cf X T) W m)) : PS X (.While e bs [] pos) (tS (cf X T) W (whileN mt m n)) :=
  (ps_while hp hc hb).imp fun D σ H h => by
    refine ⟨fun k σ H => tS (cf X T) W (whileN mt m k) D σ H, ⟨n, h⟩, fun k σ H ⟨ρ, μ, s, R, S, h⟩ => ?_⟩
    cases k with
    | zero => exact h.elim
    | succ k =>
      refine ⟨ρ, μ, s, R, S, ?_⟩
      unfold whileN at h
      cases et : mt s μ with
      | bad => rw [et] at h; exact h
      | xn c μ1 => rw [et] at h; exact fun ρ' H' st' R' => h ρ' H' σ st' R' (S.mono st')
      | ok c μ1 =>
        rw [et] at h
        intro ρ1 H1 c' st1 R1 ec
        have ec : c = c' := ec
        subst ec
        have S1 := S.mono st1
        cases c with
        | false =>
          exact iteF ((show postS (cf X T) W ρ H (.nx s μ1) D from h) ρ1 H1 σ st1 R1 S1)
        | true =>
          simp only [if_true] at h ⊢
          refine ⟨fun σ' H' => tS (cf X T) W (whileN mt m k) D σ' H', fun σ' H' h' => ⟨k, Nat.lt_succ_self k, h'⟩, ρ1, μ1, s, R1, S1, ?_⟩
          cases eb : m s μ1 with
          | nx s2 μ2 => rw [eb] at h; exact fun ρ2 H2 σ2 st2 R2 S2 => ⟨ρ2, μ2, s2, R2, S2, postS.shift (st1.trans st2) h⟩
          | ct s2 μ2 => rw [eb] at h; exact fun ρ2 H2 σ2 st2 R2 S2 => ⟨ρ2, μ2, s2, R2, S2, postS.shift (st1.trans st2) h⟩
          | bk s2 μ2 => rw [eb] at h; exact postS.shift st1 h
          | rt v μ2 => rw [eb] at h; exact postS.shift st1 h
          | xn c s2 μ2 => rw [eb] at h; exact postS.shift st1 h
          | bad => rw [eb] at h; exact h

/-! for -/
theorem s_for {tg iter : Expr} {it : MI} {g : MG} (hp : PassesOwn (model X.prog X.w) X.A X.env X.xe) (hc : X.calm = true) (hi : PI X tg iter (tI (cf X T) W it)) (hg : PG X tg (tG (cf X T) W g)) (hb : PSs X bs (tS (cf X T) W m))
    (hs : ∀ x, foldedSetIterable iter X.env x = pure x := by intro _; rfl) : PS X (.For tg iter bs [] pos) (tS (cf X T) W (sFor it g m)) :=
  (ps_for hp hc hi hg hb hs).imp fun D σ H ⟨ρ, μ, s, R, S, h⟩ => ⟨ρ, μ, s, R, S, (post.bindS (Rr := ItR (cf X T)) S h).mono fun J H1 ⟨ρ1, μ1, j, st1, R1, rel, h1⟩ => by
    refine ⟨fun i k σ H => ∃ ρ2 μ2 s2, Step ρ1 H1 ρ2 H ∧ Rep (cf X T) ρ2 μ2 H ∧ Rs X.K ρ2 H s2 σ ∧ postS (cf X T) W ρ2 H (forN g m j.turn k i s2 μ2) D, ⟨j.fuel, ρ1, μ1, s, .refl, R1, S.mono st1, h1⟩, fun i k σ2 H2 ⟨ρ2, μ2, s2, st2, R2, S2, h2⟩ => ?_⟩
    cases k with
    | zero => exact h2.elim
    | succ k =>
      unfold forN at h2
      have q := rel ρ2 μ2 H2 st2 R2 i
      cases et : j.turn i μ2 with
      | bad => rw [et] at h2; exact h2.elim
      | stop =>
        rw [et] at h2 q
        exact .inl ⟨q, h2 ρ2 H2 σ2 .refl R2 S2⟩
      | item v =>
        rw [et] at h2 q
        dsimp only at h2
        obtain ⟨go, yl⟩ := q
        refine .inr ⟨go, fun σ' H' => ∃ ρ2 μ2 s2, Step ρ1 H1 ρ2 H' ∧ Rep (cf X T) ρ2 μ2 H' ∧ Rs X.K ρ2 H' s2 σ' ∧ postS (cf X T) W ρ2 H' (forN g m j.turn k (i + 1) s2 μ2) D, fun σ' H' h' => ⟨k, Nat.lt_succ_self k, h'⟩, fun x H3 y => ?_⟩
        obtain ⟨st3, R3, r3⟩ := yl x H3 y
        have S3 := Rs.mono (C := cf X T) st3 S2
        refine ⟨ρ2, μ2, s2, v, R3, S3, r3, ?_⟩
        cases eg : g v s2 μ2 with
        | bad => rw [eg] at h2; exact h2.elim
        | rt _ _ => rw [eg] at h2; exact h2.elim
        | bk _ _ => rw [eg] at h2; exact h2.elim
        | ct _ _ => rw [eg] at h2; exact h2.elim
        | xn c s3 μ3 => rw [eg] at h2; exact postS.shift st3 h2
        | nx s3 μ3 =>
          rw [eg] at h2
          refine fun ρ4 H4 σ4 st4 R4 S4 => ⟨ρ4, μ3, s3, R4, S4, ?_⟩
          have st24 := st3.trans st4
          dsimp only at h2
          cases eb : m s3 μ3 with
          | nx s5 μ5 => rw [eb] at h2; exact fun ρ5 H5 σ5 st5 R5 S5 => ⟨ρ5, μ5, s5, (st2.trans st24).trans st5, R5, S5, postS.shift (st24.trans st5) h2⟩
          | ct s5 μ5 => rw [eb] at h2; exact fun ρ5 H5 σ5 st5 R5 S5 => ⟨ρ5, μ5, s5, (st2.trans st24).trans st5, R5, S5, postS.shift (st24.trans st5) h2⟩
          | bk s5 μ5 => rw [eb] at h2; exact postS.shift st24 h2
          | rt v μ5 => rw [eb] at h2; exact postS.shift st24 h2
          | xn c s5 μ5 => rw [eb] at h2; exact postS.shift st24 h2
          | bad => rw [eb] at h2; exact h2⟩
end
end Mn

/-! Mn9: what loops walk; comprehensions. -/
namespace Mn
open PySem PySem.Spec PyProof.Rows L2

def itVals (vs : List Val) : It' := ⟨vs.length + 1, fun i _ => match vs[i]? with
  | some v => .item v
  | none => .stop⟩
def itLoc (l n : Nat) : It' := ⟨n + 1, fun i h => match h[l]? with
  | some (.lst vs) => (match vs[i]? with
    | some v => .item v
    | none => .stop)
  | _ => .bad⟩
/-- over a tuple, a list, a text -/
def mIter (m : ME) : MI := fun s h => bindR (m s h) fun v h1 => match v with
  | .tup vs => .ok (itVals vs) h1
  | .ro vs => .ok (itVals vs) h1
  | .str cs => .ok (itVals (cs.map fun c => .str [c])) h1
  | .loc l => match h1[l]? with
    | some (.lst vs) => .ok (itLoc l vs.length) h1
    | _ => .bad
  | _ => .bad
def itRange (lo c : Int) (n : Nat) : It' := ⟨n + 1, fun i _ => if i < n then .item (.int (lo + (i : Int) * c)) else .stop⟩
def inR (i : Int) : Bool := decide (-1000000000 < i) && decide (i < 1000000000)
def mRange1 (a : MA) : MI := fun s h => bindR (a s h) fun vs h1 => match vs with
  | [.int j] => if inR j then .ok (itRange 0 1 j.toNat) h1 else .bad
  | _ => .bad
def mRange2 (a : MA) : MI := fun s h => bindR (a s h) fun vs h1 => match vs with
  | [.int i, .int j] => if inR i && inR j then .ok (itRange i 1 (j - i).toNat) h1 else .bad
  | _ => .bad
/-- downwards by one -/
def mRange3 (a : MA) : MI := fun s h => bindR (a s h) fun vs h1 => match vs with
  | [.int i, .int j, .int c] => if inR i && inR j && (c == -1) then .ok (itRange i (-1) (i - j).toNat) h1 else .bad
  | _ => .bad
def itEnum (l n : Nat) : It' := ⟨n + 1, fun i h => match h[l]? with
  | some (.lst vs) => (match vs[i]? with
    | some v => .item (.tup [.int i, v])
    | none => .stop)
  | _ => .bad⟩
def itEnumV (vs : List Val) : It' := ⟨vs.length + 1, fun i _ => match vs[i]? with
  | some v => .item (.tup [.int i, v])
  | none => .stop⟩
def mEnum (a : MA) : MI := fun s h => bindR (a s h) fun vs h1 => match vs with
  | [.loc l] => (match h1[l]? with
    | some (.lst vs) => .ok (itEnum l vs.length) h1
    | _ => .bad)
  | [.ro vs] => .ok (itEnumV vs) h1
  | _ => .bad

section
variable {X : Cx} {T : Tab} {W : WX} {a b c e tg : Expr} {es : List Expr} {pos p : Pos} {m ma mb : ME} {mr : MA} {mt : MT}

theorem itr_list {ρ : List Addr} {μ : Hm} {H : Hp} {l : Nat} {p : Addr} {vs : List Val} (R : Rep (cf X T) ρ μ H) (hp : ρ[l]? = some p) : ItR (cf X T) ρ H (itLoc l vs.length) (Itl X.K p) := by
  intro ρ' μ' H' st R' i
  show match (match μ'[l]? with
    | some (.lst vs) => (match vs[i]? with
      | some v => Turn'.item v
      | none => .stop)
    | _ => .bad) with
    | .stop => _
    | .item v => _
    | .bad => True
  split
  · rename_i h
    split at h
    · rename_i ws hl
      split at h
      · cases h
      · rename_i hn
        obtain ⟨xs, h1, r⟩ := R'.lst hl (st.get hp)
        have : ws.length ≤ i := List.getElem?_eq_none_iff.mp hn
        exact ⟨xs, .inl (.inl h1), by rw [← r.1]; exact this⟩
    · cases h
  · rename_i v h
    split at h
    · rename_i ws hl
      split at h
      · rename_i w hv
        cases h
        obtain ⟨xs, h1, r⟩ := R'.lst hl (st.get hp)
        obtain ⟨x, hx, rx⟩ := r.get hv
        refine ⟨⟨xs, x, .inl (.inl h1), hx⟩, fun y H2 ⟨e, f⟩ => ?_⟩
        subst e
        have e2 := f xs (.inl (.inl h1))
        rw [hx] at e2
        cases e2
        exact ⟨.refl, R', rx⟩
      · cases h
    · cases h
  · trivial
theorem itr_vals {ρ : List Addr} {H : Hp} {J : L2.It} {vs : List Val} {xs : List V} (r : Rl X.K ρ H vs xs) (hs : ∀ i ρ' H', Step ρ H ρ' H' → xs.length ≤ i → J.stop i H') (hg : ∀ i ρ' H' x, Step ρ H ρ' H' → xs[i]? = some x → J.go i H' ∧ ∀ y H2, J.yld i H' y H2 → H2 = H' ∧ y = x) : ItR (cf X T) ρ H (itVals vs) J := by
  intro ρ' μ' H' st R' i
  show match (match vs[i]? with
    | some v => Turn'.item v
    | none => .stop) with
    | .stop => _
    | .item v => _
    | .bad => True
  cases e : vs[i]? with
  | none =>
    have : vs.length ≤ i := List.getElem?_eq_none_iff.mp e
    exact hs i ρ' H' st (by rw [← r.1]; exact this)
  | some v =>
    obtain ⟨x, hx, rx⟩ := r.get e
    obtain ⟨g, y⟩ := hg i ρ' H' x st hx
    refine ⟨g, fun z H2 q => ?_⟩
    obtain ⟨e1, e2⟩ := y z H2 q
    subst e1 e2
    exact ⟨.refl, R', rx.mono st⟩
/-- a list, a tuple or a text is walked -/
def iAny (K : PySem.W.Frag) (te : TE) : TI := fun σ H R => te σ H fun x H1 => (∃ p, x = .ref p ∧ (∃ xs, SqL K H1 p xs) ∧ R (Itl K p) H1) ∨ (∃ p, x = .ref p ∧ (∃ xs, SqT K H1 p xs) ∧ R (Itt K p) H1) ∨ ∃ z, x = .str z ∧ R (Its z) H1
theorem pi_any {te : TE} (he : PE X e te) : PI X tg e (iAny X.K te) := by
  refine ⟨fun pins s σ H R I h => thn (he.run pins s σ H _ I h) fun v s1 ⟨x, H1, I1, r1, q1⟩ => ?_⟩
  rcases q1 with ⟨p, rfl, ⟨xs, hq⟩, q⟩ | ⟨p, rfl, ⟨xs, hq⟩, q⟩ | ⟨z, rfl, q⟩
  · cases r1
    obtain ⟨its, rv, pl, hz⟩ := I1.list hq
    exact wpAny_pyIter_list pl.isList (pi_one (tk := s1.toks) I1 _ (turn_list p _) ⟨_, Heap.get?_push_size _ rfl, rfl, rfl⟩ q)
  · cases r1
    obtain ⟨its, rv, pl, hz⟩ := I1.tuple hq
    exact wpAny_pyIter_tuple (show s1.heap.IsTuple p its.toArray from pl) (pi_one (tk := s1.toks) I1 _ (turn_tuple p _) ⟨_, Heap.get?_push_size _ rfl, rfl, rfl⟩ q)
  · obtain ⟨t, rfl⟩ := r1
    cases ha : z.cps.all (· < 128) with
    | false => exact wpAny_pyIter_wide ha (pi_one (tk := s1.toks) I1 _ (turn_str _ z t "str_iterator" (.inr rfl)) ⟨_, Heap.get?_push_size _ rfl, rfl, rfl⟩ q)
    | true => exact wpAny_pyIter_ascii ha (pi_one (tk := s1.toks) I1 _ (turn_str _ z t "str_ascii_iterator" (.inl rfl)) ⟨_, Heap.get?_push_size _ rfl, rfl, rfl⟩ q)
theorem _root_.L2.PI.imp {tg it : Expr} {t t' : TI} (h : PI X tg it t) (i : ∀ σ H Q, t' σ H Q → t σ H Q) : PI X tg it t' := ⟨fun pins s σ H R I q => h.run pins s σ H R I (i σ H R q)⟩
theorem i_any (he : PE X e (tE (cf X T) W m)) : PI X tg e (tI (cf X T) W (mIter m)) :=
  (pi_any he).imp fun σ H Q ⟨ρ, μ, s, R, S, h⟩ => ⟨ρ, μ, s, R, S, (post.bind (Rr := RrV (cf X T)) h).mono fun x H1 ⟨ρ1, μ1, v, st, R1, r1, h1⟩ => by
    split at h1
    · obtain ⟨a, xs, rfl, sq, l⟩ := r1.tup_inv
      refine .inr (.inl ⟨a, rfl, ⟨xs, sq⟩, h1 ρ1 H1 _ .refl R1 (itr_vals l (fun i ρ' H' st' hl => ⟨xs, st'.sqT sq, hl⟩) fun i ρ' H' x st' hx => ⟨⟨xs, x, st'.sqT sq, hx⟩, fun y H2 ⟨e1, f⟩ => ⟨e1, ?_⟩⟩)⟩)
      have := f xs (st'.sqT sq)
      rw [hx] at this
      exact (Option.some.inj this).symm
    · obtain ⟨a, xs, rfl, sq, l⟩ := r1.ro_inv
      refine .inl ⟨a, rfl, ⟨xs, sq.sq⟩, h1 ρ1 H1 _ .refl R1 (itr_vals l (fun i ρ' H' st' hl => ⟨xs, (sq.keep st'.frzs).sq, hl⟩) fun i ρ' H' x st' hx => ⟨⟨xs, x, (sq.keep st'.frzs).sq, hx⟩, fun y H2 ⟨e1, f⟩ => ⟨e1, ?_⟩⟩)⟩
      have := f xs ((sq.keep st'.frzs).sq)
      rw [hx] at this
      exact (Option.some.inj this).symm
    · obtain ⟨z, rfl, ez⟩ := r1.str_inv
      subst ez
      refine .inr (.inr ⟨z, rfl, h1 ρ1 H1 _ .refl R1 (itr_vals (xs := z.cps.toList.map fun c => V.str ⟨#[c]⟩) ⟨by simp, fun i v x h2 h3 => ?_⟩ (fun i ρ' H' st' hl => by simp at hl; exact hl) fun i ρ' H' x st' hx => ?_)⟩)
      · rw [List.getElem?_map] at h2 h3
        cases ec : z.cps.toList[i]? with
        | none => rw [ec] at h2; cases h2
        | some c => rw [ec] at h2 h3; cases h2; cases h3; exact .str ⟨#[c]⟩
      · rw [List.getElem?_map] at hx
        cases ec : z.cps.toList[i]? with
        | none => rw [ec] at hx; cases hx
        | some c =>
          rw [ec] at hx
          cases hx
          have ec' : z.cps[i]? = some c := by simpa using ec
          refine ⟨(Array.getElem?_eq_some_iff.mp ec').1, fun y H2 ⟨e1, d, ed, ey⟩ => ⟨e1, ?_⟩⟩
          rw [ec'] at ed
          cases ed
          exact ey
    · obtain ⟨a, rfl, ha⟩ := r1.loc_inv
      split at h1
      · rename_i vs hl
        obtain ⟨xs, h2, l⟩ := R1.lst hl ha
        exact .inl ⟨a, rfl, ⟨xs, .inl (.inl h2)⟩, h1 ρ1 H1 _ .refl R1 (itr_list R1 ha)⟩
      · exact h1.elim
    · exact h1.elim⟩

/-! ranges -/
theorem itr_range {ρ : List Addr} {H : Hp} {lo cc : Int} {n : Nat} {J : L2.It} (hs : ∀ i H', n ≤ i → J.stop i H') (hg : ∀ i H', i < n → J.go i H' ∧ ∀ y H2, J.yld i H' y H2 → H2 = H' ∧ y = .int (lo + (i : Int) * cc)) : ItR (cf X T) ρ H (itRange lo cc n) J := by
  intro ρ' μ' H' st R' i
  show match (if i < n then Turn'.item (.int (lo + (i : Int) * cc)) else .stop) with
    | .stop => _
    | .item v => _
    | .bad => True
  by_cases hi : i < n
  · rw [if_pos hi]
    obtain ⟨g, y⟩ := hg i H' hi
    refine ⟨g, fun z H2 q => ?_⟩
    obtain ⟨e1, e2⟩ := y z H2 q
    subst e1 e2
    exact ⟨.refl, R', .int _⟩
  · rw [if_neg hi]
    exact hs i H' (by omega)
theorem inR_ok {i : Int} (h : inR i = true) : -(2 ^ 62) ≤ i ∧ i < 2 ^ 62 := by
  unfold inR at h
  rw [Bool.and_eq_true, decide_eq_true_eq, decide_eq_true_eq] at h
  omega
theorem i_range1 (hm : X.mg "range" = none) (ha : PA X [a] (tA (cf X T) W mr)) (hg : Gl X "range" := by rfl) (hs : starEach [a] X.env = [(false, eval a X.env)] := by rfl) : PI X tg (.Call (.Name "range" p) [a] [] pos) (tI (cf X T) W (mRange1 mr)) :=
  (pi_range1 hg hm ha hs).imp fun σ H Q ⟨ρ, μ, s, R, S, h⟩ => ⟨ρ, μ, s, R, S, (post.bind (Rr := RrL (cf X T)) h).mono fun xs H1 ⟨ρ1, μ1, vs, st, R1, r1, h1⟩ => by
    split at h1
    · split at h1
      · rename_i j hj
        obtain ⟨x, rfl, rx⟩ := r1.one
        rw [rx.int_inv]
        obtain ⟨b1, b2⟩ := inR_ok hj
        exact ⟨j, rfl, b1, b2, h1 ρ1 H1 _ .refl R1 (itr_range (fun i H' hi => hi) fun i H' hi => ⟨hi, fun y H2 ⟨e1, e2⟩ => ⟨e1, by rw [e2, Int.mul_one]⟩⟩)⟩
      · exact h1.elim
    · exact h1.elim⟩
theorem i_range2 (hm : X.mg "range" = none) (ha : PA X [a, b] (tA (cf X T) W mr)) (hg : Gl X "range" := by rfl) (hs : starEach [a, b] X.env = [(false, eval a X.env), (false, eval b X.env)] := by rfl) (hs2 : starEach [b] X.env = [(false, eval b X.env)] := by rfl) :
    PI X tg (.Call (.Name "range" p) [a, b] [] pos) (tI (cf X T) W (mRange2 mr)) :=
  (pi_range2 hg hm ha hs hs2).imp fun σ H Q ⟨ρ, μ, s, R, S, h⟩ => ⟨ρ, μ, s, R, S, (post.bind (Rr := RrL (cf X T)) h).mono fun xs H1 ⟨ρ1, μ1, vs, st, R1, r1, h1⟩ => by
    split at h1
    · split at h1
      · rename_i i j hj
        obtain ⟨x, y, rfl, rx, ry⟩ := r1.two
        rw [rx.int_inv, ry.int_inv]
        rw [Bool.and_eq_true] at hj
        obtain ⟨b1, b2⟩ := inR_ok hj.1
        obtain ⟨b3, b4⟩ := inR_ok hj.2
        exact ⟨i, j, rfl, ⟨b1, b2, b3, b4⟩, h1 ρ1 H1 _ .refl R1 (itr_range (fun i H' hi => hi) fun i H' hi => ⟨hi, fun y H2 ⟨e1, e2⟩ => ⟨e1, by rw [e2, Int.mul_one]⟩⟩)⟩
      · exact h1.elim
    · exact h1.elim⟩
theorem i_range3 (hm : X.mg "range" = none) (ha : PA X [a, b, c] (tA (cf X T) W mr)) (hg : Gl X "range" := by rfl) (hs : starEach [a, b, c] X.env = (false, eval a X.env) :: starEach [b, c] X.env := by rfl) (hpl : (backTo pos (starEach [b, c] X.env)).any (·.1) = false := by rfl) :
    PI X tg (.Call (.Name "range" p) [a, b, c] [] pos) (tI (cf X T) W (mRange3 mr)) :=
  (pi_range3 hg hm ha hs hpl).imp fun σ H Q ⟨ρ, μ, s, R, S, h⟩ => ⟨ρ, μ, s, R, S, (post.bind (Rr := RrL (cf X T)) h).mono fun xs H1 ⟨ρ1, μ1, vs, st, R1, r1, h1⟩ => by
    split at h1
    · split at h1
      · rename_i i j c hj
        obtain ⟨x, ys, rfl, rx, rr⟩ := r1.uncons
        obtain ⟨y, z, rfl, ry, rz⟩ := rr.two
        rw [rx.int_inv, ry.int_inv, rz.int_inv]
        rw [Bool.and_eq_true, Bool.and_eq_true] at hj
        obtain ⟨b1, b2⟩ := inR_ok hj.1.1
        obtain ⟨b3, b4⟩ := inR_ok hj.1.2
        have ec : c = -1 := by simpa using hj.2
        subst ec
        exact ⟨i, j, -1, _, rfl, RgC.neg b1 b2 b3 b4, h1 ρ1 H1 _ .refl R1 (itr_range (fun i H' hi => hi) fun i H' hi => ⟨hi, fun y H2 ⟨e1, e2⟩ => ⟨e1, e2⟩⟩)⟩
      · exact h1.elim
    · exact h1.elim⟩
/-! enumerate of a list -/
theorem i_enum {elts : List Expr} {kk : Nat} {tpos : Pos} (hm : X.mg "enumerate" = none) (ha : PA X [a] (tA (cf X T) W mr)) (hg : Gl X "enumerate" := by rfl) (hs : starEach [a] X.env = [(false, eval a X.env)] := by rfl) :
    PI X (.Tuple elts kk tpos) (.Call (.Name "enumerate" p) [a] [] pos) (tI (cf X T) W (mEnum mr)) :=
  (pi_enum hg hm ha hs).imp fun σ H Q ⟨ρ, μ, s, R, S, h⟩ => ⟨ρ, μ, s, R, S, (post.bind (Rr := RrL (cf X T)) h).mono fun xs H1 ⟨ρ1, μ1, vs, st, R1, r1, h1⟩ => by
    have pair : ∀ {ρ' : List Addr} {μ' : Hm} {H' : Hp} {i : Nat} {v : Val} {x : V} {p : Addr}, Rep (cf X T) ρ' μ' H' → Rv X.K ρ' H' v x → H' p = none →
        Step ρ' H' ρ' (upd H' p (.tup [.int i, x])) ∧ Rep (cf X T) ρ' μ' (upd H' p (.tup [.int i, x])) ∧ Rv X.K ρ' (upd H' p (.tup [.int i, x])) (.tup [.int i, v]) (.ref p) := fun {ρ' μ' H' i v x p} R' rx hp => by
      have st' : Step ρ' H' ρ' (upd H' p (.tup [.int i, x])) := .laid0 hp
      have l : Rl X.K ρ' H' [.int i, v] [.int i, x] := .cons (.int _) (.cons rx .nil)
      have l2 := Rl.mono st' l
      exact ⟨st', R'.side hp, .tup (.inl (.inl upd_same)) l2.1 l2.2⟩
    split at h1
    · split at h1
      · rename_i l _ vs hl
        obtain ⟨x, rfl, rx⟩ := r1.one
        obtain ⟨q, rfl, hq⟩ := rx.loc_inv
        obtain ⟨ys, h2, rl⟩ := R1.lst hl hq
        refine ⟨q, ys, rfl, .inl (.inl h2), h1 ρ1 H1 _ .refl R1 fun ρ' μ' H' st' R' i => ?_⟩
        show match (match μ'[l]? with
          | some (.lst vs) => (match vs[i]? with
            | some v => Turn'.item (.tup [.int i, v])
            | none => .stop)
          | _ => .bad) with
          | .stop => _
          | .item v => _
          | .bad => True
        cases em : μ'[l]? with
        | none => trivial
        | some o =>
          cases o with
          | lst ws =>
            obtain ⟨zs, h3, rz⟩ := R'.lst em (st'.get hq)
            dsimp only
            cases ev : ws[i]? with
            | none => exact ⟨zs, .inl (.inl h3), by rw [← rz.1]; exact List.getElem?_eq_none_iff.mp ev⟩
            | some w =>
              obtain ⟨z, ez, rz'⟩ := rz.get ev
              refine ⟨⟨zs, z, .inl (.inl h3), ez⟩, fun y H2 ⟨p', x', e1, e2, e3, e4⟩ => ?_⟩
              subst e1 e3
              have e5 := e4 zs (.inl (.inl h3))
              rw [ez] at e5
              cases e5
              exact pair R' rz' e2
          | _ => trivial
      · exact h1.elim
    · obtain ⟨x, rfl, rx⟩ := r1.one
      obtain ⟨q, ys, rfl, h2, rl⟩ := rx.ro_inv
      refine ⟨q, ys, rfl, h2.sq, h1 ρ1 H1 _ .refl R1 fun ρ' μ' H' st' R' i => ?_⟩
      have h3 := (h2.keep st'.frzs).sq
      show match (match _ with
        | some v => Turn'.item (.tup [.int i, v])
        | none => .stop) with
        | .stop => _
        | .item v => _
        | .bad => True
      split
      · rename_i e
        split at e
        · cases e
        · rename_i hn
          exact ⟨ys, h3, by rw [← rl.1]; exact List.getElem?_eq_none_iff.mp hn⟩
      · rename_i e
        split at e
        · rename_i w hw
          cases e
          obtain ⟨z, ez, rz'⟩ := rl.get hw
          refine ⟨⟨ys, z, h3, ez⟩, fun y H2 ⟨p', x', e1, e2, e3, e4⟩ => ?_⟩
          subst e1 e3
          have e5 := e4 ys h3
          rw [ez] at e5
          cases e5
          exact pair R' (rz'.mono st') e2
        · cases e
      · trivial
    · exact h1.elim⟩
/-! a comprehension -/
abbrev W0 : WX := fun _ _ _ _ => False
theorem wipe_rs {C : Cf} {ρ : List Addr} {H : Hp} {s : LS} {σ : L2.St} (S : Rs C.K ρ H s σ) : ∀ vs : List Nat, Rs C.K ρ H (wipeS s vs) (wipe σ vs)
  | [] => S
  | v :: vs => by
    have ih := wipe_rs S vs
    unfold wipeS wipe
    refine ⟨by simp [ih.1], fun j w h => ?_⟩
    rw [List.getElem?_set] at h ⊢
    by_cases e : v = j
    · rw [if_pos e] at h; split at h <;> cases h
    · rw [if_neg e] at h ⊢; exact ih.2 j w h
/-- the target of a comprehension stores in its own places alone -/
def OwnG (g : MG) (tg : TG) (vs : List Nat) : Prop := ∀ (C : Cf) (x : V) (σ : L2.St) (H : Hp) (Q : L2.St → Hp → Prop) (ρ : List Addr) (μ : Hm) (s : LS) (v : Val), Rep C ρ μ H → Rs C.K ρ H s σ → Rv C.K ρ H v x → postS C W0 ρ H (g v s μ) (gEnds Q) → tg x σ H fun σ' H' => wipe σ' vs = wipe σ vs ∧ Q σ' H'
theorem wipe_idem (σ : L2.St) {i : Nat} {x : Option V} : ∀ {vs : List Nat}, i ∈ vs → wipe (σ.set i x) vs = wipe σ vs
  | [], h => by simp at h
  | v :: vs, h => by
    unfold wipe
    by_cases e : i ∈ vs
    · rw [wipe_idem σ e]
    · have ev : i = v := by
        rcases List.mem_cons.mp h with q | q
        · exact q
        · exact absurd q e
      subst ev
      have : ∀ {ws : List Nat}, i ∉ ws → wipe (σ.set i x) ws = (wipe σ ws).set i x := by
        intro ws
        induction ws with
        | nil => intro _; rfl
        | cons w ws ih =>
          intro hw
          unfold wipe
          rw [ih fun z => hw (List.mem_cons_of_mem _ z), List.set_comm _ _ (fun z => hw (by rw [z]; exact List.mem_cons_self))]
      rw [this e, List.set_set]
theorem wipe_get (σ : L2.St) : ∀ (vs : List Nat) (j : Nat), (wipe σ vs)[j]? = if j ∈ vs then (σ[j]?).map (fun _ => (none : Option V)) else σ[j]?
  | [], j => by simp [wipe]
  | v :: vs, j => by
    unfold wipe
    rw [List.getElem?_set]
    by_cases e : v = j
    · subst e
      rw [if_pos rfl, if_pos List.mem_cons_self, wipe_length]
      by_cases hl : v < σ.length
      · rw [if_pos hl, List.getElem?_eq_getElem hl]; rfl
      · rw [if_neg hl, List.getElem?_eq_none (by omega)]; rfl
    · rw [if_neg e, wipe_get σ vs j]
      by_cases m : j ∈ vs
      · rw [if_pos m, if_pos (List.mem_cons_of_mem _ m)]
      · rw [if_neg m, if_neg (fun z => (List.mem_cons.mp z).elim (fun q => e q.symm) m)]
theorem wipe_wipe (σ : L2.St) (vs : List Nat) : wipe (wipe σ vs) vs = wipe σ vs := by
  apply List.ext_getElem?
  intro j
  rw [wipe_get, wipe_get]
  by_cases m : j ∈ vs
  · rw [if_pos m, if_pos m]; cases σ[j]? <;> rfl
  · rw [if_neg m, if_neg m]
theorem own_var {i : Nat} {vs : List Nat} (h : i ∈ vs) : OwnG (gVar i) (gName i) vs := fun C x σ H Q ρ μ s v R S r q => ⟨wipe_idem σ h, q ρ H _ .refl R (S.set r)⟩
def gNms : List Nat → TGs
  | [] => gNil
  | i :: r => gCons (gName i) (gNms r)
theorem own_run {vs : List Nat} : ∀ {js : List Nat}, (∀ j ∈ js, j ∈ vs) → ∀ (C : Cf) (xs : List V) (σ : L2.St) (H : Hp) (Q : L2.St → Hp → Prop) (ρ : List Addr) (μ : Hm) (s : LS) (ws : List Val), Rep C ρ μ H → Rs C.K ρ H s σ → Rl C.K ρ H ws xs →
    postS C W0 ρ H (gRun (js.map gVar) ws s μ) (gEnds Q) → gNms js xs σ H fun σ' H' => wipe σ' vs = wipe σ vs ∧ Q σ' H'
  | [], _, C, xs, σ, H, Q, ρ, μ, s, ws, R, S, r, h => by
    cases ws with
    | nil => exact ⟨r.nil_of, rfl, h ρ H σ .refl R S⟩
    | cons w ws => exact h.elim
  | j :: js, hj, C, xs, σ, H, Q, ρ, μ, s, ws, R, S, r, h => by
    cases ws with
    | nil => exact h.elim
    | cons w ws =>
      obtain ⟨x, ys, rfl, rx, rr⟩ := r.uncons
      refine ⟨x, ys, rfl, ?_⟩
      have ih := own_run (js := js) (fun k hk => hj k (List.mem_cons_of_mem _ hk)) C ys (σ.set j (some x)) H Q ρ μ (s.set j (some w)) ws R (S.set rx) rr h
      rw [wipe_idem σ (hj j List.mem_cons_self)] at ih
      exact ih
theorem own_tup {js vs : List Nat} (K : PySem.W.Frag) (hj : ∀ j ∈ js, j ∈ vs) : ∀ (C : Cf), C.K = K → ∀ (x : V) (σ : L2.St) (H : Hp) (Q : L2.St → Hp → Prop) (ρ : List Addr) (μ : Hm) (s : LS) (v : Val), Rep C ρ μ H → Rs C.K ρ H s σ → Rv C.K ρ H v x → postS C W0 ρ H (gTupM (js.map gVar) v s μ) (gEnds Q) →
    gTup K js.length (gNms js) x σ H fun σ' H' => wipe σ' vs = wipe σ vs ∧ Q σ' H' := fun C hK x σ H Q ρ μ s v R S r h => by
  subst hK
  unfold gTupM at h
  split at h
  · split at h
    · rename_i hl
      obtain ⟨a, xs, rfl, sq, l⟩ := r.tup_inv
      exact ⟨a, xs, rfl, sq, by rw [← l.1, hl, List.length_map], own_run hj C xs σ H Q ρ μ s _ R S l h⟩
    · exact h.elim
  · exact h.elim
/-- the reading of a comprehension -/
theorem tLc_of {C : Cf} {W : WX} {it : MI} {vs : List Nat} {g : MG} {gt : TG} {t : MT} {e : ME}
    (ho : ∀ (x : V) (σ : L2.St) (H : Hp) (Q : L2.St → Hp → Prop) (ρ : List Addr) (μ : Hm) (s : LS) (v : Val), Rep C ρ μ H → Rs C.K ρ H s σ → Rv C.K ρ H v x → postS C W0 ρ H (g v s μ) (gEnds Q) → gt x σ H fun σ' H' => wipe σ' vs = wipe σ vs ∧ Q σ' H')
    (σ : L2.St) (H : Hp) (Q : VK) (h : tE C W (mLc it vs g t e) σ H Q) : tLc (tI C W it) gt (tT C W0 t) (tE C W0 e) vs σ H Q := by
  obtain ⟨ρ, μ, s, R, S, h⟩ := h
  refine ⟨ρ, μ, s, R, S, (post.bind (Rr := ItR C) h).mono fun J H1 ⟨ρ1, μ1, j, st1, R1, rel, h1⟩ => fun D hD => ?_⟩
  have Dρ : D ∉ ρ1 := R1.fresh hD
  have S1 : Rs C.K ρ1 H1 (wipeS s vs) (wipe σ vs) := wipe_rs (S.mono st1) vs
  refine ⟨fun i k H2 => ∃ ρ2 μ2 acc xs, Step ρ1 H1 ρ2 H2 ∧ Rep C ρ2 μ2 H2 ∧ H2 D = some (.lst xs) ∧ D ∉ ρ2 ∧ Rl C.K ρ2 H2 acc.reverse xs ∧
      post C (RrV C) (WE W σ) ρ1 H1 (bindR (lcN g t e j.turn (wipeS s vs) k i acc μ2) fun acc h2 => .ok (.loc h2.length) (h2 ++ [.lst acc.reverse])) Q, ⟨j.fuel, ρ1, μ1, [], [], .laid0 hD, R1.side hD, upd_same, Dρ, .nil, h1⟩, fun i k H2 ⟨ρ2, μ2, acc, xs, st2, R2, eD, nD, racc, h2⟩ => ?_⟩
  cases k with
  | zero => exact h2.elim
  | succ k =>
    unfold lcN at h2
    have st12 := st2
    have q : match j.turn i μ2 with
      | .stop => J.stop i H2
      | .item v => J.go i H2 ∧ ∀ x H3, J.yld i H2 x H3 → Step ρ2 H2 ρ2 H3 ∧ Rep C ρ2 μ2 H3 ∧ Rv C.K ρ2 H3 v x
      | .bad => True := rel ρ2 μ2 H2 st2 R2 i
    cases et : j.turn i μ2 with
    | bad => rw [et] at h2; exact h2.elim
    | stop =>
      rw [et] at h2 q
      refine .inl ⟨q, ?_⟩
      obtain ⟨ex, e1, n1⟩ := st2.ext
      refine h2 (ρ2 ++ [D]) H2 (.ref D) ⟨⟨ex ++ [D], by rw [e1, List.append_assoc], fun a ha => ?_⟩, st2.frame, st2.tups, st2.frzs, st2.there⟩ (R2.adopt nD ⟨xs, eD, racc.wk Wk.more⟩) (.loc ?_)
      · rcases List.mem_append.mp ha with z | z
        · exact n1 a z
        · have : a = D := by simpa using z
          subst this; exact hD
      · rw [← R2.len, List.getElem?_append_right (Nat.le_refl _)]; simp
    | item v =>
      rw [et] at h2 q
      dsimp only at h2
      obtain ⟨go, yl⟩ := q
      refine .inr ⟨go, fun H' => ∃ ρ2 μ2 acc xs, Step ρ1 H1 ρ2 H' ∧ Rep C ρ2 μ2 H' ∧ H' D = some (.lst xs) ∧ D ∉ ρ2 ∧ Rl C.K ρ2 H' acc.reverse xs ∧
        post C (RrV C) (WE W σ) ρ1 H1 (bindR (lcN g t e j.turn (wipeS s vs) k (i + 1) acc μ2) fun acc h2 => .ok (.loc h2.length) (h2 ++ [.lst acc.reverse])) Q, fun H' h' => ⟨k, Nat.lt_succ_self k, h'⟩, fun x H3 y => ?_⟩
      obtain ⟨st3, R3, r3⟩ := yl x H3 y
      have S3 : Rs C.K ρ2 H3 (wipeS s vs) (wipe σ vs) := (S1.mono st2).mono st3
      have h4 := ho x (wipe σ vs) H3 (fun σ2 H4 => tT C W0 t σ2 H4 fun b H5 => if b = true then tE C W0 e σ2 H5 fun y H6 => ∃ acc, H6 D = some (.lst acc) ∧ acc.length < sizeLine ∧ (∃ ρ2 μ2 acc' xs, Step ρ1 H1 ρ2 (upd H6 D (.lst (acc ++ [y]))) ∧ Rep C ρ2 μ2 (upd H6 D (.lst (acc ++ [y]))) ∧ (upd H6 D (.lst (acc ++ [y]))) D = some (.lst xs) ∧ D ∉ ρ2 ∧ Rl C.K ρ2 (upd H6 D (.lst (acc ++ [y]))) acc'.reverse xs ∧
        post C (RrV C) (WE W σ) ρ1 H1 (bindR (lcN g t e j.turn (wipeS s vs) k (i + 1) acc' μ2) fun acc h2 => .ok (.loc h2.length) (h2 ++ [.lst acc.reverse])) Q) else (∃ ρ2 μ2 acc xs, Step ρ1 H1 ρ2 H5 ∧ Rep C ρ2 μ2 H5 ∧ H5 D = some (.lst xs) ∧ D ∉ ρ2 ∧ Rl C.K ρ2 H5 acc.reverse xs ∧
        post C (RrV C) (WE W σ) ρ1 H1 (bindR (lcN g t e j.turn (wipeS s vs) k (i + 1) acc μ2) fun acc h2 => .ok (.loc h2.length) (h2 ++ [.lst acc.reverse])) Q)) ρ2 μ2 (wipeS s vs) v R3 S3 r3 ?_
      · rw [wipe_wipe] at h4
        exact h4
      -- the target has stored
      cases eg : g v (wipeS s vs) μ2 with
      | nx s4 μ4 =>
        rw [eg] at h2
        dsimp only at h2
        intro ρ4 H4 σ4 st4 R4 S4
        have stD : ∀ {ρ' : List Addr} {H' : Hp}, Step ρ2 H2 ρ' H' → H' D = some (.lst xs) ∧ D ∉ ρ' := fun {ρ' H'} st => by
          refine ⟨st.frame D _ eD nD, fun hm => ?_⟩
          obtain ⟨ex, e1, n1⟩ := st.ext
          rw [e1] at hm
          rcases List.mem_append.mp hm with z | z
          · exact nD z
          · rw [n1 D z] at eD; cases eD
        refine ⟨ρ4, μ4, s4, R4, S4, ?_⟩
        cases ett : t s4 μ4 with
        | bad => rw [ett] at h2; exact h2.elim
        | xn c μ5 => rw [ett] at h2; exact h2.elim
        | ok b μ5 =>
          rw [ett] at h2
          dsimp only at h2
          intro ρ5 H5 b' st5 R5 eb
          have eb : b = b' := eb
          subst eb
          have st25 := (st3.trans st4).trans st5
          cases b with
          | false =>
            refine iteF ?_
            obtain ⟨d1, d2⟩ := stD st25
            exact ⟨ρ5, μ5, acc, xs, st2.trans st25, R5, d1, d2, racc.mono st25, h2⟩
          | true =>
            refine iteT ?_
            simp only [if_true] at h2
            refine ⟨ρ5, μ5, s4, R5, S4.mono st5, ?_⟩
            cases ee : e s4 μ5 with
            | bad => rw [ee] at h2; exact h2.elim
            | xn c μ6 => rw [ee] at h2; exact h2.elim
            | ok w μ6 =>
              rw [ee] at h2
              dsimp only at h2
              split at h2
              · rename_i hlim
                intro ρ6 H6 y6 st6 R6 r6
                have st26 := st25.trans st6
                obtain ⟨d1, d2⟩ := stD st26
                have hl : xs.length < sizeLine := by rw [← racc.1, List.length_reverse]; exact lim_ok hlim
                have ht : ∀ zs, H6 D ≠ some (.tup zs) := fun zs z => by rw [d1] at z; cases z
                have hf : ∀ o z, H6 D ≠ some (.frz o z) := fun o z q => by rw [d1] at q; cases q
                have wk : Wk ρ6 H6 ρ6 (upd H6 D (.lst (xs ++ [y6]))) := Wk.aside ht hf
                have st16 := st2.trans st26
                refine ⟨xs, d1, hl, ρ6, μ6, w :: acc, xs ++ [y6], ⟨st16.ext, fun a o ea na => ?_, fun a zs ea => ?_, fun a o u ea => ?_, fun a o ea => ?_⟩, R6.aside d2 ht hf, upd_same, d2, ?_, h2⟩
                · rw [upd_ne (ne_of_none ea hD)]; exact st16.frame a o ea na
                · rw [upd_ne (ne_of_none ea hD)]; exact st16.tups a zs ea
                · rw [upd_ne (ne_of_none ea hD)]; exact st16.frzs a o u ea
                · rw [upd_ne (ne_of_none ea hD)]; exact st16.there a o ea
                · rw [List.reverse_cons]
                  exact ((racc.mono st26).app (.cons r6 .nil)).wk wk
              · exact h2.elim
      | _ => rw [eg] at h2; exact h2.elim
theorem ts_nil : PTs X [] (tT (cf X T) W tTrue) := ⟨fun pins s σ H Q I ⟨ρ, μ, ls, R, S, h⟩ => pts_nil.run pins s σ H Q I (h ρ H true .refl R rfl)⟩
theorem ts_one {c : Expr} (h : PT X c (tT (cf X T) W mt)) : PTs X [c] (tT (cf X T) W mt) := pts_one h
end
end Mn

/-! Mn10: comprehensions' rules, stores, defs and their calls, raise, try. -/
namespace Mn
open PySem PySem.Spec PyProof.Rows L2

section
variable {X : Cx} {T : Tab} {W : WX} {a b e tg iter elt : Expr} {es ifs : List Expr} {pos p : Pos} {m ma mb me : ME} {mr : MA} {mt : MT} {it : MI} {scope : Scope} {own : List (Str × Nat)}
abbrev BlkX (X : Cx) (scope : Scope) (s : Shared) (H : Hp) (C : Addr) (cl : List (Str × Addr)) (fp : List Addr) : Cx := X.blk s H scope (compEnvC scope cl C X.env) fp
/-- [elt for name in iter if ..]: the name's place j -/
theorem e_lc (j : Nat) (hc : X.calm = true) (hN : X.N.Nodup) (hi : PI X tg iter (tI (cf X T) W it)) (ok : BlkOk X.N X.env.scope scope own)
    (hg : ∀ s H C cl fp, PG (BlkX X scope s H C cl fp) tg (gName j)) (ht : ∀ s H C cl fp, PTs (BlkX X scope s H C cl fp) ifs (tT (cf X T) W0 mt)) (he : ∀ s H C cl fp, PE (BlkX X scope s H C cl fp) elt (tE (cf X T) W0 me))
    (hj : j ∈ own.map (·.2) := by decide) (hs : ∀ x, foldedSetIterable iter X.env x = pure x := by intro _; rfl) : PE X (.ListComp elt [⟨tg, iter, ifs, 0⟩] scope pos) (tE (cf X T) W (mLc it (own.map (·.2)) (gVar j) mt me)) :=
  (pe_lc hc hN hi ok hg ht he hs).imp (tLc_of fun x σ H Q ρ μ s v R S r h => own_var hj _ x σ H Q ρ μ s v R S r h)
theorem e_lcT (js : List Nat) (hc : X.calm = true) (hN : X.N.Nodup) (hi : PI X tg iter (tI (cf X T) W it)) (ok : BlkOk X.N X.env.scope scope own)
    (hg : ∀ s H C cl fp, PG (BlkX X scope s H C cl fp) tg (gTup X.K js.length (gNms js))) (ht : ∀ s H C cl fp, PTs (BlkX X scope s H C cl fp) ifs (tT (cf X T) W0 mt)) (he : ∀ s H C cl fp, PE (BlkX X scope s H C cl fp) elt (tE (cf X T) W0 me))
    (hj : ∀ j ∈ js, j ∈ own.map (·.2) := by decide) (hs : ∀ x, foldedSetIterable iter X.env x = pure x := by intro _; rfl) : PE X (.ListComp elt [⟨tg, iter, ifs, 0⟩] scope pos) (tE (cf X T) W (mLc it (own.map (·.2)) (gTupM (js.map gVar)) mt me)) :=
  (pe_lc hc hN hi ok hg ht he hs).imp (tLc_of (own_tup X.K hj (cf X T) rfl))
theorem tAsg_lc {te : TE} {i : Nat} (hte : ∀ σ H Q, tE (cf X T) W m σ H Q → te σ H Q) (D : Ends) (σ : L2.St) (H : Hp) (h : tS (cf X T) W (sAsg m (gVar i)) D σ H) : tAsg te (gName i) D σ H := by
  obtain ⟨ρ, μ, s, R, S, h⟩ := h
  exact hte σ H _ ⟨ρ, μ, s, R, S, (post.bindS (Rr := RrV (cf X T)) S h).mono fun x H1 ⟨ρ1, μ1, v, st, R1, r1, h1⟩ => h1 ρ1 H1 _ .refl R1 ((S.mono st).set r1)⟩
/-- name = [..] on one line -/
theorem s_setLc {i : Nat} {y : Str} {py spos : Pos} (j : Nat) (hc : X.calm = true) (hN : X.N.Nodup) (hi : PI X tg iter (tI (cf X T) W it)) (ok : BlkOk X.N X.env.scope scope own)
    (hg : ∀ s H C cl fp, PG (BlkX X scope s H C cl fp) tg (gName j)) (ht : ∀ s H C cl fp, PTs (BlkX X scope s H C cl fp) ifs (tT (cf X T) W0 mt)) (he : ∀ s H C cl fp, PE (BlkX X scope s H C cl fp) elt (tE (cf X T) W0 me))
    (hsw : swapsWith (.ListComp elt [⟨tg, iter, ifs, 0⟩] scope pos) (some (.Name y py)) spos.line X.env = pure true)
    (hy : X.N[i]? = some y := by rfl) (hyl : X.env.scope.names.lookup y = some .local := by rfl)
    (hj : j ∈ own.map (·.2) := by decide) (hs : ∀ x, foldedSetIterable iter X.env x = pure x := by intro _; rfl) : PS X (.Assign [.Name y py] (.ListComp elt [⟨tg, iter, ifs, 0⟩] scope pos) spos) (tS (cf X T) W (sAsg (mLc it (own.map (·.2)) (gVar j) mt me) (gVar i))) :=
  (ps_setLc hc hN hy hyl hsw hi ok hg ht he hs).imp (tAsg_lc (tLc_of fun x σ H Q ρ μ s v R S r h => own_var hj _ x σ H Q ρ μ s v R S r h))
theorem s_setLcT {i : Nat} {y : Str} {py spos : Pos} (js : List Nat) (hc : X.calm = true) (hN : X.N.Nodup) (hi : PI X tg iter (tI (cf X T) W it)) (ok : BlkOk X.N X.env.scope scope own)
    (hg : ∀ s H C cl fp, PG (BlkX X scope s H C cl fp) tg (gTup X.K js.length (gNms js))) (ht : ∀ s H C cl fp, PTs (BlkX X scope s H C cl fp) ifs (tT (cf X T) W0 mt)) (he : ∀ s H C cl fp, PE (BlkX X scope s H C cl fp) elt (tE (cf X T) W0 me))
    (hsw : swapsWith (.ListComp elt [⟨tg, iter, ifs, 0⟩] scope pos) (some (.Name y py)) spos.line X.env = pure true)
    (hy : X.N[i]? = some y := by rfl) (hyl : X.env.scope.names.lookup y = some .local := by rfl)
    (hj : ∀ j ∈ js, j ∈ own.map (·.2) := by decide) (hs : ∀ x, foldedSetIterable iter X.env x = pure x := by intro _; rfl) : PS X (.Assign [.Name y py] (.ListComp elt [⟨tg, iter, ifs, 0⟩] scope pos) spos) (tS (cf X T) W (sAsg (mLc it (own.map (·.2)) (gTupM (js.map gVar)) mt me) (gVar i))) :=
  (ps_setLc hc hN hy hyl hsw hi ok hg ht he hs).imp (tAsg_lc (tLc_of (own_tup X.K hj (cf X T) rfl)))
/-- name = e -/
theorem s_set {i : Nat} {y : Str} {py : Pos} (hN : X.N.Nodup) (he : PE X e (tE (cf X T) W m)) (hi : X.N[i]? = some y := by rfl) (hx : Loc X.env.scope y := by first | exact .inl rfl | exact .inr rfl)
    (hs : swapsWith e (some (.Name y py)) pos.line X.env = pure false := by rfl) (hf : X.fn y = true ∨ X.env.scope.names.lookup y = some .local := by first | exact .inl rfl | exact .inr rfl | assumption) :
    PS X (.Assign [.Name y py] e pos) (tS (cf X T) W (sAsg m (gVar i))) := (ps_set hN hi hx he hs hf).imp (tAsg_lc fun _ _ _ h => h)

/-! ### o[i] = v -/
def opSet (o i v : Val) (h : Hm) : Option Hm := match o with
  | .loc l => match h[l]? with
    | some (.lst a) => (match i with
      | .int k => (match ixN a.length k with
        | some j => some (h.set l (.lst (a.set j v)))
        | none => none)
      | _ => none)
    | some (.dK kvs) => (match kOf i with
      | some _ => if kvs.length < lim then some (h.set l (.dK (dkSet kvs i v))) else none
      | none => none)
    | some (.dN kvs) => (match i with
      | .tup _ => if i.isKeyN 8 && decide (kvs.length < lim) then some (h.set l (.dN (dnSet kvs i v))) else none
      | _ => none)
    | _ => none
  | _ => none
def rSets (C : Cf) : V → V → V → Hp → (Hp → Prop) → Prop := fun o i v H Q => (rSetL o i v H Q ∨ ∃ p H', o = .ref p ∧ DPut H p i v H' ∧ Q H') ∨ rSetN C o i v H Q
theorem set_all (hu : X.A.units + 9 < cLine) : PSet X (rSets (cf X T)) := by
  intro pins s σ H o i v ov iv u Q I ro ri rv h
  rcases h with (h | ⟨p, H', rfl, g, q⟩) | h
  · exact set_list pins s σ H o i v ov iv u Q I ro ri rv h
  · cases ro
    exact d_setItem (by omega) I g ri rv fun s' I' => ⟨H', I', q⟩
  · exact set_dN hu pins s σ H o i v ov iv u Q I ro ri rv h
theorem s_setitem : SetS (cf X T) opSet (rSets (cf X T)) := by
  intro ρ μ μ' H o i v ox ix vx Q R ro ri rv e q
  unfold opSet at e
  split at e
  · obtain ⟨p, rfl, hp⟩ := ro.loc_inv
    split at e
    · rename_i hl
      obtain ⟨xs, h1, l⟩ := R.lst hl hp
      split at e
      · split at e
        · rename_i k _ j ej
          cases e
          rw [ri.int_inv]
          obtain ⟨R', st⟩ := R.setL hp (l.set rv j)
          exact .inl (.inl ⟨p, xs, k, j, rfl, rfl, h1, by rw [← l.1]; exact ej, q ρ _ st R'⟩)
        · cases e
      · cases e
    · rename_i hl
      obtain ⟨ks, h1, l⟩ := R.dK hl hp
      split at e
      · rename_i c ec
        split at e
        · rename_i hz
          cases e
          obtain ⟨R', st⟩ := R.setK hp (l.set ec rv)
          refine .inl (.inr ⟨p, _, rfl, ?_, q ρ _ st R'⟩)
          rw [kOf_V ri ec]
          exact DPut.k h1 (by rw [← Paired.length l]; exact lim_ok hz)
        · cases e
      · cases e
    · rename_i kvs hl
      split at e
      · split at e
        · rename_i hk
          cases e
          rw [Bool.and_eq_true, decide_eq_true_eq] at hk
          have ri' := ri
          obtain ⟨b, ys, rfl, _⟩ := ri'.tup_inv
          exact .inr ⟨ρ, μ, _, p, b, kvs, _, v, rfl, rfl, R, hp, hl, hk.2, hk.1, ri, rv, fun H' st R' => q ρ H' st R'⟩
        · cases e
      · cases e
    · cases e
  · cases e
end

/-! ### defs -/
/-- a def's small program: from the arguments -/
def asFn (n N : Nat) (m : MS) : MF := fun args h => if args.length = n then (match m (args.map some ++ List.replicate (N - n) none) h with
  | .rt v h1 => .ok v h1
  | .nx _ h1 => .ok .non h1
  | .xn c _ h1 => .xn c h1
  | _ => .bad) else .bad
/-- the promise: what the small program gives -/
def spM (C : Cf) (n : Nat) (F : MF) : Sp := fun vs H Q E => ∃ ρ μ args, Rep C ρ μ H ∧ Rl C.K ρ H args vs ∧ args.length = n ∧ post C (RrV C) E ρ H (F args μ) Q
section
variable {P : Program} {w : World} {K : PySem.W.Frag} {mg : Str → Option Value} {base : Heap} {T : Tab}
abbrev FM (P : Program) (w : World) (K : PySem.W.Frag) (mg : Str → Option Value) (base : Heap) (T : Tab) (k : Nat) (f : Addr) (fd : FuncData) (ps : List Str) (F : MF) : Prop := FnOk P w K mg base (L2.CX P w) k f fd ps (spM ⟨P, w, K, T⟩ ps.length F)
theorem fn_ok {x qual : Str} {st : Stmt} {f : Addr} {fd : FuncData} {N ps : List Str} {k : Nat} {m : MS} (F : Fun K x qual st f fd) (S : FnScope N ps (defScope st))
    (hb : ∀ (cdv : Value) (A : Around) (outer : List Env) (s : Shared) (H : Hp) (E : XK), Room k (A.deeper (envOfC qual (defScope st) s.heap.objs.size f cdv)) →
      PSs (cxOf (L2.CX P w) P w K mg base N qual (defScope st) f cdv A outer s H E) (defBody st) (tS ⟨P, w, K, T⟩ (fun c d _ H => E c d H) m)) : FM P w K mg base T (k + 1) f fd ps (asFn ps.length N.length m) := by
  refine F.okX S (fun vs H Q E ⟨ρ, μ, args, R, r, hl, _⟩ => by rw [← r.1]; exact hl) fun cdv A outer s H vs Q E hr ⟨ρ, μ, args, R, r, hl, h⟩ => ⟨_, hb cdv A outer s H E hr, ?_⟩
  have S0 := Rs.start (C := ⟨P, w, K, T⟩) N r
  rw [hl] at S0
  refine ⟨ρ, μ, _, R, S0, ?_⟩
  unfold asFn at h
  rw [if_pos hl] at h
  cases e : m (args.map some ++ List.replicate (N.length - ps.length) none) μ with
  | rt v μ1 => rw [e] at h; exact h
  | nx s1 μ1 => rw [e] at h; exact fun ρ' H' σ' st R' _ => h ρ' H' .non st R' .non
  | xn c s1 μ1 => rw [e] at h; exact fun ρ' H' σ' st R' _ => h ρ' H' st R'
  | _ => rw [e] at h; exact h.elim
end
section
variable {X : Cx} {T : Tab} {W : WX} {a e : Expr} {es : List Expr} {pos p : Pos} {mr : MA} {k : Nat} {f : Addr} {fd : FuncData} {ps : List Str} {F : MF} {x : Str}
theorem e_call (G : FM X.prog X.w X.K X.mg X.base T k f fd ps F) (hr : Room k X.A) (hm : X.mg x = some (.ref f)) (hk : PySem.W.keepIn X.K (.ref f) = true) (hb : Binds X.K fd ps []) (tk : Takes X W) (ha : PA X (e :: es) (tA (cf X T) W mr)) (hn : (e :: es).length = ps.length := by rfl)
    (hg : Gl X x := by rfl) (hdb : (x == ("__debug__" : Str)) = false := by decide) (he : starEach (e :: es) X.env = (false, eval e X.env) :: starEach es X.env := by rfl) (hpl : (backTo pos (starEach es X.env)).any (·.1) = false := by rfl) :
    PE X (.Call (.Name x p) (e :: es) [] pos) (tE (cf X T) W (mCall (fun vs h => if vs.length = ps.length then F vs h else .bad) mr)) :=
  (pe_callS (E := WE W) G hr hg hm hk hb (fun σ => passAt tk σ) ha hdb he hpl).imp fun σ H Q ⟨ρ, μ, s, R, S, h⟩ => ⟨ρ, μ, s, R, S, (post.bind (Rr := RrL (cf X T)) h).mono fun xs H1 ⟨ρ1, μ1, vs, st, R1, r1, h1⟩ => by
    split at h1
    · rename_i hl
      exact ⟨ρ1, μ1, vs, R1, r1, hl, h1⟩
    · exact h1.elim⟩
/-- a call without arguments -/
theorem e_call0 (G : FM X.prog X.w X.K X.mg X.base T k f fd [] F) (hr : Room k X.A) (hm : X.mg x = some (.ref f)) (hk : PySem.W.keepIn X.K (.ref f) = true) (hb : Binds X.K fd [] []) (tk : Takes X W)
    (hg : Gl X x := by rfl) (hdb : (x == ("__debug__" : Str)) = false := by decide) : PE X (.Call (.Name x p) [] [] pos) (tE (cf X T) W (mCall (fun vs h => if vs.length = 0 then F vs h else .bad) aNil)) := by
  refine ⟨fun pins s σ H Q I ⟨ρ, μ, ls, R, S, h⟩ => ?_⟩
  refine wpAny_Call_Name_kw (ld_glob I hg hm ?_ hdb)
  exact PySem.W.callWith_K0 I.kIn hk (run_fnS (us := []) (vs := []) (E := WE W) G hr hb (passAt tk σ) I .nil ⟨ρ, μ, [], R, .nil, rfl, h⟩)

/-! ### raise, try -/
def sRaise (c : Nat) : MS := fun s h => .xn c s h
theorem s_raise {C : Addr} {s : Str} {j : Nat} {c : Nat} {p2 p3 : Pos} (tk : Takes X W) (hc : X.calm = true) (hT : T.exc c = some C) (q : PySem.W.excIn X.K C [.type "ValueError", .type "Exception", .type "BaseException", .type "object"] "ValueError.__new__" = true) (gC : X.mg x = some (.ref C)) (kC : PySem.W.keepIn X.K (.ref C) = true)
    (h1 : PySem.W.subIn X.K (.ref C) (.type "BaseException") = some true) (h2 : PySem.W.typeIn X.K (.ref C) = some (.type "type")) (hg : Gl X x := by rfl) (hdb : (x == ("__debug__" : Str)) = false := by decide) :
    PS X (.Raise (some (.Call (.Name x p) [.Constant (.str s) j p2] [] pos)) none p3) (tS (cf X T) W (sRaise c)) :=
  (ps_raise hc tk (pmk_own PySem.F.excBase_ValueError q gC kC (raises_own h1 h2) hg hdb)).imp fun D σ H ⟨ρ, μ, ls, R, S, h⟩ => by
    obtain ⟨E, e1, e2⟩ := h ρ H σ .refl R S
    have e1 : T.exc c = some E := e1
    rw [hT] at e1
    cases e1
    exact e2

/-! the classes of the text's exceptions -/
structure ExcT (K : PySem.W.Frag) (T : Tab) (n : Nat) (sub : Nat → Nat → Bool) : Prop where
  tot : ∀ c, c < n → ∃ C, T.exc c = some C
  one : ∀ c C, T.exc c = some C → PySem.W.excIn K C [.type "ValueError", .type "Exception", .type "BaseException", .type "object"] "ValueError.__new__" = true ∧ PySem.W.keepIn K (.ref C) = true ∧ PySem.W.typeIn K (.ref C) = some (.type "type") ∧ ExcC K C
  rel : ∀ c d C D, T.exc c = some C → T.exc d = some D → PySem.W.subIn K (.ref C) (.ref D) = some (sub c d)
  inj : ∀ c d C, T.exc c = some C → T.exc d = some C → c = d
  refl : ∀ c, sub c c = true
section
variable {K : PySem.W.Frag} {n : Nat} {sub : Nat → Nat → Bool} {c d : Nat} {C D : Addr}
theorem ExcT.exm (E : ExcT K T n sub) (hc : T.exc c = some C) (hd : T.exc d = some D) : PySem.W.exmOne K (.ref C) (.ref D) = some (sub c d) := by
  obtain ⟨_, _, ty, ec⟩ := E.one d D hd
  exact PySem.W.exm_ref ec.hs ec.hd ty (E.rel c d C D hc hd)
theorem ExcT.kit (E : ExcT K T n sub) (hc : T.exc c = some C) (hd : T.exc d = some D) : PySem.W.kitOne K (.ref C) (.ref D) = some (sub c d) := by
  obtain ⟨_, _, ty, ec⟩ := E.one d D hd
  unfold PySem.W.kitOne
  by_cases e : C = D
  · subst e
    have := E.inj c d C hc hd
    subst this
    rw [if_pos (by simp), E.refl]
  · rw [if_neg (by simpa using e)]
    obtain ⟨cd, hcd, _⟩ := PySem.W.any_some ec.hd
    show (if ((PySem.W.clsIn K D).isSome && PySem.W.typeIn K (.ref D) == some (.type "type")) = true then PySem.W.subIn K (.ref C) (.ref D) else none) = _
    rw [if_pos (by rw [hcd, ty]; rfl)]
    exact E.rel c d C D hc hd
end
def noX (r : RS) : RS := match r with
  | .xn _ _ _ => .bad
  | r => r
def clr (i : Nat) (r : RS) : RS := match r with
  | .nx s h => .nx (s.set i none) h
  | .bk s h => .bk (s.set i none) h
  | .ct s h => .ct (s.set i none) h
  | r => r
/-- try: b except X: su -/
def sTry (n : Nat) (sb : Nat → Bool) (b su : MS) : MS := fun s h => match b s h with
  | .xn c s1 h1 => if c < n then (if sb c then noX (su s1 h1) else .xn c s1 h1) else .bad
  | r => r
/-- try: b except X as name (its place i): su -/
def sTryAs (n : Nat) (sb : Nat → Bool) (i : Nat) (b : MS) (su : Nat → Nat → MS) : MS := fun s h => match b s h with
  | .xn c s1 h1 => if c < n then (if sb c then noX (clr i (su 0 c (s1.set i (some (.exc 0))) h1)) else .xn c s1 h1) else .bad
  | r => r
def ParE (i : Nat) (su : Nat → Nat → MS) : Prop := ∀ (a c : Nat) (s : LS) (h : Hm), noX (clr i (su a c (s.set i (some (.exc a))) h)) = noX (clr i (su 0 c (s.set i (some (.exc 0))) h))
theorem noX_W {C : Cf} {W W' : WX} {ρ : List Addr} {H : Hp} {r : RS} {D : Ends} (h : postS C W ρ H (noX r) D) : postS C W' ρ H r D := by
  cases r with
  | xn c s h' => exact h.elim
  | _ => exact h
theorem try_post {C : Cf} {W W' : WX} {ρ : List Addr} {H : Hp} {r : RS} {D : Ends} {n : Nat} {f : Nat → LS → Hm → RS} (h : postS C W ρ H (match r with
    | .xn c s1 h1 => if c < n then f c s1 h1 else .bad
    | r => r) D) (hx : ∀ c s1 h1, c < n → postS C W ρ H (f c s1 h1) D → postS C W' ρ H (.xn c s1 h1) D) : postS C W' ρ H r D := by
  cases r with
  | xn c s h' =>
    dsimp only at h
    split at h
    · rename_i hc
      exact hx c s h' hc h
    · exact h.elim
  | _ => exact h
section
variable {body suite : List Stmt} {b₀ : Stmt} {np pos' : Pos} {m su : MS} {n d : Nat} {D : Addr} {sub : Nat → Nat → Bool}
theorem s_try (E : ExcT X.K T n sub) (hd : T.exc d = some D) (gD : X.mg x = some (.ref D)) (hs : X.stack = X.env :: X.outer) (hf : X.env.frame = some X.env.locals) (tk : Takes X W)
    (hb : ∀ (W' : WX) (pn : List (Addr × Obj)) (xe : Value → Shared → Prop), Takes (X.tr pn xe) W' → PassesOwn (model X.prog X.w) X.A X.env xe → PSs (X.tr pn xe) body (tS (cf X T) W' m))
    (hsu : ∀ (a : Addr) (oe : Obj) (c : Nat) (C : Addr) (pn : List (Addr × Obj)), T.exc c = some C → Zc (.ref C) none oe → (∃ vs, oe.data = .fields vs) → PSs (X.suite a ((a, oe) :: pn)) (b₀ :: suite) (tS (cf X T) W0 su))
    (hg : Gl X x := by rfl) (hdb : (x == ("__debug__" : Str)) = false := by decide) : PS X (.Try body [.ExceptHandler (some (.Name x np)) none (b₀ :: suite) pos'] [] [] pos) (tS (cf X T) W (sTry n (fun c => sub c d) m su)) := by
  refine (ps_try_only (Wout := W) (c := .ref D) (tb := fun W' => tS (cf X T) W' m) (ts := fun _ cls dd D σ H => ∃ c C, T.exc c = some C ∧ cls = .ref C ∧ dd = none ∧ tS (cf X T) W0 su D σ H) hs hf ⟨hg, hdb, .inl gD⟩ tk hb fun a oe cls dd pn hz hfl => ?_).imp fun D' σ H ⟨ρ, μ, s, R, S, h⟩ => ⟨ρ, μ, s, R, S, ?_⟩
  · refine ⟨fun pins s σ H D' I ⟨c, C, hc, e1, e2, h⟩ => ?_⟩
    subst e1 e2
    exact (hsu a oe c C pn hc hz hfl).run pins s σ H D' I h
  · refine try_post h fun c s1 h1 hc h2 => fun ρ' H' σ' st' R' S' => ?_
    obtain ⟨C, eC⟩ := E.tot c hc
    refine ⟨C, eC, sub c d, E.exm eC hd, fun hb a ha => ?_, fun hb => ?_⟩
    · rw [if_pos hb] at h2
      exact ⟨c, C, eC, rfl, rfl, ρ', h1, s1, R', S', postS.shift st' (noX_W h2)⟩
    · rw [if_neg (fun z => by have z : sub c d = true := z; rw [hb] at z; cases z)] at h2
      obtain ⟨C2, e2, w⟩ := h2 ρ' H' σ' st' R' S'
      have e2 : T.exc c = some C2 := e2
      rw [eC] at e2
      cases e2
      exact w
theorem s_tryAs {i : Nat} {nm : Str} {sa : Nat → Nat → MS} (E : ExcT X.K T n sub) (hd : T.exc d = some D) (gD : X.mg x = some (.ref D)) (hs : X.stack = X.env :: X.outer) (hf : X.env.frame = some X.env.locals) (hN : X.N.Nodup) (hi : X.N[i]? = some nm) (hln : X.env.kindOf nm = some .local) (tk : Takes X W)
    (hb : ∀ (W' : WX) (pn : List (Addr × Obj)) (xe : Value → Shared → Prop), Takes (X.tr pn xe) W' → PassesOwn (model X.prog X.w) X.A X.env xe → PSs (X.tr pn xe) body (tS (cf X T) W' m))
    (hsu : ∀ (a : Addr) (oe : Obj) (c : Nat) (C : Addr) (pn : List (Addr × Obj)), T.exc c = some C → Zc (.ref C) none oe → (∃ vs, oe.data = .fields vs) → PSs (X.suite a ((a, oe) :: pn)) (b₀ :: suite) (tS (cf X T) W0 (sa a c)))
    (par : ParE i sa) (hg : Gl X x := by rfl) (hdb : (x == ("__debug__" : Str)) = false := by decide) : PS X (.Try body [.ExceptHandler (some (.Name x np)) (some nm) (b₀ :: suite) pos'] [] [] pos) (tS (cf X T) W (sTryAs n (fun c => sub c d) i m sa)) := by
  refine (ps_try_as (Wout := W) (c := .ref D) (i := i) (tb := fun W' => tS (cf X T) W' m) (ts := fun a cls dd D σ H => ∃ c C, T.exc c = some C ∧ cls = .ref C ∧ dd = none ∧ tS (cf X T) W0 (sa a c) D σ H) hs hf hN hi hln ⟨hg, hdb, .inl gD⟩ tk hb fun a oe cls dd pn hz hfl => ?_).imp fun D' σ H ⟨ρ, μ, s, R, S, h⟩ => ⟨ρ, μ, s, R, S, ?_⟩
  · refine ⟨fun pins s σ H D' I ⟨c, C, hc, e1, e2, h⟩ => ?_⟩
    subst e1 e2
    exact (hsu a oe c C pn hc hz hfl).run pins s σ H D' I h
  · refine try_post h fun c s1 h1 hc h2 => fun ρ' H' σ' st' R' S' => ?_
    obtain ⟨C, eC⟩ := E.tot c hc
    refine ⟨C, eC, sub c d, E.exm eC hd, fun hb a ha => ?_, fun hb => ?_⟩
    · rw [if_pos hb, ← par a c] at h2
      refine ⟨c, C, eC, rfl, rfl, ρ', h1, s1.set i (some (.exc a)), R', S'.set (.exc a), ?_⟩
      have h3 := noX_W (W' := W0) (postS.shift st' h2)
      have unset : ∀ {s2 : LS} {ρ2 : List Addr} {H2 : Hp} {σ2 : L2.St}, Rs X.K ρ2 H2 s2 σ2 → Rs X.K ρ2 H2 (s2.set i none) (σ2.set i none) := fun {s2 ρ2 H2 σ2} q => by
        refine ⟨by simp [q.1], fun j w hj => ?_⟩
        rw [List.getElem?_set] at hj ⊢
        by_cases e : i = j
        · rw [if_pos e] at hj; split at hj <;> cases hj
        · rw [if_neg e] at hj ⊢; exact q.2 j w hj
      revert h3
      cases sa a c (s1.set i (some (.exc a))) h1 with
      | nx s2 h2' => exact fun h3 ρ3 H3 σ3 st3 R3 S3 => h3 ρ3 H3 _ st3 R3 (unset S3)
      | bk s2 h2' => exact fun h3 ρ3 H3 σ3 st3 R3 S3 => h3 ρ3 H3 _ st3 R3 (unset S3)
      | ct s2 h2' => exact fun h3 ρ3 H3 σ3 st3 R3 S3 => h3 ρ3 H3 _ st3 R3 (unset S3)
      | rt v h2' => exact fun h3 => h3
      | xn c' s2 h2' => exact fun h3 ρ3 H3 σ3 st3 R3 S3 => (h3 ρ3 H3 _ st3 R3 S3).elim fun E' q => q.2.elim
      | bad => exact fun h3 => h3
    · rw [if_neg (fun z => by have z : sub c d = true := z; rw [hb] at z; cases z)] at h2
      obtain ⟨C2, e2, w⟩ := h2 ρ' H' σ' st' R' S'
      have e2 : T.exc c = some C2 := e2
      rw [eC] at e2
      cases e2
      exact w
/-- isinstance(name, X) of the exception that is held -/
def mIsE (a i : Nat) (b : Bool) : ME := fun s h => match s[i]? with
  | some (some (.exc z)) => if z = a then .ok (.bl b) h else .bad
  | _ => .bad
theorem mIsE_par (i : Nat) (b : Bool) (a : Nat) (s : LS) (h : Hm) : mIsE a i b (s.set i (some (.exc a))) h = mIsE 0 i b (s.set i (some (.exc 0))) h := by
  unfold mIsE
  rw [List.getElem?_set, List.getElem?_set]
  by_cases hl : i < s.length
  · simp [hl]
  · simp [hl]
theorem e_isE {nm y : Str} {i : Nat} {p1 p2 : Pos} {a : Addr} {oe : Obj} {pn : List (Addr × Obj)} {c : Nat} {C : Addr} (E : ExcT X.K T n sub) (hc : T.exc c = some C) (hz : Zc (.ref C) none oe) (hfl : ∃ vs, oe.data = .fields vs) (hd : T.exc d = some D) (gD : X.mg y = some (.ref D))
    (hi : X.mg "isinstance" = none) (hN : X.N[i]? = some nm := by rfl) (hv : Vis X.env.scope nm := by first | exact Or.inl rfl | exact Or.inr (Or.inl rfl)) (hg : Gl X "isinstance" := by rfl) (hgy : Gl X y := by rfl) (hdb : (y == ("__debug__" : Str)) = false := by decide) (hdn : (nm == ("__debug__" : Str)) = false := by decide) (hcd : (nm == ("__classdict__" : Str)) = false := by decide)
    (he : starEach [.Name nm p1, .Name y p2] X.env = (false, eval (.Name nm p1) X.env) :: starEach [.Name y p2] X.env := by rfl) (he2 : starEach [.Name y p2] X.env = (false, eval (.Name y p2) X.env) :: starEach [] X.env := by rfl) (hpl : (backTo pos (starEach [.Name y p2] X.env)).any (·.1) = false := by rfl) :
    PE (X.suite a ((a, oe) :: pn)) (.Call (.Name "isinstance" p) [.Name nm p1, .Name y p2] [] pos) (tE (cf X T) W0 (mIsE a i (sub c d))) := by
  have pg : PE (X.suite a ((a, oe) :: pn)) (.Name y p2) (tC (.ref D)) := ⟨fun pins s σ H Q I h => ld_glob I hgy gD ⟨.ref D, H, I, rfl, h⟩ hdb⟩
  refine (pe_callB (X := X.suite a ((a, oe) :: pn)) (call_isE (E.one c C hc).2.2.2 hz hfl) hg hi (by decide +kernel) (pa_cons (pe_var hN hv hdn hcd) (pa_cons pg pa_nil he2) he) (by decide) (by decide) he hpl).imp fun σ H Q ⟨ρ, μ, s, R, S, h⟩ => ?_
  unfold mIsE at h
  split at h
  · rename_i z hz'
    split at h
    · rename_i ez
      subst ez
      obtain ⟨v, e1, r1⟩ := S.2 i _ hz'
      rw [r1.exc_inv] at e1
      exact ⟨.ref z, e1, .ref D, .ref D, sub c d, rfl, fun u hu => hu, E.kit hc hd, h ρ H _ .refl R (.bl _)⟩
    · exact h.elim
  · exact h.elim
end
end
end Mn

/-! Mn11: dicts that are written out. -/
namespace Mn
open PySem PySem.Spec PyProof.Rows L2

section
variable {X : Cx} {T : Tab} {W : WX} {a b e kx vx : Expr} {pos p : Pos} {m mk mv : ME}
/-- {}: of tuple keys -/
def mNewN : ME := fun _ h => .ok (.loc h.length) (h ++ [.dN []])
/-- {}: of keys that are ints or texts -/
def mNewK : ME := fun _ h => .ok (.loc h.length) (h ++ [.dK []])
theorem new_loc {C : Cf} {ρ : List Addr} {μ : Hm} {H : Hp} {o : HObj} {p : Addr} {u : HO} (R : Rep C ρ μ H) (hp : H p = none) (ro : Ro C (ρ ++ [p]) (upd H p u) o p) :
    Step ρ H (ρ ++ [p]) (upd H p u) ∧ Rep C (ρ ++ [p]) (μ ++ [o]) (upd H p u) ∧ Rv C.K (ρ ++ [p]) (upd H p u) (.loc μ.length) (.ref p) := by
  have st : Step ρ H (ρ ++ [p]) (upd H p u) := .laid hp [p] (by simp)
  refine ⟨st, R.new hp ro, .loc ?_⟩
  rw [← R.len, List.getElem?_append_right (Nat.le_refl _)]; simp
theorem e_newK : PE X (.Dict [] [] pos) (tE (cf X T) W mNewK) := pe_dnewK.imp fun σ H Q ⟨ρ, μ, s, R, S, h⟩ => fun p hp => by
  obtain ⟨st, R', r⟩ := new_loc (o := .dK []) (u := .dK []) R hp ⟨[], upd_same, .nil⟩
  exact h _ _ _ st R' r
theorem raw_new {P : Program} {w : World} {H : Hp} (h : Heap) : ObjOk P w H (h.push { cls := .type "dict", data := .dict #[] }) h.objs.size (RawD P w h.objs.size []) := raw_ok (Heap.DictOfH.new h)
theorem e_newN : PE X (.Dict [] [] pos) (tE (cf X T) W mNewN) := ⟨fun pins s σ H Q I ⟨ρ, μ, ls, R, S, h⟩ => by
  have hp := I.hok.fresh (Nat.le_refl s.heap.objs.size)
  obtain ⟨st, R', r⟩ := new_loc (o := .dN []) (u := RawD X.prog X.w s.heap.objs.size []) R hp ⟨[], upd_same, beq_eq_false_iff_ne.mpr (Ne.symm (Nat.ne_of_lt I.big)), List.nodup_nil, .nil⟩
  exact wpAny_Dict_empty ⟨.ref s.heap.objs.size, _, I.laid (a := s.heap.objs.size) (t' := s.toks) (fun _ _ q => Heap.get?_push_of_some _ q) (Nat.le_refl _) (raw_new s.heap), rfl, h _ _ _ st R' r⟩⟩
def isTup : Val → Bool
  | .tup _ => true
  | _ => false
/-- {k: v}, k a tuple -/
def mDict1 (mk mv : ME) : ME := fun s h => bindR (mk s h) fun k h1 => bindR (mv s h1) fun v h2 => if k.isKeyN 8 && isTup k then .ok (.loc h2.length) (h2 ++ [.dN [(k, v)]]) else .bad
theorem e_dN1 (hu : X.A.units + 9 < cLine) (hk : PE X kx (tE (cf X T) W mk)) (hv : PE X vx (tE (cf X T) W mv)) : PE X (.Dict [some kx] [vx] pos) (tE (cf X T) W (mDict1 mk mv)) := by
  refine ⟨fun pins s σ H Q I ⟨ρ, μ, ls, R, S, h⟩ => ?_⟩
  have hn := I.hok.fresh (Nat.le_refl s.heap.objs.size)
  have I1 := I.laid (a := s.heap.objs.size) (o := RawD X.prog X.w s.heap.objs.size []) (h' := s.heap.push { cls := .type "dict", data := .dict #[] }) (t' := s.toks) (fun _ _ q => Heap.get?_push_of_some _ q) (Nat.le_refl _) (raw_new s.heap)
  have R1 : Rep (cf X T) ρ μ (upd H s.heap.objs.size (RawD X.prog X.w s.heap.objs.size [])) := R.side hn
  have st0 : Step ρ H ρ (upd H s.heap.objs.size (RawD X.prog X.w s.heap.objs.size [])) := Step.laid0 hn
  have S1 := S.mono (C := cf X T) st0
  have dρ : s.heap.objs.size ∉ ρ := R.fresh hn
  let D := s.heap.objs.size
  let U : List (NestedKey × Addr × Value) → HO := fun es => RawD X.prog X.w D es
  have key : wpAny (model X.prog X.w) X.A (evalPairs (pairTrees [some kx] [vx] X.env pos)) (fun vs s' => ∃ ps H', Inv X pins σ H' s' ∧ VV ps vs ∧ ∃ x y, ps = [(x, y)] ∧ ∃ ρ2 μ2 k v, Step ρ (upd H D (U [])) ρ2 H' ∧ Rep (cf X T) ρ2 μ2 H' ∧ Rv X.K ρ2 H' k x ∧ Rv X.K ρ2 H' v y ∧
      post (cf X T) (RrV (cf X T)) (WE W σ) ρ H (if (k.isKeyN 8 && isTup k) = true then .ok (.loc μ2.length) (μ2 ++ [.dN [(k, v)]]) else .bad) Q) X.xe { s with heap := s.heap.push { cls := .type "dict", data := .dict #[] } } := by
    refine (pps_cons (pos := pos) hk hv pps_nil).run pins _ σ _ (fun ps H' => ∃ x y, ps = [(x, y)] ∧ ∃ ρ2 μ2 k v, Step ρ (upd H D (U [])) ρ2 H' ∧ Rep (cf X T) ρ2 μ2 H' ∧ Rv X.K ρ2 H' k x ∧ Rv X.K ρ2 H' v y ∧
      post (cf X T) (RrV (cf X T)) (WE W σ) ρ H (if (k.isKeyN 8 && isTup k) = true then .ok (.loc μ2.length) (μ2 ++ [.dN [(k, v)]]) else .bad) Q) I1 ?_
    refine ⟨ρ, μ, ls, R1, S1, ?_⟩
    unfold mDict1 at h
    cases e1 : mk ls μ with
    | bad => rw [e1] at h; exact h
    | xn c μ1 => rw [e1] at h; exact fun ρ' H' st R' => h ρ' H' (st0.trans st) R'
    | ok k μ1 =>
      rw [e1] at h
      intro ρ1 H1 x st1 R1 r1
      refine ⟨ρ1, μ1, ls, R1, S1.mono st1, ?_⟩
      unfold bindR at h
      dsimp only at h
      cases e2 : mv ls μ1 with
      | bad => rw [e2] at h; exact h
      | xn c μ2 => rw [e2] at h; exact fun ρ' H' st R' => h ρ' H' (st0.trans (st1.trans st)) R'
      | ok v μ2 =>
        rw [e2] at h
        intro ρ2 H2 y st2 R2 r2
        exact ⟨x, y, rfl, ρ2, μ2, k, v, st1.trans st2, R2, r1.mono st2, r2, h⟩
  refine wpAny_Dict_any rfl rfl (fun z => by cases z) (by show 1 ≤ 15; decide) (thn key fun ws s2 ⟨ps, H2, I2, rel, x, y, ep, ρ2, μ2, k, v, st, R2, rk, rv, h2⟩ => ?_)
  subst ep
  split at h2
  · rename_i hc
    rw [Bool.and_eq_true] at hc
    obtain ⟨hk8, ht⟩ := hc
    cases k with
    | tup vs =>
      have rk' := rk
      obtain ⟨b, xs, rfl, _⟩ := rk'.tup_inv
      cases rel with
      | @cons _ w _ _ h1 h3 =>
        cases h3
        obtain ⟨q1, q2⟩ := w
        obtain ⟨r1, r2⟩ := h1
        have r1 : q1 = .ref b := r1
        subst r1
        have eD : H2 D = some (U []) := st.frame D _ upd_same dρ
        have nD : D ∉ ρ2 := fun hm => by
          obtain ⟨ex, e1, n1⟩ := st.ext
          rw [e1] at hm
          rcases List.mem_append.mp hm with z | z
          · exact dρ z
          · have := n1 D z; rw [upd_same] at this; cases this
        obtain ⟨⟨o, ar, ep, f1, f2, f3, f4⟩, _, _⟩ := I2.hok D _ eD
        have d0 : s2.heap.DictOfH (nestedKind X.prog X.w) D [] := ⟨o, ar, ep, f1, f2, f3, f4, (fun z hz => by cases hz), List.nodup_nil⟩
        refine wpAny_storeAllH (knd := nestedKind X.prog X.w) (by show X.A.units + 8 < cLine; omega) [(.ref b, q2)] [(nkeyN 8 (.tup vs), b, q2)] [] s2 _ ⟨rfl, rfl, key_ok I2 hk8 rk, True.intro⟩ d0 (by show 0 + 1 ≤ sizeLine; decide) fun h' tk hm hs => ?_
        have he : ∃ q, h'.get? D = some q := let ⟨q, _, _, hq, _⟩ := hm; ⟨q, hq⟩
        have st' : ∀ es, Step ρ H (ρ2 ++ [D]) (upd H2 D (U es)) := fun es => by
          obtain ⟨ex, e1, n1⟩ := (st0.trans st).ext
          refine ⟨⟨ex ++ [D], by rw [e1, List.append_assoc], fun a ha => ?_⟩, fun a o ea na => ?_, fun a zs ea => ?_, fun a o u ea => ?_, fun a o ea => ?_⟩
          · rcases List.mem_append.mp ha with z | z
            · exact n1 a z
            · have : a = D := by simpa using z
              subst this; exact hn
          · rw [upd_ne (ne_of_none ea hn)]; exact (st0.trans st).frame a o ea na
          · rw [upd_ne (ne_of_none ea hn)]; exact (st0.trans st).tups a zs ea
          · rw [upd_ne (ne_of_none ea hn)]; exact (st0.trans st).frzs a o u ea
          · rw [upd_ne (ne_of_none ea hn)]; exact (st0.trans st).there a o ea
        have ht : ∀ zs, H2 D ≠ some (.tup zs) := fun zs z => by rw [eD] at z; cases z
        have hf : ∀ o z, H2 D ≠ some (.frz o z) := fun o z q => by rw [eD] at q; cases q
        have wk : ∀ u, Wk ρ2 H2 (ρ2 ++ [D]) (upd H2 D u) := fun u => by
          have w1 : Wk ρ2 H2 ρ2 (upd H2 D u) := Wk.aside ht hf
          have w2 : Wk ρ2 (upd H2 D u) (ρ2 ++ [D]) (upd H2 D u) := Wk.more
          exact ⟨fun l a e => w2.get l a (w1.get l a e), fun a xs e => w2.tups a xs (w1.tups a xs e), fun a o u e => w2.frzs a o u (w1.frzs a o u e)⟩
        have R3 := (R2.aside (u := U (storedAllH [] [(nkeyN 8 (.tup vs), b, q2)])) nD ht hf).adopt (o := .dN [(.tup vs, v)]) nD ⟨_, upd_same, beq_eq_false_iff_ne.mpr (Ne.symm (Nat.ne_of_lt I.big)), by
          obtain ⟨_, _, _, _, _, _, _, _, z⟩ := hm
          exact z, .cons ⟨hk8, rfl, rk.wk (wk _), y, r2, rv.wk (wk _)⟩ .nil⟩
        refine ⟨.ref D, _, d_write I2 (by rw [eD]; exact True.intro) hs he (raw_ok hm), rfl, h2 _ _ _ (st' _) R3 (.loc ?_)⟩
        rw [← R2.len, List.getElem?_append_right (Nat.le_refl _)]; simp
    | _ => cases ht
  · exact h2.elim
end
end Mn

/-! Mn12: what a text's defs and classes are, in bundles; short words for the printed terms. -/
namespace Mn
open PySem PySem.Spec PyProof.Rows L2

def opAddI : Val → Val → Hm → R Val := fun v w h => match v, w with
  | .int i, .int j => .ok (.int (i + j)) h
  | _, _ => .bad
theorem s_addI {X : Cx} {T : Tab} : OpS (cf X T) opAddI (rI0 fun i j => .int (i + j)) := opI_of (fun _ _ _ _ => .int _) fun v w μ => by
  unfold opAddI
  split
  · exact .inl ⟨_, _, rfl, rfl, rfl⟩
  · exact .inr rfl
theorem fn_okN {P : Program} {w : World} {K : PySem.W.Frag} {mg : Str → Option Value} {base : Heap} {T : Tab} {x qual : Str} {st : Stmt} {f : Addr} {fd : FuncData} {N ps : List Str} {k n M : Nat} {m : MS} (hn : ps.length = n) (hM : N.length = M) (F : Fun K x qual st f fd) (S : FnScope N ps (defScope st))
    (hb : ∀ (cdv : Value) (A : Around) (outer : List Env) (s : Shared) (H : Hp) (E : XK), Room k (A.deeper (envOfC qual (defScope st) s.heap.objs.size f cdv)) →
      PSs (cxOf (L2.CX P w) P w K mg base N qual (defScope st) f cdv A outer s H E) (defBody st) (tS ⟨P, w, K, T⟩ (fun c d _ H => E c d H) m)) : FM P w K mg base T (k + 1) f fd ps (asFn n M m) := by
  subst hn hM
  exact fn_ok F S hb
def fnC (n : Nat) (F : MF) : MF := fun vs h => if vs.length = n then F vs h else .bad
/-! a suite asks of the exception that it holds only what its class is -/
section
variable {i : Nat}
def ParX {α : Type} (i : Nat) (f : Nat → Nat → LS → Hm → R α) : Prop := ∀ (a c : Nat) (s : LS) (m : Hm), f a c (s.set i (some (.exc a))) m = f 0 c (s.set i (some (.exc 0))) m
theorem px_var {j : Nat} (h : (i == j) = false) : ParX i (fun _ _ => mVar j) := fun a c s m => by
  have h : i ≠ j := by simpa using h
  unfold mVar
  dsimp only
  rw [List.getElem?_set_ne h, List.getElem?_set_ne h]
theorem px_c {v : Val} : ParX i (fun _ _ => mC v) := fun a c s m => rfl
theorem px_is {b : Nat → Bool} : ParX i (fun a c => mIsE a i (b c)) := fun a c s m => mIsE_par i (b c) a s m
theorem px_and {f g : Nat → Nat → ME} (hf : ParX i f) (hg : ParX i g) : ParX i (fun a c => mAnd (f a c) (g a c)) := fun a c s m => by
  show bindR (f a c _ m) _ = bindR (f 0 c _ m) _
  rw [hf a c s m]
  cases f 0 c (s.set i (some (.exc 0))) m with
  | ok v h =>
    cases v with
    | bl b => cases b with
      | true => exact hg a c s h
      | false => rfl
    | _ => rfl
  | _ => rfl
theorem px_or {f g : Nat → Nat → ME} (hf : ParX i f) (hg : ParX i g) : ParX i (fun a c => mOr (f a c) (g a c)) := fun a c s m => by
  show bindR (f a c _ m) _ = bindR (f 0 c _ m) _
  rw [hf a c s m]
  cases f 0 c (s.set i (some (.exc 0))) m with
  | ok v h =>
    cases v with
    | bl b => cases b with
      | false => exact hg a c s h
      | true => rfl
    | _ => rfl
  | _ => rfl
theorem px_not {f : Nat → Nat → ME} (hf : ParX i f) : ParX i (fun a c => mNot (f a c)) := fun a c s m => by
  show bindR (f a c _ m) _ = bindR (f 0 c _ m) _
  rw [hf a c s m]
theorem px_bin {o : Val → Val → Hm → R Val} {f g : Nat → Nat → ME} (hf : ParX i f) (hg : ParX i g) : ParX i (fun a c => mBin o (f a c) (g a c)) := fun a c s m => by
  show bindR (f a c _ m) _ = bindR (f 0 c _ m) _
  rw [hf a c s m]
  cases f 0 c (s.set i (some (.exc 0))) m with
  | ok v h =>
    show bindR (g a c _ h) _ = bindR (g 0 c _ h) _
    rw [hg a c s h]
  | _ => rfl
theorem px_tB {f : Nat → Nat → ME} (hf : ParX i f) : ParX i (fun a c => tB (f a c)) := fun a c s m => by
  show bindR (f a c _ m) _ = bindR (f 0 c _ m) _
  rw [hf a c s m]
theorem px_tNot {f : Nat → Nat → MT} (hf : ParX i f) : ParX i (fun a c => tNot (f a c)) := fun a c s m => by
  show bindR (f a c _ m) _ = bindR (f 0 c _ m) _
  rw [hf a c s m]
theorem px_tAnd {f g : Nat → Nat → MT} (hf : ParX i f) (hg : ParX i g) : ParX i (fun a c => tAnd (f a c) (g a c)) := fun a c s m => by
  show bindR (f a c _ m) _ = bindR (f 0 c _ m) _
  rw [hf a c s m]
  cases f 0 c (s.set i (some (.exc 0))) m with
  | ok b h => cases b with
    | true => exact hg a c s h
    | false => rfl
  | _ => rfl
theorem px_tOr {f g : Nat → Nat → MT} (hf : ParX i f) (hg : ParX i g) : ParX i (fun a c => tOr (f a c) (g a c)) := fun a c s m => by
  show bindR (f a c _ m) _ = bindR (f 0 c _ m) _
  rw [hf a c s m]
  cases f 0 c (s.set i (some (.exc 0))) m with
  | ok b h => cases b with
    | false => exact hg a c s h
    | true => rfl
  | _ => rfl
theorem par_ret {f : Nat → Nat → ME} (h : ParX i f) : ParE i (fun a c => sRet (f a c)) := fun a c s m => by
  show noX (clr i (bindS _ (f a c _ m) _)) = noX (clr i (bindS _ (f 0 c _ m) _))
  rw [h a c s m]
  cases f 0 c (s.set i (some (.exc 0))) m <;> rfl
theorem par_if {t : Nat → Nat → MT} {A B : Nat → Nat → MS} (ht : ParX i t) (hA : ParE i A) (hB : ParE i B) : ParE i (fun a c => sIf (t a c) (A a c) (B a c)) := fun a c s m => by
  show noX (clr i (bindS _ (t a c _ m) _)) = noX (clr i (bindS _ (t 0 c _ m) _))
  rw [ht a c s m]
  cases t 0 c (s.set i (some (.exc 0))) m with
  | ok b h => cases b with
    | true => exact hA a c s h
    | false => exact hB a c s h
  | _ => rfl
/-- if t: return e; B -/
theorem par_ifret {t : Nat → Nat → MT} {f : Nat → Nat → ME} {B : Nat → Nat → MS} (ht : ParX i t) (hf : ParX i f) (hB : ParE i B) : ParE i (fun a c => sSeq (sIf (t a c) (sRet (f a c)) sNx) (B a c)) := fun a c s m => by
  unfold sSeq sIf
  dsimp only
  rw [ht a c s m]
  cases t 0 c (s.set i (some (.exc 0))) m with
  | ok b h => cases b with
    | true =>
      show noX (clr i (match bindS _ (f a c _ h) _ with | .nx s h => _ | r => r)) = noX (clr i (match bindS _ (f 0 c _ h) _ with | .nx s h => _ | r => r))
      rw [hf a c s h]
      cases f 0 c (s.set i (some (.exc 0))) h <;> rfl
    | false => exact hB a c s h
  | _ => rfl
end
/-- the def that stands under the name x -/
structure Cal (P : Program) (w : World) (K : PySem.W.Frag) (mg : Str → Option Value) (base : Heap) (T : Tab) (x : Str) (k : Nat) (ps : List Str) (F : MF) : Prop where
  ex : ∃ (f : Addr) (fd : FuncData), FM P w K mg base T k f fd ps F ∧ mg x = some (.ref f) ∧ PySem.W.keepIn K (.ref f) = true ∧ Binds K fd ps []
/-- the own exceptions, by their names -/
structure Exs (K : PySem.W.Frag) (mg : Str → Option Value) (T : Tab) (n : Nat) (sub : Nat → Nat → Bool) (nms : List Str) : Prop where
  E : ExcT K T n sub
  nm : ∀ (i : Nat) (x : Str), nms[i]? = some x → ∃ C, T.exc i = some C ∧ mg x = some (.ref C)
theorem hu_ {k : Nat} {A : Around} (r : Room k A) : A.units + 65 < cLine := by have := r.un; omega
theorem hu9 {k : Nat} {A : Around} (r : Room k A) : A.units + 9 < cLine := by have := r.un; omega
theorem hu64 {k : Nat} {A : Around} (r : Room k A) : A.units + 64 < cLine := by have := r.un; omega
section
variable {X : Cx} {T : Tab} {W : WX} {a e : Expr} {es : List Expr} {pos p : Pos} {mr : MA} {k : Nat} {ps : List Str} {F : MF} {x : Str} {n : Nat} {sub : Nat → Nat → Bool} {nms : List Str}
theorem e_calC {j : Nat} (c : Cal X.prog X.w X.K X.mg X.base T x k ps F) (hr : Room k X.A) (tk : Takes X W) (ha : PA X (e :: es) (tA (cf X T) W mr)) (hj : ps.length = j := by rfl) (hn : (e :: es).length = ps.length := by rfl)
    (hg : Gl X x := by rfl) (hdb : (x == ("__debug__" : Str)) = false := by decide) (he : starEach (e :: es) X.env = (false, eval e X.env) :: starEach es X.env := by rfl) (hpl : (backTo pos (starEach es X.env)).any (·.1) = false := by rfl) :
    PE X (.Call (.Name x p) (e :: es) [] pos) (tE (cf X T) W (mCall (fnC j F) mr)) := by
  subst hj
  obtain ⟨f, fd, G, hm, hk, hb⟩ := c.ex
  exact e_call G hr hm hk hb tk ha hn hg hdb he hpl
theorem e_calC0 (c : Cal X.prog X.w X.K X.mg X.base T x k [] F) (hr : Room k X.A) (tk : Takes X W) (hg : Gl X x := by rfl) (hdb : (x == ("__debug__" : Str)) = false := by decide) :
    PE X (.Call (.Name x p) [] [] pos) (tE (cf X T) W (mCall (fnC 0 F) aNil)) := by
  obtain ⟨f, fd, G, hm, hk, hb⟩ := c.ex
  exact e_call0 G hr hm hk hb tk hg hdb
theorem s_raiseX (c : Nat) {s : Str} {j : Nat} {p2 p3 : Pos} (Z : Exs X.K X.mg T n sub nms) (tk : Takes X W) (hc : X.calm = true) (hx : nms[c]? = some x := by rfl) (hg : Gl X x := by rfl) (hdb : (x == ("__debug__" : Str)) = false := by decide) :
    PS X (.Raise (some (.Call (.Name x p) [.Constant (.str s) j p2] [] pos)) none p3) (tS (cf X T) W (sRaise c)) := by
  obtain ⟨C, h1, h2⟩ := Z.nm c x hx
  obtain ⟨o1, o2, o3, o4⟩ := Z.E.one c C h1
  exact s_raise tk hc h1 o1 h2 o2 o4.hs o3 hg hdb
section
variable {body suite : List Stmt} {b₀ : Stmt} {np pos' : Pos} {m su : MS}
theorem s_tryX (d : Nat) (Z : Exs X.K X.mg T n sub nms) (hs : X.stack = X.env :: X.outer) (hf : X.env.frame = some X.env.locals) (tk : Takes X W)
    (hb : ∀ (W' : WX) (pn : List (Addr × Obj)) (xe : Value → Shared → Prop), Takes (X.tr pn xe) W' → PassesOwn (model X.prog X.w) X.A X.env xe → PSs (X.tr pn xe) body (tS (cf X T) W' m))
    (hsu : ∀ (a : Addr) (oe : Obj) (c : Nat) (C : Addr) (pn : List (Addr × Obj)), T.exc c = some C → Zc (.ref C) none oe → (∃ vs, oe.data = .fields vs) → PSs (X.suite a ((a, oe) :: pn)) (b₀ :: suite) (tS (cf X T) W0 su))
    (hx : nms[d]? = some x := by rfl) (hg : Gl X x := by rfl) (hdb : (x == ("__debug__" : Str)) = false := by decide) : PS X (.Try body [.ExceptHandler (some (.Name x np)) none (b₀ :: suite) pos'] [] [] pos) (tS (cf X T) W (sTry n (fun c => sub c d) m su)) := by
  obtain ⟨D, h1, h2⟩ := Z.nm d x hx
  exact s_try Z.E h1 h2 hs hf tk hb hsu hg hdb
theorem s_tryAsX (d : Nat) {i : Nat} {nm : Str} {sa : Nat → Nat → MS} (Z : Exs X.K X.mg T n sub nms) (hs : X.stack = X.env :: X.outer) (hf : X.env.frame = some X.env.locals) (hN : X.N.Nodup) (hi : X.N[i]? = some nm) (hln : X.env.kindOf nm = some .local) (tk : Takes X W)
    (hb : ∀ (W' : WX) (pn : List (Addr × Obj)) (xe : Value → Shared → Prop), Takes (X.tr pn xe) W' → PassesOwn (model X.prog X.w) X.A X.env xe → PSs (X.tr pn xe) body (tS (cf X T) W' m))
    (hsu : ∀ (a : Addr) (oe : Obj) (c : Nat) (C : Addr) (pn : List (Addr × Obj)), T.exc c = some C → Zc (.ref C) none oe → (∃ vs, oe.data = .fields vs) → PSs (X.suite a ((a, oe) :: pn)) (b₀ :: suite) (tS (cf X T) W0 (sa a c)))
    (par : ParE i sa) (hx : nms[d]? = some x := by rfl) (hg : Gl X x := by rfl) (hdb : (x == ("__debug__" : Str)) = false := by decide) : PS X (.Try body [.ExceptHandler (some (.Name x np)) (some nm) (b₀ :: suite) pos'] [] [] pos) (tS (cf X T) W (sTryAs n (fun c => sub c d) i m sa)) := by
  obtain ⟨D, h1, h2⟩ := Z.nm d x hx
  exact s_tryAs Z.E h1 h2 hs hf hN hi hln tk hb hsu par hg hdb
theorem e_isEX (d : Nat) {nm y : Str} {i : Nat} {p1 p2 : Pos} {a : Addr} {oe : Obj} {pn : List (Addr × Obj)} {c : Nat} {C : Addr} (Z : Exs X.K X.mg T n sub nms) (hc : T.exc c = some C) (hz : Zc (.ref C) none oe) (hfl : ∃ vs, oe.data = .fields vs)
    (hi : X.mg "isinstance" = none) (hx : nms[d]? = some y := by rfl) (hN : X.N[i]? = some nm := by rfl) (hv : Vis X.env.scope nm := by first | exact Or.inl rfl | exact Or.inr (Or.inl rfl)) (hg : Gl X "isinstance" := by rfl) (hgy : Gl X y := by rfl) (hdb : (y == ("__debug__" : Str)) = false := by decide) (hdn : (nm == ("__debug__" : Str)) = false := by decide) (hcd : (nm == ("__classdict__" : Str)) = false := by decide)
    (he : starEach [.Name nm p1, .Name y p2] X.env = (false, eval (.Name nm p1) X.env) :: starEach [.Name y p2] X.env := by rfl) (he2 : starEach [.Name y p2] X.env = (false, eval (.Name y p2) X.env) :: starEach [] X.env := by rfl) (hpl : (backTo pos (starEach [.Name y p2] X.env)).any (·.1) = false := by rfl) :
    PE (X.suite a ((a, oe) :: pn)) (.Call (.Name "isinstance" p) [.Name nm p1, .Name y p2] [] pos) (tE (cf X T) W0 (mIsE a i (sub c d))) := by
  obtain ⟨D, h1, h2⟩ := Z.nm d y hx
  exact e_isE Z.E hc hz hfl h1 h2 hi hN hv hg hgy hdb hdn hcd he he2 hpl
end
end
end Mn

/-! Mn13: the end: a law that its small program keeps holds. -/
namespace Mn
open PySem PySem.Spec PyProof.Rows L2

/-- the small program says True -/
def Keeps (F : MF) (ns : List Int) : Prop := ∃ h, F [.ro (ns.map .int)] [] = .ok (.bl true) h
theorem law_sp {C : Cf} {F : MF} {H : Hp} {a : Addr} {ns : List Int} (h : Keeps F ns) (hO : Only H) (hS : SqL C.K H a (ns.map V.int)) : spM C 1 F [.ref a] H (fun v _ => v = .bl true) fun _ _ _ => False := by
  obtain ⟨h', e⟩ := h
  refine ⟨[], [], [.ro (ns.map .int)], ⟨rfl, List.nodup_nil, fun l o z => by simp at z⟩, .cons (.ro (RoL.of hS fun z => ?_) (by simp) fun i v x h1 h2 => ?_) .nil, rfl, ?_⟩
  · rcases hO a with q | ⟨o, xs, q⟩ <;> rw [q] at z <;> cases z
  · rw [List.getElem?_map] at h1 h2
    cases e : ns[i]? with
    | none => rw [e] at h1; cases h1
    | some n => rw [e] at h1 h2; cases h1; cases h2; exact .int n
  · rw [e]
    exact fun ρ' H' x _ _ r => r.bl_inv
/-- what the heap says of one own exception's class -/
structure OneX (K : PySem.W.Frag) (C : Addr) : Prop where
  q : PySem.W.excIn K C [.type "ValueError", .type "Exception", .type "BaseException", .type "object"] "ValueError.__new__" = true
  k : PySem.W.keepIn K (.ref C) = true
  t : PySem.W.typeIn K (.ref C) = some (.type "type")
  x : ExcC K C
def tabL (Cs : List Addr) : Tab := ⟨fun c => Cs[c]?, fun _ => none⟩
theorem exs_of {K : PySem.W.Frag} {mg : Str → Option Value} {T : Tab} {n : Nat} {sub : Nat → Nat → Bool} {nms : List Str} (Cs : List Addr) (hT : ∀ c, T.exc c = Cs[c]?) (h1 : Cs.length = n) (h2 : nms.length = n) (one : ∀ C ∈ Cs, OneX K C)
    (rel : ∀ (i j : Nat) (C D : Addr), Cs[i]? = some C → Cs[j]? = some D → PySem.W.subIn K (.ref C) (.ref D) = some (sub i j)) (rf : ∀ c, sub c c = true) (anti : ∀ i, i < n → ∀ j, j < n → sub i j = true → sub j i = true → i = j)
    (gl : ∀ (i : Nat) (x : Str) (C : Addr), nms[i]? = some x → Cs[i]? = some C → mg x = some (.ref C)) : Exs K mg T n sub nms := by
  have lt : ∀ {c : Nat} {C : Addr}, Cs[c]? = some C → c < n := fun {c C} e => by rw [← h1]; exact (List.getElem?_eq_some_iff.mp e).1
  refine ⟨⟨fun c hc => ?_, fun c C e => ?_, fun c d C D e1 e2 => ?_, fun c d C e1 e2 => ?_, rf⟩, fun i x hx => ?_⟩
  · exact ⟨Cs[c], by rw [hT]; exact List.getElem?_eq_getElem (by rw [h1]; exact hc)⟩
  · rw [hT] at e
    obtain ⟨q, k, t, x⟩ := one C (List.mem_of_getElem? e)
    exact ⟨q, k, t, x⟩
  · rw [hT] at e1 e2
    exact rel c d C D e1 e2
  · rw [hT] at e1 e2
    have r1 := rel c d C C e1 e2
    have r2 := rel c c C C e1 e1
    have r3 := rel d c C C e2 e1
    rw [r2, rf] at r1 r3
    exact anti c (lt e1) d (lt e2) (Option.some.inj r1).symm (Option.some.inj r3).symm
  · have hi : i < Cs.length := by rw [h1, ← h2]; exact (List.getElem?_eq_some_iff.mp hx).1
    have e : Cs[i]? = some Cs[i] := List.getElem?_eq_getElem hi
    exact ⟨Cs[i], by rw [hT]; exact e, gl i x _ hx e⟩
/-- a def's datum: found by its name, callable -/
theorem cal_of {P : Program} {w : World} {K : PySem.W.Frag} {mg : Str → Option Value} {base : Heap} {T : Tab} {x : Str} {k : Nat} {ps : List Str} {F : MF} {f : Addr} {fd : FuncData} (G : FM P w K mg base T k f fd ps F) (hm : mg x = some (.ref f)) (hk : PySem.W.keepIn K (.ref f) = true) (hb : Binds K fd ps []) : Cal P w K mg base T x k ps F := ⟨⟨f, fd, G, hm, hk, hb⟩⟩
section
variable {l : PySem.W.OpenLaw} {n k : Nat} {q : Program} {loose : List Str} {XP : (Str → Option Value) → Heap → Prop} {YP : World → Heap → Prop} {d : DefRec} {K : Params → PySem.W.Frag} {x : Str} {F : MF}
theorem walk_M (hn : l.most = some n) (hn2 : n ≤ sizeLine) (hdf : d.params.defaults = []) (hr : Room k callerA) (keeps : ∀ ns : List Int, ns.length ≤ n → Keeps F ns) (hY : ∀ (w : World) (h : Heap), YP w h → (K w.params).In h)
    (W : ∀ (w : World) (mg : Str → Option Value) (fa : Addr) (h : Heap), (K w.params).In h → h.Ns mainGlobals mg → mg d.name = some (.ref fa) →
      ∃ (T : Tab) (fd : FuncData), (∀ (s : Shared) (u : Value), BindsTo s fd ⟨[u], []⟩ [(x, u)]) ∧ ∀ base : Heap, (K w.params).In base → base.Ns mainGlobals mg → FM l.prog w (K w.params) mg base T k fa fd [x] F) :
    PySem.W.WalkO q loose XP YP l.row.toRowW d [] (fun f vs => PySem.call f vs) := by
  refine Att.attach_call hn hdf fun w s₀ s₁ mg mb fa o pm cd doc a vs ns G Y ho hd hcd hmg hobj hints hlen hg => ?_
  have KX := hY w _ Y
  obtain ⟨T, fd, hb, hF⟩ := W w mg fa _ KX G.T.g hmg
  refine law_call (CX := L2.CX l.prog w) KX G.T.g G.T.b G.T.builtins G.T.nolimit hg hobj hints (Nat.le_trans hlen hn2) hr hF hb (fun H hO hS => law_sp (C := ⟨l.prog, w, K w.params, T⟩) (keeps ns hlen) hO hS) ?_
  rintro H e s' ⟨_, _, _, _, _, _, _, _, _, _, _, _, z⟩
  exact z
end
end Mn

/-! Pl0: reading small programs: what must hold, so that a run ends in what is wanted. Plain: no program's model in sight. -/
namespace Mn

/-- an expression's run ends in a value of which Q holds, or lets an exception out of which X holds -/
@[irreducible] def we {α : Type} (r : R α) (Q : α → Hm → Prop) (X : Nat → Hm → Prop) : Prop := match r with
  | .ok a h => Q a h
  | .xn c h => X c h
  | .bad => False
structure Po where
  nx : LS → Hm → Prop
  rt : Val → Hm → Prop
  bk : LS → Hm → Prop
  ct : LS → Hm → Prop
  xn : Nat → Hm → Prop
@[irreducible] def ws (r : RS) (P : Po) : Prop := match r with
  | .nx s h => P.nx s h
  | .rt v h => P.rt v h
  | .bk s h => P.bk s h
  | .ct s h => P.ct s h
  | .xn c _ h => P.xn c h
  | .bad => False
section
variable {α : Type} {s : LS} {h : Hm} {P : Po} {X : Nat → Hm → Prop} {Q : α → Hm → Prop} {v : Val} {c : Nat}
theorem we_ok {v : α} : we (.ok v h) Q X = Q v h := by unfold we; rfl
theorem we_xn : we (.xn c h) Q X = X c h := by unfold we; rfl
theorem we_bad : we .bad Q X = False := by unfold we; rfl
theorem wr_nx : ws (.nx s h) P = P.nx s h := by unfold ws; rfl
theorem wr_rt : ws (.rt v h) P = P.rt v h := by unfold ws; rfl
theorem wr_bk : ws (.bk s h) P = P.bk s h := by unfold ws; rfl
theorem wr_ct : ws (.ct s h) P = P.ct s h := by unfold ws; rfl
theorem wr_xn : ws (.xn c s h) P = P.xn c h := by unfold ws; rfl
theorem wr_bad : ws .bad P = False := by unfold ws; rfl
end
theorem we.mono {α : Type} {r : R α} {Q Q' : α → Hm → Prop} {X X' : Nat → Hm → Prop} (h : we r Q X) (i : ∀ a h, Q a h → Q' a h) (j : ∀ c h, X c h → X' c h) : we r Q' X' := by
  cases r with
  | ok a m => rw [we_ok] at h ⊢; exact i a m h
  | xn c m => rw [we_xn] at h ⊢; exact j c m h
  | bad => rw [we_bad] at h; exact h.elim
theorem ws.mono {r : RS} {P P' : Po} (h : ws r P) (a : ∀ s m, P.nx s m → P'.nx s m) (b : ∀ s m, P.rt s m → P'.rt s m) (c : ∀ s m, P.bk s m → P'.bk s m) (d : ∀ s m, P.ct s m → P'.ct s m) (e : ∀ k m, P.xn k m → P'.xn k m) : ws r P' := by
  cases r with
  | nx s m => rw [wr_nx] at h ⊢; exact a s m h
  | rt s m => rw [wr_rt] at h ⊢; exact b s m h
  | bk s m => rw [wr_bk] at h ⊢; exact c s m h
  | ct s m => rw [wr_ct] at h ⊢; exact d s m h
  | xn k s m => rw [wr_xn] at h ⊢; exact e k m h
  | bad => rw [wr_bad] at h; exact h.elim
theorem we.ok {α : Type} {r : R α} {Q : α → Hm → Prop} (h : we r Q fun _ _ => False) : ∃ a m, r = .ok a m ∧ Q a m := by
  cases r with
  | ok a m => rw [we_ok] at h; exact ⟨a, m, rfl, h⟩
  | xn c m => rw [we_xn] at h; exact h.elim
  | bad => rw [we_bad] at h; exact h.elim
theorem we.of {α : Type} {r : R α} {Q : α → Hm → Prop} {X : Nat → Hm → Prop} {a : α} {m : Hm} (e : r = .ok a m) (h : Q a m) : we r Q X := by rw [e, we_ok]; exact h
section
variable {α β : Type} {s : LS} {h : Hm} {Q : Val → Hm → Prop} {Qb : Bool → Hm → Prop} {Ql : List Val → Hm → Prop} {X : Nat → Hm → Prop} {P : Po} {a b m : ME} {t u : MT} {r : MA} {A B : MS}
theorem we_bind {x : R α} {f : α → Hm → R β} {Q : β → Hm → Prop} : we (bindR x f) Q X = we x (fun v h1 => we (f v h1) Q X) X := by unfold we; cases x <;> rfl
theorem ws_bind {x : R α} {f : α → Hm → RS} : ws (bindS s x f) P = we x (fun v h1 => ws (f v h1) P) P.xn := by unfold ws we; cases x <;> rfl
theorem we_if {c : Prop} [Decidable c] {x y : R α} {Q : α → Hm → Prop} : we (if c then x else y) Q X = if c then we x Q X else we y Q X := by split <;> rfl
theorem we_c {v : Val} : we (mC v s h) Q X = Q v h := we_ok
theorem we_bin {f : Val → Val → Hm → R Val} : we (mBin f a b s h) Q X = we (a s h) (fun x h1 => we (b s h1) (fun y h2 => we (f x y h2) Q X) X) X := by
  show we (bindR _ _) Q X = _
  rw [we_bind]; congr; funext x h1; exact we_bind
theorem we_un {f : Val → Hm → R Val} : we (mUn f a s h) Q X = we (a s h) (fun x h1 => we (f x h1) Q X) X := we_bind
theorem we_call {f : List Val → Hm → R Val} : we (mCall f r s h) Q X = we (r s h) (fun x h1 => we (f x h1) Q X) X := we_bind
theorem we_nil : we (aNil s h) Ql X = Ql [] h := we_ok
theorem we_cons : we (aCons a r s h) Ql X = we (a s h) (fun v h1 => we (r s h1) (fun vs h2 => Ql (v :: vs) h2) X) X := by
  show we (bindR _ _) Ql X = _
  rw [we_bind]; congr; funext x h1; rw [we_bind]; congr; funext y h2; exact we_ok
theorem we_tup : we (mTup r s h) Q X = we (r s h) (fun vs h1 => if vs.length < lim then Q (.tup vs) h1 else False) X := by
  show we (bindR _ _) Q X = _
  rw [we_bind]; congr; funext x h1; simp only [we_if, we_ok, we_bad]
theorem we_lst : we (mLst r s h) Q X = we (r s h) (fun vs h1 => if vs.length < lim then Q (.loc h1.length) (h1 ++ [.lst vs]) else False) X := by
  show we (bindR _ _) Q X = _
  rw [we_bind]; congr; funext x h1; simp only [we_if, we_ok, we_bad]
theorem we_ifx : we (mIf t a b s h) Q X = we (t s h) (fun c h1 => if c then we (a s h1) Q X else we (b s h1) Q X) X := by
  show we (bindR _ _) Q X = _
  rw [we_bind]; congr; funext x h1; simp only [we_if, we_ok, we_bad]
def isBl (v : Val) (Q : Bool → Prop) : Prop := match v with
  | .bl b => Q b
  | _ => False
theorem we_tB : we (tB a s h) Qb X = we (a s h) (fun v h1 => isBl v fun b => Qb b h1) X := by
  show we (bindR _ _) Qb X = _
  rw [we_bind]; congr; funext x h1; cases x <;> simp only [we_ok, we_bad, isBl]
theorem we_tAnd : we (tAnd t u s h) Qb X = we (t s h) (fun c h1 => if c then we (u s h1) Qb X else Qb false h1) X := by
  show we (bindR _ _) Qb X = _
  rw [we_bind]; congr; funext x h1; simp only [we_if, we_ok, we_bad]
theorem we_tOr : we (tOr t u s h) Qb X = we (t s h) (fun c h1 => if c then Qb true h1 else we (u s h1) Qb X) X := by
  show we (bindR _ _) Qb X = _
  rw [we_bind]; congr; funext x h1; simp only [we_if, we_ok, we_bad]
theorem we_tNot : we (tNot t s h) Qb X = we (t s h) (fun c h1 => Qb (!c) h1) X := by
  show we (bindR _ _) Qb X = _
  rw [we_bind]; congr; funext x h1; exact we_ok
theorem we_and : we (mAnd a b s h) Q X = we (a s h) (fun v h1 => isBl v fun c => if c then we (b s h1) Q X else Q (.bl false) h1) X := by
  show we (bindR _ _) Q X = _
  rw [we_bind]; congr; funext x h1
  cases x <;> simp only [we_if, we_ok, we_bad, isBl]
theorem we_or : we (mOr a b s h) Q X = we (a s h) (fun v h1 => isBl v fun c => if c then Q (.bl true) h1 else we (b s h1) Q X) X := by
  show we (bindR _ _) Q X = _
  rw [we_bind]; congr; funext x h1
  cases x <;> simp only [we_if, we_ok, we_bad, isBl]
theorem we_not : we (mNot a s h) Q X = we (a s h) (fun v h1 => isBl v fun c => Q (.bl (!c)) h1) X := by
  show we (bindR _ _) Q X = _
  rw [we_bind]; congr; funext x h1; cases x <;> simp only [we_ok, we_bad, isBl]
theorem we_true : we (tTrue s h) Qb X = Qb true h := we_ok
theorem isBl_bl {c : Bool} {q : Bool → Prop} : isBl (.bl c) q = q c := rfl
theorem ws_nx : ws (sNx s h) P = P.nx s h := wr_nx
theorem ws_brk : ws (sBrk s h) P = P.bk s h := wr_bk
theorem ws_cnt : ws (sCnt s h) P = P.ct s h := wr_ct
theorem ws_retN : ws (sRetN s h) P = P.rt .non h := wr_rt
theorem ws_seq : ws (sSeq A B s h) P = ws (A s h) ⟨fun s1 h1 => ws (B s1 h1) P, P.rt, P.bk, P.ct, P.xn⟩ := by
  unfold sSeq
  cases A s h <;> simp only [wr_nx, wr_rt, wr_bk, wr_ct, wr_xn, wr_bad]
theorem ws_exp : ws (sExp a s h) P = we (a s h) (fun _ h1 => P.nx s h1) P.xn := by
  show ws (bindS _ _ _) P = _
  rw [ws_bind]; congr; funext x h1; exact wr_nx
theorem ws_ret : ws (sRet a s h) P = we (a s h) (fun v h1 => P.rt v h1) P.xn := by
  show ws (bindS _ _ _) P = _
  rw [ws_bind]; congr; funext x h1; exact wr_rt
theorem ws_ifs {c : Prop} [Decidable c] {x y : RS} : ws (if c then x else y) P = if c then ws x P else ws y P := by split <;> rfl
theorem ws_if : ws (sIf t A B s h) P = we (t s h) (fun c h1 => if c then ws (A s h1) P else ws (B s h1) P) P.xn := by
  show ws (bindS _ _ _) P = _
  rw [ws_bind]; congr; funext x h1; exact ws_ifs
theorem ws_asg {i : Nat} : ws (sAsg a (gVar i) s h) P = we (a s h) (fun v h1 => P.nx (s.set i (some v)) h1) P.xn := by
  show ws (bindS _ _ _) P = _
  rw [ws_bind]; congr; funext x h1; exact wr_nx
theorem ws_only {r : RS} : ws (only r) P = ws r ⟨P.nx, fun _ _ => False, fun _ _ => False, fun _ _ => False, P.xn⟩ := by cases r <;> simp only [only, wr_nx, wr_rt, wr_bk, wr_ct, wr_xn, wr_bad]
theorem ws_asgT {gs : List MG} : ws (sAsg a (gTupM gs) s h) P = we (a s h) (fun v h1 => ws (gTupM gs v s h1) ⟨P.nx, fun _ _ => False, fun _ _ => False, fun _ _ => False, P.xn⟩) P.xn := by
  show ws (bindS _ _ _) P = _
  rw [ws_bind]; congr; funext x h1; exact ws_only
theorem ws_asgS {o i : ME} {f : Val → Val → Val → Hm → Option Hm} : ws (sAsg a (gSubM o i f) s h) P = we (a s h) (fun v h1 => we (o s h1) (fun ov h2 => we (i s h2) (fun iv h3 => ∃ h4, f ov iv v h3 = some h4 ∧ P.nx s h4) P.xn) P.xn) P.xn := by
  show ws (bindS _ _ _) P = _
  rw [ws_bind]; congr; funext x h1
  rw [ws_only]
  show ws (bindS _ _ _) _ = _
  rw [ws_bind]; congr; funext y h2
  rw [ws_bind]; congr; funext z h3
  cases f y z x h3 with
  | none => simp [wr_bad]
  | some h4 => simp [wr_nx]
theorem ws_for {it : MI} {g : MG} : ws (sFor it g A s h) P = we (it s h) (fun J h1 => ws (forN g A J.turn J.fuel 0 s h1) P) P.xn := ws_bind
/-- what a def's run gives -/
theorem we_fn {n N : Nat} {args : List Val} (hl : args.length = n) (hb : ws (A (args.map some ++ List.replicate (N - n) none) h) ⟨fun _ h1 => Q .non h1, Q, fun _ _ => False, fun _ _ => False, X⟩) : we (asFn n N A args h) Q X := by
  unfold asFn
  rw [if_pos hl]
  cases e : A (args.map some ++ List.replicate (N - n) none) h <;> rw [e] at hb <;> simp only [we_ok, we_bad, we_xn, wr_nx, wr_rt, wr_bk, wr_ct, wr_xn, wr_bad] at hb ⊢ <;> exact hb
theorem we_fnC {n : Nat} {F : MF} {args : List Val} (hl : args.length = n) : we (fnC n F args h) Q X = we (F args h) Q X := by unfold fnC; rw [if_pos hl]
end

/-! ### loops -/
section
variable {s : LS} {h : Hm} {P : Po} {A : MS} {j : Nat}
/-- a walk over given items; the body keeps the invariant -/
theorem ws_vals {vs : List Val} (Inv : Nat → LS → Hm → Prop) (h0 : Inv 0 s h)
    (step : ∀ i v s h, vs[i]? = some v → Inv i s h → ws (A (s.set j (some v)) h) ⟨Inv (i + 1), P.rt, P.nx, Inv (i + 1), P.xn⟩) (fin : ∀ s h, Inv vs.length s h → P.nx s h) :
    ws (forN (gVar j) A (itVals vs).turn (itVals vs).fuel 0 s h) P := by
  have core : ∀ k i s h, i + k = vs.length → Inv i s h → ws (forN (gVar j) A (itVals vs).turn (k + 1) i s h) P := by
    intro k
    induction k with
    | zero =>
      intro i s h e iv
      unfold forN
      have e1 : (itVals vs).turn i h = .stop := by
        show (match vs[i]? with | some v => Turn'.item v | none => .stop) = .stop
        rw [List.getElem?_eq_none (by omega)]
      rw [e1]
      have : i = vs.length := by omega
      subst this
      exact (Eq.mpr wr_nx) (fin s h iv)
    | succ k ih =>
      intro i s h e iv
      have hi : i < vs.length := by omega
      have q := step i vs[i] s h (List.getElem?_eq_getElem hi) iv
      unfold forN
      have e1 : (itVals vs).turn i h = .item vs[i] := by
        show (match vs[i]? with | some v => Turn'.item v | none => .stop) = _
        rw [List.getElem?_eq_getElem hi]
      rw [e1]
      dsimp only [gVar]
      cases eA : A (s.set j (some vs[i])) h with
      | nx s2 h2 => rw [eA, wr_nx] at q; exact ih (i + 1) s2 h2 (by omega) q
      | ct s2 h2 => rw [eA, wr_ct] at q; exact ih (i + 1) s2 h2 (by omega) q
      | bk s2 h2 => rw [eA, wr_bk] at q; exact (Eq.mpr wr_nx) q
      | rt v h2 => rw [eA, wr_rt] at q; exact (Eq.mpr wr_rt) q
      | xn c s2 h2 => rw [eA, wr_xn] at q; exact (Eq.mpr wr_xn) q
      | bad => rw [eA, wr_bad] at q; exact q.elim
  exact core vs.length 0 s h (by omega) h0
/-- a walk over range -/
theorem ws_range {lo c : Int} {n : Nat} (Inv : Nat → LS → Hm → Prop) (h0 : Inv 0 s h)
    (step : ∀ (i : Nat) s h, i < n → Inv i s h → ws (A (s.set j (some (.int (lo + (i : Int) * c)))) h) ⟨Inv (i + 1), P.rt, P.nx, Inv (i + 1), P.xn⟩) (fin : ∀ s h, Inv n s h → P.nx s h) :
    ws (forN (gVar j) A (itRange lo c n).turn (itRange lo c n).fuel 0 s h) P := by
  have core : ∀ k i s h, i + k = n → Inv i s h → ws (forN (gVar j) A (itRange lo c n).turn (k + 1) i s h) P := by
    intro k
    induction k with
    | zero =>
      intro i s h e iv
      unfold forN
      have e1 : (itRange lo c n).turn i h = .stop := if_neg (by omega)
      rw [e1]
      have : i = n := by omega
      subst this
      exact (Eq.mpr wr_nx) (fin s h iv)
    | succ k ih =>
      intro i s h e iv
      have hi : i < n := by omega
      have q := step i s h hi iv
      unfold forN
      have e1 : (itRange lo c n).turn i h = .item (.int (lo + (i : Int) * c)) := if_pos hi
      rw [e1]
      dsimp only [gVar]
      cases eA : A (s.set j (some (.int (lo + (i : Int) * c)))) h with
      | nx s2 h2 => rw [eA, wr_nx] at q; exact ih (i + 1) s2 h2 (by omega) q
      | ct s2 h2 => rw [eA, wr_ct] at q; exact ih (i + 1) s2 h2 (by omega) q
      | bk s2 h2 => rw [eA, wr_bk] at q; exact (Eq.mpr wr_nx) q
      | rt v h2 => rw [eA, wr_rt] at q; exact (Eq.mpr wr_rt) q
      | xn c s2 h2 => rw [eA, wr_xn] at q; exact (Eq.mpr wr_xn) q
      | bad => rw [eA, wr_bad] at q; exact q.elim
  exact core n 0 s h (by omega) h0
/-- a walk over a list of the heap, which stays -/
theorem ws_list {l : Nat} {vs : List Val} (Inv : Nat → LS → Hm → Prop) (h0 : Inv 0 s h) (st : ∀ i s h, i ≤ vs.length → Inv i s h → h[l]? = some (.lst vs))
    (step : ∀ i v s h, vs[i]? = some v → Inv i s h → ws (A (s.set j (some v)) h) ⟨Inv (i + 1), P.rt, P.nx, Inv (i + 1), P.xn⟩) (fin : ∀ s h, Inv vs.length s h → P.nx s h) :
    ws (forN (gVar j) A (itLoc l vs.length).turn (itLoc l vs.length).fuel 0 s h) P := by
  have core : ∀ k i s h, i + k = vs.length → Inv i s h → ws (forN (gVar j) A (itLoc l vs.length).turn (k + 1) i s h) P := by
    intro k
    induction k with
    | zero =>
      intro i s h e iv
      unfold forN
      have e1 : (itLoc l vs.length).turn i h = .stop := by
        show (match h[l]? with | some (.lst vs) => (match vs[i]? with | some v => Turn'.item v | none => .stop) | _ => .bad) = .stop
        rw [st i s h (by omega) iv]
        dsimp only
        rw [List.getElem?_eq_none (by omega)]
      rw [e1]
      have : i = vs.length := by omega
      subst this
      exact (Eq.mpr wr_nx) (fin s h iv)
    | succ k ih =>
      intro i s h e iv
      have hi : i < vs.length := by omega
      have q := step i vs[i] s h (List.getElem?_eq_getElem hi) iv
      unfold forN
      have e1 : (itLoc l vs.length).turn i h = .item vs[i] := by
        show (match h[l]? with | some (.lst vs) => (match vs[i]? with | some v => Turn'.item v | none => .stop) | _ => .bad) = _
        rw [st i s h (by omega) iv]
        dsimp only
        rw [List.getElem?_eq_getElem hi]
      rw [e1]
      dsimp only [gVar]
      cases eA : A (s.set j (some vs[i])) h with
      | nx s2 h2 => rw [eA, wr_nx] at q; exact ih (i + 1) s2 h2 (by omega) q
      | ct s2 h2 => rw [eA, wr_ct] at q; exact ih (i + 1) s2 h2 (by omega) q
      | bk s2 h2 => rw [eA, wr_bk] at q; exact (Eq.mpr wr_nx) q
      | rt v h2 => rw [eA, wr_rt] at q; exact (Eq.mpr wr_rt) q
      | xn c s2 h2 => rw [eA, wr_xn] at q; exact (Eq.mpr wr_xn) q
      | bad => rw [eA, wr_bad] at q; exact q.elim
  exact core vs.length 0 s h (by omega) h0
/-- a while loop: Inv k, k falls -/
theorem ws_while {t : MT} {n k : Nat} (Inv : Nat → LS → Hm → Prop) (h0 : Inv k s h) (hk : k < n)
    (step : ∀ k s h, Inv k s h → we (t s h) (fun c h1 => if c then ws (A s h1) ⟨fun s2 h2 => ∃ k', k' < k ∧ Inv k' s2 h2, P.rt, P.nx, fun s2 h2 => ∃ k', k' < k ∧ Inv k' s2 h2, P.xn⟩ else P.nx s h1) P.xn) : ws (whileN t A n s h) P := by
  have core : ∀ n k s h, k < n → Inv k s h → ws (whileN t A n s h) P := by
    intro n
    induction n with
    | zero => intro k s h hk; omega
    | succ n ih =>
      intro k s h hk iv
      have q := step k s h iv
      unfold whileN
      cases et : t s h with
      | ok c h1 =>
        rw [et, we_ok] at q
        cases c with
        | false => exact (Eq.mpr wr_nx) q
        | true =>
          have q : ws (A s h1) _ := q
          dsimp only
          rw [if_pos rfl]
          cases eA : A s h1 with
          | nx s2 h2 => rw [eA, wr_nx] at q; obtain ⟨k', hk', iv'⟩ := q; exact ih k' s2 h2 (by omega) iv'
          | ct s2 h2 => rw [eA, wr_ct] at q; obtain ⟨k', hk', iv'⟩ := q; exact ih k' s2 h2 (by omega) iv'
          | bk s2 h2 => rw [eA, wr_bk] at q; exact (Eq.mpr wr_nx) q
          | rt v h2 => rw [eA, wr_rt] at q; exact (Eq.mpr wr_rt) q
          | xn c s2 h2 => rw [eA, wr_xn] at q; exact (Eq.mpr wr_xn) q
          | bad => rw [eA, wr_bad] at q; exact q.elim
      | xn c h1 => rw [et, we_xn] at q; exact (Eq.mpr wr_xn) q
      | bad => rw [et, we_bad] at q; exact q.elim
  exact core n k s h hk h0
end
end Mn

/-! Pl1: comprehensions; heaps that grow; simp sets. -/
namespace Mn

/-- an iterator that gives the items vs as long as H holds of the heap -/
structure Turns (J : It') (vs : List Val) (H : Hm → Prop) : Prop where
  fuel : J.fuel = vs.length + 1
  turn : ∀ h, H h → ∀ i, J.turn i h = match vs[i]? with
    | some v => .item v
    | none => .stop
theorem turns_vals {vs : List Val} {H : Hm → Prop} : Turns (itVals vs) vs H := ⟨rfl, fun h _ i => rfl⟩
theorem turns_loc {l : Nat} {vs : List Val} {H : Hm → Prop} (hH : ∀ h, H h → h[l]? = some (.lst vs)) : Turns (itLoc l vs.length) vs H := ⟨rfl, fun h q i => by
  show (match h[l]? with | some (.lst vs) => (match vs[i]? with | some v => Turn'.item v | none => .stop) | _ => .bad) = _
  rw [hH h q]⟩
theorem turns_range {lo c : Int} {n : Nat} {H : Hm → Prop} : Turns (itRange lo c n) ((List.range n).map fun (i : Nat) => Val.int (lo + (i : Int) * c)) H := ⟨by simp [itRange], fun h _ i => by
  show (if i < n then Turn'.item (.int (lo + (i : Int) * c)) else .stop) = _
  rw [List.getElem?_map]
  by_cases hi : i < n
  · rw [if_pos hi, List.getElem?_range hi]; rfl
  · rw [if_neg hi, List.getElem?_eq_none (by simpa using hi)]; rfl⟩
theorem turns_enum {l : Nat} {vs : List Val} {H : Hm → Prop} (hH : ∀ h, H h → h[l]? = some (.lst vs)) : Turns (itEnum l vs.length) (vs.mapIdx fun i v => .tup [.int (i : Int), v]) H := ⟨by simp [itEnum], fun h q i => by
  show (match h[l]? with | some (.lst vs) => (match vs[i]? with | some v => Turn'.item (.tup [.int i, v]) | none => .stop) | _ => .bad) = _
  rw [hH h q, List.getElem?_mapIdx]
  dsimp only
  cases vs[i]? <;> rfl⟩
section
variable {s s0 : LS} {h : Hm} {P : Po} {A : MS} {j : Nat} {X : Nat → Hm → Prop} {g : MG} {t : MT} {e : ME}
/-- a for loop -/
theorem ws_turns {J : It'} {vs : List Val} {H : Hm → Prop} (T : Turns J vs H) (Inv : Nat → LS → Hm → Prop) (h0 : Inv 0 s h) (hH : ∀ i s h, i ≤ vs.length → Inv i s h → H h)
    (step : ∀ i v s h, vs[i]? = some v → Inv i s h → ws (g v s h) ⟨fun s1 h1 => ws (A s1 h1) ⟨Inv (i + 1), P.rt, P.nx, Inv (i + 1), P.xn⟩, fun _ _ => False, fun _ _ => False, fun _ _ => False, P.xn⟩) (fin : ∀ s h, Inv vs.length s h → P.nx s h) :
    ws (forN g A J.turn J.fuel 0 s h) P := by
  have core : ∀ k i s h, i + k = vs.length → Inv i s h → ws (forN g A J.turn (k + 1) i s h) P := by
    intro k
    induction k with
    | zero =>
      intro i s h e iv
      unfold forN
      rw [T.turn h (hH i s h (by omega) iv) i, List.getElem?_eq_none (by omega)]
      have : i = vs.length := by omega
      subst this
      exact (Eq.mpr wr_nx) (fin s h iv)
    | succ k ih =>
      intro i s h e iv
      have hi : i < vs.length := by omega
      have q := step i vs[i] s h (List.getElem?_eq_getElem hi) iv
      unfold forN
      rw [T.turn h (hH i s h (by omega) iv) i, List.getElem?_eq_getElem hi]
      dsimp only
      cases eg : g vs[i] s h with
      | nx s1 h1 =>
        rw [eg, wr_nx] at q
        have q : ws (A s1 h1) _ := q
        dsimp only
        cases eA : A s1 h1 with
        | nx s2 h2 => rw [eA, wr_nx] at q; exact ih (i + 1) s2 h2 (by omega) q
        | ct s2 h2 => rw [eA, wr_ct] at q; exact ih (i + 1) s2 h2 (by omega) q
        | bk s2 h2 => rw [eA, wr_bk] at q; exact (Eq.mpr wr_nx) q
        | rt v h2 => rw [eA, wr_rt] at q; exact (Eq.mpr wr_rt) q
        | xn c s2 h2 => rw [eA, wr_xn] at q; exact (Eq.mpr wr_xn) q
        | bad => rw [eA, wr_bad] at q; exact q.elim
      | xn c s2 h2 => rw [eg, wr_xn] at q; exact (Eq.mpr wr_xn) q
      | rt v h2 => rw [eg, wr_rt] at q; exact q.elim
      | bk v h2 => rw [eg, wr_bk] at q; exact q.elim
      | ct v h2 => rw [eg, wr_ct] at q; exact q.elim
      | bad => rw [eg, wr_bad] at q; exact q.elim
  rw [T.fuel]
  exact core vs.length 0 s h (by omega) h0
theorem we_lc {it : MI} {vs : List Nat} {Q : Val → Hm → Prop} : we (mLc it vs g t e s h) Q X = we (it s h) (fun J h1 => we (lcN g t e J.turn (wipeS s vs) J.fuel 0 [] h1) (fun acc h2 => Q (.loc h2.length) (h2 ++ [.lst acc.reverse])) X) X := by
  show we (bindR _ _) Q X = _
  rw [we_bind]; congr; funext x h1; rw [we_bind]; congr; funext y h2; exact we_ok
/-- a comprehension: the invariant tells what is made so far -/
theorem we_lcN {J : It'} {vs : List Val} {H : Hm → Prop} {Q : List Val → Hm → Prop} (T : Turns J vs H) (Inv : Nat → List Val → Hm → Prop) (h0 : Inv 0 [] h) (hH : ∀ i xs h, i ≤ vs.length → Inv i xs h → H h)
    (step : ∀ i v xs h, vs[i]? = some v → Inv i xs h → ws (g v s0 h) ⟨fun s1 h1 => we (t s1 h1) (fun b h2 => if b then we (e s1 h2) (fun x h3 => xs.length < lim ∧ Inv (i + 1) (xs ++ [x]) h3) (fun _ _ => False) else Inv (i + 1) xs h2) (fun _ _ => False), fun _ _ => False, fun _ _ => False, fun _ _ => False, fun _ _ => False⟩)
    (fin : ∀ xs h, Inv vs.length xs h → Q xs.reverse h) : we (lcN g t e J.turn s0 J.fuel 0 [] h) Q X := by
  have core : ∀ k i xs h, i + k = vs.length → Inv i xs h → we (lcN g t e J.turn s0 (k + 1) i xs.reverse h) Q X := by
    intro k
    induction k with
    | zero =>
      intro i xs h e iv
      unfold lcN
      rw [T.turn h (hH i xs h (by omega) iv) i, List.getElem?_eq_none (by omega)]
      have : i = vs.length := by omega
      subst this
      exact (Eq.mpr we_ok) (fin xs h iv)
    | succ k ih =>
      intro i xs h e1 iv
      have hi : i < vs.length := by omega
      have q := step i vs[i] xs h (List.getElem?_eq_getElem hi) iv
      unfold lcN
      rw [T.turn h (hH i xs h (by omega) iv) i, List.getElem?_eq_getElem hi]
      dsimp only
      cases eg : g vs[i] s0 h with
      | nx s1 h1 =>
        rw [eg, wr_nx] at q
        have q : we (t s1 h1) _ _ := q
        dsimp only
        cases et : t s1 h1 with
        | ok b h2 =>
          rw [et, we_ok] at q
          dsimp only
          cases b with
          | false => rw [if_neg (by decide)]; exact ih (i + 1) xs h2 (by omega) q
          | true =>
            have q : we (e s1 h2) _ _ := q
            rw [if_pos rfl]
            cases ee : e s1 h2 with
            | ok x h3 =>
              rw [ee, we_ok] at q
              obtain ⟨q1, q2⟩ := q
              dsimp only
              rw [if_pos (by rw [List.length_reverse]; exact q1), ← List.reverse_concat]
              exact ih (i + 1) (xs ++ [x]) h3 (by omega) q2
            | xn c h3 => simp only [ee, we_xn, we_bad] at q
            | bad => simp only [ee, we_xn, we_bad] at q
        | xn c h3 => simp only [et, we_xn, we_bad] at q
        | bad => simp only [et, we_xn, we_bad] at q
      | xn c s2 h2 => simp only [eg, wr_xn, wr_bad, wr_rt, wr_bk, wr_ct] at q
      | rt v h2 => simp only [eg, wr_xn, wr_bad, wr_rt, wr_bk, wr_ct] at q
      | bk v h2 => simp only [eg, wr_xn, wr_bad, wr_rt, wr_bk, wr_ct] at q
      | ct v h2 => simp only [eg, wr_xn, wr_bad, wr_rt, wr_bk, wr_ct] at q
      | bad => simp only [eg, wr_xn, wr_bad, wr_rt, wr_bk, wr_ct] at q
  rw [T.fuel]
  exact core vs.length 0 [] h (by omega) h0
end

/-! ### heaps -/
/-- h' is h and more -/
def Ext (h h' : Hm) : Prop := ∃ g, h' = h ++ g
theorem Ext.refl (h : Hm) : Ext h h := ⟨[], by simp⟩
theorem Ext.trans {a b c : Hm} (x : Ext a b) (y : Ext b c) : Ext a c := by
  obtain ⟨g, rfl⟩ := x
  obtain ⟨g', rfl⟩ := y
  exact ⟨g ++ g', by simp⟩
theorem Ext.push (h : Hm) (o : HObj) : Ext h (h ++ [o]) := ⟨[o], rfl⟩
theorem Ext.get {h h' : Hm} (x : Ext h h') {l : Nat} {o : HObj} (e : h[l]? = some o) : h'[l]? = some o := by
  obtain ⟨g, rfl⟩ := x
  rw [List.getElem?_append_left (List.getElem?_eq_some_iff.mp e).1]; exact e
theorem Ext.len {h h' : Hm} (x : Ext h h') : h.length ≤ h'.length := by
  obtain ⟨g, rfl⟩ := x
  simp
theorem get_push (h : Hm) (o : HObj) : (h ++ [o])[h.length]? = some o := by simp
theorem Ext.set {h h' : Hm} (x : Ext h h') {l : Nat} {o : HObj} (hl : h.length ≤ l) : Ext h (h'.set l o) := by
  obtain ⟨g, rfl⟩ := x
  exact ⟨g.set (l - h.length) o, by rw [List.set_append_right _ _ hl]⟩
theorem get_lt {h : Hm} {l : Nat} {o : HObj} (e : h[l]? = some o) : l < h.length := (List.getElem?_eq_some_iff.mp e).1
theorem get_set_same {h : Hm} {l : Nat} {o q : HObj} (e : h[l]? = some q) : (h.set l o)[l]? = some o := List.getElem?_set_self (get_lt e)
theorem get_set_ne {h : Hm} {l k : Nat} {o : HObj} (n : l ≠ k) : (h.set l o)[k]? = h[k]? := List.getElem?_set_ne n
theorem get_push_old {h : Hm} {l : Nat} {o q : HObj} (e : h[l]? = some q) : (h ++ [o])[l]? = some q := by rw [List.getElem?_append_left (get_lt e)]; exact e

/-! ### reading by simp -/
theorem mVar_eq {i : Nat} {s : LS} {h : Hm} : mVar i s h = match s[i]? with
  | some (some v) => .ok v h
  | _ => .bad := rfl
theorem sAug_eq {i : Nat} {f : Val → Val → Hm → R Val} {m : ME} {s : LS} {h : Hm} {P : Po} : ws (sAug i f m s h) P = match s[i]? with
  | some (some v) => we (m s h) (fun w h1 => we (f v w h1) (fun z h2 => P.nx (s.set i (some z)) h2) P.xn) P.xn
  | _ => False := by
  unfold sAug
  cases s[i]? with
  | none => exact wr_bad
  | some o =>
    cases o with
    | none => exact wr_bad
    | some v =>
      dsimp only
      rw [ws_bind]; congr; funext x h1; rw [ws_bind]; congr; funext y h2; exact wr_nx
theorem we_meth {p : Val → Hm → Bool} {f : Val → List Val → Hm → R Val} {o : ME} {a : MA} {s : LS} {h : Hm} {Q : Val → Hm → Prop} {X : Nat → Hm → Prop} : we (mMeth p f o a s h) Q X = we (o s h) (fun v h1 => if p v h1 then we (a s h1) (fun vs h2 => we (f v vs h2) Q X) X else False) X := by
  show we (bindR _ _) Q X = _
  rw [we_bind]; congr; funext x h1
  rw [we_if]
  by_cases c : p x h1 = true
  · rw [if_pos c, if_pos c]; exact we_bind
  · rw [if_neg c, if_neg c]; exact we_bad
end Mn

/-! Pl2: operations read; the numbers that a script gives. -/
namespace Mn
open L2
section
variable {i j : Int} {h : Hm} {Q : Val → Hm → Prop} {X : Nat → Hm → Prop} {l : Nat} {xs : List Val} {v w : Val}
theorem we_add : we (opAdd (.int i) (.int j) h) Q X = Q (.int (i + j)) h := we_ok
theorem we_sub : we (opSub (.int i) (.int j) h) Q X = Q (.int (i - j)) h := we_ok
theorem we_mul : we (opMul (.int i) (.int j) h) Q X = if small64 i || small64 j then Q (.int (i * j)) h else False := by
  show we (if _ then _ else _) Q X = _
  rw [we_if, we_ok, we_bad]
theorem we_mod : we (opMod (.int i) (.int j) h) Q X = if 0 < j then Q (.int (i % j)) h else False := by
  show we (if _ then _ else _) Q X = _
  rw [we_if, we_ok, we_bad]
theorem we_fdiv : we (opFdiv (.int i) (.int j) h) Q X = if 0 < j ∧ j < 1073741824 then Q (.int (i / j)) h else False := by
  show we (if _ then _ else _) Q X = _
  rw [we_if, we_ok, we_bad]
theorem we_cmp {p : Int → Int → Bool} : we (opCmpI p (.int i) (.int j) h) Q X = Q (.bl (p i j)) h := we_ok
theorem we_neg : we (opNeg (.int i) h) Q X = Q (.int (-i)) h := we_ok
theorem we_abs : we (cAbs [.int i] h) Q X = Q (.int (if i < 0 then -i else i)) h := we_ok
theorem we_int : we (cInt [.int i] h) Q X = Q (.int i) h := we_ok
theorem we_intB {b : Bool} : we (cInt [.bl b] h) Q X = Q (.int (if b then 1 else 0)) h := we_ok
theorem we_max2 : we (cMax2 [.int i, .int j] h) Q X = Q (.int (if j > i then j else i)) h := we_ok
theorem we_min2 : we (cMin2 [.int i, .int j] h) Q X = Q (.int (if j < i then j else i)) h := we_ok
def rng1 : List Val → Hm → R It' := fun vs h1 => match vs with
  | [.int j] => if inR j then .ok (itRange 0 1 j.toNat) h1 else .bad
  | _ => .bad
def rng2 : List Val → Hm → R It' := fun vs h1 => match vs with
  | [.int i, .int j] => if inR i && inR j then .ok (itRange i 1 (j - i).toNat) h1 else .bad
  | _ => .bad
theorem we_rng1 {a : MA} {s : LS} {Q : It' → Hm → Prop} : we (mRange1 a s h) Q X = we (a s h) (fun vs h1 => we (rng1 vs h1) Q X) X := we_bind
theorem we_rng2 {a : MA} {s : LS} {Q : It' → Hm → Prop} : we (mRange2 a s h) Q X = we (a s h) (fun vs h1 => we (rng2 vs h1) Q X) X := we_bind
theorem we_rng1c {Q : It' → Hm → Prop} : we (rng1 [.int i] h) Q X = if inR i then Q (itRange 0 1 i.toNat) h else False := by
  show we (if _ then _ else _) Q X = _
  rw [we_if, we_ok, we_bad]
theorem we_rng2c {Q : It' → Hm → Prop} : we (rng2 [.int i, .int j] h) Q X = if inR i && inR j then Q (itRange i 1 (j - i).toNat) h else False := by
  show we (if _ then _ else _) Q X = _
  rw [we_if, we_ok, we_bad]
theorem we_lenRo : we (cLen [.ro xs] h) Q X = Q (.int xs.length) h := we_ok
theorem we_lenTup : we (cLen [.tup xs] h) Q X = Q (.int xs.length) h := we_ok
theorem we_len (e : h[l]? = some (.lst xs)) : we (cLen [.loc l] h) Q X = Q (.int xs.length) h := by
  unfold cLen; dsimp only; rw [e]; exact we_ok
theorem we_ixTup (e : atI xs i = some v) : we (opIx (.tup xs) (.int i) h) Q X = Q v h := by
  unfold opIx; dsimp only; rw [e]; exact we_ok
theorem we_ixRo (e : atI xs i = some v) : we (opIx (.ro xs) (.int i) h) Q X = Q v h := by
  unfold opIx; dsimp only; rw [e]; exact we_ok
theorem we_ixL (e : h[l]? = some (.lst xs)) (e2 : atI xs i = some v) : we (opIx (.loc l) (.int i) h) Q X = Q v h := by
  unfold opIx; dsimp only; rw [e]; dsimp only; rw [e2]; exact we_ok
theorem isL_loc (e : h[l]? = some (.lst xs)) : isL (.loc l) h = true := by
  unfold isL listOf; dsimp only; rw [e]; rfl
theorem we_append (e : h[l]? = some (.lst xs)) (hl : xs.length < lim) : we (lAppend (.loc l) [w] h) Q X = Q .non (h.set l (.lst (xs ++ [w]))) := by
  unfold lAppend; dsimp only; rw [e]; dsimp only; rw [if_pos hl]; exact we_ok
theorem atI_nat {n : Nat} {x : Val} (e : xs[n]? = some x) : atI xs (n : Int) = some x := by
  have hn := (List.getElem?_eq_some_iff.mp e).1
  unfold atI ixN
  rw [if_pos (by omega), if_pos (by omega)]
  show xs[((n : Int)).toNat]? = some x
  rw [Int.toNat_natCast]; exact e
theorem atI_int {n : Int} {x : Val} (h0 : 0 ≤ n) (e : xs[n.toNat]? = some x) : atI xs n = some x := by
  have hn : ((n.toNat : Nat) : Int) = n := Int.toNat_of_nonneg h0
  rw [← hn]; exact atI_nat e
theorem we_pow : we (opPow (.int i) (.int j) h) Q X = if 0 ≤ j ∧ j ≤ 1000 ∧ i.natAbs < 2 ^ 64 then Q (.int (i ^ j.toNat)) h else False := by
  show we (if _ then _ else _) Q X = _
  rw [we_if, we_ok, we_bad]
end
theorem we_pow18 {h : Hm} {Q : Val → Hm → Prop} {X : Nat → Hm → Prop} : we (opPow (.int 10) (.int 18) h) Q X = Q (.int 1000000000000000000) h := by
  rw [we_pow, if_pos (by decide)]; rfl
theorem inR_nat {n : Nat} (h : n < 1000000000) : inR (n : Int) = true := by unfold inR; simp; omega
theorem dec_true {p : Prop} [Decidable p] (h : p) : decide p = true := decide_eq_true h
theorem ite_dec {p : Prop} [Decidable p] {A B : Prop} : (if decide p = true then A else B) = if p then A else B := by
  by_cases h : p <;> simp [h]
theorem ite_bl {b : Bool} {p : Prop} [Decidable p] {A B : Bool → Prop} : (if p then A true else A false) = A (decide p) := by
  by_cases h : p <;> simp [h]
theorem we_eqI {i j : Int} {h : Hm} {Q : Val → Hm → Prop} {X : Nat → Hm → Prop} : we (opEq (.int i) (.int j) h) Q X = Q (.bl (decide (i = j))) h := by
  show we (if _ then _ else _) Q X = _
  rw [if_pos (by rfl), we_ok]
  show Q (.bl (i == j)) h = _
  congr
theorem we_neI {i j : Int} {h : Hm} {Q : Val → Hm → Prop} {X : Nat → Hm → Prop} : we (opNe (.int i) (.int j) h) Q X = Q (.bl (!decide (i = j))) h := by
  show we (if _ then _ else _) Q X = _
  rw [if_pos (by rfl), we_ok]
  show Q (.bl (!(i == j))) h = _
  congr
theorem we_eqB {i j : Bool} {h : Hm} {Q : Val → Hm → Prop} {X : Nat → Hm → Prop} : we (opEq (.bl i) (.bl j) h) Q X = Q (.bl (i == j)) h := by
  show we (if _ then _ else _) Q X = _
  rw [if_pos (by rfl), we_ok]
  rfl
theorem we_neB {i j : Bool} {h : Hm} {Q : Val → Hm → Prop} {X : Nat → Hm → Prop} : we (opNe (.bl i) (.bl j) h) Q X = Q (.bl (!(i == j))) h := by
  show we (if _ then _ else _) Q X = _
  rw [if_pos (by rfl), we_ok]
  rfl
theorem we_fnC2 {n : Nat} {F : MF} {args : List Val} {h : Hm} {Q : Val → Hm → Prop} {X : Nat → Hm → Prop} : we (fnC n F args h) Q X = if args.length = n then we (F args h) Q X else False := by
  show we (if _ then _ else _) Q X = _
  rw [we_if, we_bad]
theorem we_tupL {l : Nat} {xs : List Val} {h : Hm} {Q : Val → Hm → Prop} {X : Nat → Hm → Prop} (e : h[l]? = some (.lst xs)) : we (cTuple [.loc l] h) Q X = Q (.tup xs) h := by
  unfold cTuple; dsimp only; rw [e]; exact we_ok
theorem we_tupT {xs : List Val} {h : Hm} {Q : Val → Hm → Prop} {X : Nat → Hm → Prop} : we (cTuple [.tup xs] h) Q X = Q (.tup xs) h := we_ok
theorem we_lstL {l : Nat} {xs : List Val} {h : Hm} {Q : Val → Hm → Prop} {X : Nat → Hm → Prop} (e : h[l]? = some (.lst xs)) : we (cList [.loc l] h) Q X = Q (.loc h.length) (h ++ [.lst xs]) := by
  unfold cList seqOf; dsimp only; rw [e]; exact we_ok
theorem we_lstT {xs : List Val} {h : Hm} {Q : Val → Hm → Prop} {X : Nat → Hm → Prop} : we (cList [.tup xs] h) Q X = Q (.loc h.length) (h ++ [.lst xs]) := we_ok
theorem sm_nat {n : Nat} (h : n < 18446744073709551616) : small64 (n : Int) = true := by
  unfold small64
  rw [Bool.and_eq_true, decide_eq_true_eq, decide_eq_true_eq]
  omega
def isInt (v : Val) (Q : Int → Prop) : Prop := match v with
  | .int i => Q i
  | _ => False
theorem isInt_int {i : Int} {Q : Int → Prop} : isInt (.int i) Q = Q i := rfl
section
variable {s : LS} {h : Hm} {Q : Val → Hm → Prop} {X : Nat → Hm → Prop} {a m : ME} {lo hi : Option ME} {Qo : Option Int → Hm → Prop}
theorem we_sl : we (mSl a lo hi s h) Q X = we (a s h) (fun v h1 => we (mPart lo s h1) (fun l h2 => we (mPart hi s h2) (fun u h3 => we (opSl v l u h3) Q X) X) X) X := by
  show we (bindR _ _) Q X = _
  rw [we_bind]; congr; funext x h1; rw [we_bind]; congr; funext y h2; rw [we_bind]
theorem we_partN : we (mPart none s h) Qo X = Qo none h := we_ok
theorem we_partS : we (mPart (some m) s h) Qo X = we (m s h) (fun v h1 => isInt v fun i => Qo (some i) h1) X := by
  show we (bindR _ _) Qo X = _
  rw [we_bind]; congr; funext x h1; cases x <;> simp only [we_ok, we_bad, isInt]
theorem we_slL {l : Nat} {xs : List Val} {lo hi : Option Int} (e : h[l]? = some (.lst xs)) : we (opSl (.loc l) lo hi h) Q X = Q (.loc h.length) (h ++ [.lst (cutL xs lo hi)]) := by
  unfold opSl; dsimp only; rw [e]; exact we_ok
end
theorem cutL_to (xs : List Val) (n : Nat) : cutL xs none (some (n : Int)) = xs.take n := by
  unfold cutL
  rw [HT.sIx_nat, HT.sIx_none]
  simp
theorem cutL_from (xs : List Val) (n : Nat) : cutL xs (some (n : Int)) none = xs.drop n := by
  unfold cutL
  rw [HT.sIx_nat, HT.sIx_none]
  rw [List.take_of_length_le (by simp), show List.drop (min n xs.length) xs = List.drop n xs from ?_]
  by_cases h : n ≤ xs.length
  · rw [Nat.min_eq_left h]
  · rw [Nat.min_eq_right (by omega), List.drop_eq_nil_of_le (Nat.le_refl _), List.drop_eq_nil_of_le (by omega)]
theorem s48271 : small64 48271 = true := by decide
theorem s69621 : small64 69621 = true := by decide
theorem s16807 : small64 16807 = true := by decide
theorem s7 : small64 7 = true := by decide
theorem we_addI {i j : Int} {h : Hm} {Q : Val → Hm → Prop} {X : Nat → Hm → Prop} : we (opAddI (.int i) (.int j) h) Q X = Q (.int (i + j)) h := we_ok
theorem ws_gvar {i : Nat} {v : Val} {s : LS} {h : Hm} {P : Po} : ws (gVar i v s h) P = P.nx (s.set i (some v)) h := wr_nx
theorem range_at {n i : Nat} {f : Nat → Val} {v : Val} (h : ((List.range n).map f)[i]? = some v) : i < n ∧ v = f i := by
  rw [List.getElem?_map] at h
  by_cases hi : i < n
  · rw [List.getElem?_range hi] at h; exact ⟨hi, (Option.some.inj h).symm⟩
  · rw [List.getElem?_eq_none (by simpa using hi)] at h; cases h
theorem lim_1 : (1 < lim) = True := by simp [lim]
theorem lim_2 : (2 < lim) = True := by simp [lim]
theorem lim_3 : (3 < lim) = True := by simp [lim]
theorem we_dict1 {a b : ME} {s : LS} {h : Hm} {Q : Val → Hm → Prop} {X : Nat → Hm → Prop} : we (mDict1 a b s h) Q X = we (a s h) (fun k h1 => we (b s h1) (fun v h2 => if k.isKeyN 8 && isTup k then Q (.loc h2.length) (h2 ++ [.dN [(k, v)]]) else False) X) X := by
  show we (bindR _ _) Q X = _
  rw [we_bind]; congr; funext x h1; rw [we_bind]; congr; funext y h2; rw [we_if, we_ok, we_bad]
theorem key2 {a b : Int} : (Val.tup [.int a, .int b]).isKeyN 8 = true := rfl
theorem isTup_tup {vs : List Val} : isTup (.tup vs) = true := rfl
theorem we_catL {l k : Nat} {a b : List Val} {h : Hm} {Q : Val → Hm → Prop} {X : Nat → Hm → Prop} (e : h[l]? = some (.lst a)) (f : h[k]? = some (.lst b)) (hl : a.length + b.length < lim) : we (opAdd (.loc l) (.loc k) h) Q X = Q (.loc h.length) (h ++ [.lst (a ++ b)]) := by
  unfold opAdd; dsimp only; rw [e, f]; dsimp only; rw [if_pos hl]; exact we_ok
theorem ws_raise {c : Nat} {s : LS} {h : Hm} {P : Po} : ws (sRaise c s h) P = P.xn c h := wr_xn
theorem lim_pos : (0 < lim) = True := by simp [lim]
theorem set_last (h : Hm) (o q : HObj) : (h ++ [o]).set h.length q = h ++ [q] := by
  rw [List.set_append_right _ _ (Nat.le_refl _)]; simp
/-- a number of a script's -/
def Num (x : Int) : Prop := 0 ≤ x ∧ x < 2147483648
def Nums (ns : List Int) : Prop := ∀ x ∈ ns, Num x
theorem Nums.push {ns : List Int} {x : Int} (h : Nums ns) (hx : Num x) : Nums (ns ++ [x]) := fun y hy => by
  rcases List.mem_append.mp hy with z | z
  · exact h y z
  · have : y = x := by simpa using z
    subst this; exact hx
theorem map_push (ns : List Int) (x : Int) : (ns.map Val.int) ++ [.int x] = (ns ++ [x]).map Val.int := by simp
@[irreducible] def b_numbers : MS := (sSeq (sAsg (mLst aNil) (gVar 2)) (sSeq (sFor (mRange1 (aCons (mCall cLen (aCons (mVar 0) aNil)) aNil)) (gVar 3) (sSeq (sAsg (mCall cAbs (aCons (mCall cInt (aCons (mBin opIx (mVar 0) (mVar 3)) aNil)) aNil)) (gVar 4)) (sIf (tB (mBin opGe (mVar 4) (mBin opPow (mC (.int 10)) (mC (.int 18))))) (sFor (mRange1 (aCons (mC (.int 60)) aNil)) (gVar 5) (sIf (tAnd (tB (mBin opGt (mVar 4) (mC (.int 0)))) (tB (mBin opLt (mCall cLen (aCons (mVar 2) aNil)) (mVar 1)))) (sSeq (sExp (mMeth isL lAppend (mVar 2) (aCons (mBin opMod (mVar 4) (mC (.int 10007))) aNil))) (sAsg (mBin opFdiv (mVar 4) (mC (.int 10007))) (gVar 4))) sNx)) (sIf (tB (mBin opLt (mCall cLen (aCons (mVar 2) aNil)) (mVar 1))) (sSeq (sAsg (mBin opMod (mCall cInt (aCons (mBin opAdd (mBin opAdd (mBin opMul (mVar 4) (mC (.int 48271))) (mBin opMul (mVar 3) (mC (.int 69621)))) (mC (.int 11))) aNil)) (mC (.int 2147483647))) (gVar 6)) (sExp (mMeth isL lAppend (mVar 2) (aCons (mBin opFdiv (mBin opMod (mCall cInt (aCons (mBin opAdd (mBin opAdd (mBin opMul (mVar 6) (mC (.int 16807))) (mBin opMul (mC (.int 7)) (mVar 3))) (mC (.int 3))) aNil)) (mC (.int 2147483647))) (mC (.int 3))) aNil)))) sNx)))) (sSeq (sAsg (mCall cLen (aCons (mVar 2) aNil)) (gVar 7)) (sSeq (sAsg (mBin opAdd (mC (.int 5381)) (mCall cLen (aCons (mVar 0) aNil))) (gVar 8)) (sSeq (sFor (mRange1 (aCons (mCall cMax2 (aCons (mC (.int 0)) (aCons (mBin opSub (mVar 1) (mVar 7)) aNil))) aNil)) (gVar 3) (sSeq (sIf (tB (mBin opGt (mVar 7) (mC (.int 0)))) (sAsg (mBin opAdd (mVar 8) (mBin opIx (mVar 2) (mBin opMod (mVar 3) (mVar 7)))) (gVar 8)) sNx) (sSeq (sAsg (mBin opMod (mCall cInt (aCons (mBin opAdd (mBin opMul (mVar 8) (mC (.int 48271))) (mVar 3)) aNil)) (mC (.int 2147483647))) (gVar 8)) (sExp (mMeth isL lAppend (mVar 2) (aCons (mBin opFdiv (mVar 8) (mC (.int 7))) aNil)))))) (sRet (mSl (mVar 2) none (some (mVar 1)))))))))
/-- a list of the heap: its last object -/
def numHeap (h : Hm) (ns : List Int) : Hm := h ++ [.lst (ns.map .int)]
theorem numHeap_get (h : Hm) (ns : List Int) : (numHeap h ns)[h.length]? = some (.lst (ns.map .int)) := by unfold numHeap; exact get_push _ _
theorem numHeap_set (h : Hm) (ns : List Int) (x : Int) : (numHeap h ns).set h.length (.lst (ns.map .int ++ [.int x])) = numHeap h (ns ++ [x]) := by
  unfold numHeap; rw [set_last, map_push]
theorem numHeap_app {h : Hm} {ns : List Int} {x : Int} {Q : Val → Hm → Prop} {X : Nat → Hm → Prop} (hl : ns.length < lim) : we (lAppend (.loc h.length) [.int x] (numHeap h ns)) Q X = Q .non (numHeap h (ns ++ [x])) := by
  rw [we_append (numHeap_get h ns) (by simpa using hl), numHeap_set]
theorem numHeap_len {h : Hm} {ns : List Int} {Q : Val → Hm → Prop} {X : Nat → Hm → Prop} : we (cLen [.loc h.length] (numHeap h ns)) Q X = Q (.int ns.length) (numHeap h ns) := by
  rw [we_len (numHeap_get h ns), List.length_map]
theorem numHeap_isL {h : Hm} {ns : List Int} : isL (.loc h.length) (numHeap h ns) = true := isL_loc (numHeap_get h ns)
theorem numbers_ok {ns : List Int} {many : Nat} {h : Hm} {X : Nat → Hm → Prop} (hns : ns.length < 1000) (hm : many < 100000) :
    we (asFn 2 9 b_numbers [.ro (ns.map .int), .int many] h) (fun v h' => ∃ us : List Int, us.length = many ∧ Nums us ∧ ∃ junk, v = .loc (h.length + 1) ∧ h' = h ++ [.lst junk, .lst (us.map .int)]) X := by
  refine we_fn rfl ?_
  show ws (b_numbers [some (.ro (ns.map .int)), some (.int many), none, none, none, none, none, none, none] h) _
  rw [b_numbers.eq_def]
  simp -implicitDefEqProofs only [we_bin, we_un, we_call, we_nil, we_cons, we_tup, we_lst, we_ifx, we_tB, we_tAnd, we_tOr, we_tNot, we_and, we_or, we_not, we_c, we_ok, we_true, isBl_bl, ws_nx, ws_brk, ws_cnt, ws_retN, ws_seq, ws_exp, ws_ret, ws_if, ws_asg, ws_asgT, ws_asgS, ws_for, sAug_eq, we_meth, mVar_eq, List.getElem?_cons_zero, List.getElem?_cons_succ, List.set_cons_zero, List.set_cons_succ, ↓reduceIte, we_add, we_sub, we_mul, we_mod, we_fdiv, we_cmp, we_neg, we_abs, we_int, we_intB, we_max2, we_min2, we_rng1, we_rng2, we_rng1c, we_rng2c, we_lenRo, we_lenTup, we_eqI, we_neI, we_eqB, we_neB, we_fnC2, we_sl, we_partN, we_partS, isInt_int, Int.reduceLT, Int.reduceLE, lim_pos, lim_1, lim_2, lim_3, we_dict1, ws_gvar, wipeS, we_addI, ws_raise, key2, isTup_tup, List.length_cons, List.length_nil, Nat.reduceAdd, Nat.zero_add, Bool.and_true, Bool.true_and, true_and, and_true, Bool.or_true, Bool.true_or, ite_dec, List.length_nil, lim_pos, List.length_map]
  rw [if_pos (inR_nat (by omega)), Int.toNat_natCast]
  refine ws_range (fun i s h' => ∃ us a3 a4 a5 a6, s = [some (.ro (ns.map .int)), some (.int many), some (.loc h.length), a3, a4, a5, a6, none, none] ∧ h' = numHeap h us ∧ us.length ≤ many ∧ Nums us) ⟨[], none, none, none, none, rfl, rfl, Nat.zero_le _, fun x hx => by simp at hx⟩ ?_ ?_
  · rintro i s h' hi ⟨us, a3, a4, a5, a6, rfl, rfl, hl, hn⟩
    have e : atI (ns.map Val.int) (i : Int) = some (.int ns[i]) := atI_nat (by rw [List.getElem?_map, List.getElem?_eq_getElem hi]; rfl)
    have hlim : us.length < lim := by unfold lim; omega
    simp -implicitDefEqProofs only [we_bin, we_un, we_call, we_nil, we_cons, we_tup, we_lst, we_ifx, we_tB, we_tAnd, we_tOr, we_tNot, we_and, we_or, we_not, we_c, we_ok, we_true, isBl_bl, ws_nx, ws_brk, ws_cnt, ws_retN, ws_seq, ws_exp, ws_ret, ws_if, ws_asg, ws_asgT, ws_asgS, ws_for, sAug_eq, we_meth, mVar_eq, List.getElem?_cons_zero, List.getElem?_cons_succ, List.set_cons_zero, List.set_cons_succ, ↓reduceIte, we_add, we_sub, we_mul, we_mod, we_fdiv, we_cmp, we_neg, we_abs, we_int, we_intB, we_max2, we_min2, we_rng1, we_rng2, we_rng1c, we_rng2c, we_lenRo, we_lenTup, we_eqI, we_neI, we_eqB, we_neB, we_fnC2, we_sl, we_partN, we_partS, isInt_int, Int.reduceLT, Int.reduceLE, lim_pos, lim_1, lim_2, lim_3, we_dict1, ws_gvar, wipeS, we_addI, ws_raise, key2, isTup_tup, List.length_cons, List.length_nil, Nat.reduceAdd, Nat.zero_add, Bool.and_true, Bool.true_and, true_and, and_true, Bool.or_true, Bool.true_or, ite_dec, Int.zero_add, Int.mul_one, we_ixRo e, we_pow18]
    by_cases hc : 1000000000000000000 ≤ if ns[i] < 0 then -ns[i] else ns[i]
    · rw [if_pos hc, if_pos (by decide)]
      refine ws_range (fun _ s h' => ∃ us c a5, s = [some (.ro (ns.map .int)), some (.int many), some (.loc h.length), some (.int i), some (.int c), a5, a6, none, none] ∧ h' = numHeap h us ∧ us.length ≤ many ∧ Nums us) ⟨us, _, a5, rfl, rfl, hl, hn⟩ ?_ ?_
      · rintro j s h' hj ⟨us, c, a5, rfl, rfl, hl, hn⟩
        have hlim : us.length < lim := by unfold lim; omega
        simp -implicitDefEqProofs only [we_bin, we_un, we_call, we_nil, we_cons, we_tup, we_lst, we_ifx, we_tB, we_tAnd, we_tOr, we_tNot, we_and, we_or, we_not, we_c, we_ok, we_true, isBl_bl, ws_nx, ws_brk, ws_cnt, ws_retN, ws_seq, ws_exp, ws_ret, ws_if, ws_asg, ws_asgT, ws_asgS, ws_for, sAug_eq, we_meth, mVar_eq, List.getElem?_cons_zero, List.getElem?_cons_succ, List.set_cons_zero, List.set_cons_succ, ↓reduceIte, we_add, we_sub, we_mul, we_mod, we_fdiv, we_cmp, we_neg, we_abs, we_int, we_intB, we_max2, we_min2, we_rng1, we_rng2, we_rng1c, we_rng2c, we_lenRo, we_lenTup, we_eqI, we_neI, we_eqB, we_neB, we_fnC2, we_sl, we_partN, we_partS, isInt_int, Int.reduceLT, Int.reduceLE, lim_pos, lim_1, lim_2, lim_3, we_dict1, ws_gvar, wipeS, we_addI, ws_raise, key2, isTup_tup, List.length_cons, List.length_nil, Nat.reduceAdd, Nat.zero_add, Bool.and_true, Bool.true_and, true_and, and_true, Bool.or_true, Bool.true_or, ite_dec, Int.zero_add, Int.mul_one, numHeap_len, numHeap_isL, numHeap_app hlim]
        by_cases h1 : 0 < c
        · by_cases h2 : (us.length : Int) < many
          · rw [if_pos h1, if_pos h2]
            exact ⟨us ++ [c % 10007], _, _, rfl, rfl, by simp; omega, hn.push ⟨Int.emod_nonneg _ (by decide), by have := Int.emod_lt_of_pos c (show (0 : Int) < 10007 by decide); omega⟩⟩
          · rw [if_pos h1, if_neg h2]
            exact ⟨us, _, _, rfl, rfl, hl, hn⟩
        · rw [if_neg h1]
          exact ⟨us, _, _, rfl, rfl, hl, hn⟩
      · rintro s h' ⟨us, c, a5, rfl, rfl, hl, hn⟩
        exact ⟨us, _, _, _, _, rfl, rfl, hl, hn⟩
    · rw [if_neg hc]
      simp -implicitDefEqProofs only [we_bin, we_un, we_call, we_nil, we_cons, we_tup, we_lst, we_ifx, we_tB, we_tAnd, we_tOr, we_tNot, we_and, we_or, we_not, we_c, we_ok, we_true, isBl_bl, ws_nx, ws_brk, ws_cnt, ws_retN, ws_seq, ws_exp, ws_ret, ws_if, ws_asg, ws_asgT, ws_asgS, ws_for, sAug_eq, we_meth, mVar_eq, List.getElem?_cons_zero, List.getElem?_cons_succ, List.set_cons_zero, List.set_cons_succ, ↓reduceIte, we_add, we_sub, we_mul, we_mod, we_fdiv, we_cmp, we_neg, we_abs, we_int, we_intB, we_max2, we_min2, we_rng1, we_rng2, we_rng1c, we_rng2c, we_lenRo, we_lenTup, we_eqI, we_neI, we_eqB, we_neB, we_fnC2, we_sl, we_partN, we_partS, isInt_int, Int.reduceLT, Int.reduceLE, lim_pos, lim_1, lim_2, lim_3, we_dict1, ws_gvar, wipeS, we_addI, ws_raise, key2, isTup_tup, List.length_cons, List.length_nil, Nat.reduceAdd, Nat.zero_add, Bool.and_true, Bool.true_and, true_and, and_true, Bool.or_true, Bool.true_or, ite_dec, numHeap_len, numHeap_isL, numHeap_app hlim]
      by_cases h2 : (us.length : Int) < many
      · rw [if_pos h2]
        generalize (if ns[i] < 0 then -ns[i] else ns[i]) = c at hc ⊢
        simp -implicitDefEqProofs only [s48271, s69621, s16807, s7, Bool.or_true, Bool.true_or, ↓reduceIte]
        refine ⟨us ++ [_], _, _, _, _, rfl, rfl, by simp; omega, hn.push ?_⟩
        have h1 := Int.emod_nonneg ((c * 48271 + ↑i * 69621 + 11) % 2147483647 * 16807 + 7 * ↑i + 3) (show (2147483647 : Int) ≠ 0 by decide)
        have h2 := Int.emod_lt_of_pos ((c * 48271 + ↑i * 69621 + 11) % 2147483647 * 16807 + 7 * ↑i + 3) (show (0 : Int) < 2147483647 by decide)
        constructor <;> omega
      · rw [if_neg h2]
        exact ⟨us, _, _, _, _, rfl, rfl, hl, hn⟩
  · rintro s h' ⟨us, a3, a4, a5, a6, rfl, rfl, hl, hn⟩
    simp -implicitDefEqProofs only [we_bin, we_un, we_call, we_nil, we_cons, we_tup, we_lst, we_ifx, we_tB, we_tAnd, we_tOr, we_tNot, we_and, we_or, we_not, we_c, we_ok, we_true, isBl_bl, ws_nx, ws_brk, ws_cnt, ws_retN, ws_seq, ws_exp, ws_ret, ws_if, ws_asg, ws_asgT, ws_asgS, ws_for, sAug_eq, we_meth, mVar_eq, List.getElem?_cons_zero, List.getElem?_cons_succ, List.set_cons_zero, List.set_cons_succ, ↓reduceIte, we_add, we_sub, we_mul, we_mod, we_fdiv, we_cmp, we_neg, we_abs, we_int, we_intB, we_max2, we_min2, we_rng1, we_rng2, we_rng1c, we_rng2c, we_lenRo, we_lenTup, we_eqI, we_neI, we_eqB, we_neB, we_fnC2, we_sl, we_partN, we_partS, isInt_int, Int.reduceLT, Int.reduceLE, lim_pos, lim_1, lim_2, lim_3, we_dict1, ws_gvar, wipeS, we_addI, ws_raise, key2, isTup_tup, List.length_cons, List.length_nil, Nat.reduceAdd, Nat.zero_add, Bool.and_true, Bool.true_and, true_and, and_true, Bool.or_true, Bool.true_or, ite_dec, Int.zero_add, Int.mul_one, numHeap_len, numHeap_isL, List.length_map]
    have em : (if (many : Int) - us.length > 0 then (many : Int) - us.length else 0) = ((many - us.length : Nat) : Int) := by split <;> omega
    rw [em, if_pos (inR_nat (by omega)), Int.toNat_natCast]
    refine ws_range (fun k s h' => ∃ us' a3 last, s = [some (.ro (ns.map .int)), some (.int many), some (.loc h.length), a3, a4, a5, a6, some (.int us.length), some (.int last)] ∧ h' = numHeap h us' ∧ us'.length = us.length + k ∧ Nums us' ∧ 0 ≤ last) ⟨us, a3, _, rfl, rfl, rfl, hn, by omega⟩ ?_ ?_
    · rintro k s h' hk ⟨us', a3, last, rfl, rfl, hl', hn', h0⟩
      have hlim : us'.length < lim := by unfold lim; omega
      have last_ok : ∀ x : Int, 0 ≤ (x * 48271 + (k : Int)) % 2147483647 ∧ Num ((x * 48271 + (k : Int)) % 2147483647 / 7) := fun x => by
        have h1 := Int.emod_nonneg (x * 48271 + (k : Int)) (show (2147483647 : Int) ≠ 0 by decide)
        have h2 := Int.emod_lt_of_pos (x * 48271 + (k : Int)) (show (0 : Int) < 2147483647 by decide)
        refine ⟨h1, ?_⟩
        constructor <;> omega
      by_cases hb : (0 : Int) < us.length
      · have hz : k % us.length < us'.length := by have := Nat.mod_lt k (show 0 < us.length by omega); omega
        have e : atI (us'.map Val.int) ((k : Int) % (us.length : Int)) = some (.int us'[k % us.length]) := by
          rw [← Int.natCast_emod]; exact atI_nat (by rw [List.getElem?_map, List.getElem?_eq_getElem hz]; rfl)
        have zn := hn' _ (List.getElem_mem hz)
        simp -implicitDefEqProofs only [we_bin, we_un, we_call, we_nil, we_cons, we_tup, we_lst, we_ifx, we_tB, we_tAnd, we_tOr, we_tNot, we_and, we_or, we_not, we_c, we_ok, we_true, isBl_bl, ws_nx, ws_brk, ws_cnt, ws_retN, ws_seq, ws_exp, ws_ret, ws_if, ws_asg, ws_asgT, ws_asgS, ws_for, sAug_eq, we_meth, mVar_eq, List.getElem?_cons_zero, List.getElem?_cons_succ, List.set_cons_zero, List.set_cons_succ, ↓reduceIte, we_add, we_sub, we_mul, we_mod, we_fdiv, we_cmp, we_neg, we_abs, we_int, we_intB, we_max2, we_min2, we_rng1, we_rng2, we_rng1c, we_rng2c, we_lenRo, we_lenTup, we_eqI, we_neI, we_eqB, we_neB, we_fnC2, we_sl, we_partN, we_partS, isInt_int, Int.reduceLT, Int.reduceLE, lim_pos, lim_1, lim_2, lim_3, we_dict1, ws_gvar, wipeS, we_addI, ws_raise, key2, isTup_tup, List.length_cons, List.length_nil, Nat.reduceAdd, Nat.zero_add, Bool.and_true, Bool.true_and, true_and, and_true, Bool.or_true, Bool.true_or, ite_dec, Int.zero_add, Int.mul_one, hb, we_ixL (numHeap_get h us') e, numHeap_isL, numHeap_app hlim, s48271]
        obtain ⟨z1, z2⟩ := last_ok (last + us'[k % us.length])
        exact ⟨us' ++ [_], _, _, rfl, rfl, by simp; omega, hn'.push z2, z1⟩
      · simp -implicitDefEqProofs only [we_bin, we_un, we_call, we_nil, we_cons, we_tup, we_lst, we_ifx, we_tB, we_tAnd, we_tOr, we_tNot, we_and, we_or, we_not, we_c, we_ok, we_true, isBl_bl, ws_nx, ws_brk, ws_cnt, ws_retN, ws_seq, ws_exp, ws_ret, ws_if, ws_asg, ws_asgT, ws_asgS, ws_for, sAug_eq, we_meth, mVar_eq, List.getElem?_cons_zero, List.getElem?_cons_succ, List.set_cons_zero, List.set_cons_succ, ↓reduceIte, we_add, we_sub, we_mul, we_mod, we_fdiv, we_cmp, we_neg, we_abs, we_int, we_intB, we_max2, we_min2, we_rng1, we_rng2, we_rng1c, we_rng2c, we_lenRo, we_lenTup, we_eqI, we_neI, we_eqB, we_neB, we_fnC2, we_sl, we_partN, we_partS, isInt_int, Int.reduceLT, Int.reduceLE, lim_pos, lim_1, lim_2, lim_3, we_dict1, ws_gvar, wipeS, we_addI, ws_raise, key2, isTup_tup, List.length_cons, List.length_nil, Nat.reduceAdd, Nat.zero_add, Bool.and_true, Bool.true_and, true_and, and_true, Bool.or_true, Bool.true_or, ite_dec, Int.zero_add, Int.mul_one, hb, numHeap_isL, numHeap_app hlim, s48271]
        obtain ⟨z1, z2⟩ := last_ok last
        exact ⟨us' ++ [_], _, _, rfl, rfl, by simp; omega, hn'.push z2, z1⟩
    · rintro s h' ⟨us', a3, last, rfl, rfl, hl', hn', h0⟩
      simp -implicitDefEqProofs only [we_bin, we_un, we_call, we_nil, we_cons, we_tup, we_lst, we_ifx, we_tB, we_tAnd, we_tOr, we_tNot, we_and, we_or, we_not, we_c, we_ok, we_true, isBl_bl, ws_nx, ws_brk, ws_cnt, ws_retN, ws_seq, ws_exp, ws_ret, ws_if, ws_asg, ws_asgT, ws_asgS, ws_for, sAug_eq, we_meth, mVar_eq, List.getElem?_cons_zero, List.getElem?_cons_succ, List.set_cons_zero, List.set_cons_succ, ↓reduceIte, we_add, we_sub, we_mul, we_mod, we_fdiv, we_cmp, we_neg, we_abs, we_int, we_intB, we_max2, we_min2, we_rng1, we_rng2, we_rng1c, we_rng2c, we_lenRo, we_lenTup, we_eqI, we_neI, we_eqB, we_neB, we_fnC2, we_sl, we_partN, we_partS, isInt_int, Int.reduceLT, Int.reduceLE, lim_pos, lim_1, lim_2, lim_3, we_dict1, ws_gvar, wipeS, we_addI, ws_raise, key2, isTup_tup, List.length_cons, List.length_nil, Nat.reduceAdd, Nat.zero_add, Bool.and_true, Bool.true_and, true_and, and_true, Bool.or_true, Bool.true_or, ite_dec, we_slL (numHeap_get h us'), cutL_to]
      have e : us'.length = many := by omega
      refine ⟨us', e, hn', us'.map .int, ?_, ?_⟩
      · unfold numHeap; simp
      · unfold numHeap; rw [List.take_of_length_le (by simp; omega)]; simp
end Mn

/-! Pl3: machines; the machine that numbers give. -/
namespace Mn
open L2
structure Mach where
  L : Nat
  mv : List (List Int)
  ac : List Bool
def rowV (r : List Int) : Val := .tup (r.map .int)
def Mach.val (M : Mach) : Val := .tup [.int M.L, .tup (M.mv.map rowV), .tup (M.ac.map .bl)]
def Mach.n (M : Mach) : Nat := M.mv.length
/-- an entry of a table of moves of n states -/
def Ent (n : Nat) (t : Int) : Prop := -1 ≤ t ∧ t < n
def Row (L n : Nat) (r : List Int) : Prop := r.length = L ∧ ∀ t ∈ r, Ent n t
structure Mach.Ok (M : Mach) : Prop where
  len : M.ac.length = M.n
  row : ∀ r ∈ M.mv, Row M.L M.n r
theorem map_push' {α : Type} (f : α → Val) (xs : List α) (x : α) : xs.map f ++ [f x] = (xs ++ [x]).map f := by simp
@[irreducible] def b_machine : MS := (sSeq (sAsg (mLst aNil) (gVar 5)) (sSeq (sAsg (mLst aNil) (gVar 6)) (sSeq (sFor (mRange1 (aCons (mVar 3) aNil)) (gVar 7) (sSeq (sAsg (mLst aNil) (gVar 8)) (sSeq (sFor (mRange1 (aCons (mVar 2) aNil)) (gVar 9) (sSeq (sAsg (mBin opIx (mVar 0) (mBin opMod (mCall cInt (aCons (mBin opAdd (mBin opAdd (mVar 1) (mBin opMul (mVar 7) (mVar 2))) (mVar 9)) aNil)) (mCall cLen (aCons (mVar 0) aNil)))) (gVar 10)) (sSeq (sAsg (mBin opMod (mBin opFdiv (mVar 10) (mC (.int 7))) (mVar 3)) (gVar 11)) (sSeq (sIf (tB (mBin opLt (mBin opMod (mVar 10) (mC (.int 5))) (mVar 4))) (sAsg (mUn opNeg (mC (.int 1))) (gVar 11)) sNx) (sExp (mMeth isL lAppend (mVar 8) (aCons (mVar 11) aNil))))))) (sSeq (sExp (mMeth isL lAppend (mVar 5) (aCons (mCall cTuple (aCons (mVar 8) aNil)) aNil))) (sExp (mMeth isL lAppend (mVar 6) (aCons (mBin opEq (mBin opMod (mBin opFdiv (mBin opIx (mVar 0) (mBin opMod (mCall cInt (aCons (mBin opAdd (mBin opAdd (mVar 1) (mC (.int 131))) (mVar 7)) aNil)) (mCall cLen (aCons (mVar 0) aNil)))) (mC (.int 3))) (mC (.int 3))) (mC (.int 0))) aNil))))))) (sRet (mTup (aCons (mVar 2) (aCons (mCall cTuple (aCons (mVar 5) aNil)) (aCons (mCall cTuple (aCons (mVar 6) aNil)) aNil))))))))
theorem Ext.setNew {h h' : Hm} {o : HObj} (x : Ext h h') : Ext h (h' ++ [o]) := x.trans (Ext.push h' o)
theorem atI_map {α : Type} {f : α → Val} {xs : List α} {i : Nat} {a : α} (e : xs[i]? = some a) : atI (xs.map f) (i : Int) = some (f a) := atI_nat (by rw [List.getElem?_map, e]; rfl)
/-- one of the numbers, by a place that goes around -/
theorem num_at {us : List Int} (hu : 0 < us.length) (hn : Nums us) {k : Int} : ∃ z, Num z ∧ atI (us.map Val.int) (k % (us.length : Int)) = some (.int z) := by
  have h1 := Int.emod_nonneg k (show (us.length : Int) ≠ 0 by omega)
  have h2 := Int.emod_lt_of_pos k (show (0 : Int) < us.length by omega)
  have h3 : (k % (us.length : Int)).toNat < us.length := by omega
  refine ⟨us[(k % (us.length : Int)).toNat], hn _ (List.getElem_mem h3), atI_int h1 ?_⟩
  rw [List.getElem?_map, List.getElem?_eq_getElem h3]; rfl
theorem we_lenInts {l : Nat} {us : List Int} {h : Hm} {Q : Val → Hm → Prop} {X : Nat → Hm → Prop} (e : h[l]? = some (.lst (us.map .int))) : we (cLen [.loc l] h) Q X = Q (.int us.length) h := by
  rw [we_len e, List.length_map]
theorem machine_ok {l : Nat} {us : List Int} {at' L n : Nat} {gaps : Int} {h : Hm} {X : Nat → Hm → Prop} (e : h[l]? = some (.lst (us.map .int))) (hn : Nums us) (hu : 0 < us.length) (hL : L < 1000) (hs : n < 1000) :
    we (asFn 5 12 b_machine [.loc l, .int at', .int L, .int n, .int gaps] h) (fun v h' => ∃ M : Mach, M.Ok ∧ M.L = L ∧ M.n = n ∧ v = M.val ∧ Ext h h') X := by
  refine we_fn rfl ?_
  show ws (b_machine [some (.loc l), some (.int at'), some (.int L), some (.int n), some (.int gaps), none, none, none, none, none, none, none] h) _
  rw [b_machine.eq_def]
  simp -implicitDefEqProofs only [we_bin, we_un, we_call, we_nil, we_cons, we_tup, we_lst, we_ifx, we_tB, we_tAnd, we_tOr, we_tNot, we_and, we_or, we_not, we_c, we_ok, we_true, isBl_bl, ws_nx, ws_brk, ws_cnt, ws_retN, ws_seq, ws_exp, ws_ret, ws_if, ws_asg, ws_asgT, ws_asgS, ws_for, sAug_eq, we_meth, mVar_eq, List.getElem?_cons_zero, List.getElem?_cons_succ, List.set_cons_zero, List.set_cons_succ, ↓reduceIte, we_add, we_sub, we_mul, we_mod, we_fdiv, we_cmp, we_neg, we_abs, we_int, we_intB, we_max2, we_min2, we_rng1, we_rng2, we_rng1c, we_rng2c, we_lenRo, we_lenTup, we_eqI, we_neI, we_eqB, we_neB, we_fnC2, we_sl, we_partN, we_partS, isInt_int, Int.reduceLT, Int.reduceLE, lim_pos, lim_1, lim_2, lim_3, we_dict1, ws_gvar, wipeS, we_addI, ws_raise, key2, isTup_tup, List.length_cons, List.length_nil, Nat.reduceAdd, Nat.zero_add, Bool.and_true, Bool.true_and, true_and, and_true, Bool.or_true, Bool.true_or, ite_dec]
  rw [if_pos (inR_nat (by omega)), Int.toNat_natCast]
  -- the invariant of the states' loop
  refine ws_range (fun i s h' => ∃ mv ac a7 a8 a9 a10 a11, s = [some (.loc l), some (.int at'), some (.int L), some (.int n), some (.int gaps), some (.loc h.length), some (.loc (h ++ [HObj.lst []]).length), a7, a8, a9, a10, a11] ∧ Ext h h' ∧ h'[h.length]? = some (.lst (mv.map rowV)) ∧ h'[(h ++ [HObj.lst []]).length]? = some (.lst (ac.map .bl)) ∧ mv.length = i ∧ ac.length = i ∧ ∀ r ∈ mv, Row L n r) ⟨[], [], none, none, none, none, none, rfl, (Ext.push h _).setNew, get_push_old (get_push _ _), get_push _ _, rfl, rfl, fun r hr => by simp at hr⟩ ?_ ?_
  · rintro i s h' hi ⟨mv, ac, a7, a8, a9, a10, a11, rfl, x, eA, eB, lm, la, hr⟩
    simp -implicitDefEqProofs only [we_bin, we_un, we_call, we_nil, we_cons, we_tup, we_lst, we_ifx, we_tB, we_tAnd, we_tOr, we_tNot, we_and, we_or, we_not, we_c, we_ok, we_true, isBl_bl, ws_nx, ws_brk, ws_cnt, ws_retN, ws_seq, ws_exp, ws_ret, ws_if, ws_asg, ws_asgT, ws_asgS, ws_for, sAug_eq, we_meth, mVar_eq, List.getElem?_cons_zero, List.getElem?_cons_succ, List.set_cons_zero, List.set_cons_succ, ↓reduceIte, we_add, we_sub, we_mul, we_mod, we_fdiv, we_cmp, we_neg, we_abs, we_int, we_intB, we_max2, we_min2, we_rng1, we_rng2, we_rng1c, we_rng2c, we_lenRo, we_lenTup, we_eqI, we_neI, we_eqB, we_neB, we_fnC2, we_sl, we_partN, we_partS, isInt_int, Int.reduceLT, Int.reduceLE, lim_pos, lim_1, lim_2, lim_3, we_dict1, ws_gvar, wipeS, we_addI, ws_raise, key2, isTup_tup, List.length_cons, List.length_nil, Nat.reduceAdd, Nat.zero_add, Bool.and_true, Bool.true_and, true_and, and_true, Bool.or_true, Bool.true_or, ite_dec, Int.zero_add, Int.mul_one]
    rw [if_pos (inR_nat (by omega)), Int.toNat_natCast]
    have eR : (h' ++ [HObj.lst []])[h'.length]? = some (.lst []) := get_push _ _
    have nA : h'.length ≠ h.length := by have := get_lt eA; omega
    have nB : h'.length ≠ (h ++ [HObj.lst []]).length := by have := get_lt eB; omega
    refine ws_range (fun k s h2 => ∃ r a9 a10 a11, s = [some (.loc l), some (.int at'), some (.int L), some (.int n), some (.int gaps), some (.loc h.length), some (.loc (h ++ [HObj.lst []]).length), some (.int i), some (.loc h'.length), a9, a10, a11] ∧ Ext h h2 ∧ h2[h.length]? = some (.lst (mv.map rowV)) ∧ h2[(h ++ [HObj.lst []]).length]? = some (.lst (ac.map .bl)) ∧ h2[h'.length]? = some (.lst (r.map .int)) ∧ r.length = k ∧ ∀ t ∈ r, Ent n t)
      ⟨[], a9, a10, a11, rfl, x.setNew, get_push_old eA, get_push_old eB, eR, rfl, fun t ht => by simp at ht⟩ ?_ ?_
    · rintro k s h2 hk ⟨r, a9, a10, a11, rfl, x2, fA, fB, fR, lr, ht⟩
      have hlim : (r.map Val.int).length < lim := by rw [List.length_map]; unfold lim; omega
      obtain ⟨z, hz, ez⟩ := num_at (k := (at' : Int) + (i : Int) * (L : Int) + (k : Int)) hu hn
      have e2 := x2.get e
      have p1 : (0 : Int) < us.length := by omega
      have p2 : (0 : Int) < n := by omega
      simp -implicitDefEqProofs only [we_bin, we_un, we_call, we_nil, we_cons, we_tup, we_lst, we_ifx, we_tB, we_tAnd, we_tOr, we_tNot, we_and, we_or, we_not, we_c, we_ok, we_true, isBl_bl, ws_nx, ws_brk, ws_cnt, ws_retN, ws_seq, ws_exp, ws_ret, ws_if, ws_asg, ws_asgT, ws_asgS, ws_for, sAug_eq, we_meth, mVar_eq, List.getElem?_cons_zero, List.getElem?_cons_succ, List.set_cons_zero, List.set_cons_succ, ↓reduceIte, we_add, we_sub, we_mul, we_mod, we_fdiv, we_cmp, we_neg, we_abs, we_int, we_intB, we_max2, we_min2, we_rng1, we_rng2, we_rng1c, we_rng2c, we_lenRo, we_lenTup, we_eqI, we_neI, we_eqB, we_neB, we_fnC2, we_sl, we_partN, we_partS, isInt_int, Int.reduceLT, Int.reduceLE, lim_pos, lim_1, lim_2, lim_3, we_dict1, ws_gvar, wipeS, we_addI, ws_raise, key2, isTup_tup, List.length_cons, List.length_nil, Nat.reduceAdd, Nat.zero_add, Bool.and_true, Bool.true_and, true_and, and_true, Bool.or_true, Bool.true_or, ite_dec, Int.zero_add, Int.mul_one, sm_nat (show L < 18446744073709551616 by omega), we_lenInts e2, p1, p2, we_ixL e2 ez, we_append fR hlim, isL_loc fR]
      have ent1 : Ent n (z / 7 % (n : Int)) := ⟨by have := Int.emod_nonneg (z / 7) (show (n : Int) ≠ 0 by omega); omega, Int.emod_lt_of_pos _ p2⟩
      have ent2 : Ent n (-1) := ⟨by omega, by omega⟩
      have done : ∀ t, Ent n t → ∀ (a9 a10 a11 : Option Val), ∃ (r' : List Int) (a9' a10' a11' : Option Val), [some (.loc l), some (.int at'), some (.int L), some (.int n), some (.int gaps), some (.loc h.length), some (.loc (h ++ [HObj.lst []]).length), some (.int i), some (.loc h'.length), a9, a10, a11] = [some (.loc l), some (.int at'), some (.int L), some (.int n), some (.int gaps), some (.loc h.length), some (.loc (h ++ [HObj.lst []]).length), some (.int i), some (.loc h'.length), a9', a10', a11'] ∧ Ext h (h2.set h'.length (.lst (r.map .int ++ [.int t]))) ∧
          (h2.set h'.length (.lst (r.map .int ++ [.int t])))[h.length]? = some (.lst (mv.map rowV)) ∧ (h2.set h'.length (.lst (r.map .int ++ [.int t])))[(h ++ [HObj.lst []]).length]? = some (.lst (ac.map .bl)) ∧ (h2.set h'.length (.lst (r.map .int ++ [.int t])))[h'.length]? = some (.lst (r'.map .int)) ∧ r'.length = k + 1 ∧ ∀ t ∈ r', Ent n t := by
        intro t et a9 a10 a11
        refine ⟨r ++ [t], _, _, _, rfl, x2.set x.len, by rw [get_set_ne nA]; exact fA, by rw [get_set_ne nB]; exact fB, by rw [get_set_same fR, map_push], by simp [lr], fun y hy => ?_⟩
        rcases List.mem_append.mp hy with q | q
        · exact ht y q
        · have : y = t := by simpa using q
          subst this; exact et
      split
      · exact done _ ent2 _ _ _
      · exact done _ ent1 _ _ _
    · rintro s h2 ⟨r, a9, a10, a11, rfl, x2, fA, fB, fR, lr, ht⟩
      have hlim : (mv.map rowV).length < lim := by rw [List.length_map]; unfold lim; omega
      have hlimB : (ac.map Val.bl).length < lim := by rw [List.length_map]; unfold lim; omega
      have nAB : h.length ≠ (h ++ [HObj.lst []]).length := by simp
      have fB' : (h2.set h.length (.lst (mv.map rowV ++ [.tup (r.map .int)])))[(h ++ [HObj.lst []]).length]? = some (.lst (ac.map .bl)) := by rw [get_set_ne nAB]; exact fB
      have x3 : Ext h (h2.set h.length (.lst (mv.map rowV ++ [.tup (r.map .int)]))) := x2.set (Nat.le_refl _)
      obtain ⟨z, hz, ez⟩ := num_at (k := (at' : Int) + 131 + (i : Int)) hu hn
      have e3 := x3.get e
      have p1 : (0 : Int) < us.length := by omega
      simp -implicitDefEqProofs only [we_bin, we_un, we_call, we_nil, we_cons, we_tup, we_lst, we_ifx, we_tB, we_tAnd, we_tOr, we_tNot, we_and, we_or, we_not, we_c, we_ok, we_true, isBl_bl, ws_nx, ws_brk, ws_cnt, ws_retN, ws_seq, ws_exp, ws_ret, ws_if, ws_asg, ws_asgT, ws_asgS, ws_for, sAug_eq, we_meth, mVar_eq, List.getElem?_cons_zero, List.getElem?_cons_succ, List.set_cons_zero, List.set_cons_succ, ↓reduceIte, we_add, we_sub, we_mul, we_mod, we_fdiv, we_cmp, we_neg, we_abs, we_int, we_intB, we_max2, we_min2, we_rng1, we_rng2, we_rng1c, we_rng2c, we_lenRo, we_lenTup, we_eqI, we_neI, we_eqB, we_neB, we_fnC2, we_sl, we_partN, we_partS, isInt_int, Int.reduceLT, Int.reduceLE, lim_pos, lim_1, lim_2, lim_3, we_dict1, ws_gvar, wipeS, we_addI, ws_raise, key2, isTup_tup, List.length_cons, List.length_nil, Nat.reduceAdd, Nat.zero_add, Bool.and_true, Bool.true_and, true_and, and_true, Bool.or_true, Bool.true_or, ite_dec, isL_loc fA, we_tupL fR, we_append fA hlim, isL_loc fB', we_lenInts e3, p1, we_ixL e3 ez, we_append fB' hlimB]
      refine ⟨mv ++ [r], ac ++ [decide (z / 3 % 3 = 0)], _, _, _, _, _, rfl, x3.set (by simp), ?_, ?_, by simp [lm], by simp [la], fun y hy => ?_⟩
      · rw [get_set_ne (Ne.symm nAB), get_set_same fA]; exact congrArg _ (congrArg _ (map_push' rowV mv r))
      · rw [get_set_same fB']; exact congrArg _ (congrArg _ (map_push' Val.bl ac _))
      · rcases List.mem_append.mp hy with q | q
        · exact hr y q
        · have : y = r := by simpa using q
          subst this; exact ⟨lr, ht⟩
  · rintro s h' ⟨mv, ac, a7, a8, a9, a10, a11, rfl, x, eA, eB, lm, la, hr⟩
    simp -implicitDefEqProofs only [we_bin, we_un, we_call, we_nil, we_cons, we_tup, we_lst, we_ifx, we_tB, we_tAnd, we_tOr, we_tNot, we_and, we_or, we_not, we_c, we_ok, we_true, isBl_bl, ws_nx, ws_brk, ws_cnt, ws_retN, ws_seq, ws_exp, ws_ret, ws_if, ws_asg, ws_asgT, ws_asgS, ws_for, sAug_eq, we_meth, mVar_eq, List.getElem?_cons_zero, List.getElem?_cons_succ, List.set_cons_zero, List.set_cons_succ, ↓reduceIte, we_add, we_sub, we_mul, we_mod, we_fdiv, we_cmp, we_neg, we_abs, we_int, we_intB, we_max2, we_min2, we_rng1, we_rng2, we_rng1c, we_rng2c, we_lenRo, we_lenTup, we_eqI, we_neI, we_eqB, we_neB, we_fnC2, we_sl, we_partN, we_partS, isInt_int, Int.reduceLT, Int.reduceLE, lim_pos, lim_1, lim_2, lim_3, we_dict1, ws_gvar, wipeS, we_addI, ws_raise, key2, isTup_tup, List.length_cons, List.length_nil, Nat.reduceAdd, Nat.zero_add, Bool.and_true, Bool.true_and, true_and, and_true, Bool.or_true, Bool.true_or, ite_dec, we_tupL eA, we_tupL eB]
    exact ⟨⟨L, mv, ac⟩, ⟨by show ac.length = mv.length; omega, fun r q => by have := hr r q; rw [← lm] at this; exact this⟩, rfl, lm, rfl, x⟩
end Mn

/-! Pl4: pairs of states; breadth first over pairs, in plain Lean. -/
namespace Mn
open L2
abbrev Pr := Int × Int
def pairV (p : Pr) : Val := .tup [.int p.1, .int p.2]
section
variable {M : Mach} {h : Hm} {Q : Val → Hm → Prop} {X : Nat → Hm → Prop} {p q : Pr}
theorem we_ixM0 : we (opIx M.val (.int 0) h) Q X = Q (.int M.L) h := we_ixTup rfl
theorem we_ixM1 : we (opIx M.val (.int 1) h) Q X = Q (.tup (M.mv.map rowV)) h := we_ixTup rfl
theorem we_ixM2 : we (opIx M.val (.int 2) h) Q X = Q (.tup (M.ac.map .bl)) h := we_ixTup rfl
theorem we_ixP0 : we (opIx (pairV p) (.int 0) h) Q X = Q (.int p.1) h := we_ixTup rfl
theorem we_ixP1 : we (opIx (pairV p) (.int 1) h) Q X = Q (.int p.2) h := we_ixTup rfl
theorem we_lenM {α : Type} {f : α → Val} {xs : List α} : we (cLen [.tup (xs.map f)] h) Q X = Q (.int xs.length) h := by rw [we_lenTup, List.length_map]
theorem eqv_pair {n : Nat} : eqvN (n + 2) h (pairV p) (pairV q) = decide (p = q) := by
  show (p.1 == q.1 && (p.2 == q.2 && true)) = _
  obtain ⟨a, b⟩ := p
  obtain ⟨c, d⟩ := q
  by_cases h1 : a = c <;> by_cases h2 : b = d <;> simp [h1, h2]
theorem keq_pair {n : Nat} : keqN (n + 2) (pairV p) (pairV q) = decide (p = q) := by
  show (p.1 == q.1 && (p.2 == q.2 && true)) = _
  obtain ⟨a, b⟩ := p
  obtain ⟨c, d⟩ := q
  by_cases h1 : a = c <;> by_cases h2 : b = d <;> simp [h1, h2]
theorem key_pair : (pairV p).isKeyN 8 = true := rfl
theorem dat_pair : datN 39 h (pairV p) = true := rfl
theorem any_pair {ps : List Pr} : ((ps.map pairV).any fun z => eqvN 39 h z (pairV p)) = decide (p ∈ ps) := by
  induction ps with
  | nil => simp
  | cons a r ih =>
    rw [List.map_cons, List.any_cons, ih, eqv_pair (n := 37)]
    by_cases e : a = p
    · subst e; simp
    · have e' : p ≠ a := fun z => e z.symm
      simp [e, e']
theorem all_pair {ps : List Pr} : (ps.map pairV).all (datN 39 h) = true := by
  rw [List.all_eq_true]
  intro x hx
  obtain ⟨p, _, rfl⟩ := List.mem_map.mp hx
  rfl
theorem we_notinL {l : Nat} {ps : List Pr} (e : h[l]? = some (.lst (ps.map pairV))) : we (opNotInA (pairV p) (.loc l) h) Q X = Q (.bl (!decide (p ∈ ps))) h := by
  have : opHas (pairV p) (.loc l) h = some (decide (p ∈ ps)) := by
    unfold opHas; dsimp only; rw [e]; dsimp only
    rw [all_pair, dat_pair, any_pair]; rfl
  unfold opNotInA
  rw [this]; exact we_ok
/-! a dict of pairs -/
def kvsOf (ps : List Pr) (ls : List Nat) : List (Val × Val) := (ps.zip ls).map fun z => (pairV z.1, Val.loc z.2)
theorem kvs_none {ps : List Pr} {ls : List Nat} (hn : p ∉ ps) : dnGet (kvsOf ps ls) (pairV p) = none := by
  induction ps generalizing ls with
  | nil => rfl
  | cons a r ih =>
    cases ls with
    | nil => rfl
    | cons l ls =>
      show (if keqN 8 (pairV a) (pairV p) = true then _ else dnGet (kvsOf r ls) (pairV p)) = none
      have : a ≠ p := fun z => hn (by rw [z]; exact List.mem_cons_self)
      rw [keq_pair (n := 6), if_neg (by simpa using this)]
      exact ih fun z => hn (List.mem_cons_of_mem _ z)
theorem kvs_get {ps : List Pr} {ls : List Nat} (nd : ps.Nodup) {i : Nat} {l : Nat} (hp : ps[i]? = some p) (hl : ls[i]? = some l) : dnGet (kvsOf ps ls) (pairV p) = some (.loc l) := by
  induction ps generalizing ls i with
  | nil => simp at hp
  | cons a r ih =>
    cases ls with
    | nil => simp at hl
    | cons k ls =>
      show (if keqN 8 (pairV a) (pairV p) = true then some (.loc k) else dnGet (kvsOf r ls) (pairV p)) = _
      cases i with
      | zero =>
        simp at hp hl
        subst hp; subst hl
        rw [keq_pair (n := 6), if_pos (by simp)]
      | succ i =>
        simp at hp hl
        have : a ≠ p := fun z => (List.nodup_cons.mp nd).1 (by rw [z]; exact List.mem_of_getElem? hp)
        rw [keq_pair (n := 6), if_neg (by simpa using this)]
        exact ih (List.nodup_cons.mp nd).2 hp hl
theorem kvs_some {ps : List Pr} {ls : List Nat} (hl : ls.length = ps.length) : (dnGet (kvsOf ps ls) (pairV p)).isSome = decide (p ∈ ps) := by
  induction ps generalizing ls with
  | nil => simp [kvsOf, dnGet]
  | cons a r ih =>
    cases ls with
    | nil => simp at hl
    | cons k ls =>
      show (if keqN 8 (pairV a) (pairV p) = true then some (.loc k) else dnGet (kvsOf r ls) (pairV p)).isSome = _
      rw [keq_pair (n := 6)]
      by_cases e : a = p
      · subst e; simp
      · have e' : p ≠ a := fun z => e z.symm
        rw [if_neg (by simpa using e), ih (by simpa using hl)]
        simp [e']
theorem kvs_set {ps : List Pr} {ls : List Nat} (hl : ls.length = ps.length) (hn : p ∉ ps) {l : Nat} : dnSet (kvsOf ps ls) (pairV p) (.loc l) = kvsOf (ps ++ [p]) (ls ++ [l]) := by
  induction ps generalizing ls with
  | nil =>
    cases ls with
    | nil => rfl
    | cons _ _ => simp at hl
  | cons a r ih =>
    cases ls with
    | nil => simp at hl
    | cons k ls =>
      have e : a ≠ p := fun z => hn (by rw [z]; exact List.mem_cons_self)
      show (if keqN 8 (pairV a) (pairV p) = true then _ else (pairV a, Val.loc k) :: dnSet (kvsOf r ls) (pairV p) (.loc l)) = _
      rw [keq_pair (n := 6), if_neg (by simpa using e), ih (by simpa using hl) fun z => hn (List.mem_cons_of_mem _ z)]
      rfl
theorem kvs_len {ps : List Pr} {ls : List Nat} (hl : ls.length = ps.length) : (kvsOf ps ls).length = ps.length := by
  unfold kvsOf; simp [hl]
theorem we_notinD {l : Nat} {ps : List Pr} {ls : List Nat} (e : h[l]? = some (.dN (kvsOf ps ls))) (hl : ls.length = ps.length) : we (opNotInA (pairV p) (.loc l) h) Q X = Q (.bl (!decide (p ∈ ps))) h := by
  have : opHas (pairV p) (.loc l) h = some (decide (p ∈ ps)) := by
    unfold opHas; dsimp only; rw [e]; dsimp only
    show (if (pairV p).isKeyN 8 = true then some (dnGet (kvsOf ps ls) (pairV p)).isSome else none) = _
    rw [key_pair, kvs_some hl]; rfl
  unfold opNotInA
  rw [this]; exact we_ok
theorem we_ixD {l : Nat} {ps : List Pr} {ls : List Nat} {i k : Nat} (e : h[l]? = some (.dN (kvsOf ps ls))) (nd : ps.Nodup) (hp : ps[i]? = some p) (hl : ls[i]? = some k) : we (opIx (.loc l) (pairV p) h) Q X = Q (.loc k) h := by
  unfold opIx; dsimp only; rw [e]; dsimp only
  show we (if (pairV p).isKeyN 8 = true then (match dnGet (kvsOf ps ls) (pairV p) with | some x => .ok x h | none => .bad) else .bad) Q X = _
  rw [key_pair, if_pos rfl, kvs_get nd hp hl]; exact we_ok
theorem set_D {l : Nat} {ps : List Pr} {ls : List Nat} {k : Nat} (e : h[l]? = some (.dN (kvsOf ps ls))) (hl : ls.length = ps.length) (hn : p ∉ ps) (hz : ps.length < lim) : opSet (.loc l) (pairV p) (.loc k) h = some (h.set l (.dN (kvsOf (ps ++ [p]) (ls ++ [k])))) := by
  unfold opSet; dsimp only; rw [e]; dsimp only
  show (if ((pairV p).isKeyN 8 && decide ((kvsOf ps ls).length < lim)) = true then some (h.set l (.dN (dnSet (kvsOf ps ls) (pairV p) (.loc k)))) else none) = _
  rw [key_pair, kvs_len hl, if_pos (by simpa using hz), kvs_set hl hn]
end

/-! ### breadth first -/
def Mach.nx (M : Mach) (q : Int) (a : Nat) : Int := if q < 0 then -1 else (M.mv.getD q.toNat []).getD a (-1)
def Mach.ends (M : Mach) (q : Int) : Bool := if q < 0 then false else M.ac.getD q.toNat false
def Mach.fst (M : Mach) : Int := if 0 < M.n then 0 else -1
theorem Mach.nx_ent {M : Mach} (ok : M.Ok) {q : Int} {a : Nat} (hq : Ent M.n q) (ha : a < M.L) : Ent M.n (M.nx q a) := by
  unfold Mach.nx
  split
  · exact ⟨by omega, by omega⟩
  · have h1 : q.toNat < M.mv.length := by have := hq.2; unfold Mach.n at this; omega
    obtain ⟨l, r⟩ := ok.row _ (List.getElem_mem h1)
    have e : M.mv.getD q.toNat [] = M.mv[q.toNat] := by rw [List.getD_eq_getElem?_getD, List.getElem?_eq_getElem h1]; rfl
    rw [e, List.getD_eq_getElem?_getD, List.getElem?_eq_getElem (by omega), Option.getD_some]
    exact r _ (List.getElem_mem _)
theorem Mach.fst_ent (M : Mach) : Ent M.n M.fst := by
  unfold Mach.fst
  split
  · exact ⟨by omega, by omega⟩
  · exact ⟨by omega, by omega⟩
structure Bst where
  ps : List Pr
  ws : List (List Nat)
/-- one letter -/
def stepL (M N : Mach) (p : Pr) (w : List Nat) (b : Bst) (a : Nat) : Bst :=
  if (M.nx p.1 a, N.nx p.2 a) ∈ b.ps then b else ⟨b.ps ++ [(M.nx p.1 a, N.nx p.2 a)], b.ws ++ [w ++ [a]]⟩
def grow (M N : Mach) (p : Pr) (w : List Nat) (b : Bst) : Nat → Bst
  | 0 => b
  | k + 1 => stepL M N p w (grow M N p w b k) k
def bfs (M N : Mach) : Nat → Nat → Bst → Option (List Nat × Bool)
  | 0, _, _ => none
  | f + 1, i, b => match b.ps[i]? with
    | none => none
    | some p => if M.ends p.1 = N.ends p.2 then bfs M N f (i + 1) (grow M N p (b.ws.getD i []) b M.L) else some (b.ws.getD i [], M.ends p.1)
def bst0 (M N : Mach) : Bst := ⟨[(M.fst, N.fst)], [[]]⟩
def box (M N : Mach) : Nat := (M.n + 1) * (N.n + 1)
def diff (M N : Mach) : Option (List Nat × Bool) := bfs M N (box M N) 0 (bst0 M N)
structure BOk (M N : Mach) (b : Bst) : Prop where
  len : b.ws.length = b.ps.length
  nd : b.ps.Nodup
  inb : ∀ p ∈ b.ps, Ent M.n p.1 ∧ Ent N.n p.2
  wl : ∀ w ∈ b.ws, w.length < b.ps.length
theorem bok0 (M N : Mach) : BOk M N (bst0 M N) := ⟨rfl, by simp [bst0], fun p hp => by
  have : p = (M.fst, N.fst) := by simpa [bst0] using hp
  subst this
  exact ⟨M.fst_ent, N.fst_ent⟩, fun w hw => by
  have : w = [] := by simpa [bst0] using hw
  subst this
  simp [bst0]⟩
theorem BOk.step {M N : Mach} {b : Bst} (k : BOk M N b) (oM : M.Ok) (oN : N.Ok) {p : Pr} (hp : p ∈ b.ps) {a : Nat} (ha : a < M.L) (hb : a < N.L) (w : List Nat) (c : Bst) (kc : BOk M N c) (hw : w.length < c.ps.length) : BOk M N (stepL M N p w c a) := by
  unfold stepL
  split
  · exact kc
  · rename_i hn
    refine ⟨by simp [kc.len], ?_, fun q hq => ?_, fun v hv => ?_⟩
    · rw [List.nodup_append]
      exact ⟨kc.nd, by simp, fun x hx y hy z => by
        have : y = (M.nx p.1 a, N.nx p.2 a) := by simpa using hy
        subst this; subst z; exact hn hx⟩
    · rcases List.mem_append.mp hq with z | z
      · exact kc.inb q z
      · have : q = (M.nx p.1 a, N.nx p.2 a) := by simpa using z
        subst this
        obtain ⟨h1, h2⟩ := k.inb p hp
        exact ⟨Mach.nx_ent oM h1 ha, Mach.nx_ent oN h2 hb⟩
    · simp only [List.length_append, List.length_cons, List.length_nil]
      rcases List.mem_append.mp hv with z | z
      · have := kc.wl v z; omega
      · have : v = w ++ [a] := by simpa using z
        subst this
        simp only [List.length_append, List.length_cons, List.length_nil]; omega
theorem grow_len {M N : Mach} {p : Pr} {w : List Nat} {b : Bst} : ∀ {j : Nat}, b.ps.length ≤ (grow M N p w b j).ps.length
  | 0 => Nat.le_refl _
  | j + 1 => by
    have ih := grow_len (M := M) (N := N) (p := p) (w := w) (b := b) (j := j)
    show _ ≤ (stepL M N p w (grow M N p w b j) j).ps.length
    unfold stepL
    split
    · exact ih
    · simp only [List.length_append, List.length_cons, List.length_nil]; omega
theorem BOk.grow {M N : Mach} {b : Bst} (k : BOk M N b) (oM : M.Ok) (oN : N.Ok) {p : Pr} (hp : p ∈ b.ps) (w : List Nat) (hw : w.length < b.ps.length) : ∀ j : Nat, j ≤ M.L → j ≤ N.L → BOk M N (grow M N p w b j)
  | 0, _, _ => k
  | j + 1, h1, h2 => k.step oM oN hp (by omega) (by omega) w _ (k.grow oM oN hp w hw j (by omega) (by omega)) (Nat.lt_of_lt_of_le hw grow_len)
theorem grow_pre {M N : Mach} {p : Pr} {w : List Nat} {b : Bst} : ∀ {j i : Nat} {q : Pr}, b.ps[i]? = some q → (grow M N p w b j).ps[i]? = some q
  | 0, _, _, h => h
  | j + 1, i, q, h => by
    have ih := grow_pre (M := M) (N := N) (p := p) (w := w) (j := j) h
    show (stepL M N p w (grow M N p w b j) j).ps[i]? = _
    unfold stepL
    split
    · exact ih
    · rw [List.getElem?_append_left (List.getElem?_eq_some_iff.mp ih).1]; exact ih
theorem grow_wpre {M N : Mach} {p : Pr} {w : List Nat} {b : Bst} : ∀ {j i : Nat} {q : List Nat}, b.ws[i]? = some q → (grow M N p w b j).ws[i]? = some q
  | 0, _, _, h => h
  | j + 1, i, q, h => by
    have ih := grow_wpre (M := M) (N := N) (p := p) (w := w) (j := j) h
    show (stepL M N p w (grow M N p w b j) j).ws[i]? = _
    unfold stepL
    split
    · exact ih
    · rw [List.getElem?_append_left (List.getElem?_eq_some_iff.mp ih).1]; exact ih
/-- pigeons -/
theorem nodup_le : ∀ (B : Nat) (l : List Nat), l.Nodup → (∀ x ∈ l, x < B) → l.length ≤ B
  | 0, l, _, h => by
    cases l with
    | nil => simp
    | cons a r => exact absurd (h a List.mem_cons_self) (by omega)
  | B + 1, l, nd, h => by
    have h1 := nodup_le B (l.filter fun x => decide (x ≠ B)) (nd.sublist List.filter_sublist) fun x hx => by
      obtain ⟨h2, h3⟩ := List.mem_filter.mp hx
      have := h x h2
      have h3 : x ≠ B := by simpa using h3
      omega
    have h2 : l.length ≤ (l.filter fun x => decide (x ≠ B)).length + 1 := by
      clear h h1
      induction l with
      | nil => simp
      | cons a r ih =>
        obtain ⟨n1, n2⟩ := List.nodup_cons.mp nd
        by_cases e : a = B
        · subst e
          have : r.filter (fun x => decide (x ≠ a)) = r := List.filter_eq_self.mpr fun x hx => by
            have : x ≠ a := fun z => n1 (by rw [← z]; exact hx)
            simpa using this
          rw [List.filter_cons_of_neg (by simp), this]; simp
        · rw [List.filter_cons_of_pos (by simpa using e)]
          have := ih n2
          simp only [List.length_cons]; omega
    omega
theorem BOk.small {M N : Mach} {b : Bst} (k : BOk M N b) : b.ps.length ≤ box M N := by
  have h := nodup_le (box M N) (b.ps.map fun p => (p.1 + 1).toNat * (N.n + 1) + (p.2 + 1).toNat) ?_ ?_
  · simpa using h
  · unfold List.Nodup
    rw [List.pairwise_map]
    refine (List.pairwise_iff_forall_sublist.mpr fun {x y} s => ?_)
    have hx : x ∈ b.ps := s.subset (by simp)
    have hy : y ∈ b.ps := s.subset (by simp)
    have hxy : x ≠ y := by
      have := k.nd.sublist s
      simpa using this
    obtain ⟨⟨a1, a2⟩, ⟨a3, a4⟩⟩ := k.inb x hx
    obtain ⟨⟨b1, b2⟩, ⟨b3, b4⟩⟩ := k.inb y hy
    intro e
    have e : (x.1 + 1).toNat * (N.n + 1) + (x.2 + 1).toNat = (y.1 + 1).toNat * (N.n + 1) + (y.2 + 1).toNat := e
    apply hxy
    have e1 : (x.2 + 1).toNat < N.n + 1 := by omega
    have e2 : (y.2 + 1).toNat < N.n + 1 := by omega
    have e3 : (x.1 + 1).toNat = (y.1 + 1).toNat := by
      have h1 : ((x.1 + 1).toNat * (N.n + 1) + (x.2 + 1).toNat) / (N.n + 1) = ((y.1 + 1).toNat * (N.n + 1) + (y.2 + 1).toNat) / (N.n + 1) := congrArg (· / (N.n + 1)) e
      rw [Nat.mul_comm, Nat.mul_add_div (by omega), Nat.div_eq_of_lt e1, Nat.mul_comm, Nat.mul_add_div (by omega), Nat.div_eq_of_lt e2] at h1
      omega
    have e4 : (x.2 + 1).toNat = (y.2 + 1).toNat := by rw [e3] at e; omega
    obtain ⟨x1, x2⟩ := x
    obtain ⟨y1, y2⟩ := y
    simp only [Prod.mk.injEq]
    simp only at a1 a3 b1 b3 e3 e4
    omega
  · intro x hx
    obtain ⟨p, hp, rfl⟩ := List.mem_map.mp hx
    obtain ⟨⟨a1, a2⟩, ⟨a3, a4⟩⟩ := k.inb p hp
    have e1 : (p.1 + 1).toNat ≤ M.n := by omega
    have e2 : (p.2 + 1).toNat ≤ N.n := by omega
    unfold box
    have := Nat.mul_le_mul_right (N.n + 1) e1
    rw [Nat.succ_mul]; omega
end Mn

set_option maxHeartbeats 4000000
namespace K28
open PySem PySem.Spec PyProof.Rows L2 Mn
def top (i : Nat) : Stmt := PySem.Challenge.pw_doppelganger_k28_first_differences.main.body.getD i (.Pass ⟨0, 0, 0, 0⟩)
abbrev fuel : Nat := 1000000000
def sub : Nat → Nat → Bool
  | 0, 0 => true
  | 1, 0 => true
  | 1, 1 => true
  | 2, 0 => true
  | 2, 2 => true
  | c, d => c == d
theorem sub_rf : ∀ c, sub c c = true
  | 0 => rfl
  | 1 => rfl
  | 2 => rfl
  | c + 3 => by unfold sub; simp
def nms : List Str := ["DoppelError", "NotAllowed", "Same"]
/-! ### the small programs -/
@[irreducible] def b__law_line : MS := (sSeq (sAsg (mBin opAdd (mCall cTuple (aCons (mLc (mRange1 (aCons (mBin opSub (mVar 0) (mC (.int 1))) aNil)) [3] (gVar 3) tTrue (mTup (aCons (mBin opAdd (mVar 3) (mC (.int 1))) aNil))) aNil)) (mTup (aCons (mTup (aCons (mUn opNeg (mC (.int 1))) aNil)) aNil))) (gVar 2)) (sRet (mTup (aCons (mC (.int 1)) (aCons (mVar 2) (aCons (mCall cTuple (aCons (mLc (mRange1 (aCons (mVar 0) aNil)) [3] (gVar 3) tTrue (mAnd (mVar 1) (mBin opEq (mVar 3) (mBin opSub (mVar 0) (mC (.int 1)))))) aNil)) aNil))))))
@[irreducible] def m__law_line : MF := asFn 2 4 b__law_line
@[irreducible] def b__law_machine : MS := (sSeq (sAsg (mLst aNil) (gVar 5)) (sSeq (sAsg (mLst aNil) (gVar 6)) (sSeq (sFor (mRange1 (aCons (mVar 3) aNil)) (gVar 7) (sSeq (sAsg (mLst aNil) (gVar 8)) (sSeq (sFor (mRange1 (aCons (mVar 2) aNil)) (gVar 9) (sSeq (sAsg (mBin opIx (mVar 0) (mBin opMod (mCall cInt (aCons (mBin opAdd (mBin opAdd (mVar 1) (mBin opMul (mVar 7) (mVar 2))) (mVar 9)) aNil)) (mCall cLen (aCons (mVar 0) aNil)))) (gVar 10)) (sSeq (sAsg (mBin opMod (mBin opFdiv (mVar 10) (mC (.int 7))) (mVar 3)) (gVar 11)) (sSeq (sIf (tB (mBin opLt (mBin opMod (mVar 10) (mC (.int 5))) (mVar 4))) (sAsg (mUn opNeg (mC (.int 1))) (gVar 11)) sNx) (sExp (mMeth isL lAppend (mVar 8) (aCons (mVar 11) aNil))))))) (sSeq (sExp (mMeth isL lAppend (mVar 5) (aCons (mCall cTuple (aCons (mVar 8) aNil)) aNil))) (sExp (mMeth isL lAppend (mVar 6) (aCons (mBin opEq (mBin opMod (mBin opFdiv (mBin opIx (mVar 0) (mBin opMod (mCall cInt (aCons (mBin opAdd (mBin opAdd (mVar 1) (mC (.int 131))) (mVar 7)) aNil)) (mCall cLen (aCons (mVar 0) aNil)))) (mC (.int 3))) (mC (.int 3))) (mC (.int 0))) aNil))))))) (sRet (mTup (aCons (mVar 2) (aCons (mCall cTuple (aCons (mVar 5) aNil)) (aCons (mCall cTuple (aCons (mVar 6) aNil)) aNil))))))))
@[irreducible] def m__law_machine : MF := asFn 5 12 b__law_machine
@[irreducible] def b__law_numbers : MS := (sSeq (sAsg (mLst aNil) (gVar 2)) (sSeq (sFor (mRange1 (aCons (mCall cLen (aCons (mVar 0) aNil)) aNil)) (gVar 3) (sSeq (sAsg (mCall cAbs (aCons (mCall cInt (aCons (mBin opIx (mVar 0) (mVar 3)) aNil)) aNil)) (gVar 4)) (sIf (tB (mBin opGe (mVar 4) (mBin opPow (mC (.int 10)) (mC (.int 18))))) (sFor (mRange1 (aCons (mC (.int 60)) aNil)) (gVar 5) (sIf (tAnd (tB (mBin opGt (mVar 4) (mC (.int 0)))) (tB (mBin opLt (mCall cLen (aCons (mVar 2) aNil)) (mVar 1)))) (sSeq (sExp (mMeth isL lAppend (mVar 2) (aCons (mBin opMod (mVar 4) (mC (.int 10007))) aNil))) (sAsg (mBin opFdiv (mVar 4) (mC (.int 10007))) (gVar 4))) sNx)) (sIf (tB (mBin opLt (mCall cLen (aCons (mVar 2) aNil)) (mVar 1))) (sSeq (sAsg (mBin opMod (mCall cInt (aCons (mBin opAdd (mBin opAdd (mBin opMul (mVar 4) (mC (.int 48271))) (mBin opMul (mVar 3) (mC (.int 69621)))) (mC (.int 11))) aNil)) (mC (.int 2147483647))) (gVar 6)) (sExp (mMeth isL lAppend (mVar 2) (aCons (mBin opFdiv (mBin opMod (mCall cInt (aCons (mBin opAdd (mBin opAdd (mBin opMul (mVar 6) (mC (.int 16807))) (mBin opMul (mC (.int 7)) (mVar 3))) (mC (.int 3))) aNil)) (mC (.int 2147483647))) (mC (.int 3))) aNil)))) sNx)))) (sSeq (sAsg (mCall cLen (aCons (mVar 2) aNil)) (gVar 7)) (sSeq (sAsg (mBin opAdd (mC (.int 5381)) (mCall cLen (aCons (mVar 0) aNil))) (gVar 8)) (sSeq (sFor (mRange1 (aCons (mCall cMax2 (aCons (mC (.int 0)) (aCons (mBin opSub (mVar 1) (mVar 7)) aNil))) aNil)) (gVar 3) (sSeq (sIf (tB (mBin opGt (mVar 7) (mC (.int 0)))) (sAsg (mBin opAdd (mVar 8) (mBin opIx (mVar 2) (mBin opMod (mVar 3) (mVar 7)))) (gVar 8)) sNx) (sSeq (sAsg (mBin opMod (mCall cInt (aCons (mBin opAdd (mBin opMul (mVar 8) (mC (.int 48271))) (mVar 3)) aNil)) (mC (.int 2147483647))) (gVar 8)) (sExp (mMeth isL lAppend (mVar 2) (aCons (mBin opFdiv (mVar 8) (mC (.int 7))) aNil)))))) (sRet (mSl (mVar 2) none (some (mVar 1)))))))))
@[irreducible] def m__law_numbers : MF := asFn 2 9 b__law_numbers
@[irreducible] def b_check_letters : MS := (sIf (tB (mBin opNe (mBin opIx (mVar 0) (mC (.int 0))) (mBin opIx (mVar 1) (mC (.int 0))))) (sRaise 1) sNx)
@[irreducible] def m_check_letters : MF := asFn 2 2 b_check_letters
@[irreducible] def b_first_state : MS := (sRet (mIf (tB (mBin opGt (mCall cLen (aCons (mBin opIx (mVar 0) (mC (.int 1))) aNil)) (mC (.int 0)))) (mC (.int 0)) (mUn opNeg (mC (.int 1)))))
@[irreducible] def m_first_state : MF := asFn 1 1 b_first_state
@[irreducible] def b_is_accepting : MS := (sRet (mAnd (mBin opGe (mVar 1) (mC (.int 0))) (mBin opIx (mBin opIx (mVar 0) (mC (.int 2))) (mVar 1))))
@[irreducible] def m_is_accepting : MF := asFn 2 2 b_is_accepting
@[irreducible] def b_next_state : MS := (sRet (mIf (tB (mBin opLt (mVar 1) (mC (.int 0)))) (mUn opNeg (mC (.int 1))) (mBin opIx (mBin opIx (mBin opIx (mVar 0) (mC (.int 1))) (mVar 1)) (mVar 2))))
@[irreducible] def m_next_state : MF := asFn 3 3 b_next_state
@[irreducible] def b_difference : MS := (sSeq (sExp (mCall (fnC 2 m_check_letters) (aCons (mVar 0) (aCons (mVar 1) aNil)))) (sSeq (sAsg (mTup (aCons (mCall (fnC 1 m_first_state) (aCons (mVar 0) aNil)) (aCons (mCall (fnC 1 m_first_state) (aCons (mVar 1) aNil)) aNil))) (gVar 2)) (sSeq (sAsg (mDict1 (mVar 2) (mLst aNil)) (gVar 3)) (sSeq (sAsg (mLst (aCons (mVar 2) aNil)) (gVar 4)) (sSeq (sAsg (mC (.int 0)) (gVar 5)) (sSeq (whileN (tB (mBin opLt (mVar 5) (mCall cLen (aCons (mVar 4) aNil)))) (sSeq (sAsg (mBin opIx (mVar 4) (mVar 5)) (gVar 6)) (sSeq (sIf (tB (mBin opNe (mCall (fnC 2 m_is_accepting) (aCons (mVar 0) (aCons (mBin opIx (mVar 6) (mC (.int 0))) aNil))) (mCall (fnC 2 m_is_accepting) (aCons (mVar 1) (aCons (mBin opIx (mVar 6) (mC (.int 1))) aNil))))) (sRet (mTup (aCons (mBin opIx (mVar 3) (mVar 6)) (aCons (mCall (fnC 2 m_is_accepting) (aCons (mVar 0) (aCons (mBin opIx (mVar 6) (mC (.int 0))) aNil))) aNil)))) sNx) (sSeq (sFor (mRange1 (aCons (mBin opIx (mVar 0) (mC (.int 0))) aNil)) (gVar 7) (sSeq (sAsg (mTup (aCons (mCall (fnC 3 m_next_state) (aCons (mVar 0) (aCons (mBin opIx (mVar 6) (mC (.int 0))) (aCons (mVar 7) aNil)))) (aCons (mCall (fnC 3 m_next_state) (aCons (mVar 1) (aCons (mBin opIx (mVar 6) (mC (.int 1))) (aCons (mVar 7) aNil)))) aNil))) (gVar 8)) (sIf (tB (mBin opNotInA (mVar 8) (mVar 3))) (sSeq (sAsg (mBin opAdd (mBin opIx (mVar 3) (mVar 6)) (mLst (aCons (mVar 7) aNil))) (gSubM (mVar 3) (mVar 8) opSet)) (sExp (mMeth isL lAppend (mVar 4) (aCons (mVar 8) aNil)))) sNx))) (sAug 5 opAddI (mC (.int 1)))))) fuel) (sRaise 2)))))))
@[irreducible] def m_difference : MF := asFn 2 9 b_difference
@[irreducible] def b__law_refused : MS := (sSeq (sTry 3 (fun c => sub c 1) (sExp (mCall (fnC 2 m_difference) (aCons (mVar 0) (aCons (mVar 1) aNil)))) (sRet (mC (.bl true)))) (sRet (mC (.bl false))))
@[irreducible] def m__law_refused : MF := asFn 2 2 b__law_refused
@[irreducible] def b__law_second : MS := (sSeq (sAsg (mBin opMod (mBin opIx (mVar 1) (mC (.int 0))) (mC (.int 6))) (gVar 2)) (sSeq (sIf (tOr (tB (mBin opLt (mVar 2) (mC (.int 2)))) (tOr (tB (mBin opEq (mCall cLen (aCons (mBin opIx (mVar 0) (mC (.int 1))) aNil)) (mC (.int 0)))) (tB (mBin opEq (mBin opIx (mVar 0) (mC (.int 0))) (mC (.int 0)))))) (sRet (mCall (fnC 5 m__law_machine) (aCons (mVar 1) (aCons (mC (.int 5)) (aCons (mBin opIx (mVar 0) (mC (.int 0))) (aCons (mBin opMod (mBin opIx (mVar 1) (mC (.int 1))) (mC (.int 7))) (aCons (mBin opMod (mBin opIx (mVar 1) (mC (.int 2))) (mC (.int 4))) aNil))))))) sNx) (sSeq (sAsg (mLc (mIter (mBin opIx (mVar 0) (mC (.int 1)))) [6] (gVar 6) tTrue (mCall cList (aCons (mVar 6) aNil))) (gVar 3)) (sSeq (sAsg (mCall cList (aCons (mBin opIx (mVar 0) (mC (.int 2))) aNil)) (gVar 4)) (sSeq (sAsg (mBin opMod (mBin opIx (mVar 1) (mC (.int 1))) (mCall cLen (aCons (mVar 3) aNil))) (gVar 5)) (sSeq (sIf (tB (mBin opEq (mVar 2) (mC (.int 2)))) (sAsg (mNot (mBin opIx (mVar 4) (mVar 5))) (gSubM (mVar 4) (mVar 5) opSet)) sNx) (sSeq (sIf (tB (mBin opEq (mVar 2) (mC (.int 3)))) (sAsg (mBin opSub (mBin opMod (mBin opIx (mVar 1) (mC (.int 3))) (mBin opAdd (mCall cLen (aCons (mVar 3) aNil)) (mC (.int 1)))) (mC (.int 1))) (gSubM (mBin opIx (mVar 3) (mVar 5)) (mBin opMod (mBin opIx (mVar 1) (mC (.int 2))) (mBin opIx (mVar 0) (mC (.int 0)))) opSet)) sNx) (sSeq (sIf (tB (mBin opEq (mVar 2) (mC (.int 4)))) (sSeq (sExp (mMeth isL lAppend (mVar 3) (aCons (mCall cList (aCons (mBin opIx (mVar 3) (mVar 5)) aNil)) aNil))) (sSeq (sExp (mMeth isL lAppend (mVar 4) (aCons (mBin opIx (mVar 4) (mVar 5)) aNil))) (sFor (mIter (mVar 3)) (gVar 6) (sFor (mRange1 (aCons (mBin opIx (mVar 0) (mC (.int 0))) aNil)) (gVar 7) (sIf (tAnd (tB (mBin opEq (mBin opIx (mVar 6) (mVar 7)) (mVar 5))) (tB (mBin opEq (mBin opMod (mBin opFdiv (mBin opIx (mVar 1) (mC (.int 4))) (mBin opAdd (mC (.int 1)) (mVar 7))) (mC (.int 2))) (mC (.int 0))))) (sAsg (mBin opSub (mCall cLen (aCons (mVar 3) aNil)) (mC (.int 1))) (gSubM (mVar 6) (mVar 7) opSet)) sNx))))) sNx) (sRet (mTup (aCons (mBin opIx (mVar 0) (mC (.int 0))) (aCons (mCall cTuple (aCons (mLc (mIter (mVar 3)) [6] (gVar 6) tTrue (mCall cTuple (aCons (mVar 6) aNil))) aNil)) (aCons (mCall cTuple (aCons (mVar 4) aNil)) aNil)))))))))))))
@[irreducible] def m__law_second : MF := asFn 2 8 b__law_second
@[irreducible] def b__law_ends : MS := (sRet (mAnd (mBin opGe (mVar 1) (mC (.int 0))) (mBin opIx (mBin opIx (mVar 0) (mC (.int 2))) (mVar 1))))
@[irreducible] def m__law_ends : MF := asFn 2 2 b__law_ends
@[irreducible] def b__law_first : MS := (sRet (mBin opIx (mLst (aCons (mUn opNeg (mC (.int 1))) (aCons (mC (.int 0)) aNil))) (mCall cInt (aCons (mBin opGt (mCall cLen (aCons (mBin opIx (mVar 0) (mC (.int 1))) aNil)) (mC (.int 0))) aNil))))
@[irreducible] def m__law_first : MF := asFn 1 1 b__law_first
@[irreducible] def b__law_next : MS := (sSeq (sIf (tB (mBin opLt (mVar 1) (mC (.int 0)))) (sRet (mUn opNeg (mC (.int 1)))) sNx) (sRet (mBin opIx (mBin opIx (mBin opIx (mVar 0) (mC (.int 1))) (mVar 1)) (mVar 2))))
@[irreducible] def m__law_next : MF := asFn 3 3 b__law_next
@[irreducible] def b__law_difference : MS := (sSeq (sAsg (mLst (aCons (mTup (aCons (mCall (fnC 1 m__law_first) (aCons (mVar 0) aNil)) (aCons (mCall (fnC 1 m__law_first) (aCons (mVar 1) aNil)) aNil))) aNil)) (gVar 2)) (sSeq (sAsg (mLst (aCons (mLst aNil) aNil)) (gVar 3)) (sSeq (sFor (mRange1 (aCons (mBin opMul (mBin opAdd (mCall cLen (aCons (mBin opIx (mVar 0) (mC (.int 1))) aNil)) (mC (.int 1))) (mBin opAdd (mCall cLen (aCons (mBin opIx (mVar 1) (mC (.int 1))) aNil)) (mC (.int 1)))) aNil)) (gVar 4) (sIf (tB (mBin opLt (mVar 4) (mCall cLen (aCons (mVar 2) aNil)))) (sSeq (sAsg (mBin opIx (mVar 2) (mVar 4)) (gVar 5)) (sSeq (sIf (tB (mBin opNe (mCall (fnC 2 m__law_ends) (aCons (mVar 0) (aCons (mBin opIx (mVar 5) (mC (.int 0))) aNil))) (mCall (fnC 2 m__law_ends) (aCons (mVar 1) (aCons (mBin opIx (mVar 5) (mC (.int 1))) aNil))))) (sRet (mTup (aCons (mBin opIx (mVar 3) (mVar 4)) (aCons (mCall (fnC 2 m__law_ends) (aCons (mVar 0) (aCons (mBin opIx (mVar 5) (mC (.int 0))) aNil))) aNil)))) sNx) (sFor (mRange1 (aCons (mBin opIx (mVar 0) (mC (.int 0))) aNil)) (gVar 6) (sSeq (sAsg (mTup (aCons (mCall (fnC 3 m__law_next) (aCons (mVar 0) (aCons (mBin opIx (mVar 5) (mC (.int 0))) (aCons (mVar 6) aNil)))) (aCons (mCall (fnC 3 m__law_next) (aCons (mVar 1) (aCons (mBin opIx (mVar 5) (mC (.int 1))) (aCons (mVar 6) aNil)))) aNil))) (gVar 7)) (sIf (tB (mBin opNotInA (mVar 7) (mVar 2))) (sSeq (sExp (mMeth isL lAppend (mVar 2) (aCons (mVar 7) aNil))) (sExp (mMeth isL lAppend (mVar 3) (aCons (mBin opAdd (mBin opIx (mVar 3) (mVar 4)) (mLst (aCons (mVar 6) aNil))) aNil)))) sNx))))) sNx)) (sRet (mC .non)))))
@[irreducible] def m__law_difference : MF := asFn 2 8 b__law_difference
@[irreducible] def b__law_told : MS := (sSeq (sAsg (mCall (fnC 2 m__law_difference) (aCons (mVar 0) (aCons (mVar 1) aNil))) (gVar 2)) (sSeq (sTryAs 3 (fun c => sub c 0) 4 (sAsg (mCall (fnC 2 m_difference) (aCons (mVar 0) (aCons (mVar 1) aNil))) (gVar 3)) (fun a c => (sRet (mAnd (mBin opIs (mVar 2) (mC .non)) (mAnd (mIsE a 4 (sub c 2)) (mNot (mIsE a 4 (sub c 1)))))))) (sSeq (sIf (tOr (tB (mBin opIs (mVar 2) (mC .non))) (tOr (tNot (tB (mIsi .tuple (mVar 3)))) (tOr (tB (mBin opNe (mCall cLen (aCons (mVar 3) aNil)) (mC (.int 2)))) (tNot (tB (mIsi .bool (mBin opIx (mVar 3) (mC (.int 1))))))))) (sRet (mC (.bl false))) sNx) (sSeq (sIf (tOr (tNot (tB (mIsi .list (mBin opIx (mVar 3) (mC (.int 0)))))) (tB (mBin opNe (mVar 3) (mVar 2)))) (sRet (mC (.bl false))) sNx) (sSeq (sExp (mMeth isL lAppend (mBin opIx (mVar 3) (mC (.int 0))) (aCons (mC (.int 0)) aNil))) (sRet (mBin opEq (mCall (fnC 2 m_difference) (aCons (mVar 0) (aCons (mVar 1) aNil))) (mVar 2))))))))
@[irreducible] def m__law_told : MF := asFn 2 5 b__law_told
@[irreducible] def b_law : MS := (sSeq (sAsg (mCall (fnC 2 m__law_numbers) (aCons (mVar 0) (aCons (mC (.int 200)) aNil))) (gVar 1)) (sSeq (sAsg (mCall (fnC 5 m__law_machine) (aCons (mVar 1) (aCons (mC (.int 20)) (aCons (mBin opMod (mBin opIx (mVar 1) (mC (.int 0))) (mC (.int 4))) (aCons (mBin opMod (mBin opIx (mVar 1) (mC (.int 1))) (mC (.int 8))) (aCons (mBin opMod (mBin opIx (mVar 1) (mC (.int 2))) (mC (.int 4))) aNil)))))) (gVar 2)) (sSeq (sAsg (mCall (fnC 2 m__law_second) (aCons (mVar 2) (aCons (mSl (mVar 1) (some (mC (.int 90))) none) aNil))) (gVar 3)) (sSeq (sIf (tOr (tNot (tB (mCall (fnC 2 m__law_told) (aCons (mVar 2) (aCons (mVar 3) aNil))))) (tOr (tNot (tB (mCall (fnC 2 m__law_told) (aCons (mVar 3) (aCons (mVar 2) aNil))))) (tNot (tB (mCall (fnC 2 m__law_told) (aCons (mVar 2) (aCons (mVar 2) aNil))))))) (sRet (mC (.bl false))) sNx) (sSeq (sIf (tB (mBin opEq (mBin opMod (mBin opIx (mVar 1) (mC (.int 3))) (mC (.int 12))) (mC (.int 0)))) (sSeq (sAsg (mTup (aCons (mLc (mRange1 (aCons (mC (.int 299)) aNil)) [6] (gVar 6) tTrue (mC (.int 0))) (aCons (mC (.bl false)) aNil))) (gVar 4)) (sIf (tB (mBin opNe (mCall (fnC 2 m_difference) (aCons (mCall (fnC 2 m__law_line) (aCons (mC (.int 300)) (aCons (mC (.bl false)) aNil))) (aCons (mCall (fnC 2 m__law_line) (aCons (mC (.int 300)) (aCons (mC (.bl true)) aNil))) aNil))) (mVar 4))) (sRet (mC (.bl false))) sNx)) sNx) (sSeq (sAsg (mCall (fnC 5 m__law_machine) (aCons (mVar 1) (aCons (mC (.int 40)) (aCons (mBin opAdd (mBin opMod (mBin opIx (mVar 1) (mC (.int 0))) (mC (.int 4))) (mC (.int 1))) (aCons (mC (.int 2)) (aCons (mC (.int 1)) aNil)))))) (gVar 5)) (sRet (mAnd (mCall (fnC 2 m__law_refused) (aCons (mVar 2) (aCons (mVar 5) aNil))) (mCall (fnC 2 m__law_refused) (aCons (mVar 5) (aCons (mVar 2) aNil)))))))))))
@[irreducible] def m_law : MF := asFn 1 7 b_law
/-- names that the text does not bind -/
structure Zs (mg : Str → Option Value) : Prop where
  abs : mg "abs" = none
  bool : mg "bool" = none
  int : mg "int" = none
  isinstance : mg "isinstance" = none
  len : mg "len" = none
  list : mg "list" = none
  max : mg "max" = none
  range : mg "range" = none
  tuple : mg "tuple" = none
/-! ### each def is its small program -/
section
variable {P : Program} {w : World} {K : PySem.W.Frag} {mg : Str → Option Value} {base : Heap} {T : Tab} {f : Addr} {fd : FuncData}
theorem sc__law_line : FnScope ["_law_states", "_law_last", "_law_moves", "_law_state"] ["_law_states", "_law_last"] (defScope (top 22)) := ⟨rfl, rfl, rfl, by decide +kernel, rfl, by decide +kernel, by decide +kernel⟩
theorem ok__law_line (F : Fun K "_law_line" "_law_line" (top 22) f fd) (Z : Zs mg) (Zx : Exs K mg T 3 sub nms) : FM P w K mg base T 1 f fd ["_law_states", "_law_last"] m__law_line := by
  unfold m__law_line
  refine fn_okN rfl rfl F sc__law_line fun cdv A outer s H E hr => ?_
  have nd := sc__law_line.nd
  have hu_ := Mn.hu_ hr
  have hu9_ := Mn.hu9 hr
  have hu64_ := Mn.hu64 hr
  let X := cxOf (L2.CX P w) P w K mg base ["_law_states", "_law_last", "_law_moves", "_law_state"] "_law_line" (defScope (top 22)) f cdv A outer s H E
  have tk : Takes X (fun c d _ H => E c d H) := takes_of rfl rfl rfl rfl
  have hp : PassesOwn (model X.prog X.w) X.A X.env X.xe := passes_of rfl
  unfold b__law_line
  exact (ss_cons (s_set nd (e_bin op_adds s_add (e_callTy call_tuple_of s_tuple Z.tuple (a_cons (e_lc (own := [("_law_state", 3)]) 3 rfl nd (i_range1 Z.range (a_cons (e_bin op_sub s_sub (e_var 0) e_int) a_nil)) (blkOk_by (N := ["_law_states", "_law_last", "_law_moves", "_law_state"]) (sc := defScope (top 22)) (own := [("_law_state", 3)]) (by decide +kernel)) (fun _ _ _ _ _ => pg_name (i := 3) nd rfl (Or.inl rfl)) (fun _ _ _ _ _ => ts_nil) (fun _ _ _ _ _ => (e_tup (a_cons (e_bin op_adds s_add (e_var 3) e_int) a_nil)))) a_nil)) (e_tup (a_cons (e_tup (a_cons (e_un un_neg s_neg e_int) a_nil)) a_nil))))
      (ss_one (s_ret (e_tup (a_cons e_int (a_cons (e_var 2) (a_cons (e_callTy call_tuple_of s_tuple Z.tuple (a_cons (e_lc (own := [("_law_state", 3)]) 3 rfl nd (i_range1 Z.range (a_cons (e_var 0) a_nil)) (blkOk_by (N := ["_law_states", "_law_last", "_law_moves", "_law_state"]) (sc := defScope (top 22)) (own := [("_law_state", 3)]) (by decide +kernel)) (fun _ _ _ _ _ => pg_name (i := 3) nd rfl (Or.inl rfl)) (fun _ _ _ _ _ => ts_nil) (fun _ _ _ _ _ => (e_and (e_var 1) (e_and1 (e_cmp (op_eqD hu64_) s_eq (e_var 3) (e_bin op_sub s_sub (e_var 0) e_int)))))) a_nil)) a_nil)))))))
theorem sc__law_machine : FnScope ["_law_numbers_here", "_law_at", "_law_letters", "_law_states", "_law_gaps", "_law_moves", "_law_accepting", "_law_state", "_law_row", "_law_letter", "_law_number", "_law_target"] ["_law_numbers_here", "_law_at", "_law_letters", "_law_states", "_law_gaps"] (defScope (top 12)) := ⟨rfl, rfl, rfl, by decide +kernel, rfl, by decide +kernel, by decide +kernel⟩
theorem ok__law_machine (F : Fun K "_law_machine" "_law_machine" (top 12) f fd) (Z : Zs mg) (Zx : Exs K mg T 3 sub nms) : FM P w K mg base T 1 f fd ["_law_numbers_here", "_law_at", "_law_letters", "_law_states", "_law_gaps"] m__law_machine := by
  unfold m__law_machine
  refine fn_okN rfl rfl F sc__law_machine fun cdv A outer s H E hr => ?_
  have nd := sc__law_machine.nd
  have hu_ := Mn.hu_ hr
  have hu9_ := Mn.hu9 hr
  have hu64_ := Mn.hu64 hr
  let X := cxOf (L2.CX P w) P w K mg base ["_law_numbers_here", "_law_at", "_law_letters", "_law_states", "_law_gaps", "_law_moves", "_law_accepting", "_law_state", "_law_row", "_law_letter", "_law_number", "_law_target"] "_law_machine" (defScope (top 12)) f cdv A outer s H E
  have tk : Takes X (fun c d _ H => E c d H) := takes_of rfl rfl rfl rfl
  have hp : PassesOwn (model X.prog X.w) X.A X.env X.xe := passes_of rfl
  unfold b__law_machine
  exact (ss_cons (s_set nd (e_lst a_nil))
      (ss_cons (s_set nd (e_lst a_nil))
      (ss_cons (s_for hp rfl (i_range1 Z.range (a_cons (e_var 3) a_nil)) (g_var nd) (ss_cons (s_set nd (e_lst a_nil))
      (ss_cons (s_for hp rfl (i_range1 Z.range (a_cons (e_var 2) a_nil)) (g_var nd) (ss_cons (s_set nd (e_ix (ix_all hu9_) s_ix (e_var 0) (e_bin op_mod s_mod (e_callTy call_int1 s_int Z.int (a_cons (e_bin op_adds s_add (e_bin op_adds s_add (e_var 1) (e_bin op_muls s_mul (e_var 7) (e_var 2))) (e_var 9)) a_nil)) (e_callB call_lens s_len Z.len (a_cons (e_var 0) a_nil)))))
      (ss_cons (s_set nd (e_bin op_mod s_mod (e_bin op_fdiv s_fdiv (e_var 10) e_int) (e_var 3)))
      (ss_cons (s_if (t_cmp op_lt (s_cmp _) (e_bin op_mod s_mod (e_var 10) e_int) (e_var 4)) (ss_one (s_set nd (e_un un_neg s_neg e_int))) ss_nil)
      (ss_one (s_exp (e_meth p_list PySem.F.plainAttrs_list PySem.F.slot_list_append PySem.F.type_list_append mt_append s_append (e_var 8) (a_cons (e_var 11) a_nil))))))))
      (ss_cons (s_exp (e_meth p_list PySem.F.plainAttrs_list PySem.F.slot_list_append PySem.F.type_list_append mt_append s_append (e_var 5) (a_cons (e_callTy call_tuple_of s_tuple Z.tuple (a_cons (e_var 8) a_nil)) a_nil)))
      (ss_one (s_exp (e_meth p_list PySem.F.plainAttrs_list PySem.F.slot_list_append PySem.F.type_list_append mt_append s_append (e_var 6) (a_cons (e_cmp (op_eqD hu64_) s_eq (e_bin op_mod s_mod (e_bin op_fdiv s_fdiv (e_ix (ix_all hu9_) s_ix (e_var 0) (e_bin op_mod s_mod (e_callTy call_int1 s_int Z.int (a_cons (e_bin op_adds s_add (e_bin op_adds s_add (e_var 1) e_int) (e_var 7)) a_nil)) (e_callB call_lens s_len Z.len (a_cons (e_var 0) a_nil)))) e_int) e_int) e_int) a_nil))))))))
      (ss_one (s_ret (e_tup (a_cons (e_var 2) (a_cons (e_callTy call_tuple_of s_tuple Z.tuple (a_cons (e_var 5) a_nil)) (a_cons (e_callTy call_tuple_of s_tuple Z.tuple (a_cons (e_var 6) a_nil)) a_nil)))))))))
theorem sc__law_numbers : FnScope ["_law_script", "_law_many", "_law_numbers_here", "_law_k", "_law_cell", "_law_j", "_law_mixed", "_law_base", "_law_last"] ["_law_script", "_law_many"] (defScope (top 11)) := ⟨rfl, rfl, rfl, by decide +kernel, rfl, by decide +kernel, by decide +kernel⟩
theorem ok__law_numbers (F : Fun K "_law_numbers" "_law_numbers" (top 11) f fd) (Z : Zs mg) (Zx : Exs K mg T 3 sub nms) : FM P w K mg base T 1 f fd ["_law_script", "_law_many"] m__law_numbers := by
  unfold m__law_numbers
  refine fn_okN rfl rfl F sc__law_numbers fun cdv A outer s H E hr => ?_
  have nd := sc__law_numbers.nd
  have hu_ := Mn.hu_ hr
  have hu9_ := Mn.hu9 hr
  have hu64_ := Mn.hu64 hr
  let X := cxOf (L2.CX P w) P w K mg base ["_law_script", "_law_many", "_law_numbers_here", "_law_k", "_law_cell", "_law_j", "_law_mixed", "_law_base", "_law_last"] "_law_numbers" (defScope (top 11)) f cdv A outer s H E
  have tk : Takes X (fun c d _ H => E c d H) := takes_of rfl rfl rfl rfl
  have hp : PassesOwn (model X.prog X.w) X.A X.env X.xe := passes_of rfl
  unfold b__law_numbers
  exact (ss_cons (s_set nd (e_lst a_nil))
      (ss_cons (s_for hp rfl (i_range1 Z.range (a_cons (e_callB call_lens s_len Z.len (a_cons (e_var 0) a_nil)) a_nil)) (g_var nd) (ss_cons (s_set nd (e_callB call_abs s_abs Z.abs (a_cons (e_callTy call_int1 s_int Z.int (a_cons (e_ix (ix_all hu9_) s_ix (e_var 0) (e_var 3)) a_nil)) a_nil)))
      (ss_one (s_if (t_cmp op_ge (s_cmp _) (e_var 4) (e_bin op_pow s_pow e_int e_int)) (ss_one (s_for hp rfl (i_range1 Z.range (a_cons e_int a_nil)) (g_var nd) (ss_one (s_if (PW.pt (w_and (t_cmp op_gt (s_cmp _) (e_var 4) e_int) (w_and1 (t_cmp op_lt (s_cmp _) (e_callB call_lens s_len Z.len (a_cons (e_var 2) a_nil)) (e_var 1))))) (ss_cons (s_exp (e_meth p_list PySem.F.plainAttrs_list PySem.F.slot_list_append PySem.F.type_list_append mt_append s_append (e_var 2) (a_cons (e_bin op_mod s_mod (e_var 4) e_int) a_nil)))
      (ss_one (s_set nd (e_bin op_fdiv s_fdiv (e_var 4) e_int)))) ss_nil)))) (ss_one (s_if (t_cmp op_lt (s_cmp _) (e_callB call_lens s_len Z.len (a_cons (e_var 2) a_nil)) (e_var 1)) (ss_cons (s_set nd (e_bin op_mod s_mod (e_callTy call_int1 s_int Z.int (a_cons (e_bin op_adds s_add (e_bin op_adds s_add (e_bin op_muls s_mul (e_var 4) e_int) (e_bin op_muls s_mul (e_var 3) e_int)) e_int) a_nil)) e_int))
      (ss_one (s_exp (e_meth p_list PySem.F.plainAttrs_list PySem.F.slot_list_append PySem.F.type_list_append mt_append s_append (e_var 2) (a_cons (e_bin op_fdiv s_fdiv (e_bin op_mod s_mod (e_callTy call_int1 s_int Z.int (a_cons (e_bin op_adds s_add (e_bin op_adds s_add (e_bin op_muls s_mul (e_var 6) e_int) (e_bin op_muls s_mul e_int (e_var 3))) e_int) a_nil)) e_int) e_int) a_nil))))) ss_nil))))))
      (ss_cons (s_set nd (e_callB call_lens s_len Z.len (a_cons (e_var 2) a_nil)))
      (ss_cons (s_set nd (e_bin op_adds s_add e_int (e_callB call_lens s_len Z.len (a_cons (e_var 0) a_nil))))
      (ss_cons (s_for hp rfl (i_range1 Z.range (a_cons (e_callB (call_max2 rfl) s_max2 Z.max (a_cons e_int (a_cons (e_bin op_sub s_sub (e_var 1) (e_var 7)) a_nil))) a_nil)) (g_var nd) (ss_cons (s_if (t_cmp op_gt (s_cmp _) (e_var 7) e_int) (ss_one (s_set nd (e_bin op_adds s_add (e_var 8) (e_ix (ix_all hu9_) s_ix (e_var 2) (e_bin op_mod s_mod (e_var 3) (e_var 7)))))) ss_nil)
      (ss_cons (s_set nd (e_bin op_mod s_mod (e_callTy call_int1 s_int Z.int (a_cons (e_bin op_adds s_add (e_bin op_muls s_mul (e_var 8) e_int) (e_var 3)) a_nil)) e_int))
      (ss_one (s_exp (e_meth p_list PySem.F.plainAttrs_list PySem.F.slot_list_append PySem.F.type_list_append mt_append s_append (e_var 2) (a_cons (e_bin op_fdiv s_fdiv (e_var 8) e_int) a_nil)))))))
      (ss_one (s_ret (e_sl (e_var 2) o_none (o_some (e_var 1))))))))))
theorem sc_check_letters : FnScope ["first", "second"] ["first", "second"] (defScope (top 8)) := ⟨rfl, rfl, rfl, by decide +kernel, rfl, by decide +kernel, by decide +kernel⟩
theorem ok_check_letters (F : Fun K "check_letters" "check_letters" (top 8) f fd) (Z : Zs mg) (Zx : Exs K mg T 3 sub nms) : FM P w K mg base T 1 f fd ["first", "second"] m_check_letters := by
  unfold m_check_letters
  refine fn_okN rfl rfl F sc_check_letters fun cdv A outer s H E hr => ?_
  have nd := sc_check_letters.nd
  have hu_ := Mn.hu_ hr
  have hu9_ := Mn.hu9 hr
  have hu64_ := Mn.hu64 hr
  let X := cxOf (L2.CX P w) P w K mg base ["first", "second"] "check_letters" (defScope (top 8)) f cdv A outer s H E
  have tk : Takes X (fun c d _ H => E c d H) := takes_of rfl rfl rfl rfl
  have hp : PassesOwn (model X.prog X.w) X.A X.env X.xe := passes_of rfl
  unfold b_check_letters
  exact (ss_one (s_if (t_cmp (op_neD hu64_) s_ne (e_ix (ix_all hu9_) s_ix (e_var 0) e_int) (e_ix (ix_all hu9_) s_ix (e_var 1) e_int)) (ss_one (s_raiseX 1 Zx tk rfl)) ss_nil))
theorem sc_first_state : FnScope ["machine"] ["machine"] (defScope (top 5)) := ⟨rfl, rfl, rfl, by decide +kernel, rfl, by decide +kernel, by decide +kernel⟩
theorem ok_first_state (F : Fun K "first_state" "first_state" (top 5) f fd) (Z : Zs mg) (Zx : Exs K mg T 3 sub nms) : FM P w K mg base T 1 f fd ["machine"] m_first_state := by
  unfold m_first_state
  refine fn_okN rfl rfl F sc_first_state fun cdv A outer s H E hr => ?_
  have nd := sc_first_state.nd
  have hu_ := Mn.hu_ hr
  have hu9_ := Mn.hu9 hr
  have hu64_ := Mn.hu64 hr
  let X := cxOf (L2.CX P w) P w K mg base ["machine"] "first_state" (defScope (top 5)) f cdv A outer s H E
  have tk : Takes X (fun c d _ H => E c d H) := takes_of rfl rfl rfl rfl
  have hp : PassesOwn (model X.prog X.w) X.A X.env X.xe := passes_of rfl
  unfold b_first_state
  exact (ss_one (s_ret (e_if (t_cmp op_gt (s_cmp _) (e_callB call_lens s_len Z.len (a_cons (e_ix (ix_all hu9_) s_ix (e_var 0) e_int) a_nil)) e_int) e_int (e_un un_neg s_neg e_int))))
theorem sc_is_accepting : FnScope ["machine", "state"] ["machine", "state"] (defScope (top 7)) := ⟨rfl, rfl, rfl, by decide +kernel, rfl, by decide +kernel, by decide +kernel⟩
theorem ok_is_accepting (F : Fun K "is_accepting" "is_accepting" (top 7) f fd) (Z : Zs mg) (Zx : Exs K mg T 3 sub nms) : FM P w K mg base T 1 f fd ["machine", "state"] m_is_accepting := by
  unfold m_is_accepting
  refine fn_okN rfl rfl F sc_is_accepting fun cdv A outer s H E hr => ?_
  have nd := sc_is_accepting.nd
  have hu_ := Mn.hu_ hr
  have hu9_ := Mn.hu9 hr
  have hu64_ := Mn.hu64 hr
  let X := cxOf (L2.CX P w) P w K mg base ["machine", "state"] "is_accepting" (defScope (top 7)) f cdv A outer s H E
  have tk : Takes X (fun c d _ H => E c d H) := takes_of rfl rfl rfl rfl
  have hp : PassesOwn (model X.prog X.w) X.A X.env X.xe := passes_of rfl
  unfold b_is_accepting
  exact (ss_one (s_ret (e_and (e_cmp op_ge (s_cmp _) (e_var 1) e_int) (e_and1 (e_ix (ix_all hu9_) s_ix (e_ix (ix_all hu9_) s_ix (e_var 0) e_int) (e_var 1))))))
theorem sc_next_state : FnScope ["machine", "state", "letter"] ["machine", "state", "letter"] (defScope (top 6)) := ⟨rfl, rfl, rfl, by decide +kernel, rfl, by decide +kernel, by decide +kernel⟩
theorem ok_next_state (F : Fun K "next_state" "next_state" (top 6) f fd) (Z : Zs mg) (Zx : Exs K mg T 3 sub nms) : FM P w K mg base T 1 f fd ["machine", "state", "letter"] m_next_state := by
  unfold m_next_state
  refine fn_okN rfl rfl F sc_next_state fun cdv A outer s H E hr => ?_
  have nd := sc_next_state.nd
  have hu_ := Mn.hu_ hr
  have hu9_ := Mn.hu9 hr
  have hu64_ := Mn.hu64 hr
  let X := cxOf (L2.CX P w) P w K mg base ["machine", "state", "letter"] "next_state" (defScope (top 6)) f cdv A outer s H E
  have tk : Takes X (fun c d _ H => E c d H) := takes_of rfl rfl rfl rfl
  have hp : PassesOwn (model X.prog X.w) X.A X.env X.xe := passes_of rfl
  unfold b_next_state
  exact (ss_one (s_ret (e_if (t_cmp op_lt (s_cmp _) (e_var 1) e_int) (e_un un_neg s_neg e_int) (e_ix (ix_all hu9_) s_ix (e_ix (ix_all hu9_) s_ix (e_ix (ix_all hu9_) s_ix (e_var 0) e_int) (e_var 1)) (e_var 2)))))
theorem sc_difference : FnScope ["first", "second", "start", "words", "order", "at", "pair", "letter", "other"] ["first", "second"] (defScope (top 9)) := ⟨rfl, rfl, rfl, by decide +kernel, rfl, by decide +kernel, by decide +kernel⟩
theorem ok_difference (F : Fun K "difference" "difference" (top 9) f fd) (Z : Zs mg) (Zx : Exs K mg T 3 sub nms) (c_next_state : Cal P w K mg base T "next_state" 1 ["machine", "state", "letter"] m_next_state) (c_is_accepting : Cal P w K mg base T "is_accepting" 1 ["machine", "state"] m_is_accepting) (c_first_state : Cal P w K mg base T "first_state" 1 ["machine"] m_first_state) (c_check_letters : Cal P w K mg base T "check_letters" 1 ["first", "second"] m_check_letters) : FM P w K mg base T 2 f fd ["first", "second"] m_difference := by
  unfold m_difference
  refine fn_okN rfl rfl F sc_difference fun cdv A outer s H E hr => ?_
  have nd := sc_difference.nd
  have hu_ := Mn.hu_ hr
  have hu9_ := Mn.hu9 hr
  have hu64_ := Mn.hu64 hr
  let X := cxOf (L2.CX P w) P w K mg base ["first", "second", "start", "words", "order", "at", "pair", "letter", "other"] "difference" (defScope (top 9)) f cdv A outer s H E
  have tk : Takes X (fun c d _ H => E c d H) := takes_of rfl rfl rfl rfl
  have hp : PassesOwn (model X.prog X.w) X.A X.env X.xe := passes_of rfl
  unfold b_difference
  exact (ss_cons (s_exp (e_calC c_check_letters (hr.mono (by decide)) tk (a_cons (e_var 0) (a_cons (e_var 1) a_nil))))
      (ss_cons (s_set nd (e_tup (a_cons (e_calC c_first_state (hr.mono (by decide)) tk (a_cons (e_var 0) a_nil)) (a_cons (e_calC c_first_state (hr.mono (by decide)) tk (a_cons (e_var 1) a_nil)) a_nil))))
      (ss_cons (s_set nd (e_dN1 hu9_ (e_var 2) (e_lst a_nil)))
      (ss_cons (s_set nd (e_lst (a_cons (e_var 2) a_nil)))
      (ss_cons (s_set nd e_int)
      (ss_cons (s_while hp (t_cmp op_lt (s_cmp _) (e_var 5) (e_callB call_lens s_len Z.len (a_cons (e_var 4) a_nil))) (ss_cons (s_set nd (e_ix (ix_all hu9_) s_ix (e_var 4) (e_var 5)))
      (ss_cons (s_if (t_cmp (op_neD hu64_) s_ne (e_calC c_is_accepting (hr.mono (by decide)) tk (a_cons (e_var 0) (a_cons (e_ix (ix_all hu9_) s_ix (e_var 6) e_int) a_nil))) (e_calC c_is_accepting (hr.mono (by decide)) tk (a_cons (e_var 1) (a_cons (e_ix (ix_all hu9_) s_ix (e_var 6) e_int) a_nil)))) (ss_one (s_ret (e_tup (a_cons (e_ix (ix_all hu9_) s_ix (e_var 3) (e_var 6)) (a_cons (e_calC c_is_accepting (hr.mono (by decide)) tk (a_cons (e_var 0) (a_cons (e_ix (ix_all hu9_) s_ix (e_var 6) e_int) a_nil))) a_nil))))) ss_nil)
      (ss_cons (s_for hp rfl (i_range1 Z.range (a_cons (e_ix (ix_all hu9_) s_ix (e_var 0) e_int) a_nil)) (g_var nd) (ss_cons (s_set nd (e_tup (a_cons (e_calC c_next_state (hr.mono (by decide)) tk (a_cons (e_var 0) (a_cons (e_ix (ix_all hu9_) s_ix (e_var 6) e_int) (a_cons (e_var 7) a_nil)))) (a_cons (e_calC c_next_state (hr.mono (by decide)) tk (a_cons (e_var 1) (a_cons (e_ix (ix_all hu9_) s_ix (e_var 6) e_int) (a_cons (e_var 7) a_nil)))) a_nil))))
      (ss_one (s_if (t_cmp (op_hasnt hu_) s_hasnt (e_var 8) (e_var 3)) (ss_cons (s_asg (e_bin op_adds s_add (e_ix (ix_all hu9_) s_ix (e_var 3) (e_var 6)) (e_lst (a_cons (e_var 7) a_nil))) (g_sub (e_var 3) (e_var 8) (set_all hu9_) s_setitem))
      (ss_one (s_exp (e_meth p_list PySem.F.plainAttrs_list PySem.F.slot_list_append PySem.F.type_list_append mt_append s_append (e_var 4) (a_cons (e_var 8) a_nil))))) ss_nil))))
      (ss_one (s_aug iop_add s_addI nd e_int))))))
      (ss_one (s_raiseX 2 Zx tk rfl))))))))
theorem sc__law_refused : FnScope ["_law_first_here", "_law_second_here"] ["_law_first_here", "_law_second_here"] (defScope (top 21)) := ⟨rfl, rfl, rfl, by decide +kernel, rfl, by decide +kernel, by decide +kernel⟩
theorem ok__law_refused (F : Fun K "_law_refused" "_law_refused" (top 21) f fd) (Z : Zs mg) (Zx : Exs K mg T 3 sub nms) (c_difference : Cal P w K mg base T "difference" 2 ["first", "second"] m_difference) : FM P w K mg base T 3 f fd ["_law_first_here", "_law_second_here"] m__law_refused := by
  unfold m__law_refused
  refine fn_okN rfl rfl F sc__law_refused fun cdv A outer s H E hr => ?_
  have nd := sc__law_refused.nd
  have hu_ := Mn.hu_ hr
  have hu9_ := Mn.hu9 hr
  have hu64_ := Mn.hu64 hr
  let X := cxOf (L2.CX P w) P w K mg base ["_law_first_here", "_law_second_here"] "_law_refused" (defScope (top 21)) f cdv A outer s H E
  have tk : Takes X (fun c d _ H => E c d H) := takes_of rfl rfl rfl rfl
  have hp : PassesOwn (model X.prog X.w) X.A X.env X.xe := passes_of rfl
  unfold b__law_refused
  exact (ss_cons (s_tryX 1 Zx rfl rfl tk (fun _ _ _ tk1 hp1 => (ss_one (s_exp (e_calC c_difference (hr.mono (by decide)) tk1 (a_cons (e_var 0) (a_cons (e_var 1) a_nil)))))) (fun _ _ c _ _ hc hz hfl => (ss_one (s_ret e_bl))))
      (ss_one (s_ret e_bl)))
theorem sc__law_second : FnScope ["_law_machine_here", "_law_numbers_here", "_law_kind", "_law_moves", "_law_accepting", "_law_state", "_law_row", "_law_letter"] ["_law_machine_here", "_law_numbers_here"] (defScope (top 18)) := ⟨rfl, rfl, rfl, by decide +kernel, rfl, by decide +kernel, by decide +kernel⟩
theorem ok__law_second (F : Fun K "_law_second" "_law_second" (top 18) f fd) (Z : Zs mg) (Zx : Exs K mg T 3 sub nms) (c__law_machine : Cal P w K mg base T "_law_machine" 1 ["_law_numbers_here", "_law_at", "_law_letters", "_law_states", "_law_gaps"] m__law_machine) : FM P w K mg base T 2 f fd ["_law_machine_here", "_law_numbers_here"] m__law_second := by
  unfold m__law_second
  refine fn_okN rfl rfl F sc__law_second fun cdv A outer s H E hr => ?_
  have nd := sc__law_second.nd
  have hu_ := Mn.hu_ hr
  have hu9_ := Mn.hu9 hr
  have hu64_ := Mn.hu64 hr
  let X := cxOf (L2.CX P w) P w K mg base ["_law_machine_here", "_law_numbers_here", "_law_kind", "_law_moves", "_law_accepting", "_law_state", "_law_row", "_law_letter"] "_law_second" (defScope (top 18)) f cdv A outer s H E
  have tk : Takes X (fun c d _ H => E c d H) := takes_of rfl rfl rfl rfl
  have hp : PassesOwn (model X.prog X.w) X.A X.env X.xe := passes_of rfl
  unfold b__law_second
  exact (ss_cons (s_set nd (e_bin op_mod s_mod (e_ix (ix_all hu9_) s_ix (e_var 1) e_int) e_int))
      (ss_cons (s_if (PW.pt (w_or (t_cmp op_lt (s_cmp _) (e_var 2) e_int) (w_or (t_cmp (op_eqD hu64_) s_eq (e_callB call_lens s_len Z.len (a_cons (e_ix (ix_all hu9_) s_ix (e_var 0) e_int) a_nil)) e_int) (w_or1 (t_cmp (op_eqD hu64_) s_eq (e_ix (ix_all hu9_) s_ix (e_var 0) e_int) e_int))))) (ss_one (s_ret (e_calC c__law_machine (hr.mono (by decide)) tk (a_cons (e_var 1) (a_cons e_int (a_cons (e_ix (ix_all hu9_) s_ix (e_var 0) e_int) (a_cons (e_bin op_mod s_mod (e_ix (ix_all hu9_) s_ix (e_var 1) e_int) e_int) (a_cons (e_bin op_mod s_mod (e_ix (ix_all hu9_) s_ix (e_var 1) e_int) e_int) a_nil)))))))) ss_nil)
      (ss_cons (s_setLc (own := [("_law_row", 6)]) 6 rfl nd (i_any (e_ix (ix_all hu9_) s_ix (e_var 0) e_int)) (blkOk_by (N := ["_law_machine_here", "_law_numbers_here", "_law_kind", "_law_moves", "_law_accepting", "_law_state", "_law_row", "_law_letter"]) (sc := defScope (top 18)) (own := [("_law_row", 6)]) (by decide +kernel)) (fun _ _ _ _ _ => pg_name (i := 6) nd rfl (Or.inl rfl)) (fun _ _ _ _ _ => ts_nil) (fun _ _ _ _ _ => (e_callTy call_list_of s_list Z.list (a_cons (e_var 6) a_nil))) (sw_true rfl rfl rfl (by decide +kernel)))
      (ss_cons (s_set nd (e_callTy call_list_of s_list Z.list (a_cons (e_ix (ix_all hu9_) s_ix (e_var 0) e_int) a_nil)))
      (ss_cons (s_set nd (e_bin op_mod s_mod (e_ix (ix_all hu9_) s_ix (e_var 1) e_int) (e_callB call_lens s_len Z.len (a_cons (e_var 3) a_nil))))
      (ss_cons (s_if (t_cmp (op_eqD hu64_) s_eq (e_var 2) e_int) (ss_one (s_asg (e_not (e_ix (ix_all hu9_) s_ix (e_var 4) (e_var 5))) (g_sub (e_var 4) (e_var 5) (set_all hu9_) s_setitem))) ss_nil)
      (ss_cons (s_if (t_cmp (op_eqD hu64_) s_eq (e_var 2) e_int) (ss_one (s_asg (e_bin op_sub s_sub (e_bin op_mod s_mod (e_ix (ix_all hu9_) s_ix (e_var 1) e_int) (e_bin op_adds s_add (e_callB call_lens s_len Z.len (a_cons (e_var 3) a_nil)) e_int)) e_int) (g_sub (e_ix (ix_all hu9_) s_ix (e_var 3) (e_var 5)) (e_bin op_mod s_mod (e_ix (ix_all hu9_) s_ix (e_var 1) e_int) (e_ix (ix_all hu9_) s_ix (e_var 0) e_int)) (set_all hu9_) s_setitem))) ss_nil)
      (ss_cons (s_if (t_cmp (op_eqD hu64_) s_eq (e_var 2) e_int) (ss_cons (s_exp (e_meth p_list PySem.F.plainAttrs_list PySem.F.slot_list_append PySem.F.type_list_append mt_append s_append (e_var 3) (a_cons (e_callTy call_list_of s_list Z.list (a_cons (e_ix (ix_all hu9_) s_ix (e_var 3) (e_var 5)) a_nil)) a_nil)))
      (ss_cons (s_exp (e_meth p_list PySem.F.plainAttrs_list PySem.F.slot_list_append PySem.F.type_list_append mt_append s_append (e_var 4) (a_cons (e_ix (ix_all hu9_) s_ix (e_var 4) (e_var 5)) a_nil)))
      (ss_one (s_for hp rfl (i_any (e_var 3)) (g_var nd) (ss_one (s_for hp rfl (i_range1 Z.range (a_cons (e_ix (ix_all hu9_) s_ix (e_var 0) e_int) a_nil)) (g_var nd) (ss_one (s_if (PW.pt (w_and (t_cmp (op_eqD hu64_) s_eq (e_ix (ix_all hu9_) s_ix (e_var 6) (e_var 7)) (e_var 5)) (w_and1 (t_cmp (op_eqD hu64_) s_eq (e_bin op_mod s_mod (e_bin op_fdiv s_fdiv (e_ix (ix_all hu9_) s_ix (e_var 1) e_int) (e_bin op_adds s_add e_int (e_var 7))) e_int) e_int)))) (ss_one (s_asg (e_bin op_sub s_sub (e_callB call_lens s_len Z.len (a_cons (e_var 3) a_nil)) e_int) (g_sub (e_var 6) (e_var 7) (set_all hu9_) s_setitem))) ss_nil)))))))) ss_nil)
      (ss_one (s_ret (e_tup (a_cons (e_ix (ix_all hu9_) s_ix (e_var 0) e_int) (a_cons (e_callTy call_tuple_of s_tuple Z.tuple (a_cons (e_lc (own := [("_law_row", 6)]) 6 rfl nd (i_any (e_var 3)) (blkOk_by (N := ["_law_machine_here", "_law_numbers_here", "_law_kind", "_law_moves", "_law_accepting", "_law_state", "_law_row", "_law_letter"]) (sc := defScope (top 18)) (own := [("_law_row", 6)]) (by decide +kernel)) (fun _ _ _ _ _ => pg_name (i := 6) nd rfl (Or.inl rfl)) (fun _ _ _ _ _ => ts_nil) (fun _ _ _ _ _ => (e_callTy call_tuple_of s_tuple Z.tuple (a_cons (e_var 6) a_nil)))) a_nil)) (a_cons (e_callTy call_tuple_of s_tuple Z.tuple (a_cons (e_var 4) a_nil)) a_nil))))))))))))))
theorem sc__law_ends : FnScope ["_law_machine_here", "_law_state"] ["_law_machine_here", "_law_state"] (defScope (top 14)) := ⟨rfl, rfl, rfl, by decide +kernel, rfl, by decide +kernel, by decide +kernel⟩
theorem ok__law_ends (F : Fun K "_law_ends" "_law_ends" (top 14) f fd) (Z : Zs mg) (Zx : Exs K mg T 3 sub nms) : FM P w K mg base T 1 f fd ["_law_machine_here", "_law_state"] m__law_ends := by
  unfold m__law_ends
  refine fn_okN rfl rfl F sc__law_ends fun cdv A outer s H E hr => ?_
  have nd := sc__law_ends.nd
  have hu_ := Mn.hu_ hr
  have hu9_ := Mn.hu9 hr
  have hu64_ := Mn.hu64 hr
  let X := cxOf (L2.CX P w) P w K mg base ["_law_machine_here", "_law_state"] "_law_ends" (defScope (top 14)) f cdv A outer s H E
  have tk : Takes X (fun c d _ H => E c d H) := takes_of rfl rfl rfl rfl
  have hp : PassesOwn (model X.prog X.w) X.A X.env X.xe := passes_of rfl
  unfold b__law_ends
  exact (ss_one (s_ret (e_and (e_cmp op_ge (s_cmp _) (e_var 1) e_int) (e_and1 (e_ix (ix_all hu9_) s_ix (e_ix (ix_all hu9_) s_ix (e_var 0) e_int) (e_var 1))))))
theorem sc__law_first : FnScope ["_law_machine_here"] ["_law_machine_here"] (defScope (top 15)) := ⟨rfl, rfl, rfl, by decide +kernel, rfl, by decide +kernel, by decide +kernel⟩
theorem ok__law_first (F : Fun K "_law_first" "_law_first" (top 15) f fd) (Z : Zs mg) (Zx : Exs K mg T 3 sub nms) : FM P w K mg base T 1 f fd ["_law_machine_here"] m__law_first := by
  unfold m__law_first
  refine fn_okN rfl rfl F sc__law_first fun cdv A outer s H E hr => ?_
  have nd := sc__law_first.nd
  have hu_ := Mn.hu_ hr
  have hu9_ := Mn.hu9 hr
  have hu64_ := Mn.hu64 hr
  let X := cxOf (L2.CX P w) P w K mg base ["_law_machine_here"] "_law_first" (defScope (top 15)) f cdv A outer s H E
  have tk : Takes X (fun c d _ H => E c d H) := takes_of rfl rfl rfl rfl
  have hp : PassesOwn (model X.prog X.w) X.A X.env X.xe := passes_of rfl
  unfold b__law_first
  exact (ss_one (s_ret (e_ix (ix_all hu9_) s_ix (e_lst (a_cons (e_un un_neg s_neg e_int) (a_cons e_int a_nil))) (e_callTy call_int1 s_int Z.int (a_cons (e_cmp op_gt (s_cmp _) (e_callB call_lens s_len Z.len (a_cons (e_ix (ix_all hu9_) s_ix (e_var 0) e_int) a_nil)) e_int) a_nil)))))
theorem sc__law_next : FnScope ["_law_machine_here", "_law_state", "_law_letter"] ["_law_machine_here", "_law_state", "_law_letter"] (defScope (top 13)) := ⟨rfl, rfl, rfl, by decide +kernel, rfl, by decide +kernel, by decide +kernel⟩
theorem ok__law_next (F : Fun K "_law_next" "_law_next" (top 13) f fd) (Z : Zs mg) (Zx : Exs K mg T 3 sub nms) : FM P w K mg base T 1 f fd ["_law_machine_here", "_law_state", "_law_letter"] m__law_next := by
  unfold m__law_next
  refine fn_okN rfl rfl F sc__law_next fun cdv A outer s H E hr => ?_
  have nd := sc__law_next.nd
  have hu_ := Mn.hu_ hr
  have hu9_ := Mn.hu9 hr
  have hu64_ := Mn.hu64 hr
  let X := cxOf (L2.CX P w) P w K mg base ["_law_machine_here", "_law_state", "_law_letter"] "_law_next" (defScope (top 13)) f cdv A outer s H E
  have tk : Takes X (fun c d _ H => E c d H) := takes_of rfl rfl rfl rfl
  have hp : PassesOwn (model X.prog X.w) X.A X.env X.xe := passes_of rfl
  unfold b__law_next
  exact (ss_cons (s_if (t_cmp op_lt (s_cmp _) (e_var 1) e_int) (ss_one (s_ret (e_un un_neg s_neg e_int))) ss_nil)
      (ss_one (s_ret (e_ix (ix_all hu9_) s_ix (e_ix (ix_all hu9_) s_ix (e_ix (ix_all hu9_) s_ix (e_var 0) e_int) (e_var 1)) (e_var 2)))))
theorem sc__law_difference : FnScope ["_law_first_here", "_law_second_here", "_law_pairs_here", "_law_words", "_law_at", "_law_pair", "_law_letter", "_law_other"] ["_law_first_here", "_law_second_here"] (defScope (top 19)) := ⟨rfl, rfl, rfl, by decide +kernel, rfl, by decide +kernel, by decide +kernel⟩
theorem ok__law_difference (F : Fun K "_law_difference" "_law_difference" (top 19) f fd) (Z : Zs mg) (Zx : Exs K mg T 3 sub nms) (c__law_next : Cal P w K mg base T "_law_next" 1 ["_law_machine_here", "_law_state", "_law_letter"] m__law_next) (c__law_ends : Cal P w K mg base T "_law_ends" 1 ["_law_machine_here", "_law_state"] m__law_ends) (c__law_first : Cal P w K mg base T "_law_first" 1 ["_law_machine_here"] m__law_first) : FM P w K mg base T 2 f fd ["_law_first_here", "_law_second_here"] m__law_difference := by
  unfold m__law_difference
  refine fn_okN rfl rfl F sc__law_difference fun cdv A outer s H E hr => ?_
  have nd := sc__law_difference.nd
  have hu_ := Mn.hu_ hr
  have hu9_ := Mn.hu9 hr
  have hu64_ := Mn.hu64 hr
  let X := cxOf (L2.CX P w) P w K mg base ["_law_first_here", "_law_second_here", "_law_pairs_here", "_law_words", "_law_at", "_law_pair", "_law_letter", "_law_other"] "_law_difference" (defScope (top 19)) f cdv A outer s H E
  have tk : Takes X (fun c d _ H => E c d H) := takes_of rfl rfl rfl rfl
  have hp : PassesOwn (model X.prog X.w) X.A X.env X.xe := passes_of rfl
  unfold b__law_difference
  exact (ss_cons (s_set nd (e_lst (a_cons (e_tup (a_cons (e_calC c__law_first (hr.mono (by decide)) tk (a_cons (e_var 0) a_nil)) (a_cons (e_calC c__law_first (hr.mono (by decide)) tk (a_cons (e_var 1) a_nil)) a_nil))) a_nil)))
      (ss_cons (s_set nd (e_lst (a_cons (e_lst a_nil) a_nil)))
      (ss_cons (s_for hp rfl (i_range1 Z.range (a_cons (e_bin op_muls s_mul (e_bin op_adds s_add (e_callB call_lens s_len Z.len (a_cons (e_ix (ix_all hu9_) s_ix (e_var 0) e_int) a_nil)) e_int) (e_bin op_adds s_add (e_callB call_lens s_len Z.len (a_cons (e_ix (ix_all hu9_) s_ix (e_var 1) e_int) a_nil)) e_int)) a_nil)) (g_var nd) (ss_one (s_if (t_cmp op_lt (s_cmp _) (e_var 4) (e_callB call_lens s_len Z.len (a_cons (e_var 2) a_nil))) (ss_cons (s_set nd (e_ix (ix_all hu9_) s_ix (e_var 2) (e_var 4)))
      (ss_cons (s_if (t_cmp (op_neD hu64_) s_ne (e_calC c__law_ends (hr.mono (by decide)) tk (a_cons (e_var 0) (a_cons (e_ix (ix_all hu9_) s_ix (e_var 5) e_int) a_nil))) (e_calC c__law_ends (hr.mono (by decide)) tk (a_cons (e_var 1) (a_cons (e_ix (ix_all hu9_) s_ix (e_var 5) e_int) a_nil)))) (ss_one (s_ret (e_tup (a_cons (e_ix (ix_all hu9_) s_ix (e_var 3) (e_var 4)) (a_cons (e_calC c__law_ends (hr.mono (by decide)) tk (a_cons (e_var 0) (a_cons (e_ix (ix_all hu9_) s_ix (e_var 5) e_int) a_nil))) a_nil))))) ss_nil)
      (ss_one (s_for hp rfl (i_range1 Z.range (a_cons (e_ix (ix_all hu9_) s_ix (e_var 0) e_int) a_nil)) (g_var nd) (ss_cons (s_set nd (e_tup (a_cons (e_calC c__law_next (hr.mono (by decide)) tk (a_cons (e_var 0) (a_cons (e_ix (ix_all hu9_) s_ix (e_var 5) e_int) (a_cons (e_var 6) a_nil)))) (a_cons (e_calC c__law_next (hr.mono (by decide)) tk (a_cons (e_var 1) (a_cons (e_ix (ix_all hu9_) s_ix (e_var 5) e_int) (a_cons (e_var 6) a_nil)))) a_nil))))
      (ss_one (s_if (t_cmp (op_hasnt hu_) s_hasnt (e_var 7) (e_var 2)) (ss_cons (s_exp (e_meth p_list PySem.F.plainAttrs_list PySem.F.slot_list_append PySem.F.type_list_append mt_append s_append (e_var 2) (a_cons (e_var 7) a_nil)))
      (ss_one (s_exp (e_meth p_list PySem.F.plainAttrs_list PySem.F.slot_list_append PySem.F.type_list_append mt_append s_append (e_var 3) (a_cons (e_bin op_adds s_add (e_ix (ix_all hu9_) s_ix (e_var 3) (e_var 4)) (e_lst (a_cons (e_var 6) a_nil))) a_nil))))) ss_nil))))))) ss_nil)))
      (ss_one (s_ret e_non)))))
theorem sc__law_told : FnScope ["_law_first_here", "_law_second_here", "_law_due", "_law_told_here", "e"] ["_law_first_here", "_law_second_here"] (defScope (top 20)) := ⟨rfl, rfl, rfl, by decide +kernel, rfl, by decide +kernel, by decide +kernel⟩
theorem ok__law_told (F : Fun K "_law_told" "_law_told" (top 20) f fd) (Z : Zs mg) (Zx : Exs K mg T 3 sub nms) (c_difference : Cal P w K mg base T "difference" 2 ["first", "second"] m_difference) (c__law_difference : Cal P w K mg base T "_law_difference" 2 ["_law_first_here", "_law_second_here"] m__law_difference) : FM P w K mg base T 3 f fd ["_law_first_here", "_law_second_here"] m__law_told := by
  unfold m__law_told
  refine fn_okN rfl rfl F sc__law_told fun cdv A outer s H E hr => ?_
  have nd := sc__law_told.nd
  have hu_ := Mn.hu_ hr
  have hu9_ := Mn.hu9 hr
  have hu64_ := Mn.hu64 hr
  let X := cxOf (L2.CX P w) P w K mg base ["_law_first_here", "_law_second_here", "_law_due", "_law_told_here", "e"] "_law_told" (defScope (top 20)) f cdv A outer s H E
  have tk : Takes X (fun c d _ H => E c d H) := takes_of rfl rfl rfl rfl
  have hp : PassesOwn (model X.prog X.w) X.A X.env X.xe := passes_of rfl
  unfold b__law_told
  exact (ss_cons (s_set nd (e_calC c__law_difference (hr.mono (by decide)) tk (a_cons (e_var 0) (a_cons (e_var 1) a_nil))))
      (ss_cons (s_tryAsX 0 (sa := (fun a c => (sRet (mAnd (mBin opIs (mVar 2) (mC .non)) (mAnd (mIsE a 4 (sub c 2)) (mNot (mIsE a 4 (sub c 1)))))))) Zx rfl rfl nd rfl rfl tk (fun _ _ _ tk1 hp1 => (ss_one (s_set nd (e_calC c_difference (hr.mono (by decide)) tk1 (a_cons (e_var 0) (a_cons (e_var 1) a_nil)))))) (fun _ _ c _ _ hc hz hfl => (ss_one (s_ret (e_and (e_cmp op_isN s_is (e_var 2) e_non) (e_and (e_isEX 2 Zx hc hz hfl Z.isinstance) (e_and1 (e_not (e_isEX 1 Zx hc hz hfl Z.isinstance)))))))) (par_ret (px_and (px_bin (px_var rfl) px_c) (px_and (px_is (b := fun c => sub c 2)) (px_not (px_is (b := fun c => sub c 1)))))))
      (ss_cons (s_if (PW.pt (w_or (t_cmp op_isN s_is (e_var 2) e_non) (w_or (t_not (t_bl (e_isi .tuple Z.isinstance Z.tuple (e_var 3)))) (w_or (t_cmp (op_neD hu64_) s_ne (e_callB call_lens s_len Z.len (a_cons (e_var 3) a_nil)) e_int) (w_or1 (t_not (t_bl (e_isi .bool Z.isinstance Z.bool (e_ix (ix_all hu9_) s_ix (e_var 3) e_int))))))))) (ss_one (s_ret e_bl)) ss_nil)
      (ss_cons (s_if (PW.pt (w_or (t_not (t_bl (e_isi .list Z.isinstance Z.list (e_ix (ix_all hu9_) s_ix (e_var 3) e_int)))) (w_or1 (t_cmp (op_neD hu64_) s_ne (e_var 3) (e_var 2))))) (ss_one (s_ret e_bl)) ss_nil)
      (ss_cons (s_exp (e_meth p_list PySem.F.plainAttrs_list PySem.F.slot_list_append PySem.F.type_list_append mt_append s_append (e_ix (ix_all hu9_) s_ix (e_var 3) e_int) (a_cons e_int a_nil)))
      (ss_one (s_ret (e_cmp (op_eqD hu64_) s_eq (e_calC c_difference (hr.mono (by decide)) tk (a_cons (e_var 0) (a_cons (e_var 1) a_nil))) (e_var 2)))))))))
theorem sc_law : FnScope ["_law_script", "_law_numbers_here", "_law_first_here", "_law_second_here", "_law_due", "_law_other", "_law_k"] ["_law_script"] (defScope (top 23)) := ⟨rfl, rfl, rfl, by decide +kernel, rfl, by decide +kernel, by decide +kernel⟩
theorem ok_law (F : Fun K "law" "law" (top 23) f fd) (Z : Zs mg) (Zx : Exs K mg T 3 sub nms) (c__law_refused : Cal P w K mg base T "_law_refused" 3 ["_law_first_here", "_law_second_here"] m__law_refused) (c__law_machine : Cal P w K mg base T "_law_machine" 1 ["_law_numbers_here", "_law_at", "_law_letters", "_law_states", "_law_gaps"] m__law_machine) (c_difference : Cal P w K mg base T "difference" 2 ["first", "second"] m_difference) (c__law_line : Cal P w K mg base T "_law_line" 1 ["_law_states", "_law_last"] m__law_line) (c__law_told : Cal P w K mg base T "_law_told" 3 ["_law_first_here", "_law_second_here"] m__law_told) (c__law_second : Cal P w K mg base T "_law_second" 2 ["_law_machine_here", "_law_numbers_here"] m__law_second) (c__law_numbers : Cal P w K mg base T "_law_numbers" 1 ["_law_script", "_law_many"] m__law_numbers) : FM P w K mg base T 4 f fd ["_law_script"] m_law := by
  unfold m_law
  refine fn_okN rfl rfl F sc_law fun cdv A outer s H E hr => ?_
  have nd := sc_law.nd
  have hu_ := Mn.hu_ hr
  have hu9_ := Mn.hu9 hr
  have hu64_ := Mn.hu64 hr
  let X := cxOf (L2.CX P w) P w K mg base ["_law_script", "_law_numbers_here", "_law_first_here", "_law_second_here", "_law_due", "_law_other", "_law_k"] "law" (defScope (top 23)) f cdv A outer s H E
  have tk : Takes X (fun c d _ H => E c d H) := takes_of rfl rfl rfl rfl
  have hp : PassesOwn (model X.prog X.w) X.A X.env X.xe := passes_of rfl
  unfold b_law
  exact (ss_cons (s_set nd (e_calC c__law_numbers (hr.mono (by decide)) tk (a_cons (e_var 0) (a_cons e_int a_nil))))
      (ss_cons (s_set nd (e_calC c__law_machine (hr.mono (by decide)) tk (a_cons (e_var 1) (a_cons e_int (a_cons (e_bin op_mod s_mod (e_ix (ix_all hu9_) s_ix (e_var 1) e_int) e_int) (a_cons (e_bin op_mod s_mod (e_ix (ix_all hu9_) s_ix (e_var 1) e_int) e_int) (a_cons (e_bin op_mod s_mod (e_ix (ix_all hu9_) s_ix (e_var 1) e_int) e_int) a_nil)))))))
      (ss_cons (s_set nd (e_calC c__law_second (hr.mono (by decide)) tk (a_cons (e_var 2) (a_cons (e_sl (e_var 1) (o_some e_int) o_none) a_nil))))
      (ss_cons (s_if (PW.pt (w_or (t_not (t_bl (e_calC c__law_told (hr.mono (by decide)) tk (a_cons (e_var 2) (a_cons (e_var 3) a_nil))))) (w_or (t_not (t_bl (e_calC c__law_told (hr.mono (by decide)) tk (a_cons (e_var 3) (a_cons (e_var 2) a_nil))))) (w_or1 (t_not (t_bl (e_calC c__law_told (hr.mono (by decide)) tk (a_cons (e_var 2) (a_cons (e_var 2) a_nil))))))))) (ss_one (s_ret e_bl)) ss_nil)
      (ss_cons (s_if (t_cmp (op_eqD hu64_) s_eq (e_bin op_mod s_mod (e_ix (ix_all hu9_) s_ix (e_var 1) e_int) e_int) e_int) (ss_cons (s_set nd (e_tup (a_cons (e_lc (own := [("_law_k", 6)]) 6 rfl nd (i_range1 Z.range (a_cons e_int a_nil)) (blkOk_by (N := ["_law_script", "_law_numbers_here", "_law_first_here", "_law_second_here", "_law_due", "_law_other", "_law_k"]) (sc := defScope (top 23)) (own := [("_law_k", 6)]) (by decide +kernel)) (fun _ _ _ _ _ => pg_name (i := 6) nd rfl (Or.inl rfl)) (fun _ _ _ _ _ => ts_nil) (fun _ _ _ _ _ => e_int)) (a_cons e_bl a_nil))))
      (ss_one (s_if (t_cmp (op_neD hu64_) s_ne (e_calC c_difference (hr.mono (by decide)) tk (a_cons (e_calC c__law_line (hr.mono (by decide)) tk (a_cons e_int (a_cons e_bl a_nil))) (a_cons (e_calC c__law_line (hr.mono (by decide)) tk (a_cons e_int (a_cons e_bl a_nil))) a_nil))) (e_var 4)) (ss_one (s_ret e_bl)) ss_nil))) ss_nil)
      (ss_cons (s_set nd (e_calC c__law_machine (hr.mono (by decide)) tk (a_cons (e_var 1) (a_cons e_int (a_cons (e_bin op_adds s_add (e_bin op_mod s_mod (e_ix (ix_all hu9_) s_ix (e_var 1) e_int) e_int) e_int) (a_cons e_int (a_cons e_int a_nil)))))))
      (ss_one (s_ret (e_and (e_calC c__law_refused (hr.mono (by decide)) tk (a_cons (e_var 2) (a_cons (e_var 5) a_nil))) (e_and1 (e_calC c__law_refused (hr.mono (by decide)) tk (a_cons (e_var 5) (a_cons (e_var 2) a_nil)))))))))))))
end
end K28

set_option maxHeartbeats 1000000
/-! K28p: the plain law of first differences. -/
namespace K28
open Mn L2
theorem we_eq_of {α : Type} {r : R α} {a : α} {m : Hm} (h : we r (fun v h' => v = a ∧ h' = m) fun _ _ => False) (Q : α → Hm → Prop) (X : Nat → Hm → Prop) : we r Q X = Q a m := by
  obtain ⟨v, k, e, rfl, rfl⟩ := h.ok
  rw [e, we_ok]
section
variable {M N : Mach} {h : Hm}
theorem first_state_is (M : Mach) (h : Hm) : ∀ Q X, we (m_first_state [M.val] h) Q X = Q (.int M.fst) h := we_eq_of (by
  rw [m_first_state.eq_def]
  refine we_fn rfl ?_
  show ws (b_first_state [some M.val] h) _
  rw [b_first_state.eq_def]
  simp -implicitDefEqProofs only [we_bin, we_un, we_call, we_nil, we_cons, we_tup, we_lst, we_ifx, we_tB, we_tAnd, we_tOr, we_tNot, we_and, we_or, we_not, we_c, we_ok, we_true, isBl_bl, ws_nx, ws_brk, ws_cnt, ws_retN, ws_seq, ws_exp, ws_ret, ws_if, ws_asg, ws_asgT, ws_asgS, ws_for, sAug_eq, we_meth, mVar_eq, List.getElem?_cons_zero, List.getElem?_cons_succ, List.set_cons_zero, List.set_cons_succ, ↓reduceIte, we_add, we_sub, we_mul, we_mod, we_fdiv, we_cmp, we_neg, we_abs, we_int, we_intB, we_max2, we_min2, we_rng1, we_rng2, we_rng1c, we_rng2c, we_lenRo, we_lenTup, we_eqI, we_neI, we_eqB, we_neB, we_fnC2, we_sl, we_partN, we_partS, isInt_int, Int.reduceLT, Int.reduceLE, lim_pos, lim_1, lim_2, lim_3, we_dict1, ws_gvar, wipeS, we_addI, ws_raise, key2, isTup_tup, List.length_cons, List.length_nil, Nat.reduceAdd, Nat.zero_add, Bool.and_true, Bool.true_and, true_and, and_true, Bool.or_true, Bool.true_or, ite_dec, we_ixM1, we_lenM, List.length_map]
  unfold Mach.fst Mach.n
  by_cases c : (0 : Int) < M.mv.length
  · rw [if_pos c, if_pos (by omega)]; all_goals first | exact ⟨rfl, rfl⟩ | rfl
  · rw [if_neg c, if_neg (by omega)]; all_goals first | exact ⟨rfl, rfl⟩ | rfl)
theorem law_first_is (M : Mach) (h : Hm) : ∀ Q X, we (m__law_first [M.val] h) Q X = Q (.int M.fst) (h ++ [.lst [.int (-1), .int 0]]) := we_eq_of (by
  rw [m__law_first.eq_def]
  refine we_fn rfl ?_
  show ws (b__law_first [some M.val] h) _
  rw [b__law_first.eq_def]
  simp -implicitDefEqProofs only [we_bin, we_un, we_call, we_nil, we_cons, we_tup, we_lst, we_ifx, we_tB, we_tAnd, we_tOr, we_tNot, we_and, we_or, we_not, we_c, we_ok, we_true, isBl_bl, ws_nx, ws_brk, ws_cnt, ws_retN, ws_seq, ws_exp, ws_ret, ws_if, ws_asg, ws_asgT, ws_asgS, ws_for, sAug_eq, we_meth, mVar_eq, List.getElem?_cons_zero, List.getElem?_cons_succ, List.set_cons_zero, List.set_cons_succ, ↓reduceIte, we_add, we_sub, we_mul, we_mod, we_fdiv, we_cmp, we_neg, we_abs, we_int, we_intB, we_max2, we_min2, we_rng1, we_rng2, we_rng1c, we_rng2c, we_lenRo, we_lenTup, we_eqI, we_neI, we_eqB, we_neB, we_fnC2, we_sl, we_partN, we_partS, isInt_int, Int.reduceLT, Int.reduceLE, lim_pos, lim_1, lim_2, lim_3, we_dict1, ws_gvar, wipeS, we_addI, ws_raise, key2, isTup_tup, List.length_cons, List.length_nil, Nat.reduceAdd, Nat.zero_add, Bool.and_true, Bool.true_and, true_and, and_true, Bool.or_true, Bool.true_or, ite_dec, we_ixM1, we_lenM, List.length_map]
  unfold Mach.fst Mach.n
  by_cases c : (0 : Int) < M.mv.length
  · rw [we_ixL (get_push _ _) (v := .int 0) (by rw [decide_eq_true c]; rfl), if_pos (by omega)]; exact ⟨rfl, rfl⟩
  · rw [we_ixL (get_push _ _) (v := .int (-1)) (by rw [decide_eq_false c]; rfl), if_neg (by omega)]; exact ⟨rfl, rfl⟩)
theorem row_at (ok : M.Ok) {q : Int} (hq : Ent M.n q) (h0 : ¬ q < 0) : ∃ r, M.mv.getD q.toNat [] = r ∧ r.length = M.L ∧ atI (M.mv.map rowV) q = some (.tup (r.map .int)) := by
  have h1 : q.toNat < M.mv.length := by have := hq.2; unfold Mach.n at this; omega
  refine ⟨_, rfl, ?_, atI_int (by omega) ?_⟩
  · rw [List.getD_eq_getElem?_getD, List.getElem?_eq_getElem h1, Option.getD_some]
    exact (ok.row _ (List.getElem_mem h1)).1
  · rw [List.getElem?_map, List.getD_eq_getElem?_getD, List.getElem?_eq_getElem h1]; rfl
theorem ent_at {r : List Int} {a : Nat} (ha : a < r.length) : atI (r.map Val.int) (a : Int) = some (.int (r.getD a (-1))) := by
  refine Mn.atI_nat ?_
  rw [List.getElem?_map, List.getD_eq_getElem?_getD, List.getElem?_eq_getElem ha]; rfl
theorem acc_at (ok : M.Ok) {q : Int} (hq : Ent M.n q) (h0 : ¬ q < 0) : atI (M.ac.map Val.bl) q = some (.bl (M.ac.getD q.toNat false)) := by
  have h1 : q.toNat < M.ac.length := by have := hq.2; have := ok.len; omega
  refine atI_int (by omega) ?_
  rw [List.getElem?_map, List.getD_eq_getElem?_getD, List.getElem?_eq_getElem h1]; rfl
theorem next_state_is (ok : M.Ok) {q : Int} {a : Nat} (hq : Ent M.n q) (ha : a < M.L) (h : Hm) : ∀ Q X, we (m_next_state [M.val, .int q, .int a] h) Q X = Q (.int (M.nx q a)) h := we_eq_of (by
  rw [m_next_state.eq_def]
  refine we_fn rfl ?_
  show ws (b_next_state [some M.val, some (.int q), some (.int a)] h) _
  rw [b_next_state.eq_def]
  unfold Mach.nx
  by_cases c : q < 0
  · simp -implicitDefEqProofs only [we_bin, we_un, we_call, we_nil, we_cons, we_tup, we_lst, we_ifx, we_tB, we_tAnd, we_tOr, we_tNot, we_and, we_or, we_not, we_c, we_ok, we_true, isBl_bl, ws_nx, ws_brk, ws_cnt, ws_retN, ws_seq, ws_exp, ws_ret, ws_if, ws_asg, ws_asgT, ws_asgS, ws_for, sAug_eq, we_meth, mVar_eq, List.getElem?_cons_zero, List.getElem?_cons_succ, List.set_cons_zero, List.set_cons_succ, ↓reduceIte, we_add, we_sub, we_mul, we_mod, we_fdiv, we_cmp, we_neg, we_abs, we_int, we_intB, we_max2, we_min2, we_rng1, we_rng2, we_rng1c, we_rng2c, we_lenRo, we_lenTup, we_eqI, we_neI, we_eqB, we_neB, we_fnC2, we_sl, we_partN, we_partS, isInt_int, Int.reduceLT, Int.reduceLE, lim_pos, lim_1, lim_2, lim_3, we_dict1, ws_gvar, wipeS, we_addI, ws_raise, key2, isTup_tup, List.length_cons, List.length_nil, Nat.reduceAdd, Nat.zero_add, Bool.and_true, Bool.true_and, true_and, and_true, Bool.or_true, Bool.true_or, ite_dec, we_ixM1, c]
    all_goals exact ⟨rfl, rfl⟩
  · obtain ⟨r, e1, e2, e3⟩ := row_at ok hq c
    simp -implicitDefEqProofs only [we_bin, we_un, we_call, we_nil, we_cons, we_tup, we_lst, we_ifx, we_tB, we_tAnd, we_tOr, we_tNot, we_and, we_or, we_not, we_c, we_ok, we_true, isBl_bl, ws_nx, ws_brk, ws_cnt, ws_retN, ws_seq, ws_exp, ws_ret, ws_if, ws_asg, ws_asgT, ws_asgS, ws_for, sAug_eq, we_meth, mVar_eq, List.getElem?_cons_zero, List.getElem?_cons_succ, List.set_cons_zero, List.set_cons_succ, ↓reduceIte, we_add, we_sub, we_mul, we_mod, we_fdiv, we_cmp, we_neg, we_abs, we_int, we_intB, we_max2, we_min2, we_rng1, we_rng2, we_rng1c, we_rng2c, we_lenRo, we_lenTup, we_eqI, we_neI, we_eqB, we_neB, we_fnC2, we_sl, we_partN, we_partS, isInt_int, Int.reduceLT, Int.reduceLE, lim_pos, lim_1, lim_2, lim_3, we_dict1, ws_gvar, wipeS, we_addI, ws_raise, key2, isTup_tup, List.length_cons, List.length_nil, Nat.reduceAdd, Nat.zero_add, Bool.and_true, Bool.true_and, true_and, and_true, Bool.or_true, Bool.true_or, ite_dec, we_ixM1, c, we_ixTup e3, we_ixTup (ent_at (r := r) (a := a) (by omega)), e1]
    all_goals exact ⟨rfl, rfl⟩)
theorem law_next_is (ok : M.Ok) {q : Int} {a : Nat} (hq : Ent M.n q) (ha : a < M.L) (h : Hm) : ∀ Q X, we (m__law_next [M.val, .int q, .int a] h) Q X = Q (.int (M.nx q a)) h := we_eq_of (by
  rw [m__law_next.eq_def]
  refine we_fn rfl ?_
  show ws (b__law_next [some M.val, some (.int q), some (.int a)] h) _
  rw [b__law_next.eq_def]
  unfold Mach.nx
  by_cases c : q < 0
  · simp -implicitDefEqProofs only [we_bin, we_un, we_call, we_nil, we_cons, we_tup, we_lst, we_ifx, we_tB, we_tAnd, we_tOr, we_tNot, we_and, we_or, we_not, we_c, we_ok, we_true, isBl_bl, ws_nx, ws_brk, ws_cnt, ws_retN, ws_seq, ws_exp, ws_ret, ws_if, ws_asg, ws_asgT, ws_asgS, ws_for, sAug_eq, we_meth, mVar_eq, List.getElem?_cons_zero, List.getElem?_cons_succ, List.set_cons_zero, List.set_cons_succ, ↓reduceIte, we_add, we_sub, we_mul, we_mod, we_fdiv, we_cmp, we_neg, we_abs, we_int, we_intB, we_max2, we_min2, we_rng1, we_rng2, we_rng1c, we_rng2c, we_lenRo, we_lenTup, we_eqI, we_neI, we_eqB, we_neB, we_fnC2, we_sl, we_partN, we_partS, isInt_int, Int.reduceLT, Int.reduceLE, lim_pos, lim_1, lim_2, lim_3, we_dict1, ws_gvar, wipeS, we_addI, ws_raise, key2, isTup_tup, List.length_cons, List.length_nil, Nat.reduceAdd, Nat.zero_add, Bool.and_true, Bool.true_and, true_and, and_true, Bool.or_true, Bool.true_or, ite_dec, we_ixM1, c]
    all_goals exact ⟨rfl, rfl⟩
  · obtain ⟨r, e1, e2, e3⟩ := row_at ok hq c
    simp -implicitDefEqProofs only [we_bin, we_un, we_call, we_nil, we_cons, we_tup, we_lst, we_ifx, we_tB, we_tAnd, we_tOr, we_tNot, we_and, we_or, we_not, we_c, we_ok, we_true, isBl_bl, ws_nx, ws_brk, ws_cnt, ws_retN, ws_seq, ws_exp, ws_ret, ws_if, ws_asg, ws_asgT, ws_asgS, ws_for, sAug_eq, we_meth, mVar_eq, List.getElem?_cons_zero, List.getElem?_cons_succ, List.set_cons_zero, List.set_cons_succ, ↓reduceIte, we_add, we_sub, we_mul, we_mod, we_fdiv, we_cmp, we_neg, we_abs, we_int, we_intB, we_max2, we_min2, we_rng1, we_rng2, we_rng1c, we_rng2c, we_lenRo, we_lenTup, we_eqI, we_neI, we_eqB, we_neB, we_fnC2, we_sl, we_partN, we_partS, isInt_int, Int.reduceLT, Int.reduceLE, lim_pos, lim_1, lim_2, lim_3, we_dict1, ws_gvar, wipeS, we_addI, ws_raise, key2, isTup_tup, List.length_cons, List.length_nil, Nat.reduceAdd, Nat.zero_add, Bool.and_true, Bool.true_and, true_and, and_true, Bool.or_true, Bool.true_or, ite_dec, we_ixM1, c, we_ixTup e3, we_ixTup (ent_at (r := r) (a := a) (by omega)), e1]
    all_goals exact ⟨rfl, rfl⟩)
theorem is_accepting_is (ok : M.Ok) {q : Int} (hq : Ent M.n q) (h : Hm) : ∀ Q X, we (m_is_accepting [M.val, .int q] h) Q X = Q (.bl (M.ends q)) h := we_eq_of (by
  rw [m_is_accepting.eq_def]
  refine we_fn rfl ?_
  show ws (b_is_accepting [some M.val, some (.int q)] h) _
  rw [b_is_accepting.eq_def]
  unfold Mach.ends
  by_cases c : q < 0
  · have c' : ¬ 0 ≤ q := by omega
    simp -implicitDefEqProofs only [we_bin, we_un, we_call, we_nil, we_cons, we_tup, we_lst, we_ifx, we_tB, we_tAnd, we_tOr, we_tNot, we_and, we_or, we_not, we_c, we_ok, we_true, isBl_bl, ws_nx, ws_brk, ws_cnt, ws_retN, ws_seq, ws_exp, ws_ret, ws_if, ws_asg, ws_asgT, ws_asgS, ws_for, sAug_eq, we_meth, mVar_eq, List.getElem?_cons_zero, List.getElem?_cons_succ, List.set_cons_zero, List.set_cons_succ, ↓reduceIte, we_add, we_sub, we_mul, we_mod, we_fdiv, we_cmp, we_neg, we_abs, we_int, we_intB, we_max2, we_min2, we_rng1, we_rng2, we_rng1c, we_rng2c, we_lenRo, we_lenTup, we_eqI, we_neI, we_eqB, we_neB, we_fnC2, we_sl, we_partN, we_partS, isInt_int, Int.reduceLT, Int.reduceLE, lim_pos, lim_1, lim_2, lim_3, we_dict1, ws_gvar, wipeS, we_addI, ws_raise, key2, isTup_tup, List.length_cons, List.length_nil, Nat.reduceAdd, Nat.zero_add, Bool.and_true, Bool.true_and, true_and, and_true, Bool.or_true, Bool.true_or, ite_dec, we_ixM2, c, c']
    all_goals exact ⟨rfl, rfl⟩
  · have c' : 0 ≤ q := by omega
    simp -implicitDefEqProofs only [we_bin, we_un, we_call, we_nil, we_cons, we_tup, we_lst, we_ifx, we_tB, we_tAnd, we_tOr, we_tNot, we_and, we_or, we_not, we_c, we_ok, we_true, isBl_bl, ws_nx, ws_brk, ws_cnt, ws_retN, ws_seq, ws_exp, ws_ret, ws_if, ws_asg, ws_asgT, ws_asgS, ws_for, sAug_eq, we_meth, mVar_eq, List.getElem?_cons_zero, List.getElem?_cons_succ, List.set_cons_zero, List.set_cons_succ, ↓reduceIte, we_add, we_sub, we_mul, we_mod, we_fdiv, we_cmp, we_neg, we_abs, we_int, we_intB, we_max2, we_min2, we_rng1, we_rng2, we_rng1c, we_rng2c, we_lenRo, we_lenTup, we_eqI, we_neI, we_eqB, we_neB, we_fnC2, we_sl, we_partN, we_partS, isInt_int, Int.reduceLT, Int.reduceLE, lim_pos, lim_1, lim_2, lim_3, we_dict1, ws_gvar, wipeS, we_addI, ws_raise, key2, isTup_tup, List.length_cons, List.length_nil, Nat.reduceAdd, Nat.zero_add, Bool.and_true, Bool.true_and, true_and, and_true, Bool.or_true, Bool.true_or, ite_dec, we_ixM2, c, c', we_ixTup (acc_at ok hq c)]
    all_goals exact ⟨rfl, rfl⟩)
theorem law_ends_is (ok : M.Ok) {q : Int} (hq : Ent M.n q) (h : Hm) : ∀ Q X, we (m__law_ends [M.val, .int q] h) Q X = Q (.bl (M.ends q)) h := we_eq_of (by
  rw [m__law_ends.eq_def]
  refine we_fn rfl ?_
  show ws (b__law_ends [some M.val, some (.int q)] h) _
  rw [b__law_ends.eq_def]
  unfold Mach.ends
  by_cases c : q < 0
  · have c' : ¬ 0 ≤ q := by omega
    simp -implicitDefEqProofs only [we_bin, we_un, we_call, we_nil, we_cons, we_tup, we_lst, we_ifx, we_tB, we_tAnd, we_tOr, we_tNot, we_and, we_or, we_not, we_c, we_ok, we_true, isBl_bl, ws_nx, ws_brk, ws_cnt, ws_retN, ws_seq, ws_exp, ws_ret, ws_if, ws_asg, ws_asgT, ws_asgS, ws_for, sAug_eq, we_meth, mVar_eq, List.getElem?_cons_zero, List.getElem?_cons_succ, List.set_cons_zero, List.set_cons_succ, ↓reduceIte, we_add, we_sub, we_mul, we_mod, we_fdiv, we_cmp, we_neg, we_abs, we_int, we_intB, we_max2, we_min2, we_rng1, we_rng2, we_rng1c, we_rng2c, we_lenRo, we_lenTup, we_eqI, we_neI, we_eqB, we_neB, we_fnC2, we_sl, we_partN, we_partS, isInt_int, Int.reduceLT, Int.reduceLE, lim_pos, lim_1, lim_2, lim_3, we_dict1, ws_gvar, wipeS, we_addI, ws_raise, key2, isTup_tup, List.length_cons, List.length_nil, Nat.reduceAdd, Nat.zero_add, Bool.and_true, Bool.true_and, true_and, and_true, Bool.or_true, Bool.true_or, ite_dec, we_ixM2, c, c']
    all_goals exact ⟨rfl, rfl⟩
  · have c' : 0 ≤ q := by omega
    simp -implicitDefEqProofs only [we_bin, we_un, we_call, we_nil, we_cons, we_tup, we_lst, we_ifx, we_tB, we_tAnd, we_tOr, we_tNot, we_and, we_or, we_not, we_c, we_ok, we_true, isBl_bl, ws_nx, ws_brk, ws_cnt, ws_retN, ws_seq, ws_exp, ws_ret, ws_if, ws_asg, ws_asgT, ws_asgS, ws_for, sAug_eq, we_meth, mVar_eq, List.getElem?_cons_zero, List.getElem?_cons_succ, List.set_cons_zero, List.set_cons_succ, ↓reduceIte, we_add, we_sub, we_mul, we_mod, we_fdiv, we_cmp, we_neg, we_abs, we_int, we_intB, we_max2, we_min2, we_rng1, we_rng2, we_rng1c, we_rng2c, we_lenRo, we_lenTup, we_eqI, we_neI, we_eqB, we_neB, we_fnC2, we_sl, we_partN, we_partS, isInt_int, Int.reduceLT, Int.reduceLE, lim_pos, lim_1, lim_2, lim_3, we_dict1, ws_gvar, wipeS, we_addI, ws_raise, key2, isTup_tup, List.length_cons, List.length_nil, Nat.reduceAdd, Nat.zero_add, Bool.and_true, Bool.true_and, true_and, and_true, Bool.or_true, Bool.true_or, ite_dec, we_ixM2, c, c', we_ixTup (acc_at ok hq c)]
    all_goals exact ⟨rfl, rfl⟩)
end
end K28

set_option maxHeartbeats 1000000
/-! K28q: difference is breadth first. -/
namespace K28
open Mn L2
theorem we_xn_of {α : Type} {r : R α} {c : Nat} {m : Hm} (h : we r (fun _ _ => False) fun c' h' => c' = c ∧ h' = m) (Q : α → Hm → Prop) (X : Nat → Hm → Prop) : we r Q X = X c m := by
  cases r with
  | ok a k => rw [we_ok] at h; exact h.elim
  | xn d k => rw [we_xn] at h; obtain ⟨rfl, rfl⟩ := h; exact we_xn
  | bad => rw [we_bad] at h; exact h.elim
theorem check_same {M N : Mach} (e : M.L = N.L) (h : Hm) : ∀ Q X, we (m_check_letters [M.val, N.val] h) Q X = Q .non h := we_eq_of (by
  rw [m_check_letters.eq_def]
  refine we_fn rfl ?_
  show ws (b_check_letters [some M.val, some N.val] h) _
  rw [b_check_letters.eq_def]
  simp -implicitDefEqProofs only [we_bin, we_un, we_call, we_nil, we_cons, we_tup, we_lst, we_ifx, we_tB, we_tAnd, we_tOr, we_tNot, we_and, we_or, we_not, we_c, we_ok, we_true, isBl_bl, ws_nx, ws_brk, ws_cnt, ws_retN, ws_seq, ws_exp, ws_ret, ws_if, ws_asg, ws_asgT, ws_asgS, ws_for, sAug_eq, we_meth, mVar_eq, List.getElem?_cons_zero, List.getElem?_cons_succ, List.set_cons_zero, List.set_cons_succ, ↓reduceIte, we_add, we_sub, we_mul, we_mod, we_fdiv, we_cmp, we_neg, we_abs, we_int, we_intB, we_max2, we_min2, we_rng1, we_rng2, we_rng1c, we_rng2c, we_lenRo, we_lenTup, we_eqI, we_neI, we_eqB, we_neB, we_fnC2, we_sl, we_partN, we_partS, isInt_int, Int.reduceLT, Int.reduceLE, lim_pos, lim_1, lim_2, lim_3, we_dict1, ws_gvar, wipeS, we_addI, ws_raise, key2, isTup_tup, List.length_cons, List.length_nil, Nat.reduceAdd, Nat.zero_add, Bool.and_true, Bool.true_and, true_and, and_true, Bool.or_true, Bool.true_or, ite_dec, we_ixM0, e, decide_true, Bool.not_true, Bool.false_eq_true])
theorem check_diff {M N : Mach} (e : M.L ≠ N.L) (h : Hm) : ∀ Q X, we (m_check_letters [M.val, N.val] h) Q X = X 1 h := we_xn_of (by
  have e' : ((M.L : Int) = N.L) = False := eq_false (by omega)
  rw [m_check_letters.eq_def]
  refine we_fn rfl ?_
  show ws (b_check_letters [some M.val, some N.val] h) _
  rw [b_check_letters.eq_def]
  simp -implicitDefEqProofs only [we_bin, we_un, we_call, we_nil, we_cons, we_tup, we_lst, we_ifx, we_tB, we_tAnd, we_tOr, we_tNot, we_and, we_or, we_not, we_c, we_ok, we_true, isBl_bl, ws_nx, ws_brk, ws_cnt, ws_retN, ws_seq, ws_exp, ws_ret, ws_if, ws_asg, ws_asgT, ws_asgS, ws_for, sAug_eq, we_meth, mVar_eq, List.getElem?_cons_zero, List.getElem?_cons_succ, List.set_cons_zero, List.set_cons_succ, ↓reduceIte, we_add, we_sub, we_mul, we_mod, we_fdiv, we_cmp, we_neg, we_abs, we_int, we_intB, we_max2, we_min2, we_rng1, we_rng2, we_rng1c, we_rng2c, we_lenRo, we_lenTup, we_eqI, we_neI, we_eqB, we_neB, we_fnC2, we_sl, we_partN, we_partS, isInt_int, Int.reduceLT, Int.reduceLE, lim_pos, lim_1, lim_2, lim_3, we_dict1, ws_gvar, wipeS, we_addI, ws_raise, key2, isTup_tup, List.length_cons, List.length_nil, Nat.reduceAdd, Nat.zero_add, Bool.and_true, Bool.true_and, true_and, and_true, Bool.or_true, Bool.true_or, ite_dec, we_ixM0, e', decide_false, Bool.not_false])
def wV (w : List Nat) : List Val := w.map fun (a : Nat) => Val.int (a : Int)
/-- the program's heap in the search -/
structure HW (h h' : Hm) (D O : Nat) (b : Bst) (ls : List Nat) : Prop where
  x : Ext h h'
  d : h'[D]? = some (.dN (kvsOf b.ps ls))
  o : h'[O]? = some (.lst (b.ps.map pairV))
  ll : ls.length = b.ps.length
  w : ∀ (j l : Nat) (w : List Nat), ls[j]? = some l → b.ws[j]? = some w → h'[l]? = some (.lst (wV w)) ∧ l ≠ D ∧ l ≠ O ∧ h.length ≤ l
theorem HW.grow {h h' : Hm} {D O : Nat} {b : Bst} {ls : List Nat} (k : HW h h' D O b ls) (hD : h.length ≤ D) (hO : h.length ≤ O) (hDO : D ≠ O) (hlen : b.ws.length = b.ps.length) {p : Pr} {w : List Nat} (o1 : HObj) :
    HW h (((h' ++ [o1] ++ [HObj.lst (wV w)]).set D (.dN (kvsOf (b.ps ++ [p]) (ls ++ [(h' ++ [o1]).length])))).set O (.lst (b.ps.map pairV ++ [pairV p]))) D O ⟨b.ps ++ [p], b.ws ++ [w]⟩ (ls ++ [(h' ++ [o1]).length]) := by
  have lD := get_lt k.d
  have lO := get_lt k.o
  have gD : (h' ++ [o1] ++ [HObj.lst (wV w)])[D]? = some (.dN (kvsOf b.ps ls)) := get_push_old (get_push_old k.d)
  have gO : (h' ++ [o1] ++ [HObj.lst (wV w)])[O]? = some (.lst (b.ps.map pairV)) := get_push_old (get_push_old k.o)
  have nl : D ≠ (h' ++ [o1]).length ∧ O ≠ (h' ++ [o1]).length := by simp; omega
  refine ⟨((k.x.setNew.setNew).set hD).set hO, ?_, ?_, by simp [k.ll], fun j l v hl hv => ?_⟩
  · rw [get_set_ne (Ne.symm hDO), get_set_same gD]
  · rw [get_set_same (q := .lst (b.ps.map pairV)) (by rw [get_set_ne hDO]; exact gO), map_push']
  · by_cases hj : j < ls.length
    · rw [List.getElem?_append_left hj] at hl
      rw [List.getElem?_append_left (by rw [hlen, ← k.ll]; exact hj)] at hv
      obtain ⟨a1, a2, a3, a4⟩ := k.w j l v hl hv
      refine ⟨?_, a2, a3, a4⟩
      rw [get_set_ne (Ne.symm a3), get_set_ne (Ne.symm a2)]
      exact get_push_old (get_push_old a1)
    · have ej : j = ls.length := by
        have := (List.getElem?_eq_some_iff.mp hl).1
        simp at this; omega
      subst ej
      rw [List.getElem?_append_right (Nat.le_refl _)] at hl
      rw [List.getElem?_append_right (by rw [hlen, ← k.ll]; exact Nat.le_refl _)] at hv
      simp at hl
      rw [hlen, ← k.ll] at hv
      simp at hv
      subst hl; subst hv
      refine ⟨?_, by simp; omega, by simp; omega, by have := k.x.len; simp; omega⟩
      have n1 : O ≠ h'.length + 1 := by have := nl.2; simpa using this
      have n2 : D ≠ h'.length + 1 := by have := nl.1; simpa using this
      rw [get_set_ne n1, get_set_ne n2]
      simp
theorem bfs_end {M N : Mach} : ∀ {f i : Nat} {b : Bst}, b.ps.length ≤ i → bfs M N f i b = none
  | 0, _, _, _ => rfl
  | f + 1, i, b, h => by unfold bfs; rw [List.getElem?_eq_none h]
/-- how far the search is -/
structure Far (M N : Mach) (i : Nat) (b : Bst) : Prop where
  ok : BOk M N b
  le : i ≤ b.ps.length
  eq : bfs M N (box M N - i) i b = diff M N
theorem far0 (M N : Mach) : Far M N 0 (bst0 M N) := ⟨bok0 M N, Nat.zero_le _, rfl⟩
theorem Far.go {M N : Mach} {i : Nat} {b : Bst} (F : Far M N i b) {p : Pr} {w : List Nat} (hp : b.ps[i]? = some p) (hw : b.ws[i]? = some w) (oM : M.Ok) (oN : N.Ok) (hL : M.L = N.L) (e : M.ends p.1 = N.ends p.2) : Far M N (i + 1) (grow M N p w b M.L) := by
  have hi := (List.getElem?_eq_some_iff.mp hp).1
  have hs := F.ok.small
  have wl := F.ok.wl w (List.mem_of_getElem? hw)
  refine ⟨F.ok.grow oM oN (List.mem_of_getElem? hp) w wl M.L (Nat.le_refl _) (by omega), Nat.le_trans hi grow_len, ?_⟩
  rw [← F.eq]
  obtain ⟨f, hf⟩ : ∃ f, box M N - i = f + 1 := ⟨box M N - i - 1, by omega⟩
  rw [hf, show box M N - (i + 1) = f by omega]
  conv => rhs; unfold bfs
  rw [hp]
  dsimp only
  rw [if_pos e, List.getD_eq_getElem?_getD, hw, Option.getD_some]
theorem Far.out {M N : Mach} {i : Nat} {b : Bst} (F : Far M N i b) {p : Pr} {w : List Nat} (hp : b.ps[i]? = some p) (hw : b.ws[i]? = some w) (e : M.ends p.1 ≠ N.ends p.2) : diff M N = some (w, M.ends p.1) := by
  have hi := (List.getElem?_eq_some_iff.mp hp).1
  have hs := F.ok.small
  rw [← F.eq]
  obtain ⟨f, hf⟩ : ∃ f, box M N - i = f + 1 := ⟨box M N - i - 1, by omega⟩
  rw [hf]
  unfold bfs
  rw [hp]
  dsimp only
  rw [if_neg e, List.getD_eq_getElem?_getD, hw, Option.getD_some]
theorem Far.done {M N : Mach} {i : Nat} {b : Bst} (F : Far M N i b) (h : b.ps.length ≤ i) : diff M N = none := by rw [← F.eq]; exact bfs_end h
theorem difference_ok {M N : Mach} {h : Hm} (oM : M.Ok) (oN : N.Ok) (hL : M.L = N.L) (hs : M.L < 1000) (hbx : box M N < 100000) :
    we (m_difference [M.val, N.val] h) (fun v h' => ∃ w b l, diff M N = some (w, b) ∧ v = .tup [.loc l, .bl b] ∧ Ext h h' ∧ h.length ≤ l ∧ h'[l]? = some (.lst (wV w)) ∧ w.length < 100000) (fun c h' => diff M N = none ∧ c = 2 ∧ Ext h h') := by
  rw [m_difference.eq_def]
  refine we_fn rfl ?_
  show ws (b_difference [some M.val, some N.val, none, none, none, none, none, none, none] h) _
  rw [b_difference.eq_def]
  simp -implicitDefEqProofs only [we_bin, we_un, we_call, we_nil, we_cons, we_tup, we_lst, we_ifx, we_tB, we_tAnd, we_tOr, we_tNot, we_and, we_or, we_not, we_c, we_ok, we_true, isBl_bl, ws_nx, ws_brk, ws_cnt, ws_retN, ws_seq, ws_exp, ws_ret, ws_if, ws_asg, ws_asgT, ws_asgS, ws_for, sAug_eq, we_meth, mVar_eq, List.getElem?_cons_zero, List.getElem?_cons_succ, List.set_cons_zero, List.set_cons_succ, ↓reduceIte, we_add, we_sub, we_mul, we_mod, we_fdiv, we_cmp, we_neg, we_abs, we_int, we_intB, we_max2, we_min2, we_rng1, we_rng2, we_rng1c, we_rng2c, we_lenRo, we_lenTup, we_eqI, we_neI, we_eqB, we_neB, we_fnC2, we_sl, we_partN, we_partS, isInt_int, Int.reduceLT, Int.reduceLE, lim_pos, lim_1, lim_2, lim_3, we_dict1, ws_gvar, wipeS, we_addI, ws_raise, key2, isTup_tup, List.length_cons, List.length_nil, Nat.reduceAdd, Nat.zero_add, Bool.and_true, Bool.true_and, true_and, and_true, Bool.or_true, Bool.true_or, ite_dec, check_same hL, first_state_is]
  refine ws_while (k := box M N + 1) (fun k s h' => ∃ i b ls a6 a7 a8, i + k = box M N + 1 ∧ s = [some M.val, some N.val, some (pairV (M.fst, N.fst)), some (.loc (h ++ [HObj.lst []]).length), some (.loc (h ++ [HObj.lst []] ++ [HObj.dN [(pairV (M.fst, N.fst), .loc h.length)]]).length), some (.int (i : Nat)), a6, a7, a8] ∧
    HW h h' (h ++ [HObj.lst []]).length (h ++ [HObj.lst []] ++ [HObj.dN [(pairV (M.fst, N.fst), .loc h.length)]]).length b ls ∧ Far M N i b) ⟨0, bst0 M N, [h.length], none, none, none, by omega, rfl, ?_, far0 M N⟩ (by unfold fuel; omega) ?_
  · refine ⟨((Ext.push h _).setNew).setNew, get_push_old (get_push _ _), get_push _ _, rfl, fun j l w hl hw => ?_⟩
    cases j with
    | zero =>
      simp at hl
      have : w = [] := by simpa [bst0] using hw.symm
      subst this; subst hl
      exact ⟨get_push_old (get_push_old (get_push _ _)), by simp, by simp, Nat.le_refl _⟩
    | succ j => simp at hl
  rintro k s h' ⟨i, b, ls, a6, a7, a8, hk, rfl, H, F⟩
  simp -implicitDefEqProofs only [we_bin, we_un, we_call, we_nil, we_cons, we_tup, we_lst, we_ifx, we_tB, we_tAnd, we_tOr, we_tNot, we_and, we_or, we_not, we_c, we_ok, we_true, isBl_bl, ws_nx, ws_brk, ws_cnt, ws_retN, ws_seq, ws_exp, ws_ret, ws_if, ws_asg, ws_asgT, ws_asgS, ws_for, sAug_eq, we_meth, mVar_eq, List.getElem?_cons_zero, List.getElem?_cons_succ, List.set_cons_zero, List.set_cons_succ, ↓reduceIte, we_add, we_sub, we_mul, we_mod, we_fdiv, we_cmp, we_neg, we_abs, we_int, we_intB, we_max2, we_min2, we_rng1, we_rng2, we_rng1c, we_rng2c, we_lenRo, we_lenTup, we_eqI, we_neI, we_eqB, we_neB, we_fnC2, we_sl, we_partN, we_partS, isInt_int, Int.reduceLT, Int.reduceLE, lim_pos, lim_1, lim_2, lim_3, we_dict1, ws_gvar, wipeS, we_addI, ws_raise, key2, isTup_tup, List.length_cons, List.length_nil, Nat.reduceAdd, Nat.zero_add, Bool.and_true, Bool.true_and, true_and, and_true, Bool.or_true, Bool.true_or, ite_dec, we_len H.o, List.length_map]
  by_cases hi : i < b.ps.length
  · have hi' : (i : Int) < b.ps.length := by omega
    rw [if_pos hi']
    have hp : b.ps[i]? = some b.ps[i] := List.getElem?_eq_getElem hi
    generalize b.ps[i] = p at hp
    have hwi : i < b.ws.length := by rw [F.ok.len]; exact hi
    have hw : b.ws[i]? = some b.ws[i] := List.getElem?_eq_getElem hwi
    generalize b.ws[i] = w at hw
    have hli : i < ls.length := by rw [H.ll]; exact hi
    have hl : ls[i]? = some ls[i] := List.getElem?_eq_getElem hli
    generalize ls[i] = l at hl
    obtain ⟨ip, iq⟩ := F.ok.inb p (List.mem_of_getElem? hp)
    obtain ⟨w1, w2, w3, w4⟩ := H.w i l w hl hw
    simp -implicitDefEqProofs only [we_bin, we_un, we_call, we_nil, we_cons, we_tup, we_lst, we_ifx, we_tB, we_tAnd, we_tOr, we_tNot, we_and, we_or, we_not, we_c, we_ok, we_true, isBl_bl, ws_nx, ws_brk, ws_cnt, ws_retN, ws_seq, ws_exp, ws_ret, ws_if, ws_asg, ws_asgT, ws_asgS, ws_for, sAug_eq, we_meth, mVar_eq, List.getElem?_cons_zero, List.getElem?_cons_succ, List.set_cons_zero, List.set_cons_succ, ↓reduceIte, we_add, we_sub, we_mul, we_mod, we_fdiv, we_cmp, we_neg, we_abs, we_int, we_intB, we_max2, we_min2, we_rng1, we_rng2, we_rng1c, we_rng2c, we_lenRo, we_lenTup, we_eqI, we_neI, we_eqB, we_neB, we_fnC2, we_sl, we_partN, we_partS, isInt_int, Int.reduceLT, Int.reduceLE, lim_pos, lim_1, lim_2, lim_3, we_dict1, ws_gvar, wipeS, we_addI, ws_raise, key2, isTup_tup, List.length_cons, List.length_nil, Nat.reduceAdd, Nat.zero_add, Bool.and_true, Bool.true_and, true_and, and_true, Bool.or_true, Bool.true_or, ite_dec, we_ixL H.o (atI_map (f := pairV) hp), we_ixP0, we_ixP1, is_accepting_is oM ip, is_accepting_is oN iq, we_ixD H.d F.ok.nd hp hl, we_ixM0]
    by_cases e : M.ends p.1 = N.ends p.2
    · simp -implicitDefEqProofs only [e, beq_self_eq_true, Bool.not_true, Bool.false_eq_true, ↓reduceIte]
      rw [if_pos (inR_nat (by omega)), Int.toNat_natCast]
      have wl := F.ok.wl w (List.mem_of_getElem? hw)
      refine ws_range (fun j s h2 => ∃ ls2 a7 a8, s = [some M.val, some N.val, some (pairV (M.fst, N.fst)), some (.loc (h ++ [HObj.lst []]).length), some (.loc (h ++ [HObj.lst []] ++ [HObj.dN [(pairV (M.fst, N.fst), .loc h.length)]]).length), some (.int (i : Nat)), some (pairV p), a7, a8] ∧
        HW h h2 (h ++ [HObj.lst []]).length (h ++ [HObj.lst []] ++ [HObj.dN [(pairV (M.fst, N.fst), .loc h.length)]]).length (grow M N p w b j) ls2 ∧ ls2[i]? = some l) ⟨ls, a7, a8, rfl, H, hl⟩ ?_ ?_
      · rintro j s h2 hj ⟨ls2, a7, a8, rfl, H2, hl2⟩
        have B2 := F.ok.grow oM oN (List.mem_of_getElem? hp) w wl j (by omega) (by omega)
        have hp2 := grow_pre (M := M) (N := N) (p := p) (w := w) (j := j) hp
        have hw2 := grow_wpre (M := M) (N := N) (p := p) (w := w) (j := j) hw
        obtain ⟨u1, u2, u3, u4⟩ := H2.w i l w hl2 hw2
        have nin : ∀ Q X, we (opNotInA (.tup [.int (M.nx p.1 j), .int (N.nx p.2 j)]) (.loc (h ++ [HObj.lst []]).length) h2) Q X = Q (.bl (!decide ((M.nx p.1 j, N.nx p.2 j) ∈ (grow M N p w b j).ps))) h2 := fun Q X => we_notinD (p := (M.nx p.1 j, N.nx p.2 j)) H2.d H2.ll
        have sm := B2.small
        have hlw : (wV w).length + [Val.int (j : Int)].length < lim := by
          have := B2.wl w (List.mem_of_getElem? hw2)
          unfold wV lim; simp; omega
        simp -implicitDefEqProofs only [we_bin, we_un, we_call, we_nil, we_cons, we_tup, we_lst, we_ifx, we_tB, we_tAnd, we_tOr, we_tNot, we_and, we_or, we_not, we_c, we_ok, we_true, isBl_bl, ws_nx, ws_brk, ws_cnt, ws_retN, ws_seq, ws_exp, ws_ret, ws_if, ws_asg, ws_asgT, ws_asgS, ws_for, sAug_eq, we_meth, mVar_eq, List.getElem?_cons_zero, List.getElem?_cons_succ, List.set_cons_zero, List.set_cons_succ, ↓reduceIte, we_add, we_sub, we_mul, we_mod, we_fdiv, we_cmp, we_neg, we_abs, we_int, we_intB, we_max2, we_min2, we_rng1, we_rng2, we_rng1c, we_rng2c, we_lenRo, we_lenTup, we_eqI, we_neI, we_eqB, we_neB, we_fnC2, we_sl, we_partN, we_partS, isInt_int, Int.reduceLT, Int.reduceLE, lim_pos, lim_1, lim_2, lim_3, we_dict1, ws_gvar, wipeS, we_addI, ws_raise, key2, isTup_tup, List.length_cons, List.length_nil, Nat.reduceAdd, Nat.zero_add, Bool.and_true, Bool.true_and, true_and, and_true, Bool.or_true, Bool.true_or, ite_dec, Int.zero_add, Int.mul_one, we_ixP0, we_ixP1, next_state_is oM ip hj, next_state_is oN iq (show j < N.L by omega), nin, we_ixD H2.d B2.nd hp2 hl2, we_catL (get_push_old u1) (get_push _ _) hlw]
        by_cases c : (M.nx p.1 j, N.nx p.2 j) ∈ (grow M N p w b j).ps
        · simp -implicitDefEqProofs only [c, decide_true, Bool.not_true, Bool.false_eq_true, ↓reduceIte]
          refine ⟨ls2, _, _, rfl, ?_, hl2⟩
          show HW _ _ _ _ (stepL M N p w (grow M N p w b j) j) _
          unfold stepL; rw [if_pos c]; exact H2
        · simp -implicitDefEqProofs only [c, decide_false, Bool.not_false, ↓reduceIte]
          have gD : (h2 ++ [HObj.lst [Val.int (j : Int)]] ++ [HObj.lst (wV w ++ [Val.int (j : Int)])])[(h ++ [HObj.lst []]).length]? = some (.dN (kvsOf (grow M N p w b j).ps ls2)) := get_push_old (get_push_old H2.d)
          have gO : (h2 ++ [HObj.lst [Val.int (j : Int)]] ++ [HObj.lst (wV w ++ [Val.int (j : Int)])])[(h ++ [HObj.lst []] ++ [HObj.dN [(pairV (M.fst, N.fst), .loc h.length)]]).length]? = some (.lst ((grow M N p w b j).ps.map pairV)) := get_push_old (get_push_old H2.o)
          refine ⟨_, set_D (p := (M.nx p.1 j, N.nx p.2 j)) gD H2.ll c (by unfold lim; omega), ?_⟩
          have gO2 : ((h2 ++ [HObj.lst [Val.int (j : Int)]] ++ [HObj.lst (wV w ++ [Val.int (j : Int)])]).set (h ++ [HObj.lst []]).length (.dN (kvsOf ((grow M N p w b j).ps ++ [(M.nx p.1 j, N.nx p.2 j)]) (ls2 ++ [(h2 ++ [HObj.lst [Val.int (j : Int)]]).length]))))[(h ++ [HObj.lst []] ++ [HObj.dN [(pairV (M.fst, N.fst), .loc h.length)]]).length]? = some (.lst ((grow M N p w b j).ps.map pairV)) := by
            rw [get_set_ne (by simp)]; exact gO
          simp -implicitDefEqProofs only [we_bin, we_un, we_call, we_nil, we_cons, we_tup, we_lst, we_ifx, we_tB, we_tAnd, we_tOr, we_tNot, we_and, we_or, we_not, we_c, we_ok, we_true, isBl_bl, ws_nx, ws_brk, ws_cnt, ws_retN, ws_seq, ws_exp, ws_ret, ws_if, ws_asg, ws_asgT, ws_asgS, ws_for, sAug_eq, we_meth, mVar_eq, List.getElem?_cons_zero, List.getElem?_cons_succ, List.set_cons_zero, List.set_cons_succ, ↓reduceIte, we_add, we_sub, we_mul, we_mod, we_fdiv, we_cmp, we_neg, we_abs, we_int, we_intB, we_max2, we_min2, we_rng1, we_rng2, we_rng1c, we_rng2c, we_lenRo, we_lenTup, we_eqI, we_neI, we_eqB, we_neB, we_fnC2, we_sl, we_partN, we_partS, isInt_int, Int.reduceLT, Int.reduceLE, lim_pos, lim_1, lim_2, lim_3, we_dict1, ws_gvar, wipeS, we_addI, ws_raise, key2, isTup_tup, List.length_cons, List.length_nil, Nat.reduceAdd, Nat.zero_add, Bool.and_true, Bool.true_and, true_and, and_true, Bool.or_true, Bool.true_or, ite_dec, isL_loc gO2, we_append gO2 (show ((grow M N p w b j).ps.map pairV).length < lim by rw [List.length_map]; unfold lim; omega)]
          refine ⟨ls2 ++ [(h2 ++ [HObj.lst [Val.int (j : Int)]]).length], _, _, rfl, ?_, ?_⟩
          · have G := H2.grow (by simp) (by simp) (by simp) B2.len (p := (M.nx p.1 j, N.nx p.2 j)) (w := w ++ [j]) (HObj.lst [Val.int (j : Int)])
            show HW _ _ _ _ (stepL M N p w (grow M N p w b j) j) _
            unfold stepL; rw [if_neg c]
            have ew : wV (w ++ [j]) = wV w ++ [Val.int (j : Int)] := by simp [wV]
            rw [ew] at G
            exact G
          · rw [List.getElem?_append_left (List.getElem?_eq_some_iff.mp hl2).1]; exact hl2
      · rintro s h2 ⟨ls2, a7, a8, rfl, H2, hl2⟩
        simp -implicitDefEqProofs only [we_bin, we_un, we_call, we_nil, we_cons, we_tup, we_lst, we_ifx, we_tB, we_tAnd, we_tOr, we_tNot, we_and, we_or, we_not, we_c, we_ok, we_true, isBl_bl, ws_nx, ws_brk, ws_cnt, ws_retN, ws_seq, ws_exp, ws_ret, ws_if, ws_asg, ws_asgT, ws_asgS, ws_for, sAug_eq, we_meth, mVar_eq, List.getElem?_cons_zero, List.getElem?_cons_succ, List.set_cons_zero, List.set_cons_succ, ↓reduceIte, we_add, we_sub, we_mul, we_mod, we_fdiv, we_cmp, we_neg, we_abs, we_int, we_intB, we_max2, we_min2, we_rng1, we_rng2, we_rng1c, we_rng2c, we_lenRo, we_lenTup, we_eqI, we_neI, we_eqB, we_neB, we_fnC2, we_sl, we_partN, we_partS, isInt_int, Int.reduceLT, Int.reduceLE, lim_pos, lim_1, lim_2, lim_3, we_dict1, ws_gvar, wipeS, we_addI, ws_raise, key2, isTup_tup, List.length_cons, List.length_nil, Nat.reduceAdd, Nat.zero_add, Bool.and_true, Bool.true_and, true_and, and_true, Bool.or_true, Bool.true_or, ite_dec]
        have sm0 := F.ok.small
        refine ⟨k - 1, by omega, i + 1, _, ls2, _, _, _, by omega, rfl, H2, F.go hp hw oM oN hL e⟩
    · simp -implicitDefEqProofs only [beq_eq_false_iff_ne.mpr e, Bool.not_false, ↓reduceIte]
      exact ⟨w, _, l, F.out hp hw e, rfl, H.x, w4, w1, by have h1 := F.ok.wl w (List.mem_of_getElem? hw); have h2 := F.ok.small; omega⟩
  · have hi' : ¬ (i : Int) < b.ps.length := by omega
    rw [if_neg hi']
    exact ⟨F.done (by omega), H.x⟩
end K28

set_option maxHeartbeats 1000000
/-! K28r: the law's own search is the same. -/
namespace K28
open Mn L2
/-- the law's heap in the search -/
structure HL (h h' : Hm) (A B : Nat) (b : Bst) (ls : List Nat) : Prop where
  x : Ext h h'
  aa : h'[A]? = some (.lst (b.ps.map pairV))
  bb : h'[B]? = some (.lst (ls.map .loc))
  ll : ls.length = b.ps.length
  w : ∀ (j l : Nat) (w : List Nat), ls[j]? = some l → b.ws[j]? = some w → h'[l]? = some (.lst (wV w)) ∧ l ≠ A ∧ l ≠ B ∧ h.length ≤ l
theorem HL.grow {h h' : Hm} {A B : Nat} {b : Bst} {ls : List Nat} (k : HL h h' A B b ls) (hA : h.length ≤ A) (hB : h.length ≤ B) (hAB : A ≠ B) (hlen : b.ws.length = b.ps.length) {p : Pr} {w : List Nat} (o1 : HObj) :
    HL h (((h'.set A (.lst (b.ps.map pairV ++ [pairV p]))) ++ [o1] ++ [HObj.lst (wV w)]).set B (.lst (ls.map .loc ++ [.loc ((h'.set A (.lst (b.ps.map pairV ++ [pairV p]))) ++ [o1]).length]))) A B ⟨b.ps ++ [p], b.ws ++ [w]⟩ (ls ++ [((h'.set A (.lst (b.ps.map pairV ++ [pairV p]))) ++ [o1]).length]) := by
  have lA := get_lt k.aa
  have lB := get_lt k.bb
  generalize hh : h'.set A (.lst (b.ps.map pairV ++ [pairV p])) = h2
  have el : h2.length = h'.length := by rw [← hh, List.length_set]
  have g1 : h2[A]? = some (.lst ((b.ps ++ [p]).map pairV)) := by rw [← hh, get_set_same k.aa, map_push']
  have g2 : h2[B]? = some (.lst (ls.map .loc)) := by rw [← hh, get_set_ne hAB]; exact k.bb
  have x2 : Ext h h2 := by rw [← hh]; exact k.x.set hA
  have gB : (h2 ++ [o1] ++ [HObj.lst (wV w)])[B]? = some (.lst (ls.map .loc)) := get_push_old (get_push_old g2)
  have gA : (h2 ++ [o1] ++ [HObj.lst (wV w)])[A]? = some (.lst ((b.ps ++ [p]).map pairV)) := get_push_old (get_push_old g1)
  have n1 : A ≠ h2.length + 1 := by omega
  have n2 : B ≠ h2.length + 1 := by omega
  refine ⟨(x2.setNew.setNew).set hB, ?_, ?_, by simp [k.ll], fun j l v hl hv => ?_⟩
  · rw [get_set_ne (Ne.symm hAB)]; exact gA
  · rw [get_set_same gB]; simp
  · by_cases hj : j < ls.length
    · rw [List.getElem?_append_left hj] at hl
      rw [List.getElem?_append_left (by rw [hlen, ← k.ll]; exact hj)] at hv
      obtain ⟨a1, a2, a3, a4⟩ := k.w j l v hl hv
      refine ⟨?_, a2, a3, a4⟩
      rw [get_set_ne (Ne.symm a3)]
      refine get_push_old (get_push_old ?_)
      rw [← hh, get_set_ne (Ne.symm a2)]; exact a1
    · have ej : j = ls.length := by
        have := (List.getElem?_eq_some_iff.mp hl).1
        simp at this; omega
      subst ej
      rw [List.getElem?_append_right (Nat.le_refl _)] at hl
      rw [List.getElem?_append_right (by rw [hlen, ← k.ll]; exact Nat.le_refl _)] at hv
      simp at hl
      rw [hlen, ← k.ll] at hv
      simp at hv
      subst hl; subst hv
      refine ⟨?_, by omega, by omega, by have := x2.len; omega⟩
      rw [get_set_ne n2]
      simp
theorem law_difference_ok {M N : Mach} {h : Hm} (oM : M.Ok) (oN : N.Ok) (hL : M.L = N.L) (hs : M.L < 1000) (hbx : box M N < 100000) :
    we (m__law_difference [M.val, N.val] h) (fun v h' => Ext h h' ∧ match diff M N with
      | none => v = .non
      | some (w, b) => ∃ l, v = .tup [.loc l, .bl b] ∧ h.length ≤ l ∧ h'[l]? = some (.lst (wV w))) (fun _ _ => False) := by
  rw [m__law_difference.eq_def]
  refine we_fn rfl ?_
  show ws (b__law_difference [some M.val, some N.val, none, none, none, none, none, none] h) _
  rw [b__law_difference.eq_def]
  have eb : ((M.mv.length : Int) + 1) * ((N.mv.length : Int) + 1) = ((box M N : Nat) : Int) := by
    unfold box Mach.n; rw [Int.natCast_mul]; rfl
  have hn : M.mv.length + 1 ≤ box M N := by
    unfold box Mach.n
    exact Nat.le_mul_of_pos_right _ (by omega)
  have sm : small64 ((M.mv.length : Int) + 1) = true := sm_nat (n := M.mv.length + 1) (by omega)
  simp -implicitDefEqProofs only [we_bin, we_un, we_call, we_nil, we_cons, we_tup, we_lst, we_ifx, we_tB, we_tAnd, we_tOr, we_tNot, we_and, we_or, we_not, we_c, we_ok, we_true, isBl_bl, ws_nx, ws_brk, ws_cnt, ws_retN, ws_seq, ws_exp, ws_ret, ws_if, ws_asg, ws_asgT, ws_asgS, ws_for, sAug_eq, we_meth, mVar_eq, List.getElem?_cons_zero, List.getElem?_cons_succ, List.set_cons_zero, List.set_cons_succ, ↓reduceIte, we_add, we_sub, we_mul, we_mod, we_fdiv, we_cmp, we_neg, we_abs, we_int, we_intB, we_max2, we_min2, we_rng1, we_rng2, we_rng1c, we_rng2c, we_lenRo, we_lenTup, we_eqI, we_neI, we_eqB, we_neB, we_fnC2, we_sl, we_partN, we_partS, isInt_int, Int.reduceLT, Int.reduceLE, lim_pos, lim_1, lim_2, lim_3, we_dict1, ws_gvar, wipeS, we_addI, ws_raise, key2, isTup_tup, List.length_cons, List.length_nil, Nat.reduceAdd, Nat.zero_add, Bool.and_true, Bool.true_and, true_and, and_true, Bool.or_true, Bool.true_or, ite_dec, law_first_is, we_ixM1, we_lenM, List.length_map, sm, eb]
  rw [if_pos (inR_nat (by omega)), Int.toNat_natCast]
  generalize hA : (h ++ [HObj.lst [.int (-1), .int 0]] ++ [HObj.lst [.int (-1), .int 0]]).length = A
  generalize hh2 : h ++ [HObj.lst [.int (-1), .int 0]] ++ [HObj.lst [.int (-1), .int 0]] ++ [HObj.lst [Val.tup [.int M.fst, .int N.fst]]] = h2
  have e0 : h2[A]? = some (.lst ((bst0 M N).ps.map pairV)) := by rw [← hh2, ← hA]; exact get_push _ _
  have x0 : Ext h h2 := by rw [← hh2]; exact ((Ext.push h _).setNew).setNew
  have lA : A < h2.length := get_lt e0
  have hAh : h.length ≤ A := by rw [← hA]; simp <;> omega
  have hBl : (h2 ++ [HObj.lst []]).length = h2.length + 1 := by simp
  rw [hBl]
  have hx := x0.len
  refine ws_range (fun i s h' => ∃ b ls a4 a5 a6 a7, s = [some M.val, some N.val, some (.loc A), some (.loc (h2.length + 1)), a4, a5, a6, a7] ∧ HL h h' A (h2.length + 1) b ls ∧ (Far M N i b ∨ (b.ps.length ≤ i ∧ diff M N = none))) ⟨bst0 M N, [h2.length], none, none, none, none, rfl, ?_, .inl (far0 M N)⟩ ?_ ?_
  · refine ⟨x0.setNew.setNew, get_push_old (get_push_old e0), ?_, rfl, fun j l w hl hw => ?_⟩
    · have := get_push (h2 ++ [HObj.lst []]) (HObj.lst [.loc h2.length])
      rw [hBl] at this; exact this
    cases j with
    | zero =>
      simp at hl
      have : w = [] := by simpa [bst0] using hw.symm
      subst this; subst hl
      exact ⟨get_push_old (get_push _ _), by omega, by omega, by omega⟩
    | succ j => simp at hl
  · rintro i s h' hi0 ⟨b, ls, a4, a5, a6, a7, rfl, H, F⟩
    simp -implicitDefEqProofs only [we_bin, we_un, we_call, we_nil, we_cons, we_tup, we_lst, we_ifx, we_tB, we_tAnd, we_tOr, we_tNot, we_and, we_or, we_not, we_c, we_ok, we_true, isBl_bl, ws_nx, ws_brk, ws_cnt, ws_retN, ws_seq, ws_exp, ws_ret, ws_if, ws_asg, ws_asgT, ws_asgS, ws_for, sAug_eq, we_meth, mVar_eq, List.getElem?_cons_zero, List.getElem?_cons_succ, List.set_cons_zero, List.set_cons_succ, ↓reduceIte, we_add, we_sub, we_mul, we_mod, we_fdiv, we_cmp, we_neg, we_abs, we_int, we_intB, we_max2, we_min2, we_rng1, we_rng2, we_rng1c, we_rng2c, we_lenRo, we_lenTup, we_eqI, we_neI, we_eqB, we_neB, we_fnC2, we_sl, we_partN, we_partS, isInt_int, Int.reduceLT, Int.reduceLE, lim_pos, lim_1, lim_2, lim_3, we_dict1, ws_gvar, wipeS, we_addI, ws_raise, key2, isTup_tup, List.length_cons, List.length_nil, Nat.reduceAdd, Nat.zero_add, Bool.and_true, Bool.true_and, true_and, and_true, Bool.or_true, Bool.true_or, ite_dec, Int.zero_add, Int.mul_one, we_len H.aa, List.length_map]
    by_cases hi : i < b.ps.length
    · have F : Far M N i b := by
        rcases F with F | ⟨F, _⟩
        · exact F
        · omega
      have hi' : (i : Int) < b.ps.length := by omega
      rw [if_pos hi']
      have hp : b.ps[i]? = some b.ps[i] := List.getElem?_eq_getElem hi
      generalize b.ps[i] = p at hp
      have hwi : i < b.ws.length := by rw [F.ok.len]; exact hi
      have hw : b.ws[i]? = some b.ws[i] := List.getElem?_eq_getElem hwi
      generalize b.ws[i] = w at hw
      have hli : i < ls.length := by rw [H.ll]; exact hi
      have hl : ls[i]? = some ls[i] := List.getElem?_eq_getElem hli
      generalize ls[i] = l at hl
      obtain ⟨ip, iq⟩ := F.ok.inb p (List.mem_of_getElem? hp)
      obtain ⟨w1, w2, w3, w4⟩ := H.w i l w hl hw
      simp -implicitDefEqProofs only [we_bin, we_un, we_call, we_nil, we_cons, we_tup, we_lst, we_ifx, we_tB, we_tAnd, we_tOr, we_tNot, we_and, we_or, we_not, we_c, we_ok, we_true, isBl_bl, ws_nx, ws_brk, ws_cnt, ws_retN, ws_seq, ws_exp, ws_ret, ws_if, ws_asg, ws_asgT, ws_asgS, ws_for, sAug_eq, we_meth, mVar_eq, List.getElem?_cons_zero, List.getElem?_cons_succ, List.set_cons_zero, List.set_cons_succ, ↓reduceIte, we_add, we_sub, we_mul, we_mod, we_fdiv, we_cmp, we_neg, we_abs, we_int, we_intB, we_max2, we_min2, we_rng1, we_rng2, we_rng1c, we_rng2c, we_lenRo, we_lenTup, we_eqI, we_neI, we_eqB, we_neB, we_fnC2, we_sl, we_partN, we_partS, isInt_int, Int.reduceLT, Int.reduceLE, lim_pos, lim_1, lim_2, lim_3, we_dict1, ws_gvar, wipeS, we_addI, ws_raise, key2, isTup_tup, List.length_cons, List.length_nil, Nat.reduceAdd, Nat.zero_add, Bool.and_true, Bool.true_and, true_and, and_true, Bool.or_true, Bool.true_or, ite_dec, we_ixL H.aa (atI_map (f := pairV) hp), we_ixP0, we_ixP1, law_ends_is oM ip, law_ends_is oN iq, we_ixL H.bb (atI_map (f := Val.loc) hl), we_ixM0]
      by_cases e : M.ends p.1 = N.ends p.2
      · simp -implicitDefEqProofs only [e, beq_self_eq_true, Bool.not_true, Bool.false_eq_true, ↓reduceIte]
        rw [if_pos (inR_nat (by omega)), Int.toNat_natCast]
        have wl := F.ok.wl w (List.mem_of_getElem? hw)
        refine ws_range (fun j s h3 => ∃ ls2 a6 a7, s = [some M.val, some N.val, some (.loc A), some (.loc (h2.length + 1)), some (.int (i : Nat)), some (pairV p), a6, a7] ∧
          HL h h3 A (h2.length + 1) (grow M N p w b j) ls2 ∧ ls2[i]? = some l) ⟨ls, a6, a7, rfl, H, hl⟩ ?_ ?_
        · rintro j s h3 hj ⟨ls2, a6, a7, rfl, H2, hl2⟩
          have B2 := F.ok.grow oM oN (List.mem_of_getElem? hp) w wl j (by omega) (by omega)
          have hp2 := grow_pre (M := M) (N := N) (p := p) (w := w) (j := j) hp
          have hw2 := grow_wpre (M := M) (N := N) (p := p) (w := w) (j := j) hw
          obtain ⟨u1, u2, u3, u4⟩ := H2.w i l w hl2 hw2
          have nin : ∀ Q X, we (opNotInA (.tup [.int (M.nx p.1 j), .int (N.nx p.2 j)]) (.loc A) h3) Q X = Q (.bl (!decide ((M.nx p.1 j, N.nx p.2 j) ∈ (grow M N p w b j).ps))) h3 := fun Q X => we_notinL (p := (M.nx p.1 j, N.nx p.2 j)) H2.aa
          have sm := B2.small
          have hlw : (wV w).length + [Val.int (j : Int)].length < lim := by
            have := B2.wl w (List.mem_of_getElem? hw2)
            unfold wV lim; simp; omega
          have hlA : ((grow M N p w b j).ps.map pairV).length < lim := by rw [List.length_map]; unfold lim; omega
          have hlB : (ls2.map Val.loc).length < lim := by rw [List.length_map, H2.ll]; unfold lim; omega
          simp -implicitDefEqProofs only [we_bin, we_un, we_call, we_nil, we_cons, we_tup, we_lst, we_ifx, we_tB, we_tAnd, we_tOr, we_tNot, we_and, we_or, we_not, we_c, we_ok, we_true, isBl_bl, ws_nx, ws_brk, ws_cnt, ws_retN, ws_seq, ws_exp, ws_ret, ws_if, ws_asg, ws_asgT, ws_asgS, ws_for, sAug_eq, we_meth, mVar_eq, List.getElem?_cons_zero, List.getElem?_cons_succ, List.set_cons_zero, List.set_cons_succ, ↓reduceIte, we_add, we_sub, we_mul, we_mod, we_fdiv, we_cmp, we_neg, we_abs, we_int, we_intB, we_max2, we_min2, we_rng1, we_rng2, we_rng1c, we_rng2c, we_lenRo, we_lenTup, we_eqI, we_neI, we_eqB, we_neB, we_fnC2, we_sl, we_partN, we_partS, isInt_int, Int.reduceLT, Int.reduceLE, lim_pos, lim_1, lim_2, lim_3, we_dict1, ws_gvar, wipeS, we_addI, ws_raise, key2, isTup_tup, List.length_cons, List.length_nil, Nat.reduceAdd, Nat.zero_add, Bool.and_true, Bool.true_and, true_and, and_true, Bool.or_true, Bool.true_or, ite_dec, Int.zero_add, Int.mul_one, we_ixP0, we_ixP1, law_next_is oM ip hj, law_next_is oN iq (show j < N.L by omega), nin, isL_loc H2.aa, we_append H2.aa hlA]
          by_cases c : (M.nx p.1 j, N.nx p.2 j) ∈ (grow M N p w b j).ps
          · simp -implicitDefEqProofs only [c, decide_true, Bool.not_true, Bool.false_eq_true, ↓reduceIte]
            refine ⟨ls2, _, _, rfl, ?_, hl2⟩
            show HL _ _ _ _ (stepL M N p w (grow M N p w b j) j) _
            unfold stepL; rw [if_pos c]; exact H2
          · simp -implicitDefEqProofs only [c, decide_false, Bool.not_false, ↓reduceIte]
            have f1 : (h3.set A (.lst ((grow M N p w b j).ps.map pairV ++ [.tup [.int (M.nx p.1 j), .int (N.nx p.2 j)]])))[h2.length + 1]? = some (.lst (ls2.map .loc)) := by rw [get_set_ne (by omega)]; exact H2.bb
            have f2 : (h3.set A (.lst ((grow M N p w b j).ps.map pairV ++ [.tup [.int (M.nx p.1 j), .int (N.nx p.2 j)]])))[l]? = some (.lst (wV w)) := by rw [get_set_ne (Ne.symm u2)]; exact u1
            generalize hh3 : h3.set A (.lst ((grow M N p w b j).ps.map pairV ++ [.tup [.int (M.nx p.1 j), .int (N.nx p.2 j)]])) = h4 at f1 f2 ⊢
            have f3 : (h4 ++ [HObj.lst [Val.int (j : Int)]] ++ [HObj.lst (wV w ++ [Val.int (j : Int)])])[h2.length + 1]? = some (.lst (ls2.map .loc)) := get_push_old (get_push_old f1)
            simp -implicitDefEqProofs only [we_bin, we_un, we_call, we_nil, we_cons, we_tup, we_lst, we_ifx, we_tB, we_tAnd, we_tOr, we_tNot, we_and, we_or, we_not, we_c, we_ok, we_true, isBl_bl, ws_nx, ws_brk, ws_cnt, ws_retN, ws_seq, ws_exp, ws_ret, ws_if, ws_asg, ws_asgT, ws_asgS, ws_for, sAug_eq, we_meth, mVar_eq, List.getElem?_cons_zero, List.getElem?_cons_succ, List.set_cons_zero, List.set_cons_succ, ↓reduceIte, we_add, we_sub, we_mul, we_mod, we_fdiv, we_cmp, we_neg, we_abs, we_int, we_intB, we_max2, we_min2, we_rng1, we_rng2, we_rng1c, we_rng2c, we_lenRo, we_lenTup, we_eqI, we_neI, we_eqB, we_neB, we_fnC2, we_sl, we_partN, we_partS, isInt_int, Int.reduceLT, Int.reduceLE, lim_pos, lim_1, lim_2, lim_3, we_dict1, ws_gvar, wipeS, we_addI, ws_raise, key2, isTup_tup, List.length_cons, List.length_nil, Nat.reduceAdd, Nat.zero_add, Bool.and_true, Bool.true_and, true_and, and_true, Bool.or_true, Bool.true_or, ite_dec, isL_loc f1, we_ixL f1 (atI_map (f := Val.loc) hl2), we_catL (get_push_old f2) (get_push _ _) hlw, we_append f3 hlB]
            refine ⟨ls2 ++ [(h4 ++ [HObj.lst [Val.int (j : Int)]]).length], _, _, rfl, ?_, ?_⟩
            · have G := H2.grow hAh (by omega) (by omega) B2.len (p := (M.nx p.1 j, N.nx p.2 j)) (w := w ++ [j]) (HObj.lst [Val.int (j : Int)])
              show HL _ _ _ _ (stepL M N p w (grow M N p w b j) j) _
              unfold stepL; rw [if_neg c]
              have ew : wV (w ++ [j]) = wV w ++ [Val.int (j : Int)] := by simp [wV]
              have ep : pairV (M.nx p.1 j, N.nx p.2 j) = .tup [.int (M.nx p.1 j), .int (N.nx p.2 j)] := rfl
              rw [ew, ep, hh3] at G
              exact G
            · rw [List.getElem?_append_left (List.getElem?_eq_some_iff.mp hl2).1]; exact hl2
        · rintro s h3 ⟨ls2, a6, a7, rfl, H2, hl2⟩
          exact ⟨_, ls2, _, _, _, _, rfl, H2, .inl (F.go hp hw oM oN hL e)⟩
      · simp -implicitDefEqProofs only [beq_eq_false_iff_ne.mpr e, Bool.not_false, ↓reduceIte, F.out hp hw e]
        exact ⟨H.x, l, rfl, w4, w1⟩
    · have hi' : ¬ (i : Int) < b.ps.length := by omega
      rw [if_neg hi']
      refine ⟨b, ls, _, _, _, _, rfl, H, .inr ⟨by omega, ?_⟩⟩
      rcases F with F | ⟨_, F⟩
      · exact F.done (by omega)
      · exact F
  · rintro s h' ⟨b, ls, a4, a5, a6, a7, rfl, H, F⟩
    simp -implicitDefEqProofs only [we_bin, we_un, we_call, we_nil, we_cons, we_tup, we_lst, we_ifx, we_tB, we_tAnd, we_tOr, we_tNot, we_and, we_or, we_not, we_c, we_ok, we_true, isBl_bl, ws_nx, ws_brk, ws_cnt, ws_retN, ws_seq, ws_exp, ws_ret, ws_if, ws_asg, ws_asgT, ws_asgS, ws_for, sAug_eq, we_meth, mVar_eq, List.getElem?_cons_zero, List.getElem?_cons_succ, List.set_cons_zero, List.set_cons_succ, ↓reduceIte, we_add, we_sub, we_mul, we_mod, we_fdiv, we_cmp, we_neg, we_abs, we_int, we_intB, we_max2, we_min2, we_rng1, we_rng2, we_rng1c, we_rng2c, we_lenRo, we_lenTup, we_eqI, we_neI, we_eqB, we_neB, we_fnC2, we_sl, we_partN, we_partS, isInt_int, Int.reduceLT, Int.reduceLE, lim_pos, lim_1, lim_2, lim_3, we_dict1, ws_gvar, wipeS, we_addI, ws_raise, key2, isTup_tup, List.length_cons, List.length_nil, Nat.reduceAdd, Nat.zero_add, Bool.and_true, Bool.true_and, true_and, and_true, Bool.or_true, Bool.true_or, ite_dec]
    have : diff M N = none := by
      rcases F with F | ⟨_, F⟩
      · exact F.done F.ok.small
      · exact F
    rw [this]
    exact ⟨H.x, trivial⟩
end K28

set_option maxHeartbeats 1000000
/-! K28s: told and refused. -/
namespace K28
open Mn L2
section
variable {s : LS} {h : Hm} {P : Po} {Q : Val → Hm → Prop} {X : Nat → Hm → Prop}
theorem ws_noX {r : RS} {P : Po} : ws (noX r) P = ws r ⟨P.nx, P.rt, P.bk, P.ct, fun _ _ => False⟩ := by
  cases r <;> simp only [noX, wr_nx, wr_rt, wr_bk, wr_ct, wr_xn, wr_bad]
theorem ws_clr {r : RS} {i : Nat} {P : Po} : ws (clr i r) P = ws r ⟨fun s h => P.nx (s.set i none) h, P.rt, fun s h => P.bk (s.set i none) h, fun s h => P.ct (s.set i none) h, P.xn⟩ := by
  cases r <;> simp only [clr, wr_nx, wr_rt, wr_bk, wr_ct, wr_xn, wr_bad]
theorem ws_tryAs {n i j : Nat} {sb : Nat → Bool} {m : ME} {su : Nat → Nat → MS} : ws (sTryAs n sb i (sAsg m (gVar j)) su s h) P = we (m s h) (fun v h1 => P.nx (s.set j (some v)) h1) (fun c h1 => if c < n then (if sb c then ws (su 0 c (s.set i (some (.exc 0))) h1) ⟨fun s2 h2 => P.nx (s2.set i none) h2, P.rt, fun s2 h2 => P.bk (s2.set i none) h2, fun s2 h2 => P.ct (s2.set i none) h2, fun _ _ => False⟩ else P.xn c h1) else False) := by
  unfold sTryAs sAsg
  cases e : m s h with
  | ok v h1 => simp only [bindS, only, gVar, wr_nx, we_ok]
  | xn c h1 =>
    simp only [bindS, we_xn]
    by_cases h1 : c < n
    · rw [if_pos h1, if_pos h1]
      by_cases h2 : sb c = true
      · rw [if_pos h2, if_pos h2, ws_noX, ws_clr]
      · rw [if_neg h2, if_neg h2, wr_xn]
    · rw [if_neg h1, if_neg h1, wr_bad]
  | bad => simp only [bindS, we_bad, wr_bad]
theorem ws_tryE {n : Nat} {sb : Nat → Bool} {m : ME} {su : MS} : ws (sTry n sb (sExp m) su s h) P = we (m s h) (fun v h1 => P.nx s h1) (fun c h1 => if c < n then (if sb c then ws (su s h1) ⟨P.nx, P.rt, P.bk, P.ct, fun _ _ => False⟩ else P.xn c h1) else False) := by
  unfold sTry sExp
  cases e : m s h with
  | ok v h1 => simp only [bindS, wr_nx, we_ok]
  | xn c h1 =>
    simp only [bindS, we_xn]
    by_cases h1 : c < n
    · rw [if_pos h1, if_pos h1]
      by_cases h2 : sb c = true
      · rw [if_pos h2, if_pos h2, ws_noX]
      · rw [if_neg h2, if_neg h2, wr_xn]
    · rw [if_neg h1, if_neg h1, wr_bad]
  | bad => simp only [bindS, we_bad, wr_bad]
def isExc (a : Nat) (o : Option (Option Val)) (q : Prop) : Prop := match o with
  | some (some (.exc z)) => if z = a then q else False
  | _ => False
theorem we_isE {a i : Nat} {b : Bool} : we (mIsE a i b s h) Q X = isExc a s[i]? (Q (.bl b) h) := by
  unfold mIsE isExc
  cases s[i]? with
  | none => exact we_bad
  | some o =>
    cases o with
    | none => exact we_bad
    | some v =>
      cases v with
      | exc z => dsimp only; rw [we_if, we_ok, we_bad]
      | _ => exact we_bad
theorem isExc_same {a : Nat} {q : Prop} : isExc a (some (some (.exc a))) q = q := by unfold isExc; simp
theorem we_isNN : we (opIs .non .non h) Q X = Q (.bl true) h := we_ok
theorem we_isTN {vs : List Val} : we (opIs (.tup vs) .non h) Q X = Q (.bl false) h := we_ok
def isiQ (o : Option Bool) (q : Bool → Prop) : Prop := match o with
  | some b => q b
  | none => False
theorem we_isi {t : Ty} {m : ME} : we (mIsi t m s h) Q X = we (m s h) (fun v h1 => isiQ (isTy t v h1) fun b => Q (.bl b) h1) X := by
  show we (bindR _ _) Q X = _
  rw [we_bind]; congr; funext v h1
  cases isTy t v h1 with
  | none => exact we_bad
  | some b => exact we_ok
theorem isi_some {b : Bool} {q : Bool → Prop} : isiQ (some b) q = q b := rfl
theorem ty_tup {vs : List Val} : isTy .tuple (.tup vs) h = some true := rfl
theorem ty_bl {b : Bool} : isTy .bool (.bl b) h = some true := rfl
theorem ty_lst {l : Nat} {xs : List Val} (e : h[l]? = some (.lst xs)) : isTy .list (.loc l) h = some true := by
  unfold isTy; dsimp only; rw [e]
theorem wV_dat {n : Nat} {w : List Nat} : (wV w).all (datN (n + 1) h) = true := by
  rw [List.all_eq_true]
  intro x hx
  obtain ⟨a, _, rfl⟩ := List.mem_map.mp hx
  unfold datN; rfl
theorem wV_eqv {n : Nat} {w : List Nat} : all2 (eqvN (n + 1) h) (wV w) (wV w) = true := by
  induction w with
  | nil => rfl
  | cons a r ih =>
    show (eqvN (n + 1) h (.int a) (.int a) && all2 (eqvN (n + 1) h) (wV r) (wV r)) = true
    rw [ih]
    unfold eqvN; simp
theorem same_W {l k : Nat} {w : List Nat} {b : Bool} (e : h[l]? = some (.lst (wV w))) (f : h[k]? = some (.lst (wV w))) :
    datN 40 h (.tup [.loc l, .bl b]) = true ∧ datN 40 h (.tup [.loc k, .bl b]) = true ∧ eqvN 40 h (.tup [.loc l, .bl b]) (.tup [.loc k, .bl b]) = true := by
  have d : ∀ {l : Nat}, h[l]? = some (.lst (wV w)) → datN 40 h (.tup [.loc l, .bl b]) = true := fun {l} e => by
    show (datN 39 h (.loc l) && (datN 39 h (.bl b) && true)) = true
    have : datN 39 h (.loc l) = true := by
      unfold datN; dsimp only; rw [e]; exact wV_dat (n := 37)
    rw [this]; rfl
  refine ⟨d e, d f, ?_⟩
  show (eqvN 39 h (.loc l) (.loc k) && (eqvN 39 h (.bl b) (.bl b) && true)) = true
  have h1 : eqvN 39 h (.loc l) (.loc k) = true := by
    unfold eqvN listOf; dsimp only; rw [e, f]; exact wV_eqv (n := 37)
  have h2 : eqvN 39 h (.bl b) (.bl b) = true := by unfold eqvN; simp
  rw [h1, h2]; rfl
theorem we_neW {l k : Nat} {w : List Nat} {b : Bool} (e : h[l]? = some (.lst (wV w))) (f : h[k]? = some (.lst (wV w))) : we (opNe (.tup [.loc l, .bl b]) (.tup [.loc k, .bl b]) h) Q X = Q (.bl false) h := by
  obtain ⟨d1, d2, d3⟩ := same_W (b := b) e f
  unfold opNe
  rw [d1, d2, d3, if_pos (by rfl)]; exact we_ok
theorem we_eqW {l k : Nat} {w : List Nat} {b : Bool} (e : h[l]? = some (.lst (wV w))) (f : h[k]? = some (.lst (wV w))) : we (opEq (.tup [.loc l, .bl b]) (.tup [.loc k, .bl b]) h) Q X = Q (.bl true) h := by
  obtain ⟨d1, d2, d3⟩ := same_W (b := b) e f
  unfold opEq
  rw [d1, d2, d3, if_pos (by rfl)]; exact we_ok
theorem we_ixT0 {a b : Val} : we (opIx (.tup [a, b]) (.int 0) h) Q X = Q a h := we_ixTup rfl
theorem we_ixT1 {a b : Val} : we (opIx (.tup [a, b]) (.int 1) h) Q X = Q b h := we_ixTup rfl
end
theorem told_ok {M N : Mach} {h : Hm} (oM : M.Ok) (oN : N.Ok) (hL : M.L = N.L) (hs : M.L < 1000) (hbx : box M N < 100000) :
    we (m__law_told [M.val, N.val] h) (fun v h' => v = .bl true ∧ Ext h h') (fun _ _ => False) := by
  rw [m__law_told.eq_def]
  refine we_fn rfl ?_
  show ws (b__law_told [some M.val, some N.val, none, none, none] h) _
  rw [b__law_told.eq_def]
  simp -implicitDefEqProofs only [we_bin, we_un, we_call, we_nil, we_cons, we_tup, we_lst, we_ifx, we_tB, we_tAnd, we_tOr, we_tNot, we_and, we_or, we_not, we_c, we_ok, we_true, isBl_bl, ws_nx, ws_brk, ws_cnt, ws_retN, ws_seq, ws_exp, ws_ret, ws_if, ws_asg, ws_asgT, ws_asgS, ws_for, sAug_eq, we_meth, mVar_eq, List.getElem?_cons_zero, List.getElem?_cons_succ, List.set_cons_zero, List.set_cons_succ, ↓reduceIte, we_add, we_sub, we_mul, we_mod, we_fdiv, we_cmp, we_neg, we_abs, we_int, we_intB, we_max2, we_min2, we_rng1, we_rng2, we_rng1c, we_rng2c, we_lenRo, we_lenTup, we_eqI, we_neI, we_eqB, we_neB, we_fnC2, we_sl, we_partN, we_partS, isInt_int, Int.reduceLT, Int.reduceLE, lim_pos, lim_1, lim_2, lim_3, we_dict1, ws_gvar, wipeS, we_addI, ws_raise, key2, isTup_tup, List.length_cons, List.length_nil, Nat.reduceAdd, Nat.zero_add, Bool.and_true, Bool.true_and, true_and, and_true, Bool.or_true, Bool.true_or, ite_dec, ws_tryAs]
  refine (law_difference_ok oM oN hL hs hbx).mono (fun due h1 hd => ?_) (fun _ _ z => z)
  obtain ⟨x1, hd⟩ := hd
  refine (difference_ok (h := h1) oM oN hL hs hbx).mono (fun told h2 ht => ?_) (fun c h2 hx => ?_)
  · obtain ⟨w, b, l, ed, rfl, x2, hl, el, wlen⟩ := ht
    rw [ed] at hd
    obtain ⟨k, rfl, hk, ek⟩ := hd
    have ek2 := x2.get ek
    have hlw : (wV w).length < lim := by unfold wV lim; rw [List.length_map]; omega
    have kl : k < l := Nat.lt_of_lt_of_le (get_lt ek) hl
    simp -implicitDefEqProofs only [we_bin, we_un, we_call, we_nil, we_cons, we_tup, we_lst, we_ifx, we_tB, we_tAnd, we_tOr, we_tNot, we_and, we_or, we_not, we_c, we_ok, we_true, isBl_bl, ws_nx, ws_brk, ws_cnt, ws_retN, ws_seq, ws_exp, ws_ret, ws_if, ws_asg, ws_asgT, ws_asgS, ws_for, sAug_eq, we_meth, mVar_eq, List.getElem?_cons_zero, List.getElem?_cons_succ, List.set_cons_zero, List.set_cons_succ, ↓reduceIte, we_add, we_sub, we_mul, we_mod, we_fdiv, we_cmp, we_neg, we_abs, we_int, we_intB, we_max2, we_min2, we_rng1, we_rng2, we_rng1c, we_rng2c, we_lenRo, we_lenTup, we_eqI, we_neI, we_eqB, we_neB, we_fnC2, we_sl, we_partN, we_partS, isInt_int, Int.reduceLT, Int.reduceLE, lim_pos, lim_1, lim_2, lim_3, we_dict1, ws_gvar, wipeS, we_addI, ws_raise, key2, isTup_tup, List.length_cons, List.length_nil, Nat.reduceAdd, Nat.zero_add, Bool.and_true, Bool.true_and, true_and, and_true, Bool.or_true, Bool.true_or, ite_dec, we_isTN, Bool.false_eq_true, we_isi, ty_tup, isi_some, Bool.not_true, decide_true, we_ixT0, we_ixT1, ty_bl, ty_lst el, we_neW el ek2, isL_loc el, we_append el hlw]
    have x3 : Ext h (h2.set l (.lst (wV w ++ [.int 0]))) := (x1.trans x2).set (Nat.le_trans x1.len hl)
    have ek3 : (h2.set l (.lst (wV w ++ [.int 0])))[k]? = some (.lst (wV w)) := by rw [get_set_ne (by omega)]; exact ek2
    refine (difference_ok (h := h2.set l (.lst (wV w ++ [.int 0]))) oM oN hL hs hbx).mono (fun told h4 ht => ?_) (fun c h2 hx => ?_)
    · obtain ⟨w', b', l', ed', rfl, x4, hl', el', _⟩ := ht
      rw [ed] at ed'
      cases ed'
      rw [we_eqW el' (x4.get ek3)]
      exact ⟨rfl, x3.trans x4⟩
    · rw [ed] at hx; cases hx.1
  · obtain ⟨en, rfl, x2⟩ := hx
    rw [en] at hd
    subst hd
    have s22 : sub 2 2 = true := rfl
    have s21 : sub 2 1 = false := rfl
    have s20 : sub 2 0 = true := rfl
    rw [if_pos (by decide), s20, if_pos rfl]
    simp -implicitDefEqProofs only [we_bin, we_un, we_call, we_nil, we_cons, we_tup, we_lst, we_ifx, we_tB, we_tAnd, we_tOr, we_tNot, we_and, we_or, we_not, we_c, we_ok, we_true, isBl_bl, ws_nx, ws_brk, ws_cnt, ws_retN, ws_seq, ws_exp, ws_ret, ws_if, ws_asg, ws_asgT, ws_asgS, ws_for, sAug_eq, we_meth, mVar_eq, List.getElem?_cons_zero, List.getElem?_cons_succ, List.set_cons_zero, List.set_cons_succ, ↓reduceIte, we_add, we_sub, we_mul, we_mod, we_fdiv, we_cmp, we_neg, we_abs, we_int, we_intB, we_max2, we_min2, we_rng1, we_rng2, we_rng1c, we_rng2c, we_lenRo, we_lenTup, we_eqI, we_neI, we_eqB, we_neB, we_fnC2, we_sl, we_partN, we_partS, isInt_int, Int.reduceLT, Int.reduceLE, lim_pos, lim_1, lim_2, lim_3, we_dict1, ws_gvar, wipeS, we_addI, ws_raise, key2, isTup_tup, List.length_cons, List.length_nil, Nat.reduceAdd, Nat.zero_add, Bool.and_true, Bool.true_and, true_and, and_true, Bool.or_true, Bool.true_or, ite_dec, we_isNN, we_isE, isExc_same, s22, s21, Bool.not_false]
    exact x1.trans x2
theorem difference_bad {M N : Mach} {h : Hm} (hL : M.L ≠ N.L) : ∀ Q X, we (m_difference [M.val, N.val] h) Q X = X 1 h := we_xn_of (by
  rw [m_difference.eq_def]
  refine we_fn rfl ?_
  show ws (b_difference [some M.val, some N.val, none, none, none, none, none, none, none] h) _
  rw [b_difference.eq_def]
  simp -implicitDefEqProofs only [we_bin, we_un, we_call, we_nil, we_cons, we_tup, we_lst, we_ifx, we_tB, we_tAnd, we_tOr, we_tNot, we_and, we_or, we_not, we_c, we_ok, we_true, isBl_bl, ws_nx, ws_brk, ws_cnt, ws_retN, ws_seq, ws_exp, ws_ret, ws_if, ws_asg, ws_asgT, ws_asgS, ws_for, sAug_eq, we_meth, mVar_eq, List.getElem?_cons_zero, List.getElem?_cons_succ, List.set_cons_zero, List.set_cons_succ, ↓reduceIte, we_add, we_sub, we_mul, we_mod, we_fdiv, we_cmp, we_neg, we_abs, we_int, we_intB, we_max2, we_min2, we_rng1, we_rng2, we_rng1c, we_rng2c, we_lenRo, we_lenTup, we_eqI, we_neI, we_eqB, we_neB, we_fnC2, we_sl, we_partN, we_partS, isInt_int, Int.reduceLT, Int.reduceLE, lim_pos, lim_1, lim_2, lim_3, we_dict1, ws_gvar, wipeS, we_addI, ws_raise, key2, isTup_tup, List.length_cons, List.length_nil, Nat.reduceAdd, Nat.zero_add, Bool.and_true, Bool.true_and, true_and, and_true, Bool.or_true, Bool.true_or, ite_dec, check_diff hL])
theorem refused_ok {M N : Mach} {h : Hm} (hL : M.L ≠ N.L) : ∀ Q X, we (m__law_refused [M.val, N.val] h) Q X = Q (.bl true) h := we_eq_of (by
  rw [m__law_refused.eq_def]
  refine we_fn rfl ?_
  show ws (b__law_refused [some M.val, some N.val] h) _
  rw [b__law_refused.eq_def]
  have s11 : sub 1 1 = true := rfl
  simp -implicitDefEqProofs only [we_bin, we_un, we_call, we_nil, we_cons, we_tup, we_lst, we_ifx, we_tB, we_tAnd, we_tOr, we_tNot, we_and, we_or, we_not, we_c, we_ok, we_true, isBl_bl, ws_nx, ws_brk, ws_cnt, ws_retN, ws_seq, ws_exp, ws_ret, ws_if, ws_asg, ws_asgT, ws_asgS, ws_for, sAug_eq, we_meth, mVar_eq, List.getElem?_cons_zero, List.getElem?_cons_succ, List.set_cons_zero, List.set_cons_succ, ↓reduceIte, we_add, we_sub, we_mul, we_mod, we_fdiv, we_cmp, we_neg, we_abs, we_int, we_intB, we_max2, we_min2, we_rng1, we_rng2, we_rng1c, we_rng2c, we_lenRo, we_lenTup, we_eqI, we_neI, we_eqB, we_neB, we_fnC2, we_sl, we_partN, we_partS, isInt_int, Int.reduceLT, Int.reduceLE, lim_pos, lim_1, lim_2, lim_3, we_dict1, ws_gvar, wipeS, we_addI, ws_raise, key2, isTup_tup, List.length_cons, List.length_nil, Nat.reduceAdd, Nat.zero_add, Bool.and_true, Bool.true_and, true_and, and_true, Bool.or_true, Bool.true_or, ite_dec, ws_tryE, difference_bad hL, s11, Nat.reduceLT])
theorem we_tupCat {a b : List Val} {h : Hm} {Q : Val → Hm → Prop} {X : Nat → Hm → Prop} (e : a.length ≠ 0 ∧ a.length + b.length < lim) : we (opAdd (.tup a) (.tup b) h) Q X = Q (.tup (a ++ b)) h := by
  unfold opAdd; dsimp only; rw [if_pos e]; exact we_ok
/-! the lines -/
def lineM (n : Nat) (last : Bool) : Mach := ⟨1, ((List.range (n - 1)).map fun (i : Nat) => [(i : Int) + 1]) ++ [[-1]], (List.range n).map fun i => last && decide (i = n - 1)⟩
theorem line_ok {n : Nat} {last : Bool} (h1 : 2 ≤ n) (hn : n < 1000) (h : Hm) : we (m__law_line [.int n, .bl last] h) (fun v h' => v = (lineM n last).val ∧ Ext h h') (fun _ _ => False) := by
  rw [m__law_line.eq_def]
  refine we_fn rfl ?_
  show ws (b__law_line [some (.int n), some (.bl last), none, none] h) _
  rw [b__law_line.eq_def]
  simp -implicitDefEqProofs only [we_bin, we_un, we_call, we_nil, we_cons, we_tup, we_lst, we_ifx, we_tB, we_tAnd, we_tOr, we_tNot, we_and, we_or, we_not, we_c, we_ok, we_true, isBl_bl, ws_nx, ws_brk, ws_cnt, ws_retN, ws_seq, ws_exp, ws_ret, ws_if, ws_asg, ws_asgT, ws_asgS, ws_for, sAug_eq, we_meth, mVar_eq, List.getElem?_cons_zero, List.getElem?_cons_succ, List.set_cons_zero, List.set_cons_succ, ↓reduceIte, we_add, we_sub, we_mul, we_mod, we_fdiv, we_cmp, we_neg, we_abs, we_int, we_intB, we_max2, we_min2, we_rng1, we_rng2, we_rng1c, we_rng2c, we_lenRo, we_lenTup, we_eqI, we_neI, we_eqB, we_neB, we_fnC2, we_sl, we_partN, we_partS, isInt_int, Int.reduceLT, Int.reduceLE, lim_pos, lim_1, lim_2, lim_3, we_dict1, ws_gvar, wipeS, we_addI, ws_raise, key2, isTup_tup, List.length_cons, List.length_nil, Nat.reduceAdd, Nat.zero_add, Bool.and_true, Bool.true_and, true_and, and_true, Bool.or_true, Bool.true_or, ite_dec, we_lc]
  rw [show ((n : Int) - 1) = ((n - 1 : Nat) : Int) by omega, if_pos (inR_nat (by omega)), Int.toNat_natCast]
  refine we_lcN (H := fun _ => True) turns_range (fun i xs h' => i ≤ n - 1 ∧ xs = (List.range i).map (fun (i : Nat) => Val.tup [.int ((i : Int) + 1)]) ∧ h' = h) ⟨Nat.zero_le _, rfl, rfl⟩ (fun _ _ _ _ _ => trivial) ?_ ?_
  · rintro i v xs h' hv ⟨hi, rfl, rfl⟩
    obtain ⟨h2, rfl⟩ := range_at hv
    have hlim : (List.map (fun (i : Nat) => Val.tup [.int ((i : Int) + 1)]) (List.range i)).length < lim := by unfold lim; simp; omega
    simp -implicitDefEqProofs only [we_bin, we_un, we_call, we_nil, we_cons, we_tup, we_lst, we_ifx, we_tB, we_tAnd, we_tOr, we_tNot, we_and, we_or, we_not, we_c, we_ok, we_true, isBl_bl, ws_nx, ws_brk, ws_cnt, ws_retN, ws_seq, ws_exp, ws_ret, ws_if, ws_asg, ws_asgT, ws_asgS, ws_for, sAug_eq, we_meth, mVar_eq, List.getElem?_cons_zero, List.getElem?_cons_succ, List.set_cons_zero, List.set_cons_succ, ↓reduceIte, we_add, we_sub, we_mul, we_mod, we_fdiv, we_cmp, we_neg, we_abs, we_int, we_intB, we_max2, we_min2, we_rng1, we_rng2, we_rng1c, we_rng2c, we_lenRo, we_lenTup, we_eqI, we_neI, we_eqB, we_neB, we_fnC2, we_sl, we_partN, we_partS, isInt_int, Int.reduceLT, Int.reduceLE, lim_pos, lim_1, lim_2, lim_3, we_dict1, ws_gvar, wipeS, we_addI, ws_raise, key2, isTup_tup, List.length_cons, List.length_nil, Nat.reduceAdd, Nat.zero_add, Bool.and_true, Bool.true_and, true_and, and_true, Bool.or_true, Bool.true_or, ite_dec, Int.zero_add, Int.mul_one]
    exact ⟨hlim, by omega, by rw [List.range_succ, List.map_append]; rfl⟩
  rintro xs h' ⟨hi, rfl, rfl⟩
  rw [List.reverse_reverse]
  have ht : ((List.range (n - 1)).map fun (i : Nat) => Val.tup [.int ((i : Int) + 1)]).length ≠ 0 ∧ ((List.range (n - 1)).map fun (i : Nat) => Val.tup [.int ((i : Int) + 1)]).length + [Val.tup [.int (-1)]].length < lim := by
    unfold lim; simp; omega
  simp -implicitDefEqProofs only [we_bin, we_un, we_call, we_nil, we_cons, we_tup, we_lst, we_ifx, we_tB, we_tAnd, we_tOr, we_tNot, we_and, we_or, we_not, we_c, we_ok, we_true, isBl_bl, ws_nx, ws_brk, ws_cnt, ws_retN, ws_seq, ws_exp, ws_ret, ws_if, ws_asg, ws_asgT, ws_asgS, ws_for, sAug_eq, we_meth, mVar_eq, List.getElem?_cons_zero, List.getElem?_cons_succ, List.set_cons_zero, List.set_cons_succ, ↓reduceIte, we_add, we_sub, we_mul, we_mod, we_fdiv, we_cmp, we_neg, we_abs, we_int, we_intB, we_max2, we_min2, we_rng1, we_rng2, we_rng1c, we_rng2c, we_lenRo, we_lenTup, we_eqI, we_neI, we_eqB, we_neB, we_fnC2, we_sl, we_partN, we_partS, isInt_int, Int.reduceLT, Int.reduceLE, lim_pos, lim_1, lim_2, lim_3, we_dict1, ws_gvar, wipeS, we_addI, ws_raise, key2, isTup_tup, List.length_cons, List.length_nil, Nat.reduceAdd, Nat.zero_add, Bool.and_true, Bool.true_and, true_and, and_true, Bool.or_true, Bool.true_or, ite_dec, List.length_map, List.length_range, we_tupL (get_push _ _), we_tupCat ht]
  rw [if_pos (inR_nat (by omega)), Int.toNat_natCast]
  generalize hg : h' ++ [HObj.lst (List.map (fun (i : Nat) => Val.tup [.int ((i : Int) + 1)]) (List.range (n - 1)))] = h2
  have x2 : Ext h' h2 := by rw [← hg]; exact Ext.push _ _
  refine we_lcN (H := fun _ => True) turns_range (fun i xs h3 => i ≤ n ∧ xs = (List.range i).map (fun (i : Nat) => Val.bl (last && decide (i = n - 1))) ∧ h3 = h2) ⟨Nat.zero_le _, rfl, rfl⟩ (fun _ _ _ _ _ => trivial) ?_ ?_
  · rintro i v xs h3 hv ⟨hi, rfl, rfl⟩
    obtain ⟨h4, rfl⟩ := range_at hv
    have hlim : (List.map (fun (i : Nat) => Val.bl (last && decide (i = n - 1))) (List.range i)).length < lim := by unfold lim; simp; omega
    have e : decide ((i : Int) = (n : Int) - 1) = decide (i = n - 1) := by
      by_cases c : i = n - 1
      · rw [decide_eq_true c, decide_eq_true (by omega)]
      · rw [decide_eq_false c, decide_eq_false (by omega)]
    cases last with
    | true =>
      simp -implicitDefEqProofs only [we_bin, we_un, we_call, we_nil, we_cons, we_tup, we_lst, we_ifx, we_tB, we_tAnd, we_tOr, we_tNot, we_and, we_or, we_not, we_c, we_ok, we_true, isBl_bl, ws_nx, ws_brk, ws_cnt, ws_retN, ws_seq, ws_exp, ws_ret, ws_if, ws_asg, ws_asgT, ws_asgS, ws_for, sAug_eq, we_meth, mVar_eq, List.getElem?_cons_zero, List.getElem?_cons_succ, List.set_cons_zero, List.set_cons_succ, ↓reduceIte, we_add, we_sub, we_mul, we_mod, we_fdiv, we_cmp, we_neg, we_abs, we_int, we_intB, we_max2, we_min2, we_rng1, we_rng2, we_rng1c, we_rng2c, we_lenRo, we_lenTup, we_eqI, we_neI, we_eqB, we_neB, we_fnC2, we_sl, we_partN, we_partS, isInt_int, Int.reduceLT, Int.reduceLE, lim_pos, lim_1, lim_2, lim_3, we_dict1, ws_gvar, wipeS, we_addI, ws_raise, key2, isTup_tup, List.length_cons, List.length_nil, Nat.reduceAdd, Nat.zero_add, Bool.and_true, Bool.true_and, true_and, and_true, Bool.or_true, Bool.true_or, ite_dec, Int.zero_add, Int.mul_one, e]
      exact ⟨hlim, by omega, by rw [List.range_succ, List.map_append]; rfl⟩
    | false =>
      simp -implicitDefEqProofs only [we_bin, we_un, we_call, we_nil, we_cons, we_tup, we_lst, we_ifx, we_tB, we_tAnd, we_tOr, we_tNot, we_and, we_or, we_not, we_c, we_ok, we_true, isBl_bl, ws_nx, ws_brk, ws_cnt, ws_retN, ws_seq, ws_exp, ws_ret, ws_if, ws_asg, ws_asgT, ws_asgS, ws_for, sAug_eq, we_meth, mVar_eq, List.getElem?_cons_zero, List.getElem?_cons_succ, List.set_cons_zero, List.set_cons_succ, ↓reduceIte, we_add, we_sub, we_mul, we_mod, we_fdiv, we_cmp, we_neg, we_abs, we_int, we_intB, we_max2, we_min2, we_rng1, we_rng2, we_rng1c, we_rng2c, we_lenRo, we_lenTup, we_eqI, we_neI, we_eqB, we_neB, we_fnC2, we_sl, we_partN, we_partS, isInt_int, Int.reduceLT, Int.reduceLE, lim_pos, lim_1, lim_2, lim_3, we_dict1, ws_gvar, wipeS, we_addI, ws_raise, key2, isTup_tup, List.length_cons, List.length_nil, Nat.reduceAdd, Nat.zero_add, Bool.and_true, Bool.true_and, true_and, and_true, Bool.or_true, Bool.true_or, ite_dec, Int.zero_add, Int.mul_one, Bool.false_eq_true]
      exact ⟨hlim, by omega, by rw [List.range_succ, List.map_append]; rfl⟩
  rintro xs h3 ⟨hi, rfl, rfl⟩
  rw [List.reverse_reverse]
  refine ⟨?_, x2.trans (Ext.push _ _)⟩
  unfold Mach.val lineM
  simp [rowV, Function.comp_def]
theorem lineM_ok {n : Nat} {last : Bool} (h : 1 ≤ n) : (lineM n last).Ok := by
  have e : (lineM n last).n = n := by unfold Mach.n lineM; simp; omega
  refine ⟨by rw [e]; simp [lineM], fun r hr => ?_⟩
  rw [e]
  have hr : r ∈ ((List.range (n - 1)).map fun (i : Nat) => [(i : Int) + 1]) ++ [[-1]] := hr
  rcases List.mem_append.mp hr with z | z
  · obtain ⟨i, hi, rfl⟩ := List.mem_map.mp z
    have := List.mem_range.mp hi
    refine ⟨rfl, fun t ht => ?_⟩
    have : t = (i : Int) + 1 := by simpa using ht
    subst this
    constructor <;> omega
  · have : r = [-1] := by simpa using z
    subst this
    refine ⟨rfl, fun t ht => ?_⟩
    have : t = -1 := by simpa using ht
    subst this
    constructor <;> omega
theorem line_diff : diff (lineM 300 false) (lineM 300 true) = some (List.replicate 299 0, false) := by decide +kernel
end K28

set_option maxHeartbeats 1000000
/-! K28u: the second machine. -/
namespace K28
open Mn L2
section
variable {s : LS} {h : Hm} {Q : Val → Hm → Prop} {X : Nat → Hm → Prop}
def iterV (v : Val) (h1 : Hm) : R It' := match v with
  | .tup vs => .ok (itVals vs) h1
  | .ro vs => .ok (itVals vs) h1
  | .str cs => .ok (itVals (cs.map fun c => .str [c])) h1
  | .loc l => match h1[l]? with
    | some (.lst vs) => .ok (itLoc l vs.length) h1
    | _ => .bad
  | _ => .bad
theorem we_iter {m : ME} {Q : It' → Hm → Prop} : we (mIter m s h) Q X = we (m s h) (fun v h1 => we (iterV v h1) Q X) X := we_bind
theorem we_iterT {vs : List Val} {Q : It' → Hm → Prop} : we (iterV (.tup vs) h) Q X = Q (itVals vs) h := we_ok
theorem we_iterL {l : Nat} {vs : List Val} {Q : It' → Hm → Prop} (e : h[l]? = some (.lst vs)) : we (iterV (.loc l) h) Q X = Q (itLoc l vs.length) h := by
  unfold iterV; dsimp only; rw [e]; exact we_ok
theorem we_lstRow {r : List Int} : we (cList [rowV r] h) Q X = Q (.loc h.length) (h ++ [.lst (r.map .int)]) := we_ok
theorem set_L {l : Nat} {xs : List Val} {k : Int} {v : Val} (e : h[l]? = some (.lst xs)) (h0 : 0 ≤ k) (h1 : k < xs.length) : opSet (.loc l) (.int k) v h = some (h.set l (.lst (xs.set k.toNat v))) := by
  unfold opSet; dsimp only; rw [e]; dsimp only
  unfold ixN
  rw [if_pos h0, if_pos h1]
theorem num_ix {us : List Int} {k : Nat} (hk : k < us.length) (hn : Nums us) : ∃ z, Num z ∧ atI (us.map Val.int) ((k : Nat) : Int) = some (.int z) :=
  ⟨us[k], hn _ (List.getElem_mem hk), Mn.atI_nat (by rw [List.getElem?_map, List.getElem?_eq_getElem hk]; rfl)⟩
end
theorem ws_cut {A B : MS} {s : LS} {h : Hm} {P : Po} (R : LS → Hm → Prop) (h1 : ws (A s h) ⟨R, P.rt, P.bk, P.ct, P.xn⟩) (h2 : ∀ s h, R s h → ws (B s h) P) : ws (sSeq A B s h) P := by
  rw [ws_seq]
  exact h1.mono h2 (fun _ _ z => z) (fun _ _ z => z) (fun _ _ z => z) (fun _ _ z => z)
theorem Row.up {L n : Nat} {r : List Int} (h : Row L n r) : Row L (n + 1) r := ⟨h.1, fun t ht => by have := h.2 t ht; unfold Ent at this ⊢; omega⟩
theorem Row.set {L n : Nat} {r : List Int} (h : Row L n r) {k : Nat} {t : Int} (ht : Ent n t) : Row L n (r.set k t) := ⟨by rw [List.length_set]; exact h.1, fun y hy => by
  rcases List.mem_or_eq_of_mem_set hy with z | z
  · exact h.2 y z
  · rw [z]; exact ht⟩
/-- the heap of the machine that is changed -/
structure HS (h h' : Hm) (A B L n : Nat) (ls : List Nat) (ac : List Bool) : Prop where
  x : Ext h h'
  aa : h'[A]? = some (.lst (ls.map .loc))
  bb : h'[B]? = some (.lst (ac.map .bl))
  rw' : ∀ k ∈ ls, k ≠ A ∧ k ≠ B ∧ h.length ≤ k ∧ ∃ r, h'[k]? = some (.lst (r.map .int)) ∧ Row L n r
/-- one row is changed -/
theorem HS.row {h h' : Hm} {A B L n : Nat} {ls : List Nat} {ac : List Bool} (H : HS h h' A B L n ls ac) {k : Nat} {r : List Int} (hk : k ∈ ls) (hr : Row L n r) : HS h (h'.set k (.lst (r.map .int))) A B L n ls ac := by
  obtain ⟨a1, a2, a3, r0, a4, _⟩ := H.rw' k hk
  refine ⟨H.x.set a3, by rw [get_set_ne a1]; exact H.aa, by rw [get_set_ne a2]; exact H.bb, fun j hj => ?_⟩
  obtain ⟨b1, b2, b3, r1, b4, b5⟩ := H.rw' j hj
  refine ⟨b1, b2, b3, ?_⟩
  by_cases e : k = j
  · subst e; exact ⟨r, get_set_same a4, hr⟩
  · exact ⟨r1, by rw [get_set_ne e]; exact b4, b5⟩
/-- the ends are changed -/
theorem HS.ends {h h' : Hm} {A B L n : Nat} {ls : List Nat} {ac ac' : List Bool} (H : HS h h' A B L n ls ac) (hB : h.length ≤ B) (hAB : A ≠ B) : HS h (h'.set B (.lst (ac'.map .bl))) A B L n ls ac' := by
  refine ⟨H.x.set hB, by rw [get_set_ne (Ne.symm hAB)]; exact H.aa, get_set_same H.bb, fun j hj => ?_⟩
  obtain ⟨b1, b2, b3, r1, b4, b5⟩ := H.rw' j hj
  exact ⟨b1, b2, b3, r1, by rw [get_set_ne (Ne.symm b2)]; exact b4, b5⟩
/-- what is handed back -/
theorem second_end {h h' : Hm} {A B L n : Nat} {ls : List Nat} {ac : List Bool} {M : Mach} {s : LS} {X : Nat → Hm → Prop} {a2 a5 a6 a7 : Option Val} {us : Option Val} (H : HS h h' A B L n ls ac) (hl : ls.length = n) (ha : ac.length = n) (hL : M.L = L) (hn : n < 1000) (Q : Val → Hm → Prop)
    (q : ∀ N : Mach, N.Ok → N.L = L → N.n = n → ∀ h2, Ext h h2 → Q N.val h2) :
    we (mTup (aCons (mBin opIx (mVar 0) (mC (.int 0))) (aCons (mCall cTuple (aCons (mLc (mIter (mVar 3)) [6] (gVar 6) tTrue (mCall cTuple (aCons (mVar 6) aNil))) aNil)) (aCons (mCall cTuple (aCons (mVar 4) aNil)) aNil))) [some M.val, us, a2, some (.loc A), some (.loc B), a5, a6, a7] h') Q X := by
  simp -implicitDefEqProofs only [we_bin, we_un, we_call, we_nil, we_cons, we_tup, we_lst, we_ifx, we_tB, we_tAnd, we_tOr, we_tNot, we_and, we_or, we_not, we_c, we_ok, we_true, isBl_bl, ws_nx, ws_brk, ws_cnt, ws_retN, ws_seq, ws_exp, ws_ret, ws_if, ws_asg, ws_asgT, ws_asgS, ws_for, sAug_eq, we_meth, mVar_eq, List.getElem?_cons_zero, List.getElem?_cons_succ, List.set_cons_zero, List.set_cons_succ, ↓reduceIte, we_add, we_sub, we_mul, we_mod, we_fdiv, we_cmp, we_neg, we_abs, we_int, we_intB, we_max2, we_min2, we_rng1, we_rng2, we_rng1c, we_rng2c, we_lenRo, we_lenTup, we_eqI, we_neI, we_eqB, we_neB, we_fnC2, we_sl, we_partN, we_partS, isInt_int, Int.reduceLT, Int.reduceLE, lim_pos, lim_1, lim_2, lim_3, we_dict1, ws_gvar, wipeS, we_addI, ws_raise, key2, isTup_tup, List.length_cons, List.length_nil, Nat.reduceAdd, Nat.zero_add, Bool.and_true, Bool.true_and, true_and, and_true, Bool.or_true, Bool.true_or, ite_dec, we_ixM0, we_lc, we_iter, we_iterL H.aa]
  refine we_lcN (H := fun h2 => h2 = h') (turns_loc (fun h2 e => by rw [e]; exact H.aa)) (fun i xs h2 => h2 = h' ∧ i ≤ ls.length ∧ ∃ rs : List (List Int), xs = rs.map rowV ∧ rs.length = i ∧ ∀ r ∈ rs, Row L n r) ⟨rfl, Nat.zero_le _, [], rfl, rfl, fun r hr => by simp at hr⟩ (fun i xs h2 _ z => z.1) ?_ ?_
  · rintro i v xs h2 hv ⟨rfl, hi, rs, rfl, lr, hr⟩
    rw [List.getElem?_map] at hv
    cases e : ls[i]? with
    | none => rw [e] at hv; cases hv
    | some k =>
      rw [e] at hv
      cases hv
      obtain ⟨b1, b2, b3, r, b4, b5⟩ := H.rw' k (List.mem_of_getElem? e)
      have hlim : (rs.map rowV).length < lim := by rw [List.length_map]; unfold lim; omega
      have hi2 := (List.getElem?_eq_some_iff.mp e).1
      simp -implicitDefEqProofs only [we_bin, we_un, we_call, we_nil, we_cons, we_tup, we_lst, we_ifx, we_tB, we_tAnd, we_tOr, we_tNot, we_and, we_or, we_not, we_c, we_ok, we_true, isBl_bl, ws_nx, ws_brk, ws_cnt, ws_retN, ws_seq, ws_exp, ws_ret, ws_if, ws_asg, ws_asgT, ws_asgS, ws_for, sAug_eq, we_meth, mVar_eq, List.getElem?_cons_zero, List.getElem?_cons_succ, List.set_cons_zero, List.set_cons_succ, ↓reduceIte, we_add, we_sub, we_mul, we_mod, we_fdiv, we_cmp, we_neg, we_abs, we_int, we_intB, we_max2, we_min2, we_rng1, we_rng2, we_rng1c, we_rng2c, we_lenRo, we_lenTup, we_eqI, we_neI, we_eqB, we_neB, we_fnC2, we_sl, we_partN, we_partS, isInt_int, Int.reduceLT, Int.reduceLE, lim_pos, lim_1, lim_2, lim_3, we_dict1, ws_gvar, wipeS, we_addI, ws_raise, key2, isTup_tup, List.length_cons, List.length_nil, Nat.reduceAdd, Nat.zero_add, Bool.and_true, Bool.true_and, true_and, and_true, Bool.or_true, Bool.true_or, ite_dec, we_tupL b4]
      exact ⟨hlim, hi2, rs ++ [r], by simp [rowV], by simp [lr], fun y hy => by
        rcases List.mem_append.mp hy with z | z
        · exact hr y z
        · have : y = r := by simpa using z
          subst this; exact b5⟩
  · rintro xs h2 ⟨rfl, hi, rs, rfl, lr, hr⟩
    rw [List.reverse_reverse, List.length_map] at *
    simp -implicitDefEqProofs only [we_bin, we_un, we_call, we_nil, we_cons, we_tup, we_lst, we_ifx, we_tB, we_tAnd, we_tOr, we_tNot, we_and, we_or, we_not, we_c, we_ok, we_true, isBl_bl, ws_nx, ws_brk, ws_cnt, ws_retN, ws_seq, ws_exp, ws_ret, ws_if, ws_asg, ws_asgT, ws_asgS, ws_for, sAug_eq, we_meth, mVar_eq, List.getElem?_cons_zero, List.getElem?_cons_succ, List.set_cons_zero, List.set_cons_succ, ↓reduceIte, we_add, we_sub, we_mul, we_mod, we_fdiv, we_cmp, we_neg, we_abs, we_int, we_intB, we_max2, we_min2, we_rng1, we_rng2, we_rng1c, we_rng2c, we_lenRo, we_lenTup, we_eqI, we_neI, we_eqB, we_neB, we_fnC2, we_sl, we_partN, we_partS, isInt_int, Int.reduceLT, Int.reduceLE, lim_pos, lim_1, lim_2, lim_3, we_dict1, ws_gvar, wipeS, we_addI, ws_raise, key2, isTup_tup, List.length_cons, List.length_nil, Nat.reduceAdd, Nat.zero_add, Bool.and_true, Bool.true_and, true_and, and_true, Bool.or_true, Bool.true_or, ite_dec, we_tupL (get_push _ _), we_tupL (get_push_old H.bb)]
    have e : (Mach.mk L rs ac).n = n := by show rs.length = n; omega
    have := q ⟨L, rs, ac⟩ ⟨by rw [e]; exact ha, fun r hz => by rw [e]; exact hr r hz⟩ rfl e (h2 ++ [.lst (rs.map rowV)]) (H.x.setNew)
    rw [hL]
    exact this
theorem law_machine_eq : m__law_machine = asFn 5 12 b_machine := by rw [m__law_machine.eq_def, b__law_machine.eq_def, b_machine.eq_def]
theorem law_machine_ok {l : Nat} {us : List Int} {at' L n : Nat} {gaps : Int} {h : Hm} {X : Nat → Hm → Prop} (e : h[l]? = some (.lst (us.map .int))) (hn : Nums us) (hu : 0 < us.length) (hL : L < 1000) (hs : n < 1000) :
    we (m__law_machine [.loc l, .int at', .int L, .int n, .int gaps] h) (fun v h' => ∃ M : Mach, M.Ok ∧ M.L = L ∧ M.n = n ∧ v = M.val ∧ Ext h h') X := by
  rw [law_machine_eq]; exact machine_ok e hn hu hL hs
theorem nat_of {i : Int} (h : 0 ≤ i) : ∃ n : Nat, i = n := ⟨i.toNat, (Int.toNat_of_nonneg h).symm⟩
theorem second_ok {M : Mach} {l : Nat} {us : List Int} {h : Hm} {X : Nat → Hm → Prop} (ok : M.Ok) (hL : M.L < 10) (hs : M.n < 10) (e : h[l]? = some (.lst (us.map .int))) (hn : Nums us) (hu : 10 < us.length) :
    we (m__law_second [M.val, .loc l] h) (fun v h' => ∃ N : Mach, N.Ok ∧ N.L = M.L ∧ N.n < 12 ∧ v = N.val ∧ Ext h h') X := by
  rw [m__law_second.eq_def]
  refine we_fn rfl ?_
  show ws (b__law_second [some M.val, some (.loc l), none, none, none, none, none, none] h) _
  rw [b__law_second.eq_def]
  obtain ⟨z0, n0, e0⟩ := num_ix (us := us) (k := 0) (by omega) hn
  obtain ⟨z1, n1, e1⟩ := num_ix (us := us) (k := 1) (by omega) hn
  obtain ⟨z2, n2, e2⟩ := num_ix (us := us) (k := 2) (by omega) hn
  obtain ⟨z3, n3, e3⟩ := num_ix (us := us) (k := 3) (by omega) hn
  obtain ⟨z4, n4, e4⟩ := num_ix (us := us) (k := 4) (by omega) hn
  have e0 : atI (us.map Val.int) 0 = some (.int z0) := e0
  have e1 : atI (us.map Val.int) 1 = some (.int z1) := e1
  have e2 : atI (us.map Val.int) 2 = some (.int z2) := e2
  have e3 : atI (us.map Val.int) 3 = some (.int z3) := e3
  have e4 : atI (us.map Val.int) 4 = some (.int z4) := e4
  have drawn : ∀ (P : Val → Hm → Prop), (∀ N : Mach, N.Ok → N.L = M.L → N.n < 12 → ∀ h2, Ext h h2 → P N.val h2) → we (m__law_machine [.loc l, .int 5, .int M.L, .int (z1 % 7), .int (z2 % 4)] h) P X := fun P hP => by
    obtain ⟨n, hz⟩ := nat_of (Int.emod_nonneg z1 (show (7 : Int) ≠ 0 by decide))
    rw [hz]
    have h7 := Int.emod_lt_of_pos z1 (show (0 : Int) < 7 by decide)
    refine (law_machine_ok (at' := 5) e hn (by omega) (by omega) (by omega)).mono (fun v h' ⟨N, o1, o2, o3, o4, o5⟩ => ?_) (fun _ _ z => z)
    rw [o4]; exact hP N o1 o2 (by omega) h' o5
  have fin1 : ∀ N : Mach, N.Ok → N.L = M.L → N.n < 12 → ∀ h2, Ext h h2 → ∃ N' : Mach, N'.Ok ∧ N'.L = M.L ∧ N'.n < 12 ∧ N.val = N'.val ∧ Ext h h2 := fun N a b c h2 d => ⟨N, a, b, c, rfl, d⟩
  rw [ws_seq]
  simp -implicitDefEqProofs only [we_bin, we_un, we_call, we_nil, we_cons, we_tup, we_lst, we_ifx, we_tB, we_tAnd, we_tOr, we_tNot, we_and, we_or, we_not, we_c, we_ok, we_true, isBl_bl, ws_nx, ws_brk, ws_cnt, ws_retN, ws_exp, ws_ret, ws_if, ws_asg, ws_asgT, ws_asgS, ws_for, sAug_eq, we_meth, mVar_eq, List.getElem?_cons_zero, List.getElem?_cons_succ, List.set_cons_zero, List.set_cons_succ, ↓reduceIte, we_add, we_sub, we_mul, we_mod, we_fdiv, we_cmp, we_neg, we_abs, we_int, we_intB, we_max2, we_min2, we_rng1, we_rng2, we_rng1c, we_rng2c, we_lenRo, we_lenTup, we_eqI, we_neI, we_eqB, we_neB, we_fnC2, we_sl, we_partN, we_partS, isInt_int, Int.reduceLT, Int.reduceLE, lim_pos, lim_1, lim_2, lim_3, we_dict1, ws_gvar, wipeS, we_addI, ws_raise, key2, isTup_tup, List.length_cons, List.length_nil, Nat.reduceAdd, Nat.zero_add, Bool.and_true, Bool.true_and, true_and, and_true, Bool.or_true, Bool.true_or, ite_dec, we_ixL e e0]
  rw [ws_seq]
  simp -implicitDefEqProofs only [we_bin, we_un, we_call, we_nil, we_cons, we_tup, we_lst, we_ifx, we_tB, we_tAnd, we_tOr, we_tNot, we_and, we_or, we_not, we_c, we_ok, we_true, isBl_bl, ws_nx, ws_brk, ws_cnt, ws_retN, ws_exp, ws_ret, ws_if, ws_asg, ws_asgT, ws_asgS, ws_for, sAug_eq, we_meth, mVar_eq, List.getElem?_cons_zero, List.getElem?_cons_succ, List.set_cons_zero, List.set_cons_succ, ↓reduceIte, we_add, we_sub, we_mul, we_mod, we_fdiv, we_cmp, we_neg, we_abs, we_int, we_intB, we_max2, we_min2, we_rng1, we_rng2, we_rng1c, we_rng2c, we_lenRo, we_lenTup, we_eqI, we_neI, we_eqB, we_neB, we_fnC2, we_sl, we_partN, we_partS, isInt_int, Int.reduceLT, Int.reduceLE, lim_pos, lim_1, lim_2, lim_3, we_dict1, ws_gvar, wipeS, we_addI, ws_raise, key2, isTup_tup, List.length_cons, List.length_nil, Nat.reduceAdd, Nat.zero_add, Bool.and_true, Bool.true_and, true_and, and_true, Bool.or_true, Bool.true_or, ite_dec, we_ixL e e1, we_ixL e e2, we_ixM0, we_ixM1, we_lenM, List.length_map]
  by_cases c1 : z0 % 6 < 2
  · rw [if_pos c1]; exact drawn _ fin1
  rw [if_neg c1]
  by_cases c2 : ((M.mv.length : Int) = 0)
  · rw [if_pos c2]; exact drawn _ fin1
  rw [if_neg c2]
  by_cases c3 : ((M.L : Int) = 0)
  · rw [if_pos c3]; exact drawn _ fin1
  rw [if_neg c3]
  have hs' : M.mv.length < 10 := hs
  -- the rows as lists
  rw [ws_seq]
  simp -implicitDefEqProofs only [we_bin, we_un, we_call, we_nil, we_cons, we_tup, we_lst, we_ifx, we_tB, we_tAnd, we_tOr, we_tNot, we_and, we_or, we_not, we_c, we_ok, we_true, isBl_bl, ws_nx, ws_brk, ws_cnt, ws_retN, ws_exp, ws_ret, ws_if, ws_asg, ws_asgT, ws_asgS, ws_for, sAug_eq, we_meth, mVar_eq, List.getElem?_cons_zero, List.getElem?_cons_succ, List.set_cons_zero, List.set_cons_succ, ↓reduceIte, we_add, we_sub, we_mul, we_mod, we_fdiv, we_cmp, we_neg, we_abs, we_int, we_intB, we_max2, we_min2, we_rng1, we_rng2, we_rng1c, we_rng2c, we_lenRo, we_lenTup, we_eqI, we_neI, we_eqB, we_neB, we_fnC2, we_sl, we_partN, we_partS, isInt_int, Int.reduceLT, Int.reduceLE, lim_pos, lim_1, lim_2, lim_3, we_dict1, ws_gvar, wipeS, we_addI, ws_raise, key2, isTup_tup, List.length_cons, List.length_nil, Nat.reduceAdd, Nat.zero_add, Bool.and_true, Bool.true_and, true_and, and_true, Bool.or_true, Bool.true_or, ite_dec, we_lc, we_iter, we_iterT, we_ixM1]
  refine we_lcN (H := fun _ => True) turns_vals (fun i xs h3 => ∃ ls : List Nat, xs = ls.map .loc ∧ ls.length = i ∧ Ext h h3 ∧ i ≤ M.mv.length ∧ ∀ k ∈ ls, h.length ≤ k ∧ ∃ r, h3[k]? = some (.lst (r.map .int)) ∧ Row M.L M.n r) ⟨[], rfl, rfl, Ext.refl h, Nat.zero_le _, fun k hk => by simp at hk⟩ (fun _ _ _ _ _ => trivial) ?_ ?_
  · rintro i v xs h3 hv ⟨ls, rfl, ll, x, hi, hr⟩
    rw [List.getElem?_map] at hv
    cases em : M.mv[i]? with
    | none => rw [em] at hv; cases hv
    | some r =>
      rw [em] at hv
      cases hv
      have hlim : (ls.map Val.loc).length < lim := by rw [List.length_map]; unfold lim; omega
      have hi2 := (List.getElem?_eq_some_iff.mp em).1
      simp -implicitDefEqProofs only [we_bin, we_un, we_call, we_nil, we_cons, we_tup, we_lst, we_ifx, we_tB, we_tAnd, we_tOr, we_tNot, we_and, we_or, we_not, we_c, we_ok, we_true, isBl_bl, ws_nx, ws_brk, ws_cnt, ws_retN, ws_seq, ws_exp, ws_ret, ws_if, ws_asg, ws_asgT, ws_asgS, ws_for, sAug_eq, we_meth, mVar_eq, List.getElem?_cons_zero, List.getElem?_cons_succ, List.set_cons_zero, List.set_cons_succ, ↓reduceIte, we_add, we_sub, we_mul, we_mod, we_fdiv, we_cmp, we_neg, we_abs, we_int, we_intB, we_max2, we_min2, we_rng1, we_rng2, we_rng1c, we_rng2c, we_lenRo, we_lenTup, we_eqI, we_neI, we_eqB, we_neB, we_fnC2, we_sl, we_partN, we_partS, isInt_int, Int.reduceLT, Int.reduceLE, lim_pos, lim_1, lim_2, lim_3, we_dict1, ws_gvar, wipeS, we_addI, ws_raise, key2, isTup_tup, List.length_cons, List.length_nil, Nat.reduceAdd, Nat.zero_add, Bool.and_true, Bool.true_and, true_and, and_true, Bool.or_true, Bool.true_or, ite_dec, we_lstRow]
      refine ⟨hlim, ls ++ [h3.length], by simp, by simp [ll], x.setNew, hi2, fun k hk => ?_⟩
      rcases List.mem_append.mp hk with z | z
      · obtain ⟨a1, r', a2, a3⟩ := hr k z
        exact ⟨a1, r', get_push_old a2, a3⟩
      · have : k = h3.length := by simpa using z
        subst this
        exact ⟨x.len, r, get_push _ _, ok.row r (List.mem_of_getElem? em)⟩
  rintro xs h3 ⟨ls, rfl, ll, x, hi, hr⟩
  rw [List.reverse_reverse]
  rw [List.length_map] at ll
  have gA : (h3 ++ [HObj.lst (ls.map .loc)])[h3.length]? = some (.lst (ls.map .loc)) := get_push _ _
  have eB : (h3 ++ [HObj.lst (ls.map Val.loc)]).length = h3.length + 1 := by simp
  have hh3 := x.len
  -- the heap at the changes
  have H0 : HS h (h3 ++ [HObj.lst (ls.map .loc)] ++ [HObj.lst (M.ac.map .bl)]) h3.length (h3.length + 1) M.L M.n ls M.ac := by
    refine ⟨x.setNew.setNew, get_push_old gA, by have := get_push (h3 ++ [HObj.lst (ls.map Val.loc)]) (HObj.lst (M.ac.map .bl)); rw [eB] at this; exact this, fun k hk => ?_⟩
    obtain ⟨a1, r', a2, a3⟩ := hr k hk
    have := get_lt a2
    exact ⟨by omega, by omega, a1, r', get_push_old (get_push_old a2), a3⟩
  rw [ws_seq]
  simp -implicitDefEqProofs only [we_bin, we_un, we_call, we_nil, we_cons, we_tup, we_lst, we_ifx, we_tB, we_tAnd, we_tOr, we_tNot, we_and, we_or, we_not, we_c, we_ok, we_true, isBl_bl, ws_nx, ws_brk, ws_cnt, ws_retN, ws_exp, ws_ret, ws_if, ws_asg, ws_asgT, ws_asgS, ws_for, sAug_eq, we_meth, mVar_eq, List.getElem?_cons_zero, List.getElem?_cons_succ, List.set_cons_zero, List.set_cons_succ, ↓reduceIte, we_add, we_sub, we_mul, we_mod, we_fdiv, we_cmp, we_neg, we_abs, we_int, we_intB, we_max2, we_min2, we_rng1, we_rng2, we_rng1c, we_rng2c, we_lenRo, we_lenTup, we_eqI, we_neI, we_eqB, we_neB, we_fnC2, we_sl, we_partN, we_partS, isInt_int, Int.reduceLT, Int.reduceLE, lim_pos, lim_1, lim_2, lim_3, we_dict1, ws_gvar, wipeS, we_addI, ws_raise, key2, isTup_tup, List.length_cons, List.length_nil, Nat.reduceAdd, Nat.zero_add, Bool.and_true, Bool.true_and, true_and, and_true, Bool.or_true, Bool.true_or, ite_dec, we_ixM2, we_lstT, eB]
  have p0 : (0 : Int) < ls.length := by omega
  rw [ws_seq]
  simp -implicitDefEqProofs only [we_bin, we_un, we_call, we_nil, we_cons, we_tup, we_lst, we_ifx, we_tB, we_tAnd, we_tOr, we_tNot, we_and, we_or, we_not, we_c, we_ok, we_true, isBl_bl, ws_nx, ws_brk, ws_cnt, ws_retN, ws_exp, ws_ret, ws_if, ws_asg, ws_asgT, ws_asgS, ws_for, sAug_eq, we_meth, mVar_eq, List.getElem?_cons_zero, List.getElem?_cons_succ, List.set_cons_zero, List.set_cons_succ, ↓reduceIte, we_add, we_sub, we_mul, we_mod, we_fdiv, we_cmp, we_neg, we_abs, we_int, we_intB, we_max2, we_min2, we_rng1, we_rng2, we_rng1c, we_rng2c, we_lenRo, we_lenTup, we_eqI, we_neI, we_eqB, we_neB, we_fnC2, we_sl, we_partN, we_partS, isInt_int, Int.reduceLT, Int.reduceLE, lim_pos, lim_1, lim_2, lim_3, we_dict1, ws_gvar, wipeS, we_addI, ws_raise, key2, isTup_tup, List.length_cons, List.length_nil, Nat.reduceAdd, Nat.zero_add, Bool.and_true, Bool.true_and, true_and, and_true, Bool.or_true, Bool.true_or, ite_dec, we_ixL (H0.x.get e) e1, we_len H0.aa, List.length_map, p0]
  obtain ⟨q, hq⟩ := nat_of (Int.emod_nonneg z1 (show (ls.length : Int) ≠ 0 by omega))
  have hq2 : q < ls.length := by have := Int.emod_lt_of_pos z1 p0; omega
  rw [hq]
  have oka : M.ac.length = M.n := ok.len
  have lsn : ls.length = M.n := ll
  generalize h3 ++ [HObj.lst (ls.map Val.loc)] ++ [HObj.lst (M.ac.map .bl)] = h4 at H0 ⊢
  generalize M.ac = ac at H0 oka
  -- one end
  refine ws_cut (fun s h' => ∃ ac, s = [some M.val, some (.loc l), some (.int (z0 % 6)), some (.loc h3.length), some (.loc (h3.length + 1)), some (.int (q : Int)), none, none] ∧ HS h h' h3.length (h3.length + 1) M.L M.n ls ac ∧ ac.length = M.n) ?_ ?_
  · have eb := H0.bb
    have hqa : q < ac.length := by omega
    have ea : atI (ac.map Val.bl) (q : Int) = some (.bl ac[q]) := atI_map (List.getElem?_eq_getElem hqa)
    simp -implicitDefEqProofs only [we_bin, we_un, we_call, we_nil, we_cons, we_tup, we_lst, we_ifx, we_tB, we_tAnd, we_tOr, we_tNot, we_and, we_or, we_not, we_c, we_ok, we_true, isBl_bl, ws_nx, ws_brk, ws_cnt, ws_retN, ws_seq, ws_exp, ws_ret, ws_if, ws_asg, ws_asgT, ws_asgS, ws_for, sAug_eq, we_meth, mVar_eq, List.getElem?_cons_zero, List.getElem?_cons_succ, List.set_cons_zero, List.set_cons_succ, ↓reduceIte, we_add, we_sub, we_mul, we_mod, we_fdiv, we_cmp, we_neg, we_abs, we_int, we_intB, we_max2, we_min2, we_rng1, we_rng2, we_rng1c, we_rng2c, we_lenRo, we_lenTup, we_eqI, we_neI, we_eqB, we_neB, we_fnC2, we_sl, we_partN, we_partS, isInt_int, Int.reduceLT, Int.reduceLE, lim_pos, lim_1, lim_2, lim_3, we_dict1, ws_gvar, wipeS, we_addI, ws_raise, key2, isTup_tup, List.length_cons, List.length_nil, Nat.reduceAdd, Nat.zero_add, Bool.and_true, Bool.true_and, true_and, and_true, Bool.or_true, Bool.true_or, ite_dec, we_ixL eb ea]
    split
    · refine ⟨_, set_L eb (by omega) (by rw [List.length_map]; omega), ac.set q (!ac[q]), ?_, by rw [List.length_set]; exact oka⟩
      rw [Int.toNat_natCast, show (ac.map Val.bl).set q (.bl !ac[q]) = (ac.set q (!ac[q])).map Val.bl by rw [List.map_set]]
      exact H0.ends (by omega) (by omega)
    · exact ⟨ac, H0, oka⟩
  clear H0 oka
  rintro s h5 ⟨ac, rfl, H0, oka⟩
  -- one move
  refine ws_cut (fun s h' => s = [some M.val, some (.loc l), some (.int (z0 % 6)), some (.loc h3.length), some (.loc (h3.length + 1)), some (.int (q : Int)), none, none] ∧ HS h h' h3.length (h3.length + 1) M.L M.n ls ac) ?_ ?_
  · have hk : ls[q]? = some ls[q] := List.getElem?_eq_getElem hq2
    generalize ls[q] = k at hk
    obtain ⟨b1, b2, b3, r, b4, b5⟩ := H0.rw' k (List.mem_of_getElem? hk)
    have p1 : (0 : Int) < (ls.length : Int) + 1 := by omega
    have p2 : (0 : Int) < (M.L : Int) := by omega
    simp -implicitDefEqProofs only [we_bin, we_un, we_call, we_nil, we_cons, we_tup, we_lst, we_ifx, we_tB, we_tAnd, we_tOr, we_tNot, we_and, we_or, we_not, we_c, we_ok, we_true, isBl_bl, ws_nx, ws_brk, ws_cnt, ws_retN, ws_seq, ws_exp, ws_ret, ws_if, ws_asg, ws_asgT, ws_asgS, ws_for, sAug_eq, we_meth, mVar_eq, List.getElem?_cons_zero, List.getElem?_cons_succ, List.set_cons_zero, List.set_cons_succ, ↓reduceIte, we_add, we_sub, we_mul, we_mod, we_fdiv, we_cmp, we_neg, we_abs, we_int, we_intB, we_max2, we_min2, we_rng1, we_rng2, we_rng1c, we_rng2c, we_lenRo, we_lenTup, we_eqI, we_neI, we_eqB, we_neB, we_fnC2, we_sl, we_partN, we_partS, isInt_int, Int.reduceLT, Int.reduceLE, lim_pos, lim_1, lim_2, lim_3, we_dict1, ws_gvar, wipeS, we_addI, ws_raise, key2, isTup_tup, List.length_cons, List.length_nil, Nat.reduceAdd, Nat.zero_add, Bool.and_true, Bool.true_and, true_and, and_true, Bool.or_true, Bool.true_or, ite_dec, we_ixL (H0.x.get e) e3, we_len H0.aa, List.length_map, p1, p2, we_ixL H0.aa (atI_map (f := Val.loc) hk), we_ixL (H0.x.get e) e2, we_ixM0]
    split
    · have h1 := Int.emod_nonneg z2 (show (M.L : Int) ≠ 0 by omega)
      have h2 := Int.emod_lt_of_pos z2 p2
      have h3' := Int.emod_nonneg z3 (show (ls.length : Int) + 1 ≠ 0 by omega)
      have h4' := Int.emod_lt_of_pos z3 p1
      refine ⟨_, set_L b4 h1 (by rw [List.length_map, b5.1]; exact h2), ?_⟩
      rw [show (r.map Val.int).set (z2 % (M.L : Int)).toNat (.int (z3 % ((ls.length : Int) + 1) - 1)) = (r.set (z2 % (M.L : Int)).toNat (z3 % ((ls.length : Int) + 1) - 1)).map Val.int by rw [List.map_set]]
      exact H0.row (List.mem_of_getElem? hk) (Row.set b5 ⟨by omega, by omega⟩)
    · exact H0
  rintro s h6 ⟨rfl, H1⟩
  clear H0
  -- a doubled state
  refine ws_cut (fun s h' => ∃ n ls ac a6 a7, s = [some M.val, some (.loc l), some (.int (z0 % 6)), some (.loc h3.length), some (.loc (h3.length + 1)), some (.int (q : Int)), a6, a7] ∧ HS h h' h3.length (h3.length + 1) M.L n ls ac ∧ ac.length = n ∧ ls.length = n ∧ n ≤ M.n + 1) ?_ ?_
  · have hk : ls[q]? = some ls[q] := List.getElem?_eq_getElem hq2
    generalize ls[q] = k at hk
    obtain ⟨b1, b2, b3, r, b4, b5⟩ := H1.rw' k (List.mem_of_getElem? hk)
    have hqa : q < ac.length := by omega
    have ea : atI (ac.map Val.bl) (q : Int) = some (.bl ac[q]) := atI_map (List.getElem?_eq_getElem hqa)
    generalize ac[q] = aq at ea
    have f1 : (h6 ++ [HObj.lst (r.map .int)])[h3.length]? = some (.lst (ls.map .loc)) := get_push_old H1.aa
    have f1b : (h6 ++ [HObj.lst (r.map .int)])[h3.length + 1]? = some (.lst (ac.map .bl)) := get_push_old H1.bb
    have lA : (ls.map Val.loc).length < lim := by rw [List.length_map]; unfold lim; omega
    have lB : (ac.map Val.bl).length < lim := by rw [List.length_map]; unfold lim; omega
    have f2 : ((h6 ++ [HObj.lst (r.map .int)]).set h3.length (.lst (ls.map .loc ++ [.loc h6.length])))[h3.length + 1]? = some (.lst (ac.map .bl)) := by rw [get_set_ne (by omega)]; exact f1b
    have l6A := get_lt H1.aa
    have l6B := get_lt H1.bb
    -- the heap with the doubled state
    have H2 : HS h (((h6 ++ [HObj.lst (r.map .int)]).set h3.length (.lst (ls.map .loc ++ [.loc h6.length]))).set (h3.length + 1) (.lst (ac.map .bl ++ [.bl aq]))) h3.length (h3.length + 1) M.L (M.n + 1) (ls ++ [h6.length]) (ac ++ [aq]) := by
      refine ⟨((H1.x.setNew).set (by omega)).set (by omega), by rw [get_set_ne (by omega), get_set_same f1, map_push'], by rw [get_set_same f2, map_push'], fun j hj => ?_⟩
      rcases List.mem_append.mp hj with z | z
      · obtain ⟨c1, c2, c3, r', c4, c5⟩ := H1.rw' j z
        exact ⟨c1, c2, c3, r', by rw [get_set_ne (Ne.symm c2), get_set_ne (Ne.symm c1)]; exact get_push_old c4, Row.up c5⟩
      · have : j = h6.length := by simpa using z
        subst this
        have := H1.x.len
        exact ⟨by omega, by omega, this, r, by rw [get_set_ne (by omega), get_set_ne (by omega)]; exact get_push _ _, Row.up b5⟩
    simp -implicitDefEqProofs only [we_bin, we_un, we_call, we_nil, we_cons, we_tup, we_lst, we_ifx, we_tB, we_tAnd, we_tOr, we_tNot, we_and, we_or, we_not, we_c, we_ok, we_true, isBl_bl, ws_nx, ws_brk, ws_cnt, ws_retN, ws_seq, ws_exp, ws_ret, ws_if, ws_asg, ws_asgT, ws_asgS, ws_for, sAug_eq, we_meth, mVar_eq, List.getElem?_cons_zero, List.getElem?_cons_succ, List.set_cons_zero, List.set_cons_succ, ↓reduceIte, we_add, we_sub, we_mul, we_mod, we_fdiv, we_cmp, we_neg, we_abs, we_int, we_intB, we_max2, we_min2, we_rng1, we_rng2, we_rng1c, we_rng2c, we_lenRo, we_lenTup, we_eqI, we_neI, we_eqB, we_neB, we_fnC2, we_sl, we_partN, we_partS, isInt_int, Int.reduceLT, Int.reduceLE, lim_pos, lim_1, lim_2, lim_3, we_dict1, ws_gvar, wipeS, we_addI, ws_raise, key2, isTup_tup, List.length_cons, List.length_nil, Nat.reduceAdd, Nat.zero_add, Bool.and_true, Bool.true_and, true_and, and_true, Bool.or_true, Bool.true_or, ite_dec, isL_loc H1.aa, we_ixL H1.aa (atI_map (f := Val.loc) hk), we_lstL b4, we_append f1 lA, isL_loc f2, we_ixL f2 ea, we_append f2 lB, we_iter, we_iterL H2.aa]
    generalize (((h6 ++ [HObj.lst (r.map .int)]).set h3.length (.lst (ls.map .loc ++ [.loc h6.length]))).set (h3.length + 1) (.lst (ac.map .bl ++ [.bl aq]))) = h7 at H2 ⊢
    split
    · refine ws_list (fun i s h' => ∃ a6 a7, s = [some M.val, some (.loc l), some (.int (z0 % 6)), some (.loc h3.length), some (.loc (h3.length + 1)), some (.int (q : Int)), a6, a7] ∧ HS h h' h3.length (h3.length + 1) M.L (M.n + 1) (ls ++ [h6.length]) (ac ++ [aq])) ⟨none, none, rfl, H2⟩ (fun i s h' _ ⟨_, _, _, z⟩ => z.aa) ?_ ?_
      · rintro i v s h8 hv ⟨a6, a7, rfl, H3⟩
        rw [List.getElem?_map] at hv
        cases ev : (ls ++ [h6.length])[i]? with
        | none => rw [ev] at hv; cases hv
        | some k' =>
          rw [ev] at hv
          cases hv
          have hk' := List.mem_of_getElem? ev
          simp -implicitDefEqProofs only [we_bin, we_un, we_call, we_nil, we_cons, we_tup, we_lst, we_ifx, we_tB, we_tAnd, we_tOr, we_tNot, we_and, we_or, we_not, we_c, we_ok, we_true, isBl_bl, ws_nx, ws_brk, ws_cnt, ws_retN, ws_seq, ws_exp, ws_ret, ws_if, ws_asg, ws_asgT, ws_asgS, ws_for, sAug_eq, we_meth, mVar_eq, List.getElem?_cons_zero, List.getElem?_cons_succ, List.set_cons_zero, List.set_cons_succ, ↓reduceIte, we_add, we_sub, we_mul, we_mod, we_fdiv, we_cmp, we_neg, we_abs, we_int, we_intB, we_max2, we_min2, we_rng1, we_rng2, we_rng1c, we_rng2c, we_lenRo, we_lenTup, we_eqI, we_neI, we_eqB, we_neB, we_fnC2, we_sl, we_partN, we_partS, isInt_int, Int.reduceLT, Int.reduceLE, lim_pos, lim_1, lim_2, lim_3, we_dict1, ws_gvar, wipeS, we_addI, ws_raise, key2, isTup_tup, List.length_cons, List.length_nil, Nat.reduceAdd, Nat.zero_add, Bool.and_true, Bool.true_and, true_and, and_true, Bool.or_true, Bool.true_or, ite_dec, we_ixM0]
          rw [if_pos (inR_nat (by omega)), Int.toNat_natCast]
          refine ws_range (fun j s h' => ∃ a7, s = [some M.val, some (.loc l), some (.int (z0 % 6)), some (.loc h3.length), some (.loc (h3.length + 1)), some (.int (q : Int)), some (.loc k'), a7] ∧ HS h h' h3.length (h3.length + 1) M.L (M.n + 1) (ls ++ [h6.length]) (ac ++ [aq])) ⟨a7, rfl, H3⟩ ?_ ?_
          · rintro j s h9 hj ⟨a7, rfl, H4⟩
            obtain ⟨d1, d2, d3, r', d4, d5⟩ := H4.rw' k' hk'
            have hj' : j < r'.length := by rw [d5.1]; exact hj
            have er : atI (r'.map Val.int) (j : Int) = some (.int r'[j]) := atI_map (List.getElem?_eq_getElem hj')
            have p1 : (0 : Int) < 1 + (j : Int) := by omega
            have p2 : (1 : Int) + (j : Int) < 1073741824 := by omega
            have ll2 : ((ls ++ [h6.length]).map Val.loc).length = M.n + 1 := by simp [lsn]
            have done : HS h h9 h3.length (h3.length + 1) M.L (M.n + 1) (ls ++ [h6.length]) (ac ++ [aq]) := H4
            simp -implicitDefEqProofs only [we_bin, we_un, we_call, we_nil, we_cons, we_tup, we_lst, we_ifx, we_tB, we_tAnd, we_tOr, we_tNot, we_and, we_or, we_not, we_c, we_ok, we_true, isBl_bl, ws_nx, ws_brk, ws_cnt, ws_retN, ws_seq, ws_exp, ws_ret, ws_if, ws_asg, ws_asgT, ws_asgS, ws_for, sAug_eq, we_meth, mVar_eq, List.getElem?_cons_zero, List.getElem?_cons_succ, List.set_cons_zero, List.set_cons_succ, ↓reduceIte, we_add, we_sub, we_mul, we_mod, we_fdiv, we_cmp, we_neg, we_abs, we_int, we_intB, we_max2, we_min2, we_rng1, we_rng2, we_rng1c, we_rng2c, we_lenRo, we_lenTup, we_eqI, we_neI, we_eqB, we_neB, we_fnC2, we_sl, we_partN, we_partS, isInt_int, Int.reduceLT, Int.reduceLE, lim_pos, lim_1, lim_2, lim_3, we_dict1, ws_gvar, wipeS, we_addI, ws_raise, key2, isTup_tup, List.length_cons, List.length_nil, Nat.reduceAdd, Nat.zero_add, Bool.and_true, Bool.true_and, true_and, and_true, Bool.or_true, Bool.true_or, ite_dec, Int.zero_add, Int.mul_one, we_ixL d4 er, we_ixL (H4.x.get e) e4, p1, p2, we_len H4.aa, ll2]
            have act : ∃ h4_1, opSet (.loc k') (.int (j : Int)) (.int (((M.n + 1 : Nat) : Int) - 1)) h9 = some h4_1 ∧ HS h h4_1 h3.length (h3.length + 1) M.L (M.n + 1) (ls ++ [h6.length]) (ac ++ [aq]) := by
              refine ⟨_, set_L d4 (by omega) (by rw [List.length_map]; omega), ?_⟩
              rw [Int.toNat_natCast, show (r'.map Val.int).set j (.int (((M.n + 1 : Nat) : Int) - 1)) = (r'.set j (((M.n + 1 : Nat) : Int) - 1)).map Val.int by rw [List.map_set]]
              exact H4.row hk' (Row.set d5 ⟨by omega, by omega⟩)
            obtain ⟨h10, g1, g2⟩ := act
            split
            · split
              · exact ⟨h10, g1, _, rfl, g2⟩
              · exact ⟨_, rfl, H4⟩
            · exact ⟨_, rfl, H4⟩
          · rintro s h9 ⟨a7, rfl, H4⟩
            exact ⟨_, _, rfl, H4⟩
      · rintro s h8 ⟨a6, a7, rfl, H3⟩
        exact ⟨M.n + 1, _, _, _, _, rfl, H3, by simp [oka], by simp [lsn], Nat.le_refl _⟩
    · exact ⟨M.n, ls, ac, _, _, rfl, H1, oka, lsn, by omega⟩
  · rintro s h7 ⟨n, ls, ac, a6, a7, rfl, H2, la, ll2, hn2⟩
    rw [ws_ret]
    refine second_end (s := []) H2 ll2 la rfl (by omega) _ fun N a b c h2 d => ⟨N, a, b, by omega, rfl, d⟩
end K28

set_option maxHeartbeats 1000000
/-! K28v: the law says True. -/
namespace K28
open Mn L2
theorem law_numbers_eq : m__law_numbers = asFn 2 9 b_numbers := by rw [m__law_numbers.eq_def, b__law_numbers.eq_def, b_numbers.eq_def]
theorem box_lt {M N : Mach} (h1 : M.n < 302) (h2 : N.n < 302) : box M N < 100000 := by
  unfold box
  have := Nat.mul_le_mul (show M.n + 1 ≤ 302 by omega) (show N.n + 1 ≤ 302 by omega)
  omega
theorem law_is (ns : List Int) (hns : ns.length ≤ 63) : we (m_law [.ro (ns.map .int)] []) (fun v _ => v = .bl true) (fun _ _ => False) := by
  rw [m_law.eq_def]
  refine we_fn rfl ?_
  show ws (b_law [some (.ro (ns.map .int)), none, none, none, none, none, none] []) _
  rw [b_law.eq_def]
  rw [ws_seq]
  simp -implicitDefEqProofs only [we_bin, we_un, we_call, we_nil, we_cons, we_tup, we_lst, we_ifx, we_tB, we_tAnd, we_tOr, we_tNot, we_and, we_or, we_not, we_c, we_ok, we_true, isBl_bl, ws_nx, ws_brk, ws_cnt, ws_retN, ws_exp, ws_ret, ws_if, ws_asg, ws_asgT, ws_asgS, ws_for, sAug_eq, we_meth, mVar_eq, List.getElem?_cons_zero, List.getElem?_cons_succ, List.set_cons_zero, List.set_cons_succ, ↓reduceIte, we_add, we_sub, we_mul, we_mod, we_fdiv, we_cmp, we_neg, we_abs, we_int, we_intB, we_max2, we_min2, we_rng1, we_rng2, we_rng1c, we_rng2c, we_lenRo, we_lenTup, we_eqI, we_neI, we_eqB, we_neB, we_fnC2, we_sl, we_partN, we_partS, isInt_int, Int.reduceLT, Int.reduceLE, lim_pos, lim_1, lim_2, lim_3, we_dict1, ws_gvar, wipeS, we_addI, ws_raise, key2, isTup_tup, List.length_cons, List.length_nil, Nat.reduceAdd, Nat.zero_add, Bool.and_true, Bool.true_and, true_and, and_true, Bool.or_true, Bool.true_or, ite_dec, law_numbers_eq]
  refine (numbers_ok (many := 200) (by omega) (by decide)).mono (fun v h1 hv => ?_) (fun _ _ z => z)
  obtain ⟨us, lu, hn, junk, rfl, rfl⟩ := hv
  have e : ([] ++ [HObj.lst junk, HObj.lst (us.map .int)] : Hm)[([] : Hm).length + 1]? = some (.lst (us.map .int)) := rfl
  generalize ([] ++ [HObj.lst junk, HObj.lst (us.map .int)] : Hm) = h1 at e ⊢
  generalize ([] : Hm).length + 1 = l at e ⊢
  obtain ⟨z0, n0, e0⟩ := num_ix (us := us) (k := 0) (by omega) hn
  obtain ⟨z1, n1, e1⟩ := num_ix (us := us) (k := 1) (by omega) hn
  obtain ⟨z2, n2, e2⟩ := num_ix (us := us) (k := 2) (by omega) hn
  obtain ⟨z3, n3, e3⟩ := num_ix (us := us) (k := 3) (by omega) hn
  have e0 : atI (us.map Val.int) 0 = some (.int z0) := e0
  have e1 : atI (us.map Val.int) 1 = some (.int z1) := e1
  have e2 : atI (us.map Val.int) 2 = some (.int z2) := e2
  have e3 : atI (us.map Val.int) 3 = some (.int z3) := e3
  obtain ⟨L, hL⟩ := nat_of (Int.emod_nonneg z0 (show (4 : Int) ≠ 0 by decide))
  have hL2 := Int.emod_lt_of_pos z0 (show (0 : Int) < 4 by decide)
  obtain ⟨n, hN⟩ := nat_of (Int.emod_nonneg z1 (show (8 : Int) ≠ 0 by decide))
  have hN2 := Int.emod_lt_of_pos z1 (show (0 : Int) < 8 by decide)
  rw [ws_seq]
  simp -implicitDefEqProofs only [we_bin, we_un, we_call, we_nil, we_cons, we_tup, we_lst, we_ifx, we_tB, we_tAnd, we_tOr, we_tNot, we_and, we_or, we_not, we_c, we_ok, we_true, isBl_bl, ws_nx, ws_brk, ws_cnt, ws_retN, ws_exp, ws_ret, ws_if, ws_asg, ws_asgT, ws_asgS, ws_for, sAug_eq, we_meth, mVar_eq, List.getElem?_cons_zero, List.getElem?_cons_succ, List.set_cons_zero, List.set_cons_succ, ↓reduceIte, we_add, we_sub, we_mul, we_mod, we_fdiv, we_cmp, we_neg, we_abs, we_int, we_intB, we_max2, we_min2, we_rng1, we_rng2, we_rng1c, we_rng2c, we_lenRo, we_lenTup, we_eqI, we_neI, we_eqB, we_neB, we_fnC2, we_sl, we_partN, we_partS, isInt_int, Int.reduceLT, Int.reduceLE, lim_pos, lim_1, lim_2, lim_3, we_dict1, ws_gvar, wipeS, we_addI, ws_raise, key2, isTup_tup, List.length_cons, List.length_nil, Nat.reduceAdd, Nat.zero_add, Bool.and_true, Bool.true_and, true_and, and_true, Bool.or_true, Bool.true_or, ite_dec, we_ixL e e0, we_ixL e e1, we_ixL e e2, hL, hN]
  refine (law_machine_ok (at' := 20) e hn (by omega) (by omega) (by omega)).mono (fun v h2 hv => ?_) (fun _ _ z => z)
  obtain ⟨M, oM, ML, Mn', rfl, x2⟩ := hv
  rw [ws_seq]
  simp -implicitDefEqProofs only [we_bin, we_un, we_call, we_nil, we_cons, we_tup, we_lst, we_ifx, we_tB, we_tAnd, we_tOr, we_tNot, we_and, we_or, we_not, we_c, we_ok, we_true, isBl_bl, ws_nx, ws_brk, ws_cnt, ws_retN, ws_exp, ws_ret, ws_if, ws_asg, ws_asgT, ws_asgS, ws_for, sAug_eq, we_meth, mVar_eq, List.getElem?_cons_zero, List.getElem?_cons_succ, List.set_cons_zero, List.set_cons_succ, ↓reduceIte, we_add, we_sub, we_mul, we_mod, we_fdiv, we_cmp, we_neg, we_abs, we_int, we_intB, we_max2, we_min2, we_rng1, we_rng2, we_rng1c, we_rng2c, we_lenRo, we_lenTup, we_eqI, we_neI, we_eqB, we_neB, we_fnC2, we_sl, we_partN, we_partS, isInt_int, Int.reduceLT, Int.reduceLE, lim_pos, lim_1, lim_2, lim_3, we_dict1, ws_gvar, wipeS, we_addI, ws_raise, key2, isTup_tup, List.length_cons, List.length_nil, Nat.reduceAdd, Nat.zero_add, Bool.and_true, Bool.true_and, true_and, and_true, Bool.or_true, Bool.true_or, ite_dec, we_slL (x2.get e), show (90 : Int) = ((90 : Nat) : Int) from rfl, cutL_from]
  have ed : (us.map Val.int).drop 90 = (us.drop 90).map .int := by rw [List.map_drop]
  rw [ed]
  refine (second_ok oM (by omega) (by omega) (get_push _ _) (fun x hx => hn x (List.mem_of_mem_drop hx)) (by rw [List.length_drop]; omega)).mono (fun v h3 hv => ?_) (fun _ _ z => z)
  obtain ⟨N, oN, NL, Nn, rfl, x3⟩ := hv
  have x13 : Ext h1 h3 := x2.trans ((Ext.push _ _).trans x3)
  rw [ws_seq]
  simp -implicitDefEqProofs only [we_bin, we_un, we_call, we_nil, we_cons, we_tup, we_lst, we_ifx, we_tB, we_tAnd, we_tOr, we_tNot, we_and, we_or, we_not, we_c, we_ok, we_true, isBl_bl, ws_nx, ws_brk, ws_cnt, ws_retN, ws_exp, ws_ret, ws_if, ws_asg, ws_asgT, ws_asgS, ws_for, sAug_eq, we_meth, mVar_eq, List.getElem?_cons_zero, List.getElem?_cons_succ, List.set_cons_zero, List.set_cons_succ, ↓reduceIte, we_add, we_sub, we_mul, we_mod, we_fdiv, we_cmp, we_neg, we_abs, we_int, we_intB, we_max2, we_min2, we_rng1, we_rng2, we_rng1c, we_rng2c, we_lenRo, we_lenTup, we_eqI, we_neI, we_eqB, we_neB, we_fnC2, we_sl, we_partN, we_partS, isInt_int, Int.reduceLT, Int.reduceLE, lim_pos, lim_1, lim_2, lim_3, we_dict1, ws_gvar, wipeS, we_addI, ws_raise, key2, isTup_tup, List.length_cons, List.length_nil, Nat.reduceAdd, Nat.zero_add, Bool.and_true, Bool.true_and, true_and, and_true, Bool.or_true, Bool.true_or, ite_dec]
  have nMN : M.L = N.L := NL.symm
  refine (told_ok oM oN nMN (by omega) (box_lt (by omega) (by omega))).mono (fun v h4 hv => ?_) (fun _ _ z => z)
  obtain ⟨rfl, x4⟩ := hv
  simp -implicitDefEqProofs only [we_bin, we_un, we_call, we_nil, we_cons, we_tup, we_lst, we_ifx, we_tB, we_tAnd, we_tOr, we_tNot, we_and, we_or, we_not, we_c, we_ok, we_true, isBl_bl, ws_nx, ws_brk, ws_cnt, ws_retN, ws_exp, ws_ret, ws_if, ws_asg, ws_asgT, ws_asgS, ws_for, sAug_eq, we_meth, mVar_eq, List.getElem?_cons_zero, List.getElem?_cons_succ, List.set_cons_zero, List.set_cons_succ, ↓reduceIte, we_add, we_sub, we_mul, we_mod, we_fdiv, we_cmp, we_neg, we_abs, we_int, we_intB, we_max2, we_min2, we_rng1, we_rng2, we_rng1c, we_rng2c, we_lenRo, we_lenTup, we_eqI, we_neI, we_eqB, we_neB, we_fnC2, we_sl, we_partN, we_partS, isInt_int, Int.reduceLT, Int.reduceLE, lim_pos, lim_1, lim_2, lim_3, we_dict1, ws_gvar, wipeS, we_addI, ws_raise, key2, isTup_tup, List.length_cons, List.length_nil, Nat.reduceAdd, Nat.zero_add, Bool.and_true, Bool.true_and, true_and, and_true, Bool.or_true, Bool.true_or, ite_dec, Bool.not_true, Bool.false_eq_true]
  refine (told_ok oN oM NL (by omega) (box_lt (by omega) (by omega))).mono (fun v h5 hv => ?_) (fun _ _ z => z)
  obtain ⟨rfl, x5⟩ := hv
  simp -implicitDefEqProofs only [we_bin, we_un, we_call, we_nil, we_cons, we_tup, we_lst, we_ifx, we_tB, we_tAnd, we_tOr, we_tNot, we_and, we_or, we_not, we_c, we_ok, we_true, isBl_bl, ws_nx, ws_brk, ws_cnt, ws_retN, ws_exp, ws_ret, ws_if, ws_asg, ws_asgT, ws_asgS, ws_for, sAug_eq, we_meth, mVar_eq, List.getElem?_cons_zero, List.getElem?_cons_succ, List.set_cons_zero, List.set_cons_succ, ↓reduceIte, we_add, we_sub, we_mul, we_mod, we_fdiv, we_cmp, we_neg, we_abs, we_int, we_intB, we_max2, we_min2, we_rng1, we_rng2, we_rng1c, we_rng2c, we_lenRo, we_lenTup, we_eqI, we_neI, we_eqB, we_neB, we_fnC2, we_sl, we_partN, we_partS, isInt_int, Int.reduceLT, Int.reduceLE, lim_pos, lim_1, lim_2, lim_3, we_dict1, ws_gvar, wipeS, we_addI, ws_raise, key2, isTup_tup, List.length_cons, List.length_nil, Nat.reduceAdd, Nat.zero_add, Bool.and_true, Bool.true_and, true_and, and_true, Bool.or_true, Bool.true_or, ite_dec, Bool.not_true, Bool.false_eq_true]
  refine (told_ok oM oM rfl (by omega) (box_lt (by omega) (by omega))).mono (fun v h6 hv => ?_) (fun _ _ z => z)
  obtain ⟨rfl, x6⟩ := hv
  simp -implicitDefEqProofs only [we_bin, we_un, we_call, we_nil, we_cons, we_tup, we_lst, we_ifx, we_tB, we_tAnd, we_tOr, we_tNot, we_and, we_or, we_not, we_c, we_ok, we_true, isBl_bl, ws_nx, ws_brk, ws_cnt, ws_retN, ws_exp, ws_ret, ws_if, ws_asg, ws_asgT, ws_asgS, ws_for, sAug_eq, we_meth, mVar_eq, List.getElem?_cons_zero, List.getElem?_cons_succ, List.set_cons_zero, List.set_cons_succ, ↓reduceIte, we_add, we_sub, we_mul, we_mod, we_fdiv, we_cmp, we_neg, we_abs, we_int, we_intB, we_max2, we_min2, we_rng1, we_rng2, we_rng1c, we_rng2c, we_lenRo, we_lenTup, we_eqI, we_neI, we_eqB, we_neB, we_fnC2, we_sl, we_partN, we_partS, isInt_int, Int.reduceLT, Int.reduceLE, lim_pos, lim_1, lim_2, lim_3, we_dict1, ws_gvar, wipeS, we_addI, ws_raise, key2, isTup_tup, List.length_cons, List.length_nil, Nat.reduceAdd, Nat.zero_add, Bool.and_true, Bool.true_and, true_and, and_true, Bool.or_true, Bool.true_or, ite_dec, Bool.not_true, Bool.false_eq_true]
  have x16 : Ext h1 h6 := x13.trans (x4.trans (x5.trans x6))
  refine ws_cut (fun s h' => ∃ a4 a6, s = [some (.ro (ns.map .int)), some (.loc l), some M.val, some N.val, a4, none, a6] ∧ Ext h1 h') ?_ ?_
  · simp -implicitDefEqProofs only [we_bin, we_un, we_call, we_nil, we_cons, we_tup, we_lst, we_ifx, we_tB, we_tAnd, we_tOr, we_tNot, we_and, we_or, we_not, we_c, we_ok, we_true, isBl_bl, ws_nx, ws_brk, ws_cnt, ws_retN, ws_seq, ws_exp, ws_ret, ws_if, ws_asg, ws_asgT, ws_asgS, ws_for, sAug_eq, we_meth, mVar_eq, List.getElem?_cons_zero, List.getElem?_cons_succ, List.set_cons_zero, List.set_cons_succ, ↓reduceIte, we_add, we_sub, we_mul, we_mod, we_fdiv, we_cmp, we_neg, we_abs, we_int, we_intB, we_max2, we_min2, we_rng1, we_rng2, we_rng1c, we_rng2c, we_lenRo, we_lenTup, we_eqI, we_neI, we_eqB, we_neB, we_fnC2, we_sl, we_partN, we_partS, isInt_int, Int.reduceLT, Int.reduceLE, lim_pos, lim_1, lim_2, lim_3, we_dict1, ws_gvar, wipeS, we_addI, ws_raise, key2, isTup_tup, List.length_cons, List.length_nil, Nat.reduceAdd, Nat.zero_add, Bool.and_true, Bool.true_and, true_and, and_true, Bool.or_true, Bool.true_or, ite_dec, we_ixL (x16.get e) e3, we_lc]
    split
    · rw [if_pos (by decide)]
      refine we_lcN (H := fun _ => True) turns_range (fun i xs h' => i ≤ 299 ∧ xs = wV (List.replicate i 0) ∧ h' = h6) ⟨by omega, rfl, rfl⟩ (fun _ _ _ _ _ => trivial) ?_ ?_
      · rintro i v xs h' hv ⟨hi, rfl, rfl⟩
        obtain ⟨h2, rfl⟩ := range_at hv
        have hlim : (wV (List.replicate i 0)).length < lim := by unfold wV lim; simp; omega
        have h2 : i < 299 := h2
        simp -implicitDefEqProofs only [we_bin, we_un, we_call, we_nil, we_cons, we_tup, we_lst, we_ifx, we_tB, we_tAnd, we_tOr, we_tNot, we_and, we_or, we_not, we_c, we_ok, we_true, isBl_bl, ws_nx, ws_brk, ws_cnt, ws_retN, ws_seq, ws_exp, ws_ret, ws_if, ws_asg, ws_asgT, ws_asgS, ws_for, sAug_eq, we_meth, mVar_eq, List.getElem?_cons_zero, List.getElem?_cons_succ, List.set_cons_zero, List.set_cons_succ, ↓reduceIte, we_add, we_sub, we_mul, we_mod, we_fdiv, we_cmp, we_neg, we_abs, we_int, we_intB, we_max2, we_min2, we_rng1, we_rng2, we_rng1c, we_rng2c, we_lenRo, we_lenTup, we_eqI, we_neI, we_eqB, we_neB, we_fnC2, we_sl, we_partN, we_partS, isInt_int, Int.reduceLT, Int.reduceLE, lim_pos, lim_1, lim_2, lim_3, we_dict1, ws_gvar, wipeS, we_addI, ws_raise, key2, isTup_tup, List.length_cons, List.length_nil, Nat.reduceAdd, Nat.zero_add, Bool.and_true, Bool.true_and, true_and, and_true, Bool.or_true, Bool.true_or, ite_dec]
        exact ⟨hlim, by omega, by unfold wV; rw [List.replicate_succ', List.map_append]; rfl⟩
      rintro xs h' ⟨hi, rfl, rfl⟩
      rw [List.reverse_reverse]
      refine (line_ok (n := 300) (last := false) (by decide) (by decide) _).mono (fun v h7 hv => ?_) (fun _ _ z => z)
      obtain ⟨rfl, x7⟩ := hv
      refine (line_ok (n := 300) (last := true) (by decide) (by decide) _).mono (fun v h8 hv => ?_) (fun _ _ z => z)
      obtain ⟨rfl, x8⟩ := hv
      refine (difference_ok (h := h8) (lineM_ok (n := 300) (last := false) (by decide)) (lineM_ok (n := 300) (last := true) (by decide)) rfl (by decide) (box_lt (by decide +kernel) (by decide +kernel))).mono (fun v h9 hv => ?_) (fun c h9 hx => ?_)
      · obtain ⟨w, b, k, ed, rfl, x9, hk, ek, _⟩ := hv
        rw [line_diff] at ed
        cases ed
        have eg := x9.get (x8.get (x7.get (get_push h' (HObj.lst (wV (List.replicate 299 0))))))
        rw [we_neW ek eg, isBl_bl, if_neg (by decide)]
        exact ⟨_, _, rfl, x16.trans ((Ext.push _ _).trans (x7.trans (x8.trans x9)))⟩
      · rw [line_diff] at hx; cases hx.1
    · exact ⟨_, _, rfl, x16⟩
  · rintro s h7 ⟨a4, a6, rfl, x7⟩
    rw [ws_seq]
    simp -implicitDefEqProofs only [we_bin, we_un, we_call, we_nil, we_cons, we_tup, we_lst, we_ifx, we_tB, we_tAnd, we_tOr, we_tNot, we_and, we_or, we_not, we_c, we_ok, we_true, isBl_bl, ws_nx, ws_brk, ws_cnt, ws_retN, ws_exp, ws_ret, ws_if, ws_asg, ws_asgT, ws_asgS, ws_for, sAug_eq, we_meth, mVar_eq, List.getElem?_cons_zero, List.getElem?_cons_succ, List.set_cons_zero, List.set_cons_succ, ↓reduceIte, we_add, we_sub, we_mul, we_mod, we_fdiv, we_cmp, we_neg, we_abs, we_int, we_intB, we_max2, we_min2, we_rng1, we_rng2, we_rng1c, we_rng2c, we_lenRo, we_lenTup, we_eqI, we_neI, we_eqB, we_neB, we_fnC2, we_sl, we_partN, we_partS, isInt_int, Int.reduceLT, Int.reduceLE, lim_pos, lim_1, lim_2, lim_3, we_dict1, ws_gvar, wipeS, we_addI, ws_raise, key2, isTup_tup, List.length_cons, List.length_nil, Nat.reduceAdd, Nat.zero_add, Bool.and_true, Bool.true_and, true_and, and_true, Bool.or_true, Bool.true_or, ite_dec, we_ixL (x7.get e) e0, hL]
    refine (law_machine_ok (at' := 40) (L := L + 1) (n := 2) (gaps := 1) (x7.get e) hn (by omega) (by omega) (by decide)).mono (fun v h8 hv => ?_) (fun _ _ z => z)
    obtain ⟨O, oO, OL, On, rfl, x8⟩ := hv
    have d1 : M.L ≠ O.L := by omega
    simp -implicitDefEqProofs only [we_bin, we_un, we_call, we_nil, we_cons, we_tup, we_lst, we_ifx, we_tB, we_tAnd, we_tOr, we_tNot, we_and, we_or, we_not, we_c, we_ok, we_true, isBl_bl, ws_nx, ws_brk, ws_cnt, ws_retN, ws_seq, ws_exp, ws_ret, ws_if, ws_asg, ws_asgT, ws_asgS, ws_for, sAug_eq, we_meth, mVar_eq, List.getElem?_cons_zero, List.getElem?_cons_succ, List.set_cons_zero, List.set_cons_succ, ↓reduceIte, we_add, we_sub, we_mul, we_mod, we_fdiv, we_cmp, we_neg, we_abs, we_int, we_intB, we_max2, we_min2, we_rng1, we_rng2, we_rng1c, we_rng2c, we_lenRo, we_lenTup, we_eqI, we_neI, we_eqB, we_neB, we_fnC2, we_sl, we_partN, we_partS, isInt_int, Int.reduceLT, Int.reduceLE, lim_pos, lim_1, lim_2, lim_3, we_dict1, ws_gvar, wipeS, we_addI, ws_raise, key2, isTup_tup, List.length_cons, List.length_nil, Nat.reduceAdd, Nat.zero_add, Bool.and_true, Bool.true_and, true_and, and_true, Bool.or_true, Bool.true_or, ite_dec, refused_ok d1, refused_ok (Ne.symm d1)]
theorem keeps (ns : List Int) (hns : ns.length ≤ 63) : Keeps m_law ns := by
  obtain ⟨v, h, e, rfl⟩ := (law_is ns hns).ok
  exact ⟨h, e⟩
end K28

namespace K28
open PySem PySem.Spec PyProof.Rows L2 Mn
/-! ### what the top has written, and the head -/
theorem all_mk {l : PySem.W.OpenLaw} {w : World} {K : PySem.W.Frag} {h : Heap} {mg : Str → Option Value} {fa : Addr} (X : K.In h) (G : h.Ns mainGlobals mg) (hfa : mg "law" = some (.ref fa))
    {C0 C1 C2 : Addr}
    (xg0 : PySem.W.nsIn K mainGlobals "DoppelError" = some (some (.ref C0))) (xg1 : PySem.W.nsIn K mainGlobals "NotAllowed" = some (some (.ref C1))) (xg2 : PySem.W.nsIn K mainGlobals "Same" = some (some (.ref C2)))
    (xq0 : PySem.W.excIn K C0 [.type "ValueError", .type "Exception", .type "BaseException", .type "object"] "ValueError.__new__" = true) (xk0 : PySem.W.keepIn K (.ref C0) = true) (xt0 : PySem.W.typeIn K (.ref C0) = some (.type "type")) (xa0 : PySem.W.findIn K (.ref C0) "__getattribute__" = some (some (.builtin "BaseException.__getattribute__"))) (xb0 : PySem.W.findIn K (.ref C0) "__getattr__" = some none) (xs0 : PySem.W.subIn K (.ref C0) (.type "BaseException") = some true) (xd0 : PySem.W.hasDictIn K C0 = true) (xc0 : PySem.W.findIn K (.ref C0) "__class__" = some (some (.builtin "object.__class__"))) (xm0 : PySem.W.mroIn K C0 (.type "object") = some true) (xr0_0 : PySem.W.subIn K (.ref C0) (.ref C0) = some true) (xr0_1 : PySem.W.subIn K (.ref C0) (.ref C1) = some false) (xr0_2 : PySem.W.subIn K (.ref C0) (.ref C2) = some false)
    (xq1 : PySem.W.excIn K C1 [.type "ValueError", .type "Exception", .type "BaseException", .type "object"] "ValueError.__new__" = true) (xk1 : PySem.W.keepIn K (.ref C1) = true) (xt1 : PySem.W.typeIn K (.ref C1) = some (.type "type")) (xa1 : PySem.W.findIn K (.ref C1) "__getattribute__" = some (some (.builtin "BaseException.__getattribute__"))) (xb1 : PySem.W.findIn K (.ref C1) "__getattr__" = some none) (xs1 : PySem.W.subIn K (.ref C1) (.type "BaseException") = some true) (xd1 : PySem.W.hasDictIn K C1 = true) (xc1 : PySem.W.findIn K (.ref C1) "__class__" = some (some (.builtin "object.__class__"))) (xm1 : PySem.W.mroIn K C1 (.type "object") = some true) (xr1_0 : PySem.W.subIn K (.ref C1) (.ref C0) = some true) (xr1_1 : PySem.W.subIn K (.ref C1) (.ref C1) = some true) (xr1_2 : PySem.W.subIn K (.ref C1) (.ref C2) = some false)
    (xq2 : PySem.W.excIn K C2 [.type "ValueError", .type "Exception", .type "BaseException", .type "object"] "ValueError.__new__" = true) (xk2 : PySem.W.keepIn K (.ref C2) = true) (xt2 : PySem.W.typeIn K (.ref C2) = some (.type "type")) (xa2 : PySem.W.findIn K (.ref C2) "__getattribute__" = some (some (.builtin "BaseException.__getattribute__"))) (xb2 : PySem.W.findIn K (.ref C2) "__getattr__" = some none) (xs2 : PySem.W.subIn K (.ref C2) (.type "BaseException") = some true) (xd2 : PySem.W.hasDictIn K C2 = true) (xc2 : PySem.W.findIn K (.ref C2) "__class__" = some (some (.builtin "object.__class__"))) (xm2 : PySem.W.mroIn K C2 (.type "object") = some true) (xr2_0 : PySem.W.subIn K (.ref C2) (.ref C0) = some true) (xr2_1 : PySem.W.subIn K (.ref C2) (.ref C1) = some false) (xr2_2 : PySem.W.subIn K (.ref C2) (.ref C2) = some true)
    (xn : PySem.W.specialIn K (.builtin "object.__class__") "__get__" = some (some (.builtin "getset_descriptor.__get__"))) (xh : PySem.W.takesIn K (.builtin "object.__class__") = some true)
    {f0 f1 f2 f3 f4 f5 f6 f7 f8 f9 f10 f11 f12 f13 f14 f15 : Addr}
    {oc0 oc1 oc2 oc3 oc4 oc5 oc6 oc7 oc8 oc9 oc10 oc11 oc12 oc13 oc14 oc15 : Value}
    {kV0 kV1 kV2 kV3 kV4 kV5 kV6 kV7 kV8 kV9 kV10 kV11 kV12 kV13 kV14 kV15 : Value}
    {dc0 dc1 dc2 dc3 dc4 dc5 dc6 dc7 dc8 dc9 dc10 dc11 dc12 dc13 dc14 dc15 : Value}
    {pm0 pm1 pm2 pm3 pm4 pm5 pm6 pm7 pm8 pm9 pm10 pm11 pm12 pm13 pm14 pm15 : Value}
    {cd0 cd1 cd2 cd3 cd4 cd5 cd6 cd7 cd8 cd9 cd10 cd11 cd12 cd13 cd14 cd15 : Value}
    {ct0 ct1 ct2 ct3 ct4 ct5 ct6 ct7 ct8 ct9 ct10 ct11 ct12 ct13 ct14 ct15 : Value}
    {od0 od1 od2 od3 od4 od5 od6 od7 od8 od9 od10 od11 od12 od13 od14 od15 : Option Addr}
    {an0 an1 an2 an3 an4 an5 an6 an7 an8 an9 an10 an11 an12 an13 an14 an15 : Option Addr}
    {sl0 sl1 sl2 sl3 sl4 sl5 sl6 sl7 sl8 sl9 sl10 sl11 sl12 sl13 sl14 sl15 : Array (Option Value)}
    (a0 : PySem.W.nsIn K mainGlobals "_law_line" = some (some (.ref f0))) (l0 : K.lookup f0 = some ⟨oc0, od0, .func (PySem.W.fnOf "_law_line" "_law_line" (defArgs (top 22)) (defBody (top 22)) (defScope (top 22)) .none kV0 dc0 pm0 an0 cd0 ct0), sl0⟩) (c0 : PySem.W.codeIn K cd0 "_law_line" = true) (k0 : PySem.W.keepIn K (.ref f0) = true)
    (a1 : PySem.W.nsIn K mainGlobals "_law_machine" = some (some (.ref f1))) (l1 : K.lookup f1 = some ⟨oc1, od1, .func (PySem.W.fnOf "_law_machine" "_law_machine" (defArgs (top 12)) (defBody (top 12)) (defScope (top 12)) .none kV1 dc1 pm1 an1 cd1 ct1), sl1⟩) (c1 : PySem.W.codeIn K cd1 "_law_machine" = true) (k1 : PySem.W.keepIn K (.ref f1) = true)
    (a2 : PySem.W.nsIn K mainGlobals "_law_numbers" = some (some (.ref f2))) (l2 : K.lookup f2 = some ⟨oc2, od2, .func (PySem.W.fnOf "_law_numbers" "_law_numbers" (defArgs (top 11)) (defBody (top 11)) (defScope (top 11)) .none kV2 dc2 pm2 an2 cd2 ct2), sl2⟩) (c2 : PySem.W.codeIn K cd2 "_law_numbers" = true) (k2 : PySem.W.keepIn K (.ref f2) = true)
    (a3 : PySem.W.nsIn K mainGlobals "check_letters" = some (some (.ref f3))) (l3 : K.lookup f3 = some ⟨oc3, od3, .func (PySem.W.fnOf "check_letters" "check_letters" (defArgs (top 8)) (defBody (top 8)) (defScope (top 8)) .none kV3 dc3 pm3 an3 cd3 ct3), sl3⟩) (c3 : PySem.W.codeIn K cd3 "check_letters" = true) (k3 : PySem.W.keepIn K (.ref f3) = true)
    (a4 : PySem.W.nsIn K mainGlobals "first_state" = some (some (.ref f4))) (l4 : K.lookup f4 = some ⟨oc4, od4, .func (PySem.W.fnOf "first_state" "first_state" (defArgs (top 5)) (defBody (top 5)) (defScope (top 5)) .none kV4 dc4 pm4 an4 cd4 ct4), sl4⟩) (c4 : PySem.W.codeIn K cd4 "first_state" = true) (k4 : PySem.W.keepIn K (.ref f4) = true)
    (a5 : PySem.W.nsIn K mainGlobals "is_accepting" = some (some (.ref f5))) (l5 : K.lookup f5 = some ⟨oc5, od5, .func (PySem.W.fnOf "is_accepting" "is_accepting" (defArgs (top 7)) (defBody (top 7)) (defScope (top 7)) .none kV5 dc5 pm5 an5 cd5 ct5), sl5⟩) (c5 : PySem.W.codeIn K cd5 "is_accepting" = true) (k5 : PySem.W.keepIn K (.ref f5) = true)
    (a6 : PySem.W.nsIn K mainGlobals "next_state" = some (some (.ref f6))) (l6 : K.lookup f6 = some ⟨oc6, od6, .func (PySem.W.fnOf "next_state" "next_state" (defArgs (top 6)) (defBody (top 6)) (defScope (top 6)) .none kV6 dc6 pm6 an6 cd6 ct6), sl6⟩) (c6 : PySem.W.codeIn K cd6 "next_state" = true) (k6 : PySem.W.keepIn K (.ref f6) = true)
    (a7 : PySem.W.nsIn K mainGlobals "difference" = some (some (.ref f7))) (l7 : K.lookup f7 = some ⟨oc7, od7, .func (PySem.W.fnOf "difference" "difference" (defArgs (top 9)) (defBody (top 9)) (defScope (top 9)) .none kV7 dc7 pm7 an7 cd7 ct7), sl7⟩) (c7 : PySem.W.codeIn K cd7 "difference" = true) (k7 : PySem.W.keepIn K (.ref f7) = true)
    (a8 : PySem.W.nsIn K mainGlobals "_law_refused" = some (some (.ref f8))) (l8 : K.lookup f8 = some ⟨oc8, od8, .func (PySem.W.fnOf "_law_refused" "_law_refused" (defArgs (top 21)) (defBody (top 21)) (defScope (top 21)) .none kV8 dc8 pm8 an8 cd8 ct8), sl8⟩) (c8 : PySem.W.codeIn K cd8 "_law_refused" = true) (k8 : PySem.W.keepIn K (.ref f8) = true)
    (a9 : PySem.W.nsIn K mainGlobals "_law_second" = some (some (.ref f9))) (l9 : K.lookup f9 = some ⟨oc9, od9, .func (PySem.W.fnOf "_law_second" "_law_second" (defArgs (top 18)) (defBody (top 18)) (defScope (top 18)) .none kV9 dc9 pm9 an9 cd9 ct9), sl9⟩) (c9 : PySem.W.codeIn K cd9 "_law_second" = true) (k9 : PySem.W.keepIn K (.ref f9) = true)
    (a10 : PySem.W.nsIn K mainGlobals "_law_ends" = some (some (.ref f10))) (l10 : K.lookup f10 = some ⟨oc10, od10, .func (PySem.W.fnOf "_law_ends" "_law_ends" (defArgs (top 14)) (defBody (top 14)) (defScope (top 14)) .none kV10 dc10 pm10 an10 cd10 ct10), sl10⟩) (c10 : PySem.W.codeIn K cd10 "_law_ends" = true) (k10 : PySem.W.keepIn K (.ref f10) = true)
    (a11 : PySem.W.nsIn K mainGlobals "_law_first" = some (some (.ref f11))) (l11 : K.lookup f11 = some ⟨oc11, od11, .func (PySem.W.fnOf "_law_first" "_law_first" (defArgs (top 15)) (defBody (top 15)) (defScope (top 15)) .none kV11 dc11 pm11 an11 cd11 ct11), sl11⟩) (c11 : PySem.W.codeIn K cd11 "_law_first" = true) (k11 : PySem.W.keepIn K (.ref f11) = true)
    (a12 : PySem.W.nsIn K mainGlobals "_law_next" = some (some (.ref f12))) (l12 : K.lookup f12 = some ⟨oc12, od12, .func (PySem.W.fnOf "_law_next" "_law_next" (defArgs (top 13)) (defBody (top 13)) (defScope (top 13)) .none kV12 dc12 pm12 an12 cd12 ct12), sl12⟩) (c12 : PySem.W.codeIn K cd12 "_law_next" = true) (k12 : PySem.W.keepIn K (.ref f12) = true)
    (a13 : PySem.W.nsIn K mainGlobals "_law_difference" = some (some (.ref f13))) (l13 : K.lookup f13 = some ⟨oc13, od13, .func (PySem.W.fnOf "_law_difference" "_law_difference" (defArgs (top 19)) (defBody (top 19)) (defScope (top 19)) .none kV13 dc13 pm13 an13 cd13 ct13), sl13⟩) (c13 : PySem.W.codeIn K cd13 "_law_difference" = true) (k13 : PySem.W.keepIn K (.ref f13) = true)
    (a14 : PySem.W.nsIn K mainGlobals "_law_told" = some (some (.ref f14))) (l14 : K.lookup f14 = some ⟨oc14, od14, .func (PySem.W.fnOf "_law_told" "_law_told" (defArgs (top 20)) (defBody (top 20)) (defScope (top 20)) .none kV14 dc14 pm14 an14 cd14 ct14), sl14⟩) (c14 : PySem.W.codeIn K cd14 "_law_told" = true) (k14 : PySem.W.keepIn K (.ref f14) = true)
    (a15 : PySem.W.nsIn K mainGlobals "law" = some (some (.ref f15))) (l15 : K.lookup f15 = some ⟨oc15, od15, .func (PySem.W.fnOf "law" "law" (defArgs (top 23)) (defBody (top 23)) (defScope (top 23)) .none kV15 dc15 pm15 an15 cd15 ct15), sl15⟩) (c15 : PySem.W.codeIn K cd15 "law" = true) (k15 : PySem.W.keepIn K (.ref f15) = true)
    (z_abs : PySem.W.nsIn K mainGlobals "abs" = some none)
    (z_bool : PySem.W.nsIn K mainGlobals "bool" = some none)
    (z_int : PySem.W.nsIn K mainGlobals "int" = some none)
    (z_isinstance : PySem.W.nsIn K mainGlobals "isinstance" = some none)
    (z_len : PySem.W.nsIn K mainGlobals "len" = some none)
    (z_list : PySem.W.nsIn K mainGlobals "list" = some none)
    (z_max : PySem.W.nsIn K mainGlobals "max" = some none)
    (z_range : PySem.W.nsIn K mainGlobals "range" = some none)
    (z_tuple : PySem.W.nsIn K mainGlobals "tuple" = some none)
    : ∃ (T : Tab) (fd : FuncData), (∀ (s : Shared) (u : Value), BindsTo s fd ⟨[u], []⟩ [("_law_script", u)]) ∧ ∀ base : Heap, K.In base → base.Ns mainGlobals mg → FM l.prog w K mg base T 4 fa fd ["_law_script"] m_law := by
  have e := hfa.symm.trans (PySem.W.mg_of X G a15)
  cases e
  have Z : Zs mg := ⟨PySem.W.mg_none_of X G z_abs, PySem.W.mg_none_of X G z_bool, PySem.W.mg_none_of X G z_int, PySem.W.mg_none_of X G z_isinstance, PySem.W.mg_none_of X G z_len, PySem.W.mg_none_of X G z_list, PySem.W.mg_none_of X G z_max, PySem.W.mg_none_of X G z_range, PySem.W.mg_none_of X G z_tuple⟩
  have Zx : Exs K mg (tabL [C0, C1, C2]) 3 sub nms := by
    refine exs_of [C0, C1, C2] (fun _ => rfl) rfl rfl ?_ ?_ (fun c => sub_rf c) (by decide +kernel) ?_
    · intro C hC
      simp only [List.mem_cons, List.not_mem_nil, or_false] at hC
      rcases hC with rfl | rfl | rfl
      · exact ⟨xq0, xk0, xt0, ⟨xa0, xb0, xs0, xd0, xc0, xn, xh, xm0⟩⟩
      · exact ⟨xq1, xk1, xt1, ⟨xa1, xb1, xs1, xd1, xc1, xn, xh, xm1⟩⟩
      · exact ⟨xq2, xk2, xt2, ⟨xa2, xb2, xs2, xd2, xc2, xn, xh, xm2⟩⟩
    · intro i j C D hi hj
      match i, j, hi, hj with
      | 0, 0, hi, hj => cases hi; cases hj; exact xr0_0
      | 0, 1, hi, hj => cases hi; cases hj; exact xr0_1
      | 0, 2, hi, hj => cases hi; cases hj; exact xr0_2
      | 0, j + 3, hi, hj => simp at hj
      | 1, 0, hi, hj => cases hi; cases hj; exact xr1_0
      | 1, 1, hi, hj => cases hi; cases hj; exact xr1_1
      | 1, 2, hi, hj => cases hi; cases hj; exact xr1_2
      | 1, j + 3, hi, hj => simp at hj
      | 2, 0, hi, hj => cases hi; cases hj; exact xr2_0
      | 2, 1, hi, hj => cases hi; cases hj; exact xr2_1
      | 2, 2, hi, hj => cases hi; cases hj; exact xr2_2
      | 2, j + 3, hi, hj => simp at hj
      | i + 3, j, hi, hj => simp at hi
    · intro i x C hi hj
      match i, hi, hj with
      | 0, hi, hj => cases hi; cases hj; exact PySem.W.mg_of X G xg0
      | 1, hi, hj => cases hi; cases hj; exact PySem.W.mg_of X G xg1
      | 2, hi, hj => cases hi; cases hj; exact PySem.W.mg_of X G xg2
      | i + 3, hi, hj => simp at hj
  have F0 := fun_mk (st := top 22) l0 c0 k0
  have b0 := F0.binds (ps := ["_law_states", "_law_last"]) fun _ _ _ _ _ _ us hl => match us, hl with | [_, _], _ => rfl
  have F1 := fun_mk (st := top 12) l1 c1 k1
  have b1 := F1.binds (ps := ["_law_numbers_here", "_law_at", "_law_letters", "_law_states", "_law_gaps"]) fun _ _ _ _ _ _ us hl => match us, hl with | [_, _, _, _, _], _ => rfl
  have F2 := fun_mk (st := top 11) l2 c2 k2
  have b2 := F2.binds (ps := ["_law_script", "_law_many"]) fun _ _ _ _ _ _ us hl => match us, hl with | [_, _], _ => rfl
  have F3 := fun_mk (st := top 8) l3 c3 k3
  have b3 := F3.binds (ps := ["first", "second"]) fun _ _ _ _ _ _ us hl => match us, hl with | [_, _], _ => rfl
  have F4 := fun_mk (st := top 5) l4 c4 k4
  have b4 := F4.binds (ps := ["machine"]) fun _ _ _ _ _ _ us hl => match us, hl with | [_], _ => rfl
  have F5 := fun_mk (st := top 7) l5 c5 k5
  have b5 := F5.binds (ps := ["machine", "state"]) fun _ _ _ _ _ _ us hl => match us, hl with | [_, _], _ => rfl
  have F6 := fun_mk (st := top 6) l6 c6 k6
  have b6 := F6.binds (ps := ["machine", "state", "letter"]) fun _ _ _ _ _ _ us hl => match us, hl with | [_, _, _], _ => rfl
  have F7 := fun_mk (st := top 9) l7 c7 k7
  have b7 := F7.binds (ps := ["first", "second"]) fun _ _ _ _ _ _ us hl => match us, hl with | [_, _], _ => rfl
  have F8 := fun_mk (st := top 21) l8 c8 k8
  have b8 := F8.binds (ps := ["_law_first_here", "_law_second_here"]) fun _ _ _ _ _ _ us hl => match us, hl with | [_, _], _ => rfl
  have F9 := fun_mk (st := top 18) l9 c9 k9
  have b9 := F9.binds (ps := ["_law_machine_here", "_law_numbers_here"]) fun _ _ _ _ _ _ us hl => match us, hl with | [_, _], _ => rfl
  have F10 := fun_mk (st := top 14) l10 c10 k10
  have b10 := F10.binds (ps := ["_law_machine_here", "_law_state"]) fun _ _ _ _ _ _ us hl => match us, hl with | [_, _], _ => rfl
  have F11 := fun_mk (st := top 15) l11 c11 k11
  have b11 := F11.binds (ps := ["_law_machine_here"]) fun _ _ _ _ _ _ us hl => match us, hl with | [_], _ => rfl
  have F12 := fun_mk (st := top 13) l12 c12 k12
  have b12 := F12.binds (ps := ["_law_machine_here", "_law_state", "_law_letter"]) fun _ _ _ _ _ _ us hl => match us, hl with | [_, _, _], _ => rfl
  have F13 := fun_mk (st := top 19) l13 c13 k13
  have b13 := F13.binds (ps := ["_law_first_here", "_law_second_here"]) fun _ _ _ _ _ _ us hl => match us, hl with | [_, _], _ => rfl
  have F14 := fun_mk (st := top 20) l14 c14 k14
  have b14 := F14.binds (ps := ["_law_first_here", "_law_second_here"]) fun _ _ _ _ _ _ us hl => match us, hl with | [_, _], _ => rfl
  have F15 := fun_mk (st := top 23) l15 c15 k15
  have b15 := F15.binds (ps := ["_law_script"]) fun _ _ _ _ _ _ us hl => match us, hl with | [_], _ => rfl
  refine ⟨tabL [C0, C1, C2], PySem.W.fnOf "law" "law" (defArgs (top 23)) (defBody (top 23)) (defScope (top 23)) .none kV15 dc15 pm15 an15 cd15 ct15, fun s u => .of_eq rfl, fun base _ _ => ?_⟩
  have c__law_line : Cal l.prog w K mg base (tabL [C0, C1, C2]) "_law_line" 1 ["_law_states", "_law_last"] m__law_line := cal_of (ok__law_line F0 Z Zx) (PySem.W.mg_of X G a0) k0 b0
  have c__law_machine : Cal l.prog w K mg base (tabL [C0, C1, C2]) "_law_machine" 1 ["_law_numbers_here", "_law_at", "_law_letters", "_law_states", "_law_gaps"] m__law_machine := cal_of (ok__law_machine F1 Z Zx) (PySem.W.mg_of X G a1) k1 b1
  have c__law_numbers : Cal l.prog w K mg base (tabL [C0, C1, C2]) "_law_numbers" 1 ["_law_script", "_law_many"] m__law_numbers := cal_of (ok__law_numbers F2 Z Zx) (PySem.W.mg_of X G a2) k2 b2
  have c_check_letters : Cal l.prog w K mg base (tabL [C0, C1, C2]) "check_letters" 1 ["first", "second"] m_check_letters := cal_of (ok_check_letters F3 Z Zx) (PySem.W.mg_of X G a3) k3 b3
  have c_first_state : Cal l.prog w K mg base (tabL [C0, C1, C2]) "first_state" 1 ["machine"] m_first_state := cal_of (ok_first_state F4 Z Zx) (PySem.W.mg_of X G a4) k4 b4
  have c_is_accepting : Cal l.prog w K mg base (tabL [C0, C1, C2]) "is_accepting" 1 ["machine", "state"] m_is_accepting := cal_of (ok_is_accepting F5 Z Zx) (PySem.W.mg_of X G a5) k5 b5
  have c_next_state : Cal l.prog w K mg base (tabL [C0, C1, C2]) "next_state" 1 ["machine", "state", "letter"] m_next_state := cal_of (ok_next_state F6 Z Zx) (PySem.W.mg_of X G a6) k6 b6
  have c_difference : Cal l.prog w K mg base (tabL [C0, C1, C2]) "difference" 2 ["first", "second"] m_difference := cal_of (ok_difference F7 Z Zx c_next_state c_is_accepting c_first_state c_check_letters) (PySem.W.mg_of X G a7) k7 b7
  have c__law_refused : Cal l.prog w K mg base (tabL [C0, C1, C2]) "_law_refused" 3 ["_law_first_here", "_law_second_here"] m__law_refused := cal_of (ok__law_refused F8 Z Zx c_difference) (PySem.W.mg_of X G a8) k8 b8
  have c__law_second : Cal l.prog w K mg base (tabL [C0, C1, C2]) "_law_second" 2 ["_law_machine_here", "_law_numbers_here"] m__law_second := cal_of (ok__law_second F9 Z Zx c__law_machine) (PySem.W.mg_of X G a9) k9 b9
  have c__law_ends : Cal l.prog w K mg base (tabL [C0, C1, C2]) "_law_ends" 1 ["_law_machine_here", "_law_state"] m__law_ends := cal_of (ok__law_ends F10 Z Zx) (PySem.W.mg_of X G a10) k10 b10
  have c__law_first : Cal l.prog w K mg base (tabL [C0, C1, C2]) "_law_first" 1 ["_law_machine_here"] m__law_first := cal_of (ok__law_first F11 Z Zx) (PySem.W.mg_of X G a11) k11 b11
  have c__law_next : Cal l.prog w K mg base (tabL [C0, C1, C2]) "_law_next" 1 ["_law_machine_here", "_law_state", "_law_letter"] m__law_next := cal_of (ok__law_next F12 Z Zx) (PySem.W.mg_of X G a12) k12 b12
  have c__law_difference : Cal l.prog w K mg base (tabL [C0, C1, C2]) "_law_difference" 2 ["_law_first_here", "_law_second_here"] m__law_difference := cal_of (ok__law_difference F13 Z Zx c__law_next c__law_ends c__law_first) (PySem.W.mg_of X G a13) k13 b13
  have c__law_told : Cal l.prog w K mg base (tabL [C0, C1, C2]) "_law_told" 3 ["_law_first_here", "_law_second_here"] m__law_told := cal_of (ok__law_told F14 Z Zx c_difference c__law_difference) (PySem.W.mg_of X G a14) k14 b14
  exact ok_law F15 Z Zx c__law_refused c__law_machine c_difference c__law_line c__law_told c__law_second c__law_numbers
end K28
open PySem PySem.W PyProof.Rows
set_option maxHeartbeats 0 in
theorem PySem.Challenge.cw_doppelganger_k28_first_differences_holds : PySem.Challenge.rw_doppelganger_k28_first_differences.Holds := by
  w_on; o_law; k_head; (case hw => w_witness2)
  k_fill
  refine Mn.walk_M (l := PySem.Challenge.rw_doppelganger_k28_first_differences) (n := 63) (k := 4) (x := "_law_script") (F := K28.m_law) rfl (by decide) rfl ⟨rfl, by decide, by decide⟩ K28.keeps (fun w h Y => PySem.W.kIn_of Y) ?W
  case W =>
    intro w mg fa h KX G hmg
    refine' K28.all_mk KX G hmg ?xg0 ?xg1 ?xg2 ?xq0 ?xk0 ?xt0 ?xa0 ?xb0 ?xs0 ?xd0 ?xc0 ?xm0 ?xr0_0 ?xr0_1 ?xr0_2 ?xq1 ?xk1 ?xt1 ?xa1 ?xb1 ?xs1 ?xd1 ?xc1 ?xm1 ?xr1_0 ?xr1_1 ?xr1_2 ?xq2 ?xk2 ?xt2 ?xa2 ?xb2 ?xs2 ?xd2 ?xc2 ?xm2 ?xr2_0 ?xr2_1 ?xr2_2 ?xn ?xh ?a0 ?l0 ?c0 ?k0 ?a1 ?l1 ?c1 ?k1 ?a2 ?l2 ?c2 ?k2 ?a3 ?l3 ?c3 ?k3 ?a4 ?l4 ?c4 ?k4 ?a5 ?l5 ?c5 ?k5 ?a6 ?l6 ?c6 ?k6 ?a7 ?l7 ?c7 ?k7 ?a8 ?l8 ?c8 ?k8 ?a9 ?l9 ?c9 ?k9 ?a10 ?l10 ?c10 ?k10 ?a11 ?l11 ?c11 ?k11 ?a12 ?l12 ?c12 ?k12 ?a13 ?l13 ?c13 ?k13 ?a14 ?l14 ?c14 ?k14 ?a15 ?l15 ?c15 ?k15 ?z_abs ?z_bool ?z_int ?z_isinstance ?z_len ?z_list ?z_max ?z_range ?z_tuple
    (case xg0 => k_is); (case xg1 => k_is); (case xg2 => k_is); (case xq0 => k_exc); (case xk0 => k_is); (case xt0 => k_is); (case xa0 => k_is); (case xb0 => k_is); (case xs0 => k_is); (case xd0 => k_is); (case xc0 => k_is); (case xm0 => k_is); (case xr0_0 => k_is); (case xr0_1 => k_is); (case xr0_2 => k_is); (case xq1 => k_exc); (case xk1 => k_is); (case xt1 => k_is); (case xa1 => k_is); (case xb1 => k_is); (case xs1 => k_is); (case xd1 => k_is); (case xc1 => k_is); (case xm1 => k_is); (case xr1_0 => k_is); (case xr1_1 => k_is); (case xr1_2 => k_is); (case xq2 => k_exc); (case xk2 => k_is); (case xt2 => k_is); (case xa2 => k_is); (case xb2 => k_is); (case xs2 => k_is); (case xd2 => k_is); (case xc2 => k_is); (case xm2 => k_is); (case xr2_0 => k_is); (case xr2_1 => k_is); (case xr2_2 => k_is); (case xn => k_is); (case xh => k_is); (case a0 => k_is); (case l0 => k_is); (case c0 => k_is); (case k0 => k_is); (case a1 => k_is); (case l1 => k_is); (case c1 => k_is); (case k1 => k_is); (case a2 => k_is); (case l2 => k_is); (case c2 => k_is); (case k2 => k_is); (case a3 => k_is); (case l3 => k_is); (case c3 => k_is); (case k3 => k_is); (case a4 => k_is); (case l4 => k_is); (case c4 => k_is); (case k4 => k_is); (case a5 => k_is); (case l5 => k_is); (case c5 => k_is); (case k5 => k_is); (case a6 => k_is); (case l6 => k_is); (case c6 => k_is); (case k6 => k_is); (case a7 => k_is); (case l7 => k_is); (case c7 => k_is); (case k7 => k_is); (case a8 => k_is); (case l8 => k_is); (case c8 => k_is); (case k8 => k_is); (case a9 => k_is); (case l9 => k_is); (case c9 => k_is); (case k9 => k_is); (case a10 => k_is); (case l10 => k_is); (case c10 => k_is); (case k10 => k_is); (case a11 => k_is); (case l11 => k_is); (case c11 => k_is); (case k11 => k_is); (case a12 => k_is); (case l12 => k_is); (case c12 => k_is); (case k12 => k_is); (case a13 => k_is); (case l13 => k_is); (case c13 => k_is); (case k13 => k_is); (case a14 => k_is); (case l14 => k_is); (case c14 => k_is); (case k14 => k_is); (case a15 => k_is); (case l15 => k_is); (case c15 => k_is); (case k15 => k_is); (case z_abs => k_is); (case z_bool => k_is); (case z_int => k_is); (case z_isinstance => k_is); (case z_len => k_is); (case z_list => k_is); (case z_max => k_is); (case z_range => k_is); (case z_tuple => k_is)
#print axioms PySem.Challenge.cw_doppelganger_k28_first_differences_holds

