import PyProof.Rows.All
import Wide.All
import OpenK.AllK
import Wide.FinOn
import HandS.ForMost
import HandS.ForExc
import HandS.Flow
import HandS.Small
import HandS.IsInst
import HandS.Wide
import HandS.Conv
import HandS.More
import HandS.Style
import HandS.Zip
import HandS.SortInts
import HandS.EndBits
import HandS.DeepEq
import KE.DataEq
import PySem.Challenge.RW_latewise_k37_chances_of_rows
set_option Elab.async false
set_option linter.all false
set_option maxRecDepth 100000
set_option maxHeartbeats 4000000
set_option exponentiation.threshold 20000
section
/-! Mini: small values, a small heap, a small run of Python, and how it lies under the hand layer. -/
namespace Mn
open PySem L2

/-- a small value: tuples lie within, lists, dicts, instances at a number -/
inductive Va where
  | non | bl (b : Bool) | int (i : Int) | str (x : Str) | tup (xs : List Va) | ref (i : Nat) | scr

inductive MO where
  | lst (xs : List Va)
  | dic (kvs : List (Va × Va))
  | ins (c : Nat) (fs : List (Str × Va))
  | lck (kvs : List (Va × Va))

/-! ### the small heap: a tree of objects by number -/
inductive Tr where
  | nil
  | node (o : Option MO) (l r : Tr)
def Tr.get (t : Tr) (i : Nat) : Option MO := match t with
  | .nil => none
  | .node o l r => match i with
    | 0 => o
    | k + 1 => cond ((k % 2).beq 0) (l.get (k / 2)) (r.get (k / 2))
/-- a node's three parts -/
def Tr.top (t : Tr) : Option MO := match t with
  | .nil => none
  | .node o _ _ => o
def Tr.left (t : Tr) : Tr := match t with
  | .nil => .nil
  | .node _ l _ => l
def Tr.right (t : Tr) : Tr := match t with
  | .nil => .nil
  | .node _ _ r => r
/-- n: how deep it may go -/
def Tr.put (n : Nat) (t : Tr) (i : Nat) (o : MO) : Tr := match n with
  | 0 => t
  | n + 1 => match i with
    | 0 => .node (some o) t.left t.right
    | k + 1 => cond ((k % 2).beq 0) (.node t.top (Tr.put n t.left (k / 2) o) t.right) (.node t.top t.left (Tr.put n t.right (k / 2) o))

theorem Tr.get_zero (t : Tr) : t.get 0 = t.top := by cases t <;> rfl
theorem Tr.get_succ (t : Tr) (k : Nat) : t.get (k + 1) = cond ((k % 2).beq 0) (t.left.get (k / 2)) (t.right.get (k / 2)) := by
  cases t with
  | nil => simp [Tr.get, Tr.left, Tr.right]
  | node o l r => rfl
theorem beq0 (x : Nat) : (x % 2).beq 0 = decide (x % 2 = 0) := by
  cases e : (x % 2).beq 0 with
  | true => exact (decide_eq_true (Nat.eq_of_beq_eq_true e)).symm
  | false => exact (decide_eq_false (Nat.ne_of_beq_eq_false e)).symm
theorem Tr.get_put (n : Nat) : ∀ (t : Tr) (i j : Nat) (o : MO), i < n → (Tr.put n t i o).get j = if j = i then some o else t.get j := by
  induction n with
  | zero => intro t i j o h; omega
  | succ n ih =>
    intro t i j o h
    cases i with
    | zero =>
      cases j with
      | zero => simp [Tr.put, Tr.get]
      | succ m => rw [Tr.get_succ]; simp [Tr.put, Tr.get_succ, Tr.left, Tr.right]
    | succ k =>
      have hk : k / 2 < n := by omega
      rw [show Tr.put (n + 1) t (k + 1) o = cond ((k % 2).beq 0) (.node t.top (Tr.put n t.left (k / 2) o) t.right) (.node t.top t.left (Tr.put n t.right (k / 2) o)) from rfl]
      cases j with
      | zero => rw [Tr.get_zero, Tr.get_zero]; cases (k % 2).beq 0 <;> simp [Tr.top]
      | succ m =>
        rw [Tr.get_succ, Tr.get_succ, beq0 k, beq0 m]
        by_cases e : k % 2 = 0 <;> by_cases e' : m % 2 = 0
        · have q : (m / 2 = k / 2) ↔ (m = k) := by omega
          simp [e, e', Tr.left, Tr.right, ih _ _ _ _ hk, q]
        · have q : ¬ (m = k) := by omega
          simp [e, e', Tr.left, Tr.right, q]
        · have q : ¬ (m = k) := by omega
          simp [e, e', Tr.left, Tr.right, q]
        · have q : (m / 2 = k / 2) ↔ (m = k) := by omega
          simp [e, e', Tr.left, Tr.right, ih _ _ _ _ hk, q]

structure MH where
  n : Nat
  t : Tr
  /-- the script -/
  s : List Int
def MH.get (h : MH) (i : Nat) : Option MO := h.t.get i
def MH.put (h : MH) (i : Nat) (o : MO) : MH := ⟨h.n, Tr.put (i + 1) h.t i o, h.s⟩
def MH.push (h : MH) (o : MO) : MH := ⟨h.n + 1, Tr.put (h.n + 1) h.t h.n o, h.s⟩
theorem MH.get_put {h : MH} {i j : Nat} {o : MO} : (h.put i o).get j = if j = i then some o else h.get j := Tr.get_put (i + 1) h.t i j o (Nat.lt_succ_self i)
theorem MH.get_push {h : MH} {j : Nat} {o : MO} : (h.push o).get j = if j = h.n then some o else h.get j := Tr.get_put (h.n + 1) h.t h.n j o (Nat.lt_succ_self _)

/-! ### what a small run comes to -/
inductive Res (α : Type) where
  | ok (a : α) (h : MH)
  | ex (c : Nat) (fs : List (Str × Va)) (h : MH)
  | no
abbrev MS := List (Option Va)
abbrev ME := MS → MH → Res Va
abbrev FnM := List Va → MH → Res Va
def Res.bind {α β : Type} (r : Res α) (f : α → MH → Res β) : Res β := match r with
  | .ok a h => f a h
  | .ex c fs h => .ex c fs h
  | .no => .no
inductive SR where
  | nx (s : MS) (h : MH)
  | rt (v : Va) (h : MH)
  | bk (s : MS) (h : MH)
  | ct (s : MS) (h : MH)
  | ex (c : Nat) (fs : List (Str × Va)) (s : MS) (h : MH)
  | no
abbrev MT := MS → MH → SR

/-! ### how small things stand for the layer's things -/
structure Gb where
  K : PySem.W.Frag
  /-- the script's address, its ints -/
  sa : Addr
  ns : List Int
  /-- the classes by number -/
  cl : Nat → Addr
mutual
def RV (g : Gb) (p : List Addr) (H : Hp) : Va → V → Prop
  | .non, x => x = .non
  | .bl b, x => x = .bl b
  | .int i, x => x = .int i
  | .str z, x => x = .str z
  | .tup xs, x => ∃ a ys, x = .ref a ∧ H a = some (.tup ys) ∧ RVs g p H xs ys
  | .ref i, x => ∃ a, x = .ref a ∧ p[i]? = some a
  | .scr, x => x = .ref g.sa
def RVs (g : Gb) (p : List Addr) (H : Hp) : List Va → List V → Prop
  | [], ys => ys = []
  | x :: xs, ys => ∃ y r, ys = y :: r ∧ RV g p H x y ∧ RVs g p H xs r
end
/-- the addresses grow at the end, tuples stay -/
structure Exw (p : List Addr) (H : Hp) (p' : List Addr) (H' : Hp) : Prop where
  ix : ∀ (i : Nat) (a : Addr), p[i]? = some a → p'[i]? = some a
  tp : ∀ (a : Addr) (xs : List V), H a = some (.tup xs) → H' a = some (.tup xs)
/-- locked things stay, too -/
structure Ext (p : List Addr) (H : Hp) (p' : List Addr) (H' : Hp) : Prop where
  ix : ∀ (i : Nat) (a : Addr), p[i]? = some a → p'[i]? = some a
  tp : ∀ (a : Addr) (xs : List V), H a = some (.tup xs) → H' a = some (.tup xs)
  fz : ∀ (a : Addr) (o : Obj) (u : HO), H a = some (.frz o u) → H' a = some (.frz o u)
theorem Ext.w {p p' : List Addr} {H H' : Hp} (e : Ext p H p' H') : Exw p H p' H' := ⟨e.ix, e.tp⟩
theorem Ext.refl (p : List Addr) (H : Hp) : Ext p H p H := ⟨fun _ _ h => h, fun _ _ h => h, fun _ _ _ h => h⟩
theorem Ext.trans {p p1 p2 : List Addr} {H H1 H2 : Hp} (a : Ext p H p1 H1) (b : Ext p1 H1 p2 H2) : Ext p H p2 H2 :=
  ⟨fun i x h => b.ix i x (a.ix i x h), fun x xs h => b.tp x xs (a.tp x xs h), fun x o u h => b.fz x o u (a.fz x o u h)⟩
section
variable {g : Gb} {p p' : List Addr} {H H' : Hp}
mutual
theorem RV.exw (e : Exw p H p' H') : ∀ (v : Va) (x : V), RV g p H v x → RV g p' H' v x
  | .non, x, h => by simpa only [RV] using h
  | .bl b, x, h => by simpa only [RV] using h
  | .int i, x, h => by simpa only [RV] using h
  | .str z, x, h => by simpa only [RV] using h
  | .tup xs, x, h => by
    simp only [RV] at h ⊢
    obtain ⟨a, ys, h1, h2, h3⟩ := h
    exact ⟨a, ys, h1, e.tp a ys h2, RVs.exw e xs ys h3⟩
  | .ref i, x, h => by
    simp only [RV] at h ⊢
    obtain ⟨a, h1, h2⟩ := h
    exact ⟨a, h1, e.ix i a h2⟩
  | .scr, x, h => by simpa only [RV] using h
theorem RVs.exw (e : Exw p H p' H') : ∀ (v : List Va) (x : List V), RVs g p H v x → RVs g p' H' v x
  | [], x, h => by simpa only [RVs] using h
  | v :: vs, x, h => by
    simp only [RVs] at h ⊢
    obtain ⟨y, r, h1, h2, h3⟩ := h
    exact ⟨y, r, h1, RV.exw e v y h2, RVs.exw e vs r h3⟩
end
theorem RV.ext (e : Ext p H p' H') (v : Va) (x : V) (h : RV g p H v x) : RV g p' H' v x := RV.exw e.w v x h
theorem RVs.ext (e : Ext p H p' H') (v : List Va) (x : List V) (h : RVs g p H v x) : RVs g p' H' v x := RVs.exw e.w v x h
theorem RVs.len : ∀ {v : List Va} {x : List V}, RVs g p H v x → v.length = x.length
  | [], x, h => by simp only [RVs] at h; subst h; rfl
  | v :: vs, x, h => by
    simp only [RVs] at h
    obtain ⟨y, r, rfl, h2, h3⟩ := h
    simp [RVs.len h3]
theorem RVs.get : ∀ {v : List Va} {x : List V} {i : Nat} {a : Va}, RVs g p H v x → v[i]? = some a → ∃ b, x[i]? = some b ∧ RV g p H a b
  | [], x, i, a, h, e => by simp at e
  | v :: vs, x, i, a, h, e => by
    simp only [RVs] at h
    obtain ⟨y, r, rfl, h2, h3⟩ := h
    cases i with
    | zero => simp at e; subst e; exact ⟨y, by simp, h2⟩
    | succ k =>
      simp at e
      obtain ⟨b, hb, rb⟩ := RVs.get h3 e
      exact ⟨b, by simpa using hb, rb⟩
theorem RVs.got : ∀ {v : List Va} {x : List V} {i : Nat} {b : V}, RVs g p H v x → x[i]? = some b → ∃ a, v[i]? = some a ∧ RV g p H a b
  | [], x, i, b, h, e => by simp only [RVs] at h; subst h; simp at e
  | v :: vs, x, i, b, h, e => by
    simp only [RVs] at h
    obtain ⟨y, r, rfl, h2, h3⟩ := h
    cases i with
    | zero => simp at e; subst e; exact ⟨v, by simp, h2⟩
    | succ k =>
      simp at e
      obtain ⟨a, ha, ra⟩ := RVs.got h3 e
      exact ⟨a, by simpa using ha, ra⟩
theorem RVs.append : ∀ {v w : List Va} {x y : List V}, RVs g p H v x → RVs g p H w y → RVs g p H (v ++ w) (x ++ y)
  | [], w, x, y, h, k => by simp only [RVs] at h; subst h; simpa using k
  | v :: vs, w, x, y, h, k => by
    simp only [RVs] at h
    obtain ⟨a, r, rfl, h2, h3⟩ := h
    simp only [List.cons_append, RVs]
    exact ⟨a, r ++ y, rfl, h2, RVs.append h3 k⟩
theorem RVs.set {a : Va} {b : V} (hb : RV g p H a b) : ∀ {v : List Va} {x : List V} {i : Nat}, RVs g p H v x → RVs g p H (v.set i a) (x.set i b)
  | [], x, i, h => by simp only [RVs] at h; subst h; simp [RVs]
  | v :: vs, x, i, h => by
    simp only [RVs] at h
    obtain ⟨y, r, rfl, h2, h3⟩ := h
    cases i with
    | zero => simp only [List.set_cons_zero, RVs]; exact ⟨b, r, rfl, hb, h3⟩
    | succ k => simp only [List.set_cons_succ, RVs]; exact ⟨y, r.set k b, rfl, h2, RVs.set hb h3⟩
theorem RVs.take : ∀ {v : List Va} {x : List V} (n : Nat), RVs g p H v x → RVs g p H (v.take n) (x.take n)
  | _, _, 0, _ => by simp [RVs]
  | [], x, n + 1, h => by simp only [RVs] at h; subst h; simp [RVs]
  | v :: vs, x, n + 1, h => by
    simp only [RVs] at h
    obtain ⟨y, r, rfl, h2, h3⟩ := h
    simp only [List.take_succ_cons, RVs]
    exact ⟨y, r.take n, rfl, h2, RVs.take n h3⟩
theorem RVs.drop : ∀ {v : List Va} {x : List V} (n : Nat), RVs g p H v x → RVs g p H (v.drop n) (x.drop n)
  | _, _, 0, h => by simpa using h
  | [], x, n + 1, h => by simp only [RVs] at h; subst h; simp [RVs]
  | v :: vs, x, n + 1, h => by
    simp only [RVs] at h
    obtain ⟨y, r, rfl, h2, h3⟩ := h
    simpa using RVs.drop n h3
end

/-- keys: ints and texts -/
def keyVa : Key → Va
  | .inl i => .int i
  | .inr x => .str x
def RK (g : Gb) (p : List Addr) (H : Hp) : List (Va × Va) → List (Key × V) → Prop
  | [], ys => ys = []
  | kv :: r, ys => ∃ k y s, ys = (k, y) :: s ∧ kv.1 = keyVa k ∧ RV g p H kv.2 y ∧ RK g p H r s
def RF (g : Gb) (p : List Addr) (H : Hp) : List (Str × Va) → List (Str × V) → Prop
  | [], ys => ys = []
  | kv :: r, ys => ∃ y s, ys = (kv.1, y) :: s ∧ RV g p H kv.2 y ∧ RF g p H r s
def RO (g : Gb) (p : List Addr) (H : Hp) : MO → HO → Prop
  | .lst xs, o => ∃ ys, o = .lst ys ∧ RVs g p H xs ys
  | .dic ks, o => ∃ ys, o = .dK ys ∧ RK g p H ks ys
  | .lck ks, o => ∃ ob ys, o = .frz ob (.dK ys) ∧ RK g p H ks ys
  | .ins c fs, o => ∃ dx ys, o = .ins (g.cl c) dx ys ∧ RF g p H fs ys
section
variable {g : Gb} {p p' : List Addr} {H H' : Hp}
theorem RK.exw (e : Exw p H p' H') : ∀ {v : List (Va × Va)} {x : List (Key × V)}, RK g p H v x → RK g p' H' v x
  | [], x, h => by simpa only [RK] using h
  | v :: vs, x, h => by
    simp only [RK] at h ⊢
    obtain ⟨k, y, s, h1, h2, h3, h4⟩ := h
    exact ⟨k, y, s, h1, h2, RV.exw e _ _ h3, RK.exw e h4⟩
theorem RF.exw (e : Exw p H p' H') : ∀ {v : List (Str × Va)} {x : List (Str × V)}, RF g p H v x → RF g p' H' v x
  | [], x, h => by simpa only [RF] using h
  | v :: vs, x, h => by
    simp only [RF] at h ⊢
    obtain ⟨y, s, h1, h3, h4⟩ := h
    exact ⟨y, s, h1, RV.exw e _ _ h3, RF.exw e h4⟩
theorem RO.exw (e : Exw p H p' H') {m : MO} {o : HO} (h : RO g p H m o) : RO g p' H' m o := by
  cases m with
  | lst xs => obtain ⟨ys, h1, h2⟩ := h; exact ⟨ys, h1, RVs.exw e _ _ h2⟩
  | dic xs => obtain ⟨ys, h1, h2⟩ := h; exact ⟨ys, h1, h2.exw e⟩
  | lck xs => obtain ⟨ob, ys, h1, h2⟩ := h; exact ⟨ob, ys, h1, h2.exw e⟩
  | ins c fs => obtain ⟨dx, ys, h1, h2⟩ := h; exact ⟨dx, ys, h1, h2.exw e⟩
theorem RK.ext (e : Ext p H p' H') {v : List (Va × Va)} {x : List (Key × V)} (h : RK g p H v x) : RK g p' H' v x := h.exw e.w
theorem RF.ext (e : Ext p H p' H') {v : List (Str × Va)} {x : List (Str × V)} (h : RF g p H v x) : RF g p' H' v x := h.exw e.w
theorem RO.ext (e : Ext p H p' H') {m : MO} {o : HO} (h : RO g p H m o) : RO g p' H' m o := h.exw e.w
theorem RF.lookup {f : Str} : ∀ {v : List (Str × Va)} {x : List (Str × V)} , RF g p H v x → (v.lookup f = none → x.lookup f = none) ∧ ∀ a, v.lookup f = some a → ∃ b, x.lookup f = some b ∧ RV g p H a b
  | [], x, h => by simp only [RF] at h; subst h; exact ⟨fun _ => rfl, fun a e => by simp at e⟩
  | v :: vs, x, h => by
    simp only [RF] at h
    obtain ⟨y, s, rfl, h3, h4⟩ := h
    obtain ⟨f1, v1⟩ := v
    have ih := RF.lookup (f := f) h4
    by_cases e : (f == f1) = true
    · simp only [List.lookup, e]
      exact ⟨fun z => (nomatch z), fun a z => by cases z; exact ⟨y, rfl, h3⟩⟩
    · have e' : (f == f1) = false := by simpa using e
      simp only [List.lookup, e']
      exact ih
end
/-- the script's list, as it stays -/
def ScrOk (g : Gb) (H : Hp) : Prop := (∃ o, H g.sa = some (.frz o (.lst (g.ns.map V.int)))) ∨
    ∃ (o : Obj) (its : Array Value) (n : Nat), g.K.lookup g.sa = some o ∧ o.cls = .type "list" ∧ o.dict = none ∧ o.data = .seq its n ∧ its.size ≤ sizeLine ∧ Vals (g.ns.map V.int) its.toList
theorem ScrOk.seq {g : Gb} {H : Hp} (h : ScrOk g H) : SqL g.K H g.sa (g.ns.map V.int) := by
  rcases h with ⟨o, h⟩ | h
  · exact .inl (.inr ⟨o, h⟩)
  · exact .inr h
structure RH (g : Gb) (p : List Addr) (h : MH) (H : Hp) : Prop where
  len : p.length = h.n
  nd : p.Nodup
  at_ : ∀ (i : Nat) (o : MO), h.get i = some o → ∃ a u, p[i]? = some a ∧ H a = some u ∧ RO g p H o u
  tr : ∀ a ∈ p, H a ≠ none
  scr : ScrOk g H
  sc : h.s = g.ns
structure RS (g : Gb) (p : List Addr) (H : Hp) (σm : MS) (σ : St) : Prop where
  len : σ.length = σm.length
  at_ : ∀ (i : Nat) (v : Va), σm[i]? = some (some v) → ∃ x, σ[i]? = some (some x) ∧ RV g p H v x
structure Rel (g : Gb) (p : List Addr) (H : Hp) (σm : MS) (h : MH) (σ : St) : Prop where
  h : RH g p h H
  s : RS g p H σm σ
section
variable {g : Gb} {p p' : List Addr} {H H' : Hp} {σm : MS} {σ : St} {h h' : MH}
theorem RS.ext (e : Ext p H p' H') (r : RS g p H σm σ) : RS g p' H' σm σ := ⟨r.len, fun i v z => by
  obtain ⟨x, h1, h2⟩ := r.at_ i v z
  exact ⟨x, h1, h2.ext e⟩⟩
theorem RS.set {i : Nat} {v : Va} {x : V} (r : RS g p H σm σ) (rv : RV g p H v x) : RS g p H (σm.set i (some v)) (σ.set i (some x)) := ⟨by simp [r.len], fun j w z => by
  by_cases e : i = j
  · subst e
    rw [List.getElem?_set] at z ⊢
    simp only [if_true] at z ⊢
    split at z
    · rename_i hl
      rw [if_pos (by rw [r.len]; exact hl)]
      cases z
      exact ⟨x, rfl, rv⟩
    · cases z
  · rw [List.getElem?_set_ne e] at z ⊢
    exact r.at_ j w z⟩
/-- a new object -/
theorem RH.new {a : Addr} {o : MO} {u : HO} (r : RH g p h H) (hn : H a = none) (ro : RO g p H o u) : Ext p H (p ++ [a]) (upd H a u) ∧ RH g (p ++ [a]) (h.push o) (upd H a u) ∧ (p ++ [a])[h.n]? = some a := by
  have hna : a ∉ p := fun z => r.tr a z hn
  have ex : Ext p H (p ++ [a]) (upd H a u) := ⟨fun i b e => by
      rw [List.getElem?_append_left (List.getElem?_eq_some_iff.mp e).1]; exact e, fun b xs e => by
      rw [upd_ne (ne_of_none e hn)]; exact e, fun b o' u' e => by
      rw [upd_ne (ne_of_none e hn)]; exact e⟩
  refine ⟨ex, ⟨by simp [r.len, MH.push], ?_, fun i m e => ?_, fun b hb => ?_, ?_, r.sc⟩, by rw [← r.len]; simp⟩
  · rw [List.nodup_append]
    refine ⟨r.nd, by simp, fun x hx y hy => ?_⟩
    simp at hy
    subst hy
    exact fun z => hna (z ▸ hx)
  · rw [MH.get_push] at e
    split at e
    · cases e
      rename_i hi
      subst hi
      exact ⟨a, u, by rw [← r.len]; simp, upd_same, ro.ext ex⟩
    · obtain ⟨b, w, h1, h2, h3⟩ := r.at_ i m e
      exact ⟨b, w, ex.ix i b h1, by rw [upd_ne (ne_of_none h2 hn)]; exact h2, h3.ext ex⟩
  · by_cases e : b = a
    · subst e; rw [upd_same]; simp
    · rw [upd_ne e]
      simp at hb
      rcases hb with hb | hb
      · exact r.tr b hb
      · exact absurd hb e
  · rcases r.scr with ⟨o', e⟩ | e
    · exact .inl ⟨o', by rw [upd_ne (ne_of_none e hn)]; exact e⟩
    · exact .inr e
/-- an object that is written -/
theorem RH.write {i : Nat} {a : Addr} {o : MO} {u w : HO} (r : RH g p h H) (hi : p[i]? = some a) (hw : H a = some w) (nt : ∀ xs, w ≠ .tup xs) (nf : ∀ ob x, w ≠ .frz ob x) (ro : RO g p H o u) :
    Ext p H p (upd H a u) ∧ RH g p (h.put i o) (upd H a u) := by
  have ex : Ext p H p (upd H a u) := ⟨fun _ _ e => e, fun b xs e => by
    rw [upd_ne (ne_of e hw (fun z => nt xs z.symm))]; exact e, fun b o' u' e => by
    rw [upd_ne (ne_of e hw (fun z => nf o' u' z.symm))]; exact e⟩
  refine ⟨ex, ⟨r.len, r.nd, fun j m e => ?_, fun b hb => ?_, ?_, r.sc⟩⟩
  · rw [MH.get_put] at e
    split at e
    · cases e
      rename_i hj
      subst hj
      exact ⟨a, u, hi, upd_same, ro.ext ex⟩
    · rename_i hj
      obtain ⟨b, w', h1, h2, h3⟩ := r.at_ j m e
      have hba : b ≠ a := fun z => by
        subst z
        exact hj (((List.getElem?_inj (List.getElem?_eq_some_iff.mp h1).1 r.nd).mp (h1.trans hi.symm)))
      exact ⟨b, w', h1, by rw [upd_ne hba]; exact h2, h3.ext ex⟩
  · by_cases e : b = a
    · subst e; rw [upd_same]; simp
    · rw [upd_ne e]; exact r.tr b hb
  · rcases r.scr with ⟨o', e⟩ | e
    · exact .inl ⟨o', ex.fz _ _ _ e⟩
    · exact .inr e
end

/-! ### the judgements: a piece of syntax and its small run -/
/-- an exception's own fields -/
def XD (g : Gb) (p : List Addr) (H : Hp) (d : Option Addr) (fs : List (Str × Va)) : Prop :=
  (fs = [] ∧ d = none) ∨ ∃ a ys, d = some a ∧ H a = some (.xd ys) ∧ RF g p H fs ys
/-- the run's end reaches what is wanted -/
def GE (g : Gb) (W : WX) (σm : MS) (σ : St) (p : List Addr) (H : Hp) (r : Res Va) (Q : VK) : Prop := match r with
  | .ok v h' => ∀ p' H' x, Ext p H p' H' → Rel g p' H' σm h' σ → RV g p' H' v x → Q x H'
  | .ex c fs h' => ∀ p' H' d, Ext p H p' H' → Rel g p' H' σm h' σ → XD g p' H' d fs → W (.ref (g.cl c)) d σ H'
  | .no => False
def SE (g : Gb) (W : WX) (X : Cx) (e : Expr) (m : ME) : Prop := ∃ t, PE X e t ∧ ∀ p H σm h σ Q, Rel g p H σm h σ → GE g W σm σ p H (m σm h) Q → t σ H Q
/-- arguments -/
def GA (g : Gb) (W : WX) (σm : MS) (σ : St) (p : List Addr) (H : Hp) (r : Res (List Va)) (Q : List V → Hp → Prop) : Prop := match r with
  | .ok v h' => ∀ p' H' x, Ext p H p' H' → Rel g p' H' σm h' σ → RVs g p' H' v x → Q x H'
  | .ex c fs h' => ∀ p' H' d, Ext p H p' H' → Rel g p' H' σm h' σ → XD g p' H' d fs → W (.ref (g.cl c)) d σ H'
  | .no => False
abbrev MA := MS → MH → Res (List Va)
def SA (g : Gb) (W : WX) (X : Cx) (es : List Expr) (m : MA) : Prop := ∃ t, PA X es t ∧ ∀ p H σm h σ Q, Rel g p H σm h σ → GA g W σm σ p H (m σm h) Q → t σ H Q
/-- tests -/
def GT (g : Gb) (W : WX) (σm : MS) (σ : St) (p : List Addr) (H : Hp) (r : Res Bool) (Q : Bool → Hp → Prop) : Prop := match r with
  | .ok v h' => ∀ p' H', Ext p H p' H' → Rel g p' H' σm h' σ → Q v H'
  | .ex c fs h' => ∀ p' H' d, Ext p H p' H' → Rel g p' H' σm h' σ → XD g p' H' d fs → W (.ref (g.cl c)) d σ H'
  | .no => False
abbrev MB := MS → MH → Res Bool
def ST (g : Gb) (W : WX) (X : Cx) (e : Expr) (m : MB) : Prop := ∃ t, PT X e t ∧ ∀ p H σm h σ Q, Rel g p H σm h σ → GT g W σm σ p H (m σm h) Q → t σ H Q
/-- statements -/
def GS (g : Gb) (W : WX) (p : List Addr) (H : Hp) (r : SR) (D : Ends) : Prop := match r with
  | .nx s' h' => ∀ p' H' σ', Ext p H p' H' → Rel g p' H' s' h' σ' → D.nx σ' H'
  | .rt v h' => ∀ p' H' x, Ext p H p' H' → RH g p' h' H' → RV g p' H' v x → D.rt x H'
  | .bk s' h' => ∀ p' H' σ', Ext p H p' H' → Rel g p' H' s' h' σ' → D.bk σ' H'
  | .ct s' h' => ∀ p' H' σ', Ext p H p' H' → Rel g p' H' s' h' σ' → D.ct σ' H'
  | .ex c fs s' h' => ∀ p' H' σ' d, Ext p H p' H' → Rel g p' H' s' h' σ' → XD g p' H' d fs → W (.ref (g.cl c)) d σ' H'
  | .no => False
def SS (g : Gb) (W : WX) (X : Cx) (st : Stmt) (m : MT) : Prop := ∃ t, PS X st t ∧ ∀ p H σm h σ D, Rel g p H σm h σ → GS g W p H (m σm h) D → t D σ H
def SB (g : Gb) (W : WX) (X : Cx) (st : List Stmt) (m : MT) : Prop := ∃ t, PSs X st t ∧ ∀ p H σm h σ D, Rel g p H σm h σ → GS g W p H (m σm h) D → t D σ H
end Mn
end

section
/-! Mini: expressions. -/
namespace Mn
open PySem L2

section
variable {g : Gb} {W : WX} {X : Cx} {p p1 p' : List Addr} {H H1 H' : Hp} {σm : MS} {σ : St} {h h1 : MH} {Q : VK}
theorem GE.mono {r : Res Va} (G : GE g W σm σ p H r Q) (E : Ext p H p1 H1) : GE g W σm σ p1 H1 r Q := by
  cases r with
  | ok v h' => exact fun p' H' x E' R' rv => G p' H' x (E.trans E') R' rv
  | ex c fs h' => exact fun p' H' d E' R' xd => G p' H' d (E.trans E') R' xd
  | no => exact G
theorem GA.mono {r : Res (List Va)} {Q : List V → Hp → Prop} (G : GA g W σm σ p H r Q) (E : Ext p H p1 H1) : GA g W σm σ p1 H1 r Q := by
  cases r with
  | ok v h' => exact fun p' H' x E' R' rv => G p' H' x (E.trans E') R' rv
  | ex c fs h' => exact fun p' H' d E' R' xd => G p' H' d (E.trans E') R' xd
  | no => exact G
theorem GT.mono {r : Res Bool} {Q : Bool → Hp → Prop} (G : GT g W σm σ p H r Q) (E : Ext p H p1 H1) : GT g W σm σ p1 H1 r Q := by
  cases r with
  | ok v h' => exact fun p' H' E' R' => G p' H' (E.trans E') R'
  | ex c fs h' => exact fun p' H' d E' R' xd => G p' H' d (E.trans E') R' xd
  | no => exact G
theorem GS.mono {r : SR} {D : Ends} (G : GS g W p H r D) (E : Ext p H p1 H1) : GS g W p1 H1 r D := by
  cases r with
  | nx s' h' => exact fun p' H' x E' R' => G p' H' x (E.trans E') R'
  | rt v h' => exact fun p' H' x E' R' rv => G p' H' x (E.trans E') R' rv
  | bk s' h' => exact fun p' H' x E' R' => G p' H' x (E.trans E') R'
  | ct s' h' => exact fun p' H' x E' R' => G p' H' x (E.trans E') R'
  | ex c fs s' h' => exact fun p' H' x d E' R' xd => G p' H' x d (E.trans E') R' xd
  | no => exact G

/-- an expression's reading, by its small run -/
abbrev RdE (g : Gb) (W : WX) (t : TE) (m : ME) : Prop := ∀ p H σm h σ Q, Rel g p H σm h σ → GE g W σm σ p H (m σm h) Q → t σ H Q
abbrev RdA (g : Gb) (W : WX) (t : TA) (m : MA) : Prop := ∀ p H σm h σ Q, Rel g p H σm h σ → GA g W σm σ p H (m σm h) Q → t σ H Q
abbrev RdT (g : Gb) (W : WX) (t : TT) (m : MB) : Prop := ∀ p H σm h σ Q, Rel g p H σm h σ → GT g W σm σ p H (m σm h) Q → t σ H Q

/-- the first part is run, then the rest -/
theorem RdE.go {t : TE} {m : ME} (S : RdE g W t m) (R : Rel g p H σm h σ) {k : Va → MH → Res Va} {Q' : VK} (G : GE g W σm σ p H ((m σm h).bind k) Q)
    (hk : ∀ p1 H1 v h1 x, Ext p H p1 H1 → Rel g p1 H1 σm h1 σ → RV g p1 H1 v x → GE g W σm σ p1 H1 (k v h1) Q → Q' x H1) : t σ H Q' := by
  refine S p H σm h σ _ R ?_
  cases e : m σm h with
  | no => rw [e] at G; exact G
  | ex c fs h' => rw [e] at G; exact G
  | ok v h' => rw [e] at G; exact fun p1 H1 x E1 R1 rv => hk p1 H1 v h' x E1 R1 rv (G.mono E1)
theorem RdE.goT {t : TE} {m : ME} (S : RdE g W t m) (R : Rel g p H σm h σ) {k : Va → MH → Res Bool} {Q : Bool → Hp → Prop} {Q' : VK} (G : GT g W σm σ p H ((m σm h).bind k) Q)
    (hk : ∀ p1 H1 v h1 x, Ext p H p1 H1 → Rel g p1 H1 σm h1 σ → RV g p1 H1 v x → GT g W σm σ p1 H1 (k v h1) Q → Q' x H1) : t σ H Q' := by
  refine S p H σm h σ _ R ?_
  cases e : m σm h with
  | no => rw [e] at G; exact G
  | ex c fs h' => rw [e] at G; exact G
  | ok v h' => rw [e] at G; exact fun p1 H1 x E1 R1 rv => hk p1 H1 v h' x E1 R1 rv (G.mono E1)
theorem RdE.goA {t : TE} {m : ME} (S : RdE g W t m) (R : Rel g p H σm h σ) {k : Va → MH → Res (List Va)} {Q : List V → Hp → Prop} {Q' : VK} (G : GA g W σm σ p H ((m σm h).bind k) Q)
    (hk : ∀ p1 H1 v h1 x, Ext p H p1 H1 → Rel g p1 H1 σm h1 σ → RV g p1 H1 v x → GA g W σm σ p1 H1 (k v h1) Q → Q' x H1) : t σ H Q' := by
  refine S p H σm h σ _ R ?_
  cases e : m σm h with
  | no => rw [e] at G; exact G
  | ex c fs h' => rw [e] at G; exact G
  | ok v h' => rw [e] at G; exact fun p1 H1 x E1 R1 rv => hk p1 H1 v h' x E1 R1 rv (G.mono E1)
theorem RdA.go {t : TA} {m : MA} (S : RdA g W t m) (R : Rel g p H σm h σ) {k : List Va → MH → Res Va} {Q' : List V → Hp → Prop} (G : GE g W σm σ p H ((m σm h).bind k) Q)
    (hk : ∀ p1 H1 v h1 x, Ext p H p1 H1 → Rel g p1 H1 σm h1 σ → RVs g p1 H1 v x → GE g W σm σ p1 H1 (k v h1) Q → Q' x H1) : t σ H Q' := by
  refine S p H σm h σ _ R ?_
  cases e : m σm h with
  | no => rw [e] at G; exact G
  | ex c fs h' => rw [e] at G; exact G
  | ok v h' => rw [e] at G; exact fun p1 H1 x E1 R1 rv => hk p1 H1 v h' x E1 R1 rv (G.mono E1)
theorem RdA.goA {t : TA} {m : MA} (S : RdA g W t m) (R : Rel g p H σm h σ) {k : List Va → MH → Res (List Va)} {Q : List V → Hp → Prop} {Q' : List V → Hp → Prop} (G : GA g W σm σ p H ((m σm h).bind k) Q)
    (hk : ∀ p1 H1 v h1 x, Ext p H p1 H1 → Rel g p1 H1 σm h1 σ → RVs g p1 H1 v x → GA g W σm σ p1 H1 (k v h1) Q → Q' x H1) : t σ H Q' := by
  refine S p H σm h σ _ R ?_
  cases e : m σm h with
  | no => rw [e] at G; exact G
  | ex c fs h' => rw [e] at G; exact G
  | ok v h' => rw [e] at G; exact fun p1 H1 x E1 R1 rv => hk p1 H1 v h' x E1 R1 rv (G.mono E1)
theorem RdT.go {t : TT} {m : MB} (S : RdT g W t m) (R : Rel g p H σm h σ) {k : Bool → MH → Res Va} {Q' : Bool → Hp → Prop} (G : GE g W σm σ p H ((m σm h).bind k) Q)
    (hk : ∀ p1 H1 b h1, Ext p H p1 H1 → Rel g p1 H1 σm h1 σ → GE g W σm σ p1 H1 (k b h1) Q → Q' b H1) : t σ H Q' := by
  refine S p H σm h σ _ R ?_
  cases e : m σm h with
  | no => rw [e] at G; exact G
  | ex c fs h' => rw [e] at G; exact G
  | ok v h' => rw [e] at G; exact fun p1 H1 E1 R1 => hk p1 H1 v h' E1 R1 (G.mono E1)
theorem RdT.goT {t : TT} {m : MB} (S : RdT g W t m) (R : Rel g p H σm h σ) {k : Bool → MH → Res Bool} {Q : Bool → Hp → Prop} {Q' : Bool → Hp → Prop} (G : GT g W σm σ p H ((m σm h).bind k) Q)
    (hk : ∀ p1 H1 b h1, Ext p H p1 H1 → Rel g p1 H1 σm h1 σ → GT g W σm σ p1 H1 (k b h1) Q → Q' b H1) : t σ H Q' := by
  refine S p H σm h σ _ R ?_
  cases e : m σm h with
  | no => rw [e] at G; exact G
  | ex c fs h' => rw [e] at G; exact G
  | ok v h' => rw [e] at G; exact fun p1 H1 E1 R1 => hk p1 H1 v h' E1 R1 (G.mono E1)

/-! ### names and constants -/
def mLoc (i : Nat) : ME := fun σ h => match σ[i]? with
  | some (some v) => .ok v h
  | _ => .no
def mCon (v : Va) : ME := fun _ h => .ok v h
theorem sLoc {e : Expr} {i : Nat} (hp : PE X e (tVar i)) : SE g W X e (mLoc i) := by
  refine ⟨_, hp, fun p H σm h σ Q R G => ?_⟩
  unfold mLoc at G
  split at G
  · rename_i v hv
    obtain ⟨x, h1, h2⟩ := R.s.at_ i v hv
    exact ⟨x, h1, G p H x (.refl _ _) R h2⟩
  · exact G.elim
/-- a constant -/
theorem sCon {e : Expr} {v : Va} {x : V} (hp : PE X e (tC x)) (rv : ∀ p H, RV g p H v x) : SE g W X e (mCon v) :=
  ⟨_, hp, fun p H σm h σ Q R G => G p H x (.refl _ _) R (rv p H)⟩
theorem sInt {i : Int} {j : Nat} {pos : Pos} : SE g W X (.Constant (.int i) j pos) (mCon (.int i)) := sCon pe_int fun _ _ => by simp [RV]
theorem sBl {i : Bool} {j : Nat} {pos : Pos} : SE g W X (.Constant (.bool i) j pos) (mCon (.bl i)) := sCon pe_bl fun _ _ => by simp [RV]
theorem sNon {j : Nat} {pos : Pos} : SE g W X (.Constant .none j pos) (mCon .non) := sCon pe_non fun _ _ => by simp [RV]
theorem sStr {i : Str} {j : Nat} {pos : Pos} : SE g W X (.Constant (.str i) j pos) (mCon (.str i)) := sCon pe_str fun _ _ => by simp [RV]

/-! ### by values -/
/-- the end of an operation upon values -/
def GV (g : Gb) (p : List Addr) (H : Hp) (r : Res Va) (Q : VK) : Prop := match r with
  | .ok v h' => ∀ p' H' x, Ext p H p' H' → RH g p' h' H' → RV g p' H' v x → Q x H'
  | _ => False
theorem GE.gv {r : Res Va} (R : Rel g p H σm h σ) (G : GE g W σm σ p H r Q) (hr : ∀ c fs h', r ≠ .ex c fs h') : GV g p H r Q := by
  cases r with
  | ok v h' => exact fun p' H' x E' R' rv => G p' H' x E' ⟨R', R.s.ext E'⟩ rv
  | ex c fs h' => exact absurd rfl (hr c fs h')
  | no => exact G.elim
/-- operations that let nothing out -/
def Plain (r : Res Va) : Res Va := match r with
  | .ex _ _ _ => .no
  | r => r
theorem Plain.ne (r : Res Va) : ∀ c fs h', Plain r ≠ .ex c fs h' := fun c fs h' e => by cases r <;> simp [Plain] at e
theorem GE.plain {r : Res Va} (R : Rel g p H σm h σ) (G : GE g W σm σ p H (Plain r) Q) : GV g p H r Q := by
  cases r with
  | ok v h' => exact fun p' H' x E' R' rv => G p' H' x E' ⟨R', R.s.ext E'⟩ rv
  | ex c fs h' => exact G.elim
  | no => exact G.elim
abbrev F2 := Va → Va → MH → Res Va
abbrev F1 := Va → MH → Res Va
abbrev FL := List Va → MH → Res Va
/-- an operator's small form -/
def OpS (g : Gb) (r : R2) (f : F2) : Prop := ∀ p h H v u x y Q, RH g p h H → RV g p H v x → RV g p H u y → GV g p H (f v u h) Q → r x y H Q
def mBin (f : F2) (ma mb : ME) : ME := fun σ h => (ma σ h).bind fun v h1 => (mb σ h1).bind fun u h2 => Plain (f v u h2)
theorem rd_bin {r : R2} {f : F2} {ta tb : TE} {ma mb : ME} (hs : OpS g r f) (ha : RdE g W ta ma) (hb : RdE g W tb mb) : RdE g W (tOp r ta tb) (mBin f ma mb) := fun p H σm h σ Q R G => by
  refine RdE.go ha R G fun p1 H1 v h1 x E1 R1 rv G1 => ?_
  refine RdE.go hb R1 G1 fun p2 H2 u h2 y E2 R2 ru G2 => ?_
  exact hs p2 h2 H2 v u x y Q R2.h (rv.ext E2) ru (G2.plain R2)
theorem sBin {op : Operator} {a b : Expr} {pos : Pos} {r : R2} {f : F2} {ma mb : ME} (ho : OpR X (binaryOp op) r) (hs : OpS g r f) (ha : SE g W X a ma) (hb : SE g W X b mb) : SE g W X (.BinOp a op b pos) (mBin f ma mb) := by
  obtain ⟨ta, pa, ra⟩ := ha
  obtain ⟨tb, pb, rb⟩ := hb
  exact ⟨_, pe_op ho pa pb, rd_bin hs ra rb⟩
theorem sCmp {op : CmpOp} {a b : Expr} {pos : Pos} {r : R2} {f : F2} {ma mb : ME} (ho : OpR X (compareOp op) r) (hs : OpS g r f) (ha : SE g W X a ma) (hb : SE g W X b mb) (hm : behindInMarks op b = false := by rfl) :
    SE g W X (.Compare a [op] [b] pos) (mBin f ma mb) := by
  obtain ⟨ta, pa, ra⟩ := ha
  obtain ⟨tb, pb, rb⟩ := hb
  exact ⟨_, pe_cmpR ho pa pb hm, rd_bin hs ra rb⟩
theorem OpR.or {f : Value → Value → Sem Value} {r s : R2} (a : OpR X f r) (b : OpR X f s) : OpR X f (fun x y H Q => r x y H Q ∨ s x y H Q) := by
  intro pins s0 σ H x y v u Q I rx ry h
  rcases h with h | h
  · exact a pins s0 σ H x y v u Q I rx ry h
  · exact b pins s0 σ H x y v u Q I rx ry h

/-! ### truth -/
def truth (v : Va) (h : MH) : Option Bool := match v with
  | .non => some false
  | .bl b => some b
  | .int i => some (i != 0)
  | .str y => if y.length ≤ sizeLine then some ((y.length : Int) != 0) else none
  | .tup xs => some (!xs.isEmpty)
  | .ref i => match h.get i with
    | some (.lst xs) => some (!xs.isEmpty)
    | some (.dic xs) => some (!xs.isEmpty)
    | _ => none
  | .scr => none
theorem RVs.isEmpty {xs : List Va} {ys : List V} (r : RVs g p H xs ys) : xs.isEmpty = ys.isEmpty := by
  cases xs with
  | nil => simp only [RVs] at r; subst r; rfl
  | cons a b => simp only [RVs] at r; obtain ⟨y, z, rfl, _⟩ := r; rfl
theorem RK.isEmpty {xs : List (Va × Va)} {ys : List (Key × V)} (r : RK g p H xs ys) : xs.isEmpty = ys.isEmpty := by
  cases xs with
  | nil => simp only [RK] at r; subst r; rfl
  | cons a b => simp only [RK] at r; obtain ⟨k, y, z, rfl, _⟩ := r; rfl
theorem RH.lst {i : Nat} {xs : List Va} (R : RH g p h H) (e : h.get i = some (.lst xs)) : ∃ a ys, p[i]? = some a ∧ H a = some (.lst ys) ∧ RVs g p H xs ys := by
  obtain ⟨a, u, h1, h2, ys, rfl, h3⟩ := R.at_ i _ e
  exact ⟨a, ys, h1, h2, h3⟩
theorem RH.dic {i : Nat} {xs : List (Va × Va)} (R : RH g p h H) (e : h.get i = some (.dic xs)) : ∃ a ys, p[i]? = some a ∧ H a = some (.dK ys) ∧ RK g p H xs ys := by
  obtain ⟨a, u, h1, h2, ys, rfl, h3⟩ := R.at_ i _ e
  exact ⟨a, ys, h1, h2, h3⟩
theorem RH.ins {i c : Nat} {fs : List (Str × Va)} (R : RH g p h H) (e : h.get i = some (.ins c fs)) : ∃ a dx ys, p[i]? = some a ∧ H a = some (.ins (g.cl c) dx ys) ∧ RF g p H fs ys := by
  obtain ⟨a, u, h1, h2, dx, ys, rfl, h3⟩ := R.at_ i _ e
  exact ⟨a, dx, ys, h1, h2, h3⟩
theorem truth_ok {v : Va} {x : V} {b : Bool} (R : RH g p h H) (rv : RV g p H v x) (e : truth v h = some b) : TruV g.K x H b := by
  cases v with
  | non => simp only [RV] at rv; subst rv; simp [truth] at e; exact e
  | bl c => simp only [RV] at rv; subst rv; simp [truth] at e; exact e.symm
  | int c => simp only [RV] at rv; subst rv; simp only [truth, Option.some.injEq] at e; exact e.symm
  | str y =>
    simp only [RV] at rv; subst rv
    simp only [truth] at e
    split at e
    · rename_i hl
      exact ⟨hl, (Option.some.inj e).symm⟩
    · cases e
  | tup xs =>
    simp only [RV] at rv
    obtain ⟨a, ys, rfl, ht, r⟩ := rv
    simp only [truth, Option.some.injEq] at e
    exact .inr (.inl ⟨ys, .inl (.inl ht), by rw [← e, r.isEmpty]⟩)
  | ref i =>
    simp only [RV] at rv
    obtain ⟨a, rfl, hi⟩ := rv
    simp only [truth] at e
    split at e
    · rename_i xs hg
      obtain ⟨a', ys, h1, h2, h3⟩ := R.lst hg
      rw [hi] at h1; cases h1
      exact .inl ⟨ys, .inl (.inl h2), by rw [← Option.some.inj e, h3.isEmpty]⟩
    · rename_i xs hg
      obtain ⟨a', ys, h1, h2, h3⟩ := R.dic hg
      rw [hi] at h1; cases h1
      exact .inr (.inr ⟨ys, h2, by rw [← Option.some.inj e, h3.isEmpty]⟩)
    · cases e
  | scr => simp [truth] at e
/-- a test of any value -/
def mTru (m : ME) : MB := fun σ h => (m σ h).bind fun v h1 => match truth v h1 with
  | some b => .ok b h1
  | none => .no
theorem tTru {a : Expr} {m : ME} (hK : X.K = g.K) (ha : SE g W X a m) (hw : ∀ (whole : Sem Value), isTrue a X.env whole = (do
    let v ← whole
    standAt (Expr.pos a)
    holding [v] (truthy v)) := by intro _; rfl) : ST g W X a (mTru m) := by
  obtain ⟨ta, pa, ra⟩ := ha
  refine ⟨_, pt_truth pa hw, fun p H σm h σ Q R G => ?_⟩
  refine RdE.goT ra R G fun p1 H1 v h1 x E1 R1 rv G1 => ?_
  cases e : truth v h1 with
  | none => rw [e] at G1; exact G1.elim
  | some b => rw [e] at G1; rw [hK]; exact ⟨b, truth_ok R1.h rv e, G1 p1 H1 (.refl _ _) R1⟩
def mNotT (m : MB) : MB := fun σ h => (m σ h).bind fun b h1 => .ok (!b) h1
theorem tNot {a : Expr} {m : MB} {pos : Pos} (ha : ST g W X a m) : ST g W X (.UnaryOp .Not a pos) (mNotT m) := by
  obtain ⟨ta, pa, ra⟩ := ha
  refine ⟨_, pt_not pa, fun p H σm h σ Q R G => ?_⟩
  refine RdT.goT ra R G fun p1 H1 b h1 E1 R1 G1 => ?_
  exact G1 p1 H1 (.refl _ _) R1
/-- chains of and, or: whatever the whole is -/
def SW (g : Gb) (W : WX) (X : Cx) (e : Expr) (m : MB) : Prop := ∃ t, PW X e t ∧ RdT g W t m
theorem SW.st {e : Expr} {m : MB} (a : SW g W X e m) : ST g W X e m := let ⟨t, h1, h2⟩ := a; ⟨t, h1.pt, h2⟩
def mAndT (a b : MB) : MB := fun σ h => (a σ h).bind fun c h1 => match c with
  | true => b σ h1
  | false => .ok false h1
def mOrT (a b : MB) : MB := fun σ h => (a σ h).bind fun c h1 => match c with
  | true => .ok true h1
  | false => b σ h1
theorem wAnd1 {a : Expr} {m : MB} {pos : Pos} (ha : ST g W X a m) : SW g W X (.BoolOp .And [a] pos) m := let ⟨t, h1, h2⟩ := ha; ⟨t, pw_and1 h1, h2⟩
theorem wOr1 {a : Expr} {m : MB} {pos : Pos} (ha : ST g W X a m) : SW g W X (.BoolOp .Or [a] pos) m := let ⟨t, h1, h2⟩ := ha; ⟨t, pw_or1 h1, h2⟩
theorem wAnd {a b : Expr} {rest : List Expr} {ma mb : MB} {pos : Pos} (ha : ST g W X a ma) (hb : SW g W X (.BoolOp .And (b :: rest) pos) mb) : SW g W X (.BoolOp .And (a :: b :: rest) pos) (mAndT ma mb) := by
  obtain ⟨ta, pa, ra⟩ := ha
  obtain ⟨tb, pb, rb⟩ := hb
  refine ⟨_, pw_and pa pb, fun p H σm h σ Q R G => ?_⟩
  refine RdT.goT ra R G fun p1 H1 c h1 E1 R1 G1 => ?_
  cases c with
  | true => exact rb p1 H1 σm h1 σ _ R1 G1
  | false => exact G1 p1 H1 (.refl _ _) R1
theorem wOr {a b : Expr} {rest : List Expr} {ma mb : MB} {pos : Pos} (ha : ST g W X a ma) (hb : SW g W X (.BoolOp .Or (b :: rest) pos) mb) : SW g W X (.BoolOp .Or (a :: b :: rest) pos) (mOrT ma mb) := by
  obtain ⟨ta, pa, ra⟩ := ha
  obtain ⟨tb, pb, rb⟩ := hb
  refine ⟨_, pw_or pa pb, fun p H σm h σ Q R G => ?_⟩
  refine RdT.goT ra R G fun p1 H1 c h1 E1 R1 G1 => ?_
  cases c with
  | false => exact rb p1 H1 σm h1 σ _ R1 G1
  | true => exact G1 p1 H1 (.refl _ _) R1
/-! ### not, and, or, if as values -/
def mNot (m : ME) : ME := fun σ h => (m σ h).bind fun v h1 => match truth v h1 with
  | some b => .ok (.bl (!b)) h1
  | none => .no
theorem sNot {a : Expr} {m : ME} {pos : Pos} (hK : X.K = g.K) (ha : SE g W X a m) : SE g W X (.UnaryOp .Not a pos) (mNot m) := by
  obtain ⟨ta, pa, ra⟩ := ha
  refine ⟨_, pe_notT pa, fun p H σm h σ Q R G => ?_⟩
  refine RdE.go ra R G fun p1 H1 v h1 x E1 R1 rv G1 => ?_
  cases e : truth v h1 with
  | none => rw [e] at G1; exact G1.elim
  | some b => rw [e] at G1; rw [hK]; exact ⟨b, truth_ok R1.h rv e, G1 p1 H1 _ (.refl _ _) R1 (by simp [RV])⟩
theorem sOne {a : Expr} {m : ME} {op : BoolOp} {pos : Pos} (ha : SE g W X a m) : SE g W X (.BoolOp op [a] pos) m := let ⟨t, h1, h2⟩ := ha; ⟨t, pe_one h1, h2⟩
def mAnd (a b : ME) : ME := fun σ h => (a σ h).bind fun v h1 => match truth v h1 with
  | some true => b σ h1
  | some false => .ok v h1
  | none => .no
def mOr (a b : ME) : ME := fun σ h => (a σ h).bind fun v h1 => match truth v h1 with
  | some true => .ok v h1
  | some false => b σ h1
  | none => .no
theorem sAnd {a b : Expr} {rest : List Expr} {ma mb : ME} {pos : Pos} (hK : X.K = g.K) (ha : SE g W X a ma) (hb : SE g W X (.BoolOp .And (b :: rest) pos) mb) : SE g W X (.BoolOp .And (a :: b :: rest) pos) (mAnd ma mb) := by
  obtain ⟨ta, pa, ra⟩ := ha
  obtain ⟨tb, pb, rb⟩ := hb
  refine ⟨_, pe_andT pa pb, fun p H σm h σ Q R G => ?_⟩
  refine RdE.go ra R G fun p1 H1 v h1 x E1 R1 rv G1 => ?_
  cases e : truth v h1 with
  | none => rw [e] at G1; exact G1.elim
  | some b =>
    rw [e] at G1; rw [hK]; refine ⟨b, truth_ok R1.h rv e, ?_⟩
    cases b with
    | true => exact rb p1 H1 σm h1 σ _ R1 G1
    | false => exact G1 p1 H1 x (.refl _ _) R1 rv
theorem sOr {a b : Expr} {rest : List Expr} {ma mb : ME} {pos : Pos} (hK : X.K = g.K) (ha : SE g W X a ma) (hb : SE g W X (.BoolOp .Or (b :: rest) pos) mb) : SE g W X (.BoolOp .Or (a :: b :: rest) pos) (mOr ma mb) := by
  obtain ⟨ta, pa, ra⟩ := ha
  obtain ⟨tb, pb, rb⟩ := hb
  refine ⟨_, pe_orT pa pb, fun p H σm h σ Q R G => ?_⟩
  refine RdE.go ra R G fun p1 H1 v h1 x E1 R1 rv G1 => ?_
  cases e : truth v h1 with
  | none => rw [e] at G1; exact G1.elim
  | some b =>
    rw [e] at G1; rw [hK]; refine ⟨b, truth_ok R1.h rv e, ?_⟩
    cases b with
    | false => exact rb p1 H1 σm h1 σ _ R1 G1
    | true => exact G1 p1 H1 x (.refl _ _) R1 rv
def mIf (c : MB) (a b : ME) : ME := fun σ h => (c σ h).bind fun k h1 => match k with
  | true => a σ h1
  | false => b σ h1
theorem sIf {c a b : Expr} {mc : MB} {ma mb : ME} {pos : Pos} (hc : ST g W X c mc) (ha : SE g W X a ma) (hb : SE g W X b mb) : SE g W X (.IfExp c a b pos) (mIf mc ma mb) := by
  obtain ⟨tc, pc, rc⟩ := hc
  obtain ⟨ta, pa, ra⟩ := ha
  obtain ⟨tb, pb, rb⟩ := hb
  refine ⟨_, pe_ifExp pc pa pb, fun p H σm h σ Q R G => ?_⟩
  refine RdT.go rc R G fun p1 H1 k h1 E1 R1 G1 => ?_
  cases k with
  | true => exact ra p1 H1 σm h1 σ _ R1 G1
  | false => exact rb p1 H1 σm h1 σ _ R1 G1

/-! ### arguments, displays -/
def mNil : MA := fun _ h => .ok [] h
def mCons (a : ME) (b : MA) : MA := fun σ h => (a σ h).bind fun v h1 => (b σ h1).bind fun vs h2 => .ok (v :: vs) h2
theorem sNil : SA g W X [] mNil := ⟨_, pa_nil, fun p H σm h σ Q R G => G p H [] (.refl _ _) R (by simp [RVs])⟩
theorem sCons {e : Expr} {es : List Expr} {m : ME} {ms : MA} (he : SE g W X e m) (hs : SA g W X es ms)
    (hst : starEach (e :: es) X.env = (false, eval e X.env) :: starEach es X.env := by rfl) : SA g W X (e :: es) (mCons m ms) := by
  obtain ⟨ta, pa, ra⟩ := he
  obtain ⟨tb, pb, rb⟩ := hs
  refine ⟨_, pa_cons pa pb hst, fun p H σm h σ Q R G => ?_⟩
  refine RdE.goA ra R G fun p1 H1 v h1 x E1 R1 rv G1 => ?_
  refine RdA.goA rb R1 G1 fun p2 H2 vs h2 xs E2 R2 rvs G2 => ?_
  exact G2 p2 H2 _ (.refl _ _) R2 (by simp only [RVs]; exact ⟨x, xs, rfl, rv.ext E2, rvs⟩)
def mTup (ms : MA) : ME := fun σ h => (ms σ h).bind fun vs h1 => if vs.length ≤ sizeLine then .ok (.tup vs) h1 else .no
/-- a new tuple at any place -/
theorem Rel.tup {vs : List Va} {xs : List V} {a : Addr} (R : Rel g p H σm h σ) (rv : RVs g p H vs xs) (hn : H a = none) : Ext p H p (upd H a (.tup xs)) ∧ Rel g p (upd H a (.tup xs)) σm h σ ∧ RV g p (upd H a (.tup xs)) (.tup vs) (.ref a) := by
  have E : Ext p H p (upd H a (.tup xs)) := ⟨fun _ _ e => e, fun b ys e => by rw [upd_ne (ne_of_none e hn)]; exact e, fun b o' u' e => by rw [upd_ne (ne_of_none e hn)]; exact e⟩
  refine ⟨E, ⟨⟨R.h.len, R.h.nd, fun i o e => ?_, fun b hb => ?_, ?_, R.h.sc⟩, R.s.ext E⟩, ?_⟩
  · obtain ⟨b, u, h1, h2, h3⟩ := R.h.at_ i o e
    exact ⟨b, u, h1, by rw [upd_ne (ne_of_none h2 hn)]; exact h2, h3.ext E⟩
  · have hba : b ≠ a := fun z => R.h.tr b hb (z ▸ hn)
    rw [upd_ne hba]
    exact R.h.tr b hb
  · rcases R.h.scr with ⟨o', e⟩ | e
    · exact .inl ⟨o', by rw [upd_ne (ne_of_none e hn)]; exact e⟩
    · exact .inr e
  · simp only [RV]
    exact ⟨a, xs, rfl, upd_same, RVs.ext E _ _ rv⟩
theorem sTup {es : List Expr} {ms : MA} {k : Nat} {pos : Pos} (hs : SA g W X es ms) : SE g W X (.Tuple es k pos) (mTup ms) := by
  obtain ⟨tb, pb, rb⟩ := hs
  refine ⟨_, pe_tup pb, fun p H σm h σ Q R G => ?_⟩
  refine RdA.go rb R G fun p1 H1 vs h1 xs E1 R1 rvs G1 => ?_
  split at G1
  · rename_i hl
    refine ⟨by rw [← rvs.len]; exact hl, fun a hn => ?_⟩
    obtain ⟨E, R2, rv⟩ := R1.tup rvs hn
    exact G1 p1 _ _ E R2 rv
  · exact G1.elim
/-- a new object -/
def newO (h : MH) (o : MO) : Res Va := .ok (.ref h.n) (h.push o)
theorem gv_new {o : MO} {u : HO} (R : RH g p h H) (ro : RO g p H o u) (G : GV g p H (newO h o) Q) : ∀ a, H a = none → Q (.ref a) (upd H a u) := fun a hn => by
  obtain ⟨E, R2, hi⟩ := R.new hn ro
  exact G _ _ _ E R2 (by simp only [RV]; exact ⟨a, rfl, hi⟩)
def mLst (ms : MA) : ME := fun σ h => (ms σ h).bind fun vs h1 => if vs.length ≤ sizeLine then Plain (newO h1 (.lst vs)) else .no
theorem sLst {es : List Expr} {ms : MA} {pos : Pos} (hs : SA g W X es ms) : SE g W X (.List es pos) (mLst ms) := by
  obtain ⟨tb, pb, rb⟩ := hs
  refine ⟨_, pe_lst pb, fun p H σm h σ Q R G => ?_⟩
  refine RdA.go rb R G fun p1 H1 vs h1 xs E1 R1 rvs G1 => ?_
  split at G1
  · rename_i hl
    exact ⟨by rw [← rvs.len]; exact hl, gv_new (o := .lst vs) R1.h ⟨xs, rfl, rvs⟩ (G1.plain R1)⟩
  · exact G1.elim
end
end Mn
end

section
/-! Mini: operators, subscripts, built-ins by values. -/
namespace Mn
open PySem L2

section
variable {g : Gb} {W : WX} {X : Cx} {p p1 p' : List Addr} {H H1 H' : Hp} {σm : MS} {σ : St} {h h1 : MH} {Q : VK}
theorem GV.id {v : Va} {x : V} (R : RH g p h H) (rv : RV g p H v x) (G : GV g p H (.ok v h) Q) : Q x H := G p H x (.refl _ _) R rv
theorem rvInt {i : Int} : RV g p H (.int i) (.int i) := by simp [RV]
theorem rvBl {i : Bool} : RV g p H (.bl i) (.bl i) := by simp [RV]
theorem rvStr {i : Str} : RV g p H (.str i) (.str i) := by simp [RV]
theorem rvNon : RV g p H .non .non := by simp [RV]
theorem OpS.or {r s : R2} {f1 f2 f : F2} (a : OpS g r f1) (b : OpS g s f2) (c : ∀ v u h, f v u h = f1 v u h ∨ f v u h = f2 v u h) : OpS g (fun x y H Q => r x y H Q ∨ s x y H Q) f := fun p h H v u x y Q R rv ru G => by
  rcases c v u h with e | e
  · rw [e] at G; exact .inl (a p h H v u x y Q R rv ru G)
  · rw [e] at G; exact .inr (b p h H v u x y Q R rv ru G)
/-! ### ints -/
def fII (k : Int → Int → Va) : F2 := fun v u h => match v, u with
  | .int i, .int j => .ok (k i j) h
  | _, _ => .no
theorem osI0 {k : Int → Int → Va} {G : Int → Int → V} (hk : ∀ i j p H, RV g p H (k i j) (G i j)) : OpS g (rI0 G) (fII k) := fun p h H v u x y Q R rv ru G => by
  unfold fII at G
  split at G
  · rename_i i j
    simp only [RV] at rv ru
    exact ⟨i, j, rv, ru, G p H _ (.refl _ _) R (hk i j p H)⟩
  · exact G.elim
def fIC (c : Int → Int → Bool) (k : Int → Int → Va) : F2 := fun v u h => match v, u with
  | .int i, .int j => if c i j then .ok (k i j) h else .no
  | _, _ => .no
theorem osIC {c : Int → Int → Bool} {C : Int → Int → Prop} {k : Int → Int → Va} {G : Int → Int → V} (hc : ∀ i j, c i j = true → C i j) (hk : ∀ i j p H, RV g p H (k i j) (G i j)) : OpS g (rI C G) (fIC c k) := fun p h H v u x y Q R rv ru G => by
  unfold fIC at G
  split at G
  · rename_i i j
    simp only [RV] at rv ru
    split at G
    · rename_i z
      exact ⟨i, j, rv, ru, hc i j z, G p H _ (.refl _ _) R (hk i j p H)⟩
    · exact G.elim
  · exact G.elim
def fSub : F2 := fII fun i j => .int (i - j)
def fLt : F2 := fII fun i j => .bl (decide (i < j))
def fLe : F2 := fII fun i j => .bl (decide (i ≤ j))
def fGt : F2 := fII fun i j => .bl (decide (j < i))
def fGe : F2 := fII fun i j => .bl (decide (j ≤ i))
theorem osSub : OpS g (rI0 fun i j => .int (i - j)) fSub := osI0 fun _ _ _ _ => rvInt
theorem osLt : OpS g (rI0 fun i j => .bl (decide (i < j))) fLt := osI0 fun _ _ _ _ => rvBl
theorem osLe : OpS g (rI0 fun i j => .bl (decide (i ≤ j))) fLe := osI0 fun _ _ _ _ => rvBl
theorem osGt : OpS g (rI0 fun i j => .bl (decide (j < i))) fGt := osI0 fun _ _ _ _ => rvBl
theorem osGe : OpS g (rI0 fun i j => .bl (decide (j ≤ i))) fGe := osI0 fun _ _ _ _ => rvBl
def fFdiv : F2 := fIC (fun _ j => decide (0 < j) && decide (j.natAbs.log2 < 9000)) fun i j => .int (i / j)
theorem osFdiv : OpS g (rI CDivW fun i j => .int (i / j)) fFdiv := osIC (fun i j z => by simpa [CDivW] using z) fun _ _ _ _ => rvInt
def fMod : F2 := fIC (fun _ j => decide (0 < j)) fun i j => .int (i % j)
theorem osMod : OpS g (rI (fun _ j => j ≠ 0) fun i j => .int (i.fmod j)) fMod := fun p h H v u x y Q R rv ru G => by
  unfold fMod fIC at G
  split at G
  · rename_i i j
    simp only [RV] at rv ru
    split at G
    · rename_i z
      have hj : 0 < j := by simpa using z
      refine ⟨i, j, rv, ru, by omega, ?_⟩
      show Q (.int (i.fmod j)) H
      rw [Int.fmod_eq_emod_of_nonneg _ (Int.le_of_lt hj)]
      exact G p H _ (.refl _ _) R rvInt
    · exact G.elim
  · exact G.elim
def fPow : F2 := fIC (fun i j => decide (0 ≤ j) && (decide (j ≤ 1000000) && decide (i.natAbs < 2 ^ 64))) fun i j => .int (i ^ j.toNat)
theorem osPow : OpS g (rI CPow fun i j => .int (i ^ j.toNat)) fPow := osIC (fun i j z => by simpa [CPow] using z) fun _ _ _ _ => rvInt
/-! ### + and * -/
def fAdd : F2 := fun v u h => match v, u with
  | .int i, .int j => .ok (.int (i + j)) h
  | .str a, .str b => if a.length + b.length ≤ sizeLine then .ok (.str (a ++ b)) h else .no
  | .ref i, .ref j => match h.get i, h.get j with
    | some (.lst xs), some (.lst ys) => if xs.length + ys.length ≤ sizeLine then newO h (.lst (xs ++ ys)) else .no
    | _, _ => .no
  | _, _ => .no
abbrev rAddAll : R2 := fun x y H Q => (∃ i j, x = .int i ∧ y = .int j ∧ Q (.int (i + j)) H) ∨ (∃ i j, x = .str i ∧ y = .str j ∧ i.length + j.length ≤ sizeLine ∧ Q (.str (i ++ j)) H) ∨ rCat x y H Q
theorem osAdd : OpS g rAddAll fAdd := fun p h H v u x y Q R rv ru G => by
  unfold fAdd at G
  split at G
  · rename_i i j
    simp only [RV] at rv ru
    exact .inl ⟨i, j, rv, ru, G p H _ (.refl _ _) R rvInt⟩
  · rename_i a b
    simp only [RV] at rv ru
    split at G
    · rename_i z
      exact .inr (.inl ⟨a, b, rv, ru, z, G p H _ (.refl _ _) R rvStr⟩)
    · exact G.elim
  · rename_i i j
    simp only [RV] at rv ru
    obtain ⟨a, ea, ha⟩ := rv
    obtain ⟨b, eb, hb⟩ := ru
    split at G
    · rename_i xs ys h1 h2
      obtain ⟨a', xs', q1, q2, q3⟩ := R.lst h1
      obtain ⟨b', ys', k1, k2, k3⟩ := R.lst h2
      rw [ha] at q1; cases q1
      rw [hb] at k1; cases k1
      split at G
      · rename_i z
        exact .inr (.inr ⟨a, b, xs', ys', ea, eb, q2, k2, by rw [← q3.len, ← k3.len]; exact z, gv_new (o := .lst (xs ++ ys)) R ⟨_, rfl, q3.append k3⟩ G⟩)
      · exact G.elim
    · exact G.elim
  · exact G.elim
theorem opAdd : OpR X (binaryOp .Add) rAddAll := Mn.OpR.or op_add (Mn.OpR.or op_add_str op_cat)
def fMul : F2 := fun v u h => match v, u with
  | .int i, .int j => if i.natAbs.log2 + j.natAbs.log2 < 1000000 then .ok (.int (i * j)) h else .no
  | .ref i, .int k => match h.get i with
    | some (.lst xs) => if decide (-(2 ^ 63) ≤ k) && (decide (k < 2 ^ 63) && decide (xs.length * k.toNat ≤ sizeLine)) then newO h (.lst (List.replicate k.toNat xs).flatten) else .no
    | _ => .no
  | _, _ => .no
abbrev rMulAll : R2 := fun x y H Q => rI CMulW (fun i j => .int (i * j)) x y H Q ∨ rRep x y H Q
theorem RVs.rep {xs : List Va} {ys : List V} (r : RVs g p H xs ys) : ∀ n : Nat, RVs g p H (List.replicate n xs).flatten (List.replicate n ys).flatten
  | 0 => by simp [RVs]
  | n + 1 => by
    simp only [List.replicate_succ, List.flatten_cons]
    exact r.append (RVs.rep r n)
theorem osMul : OpS g rMulAll fMul := fun p h H v u x y Q R rv ru G => by
  unfold fMul at G
  split at G
  · rename_i i j
    simp only [RV] at rv ru
    split at G
    · rename_i z
      exact .inl ⟨i, j, rv, ru, z, G p H _ (.refl _ _) R rvInt⟩
    · exact G.elim
  · rename_i i k
    simp only [RV] at rv ru
    obtain ⟨a, ea, ha⟩ := rv
    split at G
    · rename_i xs h1
      obtain ⟨a', xs', q1, q2, q3⟩ := R.lst h1
      rw [ha] at q1; cases q1
      split at G
      · rename_i z
        simp only [Bool.and_eq_true, decide_eq_true_eq] at z
        exact .inr ⟨a, k, xs', ea, ru, q2, z.1, z.2.1, by rw [← q3.len]; exact z.2.2, gv_new (o := .lst (List.replicate k.toNat xs).flatten) R ⟨_, rfl, q3.rep _⟩ G⟩
      · exact G.elim
    · exact G.elim
  · exact G.elim
theorem opMul : OpR X (binaryOp .Mult) rMulAll := Mn.OpR.or op_mulW op_rep
/-! ### data, == and != -/
def allD (f : Va → Option PyData) : List Va → Option (List PyData)
  | [] => some []
  | x :: xs => match f x, allD f xs with
    | some d, some ds => some (d :: ds)
    | _, _ => none
def toD (n : Nat) (h : MH) (v : Va) : Option PyData := match n with
  | 0 => none
  | n + 1 => match v with
    | .non => some .none
    | .bl b => some (.bool b)
    | .int i => some (.int i)
    | .str x => some (.str x)
    | .tup xs => (allD (toD n h) xs).map .tuple
    | .ref i => match h.get i with
      | some (.lst xs) => (allD (toD n h) xs).map .list
      | _ => none
    | .scr => none
theorem allD_ok {f : Va → Option PyData} (hf : ∀ v d x, f v = some d → RV g p H v x → Dp g.K H x d) : ∀ {vs : List Va} {ds : List PyData} {xs : List V}, allD f vs = some ds → RVs g p H vs xs → DpAll g.K H xs ds
  | [], ds, xs, e, r => by simp only [allD, Option.some.injEq] at e; simp only [RVs] at r; subst e r; exact .nil
  | v :: vs, ds, xs, e, r => by
    simp only [RVs] at r
    obtain ⟨y, z, rfl, r1, r2⟩ := r
    simp only [allD] at e
    split at e
    · rename_i d ds' h1 h2
      cases e
      exact .cons (hf v d y h1 r1) (allD_ok hf h2 r2)
    · cases e
theorem toD_ok (R : RH g p h H) : ∀ (n : Nat) (v : Va) (d : PyData) (x : V), toD n h v = some d → RV g p H v x → Dp g.K H x d
  | 0, v, d, x, e, r => by simp [toD] at e
  | n + 1, v, d, x, e, r => by
    cases v with
    | non => simp only [toD, Option.some.injEq] at e; simp only [RV] at r; subst e r; exact .non
    | bl b => simp only [toD, Option.some.injEq] at e; simp only [RV] at r; subst e r; exact .bl b
    | int b => simp only [toD, Option.some.injEq] at e; simp only [RV] at r; subst e r; exact .int b
    | str b => simp only [toD, Option.some.injEq] at e; simp only [RV] at r; subst e r; exact .str b
    | tup xs =>
      simp only [RV] at r
      obtain ⟨a, ys, rfl, ht, r⟩ := r
      simp only [toD] at e
      cases q : allD (toD n h) xs with
      | none => rw [q] at e; cases e
      | some ds =>
        rw [q] at e
        cases e
        exact .tup (.inl (.inl ht)) (allD_ok (toD_ok R n) q r)
    | ref i =>
      simp only [RV] at r
      obtain ⟨a, rfl, hi⟩ := r
      simp only [toD] at e
      split at e
      · rename_i xs hg
        obtain ⟨a', ys, q1, q2, q3⟩ := R.lst hg
        rw [hi] at q1; cases q1
        cases q : allD (toD n h) xs with
        | none => rw [q] at e; cases e
        | some ds =>
          rw [q] at e
          cases e
          exact .lst (.inl (.inl q2)) (allD_ok (toD_ok R n) q q3)
      · cases e
    | scr => simp [toD] at e
def deep : Nat := 40
def fEqD (k : Bool → Bool) : F2 := fun v u h => match toD deep h v, toD deep h u with
  | some d, some e => cond (SeqAt.shaped d && SeqAt.shaped e) (.ok (.bl (k (PyData.eqv d e))) h) .no
  | _, _ => .no
theorem osEqD : OpS g (rEqD g.K) (fEqD id) := fun p h H v u x y Q R rv ru G => by
  unfold fEqD at G
  split at G
  · rename_i d e h1 h2
    cases q : (SeqAt.shaped d && SeqAt.shaped e) with
    | false => rw [q] at G; exact G.elim
    | true =>
      rw [q] at G
      simp only [Bool.and_eq_true] at q
      exact ⟨d, e, toD_ok R _ _ _ _ h1 rv, toD_ok R _ _ _ _ h2 ru, q.1, q.2, G p H _ (.refl _ _) R rvBl⟩
  · exact G.elim
theorem osNeD : OpS g (rNeD g.K) (fEqD not) := fun p h H v u x y Q R rv ru G => by
  unfold fEqD at G
  split at G
  · rename_i d e h1 h2
    cases q : (SeqAt.shaped d && SeqAt.shaped e) with
    | false => rw [q] at G; exact G.elim
    | true =>
      rw [q] at G
      simp only [Bool.and_eq_true] at q
      exact ⟨d, e, toD_ok R _ _ _ _ h1 rv, toD_ok R _ _ _ _ h2 ru, q.1, q.2, G p H _ (.refl _ _) R rvBl⟩
  · exact G.elim
/-! ### is None -/
def isNone (v : Va) : Bool := match v with
  | .non => true
  | _ => false
def fIsN (k : Bool → Bool) : F2 := fun v u h => match u with
  | .non => .ok (.bl (k (isNone v))) h
  | _ => .no
theorem isNone_ok {v : Va} {x : V} (r : RV g p H v x) : decide (x = .non) = isNone v := by
  cases v <;> simp only [RV] at r <;> first | (subst r; simp [isNone]) | (obtain ⟨a, b, rfl, _⟩ := r; simp [isNone]) | (obtain ⟨a, rfl, _⟩ := r; simp [isNone])
theorem osIsN : OpS g (fun x y H Q => y = .non ∧ Q (.bl (decide (x = .non))) H) (fIsN id) := fun p h H v u x y Q R rv ru G => by
  unfold fIsN at G
  split at G
  · simp only [RV] at ru
    refine ⟨ru, ?_⟩
    rw [isNone_ok rv]
    exact G p H _ (.refl _ _) R rvBl
  · exact G.elim
theorem osIsNot : OpS g (fun x y H Q => y = .non ∧ Q (.bl (!decide (x = .non))) H) (fIsN not) := fun p h H v u x y Q R rv ru G => by
  unfold fIsN at G
  split at G
  · simp only [RV] at ru
    refine ⟨ru, ?_⟩
    rw [isNone_ok rv]
    exact G p H _ (.refl _ _) R rvBl
  · exact G.elim
/-! ### keys -/
def keyOf (v : Va) : Option Key := match v with
  | .int i => some (.inl i)
  | .str x => some (.inr x)
  | _ => none
theorem keyOf_kV {v : Va} {x : V} {k : Key} (e : keyOf v = some k) (r : RV g p H v x) : x = kV k := by
  cases v <;> simp [keyOf] at e <;> simp only [RV] at r <;> subst e r <;> rfl
def kIs (a b : Va) : Bool := match a, b with
  | .int i, .int j => i == j
  | .str x, .str y => x == y
  | _, _ => false
theorem kIs_iff {a : Va} {k l : Key} (ea : a = keyVa k) {b : Va} (eb : keyOf b = some l) : kIs a b = decide (k = l) := by
  subst ea
  cases b <;> simp [keyOf] at eb <;> subst eb <;> cases k <;> simp [kIs, keyVa] <;> (rw [Bool.eq_iff_iff]; simp)
def look : List (Va × Va) → Va → Option Va
  | [], _ => none
  | kv :: r, k => cond (kIs kv.1 k) (some kv.2) (look r k)
theorem look_ok {k : Key} {kv : Va} (ek : keyOf kv = some k) : ∀ {ks : List (Va × Va)} {ys : List (Key × V)}, RK g p H ks ys → (look ks kv = none → valV ys k = none) ∧ ∀ v, look ks kv = some v → ∃ x, valV ys k = some x ∧ RV g p H v x
  | [], ys, r => by simp only [RK] at r; subst r; simp [look, valV]
  | a :: r, ys, z => by
    simp only [RK] at z
    obtain ⟨k1, y, s, rfl, e1, r1, r2⟩ := z
    have ih := look_ok ek r2
    have q := kIs_iff e1 ek
    simp only [look, q, valV, List.find?_cons]
    by_cases hk : k1 = k
    · rw [decide_eq_true hk, cond_true]
      constructor
      · intro z; cases z
      · intro v e; cases e; exact ⟨y, rfl, r1⟩
    · rw [decide_eq_false hk, cond_false]
      exact ih
def has (ks : List (Va × Va)) (k : Va) : Bool := ks.any fun kv => kIs kv.1 k
def put (ks : List (Va × Va)) (k v : Va) : List (Va × Va) := cond (has ks k) (ks.map fun kv => cond (kIs kv.1 k) (kv.1, v) kv) (ks ++ [(k, v)])
theorem has_ok {k : Key} {kv : Va} (ek : keyOf kv = some k) : ∀ {ks : List (Va × Va)} {ys : List (Key × V)}, RK g p H ks ys → has ks kv = ys.any fun y => decide (y.1 = k)
  | [], ys, r => by simp only [RK] at r; subst r; rfl
  | a :: r, ys, z => by
    simp only [RK] at z
    obtain ⟨k1, y, s, rfl, e1, r1, r2⟩ := z
    have ih := has_ok ek r2
    have q := kIs_iff e1 ek
    unfold has at ih ⊢
    simp only [List.any_cons, q, ih]
theorem RK.mapPut {k : Key} {kv v : Va} {x : V} (ek : keyOf kv = some k) (rv : RV g p H v x) : ∀ {ks : List (Va × Va)} {ys : List (Key × V)}, RK g p H ks ys →
    RK g p H (ks.map fun z => cond (kIs z.1 kv) (z.1, v) z) (ys.map fun z => if z.1 = k then (z.1, x) else z)
  | [], ys, r => by simp only [RK] at r; subst r; simp [RK]
  | a :: r, ys, z => by
    simp only [RK] at z
    obtain ⟨k1, y, s, rfl, e1, r1, r2⟩ := z
    have q := kIs_iff e1 ek
    have ih := RK.mapPut (v := v) ek rv r2
    simp only [List.map_cons, RK, q]
    by_cases hk : k1 = k
    · rw [decide_eq_true hk, cond_true, if_pos hk]
      exact ⟨k1, x, _, rfl, e1, rv, ih⟩
    · rw [decide_eq_false hk, cond_false, if_neg hk]
      exact ⟨k1, y, _, rfl, e1, r1, ih⟩
theorem RK.snoc {k : Key} {kv v : Va} {x : V} (ek : kv = keyVa k) (rv : RV g p H v x) : ∀ {ks : List (Va × Va)} {ys : List (Key × V)}, RK g p H ks ys → RK g p H (ks ++ [(kv, v)]) (ys ++ [(k, x)])
  | [], ys, r => by simp only [RK] at r; subst r; simp only [List.nil_append, RK]; exact ⟨k, x, [], rfl, ek, rv, rfl⟩
  | a :: r, ys, z => by
    simp only [RK] at z
    obtain ⟨k1, y, s, rfl, e1, r1, r2⟩ := z
    simp only [List.cons_append, RK]
    exact ⟨k1, y, _, rfl, e1, r1, RK.snoc ek rv r2⟩
theorem keyOf_va {v : Va} {k : Key} (e : keyOf v = some k) : v = keyVa k := by cases v <;> simp [keyOf] at e <;> subst e <;> rfl
theorem put_ok {k : Key} {kv v : Va} {x : V} (ek : keyOf kv = some k) (rv : RV g p H v x) {ks : List (Va × Va)} {ys : List (Key × V)} (r : RK g p H ks ys) : RK g p H (put ks kv v) (putK ys k x) := by
  unfold put putK
  rw [has_ok ek r]
  cases q : (ys.any fun y => decide (y.1 = k)) with
  | true => rw [cond_true, if_pos rfl]; exact r.mapPut ek rv
  | false => rw [cond_false, if_neg (by simp)]; exact r.snoc (keyOf_va ek) rv
/-- the layer's put, turn by turn, where no key stands twice -/
theorem RK.keys : ∀ {ks : List (Va × Va)} {ys : List (Key × V)}, RK g p H ks ys → ks.map (·.1) = ys.map fun y => keyVa y.1
  | [], ys, r => by simp only [RK] at r; subst r; rfl
  | a :: r, ys, z => by
    simp only [RK] at z
    obtain ⟨k1, y, s, rfl, e1, r1, r2⟩ := z
    simp [e1, r2.keys]
theorem RK.len : ∀ {ks : List (Va × Va)} {ys : List (Key × V)}, RK g p H ks ys → ks.length = ys.length
  | [], ys, r => by simp only [RK] at r; subst r; rfl
  | a :: r, ys, z => by
    simp only [RK] at z
    obtain ⟨k1, y, s, rfl, e1, r1, r2⟩ := z
    simp [r2.len]
end
end Mn
end

section
/-! Mini: subscripts, slices, built-ins by values. -/
namespace Mn
open PySem L2
section
variable {g : Gb} {W : WX} {X : Cx} {p p1 p' : List Addr} {H H1 H' : Hp} {σm : MS} {σ : St} {h h1 : MH} {Q : VK}
/-! ### lists as they are read -/
def scrL (h : MH) : List Va := h.s.map Va.int
def listAt (h : MH) (v : Va) : Option (List Va) := match v with
  | .ref i => match h.get i with
    | some (.lst xs) => some xs
    | _ => none
  | .scr => some (scrL h)
  | _ => none
theorem rvs_ints : ∀ ns : List Int, RVs g p H (ns.map Va.int) (ns.map V.int)
  | [] => by simp [RVs]
  | n :: ns => by simp only [List.map_cons, RVs]; exact ⟨_, _, rfl, rvInt, rvs_ints ns⟩
theorem listAt_ok {v : Va} {x : V} {xs : List Va} (R : RH g p h H) (rv : RV g p H v x) (e : listAt h v = some xs) : ∃ a ys, x = .ref a ∧ SqL g.K H a ys ∧ RVs g p H xs ys := by
  cases v with
  | ref i =>
    simp only [RV] at rv
    obtain ⟨a, rfl, hi⟩ := rv
    simp only [listAt] at e
    split at e
    · rename_i ys hg
      cases e
      obtain ⟨a', zs, q1, q2, q3⟩ := R.lst hg
      rw [hi] at q1; cases q1
      exact ⟨a, zs, rfl, .inl (.inl q2), q3⟩
    · cases e
  | scr =>
    simp only [RV] at rv
    subst rv
    simp only [listAt, Option.some.injEq] at e
    subst e
    refine ⟨g.sa, g.ns.map V.int, rfl, R.scr.seq, ?_⟩
    unfold scrL
    rw [R.sc]
    exact rvs_ints _
  | _ => simp [listAt] at e
theorem tupAt_ok {xs : List Va} {x : V} (rv : RV g p H (.tup xs) x) : ∃ a ys, x = .ref a ∧ H a = some (.tup ys) ∧ RVs g p H xs ys := by
  simp only [RV] at rv
  exact rv
theorem atI_ok {xs : List Va} {ys : List V} {i : Int} {v : Va} (r : RVs g p H xs ys) (e : atI xs i = some v) : ∃ x, atI ys i = some x ∧ RV g p H v x := by
  unfold atI at e ⊢
  rw [← r.len]
  cases q : ixN xs.length i with
  | none => rw [q] at e; cases e
  | some j =>
    rw [q] at e
    exact r.get e
/-! ### subscripts -/
def fIx : F2 := fun v u h => match u with
  | .int i => match v with
    | .tup xs => match atI xs i with
      | some w => .ok w h
      | none => .no
    | .str z => match atI z.cps.toList i with
      | some c => if z.length ≤ sizeLine then .ok (.str ⟨#[c]⟩) h else .no
      | none => .no
    | v => match listAt h v with
      | some xs => match atI xs i with
        | some w => .ok w h
        | none => .no
      | none => .no
  | _ => .no
abbrev rIxAll (K : PySem.W.Frag) : R2 := fun x y H Q => (rIxL K x y H Q ∨ rIxT K x y H Q) ∨ rIxS x y H Q
theorem ixAll : IxR X (rIxAll X.K) := by
  have or1 : ∀ {r s : R2}, IxR X r → IxR X s → IxR X (fun x y H Q => r x y H Q ∨ s x y H Q) := fun a b value slice pins s σ H x y v u Q I rx ry h hs => by
    rcases h with h | h
    · exact a value slice pins s σ H x y v u Q I rx ry h hs
    · exact b value slice pins s σ H x y v u Q I rx ry h hs
  exact or1 (or1 ix_list ix_tup) ix_str
theorem osIx : OpS g (rIxAll g.K) fIx := fun p h H v u x y Q R rv ru G => by
  unfold fIx at G
  split at G
  · rename_i i
    simp only [RV] at ru
    split at G
    · rename_i xs
      obtain ⟨a, ys, e1, e2, e3⟩ := tupAt_ok rv
      split at G
      · rename_i w hw
        obtain ⟨z, k1, k2⟩ := atI_ok e3 hw
        exact .inl (.inr ⟨a, ys, i, z, e1, ru, .inl (.inl e2), k1, G p H _ (.refl _ _) R k2⟩)
      · exact G.elim
    · rename_i z
      simp only [RV] at rv
      split at G
      · rename_i c hc
        split at G
        · rename_i hl
          exact .inr ⟨z, i, c, rv, ru, hl, hc, G p H _ (.refl _ _) R rvStr⟩
        · exact G.elim
      · exact G.elim
    · split at G
      · rename_i xs hx
        obtain ⟨a, ys, e1, e2, e3⟩ := listAt_ok R rv hx
        split at G
        · rename_i w hw
          obtain ⟨z, k1, k2⟩ := atI_ok e3 hw
          exact .inl (.inl ⟨a, ys, i, z, e1, ru, e2, k1, G p H _ (.refl _ _) R k2⟩)
        · exact G.elim
      · exact G.elim
  · exact G.elim
/-- a dict, read or locked -/
def dicAt (h : MH) (v : Va) : Option (List (Va × Va)) := match v with
  | .ref i => match h.get i with
    | some (.dic xs) => some xs
    | some (.lck xs) => some xs
    | _ => none
  | _ => none
theorem dicAt_ok {v : Va} {x : V} {xs : List (Va × Va)} (R : RH g p h H) (rv : RV g p H v x) (e : dicAt h v = some xs) : ∃ a ys, x = .ref a ∧ Rd H a (.dK ys) ∧ RK g p H xs ys := by
  cases v with
  | ref i =>
    simp only [RV] at rv
    obtain ⟨a, rfl, hi⟩ := rv
    simp only [dicAt] at e
    split at e
    · rename_i ys hg
      cases e
      obtain ⟨a', zs, q1, q2, q3⟩ := R.dic hg
      rw [hi] at q1; cases q1
      exact ⟨a, zs, rfl, .inl q2, q3⟩
    · rename_i ys hg
      cases e
      obtain ⟨a', u, q1, q2, ob, zs, rfl, q3⟩ := R.at_ i _ hg
      rw [hi] at q1; cases q1
      exact ⟨a, zs, rfl, .inr ⟨ob, q2⟩, q3⟩
    · cases e
  | _ => simp [dicAt] at e
def fDGet : F2 := fun v u h => match dicAt h v, keyOf u with
  | some ks, some _ => match look ks u with
    | some w => .ok w h
    | none => .no
  | _, _ => .no
abbrev rDGet : R2 := fun x y H Q => ∃ a v, x = V.ref a ∧ DGet H a y (some v) ∧ Q v H
theorem osDGet : OpS g rDGet fDGet := fun p h H v u x y Q R rv ru G => by
  unfold fDGet at G
  split at G
  · rename_i ks k hd hk
    obtain ⟨a, ys, e1, e2, e3⟩ := dicAt_ok R rv hd
    split at G
    · rename_i w hw
      obtain ⟨z, k1, k2⟩ := (look_ok hk e3).2 w hw
      exact ⟨a, z, e1, .inl ⟨ys, k, e2, keyOf_kV hk ru, k1.symm⟩, G p H _ (.refl _ _) R k2⟩
    · exact G.elim
  · exact G.elim
/-- both kinds of subscripts: which one is seen by the run -/
def fSub2 : F2 := fun v u h => match dicAt h v with
  | some _ => fDGet v u h
  | none => fIx v u h
def isDic (ma mb : ME) (σ : MS) (h : MH) : Bool := match ma σ h with
  | .ok v h1 => match mb σ h1 with
    | .ok _ h2 => (dicAt h2 v).isSome
    | _ => false
  | _ => false
theorem pe_or {e : Expr} {t u : TE} (a : PE X e t) (b : PE X e u) : PE X e (fun σ H Q => t σ H Q ∨ u σ H Q) := ⟨fun pins s σ H Q I h => by
  rcases h with h | h
  · exact a.run pins s σ H Q I h
  · exact b.run pins s σ H Q I h⟩
theorem mBin_eq {f : F2} {ma mb : ME} {v u : Va} {h2 : MH} (e1 : ma σm h = .ok v h1) (e2 : mb σm h1 = .ok u h2) : mBin f ma mb σm h = Plain (f v u h2) := by
  unfold mBin
  rw [e1]
  show (mb σm h1).bind _ = _
  rw [e2]
  rfl
theorem sIx {a b : Expr} {pos : Pos} {ma mb : ME} (hK : X.K = g.K) (hu : X.A.units + 1 < cLine) (ha : SE g W X a ma) (hb : SE g W X b mb) (hs : PlainIx b := by intro _ _; rfl) : SE g W X (.Subscript a b pos) (mBin fSub2 ma mb) := by
  obtain ⟨ta, pa, ra⟩ := ha
  obtain ⟨tb, pb, rb⟩ := hb
  refine ⟨_, pe_or (pe_ix (pos := pos) ixAll pa pb hs) (pe_dget (pos := pos) hu pa pb hs), fun p H σm h σ Q R G => ?_⟩
  cases q : isDic ma mb σm h with
  | false =>
    refine .inl (?_ : tOp (rIxAll X.K) ta tb σ H Q)
    rw [hK]
    refine rd_bin osIx ra rb p H σm h σ Q R ?_
    have e : mBin fIx ma mb σm h = mBin fSub2 ma mb σm h := by
      cases e1 : ma σm h with
      | ok v h1 =>
        cases e2 : mb σm h1 with
        | ok u h2 =>
          rw [mBin_eq e1 e2, mBin_eq e1 e2]
          simp only [isDic, e1, e2] at q
          unfold fSub2
          cases q2 : dicAt h2 v with
          | none => rfl
          | some x => rw [q2] at q; cases q
        | ex c fs h2 => unfold mBin; rw [e1]; simp only [Res.bind, e2]
        | no => unfold mBin; rw [e1]; simp only [Res.bind, e2]
      | ex c fs h2 => unfold mBin; rw [e1]; rfl
      | no => unfold mBin; rw [e1]; rfl
    rw [e]
    exact G
  | true =>
    refine .inr (?_ : tOp rDGet ta tb σ H Q)
    refine rd_bin osDGet ra rb p H σm h σ Q R ?_
    have e : mBin fDGet ma mb σm h = mBin fSub2 ma mb σm h := by
      cases e1 : ma σm h with
      | ok v h1 =>
        cases e2 : mb σm h1 with
        | ok u h2 =>
          rw [mBin_eq e1 e2, mBin_eq e1 e2]
          simp only [isDic, e1, e2] at q
          unfold fSub2
          cases q2 : dicAt h2 v with
          | some x => rfl
          | none => rw [q2] at q; cases q
        | ex c fs h2 => simp only [isDic, e1, e2] at q; cases q
        | no => simp only [isDic, e1, e2] at q; cases q
      | ex c fs h2 => simp only [isDic, e1] at q; cases q
      | no => simp only [isDic, e1] at q; cases q
    rw [e]
    exact G
/-! ### in, not in -/
def fIn (k : Bool → Bool) : F2 := fun v u h => match v, u with
  | .str a, .str b => .ok (.bl (k (!(Builtin.Str.occurrences b a 0 b.length 1).isEmpty))) h
  | _, _ => .no
theorem osInStr : OpS g (fun x y H Q => ∃ i j, x = .str i ∧ y = .str j ∧ Q (.bl (!(Builtin.Str.occurrences j i 0 j.length 1).isEmpty)) H) (fIn id) := fun p h H v u x y Q R rv ru G => by
  unfold fIn at G
  split at G
  · simp only [RV] at rv ru
    exact ⟨_, _, rv, ru, G p H _ (.refl _ _) R rvBl⟩
  · exact G.elim
/-- in a dict -/
def fDIn (k : Bool → Bool) : F2 := fun u v h => match dicAt h v, keyOf u with
  | some ks, some _ => .ok (.bl (k (look ks u).isSome)) h
  | _, _ => .no
theorem look_some {k : Key} {kv : Va} (ek : keyOf kv = some k) {ks : List (Va × Va)} {ys : List (Key × V)} (r : RK g p H ks ys) : (look ks kv).isSome = (valV ys k).isSome := by
  obtain ⟨h1, h2⟩ := look_ok ek r
  cases q : look ks kv with
  | none => rw [h1 q]; rfl
  | some v => obtain ⟨x, e, _⟩ := h2 v q; rw [e]; rfl
theorem osDIn : OpS g (fun y x H Q => ∃ a o, x = V.ref a ∧ DGet H a y o ∧ Q (.bl o.isSome) H) (fDIn id) := fun p h H u v y x Q R ru rv G => by
  unfold fDIn at G
  split at G
  · rename_i ks k hd hk
    obtain ⟨a, ys, e1, e2, e3⟩ := dicAt_ok R rv hd
    refine ⟨a, valV ys k, e1, .inl ⟨ys, k, e2, keyOf_kV hk ru, rfl⟩, ?_⟩
    rw [← look_some hk e3]
    exact G p H _ (.refl _ _) R rvBl
  · exact G.elim
theorem osDNotIn : OpS g (fun y x H Q => ∃ a o, x = V.ref a ∧ DGet H a y o ∧ Q (.bl (!o.isSome)) H) (fDIn not) := fun p h H u v y x Q R ru rv G => by
  unfold fDIn at G
  split at G
  · rename_i ks k hd hk
    obtain ⟨a, ys, e1, e2, e3⟩ := dicAt_ok R rv hd
    refine ⟨a, valV ys k, e1, .inl ⟨ys, k, e2, keyOf_kV hk ru, rfl⟩, ?_⟩
    rw [← look_some hk e3]
    exact G p H _ (.refl _ _) R rvBl
  · exact G.elim
theorem sDIn {i o : Expr} {pos : Pos} {mi mo : ME} (hu : X.A.units + 1 < cLine) (hi : SE g W X i mi) (ho : SE g W X o mo) (hm : behindInMarks .In o = false := by rfl) : SE g W X (.Compare i [.In] [o] pos) (mBin (fDIn id) mi mo) := by
  obtain ⟨ta, pa, ra⟩ := hi
  obtain ⟨tb, pb, rb⟩ := ho
  exact ⟨_, pe_cmp (pc_din hu pa pb) hm, rd_bin osDIn ra rb⟩
theorem sDNotIn {i o : Expr} {pos : Pos} {mi mo : ME} (hu : X.A.units + 1 < cLine) (hi : SE g W X i mi) (ho : SE g W X o mo) (hm : behindInMarks .NotIn o = false := by rfl) : SE g W X (.Compare i [.NotIn] [o] pos) (mBin (fDIn not) mi mo) := by
  obtain ⟨ta, pa, ra⟩ := hi
  obtain ⟨tb, pb, rb⟩ := ho
  exact ⟨_, pe_cmp (pc_dnotin hu pa pb) hm, rd_bin osDNotIn ra rb⟩
end
end Mn
end

section
/-! Mini: calls of built-ins, methods of lists, slices. -/
namespace Mn
open PySem L2
section
variable {g : Gb} {W : WX} {X : Cx} {p p1 p' : List Addr} {H H1 H' : Hp} {σm : MS} {σ : St} {h h1 : MH} {Q : VK}
/-! ### writing to what stands in the heap -/
theorem RH.setL {i : Nat} {xs : List Va} (R : RH g p h H) (e : h.get i = some (.lst xs)) : ∃ a ys, p[i]? = some a ∧ H a = some (.lst ys) ∧ RVs g p H xs ys ∧
    ∀ xs' ys', RVs g p H xs' ys' → Ext p H p (upd H a (.lst ys')) ∧ RH g p (h.put i (.lst xs')) (upd H a (.lst ys')) := by
  obtain ⟨a, ys, h1, h2, h3⟩ := R.lst e
  exact ⟨a, ys, h1, h2, h3, fun xs' ys' r => R.write h1 h2 (fun _ z => nomatch z) (fun _ _ z => nomatch z) ⟨ys', rfl, r⟩⟩
theorem RH.setD {i : Nat} {xs : List (Va × Va)} (R : RH g p h H) (e : h.get i = some (.dic xs)) : ∃ a ys, p[i]? = some a ∧ H a = some (.dK ys) ∧ RK g p H xs ys ∧
    ∀ xs' ys', RK g p H xs' ys' → Ext p H p (upd H a (.dK ys')) ∧ RH g p (h.put i (.dic xs')) (upd H a (.dK ys')) := by
  obtain ⟨a, ys, h1, h2, h3⟩ := R.dic e
  exact ⟨a, ys, h1, h2, h3, fun xs' ys' r => R.write h1 h2 (fun _ z => nomatch z) (fun _ _ z => nomatch z) ⟨ys', rfl, r⟩⟩
/-! ### built-ins by name -/
def CallS (g : Gb) (r : List V → Hp → VK → Prop) (f : FL) : Prop := ∀ p h H vs xs Q, RH g p h H → RVs g p H vs xs → GV g p H (f vs h) Q → r xs H Q
def mCallB (f : FL) (ms : MA) : ME := fun σ h => (ms σ h).bind fun vs h1 => Plain (f vs h1)
theorem rd_call {r : List V → Hp → VK → Prop} {f : FL} {t : TA} {ms : MA} (hs : CallS g r f) (ha : RdA g W t ms) : RdE g W (tCB r t) (mCallB f ms) := fun p H σm h σ Q R G => by
  refine RdA.go ha R G fun p1 H1 vs h1 xs E1 R1 rvs G1 => ?_
  exact hs p1 h1 H1 vs xs Q R1.h rvs (G1.plain R1)
theorem sCallB {x : Str} {q pos : Pos} {e : Expr} {es : List Expr} {id : String} {r : List V → Hp → VK → Prop} {f : FL} {ms : MA} (hc : CallR X (.builtin id) r) (hs : CallS g r f) (hm : X.mg x = none) (ha : SA g W X (e :: es) ms)
    (hg : Gl X x := by rfl) (hv : bootBuiltins x = some (.builtin id) := by decide +kernel) (hn : x ≠ ("__name__" : Str) := by decide) (hdb : (x == ("__debug__" : Str)) = false := by decide)
    (he : starEach (e :: es) X.env = (false, eval e X.env) :: starEach es X.env := by rfl) (hpl : (backTo pos (starEach es X.env)).any (·.1) = false := by rfl) : SE g W X (.Call (.Name x q) (e :: es) [] pos) (mCallB f ms) := by
  obtain ⟨t, pa, ra⟩ := ha
  exact ⟨_, pe_callB hc hg hm hv pa hn hdb he hpl, rd_call hs ra⟩
theorem sCallTy {x : Str} {q pos : Pos} {e : Expr} {es : List Expr} {id : String} {r : List V → Hp → VK → Prop} {f : FL} {ms : MA} (hc : CallR X (.type id) r) (hs : CallS g r f) (hm : X.mg x = none) (ha : SA g W X (e :: es) ms)
    (hg : Gl X x := by rfl) (hv : bootBuiltins x = some (.type id) := by decide +kernel) (hn : x ≠ ("__name__" : Str) := by decide) (hdb : (x == ("__debug__" : Str)) = false := by decide)
    (he : starEach (e :: es) X.env = (false, eval e X.env) :: starEach es X.env := by rfl) (hpl : (backTo pos (starEach es X.env)).any (·.1) = false := by rfl) : SE g W X (.Call (.Name x q) (e :: es) [] pos) (mCallB f ms) := by
  obtain ⟨t, pa, ra⟩ := ha
  exact ⟨_, pe_callTy hc hg hm hv pa hn hdb he hpl, rd_call hs ra⟩
theorem one {xs : List V} {v : Va} (r : RVs g p H [v] xs) : ∃ x, xs = [x] ∧ RV g p H v x := by
  simp only [RVs] at r
  obtain ⟨y, z, rfl, r1, r2⟩ := r
  subst r2
  exact ⟨y, rfl, r1⟩
theorem two {xs : List V} {v u : Va} (r : RVs g p H [v, u] xs) : ∃ x y, xs = [x, y] ∧ RV g p H v x ∧ RV g p H u y := by
  simp only [RVs] at r
  obtain ⟨y, z, rfl, r1, y2, z2, rfl, r2, r3⟩ := r
  subst r3
  exact ⟨y, y2, rfl, r1, r2⟩
/-- len -/
def fLen : FL := fun vs h => match vs with
  | [.str z] => if z.length ≤ sizeLine then .ok (.int z.length) h else .no
  | [.tup xs] => .ok (.int xs.length) h
  | [v] => match listAt h v with
    | some xs => .ok (.int xs.length) h
    | none => match v with
      | .ref i => match h.get i with
        | some (.dic ks) => .ok (.int ks.length) h
        | _ => .no
      | _ => .no
  | _ => .no
abbrev rLenAll (K : PySem.W.Frag) : List V → Hp → VK → Prop := fun xs H Q => (∃ x n, xs = [x] ∧ LenV K x H n ∧ Q (.int n) H) ∨ ∃ a kvs, xs = [V.ref a] ∧ H a = some (.dK kvs) ∧ Q (V.int kvs.length) H
theorem lenAll : CallR X (.builtin "len") (rLenAll X.K) := CallR.or call_len call_lenD
theorem csLen : CallS g (rLenAll g.K) fLen := fun p h H vs xs Q R rvs G => by
  unfold fLen at G
  split at G
  · rename_i z
    obtain ⟨x, rfl, rv⟩ := one rvs
    simp only [RV] at rv
    split at G
    · rename_i hz
      exact .inl ⟨x, z.length, rfl, by rw [rv]; exact ⟨hz, rfl⟩, G p H _ (.refl _ _) R rvInt⟩
    · exact G.elim
  · rename_i ys
    obtain ⟨x, rfl, rv⟩ := one rvs
    obtain ⟨a, zs, rfl, e2, e3⟩ := tupAt_ok rv
    exact .inl ⟨_, ys.length, rfl, .inr ⟨zs, .inl (.inl e2), e3.len⟩, G p H _ (.refl _ _) R rvInt⟩
  · rename_i v _ _
    obtain ⟨x, rfl, rv⟩ := one rvs
    split at G
    · rename_i ys hl
      obtain ⟨a, zs, rfl, e2, e3⟩ := listAt_ok R rv hl
      exact .inl ⟨_, ys.length, rfl, .inl ⟨zs, e2, e3.len⟩, G p H _ (.refl _ _) R rvInt⟩
    · split at G
      · rename_i i _ _ _
        simp only [RV] at rv
        obtain ⟨a, rfl, hi⟩ := rv
        split at G
        · rename_i ks hk
          obtain ⟨b, ys, k1, k2, k3⟩ := R.dic hk
          rw [hi] at k1; cases k1
          exact .inr ⟨a, ys, rfl, k2, by rw [← k3.len]; exact G p H _ (.refl _ _) R rvInt⟩
        · exact G.elim
      · exact G.elim
  · exact G.elim
/-- ints -/
def fI1 (k : Int → Int) : FL := fun vs h => match vs with
  | [.int i] => .ok (.int (k i)) h
  | _ => .no
theorem csI1 {k G : Int → Int} (hk : ∀ i, G i = k i) : CallS g (fun xs H Q => ∃ i, xs = [.int i] ∧ Q (.int (G i)) H) (fI1 k) := fun p h H vs xs Q R rvs Gv => by
  unfold fI1 at Gv
  split at Gv
  · obtain ⟨x, rfl, rv⟩ := one rvs
    simp only [RV] at rv
    subst rv
    exact ⟨_, rfl, by rw [hk]; exact Gv p H _ (.refl _ _) R rvInt⟩
  · exact Gv.elim
def fI2 (k : Int → Int → Int) : FL := fun vs h => match vs with
  | [.int i, .int j] => .ok (.int (k i j)) h
  | _ => .no
theorem csI2 {k G : Int → Int → Int} (hk : ∀ i j, G i j = k i j) : CallS g (fun xs H Q => ∃ i j, xs = [.int i, .int j] ∧ Q (.int (G i j)) H) (fI2 k) := fun p h H vs xs Q R rvs Gv => by
  unfold fI2 at Gv
  split at Gv
  · obtain ⟨x, y, rfl, rv, ru⟩ := two rvs
    simp only [RV] at rv ru
    subst rv ru
    exact ⟨_, _, rfl, by rw [hk]; exact Gv p H _ (.refl _ _) R rvInt⟩
  · exact Gv.elim
def fAbs : FL := fI1 fun i => if i < 0 then -i else i
theorem csAbs : CallS g (fun xs H Q => ∃ i, xs = [.int i] ∧ Q (.int (if i < 0 then -i else i)) H) fAbs := csI1 fun _ => rfl
def fMax2 : FL := fI2 fun i j => if j > i then j else i
theorem csMax2 : CallS g (fun xs H Q => ∃ i j, xs = [.int i, .int j] ∧ Q (.int (if j > i then j else i)) H) fMax2 := csI2 fun _ _ => rfl
def fMin2 : FL := fI2 fun i j => if j < i then j else i
theorem csMin2 : CallS g (fun xs H Q => ∃ i j, xs = [.int i, .int j] ∧ Q (.int (if j < i then j else i)) H) fMin2 := csI2 fun _ _ => rfl
def fInt : FL := fun vs h => match vs with
  | [.int i] => .ok (.int i) h
  | [.bl k] => .ok (.int (if k then 1 else 0)) h
  | _ => .no
theorem csInt : CallS g (fun xs H Q => (∃ i, xs = [.int i] ∧ Q (.int i) H) ∨ ∃ k, xs = [.bl k] ∧ Q (.int (if k then 1 else 0)) H) fInt := fun p h H vs xs Q R rvs G => by
  unfold fInt at G
  split at G
  · obtain ⟨x, rfl, rv⟩ := one rvs
    simp only [RV] at rv
    subst rv
    exact .inl ⟨_, rfl, G p H _ (.refl _ _) R rvInt⟩
  · obtain ⟨x, rfl, rv⟩ := one rvs
    simp only [RV] at rv
    subst rv
    exact .inr ⟨_, rfl, G p H _ (.refl _ _) R rvInt⟩
  · exact G.elim
/-- all, any of a list of truth values; sum of a list of ints -/
def blsOf : List Va → Option (List Bool)
  | [] => some []
  | .bl b :: r => (blsOf r).map (b :: ·)
  | _ :: _ => none
def intsOf : List Va → Option (List Int)
  | [] => some []
  | .int b :: r => (intsOf r).map (b :: ·)
  | _ :: _ => none
def strsOf : List Va → Option (List Str)
  | [] => some []
  | .str b :: r => (strsOf r).map (b :: ·)
  | _ :: _ => none
theorem blsOf_ok : ∀ {vs : List Va} {bs : List Bool} {xs : List V}, blsOf vs = some bs → RVs g p H vs xs → xs = bs.map V.bl
  | [], bs, xs, e, r => by simp only [blsOf, Option.some.injEq] at e; simp only [RVs] at r; subst e r; rfl
  | .bl b :: vs, bs, xs, e, r => by
    simp only [RVs, RV] at r
    obtain ⟨y, z, rfl, rfl, r2⟩ := r
    simp only [blsOf] at e
    cases q : blsOf vs with
    | none => rw [q] at e; cases e
    | some c => rw [q] at e; cases e; rw [blsOf_ok q r2]; rfl
  | .non :: vs, bs, xs, e, r => by simp [blsOf] at e
  | .int _ :: vs, bs, xs, e, r => by simp [blsOf] at e
  | .str _ :: vs, bs, xs, e, r => by simp [blsOf] at e
  | .tup _ :: vs, bs, xs, e, r => by simp [blsOf] at e
  | .ref _ :: vs, bs, xs, e, r => by simp [blsOf] at e
  | .scr :: vs, bs, xs, e, r => by simp [blsOf] at e
theorem intsOf_ok : ∀ {vs : List Va} {bs : List Int} {xs : List V}, intsOf vs = some bs → RVs g p H vs xs → xs = bs.map V.int
  | [], bs, xs, e, r => by simp only [intsOf, Option.some.injEq] at e; simp only [RVs] at r; subst e r; rfl
  | .int b :: vs, bs, xs, e, r => by
    simp only [RVs, RV] at r
    obtain ⟨y, z, rfl, rfl, r2⟩ := r
    simp only [intsOf] at e
    cases q : intsOf vs with
    | none => rw [q] at e; cases e
    | some c => rw [q] at e; cases e; rw [intsOf_ok q r2]; rfl
  | .non :: vs, bs, xs, e, r => by simp [intsOf] at e
  | .bl _ :: vs, bs, xs, e, r => by simp [intsOf] at e
  | .str _ :: vs, bs, xs, e, r => by simp [intsOf] at e
  | .tup _ :: vs, bs, xs, e, r => by simp [intsOf] at e
  | .ref _ :: vs, bs, xs, e, r => by simp [intsOf] at e
  | .scr :: vs, bs, xs, e, r => by simp [intsOf] at e
theorem strsOf_ok : ∀ {vs : List Va} {bs : List Str} {xs : List V}, strsOf vs = some bs → RVs g p H vs xs → xs = bs.map V.str
  | [], bs, xs, e, r => by simp only [strsOf, Option.some.injEq] at e; simp only [RVs] at r; subst e r; rfl
  | .str b :: vs, bs, xs, e, r => by
    simp only [RVs, RV] at r
    obtain ⟨y, z, rfl, rfl, r2⟩ := r
    simp only [strsOf] at e
    cases q : strsOf vs with
    | none => rw [q] at e; cases e
    | some c => rw [q] at e; cases e; rw [strsOf_ok q r2]; rfl
  | .non :: vs, bs, xs, e, r => by simp [strsOf] at e
  | .bl _ :: vs, bs, xs, e, r => by simp [strsOf] at e
  | .int _ :: vs, bs, xs, e, r => by simp [strsOf] at e
  | .tup _ :: vs, bs, xs, e, r => by simp [strsOf] at e
  | .ref _ :: vs, bs, xs, e, r => by simp [strsOf] at e
  | .scr :: vs, bs, xs, e, r => by simp [strsOf] at e
def fBls (k : List Bool → Bool) : FL := fun vs h => match vs with
  | [v] => match listAt h v with
    | some xs => match blsOf xs with
      | some bs => .ok (.bl (k bs)) h
      | none => .no
    | none => .no
  | _ => .no
theorem csBls {k : List Bool → Bool} : CallS g (fun vs H Q => ∃ (a : Addr) (bs : List Bool), vs = [V.ref a] ∧ SqL g.K H a (bs.map V.bl) ∧ Q (.bl (k bs)) H) (fBls k) := fun p h H vs xs Q R rvs G => by
  unfold fBls at G
  split at G
  · obtain ⟨x, rfl, rv⟩ := one rvs
    split at G
    · rename_i ys hl
      obtain ⟨a, zs, rfl, e2, e3⟩ := listAt_ok R rv hl
      split at G
      · rename_i bs hb
        rw [blsOf_ok hb e3] at e2
        exact ⟨a, bs, rfl, e2, G p H _ (.refl _ _) R rvBl⟩
      · exact G.elim
    · exact G.elim
  · exact G.elim
def fSum : FL := fun vs h => match vs with
  | [v] => match listAt h v with
    | some xs => match intsOf xs with
      | some bs => .ok (.int bs.sum) h
      | none => .no
    | none => .no
  | _ => .no
theorem csSum : CallS g (rSum g.K) fSum := fun p h H vs xs Q R rvs G => by
  unfold fSum at G
  split at G
  · obtain ⟨x, rfl, rv⟩ := one rvs
    split at G
    · rename_i ys hl
      obtain ⟨a, zs, rfl, e2, e3⟩ := listAt_ok R rv hl
      split at G
      · rename_i bs hb
        rw [intsOf_ok hb e3] at e2
        exact ⟨a, bs, rfl, e2, G p H _ (.refl _ _) R rvInt⟩
      · exact G.elim
    · exact G.elim
  · exact G.elim
/-! ### list, tuple, dict -/
def keysVa (ks : List (Va × Va)) : List Va := ks.map (·.1)
theorem RK.keysV : ∀ {ks : List (Va × Va)} {ys : List (Key × V)}, RK g p H ks ys → RVs g p H (keysVa ks) (ys.map fun kv => kV kv.1)
  | [], ys, r => by simp only [RK] at r; subst r; simp [keysVa, RVs]
  | a :: r, ys, z => by
    simp only [RK] at z
    obtain ⟨k1, y, s, rfl, e1, r1, r2⟩ := z
    have ih := RK.keysV r2
    simp only [keysVa, List.map_cons, RVs] at ih ⊢
    refine ⟨_, _, rfl, ?_, ih⟩
    rw [e1]
    cases k1 <;> simp [keyVa, kV, RV]
def fList : FL := fun vs h => match vs with
  | [.tup xs] => newO h (.lst xs)
  | [v] => match listAt h v with
    | some xs => newO h (.lst xs)
    | none => match dicAt h v with
      | some ks => newO h (.lst (keysVa ks))
      | none => .no
  | _ => .no
abbrev rListAll (K : PySem.W.Frag) : List V → Hp → VK → Prop := fun xs H Q => (∃ p ys, xs = [.ref p] ∧ (SqL K H p ys ∨ SqT K H p ys) ∧ ∀ l, H l = none → Q (.ref l) (upd H l (.lst ys))) ∨
    ∃ (a : Addr) (kvs : List (Key × V)), xs = [.ref a] ∧ Rd H a (.dK kvs) ∧ ∀ p, H p = none → Q (.ref p) (upd H p (.lst (kvs.map fun kv => kV kv.1)))
theorem listAll (hc : X.calm = true) : CallR X (.type "list") (rListAll X.K) := CallR.or call_list_of (call_listD hc)
theorem csList : CallS g (rListAll g.K) fList := fun p h H vs xs Q R rvs G => by
  unfold fList at G
  split at G
  · rename_i ys
    obtain ⟨x, rfl, rv⟩ := one rvs
    obtain ⟨a, zs, rfl, e2, e3⟩ := tupAt_ok rv
    exact .inl ⟨a, zs, rfl, .inr (.inl (.inl e2)), gv_new (o := .lst ys) R ⟨_, rfl, e3⟩ G⟩
  · obtain ⟨x, rfl, rv⟩ := one rvs
    split at G
    · rename_i ys hl
      obtain ⟨a, zs, rfl, e2, e3⟩ := listAt_ok R rv hl
      exact .inl ⟨a, zs, rfl, .inl e2, gv_new (o := .lst ys) R ⟨_, rfl, e3⟩ G⟩
    · split at G
      · rename_i ks hk
        obtain ⟨a, ys, rfl, e2, e3⟩ := dicAt_ok R rv hk
        exact .inr ⟨a, ys, rfl, e2, gv_new (o := .lst (keysVa ks)) R ⟨_, rfl, e3.keysV⟩ G⟩
      · exact G.elim
  · exact G.elim
def fDictOf : FL := fun vs h => match vs with
  | [v] => match dicAt h v with
    | some ks => newO h (.dic ks)
    | none => .no
  | _ => .no
theorem csDictOf : CallS g (fun xs H Q => ∃ (a : Addr) (kvs : List (Key × V)), xs = [.ref a] ∧ Rd H a (.dK kvs) ∧ ∀ p, H p = none → Q (.ref p) (upd H p (.dK kvs))) fDictOf := fun p h H vs xs Q R rvs G => by
  unfold fDictOf at G
  split at G
  · obtain ⟨x, rfl, rv⟩ := one rvs
    split at G
    · rename_i ks hk
      obtain ⟨a, ys, rfl, e2, e3⟩ := dicAt_ok R rv hk
      exact ⟨a, ys, rfl, e2, gv_new (o := .dic ks) R ⟨_, rfl, e3⟩ G⟩
    · exact G.elim
  · exact G.elim
/-! ### methods of lists -/
abbrev FM := Va → List Va → MH → Res Va
def MtS (g : Gb) (r : V → List V → Hp → VK → Prop) (f : FM) : Prop := ∀ p h H v x vs xs Q, RH g p h H → RV g p H v x → RVs g p H vs xs → GV g p H (f v vs h) Q → r x xs H Q
def mBM (f : FM) (mo : ME) (ms : MA) : ME := fun σ h => (mo σ h).bind fun v h1 => match listAt h1 v with
  | some _ => (ms σ h1).bind fun vs h2 => Plain (f v vs h2)
  | none => .no
theorem sBM {o e : Expr} {es : List Expr} {name : Str} {apos cpos : Pos} {id : String} {r : V → List V → Hp → VK → Prop} {f : FM} {mo : ME} {ms : MA} (hK : X.K = g.K) (slot : Slot "list" name id) (ty : typeOf (.builtin id) = pure (.type "method_descriptor")) (hm : MtR X id r) (hs : MtS g r f)
    (ho : SE g W X o mo) (ha : SA g W X (e :: es) ms) (h1 : attributeBase o name X.env (eval o X.env) = eval o X.env := by rfl)
    (h2 : ((backTo cpos (starEach (e :: es) X.env)).all (fun x => !x.1) && (backToKw cpos (keywordEach [] X.env)).all (fun x => x.1.isSome)
      && decide ((e :: es).length + ([] : List Keyword).length + (if ([] : List Keyword).isEmpty then 0 else 1) < 30)) = true := by rfl)
    (h3 : (apos.endLine == cpos.line) = true := by rfl) (h4 : starEach (e :: es) X.env = (false, eval e X.env) :: starEach es X.env := by rfl) (h5 : (backTo cpos (starEach es X.env)).any (·.1) = false := by rfl) :
    SE g W X (.Call (.Attribute o name apos) (e :: es) [] cpos) (mBM f mo ms) := by
  obtain ⟨ta, pa, ra⟩ := ho
  obtain ⟨tb, pb, rb⟩ := ha
  refine ⟨_, pe_bm PySem.F.plainAttrs_list slot ty hm pa pb h1 h2 h3 h4 h5, fun p H σm h σ Q R G => ?_⟩
  refine RdE.go ra R G fun p1 H1 v h1 x E1 R1 rv G1 => ?_
  cases q : listAt h1 v with
  | none => rw [q] at G1; exact G1.elim
  | some xs =>
    rw [q] at G1
    obtain ⟨a, ys, rfl, e2, e3⟩ := listAt_ok R1.h rv q
    refine ⟨.inl ⟨rfl, ys, by rw [hK]; exact e2⟩, ?_⟩
    refine RdA.go rb R1 G1 fun p2 H2 vs h2 xs E2 R2 rvs G2 => ?_
    exact hs p2 h2 H2 v _ vs xs Q R2.h (rv.ext E2) rvs (G2.plain R2)
def mBM0 (f : FM) (mo : ME) : ME := fun σ h => (mo σ h).bind fun v h1 => match listAt h1 v with
  | some _ => Plain (f v [] h1)
  | none => .no
theorem sBM0 {o : Expr} {name : Str} {apos cpos : Pos} {id : String} {r : V → List V → Hp → VK → Prop} {f : FM} {mo : ME} (hK : X.K = g.K) (slot : Slot "list" name id) (ty : typeOf (.builtin id) = pure (.type "method_descriptor")) (hm : MtR X id r) (hs : MtS g r f)
    (ho : SE g W X o mo) (h1 : attributeBase o name X.env (eval o X.env) = eval o X.env := by rfl) (h3 : (apos.endLine == cpos.line) = true := by rfl) : SE g W X (.Call (.Attribute o name apos) [] [] cpos) (mBM0 f mo) := by
  obtain ⟨ta, pa, ra⟩ := ho
  refine ⟨_, pe_bm0 PySem.F.plainAttrs_list slot ty hm pa h1 h3, fun p H σm h σ Q R G => ?_⟩
  refine RdE.go ra R G fun p1 H1 v h1 x E1 R1 rv G1 => ?_
  cases q : listAt h1 v with
  | none => rw [q] at G1; exact G1.elim
  | some xs =>
    rw [q] at G1
    obtain ⟨a, ys, rfl, e2, e3⟩ := listAt_ok R1.h rv q
    exact ⟨.inl ⟨rfl, ys, by rw [hK]; exact e2⟩, hs p1 h1 H1 v _ [] [] Q R1.h rv (by simp [RVs]) (G1.plain R1)⟩
def fAppend : FM := fun v vs h => match v, vs with
  | .ref i, [y] => match h.get i with
    | some (.lst xs) => if xs.length < sizeLine then .ok .non (h.put i (.lst (xs ++ [y]))) else .no
    | _ => .no
  | _, _ => .no
theorem msAppend : MtS g rAppend fAppend := fun p h H v x vs xs Q R rv rvs G => by
  unfold fAppend at G
  split at G
  · simp only [RV] at rv
    obtain ⟨a, rfl, hi⟩ := rv
    obtain ⟨y, rfl, ry⟩ := one rvs
    split at G
    · rename_i zs hg
      obtain ⟨b, ys, q1, q2, q3, q4⟩ := R.setL hg
      rw [hi] at q1; cases q1
      split at G
      · rename_i hl
        obtain ⟨E, R'⟩ := q4 _ _ (q3.append (show RVs g p H [_] [y] by simp only [RVs]; exact ⟨y, [], rfl, ry, rfl⟩))
        exact ⟨a, ys, y, rfl, rfl, q2, by rw [← q3.len]; exact hl, G p _ _ E R' rvNon⟩
      · exact G.elim
    · exact G.elim
  · exact G.elim
theorem RVs.dropLast : ∀ {v : List Va} {x : List V}, RVs g p H v x → RVs g p H v.dropLast x.dropLast := fun {v x} r => by
  rw [List.dropLast_eq_take, List.dropLast_eq_take, ← r.len]
  exact r.take _
theorem RVs.eraseIdx : ∀ {v : List Va} {x : List V} (k : Nat), RVs g p H v x → RVs g p H (v.eraseIdx k) (x.eraseIdx k)
  | [], x, k, r => by simp only [RVs] at r; subst r; simp [RVs]
  | v :: vs, x, 0, r => by
    simp only [RVs] at r
    obtain ⟨y, z, rfl, r1, r2⟩ := r
    simpa using r2
  | v :: vs, x, k + 1, r => by
    simp only [RVs] at r
    obtain ⟨y, z, rfl, r1, r2⟩ := r
    simp only [List.eraseIdx_cons_succ, RVs]
    exact ⟨y, _, rfl, r1, RVs.eraseIdx k r2⟩
def fPop : FM := fun v vs h => match v, vs with
  | .ref i, [] => match h.get i with
    | some (.lst xs) => match xs[xs.length - 1]? with
      | some y => .ok y (h.put i (.lst xs.dropLast))
      | none => .no
    | _ => .no
  | _, _ => .no
theorem msPop : MtS g rPop fPop := fun p h H v x vs xs Q R rv rvs G => by
  unfold fPop at G
  split at G
  · simp only [RV] at rv
    obtain ⟨a, rfl, hi⟩ := rv
    simp only [RVs] at rvs
    subst rvs
    split at G
    · rename_i zs hg
      obtain ⟨b, ys, q1, q2, q3, q4⟩ := R.setL hg
      rw [hi] at q1; cases q1
      split at G
      · rename_i y hy
        obtain ⟨w, hw, rw_⟩ := q3.get hy
        obtain ⟨E, R'⟩ := q4 _ _ q3.dropLast
        exact ⟨a, ys, w, rfl, rfl, q2, by rw [← q3.len]; exact hw, G p _ _ E R' (rw_.ext E)⟩
      · exact G.elim
    · exact G.elim
  · exact G.elim
def fPopAt : FM := fun v vs h => match v, vs with
  | .ref i, [.int k] => match h.get i with
    | some (.lst xs) => if -(2 ^ 63) ≤ k ∧ k < 2 ^ 63 then match seqIndex? k xs.length with
      | some j => match xs[j]? with
        | some y => .ok y (h.put i (.lst (xs.eraseIdx j)))
        | none => .no
      | none => .no
      else .no
    | _ => .no
  | _, _ => .no
theorem msPopAt : MtS g rPopAt fPopAt := fun p h H v x vs xs Q R rv rvs G => by
  unfold fPopAt at G
  split at G
  · simp only [RV] at rv
    obtain ⟨a, rfl, hi⟩ := rv
    obtain ⟨y0, rfl, ry⟩ := one rvs
    simp only [RV] at ry
    subst ry
    split at G
    · rename_i zs hg
      obtain ⟨b, ys, q1, q2, q3, q4⟩ := R.setL hg
      rw [hi] at q1; cases q1
      split at G
      · rename_i hk
        split at G
        · rename_i j hj
          split at G
          · rename_i y hy
            obtain ⟨w, hw, rw_⟩ := q3.get hy
            obtain ⟨E, R'⟩ := q4 _ _ (q3.eraseIdx j)
            exact ⟨a, ys, _, j, w, rfl, rfl, q2, hk.1, hk.2, by rw [← q3.len]; exact hj, hw, G p _ _ E R' (rw_.ext E)⟩
          · exact G.elim
        · exact G.elim
      · exact G.elim
    · exact G.elim
  · exact G.elim
end
end Mn
end

section
/-! Mini: statements, targets, loops. -/
namespace Mn
open PySem L2
section
variable {g : Gb} {W : WX} {X : Cx} {p p1 p' : List Addr} {H H1 H' : Hp} {σm : MS} {σ : St} {h h1 : MH} {Q : VK} {D : Ends}
/-- from an expression's run to a statement's -/
def Res.toS {α : Type} (r : Res α) (σ : MS) (f : α → MH → SR) : SR := match r with
  | .ok a h => f a h
  | .ex c fs h => .ex c fs σ h
  | .no => .no
theorem RdE.goS {t : TE} {m : ME} (S : RdE g W t m) (R : Rel g p H σm h σ) {k : Va → MH → SR} {Q' : VK} (G : GS g W p H ((m σm h).toS σm k) D)
    (hk : ∀ p1 H1 v h1 x, Ext p H p1 H1 → Rel g p1 H1 σm h1 σ → RV g p1 H1 v x → GS g W p1 H1 (k v h1) D → Q' x H1) : t σ H Q' := by
  refine S p H σm h σ _ R ?_
  cases e : m σm h with
  | no => rw [e] at G; exact G
  | ex c fs h' => rw [e] at G; exact fun p1 H1 d E1 R1 xd => G p1 H1 σ d E1 R1 xd
  | ok v h' => rw [e] at G; exact fun p1 H1 x E1 R1 rv => hk p1 H1 v h' x E1 R1 rv (G.mono E1)
theorem RdT.goS {t : TT} {m : MB} (S : RdT g W t m) (R : Rel g p H σm h σ) {k : Bool → MH → SR} {Q' : Bool → Hp → Prop} (G : GS g W p H ((m σm h).toS σm k) D)
    (hk : ∀ p1 H1 b h1, Ext p H p1 H1 → Rel g p1 H1 σm h1 σ → GS g W p1 H1 (k b h1) D → Q' b H1) : t σ H Q' := by
  refine S p H σm h σ _ R ?_
  cases e : m σm h with
  | no => rw [e] at G; exact G
  | ex c fs h' => rw [e] at G; exact fun p1 H1 d E1 R1 xd => G p1 H1 σ d E1 R1 xd
  | ok v h' => rw [e] at G; exact fun p1 H1 E1 R1 => hk p1 H1 v h' E1 R1 (G.mono E1)
theorem RdA.goS {t : TA} {m : MA} (S : RdA g W t m) (R : Rel g p H σm h σ) {k : List Va → MH → SR} {Q' : List V → Hp → Prop} (G : GS g W p H ((m σm h).toS σm k) D)
    (hk : ∀ p1 H1 v h1 x, Ext p H p1 H1 → Rel g p1 H1 σm h1 σ → RVs g p1 H1 v x → GS g W p1 H1 (k v h1) D → Q' x H1) : t σ H Q' := by
  refine S p H σm h σ _ R ?_
  cases e : m σm h with
  | no => rw [e] at G; exact G
  | ex c fs h' => rw [e] at G; exact fun p1 H1 d E1 R1 xd => G p1 H1 σ d E1 R1 xd
  | ok v h' => rw [e] at G; exact fun p1 H1 x E1 R1 rv => hk p1 H1 v h' x E1 R1 rv (G.mono E1)
abbrev RdS (g : Gb) (W : WX) (t : TS) (m : MT) : Prop := ∀ p H σm h σ D, Rel g p H σm h σ → GS g W p H (m σm h) D → t D σ H
/-! ### blocks -/
def mSkip : MT := fun σ h => .nx σ h
def mSeq (a b : MT) : MT := fun σ h => match a σ h with
  | .nx σ' h' => b σ' h'
  | r => r
theorem bNil : SB g W X [] mSkip := ⟨_, pss_nil, fun p H σm h σ D R G => G p H σ (.refl _ _) R⟩
theorem bCons {st : Stmt} {rest : List Stmt} {a b : MT} (ha : SS g W X st a) (hb : SB g W X rest b) : SB g W X (st :: rest) (mSeq a b) := by
  obtain ⟨ta, pa, ra⟩ := ha
  obtain ⟨tb, pb, rb⟩ := hb
  refine ⟨_, pss_cons pa pb, fun p H σm h σ D R G => ?_⟩
  refine ra p H σm h σ _ R ?_
  unfold mSeq at G
  cases e : a σm h with
  | nx s' h' => rw [e] at G; exact fun p' H' σ' E' R' => rb p' H' s' h' σ' D R' (G.mono E')
  | rt v h' => rw [e] at G; exact G
  | bk s' h' => rw [e] at G; exact G
  | ct s' h' => rw [e] at G; exact G
  | ex c fs s' h' => rw [e] at G; exact G
  | no => rw [e] at G; exact G
theorem bOne {st : Stmt} {a : MT} (ha : SS g W X st a) : SB g W X [st] a := let ⟨t, h1, h2⟩ := ha; ⟨t, pss_one h1, h2⟩
def mNever : MT := fun _ _ => .no
theorem cNever {st : Stmt} : SS g W X st mNever := ⟨_, ps_never, fun p H σm h σ D R G => G.elim⟩
theorem cPass {pos : Pos} : SS g W X (.Pass pos) mSkip := ⟨_, ps_pass, fun p H σm h σ D R G => G p H σ (.refl _ _) R⟩
/-! ### expressions as statements, return -/
def mExpr (m : ME) : MT := fun σ h => (m σ h).toS σ fun _ h1 => .nx σ h1
theorem cExpr {e : Expr} {m : ME} {pos : Pos} (he : SE g W X e m) (hs : swapsWith e none pos.line X.env = pure false := by rfl) : SS g W X (.Expr e pos) (mExpr m) := by
  obtain ⟨ta, pa, ra⟩ := he
  refine ⟨_, ps_expr pa hs, fun p H σm h σ D R G => ?_⟩
  exact RdE.goS ra R G fun p1 H1 v h1 x E1 R1 rv G1 => G1 p1 H1 σ (.refl _ _) R1
def mRet (m : ME) : MT := fun σ h => (m σ h).toS σ fun v h1 => .rt v h1
theorem cRet {e : Expr} {m : ME} {pos : Pos} (he : SE g W X e m) : SS g W X (.Return (some e) pos) (mRet m) := by
  obtain ⟨ta, pa, ra⟩ := he
  refine ⟨_, ps_ret pa, fun p H σm h σ D R G => ?_⟩
  exact RdE.goS ra R G fun p1 H1 v h1 x E1 R1 rv G1 => G1 p1 H1 x (.refl _ _) R1.h rv
def mRetN : MT := fun _ h => .rt .non h
theorem cRetN {pos : Pos} : SS g W X (.Return none pos) mRetN := ⟨_, ps_retN, fun p H σm h σ D R G => G p H .non (.refl _ _) R.h rvNon⟩
/-! ### if -/
def mIfS (c : MB) (a b : MT) : MT := fun σ h => (c σ h).toS σ fun k h1 => match k with
  | true => a σ h1
  | false => b σ h1
theorem cIf {c : Expr} {a b : List Stmt} {mc : MB} {ma mb : MT} {pos : Pos} (hc : ST g W X c mc) (ha : SB g W X a ma) (hb : SB g W X b mb) : SS g W X (.If c a b pos) (mIfS mc ma mb) := by
  obtain ⟨tc, pc, rc⟩ := hc
  obtain ⟨ta, pa, ra⟩ := ha
  obtain ⟨tb, pb, rb⟩ := hb
  refine ⟨_, ps_if pc pa pb, fun p H σm h σ D R G => ?_⟩
  refine RdT.goS rc R G fun p1 H1 k h1 E1 R1 G1 => ?_
  cases k with
  | true => exact ra p1 H1 σm h1 σ D R1 G1
  | false => exact rb p1 H1 σm h1 σ D R1 G1
/-! ### targets -/
abbrev MG := Va → MT
def DN (Q : St → Hp → Prop) : Ends := { nx := Q, rt := fun _ _ => False }
abbrev RdG (g : Gb) (W : WX) (t : TG) (m : MG) : Prop := ∀ p H σm h σ v x Q, Rel g p H σm h σ → RV g p H v x → GS g W p H (m v σm h) (DN Q) → t x σ H Q
def SG (g : Gb) (W : WX) (X : Cx) (tg : Expr) (m : MG) : Prop := ∃ t, PG X tg t ∧ RdG g W t m
def mgName (i : Nat) : MG := fun v σ h => .nx (σ.set i (some v)) h
theorem rd_name {i : Nat} : RdG g W (gName i) (mgName i) := fun p H σm h σ v x Q R rv G => G p H _ (.refl _ _) ⟨R.h, R.s.set rv⟩
theorem gSet {i : Nat} {x : Str} {pos : Pos} (hN : X.N.Nodup) (hi : X.N[i]? = some x := by rfl) (hx : Loc X.env.scope x := by first | exact .inl rfl | exact .inr rfl) (hf : X.fn x = true ∨ X.env.scope.names.lookup x = some .local := by first | exact .inl rfl | exact .inr rfl) :
    SG g W X (.Name x pos) (mgName i) := ⟨_, pg_name hN hi hx hf, rd_name⟩
abbrev MGs := List Va → MT
def SGs (g : Gb) (W : WX) (X : Cx) (tgs : List Expr) (m : MGs) : Prop := ∃ t, PGs X tgs t ∧ ∀ p H σm h σ v x Q, Rel g p H σm h σ → RVs g p H v x → GS g W p H (m v σm h) (DN Q) → t x σ H Q
def mgNil : MGs := fun vs σ h => match vs with
  | [] => .nx σ h
  | _ => .no
def mgCons (a : MG) (b : MGs) : MGs := fun vs σ h => match vs with
  | v :: r => mSeq (a v) (b r) σ h
  | [] => .no
theorem gNil' : SGs g W X [] mgNil := ⟨_, pgs_nil, fun p H σm h σ v x Q R rv G => by
  cases v with
  | nil => simp only [RVs] at rv; exact ⟨rv, G p H σ (.refl _ _) R⟩
  | cons a b => exact G.elim⟩
theorem gCons' {e : Expr} {es : List Expr} {a : MG} {b : MGs} (ha : SG g W X e a) (hb : SGs g W X es b)
    (hs : (assignEach (e :: es) X.env).map (·.2) = assign e X.env :: (assignEach es X.env).map (·.2) := by rfl) : SGs g W X (e :: es) (mgCons a b) := by
  obtain ⟨ta, pa, ra⟩ := ha
  obtain ⟨tb, pb, rb⟩ := hb
  refine ⟨_, pgs_cons pa pb hs, fun p H σm h σ v x Q R rv G => ?_⟩
  cases v with
  | nil => exact G.elim
  | cons v r =>
    simp only [RVs] at rv
    obtain ⟨y, z, rfl, r1, r2⟩ := rv
    refine ⟨y, z, rfl, ra p H σm h σ v y _ R r1 ?_⟩
    simp only [mgCons, mSeq] at G
    cases e : a v σm h with
    | nx s' h' => simp only [e] at G; exact fun p' H' σ' E' R' => rb p' H' s' h' σ' r z Q R' (RVs.ext E' _ _ r2) (G.mono E')
    | rt v h' => simp only [e] at G; exact G
    | bk s' h' => simp only [e] at G; exact G
    | ct s' h' => simp only [e] at G; exact G
    | ex c fs s' h' => simp only [e] at G; exact G
    | no => simp only [e] at G; exact G
def mgTup (n : Nat) (ms : MGs) : MG := fun v σ h => match v with
  | .tup xs => if xs.length = n then ms xs σ h else .no
  | _ => .no
theorem gTup' {es : List Expr} {k n : Nat} {pos : Pos} {ms : MGs} (hK : X.K = g.K) (hc : X.calm = true) (hs : SGs g W X es ms) (hn : (assignEach es X.env).length = n := by rfl) (hst : (assignEach es X.env).findIdx? (·.1) = none := by rfl) : SG g W X (.Tuple es k pos) (mgTup n ms) := by
  obtain ⟨t, pa, ra⟩ := hs
  refine ⟨_, pg_tup hc pa hn hst, fun p H σm h σ v x Q R rv G => ?_⟩
  unfold mgTup at G
  split at G
  · rename_i xs
    obtain ⟨a, ys, e1, e2, e3⟩ := tupAt_ok rv
    split at G
    · rename_i hl
      exact ⟨a, ys, e1, .inl (.inl e2), by rw [← e3.len]; exact hl, ra p H σm h σ xs ys Q R e3 G⟩
    · exact G.elim
  · exact G.elim
/-! ### assignments -/
def mAsg (m : ME) (gt : MG) : MT := fun σ h => (m σ h).toS σ fun v h1 => gt v σ h1
theorem GS.toDN {r : SR} (G : GS g W p H r D) (hr : ∀ v h', r ≠ .rt v h') (hb : ∀ v h', r ≠ .bk v h') (hc : ∀ v h', r ≠ .ct v h') : GS g W p H r (DN D.nx) := by
  cases r with
  | nx s' h' => exact G
  | rt v h' => exact absurd rfl (hr v h')
  | bk v h' => exact absurd rfl (hb v h')
  | ct v h' => exact absurd rfl (hc v h')
  | ex c fs s' h' => exact G
  | no => exact G
/-- a target's run only goes on (or lets out) -/
def Onw (r : SR) : SR := match r with
  | .nx s h => .nx s h
  | .ex c fs s h => .ex c fs s h
  | _ => .no
theorem GS.onw {r : SR} (G : GS g W p H (Onw r) D) : GS g W p H r (DN D.nx) := by
  cases r with
  | nx s' h' => exact G
  | ex c fs s' h' => exact G
  | rt v h' => exact G.elim
  | bk v h' => exact G.elim
  | ct v h' => exact G.elim
  | no => exact G.elim
def mAsgG (m : ME) (gt : MG) : MT := fun σ h => (m σ h).toS σ fun v h1 => Onw (gt v σ h1)
theorem rd_asg {te : TE} {m : ME} {t : TG} {gt : MG} (ra : RdE g W te m) (rt : RdG g W t gt) : RdS g W (tAsg te t) (mAsgG m gt) := fun p H σm h σ D R G => by
  refine RdE.goS ra R G fun p1 H1 v h1 x E1 R1 rv G1 => ?_
  exact rt p1 H1 σm h1 σ v x D.nx R1 rv G1.onw
def mSet (i : Nat) (m : ME) : MT := fun σ h => (m σ h).toS σ fun v h1 => .nx (σ.set i (some v)) h1
theorem rd_set {te : TE} {m : ME} {i : Nat} (ra : RdE g W te m) : RdS g W (tAsg te (gName i)) (mSet i m) := fun p H σm h σ D R G => by
  refine RdE.goS ra R G fun p1 H1 v h1 x E1 R1 rv G1 => ?_
  exact G1 p1 H1 _ (.refl _ _) ⟨R1.h, R1.s.set rv⟩
theorem cSet {i : Nat} {x : Str} {e : Expr} {m : ME} {pos pos' : Pos} (hN : X.N.Nodup) (he : SE g W X e m) (hi : X.N[i]? = some x := by rfl) (hx : Loc X.env.scope x := by first | exact .inl rfl | exact .inr rfl)
    (hs : swapsWith e (some (.Name x pos')) pos.line X.env = pure false := by rfl) (hf : X.fn x = true ∨ X.env.scope.names.lookup x = some .local := by first | exact .inl rfl | exact .inr rfl) :
    SS g W X (.Assign [.Name x pos'] e pos) (mSet i m) := by
  obtain ⟨te, pe, re⟩ := he
  exact ⟨_, ps_set hN hi hx pe hs hf, rd_set re⟩
theorem cAsg {tg e : Expr} {m : ME} {gt : MG} {pos : Pos} (he : SE g W X e m) (hg : SG g W X tg gt) (hs : swapsWithSole [tg] e pos.line X.env = pure false := by rfl) (hw : swappedStores [tg] e X.env = pure none := by rfl)
    (h1 : (assignEach [tg] X.env).map (·.2) = [assign tg X.env] := by rfl) : SS g W X (.Assign [tg] e pos) (mAsgG m gt) := by
  obtain ⟨te, pe, re⟩ := he
  obtain ⟨t, pg, rg⟩ := hg
  exact ⟨_, ps_asg pe pg hs hw h1, rd_asg re rg⟩
/-- a, b = e1, e2 -/
def mPar (i j : Nat) (ms : MA) : MT := fun σ h => (ms σ h).toS σ fun vs h1 => match vs with
  | [v, w] => .nx ((σ.set i (some v)).set j (some w)) h1
  | _ => .no
theorem cPar {i j : Nat} {x y : Str} {a b : Expr} {ms : MA} {px py pt pt2 pos : Pos} {kt k2 : Nat} (hc : X.calm = true) (hN : X.N.Nodup) (ha : SA g W X [a, b] ms) (hi : X.N[i]? = some x := by rfl) (hj : X.N[j]? = some y := by rfl) (hij : i ≠ j := by decide)
    (hx : X.env.scope.names.lookup x = some .local := by rfl) (hy : X.env.scope.names.lookup y = some .local := by rfl)
    (hw : swappedStores [.Tuple [.Name x px, .Name y py] kt pt] (.Tuple [a, b] k2 pt2) X.env = pure (some [x, y]) := by rfl) (hs : swapsWithSole [.Tuple [.Name x px, .Name y py] kt pt] (.Tuple [a, b] k2 pt2) pos.line X.env = pure false := by rfl) :
    SS g W X (.Assign [.Tuple [.Name x px, .Name y py] kt pt] (.Tuple [a, b] k2 pt2) pos) (mPar i j ms) := by
  obtain ⟨t, pa, ra⟩ := ha
  refine ⟨_, ps_par hc hN hi hj hij hx hy pa hw hs, fun p H σm h σ D R G => ?_⟩
  refine RdA.goS ra R G fun p1 H1 vs h1 xs E1 R1 rvs G1 => ?_
  split at G1
  · obtain ⟨u, w, rfl, r1, r2⟩ := two rvs
    exact ⟨u, w, rfl, G1 p1 H1 _ (.refl _ _) ⟨R1.h, (R1.s.set r1).set r2⟩⟩
  · exact G1.elim
def mPar3 (i j l : Nat) (ms : MA) : MT := fun σ h => (ms σ h).toS σ fun vs h1 => match vs with
  | [v, w, u] => .nx (((σ.set i (some v)).set j (some w)).set l (some u)) h1
  | _ => .no
theorem three {xs : List V} {v u w : Va} (r : RVs g p H [v, u, w] xs) : ∃ x y z, xs = [x, y, z] ∧ RV g p H v x ∧ RV g p H u y ∧ RV g p H w z := by
  simp only [RVs] at r
  obtain ⟨y, z, rfl, r1, y2, z2, rfl, r2, y3, z3, rfl, r3, r4⟩ := r
  subst r4
  exact ⟨y, y2, y3, rfl, r1, r2, r3⟩
theorem cPar3 {i j l : Nat} {x y z : Str} {a b c : Expr} {ms : MA} {px py pz pt pt2 pos : Pos} {kt k2 : Nat} (hc : X.calm = true) (hN : X.N.Nodup) (ha : SA g W X [a, b, c] ms) (hi : X.N[i]? = some x := by rfl) (hj : X.N[j]? = some y := by rfl) (hl : X.N[l]? = some z := by rfl)
    (hij : i ≠ j := by decide) (hil : i ≠ l := by decide) (hjl : j ≠ l := by decide)
    (hx : X.env.scope.names.lookup x = some .local := by rfl) (hy : X.env.scope.names.lookup y = some .local := by rfl) (hz : X.env.scope.names.lookup z = some .local := by rfl)
    (hw : swappedStores [.Tuple [.Name x px, .Name y py, .Name z pz] kt pt] (.Tuple [a, b, c] k2 pt2) X.env = pure (some [x, y, z]) := by rfl) (hs : swapsWithSole [.Tuple [.Name x px, .Name y py, .Name z pz] kt pt] (.Tuple [a, b, c] k2 pt2) pos.line X.env = pure false := by rfl) :
    SS g W X (.Assign [.Tuple [.Name x px, .Name y py, .Name z pz] kt pt] (.Tuple [a, b, c] k2 pt2) pos) (mPar3 i j l ms) := by
  obtain ⟨t, pa, ra⟩ := ha
  refine ⟨_, ps_par3 hc hN hi hj hl hij hil hjl hx hy hz pa hw hs, fun p H σm h σ D R G => ?_⟩
  refine RdA.goS ra R G fun p1 H1 vs h1 xs E1 R1 rvs G1 => ?_
  split at G1
  · obtain ⟨u, w, v, rfl, r1, r2, r3⟩ := three rvs
    exact ⟨u, w, v, rfl, G1 p1 H1 _ (.refl _ _) ⟨R1.h, ((R1.s.set r1).set r2).set r3⟩⟩
  · exact G1.elim
/-! ### o[i] = e -/
def fStore : Va → Va → Va → MH → Option MH := fun v o k h => match o with
  | .ref i => match h.get i with
    | some (.lst xs) => match k with
      | .int n => match ixN xs.length n with
        | some j => some (h.put i (.lst (xs.set j v)))
        | none => none
      | _ => none
    | some (.dic ks) => match keyOf k with
      | some _ => if ks.length < sizeLine then some (h.put i (.dic (put ks k v))) else none
      | none => none
    | _ => none
  | _ => none
def mStore (mv mo mk : ME) : MT := fun σ h => (mv σ h).toS σ fun v h1 => (mo σ h1).toS σ fun o h2 => (mk σ h2).toS σ fun k h3 => match fStore v o k h3 with
  | some h4 => .nx σ h4
  | none => .no
def isDicS (mv mo mk : ME) (σ : MS) (h : MH) : Bool := match mv σ h with
  | .ok _ h1 => match mo σ h1 with
    | .ok o h2 => match mk σ h2 with
      | .ok _ h3 => (dicAt h3 o).isSome
      | _ => false
    | _ => false
  | _ => false
theorem ps_or {st : Stmt} {t u : TS} (a : PS X st t) (b : PS X st u) : PS X st (fun D σ H => t D σ H ∨ u D σ H) := ⟨fun pins s σ H D I h => by
  rcases h with h | h
  · exact a.run pins s σ H D I h
  · exact b.run pins s σ H D I h⟩
theorem RdE.goSE {t : TE} {m : ME} (S : RdE g W t m) (R : Rel g p H σm h σ) {k : Va → MH → SR} {Q' : VK} (G : GS g W p H ((m σm h).toS σm k) D)
    (hk : ∀ p1 H1 v h1 x, m σm h = .ok v h1 → Ext p H p1 H1 → Rel g p1 H1 σm h1 σ → RV g p1 H1 v x → GS g W p1 H1 (k v h1) D → Q' x H1) : t σ H Q' := by
  refine S p H σm h σ _ R ?_
  cases e : m σm h with
  | no => rw [e] at G; exact G
  | ex c fs h' => rw [e] at G; exact fun p1 H1 d E1 R1 xd => G p1 H1 σ d E1 R1 xd
  | ok v h' => rw [e] at G; exact fun p1 H1 x E1 R1 rv => hk p1 H1 v h' x e E1 R1 rv (G.mono E1)
theorem cStore {o i value : Expr} {mv mo mk : ME} {pos pos' : Pos} (hu : X.A.units + 1 < cLine) (hv : SE g W X value mv) (ho : SE g W X o mo) (hi : SE g W X i mk) (hs : swapsWith value (some (.Subscript o i pos')) pos.line X.env = pure false := by rfl)
    (hs1 : swapsWithSole [.Subscript o i pos'] value pos.line X.env = pure false := by rfl) (hw : swappedStores [.Subscript o i pos'] value X.env = pure none := by rfl)
    (h1 : (assignEach [.Subscript o i pos'] X.env).map (·.2) = [assign (.Subscript o i pos') X.env] := by rfl)
    (h2 : ∀ v : Value, assign (.Subscript o i pos') X.env v = (do
      let ov ← holding [v] (eval o X.env)
      let iv ← holding [v, ov] (eval i X.env)
      standAt pos'
      holding [v, ov, iv] (setItem ov iv v)
      release [v, ov, iv] []) := by intro _; rfl) : SS g W X (.Assign [.Subscript o i pos'] value pos) (mStore mv mo mk) := by
  obtain ⟨tv, pv, rv⟩ := hv
  obtain ⟨to, po, ro⟩ := ho
  obtain ⟨tk, pk, rk⟩ := hi
  refine ⟨_, ps_or (ps_asg pv (pg_sub po pk set_list h2) hs1 hw h1) (ps_dput hu po pk pv hs), fun p H σm h σ D R G => ?_⟩
  cases q : isDicS mv mo mk σm h with
  | false =>
    refine .inl ?_
    refine RdE.goSE rv R G fun p1 H1 v h1 x e1 E1 R1 rvx G1 => ?_
    refine RdE.goSE ro R1 G1 fun p2 H2 ov h2 y e2 E2 R2 rvy G2 => ?_
    refine RdE.goSE rk R2 G2 fun p3 H3 kv h3 z e3 E3 R3 rvz G3 => ?_
    simp only [isDicS, e1, e2, e3] at q
    unfold fStore at G3
    cases ov with
    | ref j =>
      have rvy' := rvy.ext E3
      simp only [RV] at rvy'
      obtain ⟨a, rfl, hj⟩ := rvy'
      simp only at G3
      cases hg : h3.get j with
      | none => rw [hg] at G3; exact G3.elim
      | some ob =>
        rw [hg] at G3
        cases ob with
        | lst xs =>
          simp only at G3
          cases kv with
          | int n =>
            simp only at G3
            simp only [RV] at rvz
            cases hx : ixN xs.length n with
            | none => rw [hx] at G3; exact G3.elim
            | some j' =>
              rw [hx] at G3
              obtain ⟨b, ys, q1, q2, q3, q4⟩ := R3.h.setL hg
              rw [hj] at q1; cases q1
              obtain ⟨E4, R4⟩ := q4 _ _ (RVs.set (rvx.ext (E2.trans E3)) (i := j') q3)
              exact ⟨a, ys, n, j', rfl, rvz, q2, by rw [← q3.len]; exact hx, G3 p3 _ _ E4 ⟨R4, R3.s.ext E4⟩⟩
          | _ => exact G3.elim
        | dic ks => simp only [dicAt, hg] at q; cases q
        | _ => exact G3.elim
    | _ => exact G3.elim
  | true =>
    refine .inr ?_
    refine RdE.goSE rv R G fun p1 H1 v h1 x e1 E1 R1 rvx G1 => ?_
    refine RdE.goSE ro R1 G1 fun p2 H2 ov h2 y e2 E2 R2 rvy G2 => ?_
    refine RdE.goSE rk R2 G2 fun p3 H3 kv h3 z e3 E3 R3 rvz G3 => ?_
    unfold fStore at G3
    simp only [isDicS, e1, e2, e3] at q
    cases ov with
    | ref j =>
      have rvy' := rvy.ext E3
      simp only [RV] at rvy'
      obtain ⟨a, rfl, hj⟩ := rvy'
      simp only at G3
      cases hg : h3.get j with
      | none => rw [hg] at G3; exact G3.elim
      | some ob =>
        rw [hg] at G3
        cases ob with
        | dic ks =>
          simp only at G3
          cases hk : keyOf kv with
          | none => rw [hk] at G3; exact G3.elim
          | some k =>
            rw [hk] at G3
            simp only at G3
            by_cases hl : ks.length < sizeLine
            · rw [if_pos hl] at G3
              obtain ⟨b, ys, q1, q2, q3, q4⟩ := R3.h.setD hg
              rw [hj] at q1; cases q1
              obtain ⟨E4, R4⟩ := q4 _ _ (put_ok hk (rvx.ext (E2.trans E3)) q3)
              exact ⟨a, _, rfl, .inl ⟨ys, k, q2, keyOf_kV hk rvz, by rw [← q3.len]; exact hl, rfl⟩, G3 p3 _ _ E4 ⟨R4, R3.s.ext E4⟩⟩
            · rw [if_neg hl] at G3
              exact G3.elim
        | lst xs => simp only [dicAt, hg] at q; cases q
        | _ => exact G3.elim
    | _ => exact G3.elim
/-! ### while -/
def mWhile (c : MB) (b : MT) (n : Nat) : MT := fun σ h => match n with
  | 0 => .no
  | n + 1 => (c σ h).toS σ fun k h1 => match k with
    | false => .nx σ h1
    | true => match b σ h1 with
      | .nx σ' h' => mWhile c b n σ' h'
      | .ct σ' h' => mWhile c b n σ' h'
      | .bk σ' h' => .nx σ' h'
      | r => r
theorem cWhile {c : Expr} {body : List Stmt} {mc : MB} {mb : MT} {pos : Pos} (n : Nat) (hp : PassesOwn (model X.prog X.w) X.A X.env X.xe) (hc : ST g W X c mc) (hb : SB g W X body mb) : SS g W X (.While c body [] pos) (mWhile mc mb n) := by
  obtain ⟨tc, pc, rc⟩ := hc
  obtain ⟨tb, pb, rb⟩ := hb
  refine ⟨_, ps_while hp pc pb, fun p H σm h σ D R G => ?_⟩
  refine ⟨fun m σ1 H1 => ∃ p1 s1 h1, Rel g p1 H1 s1 h1 σ1 ∧ GS g W p1 H1 (mWhile mc mb m s1 h1) D, ⟨n, p, σm, h, R, G⟩, ?_⟩
  rintro m σ1 H1 ⟨p1, s1, h1, R1, G1⟩
  cases m with
  | zero => exact G1.elim
  | succ m =>
    unfold mWhile at G1
    refine RdT.goS rc R1 G1 fun p2 H2 k h2 E2 R2 G2 => ?_
    cases k with
    | false => exact G2 p2 H2 σ1 (.refl _ _) R2
    | true =>
      refine ⟨fun σ' H' => ∃ p1 s1 h1, Rel g p1 H' s1 h1 σ' ∧ GS g W p1 H' (mWhile mc mb m s1 h1) D, fun σ' H' q => ⟨m, Nat.lt_succ_self m, q⟩, ?_⟩
      refine rb p2 H2 s1 h2 σ1 _ R2 ?_
      cases e : mb s1 h2 with
      | nx s' h' => simp only [e] at G2; exact fun p' H' σ' E' R' => ⟨p', s', h', R', G2.mono E'⟩
      | ct s' h' => simp only [e] at G2; exact fun p' H' σ' E' R' => ⟨p', s', h', R', G2.mono E'⟩
      | bk s' h' => simp only [e] at G2; exact G2
      | rt v h' => simp only [e] at G2; exact G2
      | ex c fs s' h' => simp only [e] at G2; exact G2
      | no => simp only [e] at G2; exact G2
end
end Mn
end

section
/-! Mini: what is walked; for; comprehensions. -/
namespace Mn
open PySem L2
/-- what a loop walks -/
inductive IT where
  | lst (v : Va)
  | tup (xs : List Va)
  | rng (lo : Int) (n : Nat)
  | str (cs : List Nat)
  | keys (ks : List (Va × Va))
  | vals (ks : List (Va × Va))
  | items (ks : List (Va × Va))
  | enum (v : Va)
  | zip (a b : Va)
/-- the i-th item: not known, none left, this one -/
def IT.at (it : IT) (i : Nat) (h : MH) : Option (Option Va) := match it with
  | .lst v => (listAt h v).map fun xs => xs[i]?
  | .tup xs => some xs[i]?
  | .rng lo n => some (cond (Nat.blt i n) (some (.int (lo + i))) none)
  | .str cs => some (cs[i]?.map fun c => .str ⟨#[c]⟩)
  | .keys ks => some (ks[i]?.map fun kv => kv.1)
  | .vals ks => some (ks[i]?.map fun kv => kv.2)
  | .items ks => some (ks[i]?.map fun kv => .tup [kv.1, kv.2])
  | .enum v => (listAt h v).map fun xs => xs[i]?.map fun x => .tup [.int i, x]
  | .zip a b => match listAt h a, listAt h b with
    | some xs, some ys => some (match xs[i]?, ys[i]? with
      | some x, some y => some (.tup [x, y])
      | _, _ => none)
    | _, _ => none
section
variable {g : Gb} {W : WX} {X : Cx} {p p1 p' : List Addr} {H H1 H' : Hp} {σm : MS} {σ : St} {h h1 : MH} {Q : VK} {D : Ends}
/-- a new tuple, without a frame -/
theorem RH.tup {vs : List Va} {xs : List V} {a : Addr} (R : RH g p h H) (rv : RVs g p H vs xs) (hn : H a = none) : Ext p H p (upd H a (.tup xs)) ∧ RH g p h (upd H a (.tup xs)) ∧ RV g p (upd H a (.tup xs)) (.tup vs) (.ref a) := by
  obtain ⟨E, R', r⟩ := Rel.tup (σm := []) (σ := []) ⟨R, ⟨rfl, fun i v z => by simp at z⟩⟩ rv hn
  exact ⟨E, R'.h, r⟩
/-- the small walk and the layer's -/
def ItOk (g : Gb) (p0 : List Addr) (H0 : Hp) (it : IT) (J : It) : Prop := ∀ p H h i, Ext p0 H0 p H → RH g p h H → match it.at i h with
  | none => True
  | some none => J.stop i H
  | some (some v) => J.go i H ∧ ∀ x H', J.yld i H x H' → Ext p H p H' ∧ RH g p h H' ∧ RV g p H' v x
theorem ItOk.ext {it : IT} {J : It} (o : ItOk g p H it J) (E : Ext p H p1 H1) : ItOk g p1 H1 it J := fun p' H' h' i E' R' => o p' H' h' i (E.trans E') R'
theorem none_len {α β : Type} {xs : List α} {ys : List β} {i : Nat} (l : xs.length = ys.length) (e : xs[i]? = none) : ys.length ≤ i := by
  rw [← l]
  exact List.getElem?_eq_none_iff.mp e
theorem it_lst {v : Va} {a : Addr} (rv : RV g p H v (.ref a)) : ItOk g p H (.lst v) (Itl g.K a) := fun p' H' h' i E R => by
  simp only [IT.at]
  cases e : listAt h' v with
  | none => trivial
  | some xs =>
    obtain ⟨b, ys, e1, e2, e3⟩ := listAt_ok R (rv.ext E) e
    cases e1
    simp only [Option.map_some]
    cases q : xs[i]? with
    | none => exact ⟨ys, e2, none_len e3.len q⟩
    | some x =>
      obtain ⟨y, hy, ry⟩ := e3.get q
      exact ⟨⟨ys, y, e2, hy⟩, fun z H2 ⟨e4, e5⟩ => by
        subst e4
        have := e5 ys e2
        rw [hy] at this; cases this
        exact ⟨.refl _ _, R, ry⟩⟩
theorem it_tup {xs : List Va} {a : Addr} (rv : RV g p H (.tup xs) (.ref a)) : ItOk g p H (.tup xs) (Itt g.K a) := fun p' H' h' i E R => by
  simp only [IT.at]
  obtain ⟨b, ys, e1, e2, e3⟩ := tupAt_ok (rv.ext E)
  cases e1
  have e2' : SqT g.K H' a ys := .inl (.inl e2)
  cases q : xs[i]? with
  | none => exact ⟨ys, e2', none_len e3.len q⟩
  | some x =>
    obtain ⟨y, hy, ry⟩ := e3.get q
    exact ⟨⟨ys, y, e2', hy⟩, fun z H2 ⟨e4, e5⟩ => by
      subst e4
      have := e5 ys e2'
      rw [hy] at this; cases this
      exact ⟨.refl _ _, R, ry⟩⟩
theorem it_rng {lo : Int} {n : Nat} : ItOk g p H (.rng lo n) (Itr lo n) := fun p' H' h' i E R => by
  simp only [IT.at]
  cases q : Nat.blt i n with
  | false => exact Nat.ge_of_not_lt fun z => by rw [Nat.blt_eq.mpr z] at q; cases q
  | true => exact ⟨Nat.blt_eq.mp q, fun z H2 ⟨e4, e5⟩ => by subst e4 e5; exact ⟨.refl _ _, R, rvInt⟩⟩
theorem it_str {z : Str} : ItOk g p H (.str z.cps.toList) (Its z) := fun p' H' h' i E R => by
  simp only [IT.at]
  cases q : z.cps.toList[i]? with
  | none =>
    have := List.getElem?_eq_none_iff.mp q
    simpa [Its] using this
  | some c =>
    have hc : z.cps[i]? = some c := by simpa using q
    refine ⟨?_, fun y H2 ⟨e4, c', e5, e6⟩ => ?_⟩
    · have := (List.getElem?_eq_some_iff.mp q).1
      simpa [Its] using this
    · subst e4 e6
      rw [hc] at e5; cases e5
      exact ⟨.refl _ _, R, rvStr⟩
theorem RK.get : ∀ {ks : List (Va × Va)} {ys : List (Key × V)} {i : Nat} {kv : Va × Va}, RK g p H ks ys → ks[i]? = some kv → ∃ k x, ys[i]? = some (k, x) ∧ kv.1 = keyVa k ∧ RV g p H kv.2 x
  | [], ys, i, kv, r, e => by simp at e
  | a :: r, ys, i, kv, z, e => by
    simp only [RK] at z
    obtain ⟨k1, y, s, rfl, e1, r1, r2⟩ := z
    cases i with
    | zero => simp at e; subst e; exact ⟨k1, y, by simp, e1, r1⟩
    | succ n =>
      simp at e
      obtain ⟨k, x, h1, h2, h3⟩ := RK.get r2 e
      exact ⟨k, x, by simpa using h1, h2, h3⟩
theorem rv_kV {k : Key} : RV g p H (keyVa k) (kV k) := by cases k <;> simp [keyVa, kV, RV]
theorem it_keys {ks : List (Va × Va)} {d : Addr} {o : Obj} {ys : List (Key × V)} (hd : H d = some (.frz o (.dK ys))) (r : RK g p H ks ys) : ItOk g p H (.keys ks) (Itk d o ys) := fun p' H' h' i E R => by
  simp only [IT.at]
  have hd' := E.fz _ _ _ hd
  have r' := r.ext E
  cases q : ks[i]? with
  | none => exact ⟨hd', none_len r.len q⟩
  | some kv =>
    obtain ⟨k, x, h1, h2, h3⟩ := r'.get q
    refine ⟨⟨hd', (List.getElem?_eq_some_iff.mp h1).1⟩, fun z H2 ⟨e4, k', v', e5, e6⟩ => ?_⟩
    subst e4 e6
    rw [h1] at e5; cases e5
    exact ⟨.refl _ _, R, by show RV g p' H2 kv.1 _; rw [h2]; exact rv_kV⟩
theorem it_vals {ks : List (Va × Va)} {d : Addr} {o : Obj} {ys : List (Key × V)} (hd : H d = some (.frz o (.dK ys))) (r : RK g p H ks ys) : ItOk g p H (.vals ks) (Itd d o ys) := fun p' H' h' i E R => by
  simp only [IT.at]
  have hd' := E.fz _ _ _ hd
  have r' := r.ext E
  cases q : ks[i]? with
  | none => exact ⟨hd', none_len r.len q⟩
  | some kv =>
    obtain ⟨k, x, h1, h2, h3⟩ := r'.get q
    refine ⟨⟨hd', (List.getElem?_eq_some_iff.mp h1).1⟩, fun z H2 ⟨e4, k', e5⟩ => ?_⟩
    subst e4
    rw [h1] at e5; cases e5
    exact ⟨.refl _ _, R, h3⟩
theorem rvs2 {a b : Va} {x y : V} (h1 : RV g p H a x) (h2 : RV g p H b y) : RVs g p H [a, b] [x, y] := by
  simp only [RVs]
  exact ⟨x, _, rfl, h1, y, _, rfl, h2, rfl⟩
theorem it_items {ks : List (Va × Va)} {d : Addr} {o : Obj} {ys : List (Key × V)} (hd : H d = some (.frz o (.dK ys))) (r : RK g p H ks ys) : ItOk g p H (.items ks) (Iti d o ys) := fun p' H' h' i E R => by
  simp only [IT.at]
  have hd' := E.fz _ _ _ hd
  have r' := r.ext E
  cases q : ks[i]? with
  | none => exact ⟨hd', none_len r.len q⟩
  | some kv =>
    obtain ⟨k, x, h1, h2, h3⟩ := r'.get q
    refine ⟨⟨hd', (List.getElem?_eq_some_iff.mp h1).1⟩, fun z H2 ⟨T, k', v', e5, e6, e7, e8⟩ => ?_⟩
    rw [h1] at e5; cases e5
    subst e6 e8
    exact R.tup (rvs2 (by rw [h2]; exact rv_kV) h3) e7
theorem it_enum {v : Va} {a : Addr} (rv : RV g p H v (.ref a)) : ItOk g p H (.enum v) (Ite g.K a) := fun p' H' h' i E R => by
  simp only [IT.at]
  cases e : listAt h' v with
  | none => trivial
  | some xs =>
    obtain ⟨b, ys, e1, e2, e3⟩ := listAt_ok R (rv.ext E) e
    cases e1
    simp only [Option.map_some]
    cases q : xs[i]? with
    | none => exact ⟨ys, e2, none_len e3.len q⟩
    | some x =>
      obtain ⟨y, hy, ry⟩ := e3.get q
      refine ⟨⟨ys, y, e2, hy⟩, fun z H2 ⟨T, x', e4, e5, e6, e7⟩ => ?_⟩
      have := e7 ys e2
      rw [hy] at this; cases this
      subst e4 e6
      exact R.tup (rvs2 rvInt ry) e5
theorem it_zip {v u : Va} {a b : Addr} (rv : RV g p H v (.ref a)) (ru : RV g p H u (.ref b)) : ItOk g p H (.zip v u) (Itz g.K a b) := fun p' H' h' i E R => by
  simp only [IT.at]
  cases e : listAt h' v with
  | none => trivial
  | some xs =>
    cases f : listAt h' u with
    | none => trivial
    | some zs =>
      obtain ⟨a', ys, e1, e2, e3⟩ := listAt_ok R (rv.ext E) e
      cases e1
      obtain ⟨b', ws, f1, f2, f3⟩ := listAt_ok R (ru.ext E) f
      cases f1
      simp only
      cases q : xs[i]? with
      | none => exact ⟨ys, ws, e2, f2, .inl (none_len e3.len q)⟩
      | some x =>
        cases q2 : zs[i]? with
        | none => exact ⟨ys, ws, e2, f2, .inr (none_len f3.len q2)⟩
        | some z =>
          obtain ⟨y, hy, ry⟩ := e3.get q
          obtain ⟨w, hw, rw_⟩ := f3.get q2
          refine ⟨⟨ys, ws, y, w, e2, f2, hy, hw⟩, fun k H2 ⟨T, x', y', e4, e5, e6, e7, e8⟩ => ?_⟩
          have h7 := e7 ys e2
          rw [hy] at h7; cases h7
          have h8 := e8 ws f2
          rw [hw] at h8; cases h8
          subst e4 e6
          exact R.tup (rvs2 ry rw_) e5
/-! ### locks -/
def NoFz (X : Cx) (d : Addr) : Prop := ∀ (o : Obj) (u : HO), X.H_0 d ≠ some (.frz o u)
def tLockR (X : Cx) (t : TE) : TE := fun σ H Q => t σ H fun x H1 => Q x H1 ∨ ∃ d u, x = .ref d ∧ H1 d = some u ∧ Mut (some u) ∧ ∀ od, NoFz X d → Q x (upd H1 d (.frz od u))
theorem pe_lockR {e : Expr} {t : TE} (a : PE X e t) : PE X e (tLockR X t) := ⟨fun pins s σ H Q I hq => by
  refine thn (a.run pins s σ H _ I hq) fun v s1 ⟨x, H1, I1, r, q⟩ => ?_
  rcases q with q | ⟨d, u, rfl, hd, mu, q⟩
  · exact ⟨x, H1, I1, r, q⟩
  · obtain ⟨od, I2⟩ := I1.lock hd mu
    exact ⟨_, _, I2, r, q od (I1.nofrz hd mu)⟩⟩
def Un (X : Cx) (Q : Hp → Prop) (H : Hp) : Prop := ∃ d od u, H d = some (.frz od u) ∧ NoFz X d ∧ Q (upd H d u)
def unD (X : Cx) (D : Ends) : Ends := { nx := fun σ => Un X (D.nx σ), rt := fun v => Un X (D.rt v), bk := fun _ _ => False, ct := fun _ _ => False }
theorem ps_unl {st : Stmt} {t : TS} (a : PS X st t) : PS X st (fun D σ H => t (unD X D) σ H) := ⟨fun pins s σ H D I hq => by
  refine thn (a.run pins s σ H _ I hq) fun f s1 q => ?_
  cases f with
  | next => obtain ⟨σ', H', I2, d, od, u, e, nf, q⟩ := q; exact ⟨σ', _, I2.unlock e nf, q⟩
  | brk => obtain ⟨σ', H', I2, q⟩ := q; exact q.elim
  | cont => obtain ⟨σ', H', I2, q⟩ := q; exact q.elim
  | ret v => obtain ⟨x, σ', H', I2, r, d, od, u, e, nf, q⟩ := q; exact ⟨x, σ', _, I2.unlock e nf, r, q⟩⟩
theorem pe_unl {e : Expr} {t : TE} (a : PE X e t) : PE X e (fun σ H Q => t σ H fun v => Un X (Q v)) := ⟨fun pins s σ H Q I hq => by
  refine thn (a.run pins s σ H _ I hq) fun v s1 ⟨x, H1, I1, r, d, od, u, e, nf, q⟩ => ?_
  exact ⟨x, _, I1.unlock e nf, r, q⟩⟩
theorem RH.lck {i : Nat} {xs : List (Va × Va)} (R : RH g p h H) (e : h.get i = some (.lck xs)) : ∃ a ob ys, p[i]? = some a ∧ H a = some (.frz ob (.dK ys)) ∧ RK g p H xs ys := by
  obtain ⟨a, u, h1, h2, ob, ys, rfl, h3⟩ := R.at_ i _ e
  exact ⟨a, ob, ys, h1, h2, h3⟩
/-- the small heap and the layer's, a dict locked -/
theorem RH.lock {i : Nat} {xs : List (Va × Va)} (R : RH g p h H) (e : h.get i = some (.dic xs)) : ∃ a ys, p[i]? = some a ∧ H a = some (.dK ys) ∧ ∀ od, Ext p H p (upd H a (.frz od (.dK ys))) ∧ RH g p (h.put i (.lck xs)) (upd H a (.frz od (.dK ys))) ∧ RK g p (upd H a (.frz od (.dK ys))) xs ys := by
  obtain ⟨a, ys, h1, h2, h3⟩ := R.dic e
  refine ⟨a, ys, h1, h2, fun od => ?_⟩
  obtain ⟨E, R'⟩ := R.write (u := .frz od (.dK ys)) (o := .lck xs) h1 h2 (fun _ z => nomatch z) (fun _ _ z => nomatch z) ⟨od, ys, rfl, h3⟩
  exact ⟨E, R', h3.ext E⟩
/-- unlocking, all told: from ahead of the lock (H0) to behind -/
theorem RH.unlock {i : Nat} {a : Addr} {xs : List (Va × Va)} {p0 : List Addr} {H0 : Hp} (R : RH g p h H) (e : h.get i = some (.lck xs)) (hi : p[i]? = some a) (E0 : Ext p0 H0 p H) (nf : ∀ o u, H0 a ≠ some (.frz o u)) :
    ∃ od u, H a = some (.frz od u) ∧ Ext p0 H0 p (upd H a u) ∧ RH g p (h.put i (.dic xs)) (upd H a u) ∧ ∀ v x, RV g p H v x → RV g p (upd H a u) v x := by
  obtain ⟨b, ob, ys, h1, h2, h3⟩ := R.lck e
  rw [hi] at h1; cases h1
  have tp : ∀ b zs, H b = some (.tup zs) → (upd H a (.dK ys)) b = some (.tup zs) := fun b zs z => by
    rw [upd_ne (ne_of z h2 (fun q => nomatch q))]; exact z
  have w : Exw p H p (upd H a (.dK ys)) := ⟨fun _ _ z => z, tp⟩
  refine ⟨ob, .dK ys, h2, ⟨E0.ix, fun b zs z => tp b zs (E0.tp b zs z), fun b o u z => ?_⟩, ⟨R.len, R.nd, fun j m e' => ?_, fun b hb => ?_, ?_, R.sc⟩, fun v x r => RV.exw w v x r⟩
  · have hb : b ≠ a := fun q => nf o u (q ▸ z)
    rw [upd_ne hb]
    exact E0.fz b o u z
  · rw [MH.get_put] at e'
    split at e'
    · cases e'
      rename_i hj
      subst hj
      exact ⟨a, .dK ys, hi, upd_same, ys, rfl, h3.exw w⟩
    · rename_i hj
      obtain ⟨b, w', k1, k2, k3⟩ := R.at_ j m e'
      have hba : b ≠ a := fun z => by
        subst z
        exact hj (((List.getElem?_inj (List.getElem?_eq_some_iff.mp k1).1 R.nd).mp (k1.trans hi.symm)))
      exact ⟨b, w', k1, by rw [upd_ne hba]; exact k2, k3.exw w⟩
  · by_cases e : b = a
    · subst e; rw [upd_same]; simp
    · rw [upd_ne e]; exact R.tr b hb
  · rcases R.scr with ⟨o', z⟩ | z
    · refine .inl ⟨o', ?_⟩
      have hsa : g.sa ≠ a := fun q => by rw [q, h2] at z; cases z
      rw [upd_ne hsa]; exact z
    · exact .inr z
end
end Mn
end

section
/-! Mini: for; comprehensions. -/
namespace Mn
open PySem L2
/-- a walk, and the dict that is locked for it -/
structure Wk where
  it : IT
  lk : Option Nat
abbrev MI := MS → MH → Res Wk
section
variable {g : Gb} {W : WX} {X : Cx} {p p1 p' : List Addr} {H H1 H' : Hp} {σm : MS} {σ : St} {h h1 : MH} {Q : VK} {D : Ends}
def GI (g : Gb) (W : WX) (X : Cx) (σm : MS) (σ : St) (p : List Addr) (H : Hp) (r : Res Wk) (R : It → Hp → Prop) : Prop := match r with
  | .ok w h' => ∀ p' H' J, Ext p H p' H' → Rel g p' H' σm h' σ → ItOk g p' H' w.it J → (∀ i, w.lk = some i → ∃ d, p'[i]? = some d ∧ NoFz X d ∧ ∀ o u, H d ≠ some (.frz o u)) → R J H'
  | .ex c fs h' => ∀ p' H' d, Ext p H p' H' → Rel g p' H' σm h' σ → XD g p' H' d fs → W (.ref (g.cl c)) d σ H'
  | .no => False
abbrev RdI (g : Gb) (W : WX) (X : Cx) (t : TI) (m : MI) : Prop := ∀ p H σm h σ R, Rel g p H σm h σ → GI g W X σm σ p H (m σm h) R → t σ H R
def SI (g : Gb) (W : WX) (X : Cx) (tg iter : Expr) (m : MI) : Prop := ∃ t, PI X tg iter t ∧ RdI g W X t m
theorem pi_or {tg e : Expr} {t u : TI} (a : PI X tg e t) (b : PI X tg e u) : PI X tg e (fun σ H R => t σ H R ∨ u σ H R) := ⟨fun pins s σ H R I h => by
  rcases h with h | h
  · exact a.run pins s σ H R I h
  · exact b.run pins s σ H R I h⟩
/-- what an expression's value walks -/
def wkOf (v : Va) (h : MH) : Res Wk := match v with
  | .tup xs => .ok ⟨.tup xs, none⟩ h
  | .str z => .ok ⟨.str z.cps.toList, none⟩ h
  | .scr => .ok ⟨.lst .scr, none⟩ h
  | .ref i => match h.get i with
    | some (.lst _) => .ok ⟨.lst (.ref i), none⟩ h
    | some (.lck ks) => .ok ⟨.keys ks, none⟩ h
    | some (.dic ks) => .ok ⟨.keys ks, some i⟩ (h.put i (.lck ks))
    | _ => .no
  | _ => .no
def mIter (m : ME) : MI := fun σ h => (m σ h).bind wkOf
theorem RdE.goI {t : TE} {m : ME} (S : RdE g W t m) (R : Rel g p H σm h σ) {k : Va → MH → Res Wk} {RR : It → Hp → Prop} {Q' : VK} (G : GI g W X σm σ p H ((m σm h).bind k) RR)
    (hk : ∀ p1 H1 v h1 x, m σm h = .ok v h1 → Ext p H p1 H1 → Rel g p1 H1 σm h1 σ → RV g p1 H1 v x → Q' x H1) : t σ H Q' := by
  refine S p H σm h σ _ R ?_
  cases e : m σm h with
  | no => rw [e] at G; exact G
  | ex c fs h' => rw [e] at G; exact G
  | ok v h' => exact fun p1 H1 x E1 R1 rv => hk p1 H1 v h' x e E1 R1 rv
/-- the locked walk, once the dict is there -/
theorem lock_walk {i : Nat} {ks : List (Va × Va)} {RR : It → Hp → Prop} {x : V} (hg : h1.get i = some (.dic ks)) (E1 : Ext p H p1 H1) (R1 : Rel g p1 H1 σm h1 σ) (rv : RV g p1 H1 (.ref i) x)
    (wt : IT) (jt : Addr → Obj → List (Key × V) → It) (hw : ∀ p2 H2 d o ys, H2 d = some (.frz o (.dK ys)) → RK g p2 H2 ks ys → ItOk g p2 H2 wt (jt d o ys))
    (G : GI g W X σm σ p H (.ok ⟨wt, some i⟩ (h1.put i (.lck ks))) RR) :
    ∃ d ys, x = .ref d ∧ H1 d = some (.dK ys) ∧ ∀ od, NoFz X d → (upd H1 d (.frz od (.dK ys))) d = some (.frz od (.dK ys)) ∧ RR (jt d od ys) (upd H1 d (.frz od (.dK ys))) := by
  obtain ⟨a, ys, h2, h3, h4⟩ := R1.h.lock hg
  simp only [RV] at rv
  obtain ⟨b, rfl, hb⟩ := rv
  rw [h2] at hb; cases hb
  refine ⟨a, ys, rfl, h3, fun od nf => ⟨upd_same, ?_⟩⟩
  obtain ⟨E2, R2, rk⟩ := h4 od
  refine G p1 _ _ (E1.trans E2) ⟨R2, R1.s.ext E2⟩ (hw _ _ _ _ _ upd_same rk) fun j e => ?_
  cases e
  exact ⟨a, h2, nf, fun o u z => by rw [E1.fz _ _ _ z] at h3; cases h3⟩
theorem sIter {tg e : Expr} {m : ME} (hK : X.K = g.K) (he : SE g W X e m) : SI g W X tg e (mIter m) := by
  obtain ⟨t, pe, re⟩ := he
  refine ⟨_, pi_or (pi_or (pi_list pe) (pi_tup pe)) (pi_or (pi_str pe) (pi_keys (pe_lockR pe))), fun p H σm h σ RR R G => ?_⟩
  cases e : m σm h with
  | no => unfold mIter at G; rw [e] at G; exact G.elim
  | ex c fs h' =>
    refine .inl (.inl (?_ : t σ H _))
    exact RdE.goI re R G fun p1 H1 v h1 x e1 => by rw [e] at e1; cases e1
  | ok v h' =>
    have G0 := G
    unfold mIter at G
    rw [e] at G
    replace G : GI g W X σm σ p H (wkOf v h') RR := G
    unfold wkOf at G
    split at G
    · rename_i xs
      refine .inl (.inr (?_ : t σ H _))
      refine RdE.goI re R G0 fun p1 H1 v1 h1 x e1 E1 R1 rv => ?_
      rw [e] at e1; cases e1
      obtain ⟨a, ys, rfl, k2, k3⟩ := tupAt_ok rv
      rw [hK]
      exact ⟨a, rfl, ⟨ys, .inl (.inl k2)⟩, G p1 H1 _ E1 R1 (it_tup rv) fun _ z => nomatch z⟩
    · rename_i z
      refine .inr (.inl (?_ : t σ H _))
      refine RdE.goI re R G0 fun p1 H1 v1 h1 x e1 E1 R1 rv => ?_
      rw [e] at e1; cases e1
      simp only [RV] at rv
      exact ⟨z, rv, G p1 H1 _ E1 R1 it_str fun _ z => nomatch z⟩
    · refine .inl (.inl (?_ : t σ H _))
      refine RdE.goI re R G0 fun p1 H1 v1 h1 x e1 E1 R1 rv => ?_
      rw [e] at e1; cases e1
      have rv' := rv
      simp only [RV] at rv'
      subst rv'
      rw [hK]
      exact ⟨_, rfl, ⟨_, R1.h.scr.seq⟩, G p1 H1 _ E1 R1 (it_lst rv) fun _ z => nomatch z⟩
    · rename_i i
      split at G
      · rename_i xs hg
        refine .inl (.inl (?_ : t σ H _))
        refine RdE.goI re R G0 fun p1 H1 v1 h1 x e1 E1 R1 rv => ?_
        rw [e] at e1; cases e1
        obtain ⟨a, ys, q1, q2, q3⟩ := R1.h.lst hg
        have rv' := rv
        simp only [RV] at rv'
        obtain ⟨b, rfl, hb⟩ := rv'
        rw [q1] at hb; cases hb
        rw [hK]
        exact ⟨_, rfl, ⟨_, .inl (.inl q2)⟩, G p1 H1 _ E1 R1 (it_lst rv) fun _ z => nomatch z⟩
      · rename_i ks hg
        refine .inr (.inr (?_ : t σ H _))
        refine RdE.goI re R G0 fun p1 H1 v1 h1 x e1 E1 R1 rv => .inl ?_
        rw [e] at e1; cases e1
        obtain ⟨a, ob, ys, q1, q2, q3⟩ := R1.h.lck hg
        simp only [RV] at rv
        obtain ⟨b, rfl, hb⟩ := rv
        rw [q1] at hb; cases hb
        exact ⟨a, ob, rfl, .inl ⟨ys, q2, G p1 H1 _ E1 R1 (it_keys q2 q3) fun _ z => nomatch z⟩⟩
      · rename_i ks hg
        refine .inr (.inr (?_ : t σ H _))
        refine RdE.goI re R G0 fun p1 H1 v1 h1 x e1 E1 R1 rv => .inr ?_
        rw [e] at e1; cases e1
        obtain ⟨d, ys, rfl, k1, k2⟩ := lock_walk hg E1 R1 rv (.keys ks) Itk (fun p2 H2 d o ys => it_keys) G
        exact ⟨d, .dK ys, rfl, k1, trivial, fun od nf => ⟨d, od, rfl, .inl ⟨ys, (k2 od nf).1, (k2 od nf).2⟩⟩⟩
      · exact G.elim
    · exact G.elim
/-- d.values(), d.items() -/
def wkDic (k : List (Va × Va) → IT) (v : Va) (h : MH) : Res Wk := match v with
  | .ref i => match h.get i with
    | some (.lck ks) => .ok ⟨k ks, none⟩ h
    | some (.dic ks) => .ok ⟨k ks, some i⟩ (h.put i (.lck ks))
    | _ => .no
  | _ => .no
def mWalkD (k : List (Va × Va) → IT) (m : ME) : MI := fun σ h => (m σ h).bind (wkDic k)
theorem rd_walkD {t : TE} {m : ME} (re : RdE g W t m) (wt : List (Va × Va) → IT) (jt : Addr → Obj → List (Key × V) → It) (hw : ∀ ks p2 H2 d o ys, H2 d = some (.frz o (.dK ys)) → RK g p2 H2 ks ys → ItOk g p2 H2 (wt ks) (jt d o ys)) :
    RdI g W X (fun σ H R => tLockR X t σ H fun x H1 => ∃ d o kvs, x = V.ref d ∧ H1 d = some (.frz o (.dK kvs)) ∧ R (jt d o kvs) H1) (mWalkD wt m) := fun p H σm h σ RR R G => by
  cases e : m σm h with
  | no => unfold mWalkD at G; rw [e] at G; exact G.elim
  | ex c fs h' => exact RdE.goI re R G fun p1 H1 v h1 x e1 => by rw [e] at e1; cases e1
  | ok v h' =>
    have G0 := G
    unfold mWalkD at G
    rw [e] at G
    replace G : GI g W X σm σ p H (wkDic wt v h') RR := G
    unfold wkDic at G
    refine RdE.goI re R G0 fun p1 H1 v1 h1 x e1 E1 R1 rv => ?_
    rw [e] at e1; cases e1
    split at G
    · rename_i i
      split at G
      · rename_i ks hg
        obtain ⟨a, ob, ys, q1, q2, q3⟩ := R1.h.lck hg
        simp only [RV] at rv
        obtain ⟨b, rfl, hb⟩ := rv
        rw [q1] at hb; cases hb
        exact .inl ⟨a, ob, ys, rfl, q2, G p1 H1 _ E1 R1 (hw _ _ _ _ _ _ q2 q3) fun _ z => nomatch z⟩
      · rename_i ks hg
        obtain ⟨d, ys, rfl, k1, k2⟩ := lock_walk hg E1 R1 rv (wt ks) jt (hw ks) G
        exact .inr ⟨d, .dK ys, rfl, k1, trivial, fun od nf => ⟨d, od, ys, rfl, (k2 od nf).1, (k2 od nf).2⟩⟩
      · exact G.elim
    · exact G.elim
theorem sVals {tg e : Expr} {m : ME} {apos cpos : Pos} (he : SE g W X e m) (h1 : attributeBase e "values" X.env (eval e X.env) = eval e X.env := by rfl) (h2 : (apos.endLine == cpos.line) = true := by rfl) :
    SI g W X tg (.Call (.Attribute e "values" apos) [] [] cpos) (mWalkD .vals m) := by
  obtain ⟨t, pe, re⟩ := he
  exact ⟨_, pi_values (pe_lockR pe) h1 h2, rd_walkD re IT.vals Itd fun _ _ _ _ _ _ => it_vals⟩
theorem sItems {e : Expr} {m : ME} {apos cpos tpos : Pos} {elts : List Expr} {kk : Nat} (he : SE g W X e m) (h1 : attributeBase e "items" X.env (eval e X.env) = eval e X.env := by rfl) (h2 : (apos.endLine == cpos.line) = true := by rfl) :
    SI g W X (.Tuple elts kk tpos) (.Call (.Attribute e "items" apos) [] [] cpos) (mWalkD .items m) := by
  obtain ⟨t, pe, re⟩ := he
  exact ⟨_, pi_items (pe_lockR pe) h1 h2, rd_walkD re IT.items Iti fun _ _ _ _ _ _ => it_items⟩
/-! ### range, enumerate, zip -/
def l62 : Int := 4611686018427387904
def mRng1 (ms : MA) : MI := fun σ h => (ms σ h).bind fun vs h1 => match vs with
  | [.int j] => cond (decide (-l62 ≤ j) && decide (j < l62)) (.ok ⟨.rng 0 j.toNat, none⟩ h1) .no
  | _ => .no
def mRng2 (ms : MA) : MI := fun σ h => (ms σ h).bind fun vs h1 => match vs with
  | [.int i, .int j] => cond ((decide (-l62 ≤ i) && decide (i < l62)) && (decide (-l62 ≤ j) && decide (j < l62))) (.ok ⟨.rng i (j - i).toNat, none⟩ h1) .no
  | _ => .no
theorem RdA.goI {t : TA} {m : MA} (S : RdA g W t m) (R : Rel g p H σm h σ) {k : List Va → MH → Res Wk} {RR : It → Hp → Prop} {Q' : List V → Hp → Prop} (G : GI g W X σm σ p H ((m σm h).bind k) RR)
    (hk : ∀ p1 H1 v h1 x, Ext p H p1 H1 → Rel g p1 H1 σm h1 σ → RVs g p1 H1 v x → m σm h = .ok v h1 → Q' x H1) : t σ H Q' := by
  refine S p H σm h σ _ R ?_
  cases e : m σm h with
  | no => rw [e] at G; exact G
  | ex c fs h' => rw [e] at G; exact G
  | ok v h' => exact fun p1 H1 x E1 R1 rv => hk p1 H1 v h' x E1 R1 rv e
theorem sRng1 {tg a : Expr} {q pos : Pos} {ms : MA} (hm : X.mg "range" = none) (ha : SA g W X [a] ms) (hg : Gl X "range" := by rfl) (hs : starEach [a] X.env = [(false, eval a X.env)] := by rfl) :
    SI g W X tg (.Call (.Name "range" q) [a] [] pos) (mRng1 ms) := by
  obtain ⟨t, pa, ra⟩ := ha
  refine ⟨_, pi_range1 hg hm pa hs, fun p H σm h σ RR R G => ?_⟩
  refine RdA.goI ra R G fun p1 H1 vs h1 xs E1 R1 rvs e => ?_
  unfold mRng1 at G
  rw [e] at G
  simp only [Res.bind] at G
  split at G
  · rename_i j
    obtain ⟨x, rfl, rv⟩ := Mn.one rvs
    simp only [RV] at rv
    subst rv
    cases q : (decide (-l62 ≤ j) && decide (j < l62)) with
    | false => rw [q] at G; exact G.elim
    | true =>
      rw [q] at G
      simp only [Bool.and_eq_true, decide_eq_true_eq] at q
      refine ⟨j, rfl, q.1, q.2, G p1 H1 _ E1 R1 it_rng fun _ z => nomatch z⟩
  · exact G.elim
theorem sRng2 {tg a b : Expr} {q pos : Pos} {ms : MA} (hm : X.mg "range" = none) (ha : SA g W X [a, b] ms) (hg : Gl X "range" := by rfl) (hs : starEach [a, b] X.env = [(false, eval a X.env), (false, eval b X.env)] := by rfl) (hs' : starEach [b] X.env = [(false, eval b X.env)] := by rfl) :
    SI g W X tg (.Call (.Name "range" q) [a, b] [] pos) (mRng2 ms) := by
  obtain ⟨t, pa, ra⟩ := ha
  refine ⟨_, pi_range2 hg hm pa hs hs', fun p H σm h σ RR R G => ?_⟩
  refine RdA.goI ra R G fun p1 H1 vs h1 xs E1 R1 rvs e => ?_
  unfold mRng2 at G
  rw [e] at G
  simp only [Res.bind] at G
  split at G
  · rename_i i j
    obtain ⟨x, y, rfl, rv, ru⟩ := Mn.two rvs
    simp only [RV] at rv ru
    subst rv ru
    cases q : ((decide (-l62 ≤ i) && decide (i < l62)) && (decide (-l62 ≤ j) && decide (j < l62))) with
    | false => rw [q] at G; exact G.elim
    | true =>
      rw [q] at G
      simp only [Bool.and_eq_true, decide_eq_true_eq] at q
      refine ⟨i, j, rfl, ⟨q.1.1, q.1.2, q.2.1, q.2.2⟩, G p1 H1 _ E1 R1 it_rng fun _ z => nomatch z⟩
  · exact G.elim
def mEnum (ms : MA) : MI := fun σ h => (ms σ h).bind fun vs h1 => match vs with
  | [v] => match listAt h1 v with
    | some _ => .ok ⟨.enum v, none⟩ h1
    | none => .no
  | _ => .no
theorem sEnum {e : Expr} {q pos tpos : Pos} {elts : List Expr} {kk : Nat} {ms : MA} (hK : X.K = g.K) (hm : X.mg "enumerate" = none) (ha : SA g W X [e] ms) (hg : Gl X "enumerate" := by rfl) (hs : starEach [e] X.env = [(false, eval e X.env)] := by rfl) :
    SI g W X (.Tuple elts kk tpos) (.Call (.Name "enumerate" q) [e] [] pos) (mEnum ms) := by
  obtain ⟨t, pa, ra⟩ := ha
  refine ⟨_, pi_enum hg hm pa hs, fun p H σm h σ RR R G => ?_⟩
  refine RdA.goI ra R G fun p1 H1 vs h1 xs E1 R1 rvs e => ?_
  unfold mEnum at G
  rw [e] at G
  simp only [Res.bind] at G
  split at G
  · rename_i v
    obtain ⟨x, rfl, rv⟩ := Mn.one rvs
    split at G
    · rename_i ys hl
      obtain ⟨a, zs, rfl, e2, e3⟩ := listAt_ok R1.h rv hl
      rw [hK]
      exact ⟨a, zs, rfl, e2, G p1 H1 _ E1 R1 (it_enum rv) fun _ z => nomatch z⟩
    · exact G.elim
  · exact G.elim
def mZip (ms : MA) : MI := fun σ h => (ms σ h).bind fun vs h1 => match vs with
  | [v, u] => match listAt h1 v, listAt h1 u with
    | some _, some _ => .ok ⟨.zip v u, none⟩ h1
    | _, _ => .no
  | _ => .no
theorem sZip {e e2 : Expr} {q pos tpos : Pos} {elts : List Expr} {kk : Nat} {ms : MA} (hK : X.K = g.K) (hm : X.mg "zip" = none) (ha : SA g W X [e, e2] ms) (hg : Gl X "zip" := by rfl) (hs : starEach [e, e2] X.env = (false, eval e X.env) :: starEach [e2] X.env := by rfl) (hs2 : (backTo pos (starEach [e2] X.env)).any (·.1) = false := by rfl) :
    SI g W X (.Tuple elts kk tpos) (.Call (.Name "zip" q) [e, e2] [] pos) (mZip ms) := by
  obtain ⟨t, pa, ra⟩ := ha
  refine ⟨_, pi_zip hg hm pa hs hs2, fun p H σm h σ RR R G => ?_⟩
  refine RdA.goI ra R G fun p1 H1 vs h1 xs E1 R1 rvs e => ?_
  unfold mZip at G
  rw [e] at G
  simp only [Res.bind] at G
  split at G
  · rename_i v u
    obtain ⟨x, y, rfl, rv, ru⟩ := Mn.two rvs
    split at G
    · rename_i ys zs hl hl2
      obtain ⟨a, ws, rfl, e2, e3⟩ := listAt_ok R1.h rv hl
      obtain ⟨b, us, rfl, f2, f3⟩ := listAt_ok R1.h ru hl2
      rw [hK]
      exact ⟨a, b, ws, us, rfl, e2, f2, G p1 H1 _ E1 R1 (it_zip rv ru) fun _ z => nomatch z⟩
    · exact G.elim
  · exact G.elim
/-! ### for -/
def loopF (it : IT) (gt : MG) (b : MT) (n : Nat) : Nat → MT := fun i σ h => match n with
  | 0 => .no
  | n + 1 => match it.at i h with
    | none => .no
    | some none => .nx σ h
    | some (some v) => match Onw (gt v σ h) with
      | .nx σ1 h1 => match b σ1 h1 with
        | .nx σ2 h2 => loopF it gt b n (i + 1) σ2 h2
        | .ct σ2 h2 => loopF it gt b n (i + 1) σ2 h2
        | .bk σ2 h2 => .nx σ2 h2
        | r => r
      | r => r
def unlS (i : Nat) (r : SR) : SR := match r with
  | .nx s h => match h.get i with
    | some (.lck ks) => .nx s (h.put i (.dic ks))
    | _ => .no
  | .rt v h => match h.get i with
    | some (.lck ks) => .rt v (h.put i (.dic ks))
    | _ => .no
  | _ => .no
def mFor (n : Nat) (mi : MI) (gt : MG) (b : MT) : MT := fun σ h => (mi σ h).toS σ fun w h1 => match w.lk with
  | none => loopF w.it gt b n 0 σ h1
  | some i => unlS i (loopF w.it gt b n 0 σ h1)
theorem GS.onw' {r : SR} {D' : Ends} (G : GS g W p H (Onw r) D') : GS g W p H r (DN D'.nx) := by
  cases r with
  | nx s' h' => exact G
  | ex c fs s' h' => exact G
  | rt v h' => exact G.elim
  | bk v h' => exact G.elim
  | ct v h' => exact G.elim
  | no => exact G.elim
theorem rd_loop {it : IT} {J : It} {t : TG} {gt : MG} {tb : TS} {mb : MT} (rg : RdG g W t gt) (rb : RdS g W tb mb) (n : Nat) (io : ItOk g p H it J) (R : Rel g p H σm h σ) (G : GS g W p H (loopF it gt mb n 0 σm h) D) :
    ∃ Wv : Nat → Nat → St → Hp → Prop, (∃ m, Wv 0 m σ H) ∧ ∀ i m σ H, Wv i m σ H → (J.stop i H ∧ D.nx σ H) ∨ (J.go i H ∧ ∃ N : St → Hp → Prop, (∀ σ' H', N σ' H' → ∃ m', m' < m ∧ Wv (i + 1) m' σ' H') ∧ ∀ x H', J.yld i H x H' → t x σ H' fun σ2 H2 => tb { D with nx := N, ct := N, bk := D.nx } σ2 H2) := by
  refine ⟨fun i m σ1 H1 => ∃ p1 s1 h1, Ext p H p1 H1 ∧ Rel g p1 H1 s1 h1 σ1 ∧ GS g W p1 H1 (loopF it gt mb m i s1 h1) D, ⟨n, p, σm, h, .refl _ _, R, G⟩, ?_⟩
  rintro i m σ1 H1 ⟨p1, s1, h1, E1, R1, G1⟩
  cases m with
  | zero => exact G1.elim
  | succ m =>
    have o := io p1 H1 h1 i E1 R1.h
    unfold loopF at G1
    cases e : it.at i h1 with
    | none => rw [e] at G1; exact G1.elim
    | some r =>
      cases r with
      | none =>
        rw [e] at G1 o
        exact .inl ⟨o, G1 p1 H1 σ1 (.refl _ _) R1⟩
      | some v =>
        rw [e] at o
        simp only [e] at G1
        refine .inr ⟨o.1, fun σ' H' => ∃ p2 s2 h2, Ext p H p2 H' ∧ Rel g p2 H' s2 h2 σ' ∧ GS g W p2 H' (loopF it gt mb m (i + 1) s2 h2) D, fun σ' H' q => ⟨m, Nat.lt_succ_self m, q⟩, fun x H2 y => ?_⟩
        obtain ⟨E2, R2, rv⟩ := o.2 x H2 y
        refine rg p1 H2 s1 h1 σ1 v x _ ⟨R2, R1.s.ext E2⟩ rv ?_
        cases e1 : gt v s1 h1 with
        | nx s2 h2 =>
          simp only [e1, Onw] at G1
          intro p3 H3 σ3 E3 R3
          have E13 : Ext p H p3 H3 := E1.trans (E2.trans E3)
          refine rb p3 H3 s2 h2 σ3 _ R3 ?_
          have G3 := G1.mono (E2.trans E3)
          cases e2 : mb s2 h2 with
          | nx s' h' => simp only [e2] at G3; exact fun p' H' σ' E' R' => ⟨p', s', h', E13.trans E', R', G3.mono E'⟩
          | ct s' h' => simp only [e2] at G3; exact fun p' H' σ' E' R' => ⟨p', s', h', E13.trans E', R', G3.mono E'⟩
          | bk s' h' => simp only [e2] at G3; exact G3
          | rt v h' => simp only [e2] at G3; exact G3
          | ex c fs s' h' => simp only [e2] at G3; exact G3
          | no => simp only [e2] at G3; exact G3
        | ex c fs s2 h2 => simp only [e1, Onw] at G1; exact G1.mono E2
        | rt v h' => simp only [e1, Onw] at G1; exact G1.elim
        | bk v h' => simp only [e1, Onw] at G1; exact G1.elim
        | ct v h' => simp only [e1, Onw] at G1; exact G1.elim
        | no => simp only [e1, Onw] at G1; exact G1.elim
/-- behind the unlocking -/
theorem GS.unl {r : SR} {i : Nat} {d : Addr} {p0 : List Addr} {H0 : Hp} (G : GS g W p0 H0 (unlS i r) D) (E0 : Ext p0 H0 p H) (hd : p[i]? = some d) (nf : NoFz X d) (nf0 : ∀ o u, H0 d ≠ some (.frz o u)) : GS g W p H r (unD X D) := by
  cases r with
  | nx s' h' =>
    simp only [unlS] at G
    cases e : h'.get i with
    | none => simp only [e] at G; exact G.elim
    | some o =>
      cases o with
      | lck ks =>
        simp only [e] at G
        intro p' H' σ' E' R'
        obtain ⟨od, u, e1, E2, R2, rv⟩ := R'.h.unlock e (E'.ix i d hd) (E0.trans E') nf0
        exact ⟨d, od, u, e1, nf, G p' _ σ' E2 ⟨R2, R'.s.len, fun j v z => by obtain ⟨x, h1, h2⟩ := R'.s.at_ j v z; exact ⟨x, h1, rv _ _ h2⟩⟩⟩
      | _ => simp only [e] at G; exact G.elim
  | rt v h' =>
    simp only [unlS] at G
    cases e : h'.get i with
    | none => simp only [e] at G; exact G.elim
    | some o =>
      cases o with
      | lck ks =>
        simp only [e] at G
        intro p' H' x E' R' rvx
        obtain ⟨od, u, e1, E2, R2, rv⟩ := R'.unlock e (E'.ix i d hd) (E0.trans E') nf0
        exact ⟨d, od, u, e1, nf, G p' _ x E2 R2 (rv _ _ rvx)⟩
      | _ => simp only [e] at G; exact G.elim
  | bk s' h' => exact G.elim
  | ct s' h' => exact G.elim
  | ex c fs s' h' => exact G.elim
  | no => exact G.elim
theorem cFor {tg iter : Expr} {body : List Stmt} {mi : MI} {gt : MG} {mb : MT} {pos : Pos} (n : Nat) (hp : PassesOwn (model X.prog X.w) X.A X.env X.xe) (hc : X.calm = true) (hi : SI g W X tg iter mi) (hg : SG g W X tg gt) (hb : SB g W X body mb)
    (hs : ∀ x, foldedSetIterable iter X.env x = pure x := by intro _; rfl) : SS g W X (.For tg iter body [] pos) (mFor n mi gt mb) := by
  obtain ⟨wi, pi, ri⟩ := hi
  obtain ⟨t, pg, rg⟩ := hg
  obtain ⟨tb, pb, rb⟩ := hb
  have F := ps_for (pos := pos) hp hc pi pg pb hs
  refine ⟨_, ps_or F (ps_unl F), fun p H σm h σ D R G => ?_⟩
  unfold mFor at G
  cases e : mi σm h with
  | no => rw [e] at G; exact G.elim
  | ex c fs h' =>
    rw [e] at G
    refine .inl (ri p H σm h σ _ R ?_)
    rw [e]
    exact fun p1 H1 d E1 R1 xd => G p1 H1 σ d E1 R1 xd
  | ok w h' =>
    rw [e] at G
    simp only [Res.toS] at G
    cases el : w.lk with
    | none =>
      rw [el] at G
      refine .inl (ri p H σm h σ _ R ?_)
      rw [e]
      intro p1 H1 J E1 R1 io _
      exact rd_loop rg rb n io R1 (G.mono E1)
    | some i =>
      rw [el] at G
      refine .inr (ri p H σm h σ _ R ?_)
      rw [e]
      intro p1 H1 J E1 R1 io lk
      obtain ⟨d, hd, nf, nf0⟩ := lk i el
      exact rd_loop rg rb n io R1 (GS.unl G E1 hd nf nf0)
end
end Mn
end

section
/-! Mini: comprehensions. -/
namespace Mn
open PySem L2
/-- nothing is let out -/
def W0 : WX := fun _ _ _ _ => False
section
variable {g : Gb} {W : WX} {X : Cx} {p p1 p' : List Addr} {H H1 H' : Hp} {σm : MS} {σ : St} {h h1 : MH} {Q : VK} {D : Ends}
/-! ### one reading for all contexts -/
def canE (g : Gb) (W : WX) (m : ME) : TE := fun σ H Q => ∃ p σm h, Rel g p H σm h σ ∧ GE g W σm σ p H (m σm h) Q
theorem SE.can {e : Expr} {m : ME} (a : SE g W X e m) : PE X e (canE g W m) := by
  obtain ⟨t, pe, re⟩ := a
  exact ⟨fun pins s σ H Q I ⟨p, σm, h, R, G⟩ => pe.run pins s σ H Q I (re p H σm h σ Q R G)⟩
theorem canE_ok {m : ME} : RdE g W (canE g W m) m := fun p H σm h σ Q R G => ⟨p, σm, h, R, G⟩
def canT (g : Gb) (W : WX) (m : MB) : TT := fun σ H Q => ∃ p σm h, Rel g p H σm h σ ∧ GT g W σm σ p H (m σm h) Q
def STs (g : Gb) (W : WX) (X : Cx) (es : List Expr) (m : MB) : Prop := ∃ t, PTs X es t ∧ RdT g W t m
theorem STs.can {e : List Expr} {m : MB} (a : STs g W X e m) : PTs X e (canT g W m) := by
  obtain ⟨t, pe, re⟩ := a
  exact ⟨fun pins s σ H Q I ⟨p, σm, h, R, G⟩ => pe.run pins s σ H Q I (re p H σm h σ Q R G)⟩
theorem canT_ok {m : MB} : RdT g W (canT g W m) m := fun p H σm h σ Q R G => ⟨p, σm, h, R, G⟩
def mYes : MB := fun _ h => .ok true h
theorem tsNil : STs g W X [] mYes := ⟨_, pts_nil, fun p H σm h σ Q R G => G p H (.refl _ _) R⟩
theorem tsOne {c : Expr} {m : MB} (a : ST g W X c m) : STs g W X [c] m := let ⟨t, h1, h2⟩ := a; ⟨t, pts_one h1, h2⟩
/-! ### the targets of a comprehension: its own slots alone -/
theorem wipe_set {i : Nat} {x : Option V} : ∀ {vs : List Nat} (σ : St), i ∈ vs → wipe (σ.set i x) vs = wipe σ vs
  | [], σ, hi => by simp at hi
  | v :: vs, σ, hi => by
    simp only [wipe]
    by_cases e : i ∈ vs
    · rw [wipe_set σ e]
    · have hv : i = v := by simpa [e] using hi
      subst hv
      apply List.ext_getElem?
      intro j
      by_cases hj : i = j
      · subst hj
        simp [List.getElem?_set, wipe_length]
      · rw [List.getElem?_set_ne hj, List.getElem?_set_ne hj]
        by_cases hjv : j ∈ vs
        · have n1 : ∀ (τ : St), (wipe τ vs)[j]? = if j < τ.length then some none else none := by
            intro τ
            clear hi e
            induction vs with
            | nil => simp at hjv
            | cons w ws ih =>
              simp only [wipe]
              by_cases hw : w = j
              · subst hw
                rw [List.getElem?_set]
                simp [wipe_length]
              · rw [List.getElem?_set_ne hw]
                exact ih (by simpa [Ne.symm hw] using hjv)
          rw [n1, n1]
          simp
        · rw [wipe_out hjv, wipe_out hjv, List.getElem?_set_ne hj]
theorem wipe_idem : ∀ (vs ws : List Nat) (σ : St), (∀ v ∈ ws, v ∈ vs) → wipe (wipe σ ws) vs = wipe σ vs
  | vs, [], σ, _ => rfl
  | vs, w :: ws, σ, h => by
    simp only [wipe]
    rw [wipe_set _ (h w (by simp)), wipe_idem vs ws σ fun v hv => h v (by simp [hv])]
def wipeM (σ : MS) : List Nat → MS
  | [] => σ
  | v :: vs => (wipeM σ vs).set v none
theorem wipeM_len (σ : MS) : ∀ vs : List Nat, (wipeM σ vs).length = σ.length
  | [] => rfl
  | v :: vs => by unfold wipeM; rw [List.length_set, wipeM_len σ vs]
theorem wipeM_some {σ : MS} {i : Nat} {x : Va} : ∀ {vs : List Nat}, (wipeM σ vs)[i]? = some (some x) → σ[i]? = some (some x) ∧ i ∉ vs
  | [], h => ⟨h, by simp⟩
  | v :: vs, h => by
    unfold wipeM at h
    by_cases e : v = i
    · subst e
      rw [List.getElem?_set] at h
      simp at h
    · rw [List.getElem?_set_ne e] at h
      obtain ⟨h1, h2⟩ := wipeM_some h
      exact ⟨h1, by simp [h2, Ne.symm e]⟩
theorem RS.wipe {vs : List Nat} (r : RS g p H σm σ) : RS g p H (wipeM σm vs) (L2.wipe σ vs) := ⟨by rw [wipe_length, wipeM_len, r.len], fun i v z => by
  obtain ⟨h1, h2⟩ := wipeM_some z
  obtain ⟨x, h3, h4⟩ := r.at_ i v h1
  exact ⟨x, by rw [wipe_out h2]; exact h3, h4⟩⟩
abbrev RdGw (g : Gb) (vs : List Nat) (t : TG) (m : MG) : Prop := ∀ p H σm h σ v x Q, Rel g p H σm h σ → RV g p H v x → GS g W0 p H (m v σm h) (DN fun σ' H' => wipe σ' vs = wipe σ vs → Q σ' H') → t x σ H Q
def SGw (g : Gb) (vs : List Nat) (X : Cx) (tg : Expr) (m : MG) : Prop := ∃ t, PG X tg t ∧ RdGw g vs t m
def canG (g : Gb) (vs : List Nat) (m : MG) : TG := fun x σ H Q => ∃ p σm h v, Rel g p H σm h σ ∧ RV g p H v x ∧ GS g W0 p H (m v σm h) (DN fun σ' H' => wipe σ' vs = wipe σ vs → Q σ' H')
theorem SGw.can {vs : List Nat} {e : Expr} {m : MG} (a : SGw g vs X e m) : PG X e (canG g vs m) := by
  obtain ⟨t, pe, re⟩ := a
  exact ⟨fun pins s σ H v u Q I r ⟨p, σm, h, v', R, rv, G⟩ => pe.run pins s σ H v u Q I r (re p H σm h σ v' v Q R rv G)⟩
theorem canG_ok {vs : List Nat} {m : MG} : RdGw g vs (canG g vs m) m := fun p H σm h σ v x Q R rv G => ⟨p, σm, h, v, R, rv, G⟩
theorem kSet {vs : List Nat} {i : Nat} {x : Str} {pos : Pos} (hi : i ∈ vs) (hN : X.N.Nodup) (hx0 : X.N[i]? = some x := by rfl) (hx : Loc X.env.scope x := by first | exact .inl rfl | exact .inr rfl) (hf : X.fn x = true ∨ X.env.scope.names.lookup x = some .local := by first | exact .inl rfl | exact .inr rfl) :
    SGw g vs X (.Name x pos) (mgName i) := ⟨_, pg_name hN hx0 hx hf, fun p H σm h σ v x Q R rv G => G p H _ (.refl _ _) ⟨R.h, R.s.set rv⟩ (wipe_set σ hi)⟩
def SGsw (g : Gb) (vs : List Nat) (X : Cx) (tgs : List Expr) (m : MGs) : Prop := ∃ t, PGs X tgs t ∧ ∀ p H σm h σ v x Q, Rel g p H σm h σ → RVs g p H v x → GS g W0 p H (m v σm h) (DN fun σ' H' => wipe σ' vs = wipe σ vs → Q σ' H') → t x σ H Q
theorem kNil {vs : List Nat} : SGsw g vs X [] mgNil := ⟨_, pgs_nil, fun p H σm h σ v x Q R rv G => by
  cases v with
  | nil => simp only [RVs] at rv; exact ⟨rv, G p H σ (.refl _ _) R rfl⟩
  | cons a b => exact G.elim⟩
theorem kCons {vs : List Nat} {e : Expr} {es : List Expr} {a : MG} {b : MGs} (ha : SGw g vs X e a) (hb : SGsw g vs X es b)
    (hs : (assignEach (e :: es) X.env).map (·.2) = assign e X.env :: (assignEach es X.env).map (·.2) := by rfl) : SGsw g vs X (e :: es) (mgCons a b) := by
  obtain ⟨ta, pa, ra⟩ := ha
  obtain ⟨tb, pb, rb⟩ := hb
  refine ⟨_, pgs_cons pa pb hs, fun p H σm h σ v x Q R rv G => ?_⟩
  cases v with
  | nil => exact G.elim
  | cons v r =>
    simp only [RVs] at rv
    obtain ⟨y, z, rfl, r1, r2⟩ := rv
    refine ⟨y, z, rfl, ra p H σm h σ v y _ R r1 ?_⟩
    simp only [mgCons, mSeq] at G
    cases e : a v σm h with
    | nx s' h' =>
      simp only [e] at G
      intro p' H' σ' E' R' hw
      refine rb p' H' s' h' σ' r z Q R' (RVs.ext E' _ _ r2) ?_
      have G' := G.mono E'
      cases e2 : b r s' h' with
      | nx s2 h2 => rw [e2] at G'; exact fun p2 H2 σ2 E2 R2 hw2 => G' p2 H2 σ2 E2 R2 (hw2.trans hw)
      | rt v h' => rw [e2] at G'; exact G'
      | bk v h' => rw [e2] at G'; exact G'
      | ct v h' => rw [e2] at G'; exact G'
      | ex c fs s' h' => rw [e2] at G'; exact G'
      | no => rw [e2] at G'; exact G'
    | rt v h' => simp only [e] at G; exact G
    | bk s' h' => simp only [e] at G; exact G
    | ct s' h' => simp only [e] at G; exact G
    | ex c fs s' h' => simp only [e] at G; exact G
    | no => simp only [e] at G; exact G
theorem kTup {vs : List Nat} {es : List Expr} {k n : Nat} {pos : Pos} {ms : MGs} (hK : X.K = g.K) (hc : X.calm = true) (hs : SGsw g vs X es ms) (hn : (assignEach es X.env).length = n := by rfl) (hst : (assignEach es X.env).findIdx? (·.1) = none := by rfl) : SGw g vs X (.Tuple es k pos) (mgTup n ms) := by
  obtain ⟨t, pa, ra⟩ := hs
  refine ⟨_, pg_tup hc pa hn hst, fun p H σm h σ v x Q R rv G => ?_⟩
  unfold mgTup at G
  split at G
  · rename_i xs
    obtain ⟨a, ys, e1, e2, e3⟩ := tupAt_ok rv
    split at G
    · rename_i hl
      exact ⟨a, ys, e1, .inl (.inl e2), by rw [← e3.len]; exact hl, ra p H σm h σ xs ys Q R e3 G⟩
    · exact G.elim
  · exact G.elim
/-! ### [e for t in iter if ..] -/
/-- d: the new list; the rest from the i-th turn on -/
def loopC (it : IT) (gt : MG) (tt : MB) (te : ME) (σ : MS) (d : Nat) (n : Nat) : Nat → MH → Res Va := fun i h => match n with
  | 0 => .no
  | n + 1 => match it.at i h with
    | none => .no
    | some none => .ok (.ref d) h
    | some (some v) => match gt v σ h with
      | .nx σ1 h1 => match tt σ1 h1 with
        | .ok false h2 => loopC it gt tt te σ d n (i + 1) h2
        | .ok true h2 => match te σ1 h2 with
          | .ok y h3 => match h3.get d with
            | some (.lst acc) => if acc.length < sizeLine then loopC it gt tt te σ d n (i + 1) (h3.put d (.lst (acc ++ [y]))) else .no
            | _ => .no
          | _ => .no
        | _ => .no
      | _ => .no
def unlE (i : Nat) (r : Res Va) : Res Va := match r with
  | .ok v h => match h.get i with
    | some (.lck ks) => .ok v (h.put i (.dic ks))
    | _ => .no
  | _ => .no
def mLc (n : Nat) (own : List Nat) (mi : MI) (gt : MG) (tt : MB) (te : ME) : ME := fun σ h => (mi σ h).bind fun w h1 => match w.lk with
  | none => loopC w.it gt tt te (wipeM σ own) h1.n n 0 (h1.push (.lst []))
  | some i => unlE i (loopC w.it gt tt te (wipeM σ own) h1.n n 0 (h1.push (.lst [])))

/-- what the comprehension's end asks, the frame's slots as they were -/
theorem rd_loopC {it : IT} {J : It} {gt : MG} {tt : MB} {te : ME} {own : List Nat} (n : Nat) {Da : Addr} {d : Nat} {p0 : List Addr} {H0 : Hp} (io : ItOk g p0 H0 it J) (E0 : Ext p0 H0 p H) (hd : p[d]? = some Da) (R : RH g p h H) (S : RS g p H (wipeM σm own) (wipe σ own))
    (G : GV g p H (loopC it gt tt te (wipeM σm own) d n 0 h) Q) :
    ∃ Wv : Nat → Nat → Hp → Prop, (∃ m, Wv 0 m H) ∧ ∀ i m H, Wv i m H → (J.stop i H ∧ Q (.ref Da) H) ∨ (J.go i H ∧ ∃ Nx : Hp → Prop, (∀ H', Nx H' → ∃ m', m' < m ∧ Wv (i + 1) m' H') ∧
      ∀ x H', J.yld i H x H' → canG g own gt x (wipe σ own) H' fun σ2 H2 => wipe σ2 own = wipe σ own ∧ canT g W0 tt σ2 H2 fun b H3 =>
        if b = true then canE g W0 te σ2 H3 fun y H4 => ∃ acc, H4 Da = some (.lst acc) ∧ acc.length < sizeLine ∧ Nx (upd H4 Da (.lst (acc ++ [y]))) else Nx H3) := by
  refine ⟨fun i m H1 => ∃ p1 h1, Ext p H p1 H1 ∧ RH g p1 h1 H1 ∧ GV g p1 H1 (loopC it gt tt te (wipeM σm own) d m i h1) Q, ⟨n, p, h, .refl _ _, R, G⟩, ?_⟩
  rintro i m H1 ⟨p1, h1, E1, R1, G1⟩
  cases m with
  | zero => exact G1.elim
  | succ m =>
    have o := io p1 H1 h1 i (E0.trans E1) R1
    unfold loopC at G1
    cases e : it.at i h1 with
    | none => rw [e] at G1; exact G1.elim
    | some r =>
      cases r with
      | none =>
        rw [e] at G1 o
        exact .inl ⟨o, G1 p1 H1 _ (.refl _ _) R1 (by simp only [RV]; exact ⟨Da, rfl, E1.ix _ _ hd⟩)⟩
      | some v =>
        rw [e] at o
        simp only [e] at G1
        refine .inr ⟨o.1, fun H' => ∃ p2 h2, Ext p H p2 H' ∧ RH g p2 h2 H' ∧ GV g p2 H' (loopC it gt tt te (wipeM σm own) d m (i + 1) h2) Q, fun H' q => ⟨m, Nat.lt_succ_self m, q⟩, fun x H2 y => ?_⟩
        obtain ⟨E2, R2, rv⟩ := o.2 x H2 y
        refine ⟨p1, wipeM σm own, h1, v, ⟨R2, (S.ext E1).ext E2⟩, rv, ?_⟩
        cases e1 : gt v (wipeM σm own) h1 with
        | nx s2 h2 =>
          simp only [e1] at G1
          intro p3 H3 σ3 E3 R3 hw
          have E13 : Ext p H p3 H3 := E1.trans (E2.trans E3)
          refine ⟨by rw [hw]; exact wipe_idem own own σ fun v hv => hv, p3, s2, h2, R3, ?_⟩
          have G3 : GV g p3 H3 _ Q := show GV g p3 H3 _ Q from by
            have : ∀ {r : Res Va}, GV g p1 H1 r Q → GV g p3 H3 r Q := fun {r} q => by
              cases r with
              | ok v h' => exact fun p' H' x E' R' rv => q p' H' x ((E2.trans E3).trans E') R' rv
              | ex c fs h' => exact q
              | no => exact q
            exact this G1
          cases e2 : tt s2 h2 with
          | no => simp only [e2] at G3; exact G3.elim
          | ex c fs h' => simp only [e2] at G3; exact G3.elim
          | ok b h4 =>
            intro p4 H4 E4 R4
            have mv : ∀ {r : Res Va} {pa pb : List Addr} {Ha Hb : Hp}, Ext pa Ha pb Hb → GV g pa Ha r Q → GV g pb Hb r Q := fun {r pa pb Ha Hb} E q => by
              cases r with
              | ok v h' => exact fun p' H' x E' R' rv => q p' H' x (E.trans E') R' rv
              | ex c fs h' => exact q
              | no => exact q
            cases b with
            | false =>
              simp only [e2] at G3
              rw [if_neg (by simp)]
              exact ⟨p4, h4, E13.trans E4, R4.h, mv E4 G3⟩
            | true =>
              simp only [e2] at G3
              rw [if_pos rfl]
              refine ⟨p4, s2, h4, R4, ?_⟩
              cases e3 : te s2 h4 with
              | no => simp only [e3] at G3; exact G3.elim
              | ex c fs h' => simp only [e3] at G3; exact G3.elim
              | ok y5 h5 =>
                intro p5 H5 x5 E5 R5 rv5
                simp only [e3] at G3
                have E15 := (E13.trans E4).trans E5
                cases e4 : h5.get d with
                | none => simp only [e4] at G3; exact G3.elim
                | some ob =>
                  cases ob with
                  | lst acc =>
                    simp only [e4] at G3
                    by_cases hl : acc.length < sizeLine
                    · rw [if_pos hl] at G3
                      obtain ⟨b, ys, q1, q2, q3, q4⟩ := R5.h.setL e4
                      rw [E15.ix _ _ hd] at q1; cases q1
                      obtain ⟨E6, R6⟩ := q4 (acc ++ [y5]) (ys ++ [x5]) (q3.append (show RVs g p5 H5 [y5] [x5] by simp only [RVs]; exact ⟨x5, [], rfl, rv5, rfl⟩))
                      exact ⟨ys, q2, by rw [← q3.len]; exact hl, p5, _, E15.trans E6, R6, mv (E4.trans (E5.trans E6)) G3⟩
                    · rw [if_neg hl] at G3; exact G3.elim
                  | _ => simp only [e4] at G3; exact G3.elim
        | ex c fs s2 h2 => simp only [e1] at G1; exact G1.elim
        | rt v h' => simp only [e1] at G1; exact G1.elim
        | bk v h' => simp only [e1] at G1; exact G1.elim
        | ct v h' => simp only [e1] at G1; exact G1.elim
        | no => simp only [e1] at G1; exact G1.elim
theorem GV.unl {r : Res Va} {i : Nat} {d : Addr} {p0 : List Addr} {H0 : Hp} (G : GV g p0 H0 (unlE i r) Q) (E0 : Ext p0 H0 p H) (hd : p[i]? = some d) (nf : NoFz X d) (nf0 : ∀ o u, H0 d ≠ some (.frz o u)) : GV g p H r (fun v => Un X (Q v)) := by
  cases r with
  | ok v h' =>
    simp only [unlE] at G
    cases e : h'.get i with
    | none => simp only [e] at G; exact G.elim
    | some o =>
      cases o with
      | lck ks =>
        simp only [e] at G
        intro p' H' x E' R' rvx
        obtain ⟨od, u, e1, E2, R2, rv⟩ := R'.unlock e (E'.ix i d hd) (E0.trans E') nf0
        exact ⟨d, od, u, e1, nf, G p' _ x E2 R2 (rv _ _ rvx)⟩
      | _ => simp only [e] at G; exact G.elim
  | ex c fs h' => exact G.elim
  | no => exact G.elim
def tLcM (g : Gb) (X : Cx) (wi : TI) (own : List Nat) (gt : MG) (tt : MB) (te : ME) : TE := fun σ H Q => tLc wi (canG g own gt) (canT g W0 tt) (canE g W0 te) own σ H Q ∨ tLc wi (canG g own gt) (canT g W0 tt) (canE g W0 te) own σ H (fun v => Un X (Q v))
theorem GV.mono {r : Res Va} (G : GV g p H r Q) (E : Ext p H p1 H1) : GV g p1 H1 r Q := by
  cases r with
  | ok v h' => exact fun p' H' x E' R' rv => G p' H' x (E.trans E') R' rv
  | ex c fs h' => exact G
  | no => exact G
/-- it lets nothing out behind the walk's making -/
def mLcP (n : Nat) (own : List Nat) (mi : MI) (gt : MG) (tt : MB) (te : ME) : ME := fun σ h => (mi σ h).bind fun w h1 => match w.lk with
  | none => Plain (loopC w.it gt tt te (wipeM σ own) h1.n n 0 (h1.push (.lst [])))
  | some i => Plain (unlE i (loopC w.it gt tt te (wipeM σ own) h1.n n 0 (h1.push (.lst []))))

theorem rd_lc {wi : TI} {mi : MI} {own : List Nat} {gt : MG} {tt : MB} {te : ME} (n : Nat) (ri : RdI g W X wi mi) : RdE g W (tLcM g X wi own gt tt te) (mLcP n own mi gt tt te) := fun p H σm h σ Q R G => by
  unfold mLcP at G
  cases e : mi σm h with
  | no => rw [e] at G; exact G.elim
  | ex c fs h' =>
    rw [e] at G
    refine .inl (ri p H σm h σ _ R ?_)
    rw [e]
    exact G
  | ok w h' =>
    rw [e] at G
    simp only [Res.bind] at G
    cases el : w.lk with
    | none =>
      rw [el] at G
      refine .inl (ri p H σm h σ _ R ?_)
      rw [e]
      intro p1 H1 J E1 R1 io _ Da hn
      obtain ⟨E2, R2, hi⟩ := R1.h.new (o := .lst []) (u := .lst []) hn ⟨[], rfl, by simp [RVs]⟩
      exact rd_loopC n io E2 hi R2 (R1.s.ext E2).wipe ((G.plain R).mono (E1.trans E2))
    | some i =>
      rw [el] at G
      refine .inr (ri p H σm h σ _ R ?_)
      rw [e]
      intro p1 H1 J E1 R1 io lk Da hn
      obtain ⟨d, hd, nf, nf0⟩ := lk i el
      obtain ⟨E2, R2, hi⟩ := R1.h.new (o := .lst []) (u := .lst []) hn ⟨[], rfl, by simp [RVs]⟩
      exact rd_loopC n io E2 hi R2 (R1.s.ext E2).wipe ((G.plain R).unl (E1.trans E2) (E2.ix i d hd) nf nf0)
theorem sLc {elt tg iter : Expr} {ifs : List Expr} {scope : Scope} {own : List (Str × Nat)} {pos : Pos} {mi : MI} {gt : MG} {tt : MB} {te : ME} (n : Nat) (hc : X.calm = true) (hN : X.N.Nodup) (hi : SI g W X tg iter mi) (ok : BlkOk X.N X.env.scope scope own)
    (hg : ∀ (s : Shared) (H : Hp) (C : Addr) (cl : List (Str × Addr)) (fp : List Addr), SGw g (own.map (·.2)) (X.blk s H scope (compEnvC scope cl C X.env) fp) tg gt) (ht : ∀ (s : Shared) (H : Hp) (C : Addr) (cl : List (Str × Addr)) (fp : List Addr), STs g W0 (X.blk s H scope (compEnvC scope cl C X.env) fp) ifs tt)
    (he : ∀ (s : Shared) (H : Hp) (C : Addr) (cl : List (Str × Addr)) (fp : List Addr), SE g W0 (X.blk s H scope (compEnvC scope cl C X.env) fp) elt te) (hs : ∀ x, foldedSetIterable iter X.env x = pure x := by intro _; rfl) :
    SE g W X (.ListComp elt [⟨tg, iter, ifs, 0⟩] scope pos) (mLcP n (own.map (·.2)) mi gt tt te) := by
  obtain ⟨wi, pi, ri⟩ := hi
  have F := pe_lc (pos := pos) hc hN pi ok (fun s H C cl fp => (hg s H C cl fp).can) (fun s H C cl fp => (ht s H C cl fp).can) (fun s H C cl fp => (he s H C cl fp).can) hs
  exact ⟨_, pe_or F (pe_unl F), rd_lc n ri⟩
/-- name = [..] on one line -/
theorem cSetLc {i : Nat} {y : Str} {py spos : Pos} {elt tg iter : Expr} {ifs : List Expr} {scope : Scope} {own : List (Str × Nat)} {pos : Pos} {mi : MI} {gt : MG} {tt : MB} {te : ME} (n : Nat) (hc : X.calm = true) (hN : X.N.Nodup) (hi : SI g W X tg iter mi) (ok : BlkOk X.N X.env.scope scope own)
    (hg : ∀ (s : Shared) (H : Hp) (C : Addr) (cl : List (Str × Addr)) (fp : List Addr), SGw g (own.map (·.2)) (X.blk s H scope (compEnvC scope cl C X.env) fp) tg gt) (ht : ∀ (s : Shared) (H : Hp) (C : Addr) (cl : List (Str × Addr)) (fp : List Addr), STs g W0 (X.blk s H scope (compEnvC scope cl C X.env) fp) ifs tt)
    (he : ∀ (s : Shared) (H : Hp) (C : Addr) (cl : List (Str × Addr)) (fp : List Addr), SE g W0 (X.blk s H scope (compEnvC scope cl C X.env) fp) elt te)
    (hsw : swapsWith (.ListComp elt [⟨tg, iter, ifs, 0⟩] scope pos) (some (.Name y py)) spos.line X.env = pure true := by exact sw_true rfl rfl rfl (by decide +kernel))
    (hyi : X.N[i]? = some y := by rfl) (hyl : X.env.scope.names.lookup y = some .local := by rfl) (hs : ∀ x, foldedSetIterable iter X.env x = pure x := by intro _; rfl) :
    SS g W X (.Assign [.Name y py] (.ListComp elt [⟨tg, iter, ifs, 0⟩] scope pos) spos) (mSet i (mLcP n (own.map (·.2)) mi gt tt te)) := by
  obtain ⟨wi, pi, ri⟩ := hi
  have F := ps_setLc (pos := pos) (spos := spos) hc hN hyi hyl hsw pi ok (fun s H C cl fp => (hg s H C cl fp).can) (fun s H C cl fp => (ht s H C cl fp).can) (fun s H C cl fp => (he s H C cl fp).can) hs
  refine ⟨_, ps_or F (ps_unl F), fun p H σm h σ D R G => ?_⟩
  have q := rd_set (i := i) (rd_lc (own := own.map (·.2)) (gt := gt) (tt := tt) (te := te) n ri) p H σm h σ D R G
  rcases q with q | q
  · exact .inl q
  · refine .inr ?_
    exact q
end
end Mn
end

section
/-! Mini: defs and their calls (where no repr runs around). -/
namespace Mn
open PySem L2
/-- as FnOk, where nothing around is being shown -/
structure FnG (P : Program) (w : World) (K : PySem.W.Frag) (mg : Str → Option Value) (base : Heap) (k : Nat) (f : Addr) (fd : FuncData) (ps : List Str) (sp : Sp) : Prop where
  len : ∀ vs H Q E, sp vs H Q E → vs.length = ps.length
  run : ∀ (A : Around) (outer : List Env) (s : Shared) (H : Hp) (args : Args) (us : List Value) (vs : List V) (Q : VK) (E : XK), A.guards = some [] → Room k A → Env0 P w K mg base A outer s H → BindsTo s fd args (ps.zip us) → Vals vs us → sp vs H Q E →
    codeAny (model P w) A (.call (.ref f) args) (CR (L2.CX P w) outer P w H s Q E) s
theorem FnG.mono {P : Program} {w : World} {K : PySem.W.Frag} {mg : Str → Option Value} {base : Heap} {j k : Nat} {f : Addr} {fd : FuncData} {ps : List Str} {sp : Sp} (F : FnG P w K mg base j f fd ps sp) (h : j ≤ k) : FnG P w K mg base k f fd ps sp :=
  ⟨F.len, fun A outer s H args us vs Q E g hr => F.run A outer s H args us vs Q E g (hr.mono h)⟩
section
variable {X : Cx} {k : Nat} {f C : Addr} {fd : FuncData} {ps : List Str} {sp : Sp} {E : St → XK} {x m : Str} {p pos apos : Pos} {e o : Expr} {es : List Expr} {ta : TE} {t : TA}
theorem go_fn {pins : List (Addr × Obj)} {σ : St} {H : Hp} {s : Shared} {Q : VK} {us : List Value} {vs : List V} (F : FnG X.prog X.w X.K X.mg X.base k f fd ps sp) (hG : X.A.guards = some []) (hr : Room k X.A) (hb : Binds X.K fd ps []) (hx : PassesAt (L2.CX X.prog X.w) X σ (E σ))
    (I : Inv X pins σ H s) (r : Vals vs us) (h : sp vs H Q (E σ)) : wpAny (model X.prog X.w) X.A (call (.ref f) us) (EP X pins σ Q) X.xe s := by
  have hl : us.length = ps.length := by rw [← r.length]; exact F.len _ _ _ _ h
  have b := hb s us I.kIn (by simpa using hl)
  simp only [List.append_nil] at b
  refine wpAny_call (codeAny_mono (F.run X.A X.stack s H ⟨us, []⟩ us vs Q (E σ) hG hr I.env0 b r h) fun res s' hq => ?_)
  match res, hq with
  | .error e, hq => exact hx pins H s e s' I hq
  | .ok (.ret u), hq => exact I.after hq
  | .ok .next, hq => exact hq.elim
  | .ok .brk, hq => exact hq.elim
  | .ok .cont, hq => exact hq.elim
/-- f(e, ..) -/
theorem pe_fn (F : FnG X.prog X.w X.K X.mg X.base k f fd ps sp) (hG : X.A.guards = some []) (hr : Room k X.A) (hg : Gl X x) (hm : X.mg x = some (.ref f)) (hk : PySem.W.keepIn X.K (.ref f) = true) (hb : Binds X.K fd ps []) (hx : ∀ σ, PassesAt (L2.CX X.prog X.w) X σ (E σ))
    (ha : PA X (e :: es) t) (hdb : (x == ("__debug__" : Str)) = false) (he : starEach (e :: es) X.env = (false, eval e X.env) :: starEach es X.env) (hpl : (backTo pos (starEach es X.env)).any (·.1) = false) :
    PE X (.Call (.Name x p) (e :: es) [] pos) (tCallS sp E t) := ⟨fun pins s σ H Q I h => by
  refine wpAny_Call_Name_kw (ld_glob I hg hm ?_ hdb)
  exact PySem.W.callWith_K (h₀ := X.base) I.ok.mod.kin hk (thn (ha.run pos pins s σ H _ I h) fun us s1 ⟨vs, H1, I1, r, q⟩ => ⟨I1.kIn, go_fn F hG hr hb (hx σ) I1 r q⟩) he hpl⟩
/-- f() -/
theorem pe_fn0 (F : FnG X.prog X.w X.K X.mg X.base k f fd ps sp) (hG : X.A.guards = some []) (hr : Room k X.A) (hg : Gl X x) (hm : X.mg x = some (.ref f)) (hk : PySem.W.keepIn X.K (.ref f) = true) (hb : Binds X.K fd ps []) (hx : ∀ σ, PassesAt (L2.CX X.prog X.w) X σ (E σ))
    (hdb : (x == ("__debug__" : Str)) = false) : PE X (.Call (.Name x p) [] [] pos) (tCallS sp E tNil) := ⟨fun pins s σ H Q I h => by
  refine wpAny_Call_Name_kw (ld_glob I hg hm ?_ hdb)
  exact PySem.W.callWith_K0 I.kIn hk (go_fn (us := []) F hG hr hb (hx σ) I .nil h)⟩
/-- o.m(e, ..) of an instance -/
def tMethS (C : Addr) (m : Str) (sp : Sp) (E : St → XK) (ta : TE) (t : TA) : TE := fun σ H Q => ta σ H fun x H1 => ∃ a dx fs, x = .ref a ∧ H1 a = some (.ins C dx fs) ∧ fs.lookup m = none ∧ t σ H1 fun vs H2 => sp (x :: vs) H2 Q (E σ)
theorem pe_mth {pl : Sem Bool} (he : PE X o ta) (c : Cls X.K C) (hm : Meth X.K C m f) (F : FnG X.prog X.w X.K X.mg X.base k f fd ps sp) (hG : X.A.guards = some []) (hr : Room k X.A) (hb : Binds X.K fd ps []) (hx : ∀ σ, PassesAt (L2.CX X.prog X.w) X σ (E σ)) (ha : PA X (e :: es) t)
    (hst : starEach (e :: es) X.env = (false, eval e X.env) :: starEach es X.env) (hpl : (backTo pos (starEach es X.env)).any (·.1) = false)
    (ht : eval (.Call (.Attribute o m apos) (e :: es) [] pos) X.env = (do
      let ov ← eval o X.env
      standAt apos.atName
      let (f, first) ← holding [ov] (getMethod ov m pl)
      callWith pos f first (backTo pos (starEach (e :: es) X.env)) (backToKw pos (keywordEach [] X.env)))) :
    PE X (.Call (.Attribute o m apos) (e :: es) [] pos) (tMethS C m sp E ta t) := ⟨fun pins s σ H Q I h => by
  refine PySem.W.methodCall_KW (pl := pl) (thn (he.run pins s σ H _ I h) fun u s1 hu => ?_) ht
  obtain ⟨x, H1, I1, rx, a, dx, fs, rfl, ea, l, q⟩ := hu
  obtain rfl : u = Value.ref a := rx
  refine getmeth_ok I1 ea c hm l ?_
  exact PySem.W.callWith_K (first := [.ref a]) (h₀ := X.base) I.ok.mod.kin hm.kp (thn (ha.run pos pins s1 σ H1 _ I1 q) fun us s2 ⟨vs, H2, I2, r, q2⟩ => ⟨I2.kIn, go_fn (us := .ref a :: us) (vs := .ref a :: vs) F hG hr hb (hx σ) I2 (.cons rfl r) q2⟩) hst hpl⟩
theorem pe_mth0 {pl : Sem Bool} (he : PE X o ta) (c : Cls X.K C) (hm : Meth X.K C m f) (F : FnG X.prog X.w X.K X.mg X.base k f fd ps sp) (hG : X.A.guards = some []) (hr : Room k X.A) (hb : Binds X.K fd ps []) (hx : ∀ σ, PassesAt (L2.CX X.prog X.w) X σ (E σ))
    (ht : eval (.Call (.Attribute o m apos) [] [] pos) X.env = (do
      let ov ← eval o X.env
      standAt apos.atName
      let (f, first) ← holding [ov] (getMethod ov m pl)
      callWith pos f first (backTo pos (starEach [] X.env)) (backToKw pos (keywordEach [] X.env)))) :
    PE X (.Call (.Attribute o m apos) [] [] pos) (tMethS C m sp E ta tNil) := ⟨fun pins s σ H Q I h => by
  refine PySem.W.methodCall_KW (pl := pl) (thn (he.run pins s σ H _ I h) fun u s1 hu => ?_) ht
  obtain ⟨x, H1, I1, rx, a, dx, fs, rfl, ea, l, q⟩ := hu
  obtain rfl : u = Value.ref a := rx
  refine getmeth_ok I1 ea c hm l ?_
  exact PySem.W.callWith_K0 (first := [.ref a]) I1.kIn hm.kp (go_fn (us := [.ref a]) (vs := [.ref a]) F hG hr hb (hx σ) I1 (.cons rfl .nil) q)⟩
/-- C(e, ..): a new instance, its dict, then __init__ -/
def tMakeS (C : Addr) (sp : Sp) (E : St → XK) (t : TA) : TE := fun σ H Q => t σ H fun vs H1 => ∀ x dx, H1 x = none → H1 dx = none → dx ≠ x →
  sp (.ref x :: vs) (upd (upd H1 dx (.own x)) x (.ins C dx [])) (fun v H2 => v = .non ∧ Q (.ref x) H2) (E σ)
theorem go_make {pins : List (Addr × Obj)} {σ : St} {H : Hp} {s : Shared} {Q : VK} {us : List Value} {vs : List V} (M : Mk X.K C f) (F : FnG X.prog X.w X.K X.mg X.base k f fd ps sp) (hG : X.A.guards = some []) (hr : Room (k + 1) X.A) (hb : Binds X.K fd ps [])
    (hx : PassesAt (L2.CX X.prog X.w) X σ (E σ)) (I : Inv X pins σ H s) (r : Vals vs us)
    (h : ∀ x dx, H x = none → H dx = none → dx ≠ x → sp (.ref x :: vs) (upd (upd H dx (.own x)) x (.ins C dx [])) (fun v H2 => v = .non ∧ Q (.ref x) H2) (E σ)) :
    wpAny (model X.prog X.w) X.A (call (.ref C) us) (EP X pins σ Q) X.xe s := by
  have n0 : H s.heap.objs.size = none := I.hok.fresh (Nat.le_refl _)
  have n1 : H (s.heap.objs.size + 1) = none := I.hok.fresh (Nat.le_succ _)
  have hsp := h _ _ n1 n0 (Nat.ne_of_lt (Nat.lt_succ_self _))
  have J := Inv.made (C := C) I
  have r' : Vals (V.ref (s.heap.objs.size + 1) :: vs) (Value.ref (s.heap.objs.size + 1) :: us) := .cons rfl r
  have hl : (Value.ref (s.heap.objs.size + 1) :: us).length = ps.length := by rw [← r'.length]; exact F.len _ _ _ _ hsp
  have b := hb _ (Value.ref (s.heap.objs.size + 1) :: us) J.kIn (by simpa using hl)
  simp only [List.append_nil] at b
  refine wpAny_call (make_map (f := f) I.kIn M.makes M.init (beq_iff_eq.mp M.fn) (codeAny_mono (F.run _ X.stack _ _ ⟨_, []⟩ _ _ _ (E σ) ?_ (hr.make C us []) (J.env0.make C us []) b r' hsp) fun res s' hq => ?_))
  · show (X.A.under (.builtin "type.__call__" ⟨.ref C :: us, []⟩)).guards = some []
    have e : (Code.builtin "type.__call__" ⟨.ref C :: us, []⟩).guards = [] := by rfl
    show pushGuards (Code.builtin "type.__call__" ⟨.ref C :: us, []⟩).guards X.A.guards = some []
    rw [e, hG]
    rfl
  · match res, hq with
    | .error e, hq => exact hx pins _ _ e s' J hq
    | .ok .next, hq => exact hq.elim
    | .ok .brk, hq => exact hq.elim
    | .ok .cont, hq => exact hq.elim
    | .ok (.ret u), hq =>
      obtain ⟨v, H', I3, rv, ev, q3⟩ := J.after hq
      subst ev
      exact ⟨rv, ⟨V.ref (s.heap.objs.size + 1), H', I3, rfl, q3⟩⟩
theorem pe_mk (M : Mk X.K C f) (F : FnG X.prog X.w X.K X.mg X.base k f fd ps sp) (hG : X.A.guards = some []) (hr : Room (k + 1) X.A) (hg : Gl X x) (hm : X.mg x = some (.ref C)) (hb : Binds X.K fd ps []) (hx : ∀ σ, PassesAt (L2.CX X.prog X.w) X σ (E σ))
    (ha : PA X (e :: es) t) (hdb : (x == ("__debug__" : Str)) = false) (he : starEach (e :: es) X.env = (false, eval e X.env) :: starEach es X.env) (hpl : (backTo pos (starEach es X.env)).any (·.1) = false) :
    PE X (.Call (.Name x p) (e :: es) [] pos) (tMakeS C sp E t) := ⟨fun pins s σ H Q I h => by
  refine wpAny_Call_Name_kw (ld_glob I hg hm ?_ hdb)
  exact PySem.W.callWith_K (h₀ := X.base) I.ok.mod.kin M.kp (thn (ha.run pos pins s σ H _ I h) fun us s1 ⟨vs, H1, I1, r, q⟩ => ⟨I1.kIn, go_make M F hG hr hb (hx σ) I1 r q⟩) he hpl⟩
end
end Mn
end

section
/-! Mini: defs as small functions; calls, instances, fields. -/
namespace Mn
open PySem L2
section
variable {g : Gb} {W : WX} {X : Cx} {p p1 p' : List Addr} {H H1 H' : Hp} {σm : MS} {σ : St} {h h1 : MH} {Q : VK} {D : Ends} {E : XK}
/-- the end of a def's small run -/
def GF (g : Gb) (p : List Addr) (H : Hp) (r : Res Va) (Q : VK) (E : XK) : Prop := match r with
  | .ok v h' => ∀ p' H' x, Ext p H p' H' → RH g p' h' H' → RV g p' H' v x → Q x H'
  | .ex c fs h' => ∀ p' H' d, Ext p H p' H' → RH g p' h' H' → XD g p' H' d fs → E (.ref (g.cl c)) d H'
  | .no => False
/-- the promise of a def whose small run is m -/
def spM (g : Gb) (n : Nat) (m : FnM) : Sp := fun vs H Q E => vs.length = n ∧ ∃ p h as, RH g p h H ∧ RVs g p H as vs ∧ GF g p H (m as h) Q E
def startM (n : Nat) (as : List Va) : MS := as.map some ++ List.replicate (n - as.length) none
def mkFn (n np : Nat) (b : MT) : FnM := fun as h => if as.length = np then match b (startM n as) h with
  | .rt v h' => .ok v h'
  | .nx _ h' => .ok .non h'
  | .ex c fs _ h' => .ex c fs h'
  | _ => .no
  else .no
theorem mkFn_len {n np : Nat} {b : MT} {as : List Va} (e : as.length ≠ np) : mkFn n np b as h = .no := by unfold mkFn; rw [if_neg e]
theorem RS.start {N : List Str} {as : List Va} {vs : List V} (r : RVs g p H as vs) : RS g p H (startM N.length as) (L2.start N vs) := by
  have l := r.len
  refine ⟨by simp [startM, L2.start, l], fun i v e => ?_⟩
  unfold startM at e
  unfold L2.start
  by_cases hi : i < as.length
  · rw [List.getElem?_append_left (by simpa using hi), List.getElem?_map] at e
    cases q : as[i]? with
    | none => rw [q] at e; cases e
    | some a =>
      rw [q] at e
      cases e
      obtain ⟨x, hx, rx⟩ := r.get q
      exact ⟨x, by rw [List.getElem?_append_left (by rw [List.length_map, ← l]; exact hi), List.getElem?_map, hx]; rfl, rx⟩
  · rw [List.getElem?_append_right (by simpa using hi), List.getElem?_replicate] at e
    split at e <;> cases e
/-- THE RULE for a def of the text: its body as a small run -/
theorem mk_fn {P : Program} {w : World} {mg : Str → Option Value} {base : Heap} {x qual : Str} {st : Stmt} {f : Addr} {fd : FuncData} {N ps : List Str} {k : Nat} (F : Fun g.K x qual st f fd) (S : FnScope N ps (defScope st)) (b : MT) (n np : Nat) (hn : N.length = n) (hnp : ps.length = np)
    (hb : ∀ (cdv : Value) (A : Around) (outer : List Env) (s : Shared) (H : Hp) (E : XK), A.guards = some [] → Room k (A.deeper (PyProof.Rows.envOfC qual (defScope st) s.heap.objs.size f cdv)) →
      Takes (cxOf (L2.CX P w) P w g.K mg base N qual (defScope st) f cdv A outer s H E) (fun c d _ H' => E c d H') →
      PassesOwn (model P w) (A.deeper (PyProof.Rows.envOfC qual (defScope st) s.heap.objs.size f cdv)) (PyProof.Rows.envOfC qual (defScope st) s.heap.objs.size f cdv) (cxOf (L2.CX P w) P w g.K mg base N qual (defScope st) f cdv A outer s H E).xe →
      SB g (fun c d _ H' => E c d H') (cxOf (L2.CX P w) P w g.K mg base N qual (defScope st) f cdv A outer s H E) (defBody st) b) : FnG P w g.K mg base (k + 1) f fd ps (spM g np (mkFn n np b)) := by
  obtain ⟨oc, od, kV, doc, pm, an, cdv, ct, osl, rfl, lk, hcd⟩ := F.ex
  subst hn hnp
  refine ⟨fun vs H Q E q => q.1, fun A outer s H args us vs Q E hG hr e0 hbn r hsp => ?_⟩
  obtain ⟨hl, p, h, as, R, rv, G⟩ := hsp
  have KX : g.K.In s.heap := e0.mod.kin.keeps fun b o e => (e0.bs b o e).1
  have lim : s.heap.NoLimit := e0.mod.nolimit.keeps fun b o e => (e0.bs b o e).1
  have hkind : ∀ y ∈ ps.zip us, (defScope st).names.lookup y.1 = some .local ∨ ((defScope st).names.lookup y.1 = some .cell ∧ ((cellsFrom (s.heap.objs.size + 1) (defScope st).names []).lookup y.1).isSome = true) := fun ⟨n, v⟩ hy => by
    rcases S.par n (List.of_mem_zip hy).1 with q | q
    · exact .inl q
    · exact .inr ⟨q, PySem.W.cellsFrom_some _ _ _ (.inl q)⟩
  refine codeAny_call_function hr.depth (KX _ _ lk) rfl S.co S.gen rfl (PySem.W.codeRec_of KX hcd) (hbn _ _ _ _ ?_)
  refine wpAny_newFunctionEnv_cells S.kind hkind fun env he s1 xx => ?_
  subst he
  refine ⟨lim.keeps xx.toInCall.keep, codeAny_func ?_⟩
  have I : Inv (cxOf (L2.CX P w) P w g.K mg base N qual (defScope st) f cdv A outer s H E) [] (L2.start N vs) H s1 := inv_start S hr.hd e0 hl r xx
  obtain ⟨t, ht, rt⟩ := hb cdv A outer s H E hG (hr.deeper _) (takes_of rfl rfl rfl rfl) (passes_of rfl)
  have q : t { nx := fun _ H' => Q .non H', rt := Q } (L2.start N vs) H := by
    refine rt p H (startM N.length as) h (L2.start N vs) _ ⟨R, RS.start rv⟩ ?_
    unfold mkFn at G
    by_cases hn : as.length = ps.length
    · rw [if_pos hn] at G
      cases e : b (startM N.length as) h with
      | nx s' h' => simp only [e] at G; exact fun p' H' σ' E' R' => G p' H' .non E' R'.h rvNon
      | rt v h' => simp only [e] at G; exact G
      | bk s' h' => simp only [e] at G; exact G.elim
      | ct s' h' => simp only [e] at G; exact G.elim
      | ex c fs s' h' => simp only [e] at G; exact fun p' H' σ' d E' R' xd => G p' H' d E' R'.h xd
      | no => simp only [e] at G; exact G.elim
    · rw [if_neg hn] at G; exact G.elim
  refine wpAny_mono (ht.run [] s1 (L2.start N vs) H _ I q) (fun fl s' hs => ?_) fun e s' hs => hs
  match fl, hs with
  | .ret u, ⟨v, σ', H', J, rv, q⟩ => exact ⟨v, H', J.os, J.bare, J.base, J.hok, rv, q⟩
  | .next, ⟨σ', H', J, q⟩ => exact ⟨V.non, H', J.os, J.bare, J.base, J.hok, rfl, q⟩
  | .brk, ⟨_, _, _, q⟩ => exact q.elim
  | .cont, ⟨_, _, _, q⟩ => exact q.elim
/-! ### what a caller knows of a def -/
structure FnT (g : Gb) (P : Program) (w : World) (mg : Str → Option Value) (base : Heap) (k n : Nat) (x : Str) (m : FnM) : Prop where
  ex : ∃ f fd ps, mg x = some (.ref f) ∧ PySem.W.keepIn g.K (.ref f) = true ∧ Binds g.K fd ps [] ∧ FnG P w g.K mg base k f fd ps (spM g n m)
theorem FnT.mono {P : Program} {w : World} {mg : Str → Option Value} {base : Heap} {j k n : Nat} {x : Str} {m : FnM} (a : FnT g P w mg base j n x m) (h : j ≤ k) : FnT g P w mg base k n x m := by
  obtain ⟨f, fd, ps, h1, h2, h3, h4⟩ := a.ex
  exact ⟨f, fd, ps, h1, h2, h3, h4.mono h⟩
def mCallF (n : Nat) (m : FnM) (ms : MA) : ME := fun σ h => (ms σ h).bind fun vs h1 => cond (vs.length.beq n) (m vs h1) .no
theorem GE.gf {r : Res Va} {v : List Nat} (R : Rel g p H σm h σ) (G : GE g W σm σ p H r Q) : GF g p H r Q (WE W σ) := by
  cases r with
  | ok v h' => exact fun p' H' x E' R' rv => G p' H' x E' ⟨R', R.s.ext E'⟩ rv
  | ex c fs h' => exact fun p' H' d E' R' xd => G p' H' d E' ⟨R', R.s.ext E'⟩ xd
  | no => exact G
theorem sCall {x : Str} {q pos : Pos} {e : Expr} {es : List Expr} {k n : Nat} {m : FnM} {ms : MA} (hK : X.K = g.K) (hG : X.A.guards = some []) (hr : Room k X.A) (tk : Takes X W) (F : FnT g X.prog X.w X.mg X.base k n x m) (ha : SA g W X (e :: es) ms)
    (hg : Gl X x := by rfl) (hdb : (x == ("__debug__" : Str)) = false := by decide) (he : starEach (e :: es) X.env = (false, eval e X.env) :: starEach es X.env := by rfl) (hpl : (backTo pos (starEach es X.env)).any (·.1) = false := by rfl) :
    SE g W X (.Call (.Name x q) (e :: es) [] pos) (mCallF n m ms) := by
  obtain ⟨t, pa, ra⟩ := ha
  obtain ⟨f, fd, ps, h1, h2, h3, h4⟩ := F.ex
  refine ⟨_, pe_fn (E := WE W) (hK.symm ▸ h4) hG hr hg h1 (hK.symm ▸ h2) (hK.symm ▸ h3) (passAt tk) pa hdb he hpl, fun p H σm h σ Q R G => ?_⟩
  refine RdA.go ra R G fun p1 H1 vs h1 xs E1 R1 rvs G1 => ?_
  cases hb : vs.length.beq n with
  | false => rw [hb] at G1; exact G1.elim
  | true =>
    rw [hb] at G1
    exact ⟨by rw [← rvs.len]; exact Nat.eq_of_beq_eq_true hb, p1, h1, vs, R1.h, rvs, GE.gf (v := []) R1 G1⟩
theorem sCall0 {x : Str} {q pos : Pos} {k n : Nat} {m : FnM} (hK : X.K = g.K) (hG : X.A.guards = some []) (hr : Room k X.A) (tk : Takes X W) (F : FnT g X.prog X.w X.mg X.base k n x m)
    (hg : Gl X x := by rfl) (hdb : (x == ("__debug__" : Str)) = false := by decide) : SE g W X (.Call (.Name x q) [] [] pos) (mCallF n m mNil) := by
  obtain ⟨f, fd, ps, h1, h2, h3, h4⟩ := F.ex
  refine ⟨_, pe_fn0 (E := WE W) (hK.symm ▸ h4) hG hr hg h1 (hK.symm ▸ h2) (hK.symm ▸ h3) (passAt tk) hdb, fun p H σm h σ Q R G => ?_⟩
  unfold mCallF mNil at G
  simp only [Res.bind] at G
  cases hb : ([] : List Va).length.beq n with
  | false => rw [hb] at G; exact G.elim
  | true =>
    rw [hb] at G
    exact ⟨Nat.eq_of_beq_eq_true hb, p, h, [], R.h, by simp [RVs], GE.gf (v := []) R G⟩
/-! ### one of two runs -/
def mAlt (a b : ME) : ME := fun σ h => match a σ h with
  | .no => b σ h
  | r => r
theorem sAlt {e : Expr} {a b : ME} (ha : SE g W X e a) (hb : SE g W X e b) : SE g W X e (mAlt a b) := by
  obtain ⟨ta, pa, ra⟩ := ha
  obtain ⟨tb, pb, rb⟩ := hb
  refine ⟨_, pe_or pa pb, fun p H σm h σ Q R G => ?_⟩
  unfold mAlt at G
  cases q : a σm h with
  | no => rw [q] at G; exact .inr (rb p H σm h σ Q R G)
  | ok v h' => rw [q] at G; exact .inl (ra p H σm h σ Q R (by rw [q]; exact G))
  | ex c fs h' => rw [q] at G; exact .inl (ra p H σm h σ Q R (by rw [q]; exact G))
/-! ### instances -/
theorem RH.own {d x : Addr} (R : RH g p h H) (hn : H d = none) : Ext p H p (upd H d (.own x)) ∧ RH g p h (upd H d (.own x)) := by
  have ex : Ext p H p (upd H d (.own x)) := ⟨fun _ _ e => e, fun b xs e => by rw [upd_ne (ne_of_none e hn)]; exact e, fun b o u e => by rw [upd_ne (ne_of_none e hn)]; exact e⟩
  refine ⟨ex, ⟨R.len, R.nd, fun i o e => ?_, fun b hb => ?_, ?_, R.sc⟩⟩
  · obtain ⟨b, u, h1, h2, h3⟩ := R.at_ i o e
    exact ⟨b, u, h1, by rw [upd_ne (ne_of_none h2 hn)]; exact h2, h3.ext ex⟩
  · have hba : b ≠ d := fun z => R.tr b hb (z ▸ hn)
    rw [upd_ne hba]
    exact R.tr b hb
  · rcases R.scr with ⟨o', e⟩ | e
    · exact .inl ⟨o', ex.fz _ _ _ e⟩
    · exact .inr e
def mMake (c n : Nat) (m : FnM) (ms : MA) : ME := fun σ h => (ms σ h).bind fun vs h1 => cond ((vs.length + 1).beq n) (match m (.ref h1.n :: vs) (h1.push (.ins c [])) with
  | .ok .non h2 => .ok (.ref h1.n) h2
  | .ok _ _ => .no
  | .ex c fs h2 => .ex c fs h2
  | .no => .no) .no
/-- what a caller knows of a class -/
structure ClT (g : Gb) (P : Program) (w : World) (mg : Str → Option Value) (base : Heap) (k n c : Nat) (x : Str) (m : FnM) : Prop where
  ex : ∃ f fd ps, mg x = some (.ref (g.cl c)) ∧ Mk g.K (g.cl c) f ∧ Binds g.K fd ps [] ∧ FnG P w g.K mg base k f fd ps (spM g n m)
theorem ClT.mono {P : Program} {w : World} {mg : Str → Option Value} {base : Heap} {j k n c : Nat} {x : Str} {m : FnM} (a : ClT g P w mg base j n c x m) (h : j ≤ k) : ClT g P w mg base k n c x m := by
  obtain ⟨f, fd, ps, h1, h2, h3, h4⟩ := a.ex
  exact ⟨f, fd, ps, h1, h2, h3, h4.mono h⟩
theorem sMake {x : Str} {q pos : Pos} {e : Expr} {es : List Expr} {k n c : Nat} {m : FnM} {ms : MA} (hK : X.K = g.K) (hG : X.A.guards = some []) (hr : Room (k + 1) X.A) (tk : Takes X W) (F : ClT g X.prog X.w X.mg X.base k n c x m) (ha : SA g W X (e :: es) ms)
    (hg : Gl X x := by rfl) (hdb : (x == ("__debug__" : Str)) = false := by decide) (he : starEach (e :: es) X.env = (false, eval e X.env) :: starEach es X.env := by rfl) (hpl : (backTo pos (starEach es X.env)).any (·.1) = false := by rfl) :
    SE g W X (.Call (.Name x q) (e :: es) [] pos) (mMake c n m ms) := by
  obtain ⟨t, pa, ra⟩ := ha
  obtain ⟨f, fd, ps, h1, h2, h3, h4⟩ := F.ex
  refine ⟨_, pe_mk (E := WE W) (hK.symm ▸ h2) (hK.symm ▸ h4) hG hr hg h1 (hK.symm ▸ h3) (passAt tk) pa hdb he hpl, fun p H σm h σ Q R G => ?_⟩
  refine RdA.go ra R G fun p1 H1 vs h1 xs E1 R1 rvs G1 => ?_
  intro a dx na nd ne
  cases hb : (vs.length + 1).beq n with
  | false => rw [hb] at G1; exact G1.elim
  | true =>
    rw [hb] at G1
    obtain ⟨E2, R2⟩ := R1.h.own (x := a) nd
    have na2 : (upd H1 dx (.own a)) a = none := by rw [upd_ne (Ne.symm ne)]; exact na
    obtain ⟨E3, R3, hi⟩ := R2.new (o := .ins c []) (u := .ins (g.cl c) dx []) na2 ⟨dx, [], rfl, by simp [RF]⟩
    have rvs3 := RVs.ext (E2.trans E3) _ _ rvs
    refine ⟨by simp only [List.length_cons]; rw [← rvs.len]; exact Nat.eq_of_beq_eq_true hb, _, _, .ref h1.n :: vs, R3, by simp only [RVs, RV]; exact ⟨.ref a, xs, rfl, ⟨a, rfl, hi⟩, rvs3⟩, ?_⟩
    simp only [cond_true] at G1
    cases er : m (.ref h1.n :: vs) (h1.push (.ins c [])) with
    | no => simp only [er] at G1; exact G1.elim
    | ex c' fs h2 => simp only [er] at G1; exact fun p' H' d E' R' xd => G1 p' H' d ((E2.trans E3).trans E') ⟨R', R1.s.ext ((E2.trans E3).trans E')⟩ xd
    | ok v h2 =>
      cases v with
      | non =>
        simp only [er] at G1
        intro p' H' x E' R' rv
        simp only [RV] at rv
        exact ⟨rv, G1 p' H' _ ((E2.trans E3).trans E') ⟨R', R1.s.ext ((E2.trans E3).trans E')⟩ (by simp only [RV]; exact ⟨a, rfl, E'.ix _ _ hi⟩)⟩
      | _ => simp only [er] at G1; exact G1.elim
/-- a method of the class c -/
structure MtT (g : Gb) (P : Program) (w : World) (mg : Str → Option Value) (base : Heap) (k n c : Nat) (x : Str) (m : FnM) : Prop where
  ex : ∃ f fd ps, Cls g.K (g.cl c) ∧ Meth g.K (g.cl c) x f ∧ Binds g.K fd ps [] ∧ FnG P w g.K mg base k f fd ps (spM g n m)
theorem MtT.mono {P : Program} {w : World} {mg : Str → Option Value} {base : Heap} {j k n c : Nat} {x : Str} {m : FnM} (a : MtT g P w mg base j n c x m) (h : j ≤ k) : MtT g P w mg base k n c x m := by
  obtain ⟨f, fd, ps, h1, h2, h3, h4⟩ := a.ex
  exact ⟨f, fd, ps, h1, h2, h3, h4.mono h⟩
def insAt (h : MH) (c : Nat) (v : Va) : Option (List (Str × Va)) := match v with
  | .ref i => match h.get i with
    | some (.ins c' fs) => cond (c'.beq c) (some fs) none
    | _ => none
  | _ => none
theorem insAt_ok {c : Nat} {v : Va} {x : V} {fs : List (Str × Va)} (R : RH g p h H) (rv : RV g p H v x) (e : insAt h c v = some fs) : ∃ a dx ys, x = .ref a ∧ H a = some (.ins (g.cl c) dx ys) ∧ RF g p H fs ys := by
  cases v with
  | ref i =>
    simp only [RV] at rv
    obtain ⟨a, rfl, hi⟩ := rv
    simp only [insAt] at e
    cases hg : h.get i with
    | none => rw [hg] at e; cases e
    | some o =>
      rw [hg] at e
      cases o with
      | ins c' gs =>
        simp only at e
        cases hb : c'.beq c with
        | false => rw [hb] at e; cases e
        | true =>
          rw [hb] at e
          cases e
          have := Nat.eq_of_beq_eq_true hb
          subst this
          obtain ⟨b, dx, ys, q1, q2, q3⟩ := R.ins hg
          rw [hi] at q1; cases q1
          exact ⟨a, dx, ys, rfl, q2, q3⟩
      | _ => cases e
  | _ => simp [insAt] at e
def mMeth (c n : Nat) (x : Str) (m : FnM) (mo : ME) (ms : MA) : ME := fun σ h => (mo σ h).bind fun v h1 => match insAt h1 c v with
  | some fs => match fs.lookup x with
    | none => (ms σ h1).bind fun vs h2 => cond ((vs.length + 1).beq n) (m (v :: vs) h2) .no
    | some _ => .no
  | none => .no
theorem sMeth {x : Str} {o e : Expr} {es : List Expr} {apos pos : Pos} {k n c : Nat} {m : FnM} {mo : ME} {ms : MA} {pl : Sem Bool} (hK : X.K = g.K) (hG : X.A.guards = some []) (hr : Room k X.A) (tk : Takes X W) (F : MtT g X.prog X.w X.mg X.base k n c x m) (ho : SE g W X o mo) (ha : SA g W X (e :: es) ms)
    (he : starEach (e :: es) X.env = (false, eval e X.env) :: starEach es X.env := by rfl) (hpl : (backTo pos (starEach es X.env)).any (·.1) = false := by rfl)
    (ht : eval (.Call (.Attribute o x apos) (e :: es) [] pos) X.env = (do
      let ov ← eval o X.env
      standAt apos.atName
      let (f, first) ← holding [ov] (getMethod ov x pl)
      callWith pos f first (backTo pos (starEach (e :: es) X.env)) (backToKw pos (keywordEach [] X.env))) := by rfl) :
    SE g W X (.Call (.Attribute o x apos) (e :: es) [] pos) (mMeth c n x m mo ms) := by
  obtain ⟨to, po, ro⟩ := ho
  obtain ⟨t, pa, ra⟩ := ha
  obtain ⟨f, fd, ps, h1, h2, h3, h4⟩ := F.ex
  refine ⟨_, pe_mth (E := WE W) po (hK.symm ▸ h1) (hK.symm ▸ h2) (hK.symm ▸ h4) hG hr (hK.symm ▸ h3) (passAt tk) pa he hpl ht, fun p H σm h σ Q R G => ?_⟩
  refine RdE.go ro R G fun p1 H1 v h1 xv E1 R1 rv G1 => ?_
  cases q : insAt h1 c v with
  | none => rw [q] at G1; exact G1.elim
  | some fs =>
    rw [q] at G1
    obtain ⟨a, dx, ys, rfl, e2, e3⟩ := insAt_ok R1.h rv q
    cases q2 : fs.lookup x with
    | some z => simp only [q2] at G1; exact G1.elim
    | none =>
      simp only [q2] at G1
      refine ⟨a, dx, ys, rfl, e2, e3.lookup.1 q2, ?_⟩
      refine RdA.go ra R1 G1 fun p2 H2 vs h2 xs E2 R2 rvs G2 => ?_
      cases hb : (vs.length + 1).beq n with
      | false => rw [hb] at G2; exact G2.elim
      | true =>
        rw [hb] at G2
        exact ⟨by simp only [List.length_cons]; rw [← rvs.len]; exact Nat.eq_of_beq_eq_true hb, p2, h2, v :: vs, R2.h, by simp only [RVs]; exact ⟨_, xs, rfl, rv.ext E2, rvs⟩, GE.gf (v := []) R2 G2⟩
theorem sMeth0 {x : Str} {o : Expr} {apos pos : Pos} {k n c : Nat} {m : FnM} {mo : ME} {pl : Sem Bool} (hK : X.K = g.K) (hG : X.A.guards = some []) (hr : Room k X.A) (tk : Takes X W) (F : MtT g X.prog X.w X.mg X.base k n c x m) (ho : SE g W X o mo)
    (ht : eval (.Call (.Attribute o x apos) [] [] pos) X.env = (do
      let ov ← eval o X.env
      standAt apos.atName
      let (f, first) ← holding [ov] (getMethod ov x pl)
      callWith pos f first (backTo pos (starEach [] X.env)) (backToKw pos (keywordEach [] X.env))) := by rfl) :
    SE g W X (.Call (.Attribute o x apos) [] [] pos) (mMeth c n x m mo mNil) := by
  obtain ⟨to, po, ro⟩ := ho
  obtain ⟨f, fd, ps, h1, h2, h3, h4⟩ := F.ex
  refine ⟨_, pe_mth0 (E := WE W) po (hK.symm ▸ h1) (hK.symm ▸ h2) (hK.symm ▸ h4) hG hr (hK.symm ▸ h3) (passAt tk) ht, fun p H σm h σ Q R G => ?_⟩
  refine RdE.go ro R G fun p1 H1 v h1 xv E1 R1 rv G1 => ?_
  cases q : insAt h1 c v with
  | none => rw [q] at G1; exact G1.elim
  | some fs =>
    rw [q] at G1
    obtain ⟨a, dx, ys, rfl, e2, e3⟩ := insAt_ok R1.h rv q
    cases q2 : fs.lookup x with
    | some z => simp only [q2] at G1; exact G1.elim
    | none =>
      simp only [q2, mNil, Res.bind] at G1
      refine ⟨a, dx, ys, rfl, e2, e3.lookup.1 q2, ?_⟩
      cases hb : (([] : List Va).length + 1).beq n with
      | false => rw [hb] at G1; exact G1.elim
      | true =>
        rw [hb] at G1
        exact ⟨Nat.eq_of_beq_eq_true hb, p1, h1, [v], R1.h, by simp only [RVs]; exact ⟨_, [], rfl, rv, rfl⟩, GE.gf (v := []) R1 G1⟩
/-! ### fields -/
def FldT (g : Gb) (c : Nat) (f : Str) : Prop := Cls g.K (g.cl c) ∧ NoAttr g.K (g.cl c) f
def mFld (c : Nat) (f : Str) (mo : ME) : ME := fun σ h => (mo σ h).bind fun v h1 => match insAt h1 c v with
  | some fs => match fs.lookup f with
    | some w => .ok w h1
    | none => .no
  | none => .no
theorem sFld {e : Expr} {f : Str} {pos : Pos} {c : Nat} {mo : ME} (hK : X.K = g.K) (F : FldT g c f) (ho : SE g W X e mo) (hb : attributeBase e f X.env (eval e X.env) = eval e X.env := by rfl) : SE g W X (.Attribute e f pos) (mFld c f mo) := by
  obtain ⟨to, po, ro⟩ := ho
  refine ⟨_, pe_fld po hb, fun p H σm h σ Q R G => ?_⟩
  refine RdE.go ro R G fun p1 H1 v h1 xv E1 R1 rv G1 => ?_
  cases q : insAt h1 c v with
  | none => rw [q] at G1; exact G1.elim
  | some fs =>
    rw [q] at G1
    obtain ⟨a, dx, ys, rfl, e2, e3⟩ := insAt_ok R1.h rv q
    cases q2 : fs.lookup f with
    | none => simp only [q2] at G1; exact G1.elim
    | some w =>
      simp only [q2] at G1
      obtain ⟨b, k1, k2⟩ := e3.lookup.2 w q2
      rw [hK]
      exact ⟨a, _, dx, ys, b, rfl, e2, F.1, F.2, k1, G1 p1 H1 b (.refl _ _) R1 k2⟩
def putA (f : Str) (v : Va) : List (Str × Va) → List (Str × Va)
  | [] => [(f, v)]
  | (g, x) :: r => if g = f then (g, v) :: r else (g, x) :: putA f v r
theorem RF.put {f : Str} {v : Va} {x : V} (rv : RV g p H v x) : ∀ {fs : List (Str × Va)} {ys : List (Str × V)}, RF g p H fs ys → RF g p H (putA f v fs) (putF f x ys)
  | [], ys, r => by simp only [RF] at r; subst r; simp only [putA, putF, RF]; exact ⟨x, [], rfl, rv, rfl⟩
  | (f1, v1) :: r, ys, z => by
    simp only [RF] at z
    obtain ⟨y, s, rfl, r1, r2⟩ := z
    simp only [putA, putF]
    by_cases e : f1 = f
    · rw [if_pos e, if_pos e]; simp only [RF]; exact ⟨x, s, rfl, rv, r2⟩
    · rw [if_neg e, if_neg e]; simp only [RF]; exact ⟨y, _, rfl, r1, RF.put rv r2⟩
theorem RF.len : ∀ {fs : List (Str × Va)} {ys : List (Str × V)}, RF g p H fs ys → fs.length = ys.length
  | [], ys, r => by simp only [RF] at r; subst r; rfl
  | v1 :: r, ys, z => by
    simp only [RF] at z
    obtain ⟨y, s, rfl, r1, r2⟩ := z
    simp [r2.len]
def mFldS (c : Nat) (f : Str) (mo mv : ME) : MT := fun σ h => (mv σ h).toS σ fun v h1 => (mo σ h1).toS σ fun o h2 => match insAt h2 c o with
  | some fs => match o with
    | .ref i => cond (Nat.blt fs.length 1000) (.nx σ (h2.put i (.ins c (putA f v fs)))) .no
    | _ => .no
  | none => .no
theorem cFldS {o value : Expr} {f : Str} {pos pos' : Pos} {c : Nat} {mo mv : ME} (hK : X.K = g.K) (F : FldT g c f) (ho : SE g W X o mo) (hv : SE g W X value mv) (hs : swapsWith value (some (.Attribute o f pos')) pos.line X.env = pure false := by rfl) :
    SS g W X (.Assign [.Attribute o f pos'] value pos) (mFldS c f mo mv) := by
  obtain ⟨to, po, ro⟩ := ho
  obtain ⟨tv, pv, rv⟩ := hv
  refine ⟨_, ps_fld po pv hs, fun p H σm h σ D R G => ?_⟩
  refine RdE.goS rv R G fun p1 H1 v h1 xv E1 R1 rvv G1 => ?_
  refine RdE.goS ro R1 G1 fun p2 H2 ov h2 xo E2 R2 rvo G2 => ?_
  cases q : insAt h2 c ov with
  | none => rw [q] at G2; exact G2.elim
  | some fs =>
    rw [q] at G2
    cases ov with
    | ref i =>
      simp only at G2
      cases hb : Nat.blt fs.length 1000 with
      | false => rw [hb] at G2; exact G2.elim
      | true =>
        rw [hb] at G2
        have rvo' := rvo
        simp only [RV] at rvo'
        obtain ⟨a, rfl, hi⟩ := rvo'
        obtain ⟨a', dx, ys, ea, e2, e3⟩ := insAt_ok R2.h rvo q
        cases ea
        obtain ⟨E3, R3⟩ := R2.h.write (o := .ins c (putA f v fs)) (u := .ins (g.cl c) dx (putF f xv ys)) hi e2 (fun _ z => nomatch z) (fun _ _ z => nomatch z) ⟨dx, _, rfl, e3.put (rvv.ext E2)⟩
        rw [hK]
        exact ⟨a, _, dx, ys, rfl, e2, F.1, F.2, by rw [← e3.len]; exact Nat.blt_eq.mp hb, G2 p2 _ σ E3 ⟨R3, R2.s.ext E3⟩⟩
    | _ => exact G2.elim
end
end Mn
end

section
/-! Mini: isinstance, sorted, repr, tuple, dict displays, slices. -/
namespace Mn
open PySem L2
/-! ### the order of texts -/
def ltS (a b : Str) : Bool := PySem.Spec.ltCps a.cps.toList b.cps.toList
theorem ltC_irr : ∀ a : List Nat, PySem.Spec.ltCps a a = false
  | [] => rfl
  | x :: r => by simp [PySem.Spec.ltCps, ltC_irr r]
theorem ltC_tri : ∀ a b : List Nat, PySem.Spec.ltCps a b = false → PySem.Spec.ltCps b a = false → a = b
  | [], [], _, _ => rfl
  | [], y :: s, h, _ => by simp [PySem.Spec.ltCps] at h
  | x :: r, [], _, h => by simp [PySem.Spec.ltCps] at h
  | x :: r, y :: s, h1, h2 => by
    simp only [PySem.Spec.ltCps, Bool.or_eq_false_iff, Bool.and_eq_false_iff, decide_eq_false_iff_not, beq_eq_false_iff_ne] at h1 h2
    have e : x = y := by omega
    subst e
    rw [ltC_tri r s (by simpa using h1.2) (by simpa using h2.2)]
theorem ltC_trans : ∀ a b c : List Nat, PySem.Spec.ltCps b a = false → PySem.Spec.ltCps c b = false → PySem.Spec.ltCps c a = false
  | [], _, c, _, _ => by cases c <;> rfl
  | x :: r, [], _, h, _ => by simp [PySem.Spec.ltCps] at h
  | x :: r, y :: s, [], _, h => by simp [PySem.Spec.ltCps] at h
  | x :: r, y :: s, z :: t, h1, h2 => by
    simp only [PySem.Spec.ltCps, Bool.or_eq_false_iff, Bool.and_eq_false_iff, decide_eq_false_iff_not, beq_eq_false_iff_ne] at h1 h2 ⊢
    refine ⟨by omega, ?_⟩
    by_cases e : z = x
    · right
      have e1 : y = x := by omega
      have e2 : z = y := by omega
      exact ltC_trans r s t (by simpa [e1] using h1.2) (by simpa [e2] using h2.2)
    · left; exact e
def insS (x : Str) : List Str → List Str
  | [] => [x]
  | y :: r => cond (ltS y x) (y :: insS x r) (x :: y :: r)
def sortS : List Str → List Str
  | [] => []
  | x :: r => insS x (sortS r)
abbrev LeS (a b : Str) : Prop := ltS b a = false
theorem str_ext {a b : Str} (h : a.cps.toList = b.cps.toList) : a = b := by
  cases a; cases b
  simp only at h
  rw [Array.toList_inj] at h
  rw [h]
theorem insS_perm (x : Str) : ∀ l, (insS x l).Perm (x :: l)
  | [] => List.Perm.refl _
  | y :: r => by
    unfold insS
    cases ltS y x with
    | true => exact ((insS_perm x r).cons y).trans (List.Perm.swap x y r)
    | false => exact List.Perm.refl _
theorem sortS_perm : ∀ l, (sortS l).Perm l
  | [] => List.Perm.refl _
  | x :: r => (insS_perm x _).trans ((sortS_perm r).cons x)
theorem insS_pw (x : Str) : ∀ l, l.Pairwise LeS → (insS x l).Pairwise LeS
  | [], _ => by simp [insS]
  | y :: r, h => by
    rw [List.pairwise_cons] at h
    unfold insS
    cases q : ltS y x with
    | true =>
      simp only [cond_true, List.pairwise_cons]
      refine ⟨fun z hz => ?_, insS_pw x r h.2⟩
      rcases List.mem_cons.mp ((insS_perm x r).mem_iff.mp hz) with e | e
      · subst e
        -- y < z
        unfold LeS ltS at *
        cases q2 : PySem.Spec.ltCps z.cps.toList y.cps.toList with
        | false => rfl
        | true =>
          exfalso
          have t := fun h1 => ltC_trans y.cps.toList z.cps.toList y.cps.toList h1
          -- not both
          have asym : ∀ a b : List Nat, PySem.Spec.ltCps a b = true → PySem.Spec.ltCps b a = true → False := by
            intro a
            induction a with
            | nil => intro b h1 h2; cases b <;> simp [PySem.Spec.ltCps] at h1 h2
            | cons u us ih =>
              intro b h1 h2
              cases b with
              | nil => simp [PySem.Spec.ltCps] at h1
              | cons v vs =>
                simp only [PySem.Spec.ltCps, Bool.or_eq_true, Bool.and_eq_true, decide_eq_true_eq, beq_iff_eq] at h1 h2
                rcases h1 with h1 | h1 <;> rcases h2 with h2 | h2
                · omega
                · omega
                · omega
                · exact ih vs h1.2 h2.2
          exact asym _ _ q q2
      · exact h.1 z e
    | false =>
      simp only [cond_false, List.pairwise_cons]
      refine ⟨fun z hz => ?_, h.1, h.2⟩
      rcases List.mem_cons.mp hz with e | e
      · subst e; exact q
      · exact ltC_trans _ _ _ q (h.1 z e)
theorem sortS_pw : ∀ l, (sortS l).Pairwise LeS
  | [] => List.Pairwise.nil
  | x :: r => insS_pw x _ (sortS_pw r)
theorem rising_pw : ∀ (p : Str) (l : List Str), PyProof.Rows.risingS p l = true → (p :: l).Pairwise LeS
  | p, [], _ => by simp
  | p, x :: r, h => by
    simp only [PyProof.Rows.risingS, Bool.and_eq_true, Bool.not_eq_true'] at h
    have ih := rising_pw x r h.2
    rw [List.pairwise_cons]
    refine ⟨fun z hz => ?_, ih⟩
    rcases List.mem_cons.mp hz with e | e
    · subst e; exact h.1
    · exact ltC_trans _ _ _ h.1 ((List.pairwise_cons.mp ih).1 z e)
theorem sorted_is {ys xs : List Str} (hp : ys.Perm xs) (hs : PyProof.Rows.sortedS ys = true) : ys = sortS xs := by
  have pw : ys.Pairwise LeS := by
    cases ys with
    | nil => exact List.Pairwise.nil
    | cons y r => exact rising_pw y r hs
  exact List.Perm.eq_of_pairwise (le := LeS) (fun a b _ _ h1 h2 => str_ext (ltC_tri _ _ h2 h1)) pw (sortS_pw xs) (hp.trans (sortS_perm xs).symm)
/-! ### the order of ints -/
def insI (x : Int) : List Int → List Int
  | [] => [x]
  | y :: r => cond (decide (y < x)) (y :: insI x r) (x :: y :: r)
def sortI : List Int → List Int
  | [] => []
  | x :: r => insI x (sortI r)
theorem insI_perm (x : Int) : ∀ l, (insI x l).Perm (x :: l)
  | [] => List.Perm.refl _
  | y :: r => by
    unfold insI
    cases decide (y < x) with
    | true => exact ((insI_perm x r).cons y).trans (List.Perm.swap x y r)
    | false => exact List.Perm.refl _
theorem sortI_perm : ∀ l, (sortI l).Perm l
  | [] => List.Perm.refl _
  | x :: r => (insI_perm x _).trans ((sortI_perm r).cons x)
theorem insI_pw (x : Int) : ∀ l, l.Pairwise (· ≤ ·) → (insI x l).Pairwise (· ≤ ·)
  | [], _ => by simp [insI]
  | y :: r, h => by
    rw [List.pairwise_cons] at h
    unfold insI
    cases q : decide (y < x) with
    | true =>
      simp only [cond_true, List.pairwise_cons]
      have q' : y < x := by simpa using q
      refine ⟨fun z hz => ?_, insI_pw x r h.2⟩
      rcases List.mem_cons.mp ((insI_perm x r).mem_iff.mp hz) with e | e
      · omega
      · exact h.1 z e
    | false =>
      simp only [cond_false, List.pairwise_cons]
      have q' : ¬ y < x := by simpa using q
      refine ⟨fun z hz => ?_, h.1, h.2⟩
      rcases List.mem_cons.mp hz with e | e
      · omega
      · have := h.1 z e; omega
theorem sortI_pw : ∀ l, (sortI l).Pairwise (· ≤ ·)
  | [] => List.Pairwise.nil
  | x :: r => insI_pw x _ (sortI_pw r)
theorem sortedI_is {ys xs : List Int} (hp : ys.Perm xs) (hs : ys.Pairwise (· ≤ ·)) : ys = sortI xs :=
  List.Perm.eq_of_pairwise (le := (· ≤ ·)) (fun a b _ _ h1 h2 => Int.le_antisymm h1 h2) hs (sortI_pw xs) (hp.trans (sortI_perm xs).symm)
section
variable {g : Gb} {W : WX} {X : Cx} {p p1 p' : List Addr} {H H1 H' : Hp} {σm : MS} {σ : St} {h h1 : MH} {Q : VK}
theorem rvs_strs : ∀ ns : List Str, RVs g p H (ns.map Va.str) (ns.map V.str)
  | [] => by simp [RVs]
  | n :: ns => by simp only [List.map_cons, RVs]; exact ⟨_, _, rfl, rvStr, rvs_strs ns⟩
theorem strsOf_map : ∀ {vs : List Va} {bs : List Str}, strsOf vs = some bs → vs = bs.map Va.str
  | [], bs, e => by simp only [strsOf, Option.some.injEq] at e; subst e; rfl
  | .str b :: vs, bs, e => by
    simp only [strsOf] at e
    cases q : strsOf vs with
    | none => rw [q] at e; cases e
    | some c => rw [q] at e; cases e; rw [strsOf_map q]; rfl
  | .non :: vs, bs, e => by simp [strsOf] at e
  | .bl _ :: vs, bs, e => by simp [strsOf] at e
  | .int _ :: vs, bs, e => by simp [strsOf] at e
  | .tup _ :: vs, bs, e => by simp [strsOf] at e
  | .ref _ :: vs, bs, e => by simp [strsOf] at e
  | .scr :: vs, bs, e => by simp [strsOf] at e
/-- sorted(xs): of texts, of ints; sorted(d) of a dict with texts -/
def fSorted : FL := fun vs h => match vs with
  | [v] => match dicAt h v with
    | some ks => match strsOf (keysVa ks) with
      | some zs => cond (Nat.blt zs.length 64) (newO h (.lst ((sortS zs).map .str))) .no
      | none => .no
    | none => match listAt h v with
      | some xs => match strsOf xs with
        | some zs => cond (Nat.blt zs.length 64) (newO h (.lst ((sortS zs).map .str))) .no
        | none => match intsOf xs with
          | some ns => newO h (.lst ((sortI ns).map .int))
          | none => .no
      | none => .no
  | _ => .no
abbrev rSortD : List V → Hp → VK → Prop := fun xs H Q => ∃ (a : Addr) (kvs : List (Key × V)) (ks : List Str), xs = [.ref a] ∧ Rd H a (.dK kvs) ∧ kvs.map (·.1) = ks.map Sum.inr ∧ ks.length < 64 ∧ ∀ ys p, ys.Perm ks → PyProof.Rows.sortedS ys = true → H p = none → Q (.ref p) (upd H p (.lst (ys.map V.str)))
abbrev rSortAll (K : PySem.W.Frag) : List V → Hp → VK → Prop := fun xs H Q => rSortD xs H Q ∨ rSortedS K xs H Q ∨ rSortedI K xs H Q
theorem sortAll (hc : X.calm = true) : CallR X (.builtin "sorted") (rSortAll X.K) := CallR.or (call_sortedD hc) (CallR.or cr_sortedS cr_sortedI)
theorem keys_inr : ∀ {ks : List (Va × Va)} {ys : List (Key × V)} {zs : List Str}, RK g p H ks ys → keysVa ks = zs.map Va.str → ys.map (·.1) = zs.map Sum.inr
  | [], ys, zs, r, e => by
    simp only [RK] at r
    subst r
    cases zs with
    | nil => rfl
    | cons z t => simp [keysVa] at e
  | a :: r, ys, zs, z, e => by
    simp only [RK] at z
    obtain ⟨k1, y, s, rfl, e1, r1, r2⟩ := z
    cases zs with
    | nil => simp [keysVa] at e
    | cons z t =>
      simp only [keysVa, List.map_cons, List.cons.injEq] at e
      rw [e1] at e
      simp only [List.map_cons]
      rw [keys_inr r2 (by simpa [keysVa] using e.2)]
      cases k1 with
      | inl i => simp [keyVa] at e
      | inr w => simp only [keyVa, Va.str.injEq] at e; rw [e.1]
theorem csSorted : CallS g (rSortAll g.K) fSorted := fun p h H vs xs Q R rvs G => by
  unfold fSorted at G
  split at G
  · obtain ⟨x, rfl, rv⟩ := one rvs
    split at G
    · rename_i ks hk
      obtain ⟨a, ys, rfl, e2, e3⟩ := dicAt_ok R rv hk
      split at G
      · rename_i zs hz
        cases q : Nat.blt zs.length 64 with
        | false => rw [q] at G; exact G.elim
        | true =>
          rw [q] at G
          refine .inl ⟨a, ys, zs, rfl, e2, keys_inr e3 (strsOf_map hz), Nat.blt_eq.mp q, fun ws p' hp hs hn => ?_⟩
          rw [sorted_is hp hs]
          exact gv_new (o := .lst ((sortS zs).map .str)) R ⟨_, rfl, rvs_strs _⟩ G p' hn
      · exact G.elim
    · split at G
      · rename_i ys hl
        obtain ⟨a, zs, rfl, e2, e3⟩ := listAt_ok R rv hl
        split at G
        · rename_i ss hs
          rw [strsOf_ok hs e3] at e2
          cases q : Nat.blt ss.length 64 with
          | false => rw [q] at G; exact G.elim
          | true =>
            rw [q] at G
            refine .inr (.inl ⟨a, ss, rfl, e2, Nat.blt_eq.mp q, fun ws p' hp hs hn => ?_⟩)
            rw [sorted_is hp hs]
            exact gv_new (o := .lst ((sortS ss).map .str)) R ⟨_, rfl, rvs_strs _⟩ G p' hn
        · split at G
          · rename_i ns hn
            rw [intsOf_ok hn e3] at e2
            refine .inr (.inr ⟨a, ns, rfl, e2, fun ws p' hp hs hn => ?_⟩)
            rw [sortedI_is hp hs]
            exact gv_new (o := .lst ((sortI ns).map .int)) R ⟨_, rfl, rvs_ints _⟩ G p' hn
          · exact G.elim
      · exact G.elim
  · exact G.elim
/-! ### tuple(xs) -/
def fTuple : FL := fun vs h => match vs with
  | [.tup xs] => .ok (.tup xs) h
  | [v] => match listAt h v with
    | some xs => .ok (.tup xs) h
    | none => .no
  | _ => .no
abbrev rTupAll (K : PySem.W.Frag) : List V → Hp → VK → Prop := fun xs H Q => ∃ p ys, xs = [.ref p] ∧ ((SqL K H p ys ∧ ∀ l, H l = none → Q (.ref l) (upd H l (.tup ys))) ∨ (SqT K H p ys ∧ Q (.ref p) H))
theorem csTuple : CallS g (rTupAll g.K) fTuple := fun p h H vs xs Q R rvs G => by
  unfold fTuple at G
  split at G
  · rename_i ys
    obtain ⟨x, rfl, rv⟩ := one rvs
    have rv' := rv
    obtain ⟨a, zs, rfl, e2, e3⟩ := tupAt_ok rv'
    exact ⟨a, zs, rfl, .inr ⟨.inl (.inl e2), G p H _ (.refl _ _) R rv⟩⟩
  · obtain ⟨x, rfl, rv⟩ := one rvs
    split at G
    · rename_i ys hl
      obtain ⟨a, zs, rfl, e2, e3⟩ := listAt_ok R rv hl
      refine ⟨a, zs, rfl, .inl ⟨e2, fun l hn => ?_⟩⟩
      obtain ⟨E, R', r⟩ := RH.tup R e3 hn
      exact G p _ _ E R' r
    · exact G.elim
  · exact G.elim
/-! ### repr -/
def rRepr (K : PySem.W.Frag) : List V → Hp → VK → Prop := fun xs H Q => ∃ x d, xs = [x] ∧ Dp K H x d ∧ d.showable = true ∧ d.hasDict = false ∧ d.depth ≤ 60 ∧ d.shown.length ≤ sizeLine ∧ Q (.str d.shown) H
theorem cr_repr (hG : X.A.guards = some []) (hu : X.A.units + 100 < cLine) : CallR X (.builtin "repr") (rRepr X.K) := fun pins s σ H xs us Q I r hq => by
  obtain ⟨x, d, rfl, hd, hs, hn, hp, hz, q⟩ := hq
  cases r with
  | cons ru rn =>
    cases rn
    rename_i u
    cases hd with
    | non => obtain rfl : u = Value.none := ru; exact PySem.P.repr_of_none ⟨.str _, H, I.tok _, ⟨_, rfl⟩, q⟩
    | bl b =>
      obtain rfl : u = Value.bool b := ru
      refine PySem.P.repr_of_bool ⟨.str _, H, I.tok _, ⟨_, rfl⟩, ?_⟩
      exact q
    | int i =>
      obtain ⟨t, rfl⟩ := ru
      have hs' : i.natAbs.log2 < 1920 := by simpa [PyData.showable] using hs
      exact PySem.P.repr_of_int hs' ⟨.str _, H, I.tok _, ⟨_, rfl⟩, q⟩
    | str z =>
      obtain ⟨t, rfl⟩ := ru
      exact PySem.P.repr_of_str ⟨.str _, H, I.tok _, ⟨_, rfl⟩, q⟩ hz
    | lst h1 h2 =>
      have hd' := Dp.lst h1 h2
      obtain ⟨as, rr⟩ := Dp.reads I _ _ u hd' ru
      obtain rfl : u = Value.ref _ := ru
      exact repr_of_reads' rr hs (PyData.noDict_hsm hn) hG (by omega) (fun _ _ z => z) (fun h' u tk hk => ⟨.str _, H, I.kept hk, ⟨_, rfl⟩, q⟩) hz
    | tup h1 h2 =>
      have hd' := Dp.tup h1 h2
      obtain ⟨as, rr⟩ := Dp.reads I _ _ u hd' ru
      obtain rfl : u = Value.ref _ := ru
      exact repr_of_reads' rr hs (PyData.noDict_hsm hn) hG (by omega) (fun _ _ z => z) (fun h' u tk hk => ⟨.str _, H, I.kept hk, ⟨_, rfl⟩, q⟩) hz
def fRepr : FL := fun vs h => match vs with
  | [v] => match toD deep h v with
    | some d => cond (d.showable && (!d.hasDict && (Nat.ble d.depth 60 && Nat.ble d.shown.length sizeLine))) (.ok (.str d.shown) h) .no
    | none => .no
  | _ => .no
theorem csRepr : CallS g (rRepr g.K) fRepr := fun p h H vs xs Q R rvs G => by
  unfold fRepr at G
  split at G
  · obtain ⟨x, rfl, rv⟩ := one rvs
    split at G
    · rename_i d hd
      cases q : (d.showable && (!d.hasDict && (Nat.ble d.depth 60 && Nat.ble d.shown.length sizeLine))) with
      | false => rw [q] at G; exact G.elim
      | true =>
        rw [q] at G
        simp only [Bool.and_eq_true, Bool.not_eq_true', Nat.ble_eq] at q
        exact ⟨x, d, rfl, toD_ok R _ _ _ _ hd rv, q.1, q.2.1, q.2.2.1, q.2.2.2, G p H _ (.refl _ _) R rvStr⟩
    · exact G.elim
  · exact G.elim
/-! ### slices -/
def SO (g : Gb) (W : WX) (X : Cx) (e : Option Expr) (m : MS → MH → Res (Option Int)) : Prop := ∃ t, PO X e t ∧ ∀ p H σm h σ (Q : Option Int → Hp → Prop), Rel g p H σm h σ →
  (match m σm h with
    | .ok v h' => ∀ p' H', Ext p H p' H' → Rel g p' H' σm h' σ → Q v H'
    | .ex c fs h' => ∀ p' H' d, Ext p H p' H' → Rel g p' H' σm h' σ → XD g p' H' d fs → W (.ref (g.cl c)) d σ H'
    | .no => False) → t σ H Q
def mNoPart : MS → MH → Res (Option Int) := fun _ h => .ok none h
def mPart (m : ME) : MS → MH → Res (Option Int) := fun σ h => (m σ h).bind fun v h1 => match v with
  | .int i => .ok (some i) h1
  | _ => .no
theorem oNone : SO g W X none mNoPart := ⟨_, po_none, fun p H σm h σ Q R G => G p H (.refl _ _) R⟩
theorem oSome {e : Expr} {m : ME} (he : SE g W X e m) : SO g W X (some e) (mPart m) := by
  obtain ⟨t, pe, re⟩ := he
  refine ⟨_, po_some pe, fun p H σm h σ Q R G => ?_⟩
  refine re p H σm h σ _ R ?_
  unfold mPart at G
  cases e : m σm h with
  | no => rw [e] at G; exact G
  | ex c fs h' => rw [e] at G; exact G
  | ok v h' =>
    rw [e] at G
    intro p1 H1 x E1 R1 rv
    cases v with
    | int i => simp only [RV] at rv; exact ⟨i, rv, G p1 H1 E1 R1⟩
    | _ => exact G.elim
def cutA (xs : List Va) (lo hi : Option Int) : List Va := (xs.drop (HT.sIx xs.length 0 lo)).take (HT.sIx xs.length xs.length hi - HT.sIx xs.length 0 lo)
def fSl (v : Va) (lo hi : Option Int) (h : MH) : Res Va := match v with
  | .tup xs => cond ((HT.sIx xs.length 0 lo).beq 0 && (HT.sIx xs.length xs.length hi).beq xs.length) .no (.ok (.tup (cutA xs lo hi)) h)
  | v => match listAt h v with
    | some xs => newO h (.lst (cutA xs lo hi))
    | none => .no
def mSl (m : ME) (ml mh : MS → MH → Res (Option Int)) : ME := fun σ h => (m σ h).bind fun v h1 => (ml σ h1).bind fun lo h2 => (mh σ h2).bind fun hi h3 => Plain (fSl v lo hi h3)
theorem sSl {e : Expr} {lo hi : Option Expr} {pos p2 : Pos} {m : ME} {ml mh : MS → MH → Res (Option Int)} (hK : X.K = g.K) (he : SE g W X e m) (hl : SO g W X lo ml) (hh : SO g W X hi mh) : SE g W X (.Subscript e (.Slice lo hi none p2) pos) (mSl m ml mh) := by
  obtain ⟨t, pe, re⟩ := he
  obtain ⟨tl, pl, rl⟩ := hl
  obtain ⟨th, ph, rh⟩ := hh
  refine ⟨_, pe_slice (SlR.or sl_list sl_tup) pe pl ph, fun p H σm h σ Q R G => ?_⟩
  refine RdE.go re R G fun p1 H1 v h1 x E1 R1 rv G1 => ?_
  refine rl p1 H1 σm h1 σ _ R1 ?_
  cases e1 : ml σm h1 with
  | no => rw [e1] at G1; exact G1
  | ex c fs h' => rw [e1] at G1; exact G1
  | ok lo' h2 =>
    rw [e1] at G1
    intro p2 H2 E2 R2
    replace G1 := G1.mono E2
    simp only [Res.bind] at G1
    refine rh p2 H2 σm h2 σ _ R2 ?_
    cases e2 : mh σm h2 with
    | no => simp only [e2] at G1; exact G1
    | ex c fs h' => simp only [e2] at G1; exact G1
    | ok hi' h3 =>
      simp only [e2] at G1
      intro p3 H3 E3 R3
      have G3 := (G1.mono E3).plain R3
      have rv3 := rv.ext (E2.trans E3)
      unfold fSl at G3
      split at G3
      · rename_i xs
        obtain ⟨a, ys, rfl, k2, k3⟩ := tupAt_ok rv3
        cases q : ((HT.sIx xs.length 0 lo').beq 0 && (HT.sIx xs.length xs.length hi').beq xs.length) with
        | true => rw [q] at G3; exact G3.elim
        | false =>
          rw [q] at G3
          refine .inr ⟨a, ys, rfl, .inl (.inl k2), ?_, fun l hn => ?_⟩
          · rw [← k3.len]
            intro ⟨z1, z2⟩
            rw [z1, z2] at q
            simp at q
          · obtain ⟨E4, R4, r4⟩ := RH.tup R3.h (vs := cutA xs lo' hi') (xs := cutV ys lo' hi') (by unfold cutA cutV; rw [← k3.len]; exact (k3.drop _).take _) hn
            exact G3 p3 _ _ E4 R4 r4
      · split at G3
        · rename_i xs hx
          obtain ⟨a, ys, rfl, k2, k3⟩ := listAt_ok R3.h rv3 hx
          rw [hK]
          exact .inl ⟨a, ys, rfl, k2, gv_new (o := .lst (cutA xs lo' hi')) R3.h ⟨_, rfl, by unfold cutA cutV; rw [← k3.len]; exact (k3.drop _).take _⟩ G3⟩
        · exact G3.elim
/-! ### isinstance of a built-in class -/
def tyName (h : MH) (v : Va) : Option String := match v with
  | .non => some "NoneType"
  | .bl _ => some "bool"
  | .int _ => some "int"
  | .str _ => some "str"
  | .tup _ => some "tuple"
  | .scr => none
  | .ref i => match h.get i with
    | some (.lst _) => some "list"
    | some (.dic _) => some "dict"
    | some (.lck _) => some "dict"
    | _ => none
def kitName (a T : String) : Bool := decide (a = T) || (decide (a = "bool") && decide (T = "int"))
structure KitT (K : PySem.W.Frag) (T : String) : Prop where
  k1 : PySem.W.kitOne K (.type "NoneType") (.type T) = some (kitName "NoneType" T) := by rfl
  k2 : PySem.W.kitOne K (.type "bool") (.type T) = some (kitName "bool" T) := by rfl
  k3 : PySem.W.kitOne K (.type "int") (.type T) = some (kitName "int" T) := by rfl
  k4 : PySem.W.kitOne K (.type "str") (.type T) = some (kitName "str" T) := by rfl
  k5 : PySem.W.kitOne K (.type "tuple") (.type T) = some (kitName "tuple" T) := by rfl
  k6 : PySem.W.kitOne K (.type "list") (.type T) = some (kitName "list" T) := by rfl
  k7 : PySem.W.kitOne K (.type "dict") (.type T) = some (kitName "dict" T) := by rfl
theorem tyName_ok {T a : String} {v : Va} {x : V} (k : KitT g.K T) (R : RH g p h H) (rv : RV g p H v x) (e : tyName h v = some a) : TyX g.K H x (.type a) ∧ PySem.W.kitOne g.K (.type a) (.type T) = some (kitName a T) := by
  cases v with
  | non => simp only [RV] at rv; simp only [tyName, Option.some.injEq] at e; subst rv e; exact ⟨.base .non, k.k1⟩
  | bl b => simp only [RV] at rv; simp only [tyName, Option.some.injEq] at e; subst rv e; exact ⟨.base (.bl b), k.k2⟩
  | int b => simp only [RV] at rv; simp only [tyName, Option.some.injEq] at e; subst rv e; exact ⟨.base (.int b), k.k3⟩
  | str b => simp only [RV] at rv; simp only [tyName, Option.some.injEq] at e; subst rv e; exact ⟨.base (.str b), k.k4⟩
  | tup xs =>
    obtain ⟨b, ys, rfl, e2, e3⟩ := tupAt_ok rv
    simp only [tyName, Option.some.injEq] at e
    subst e
    exact ⟨.base (.tup e2), k.k5⟩
  | scr => simp [tyName] at e
  | ref i =>
    simp only [tyName] at e
    have rv' := rv
    simp only [RV] at rv'
    obtain ⟨b, rfl, hi⟩ := rv'
    split at e
    · rename_i xs hg
      cases e
      obtain ⟨c, ys, q1, q2, q3⟩ := R.lst hg
      rw [hi] at q1; cases q1
      exact ⟨.base (.lst q2), k.k6⟩
    · rename_i xs hg
      cases e
      obtain ⟨c, ys, q1, q2, q3⟩ := R.dic hg
      rw [hi] at q1; cases q1
      exact ⟨.base (.dK q2), k.k7⟩
    · rename_i xs hg
      cases e
      obtain ⟨c, ob, ys, q1, q2, q3⟩ := R.lck hg
      rw [hi] at q1; cases q1
      exact ⟨.fDict q2, k.k7⟩
    · cases e
def mIsi (T : String) (m : ME) : ME := fun σ h => (m σ h).bind fun v h1 => match tyName h1 v with
  | some a => .ok (.bl (kitName a T)) h1
  | none => .no
theorem sIsi {e : Expr} {x : Str} {T : String} {q q2 pos : Pos} {m : ME} (hK : X.K = g.K) (hm : X.mg "isinstance" = none) (hm2 : X.mg x = none) (he : SE g W X e m) (k : KitT g.K T := by exact {}) (hg : Gl X "isinstance" := by rfl) (hg2 : Gl X x := by rfl)
    (hv2 : bootBuiltins x = some (.type T) := by decide +kernel) (hv : bootBuiltins "isinstance" = some (.builtin "isinstance") := by decide +kernel) (hn2 : x ≠ ("__name__" : Str) := by decide) (hdb2 : (x == ("__debug__" : Str)) = false := by decide)
    (h1 : starEach [e, .Name x q2] X.env = (false, eval e X.env) :: starEach [.Name x q2] X.env := by rfl) (h2 : starEach [.Name x q2] X.env = (false, eval (.Name x q2) X.env) :: starEach [] X.env := by rfl)
    (hpl : (backTo pos (starEach [.Name x q2] X.env)).any (·.1) = false := by rfl) : SE g W X (.Call (.Name "isinstance" q) [e, .Name x q2] [] pos) (mIsi T m) := by
  obtain ⟨t, pe, re⟩ := he
  have pT : PE X (.Name x q2) (tC (.ty T)) := pe_bltn hg2 hm2 hv2 rfl hn2 hdb2
  refine ⟨_, pe_callB call_isi hg hm hv (pa_cons pe (pa_cons pT pa_nil h2) h1) (by decide) (by decide) h1 hpl, fun p H σm h σ Q R G => ?_⟩
  refine RdE.go re R G fun p1 H1 v h1 xv E1 R1 rv G1 => ?_
  cases e : tyName h1 v with
  | none => rw [e] at G1; exact G1.elim
  | some a =>
    rw [e] at G1
    obtain ⟨k1, k2⟩ := tyName_ok k R1.h rv e
    rw [hK]
    exact ⟨xv, .ty T, _, _, _, rfl, .ty T, k1, k2, G1 p1 H1 _ (.refl _ _) R1 rvBl⟩
end
end Mn
end

section
/-! Mini: dict displays; the end of a law. -/
namespace Mn
open PySem L2
section
variable {g : Gb} {W : WX} {X : Cx} {p p1 p' : List Addr} {H H1 H' : Hp} {σm : MS} {σ : St} {h h1 : MH} {Q : VK}
/-! ### {} and {k: v, ..} -/
def mDict0 : ME := fun _ h => Plain (newO h (.dic []))
theorem sDict0 {pos : Pos} : SE g W X (.Dict [] [] pos) mDict0 := ⟨_, pe_dnewK, fun p H σm h σ Q R G => gv_new (o := .dic []) R.h ⟨[], rfl, rfl⟩ (G.plain R)⟩
abbrev MP := MS → MH → Res (List (Va × Va))
def RVP (g : Gb) (p : List Addr) (H : Hp) : List (Va × Va) → List (V × V) → Prop
  | [], ys => ys = []
  | kv :: r, ys => ∃ a b s, ys = (a, b) :: s ∧ RV g p H kv.1 a ∧ RV g p H kv.2 b ∧ RVP g p H r s
theorem RVP.ext (e : Ext p H p' H') : ∀ {v : List (Va × Va)} {x : List (V × V)}, RVP g p H v x → RVP g p' H' v x
  | [], x, h => by simpa only [RVP] using h
  | v :: vs, x, h => by
    simp only [RVP] at h ⊢
    obtain ⟨a, b, s, h1, h2, h3, h4⟩ := h
    exact ⟨a, b, s, h1, h2.ext e, h3.ext e, RVP.ext e h4⟩
def GP (g : Gb) (W : WX) (σm : MS) (σ : St) (p : List Addr) (H : Hp) (r : Res (List (Va × Va))) (Q : List (V × V) → Hp → Prop) : Prop := match r with
  | .ok v h' => ∀ p' H' x, Ext p H p' H' → Rel g p' H' σm h' σ → RVP g p' H' v x → Q x H'
  | .ex c fs h' => ∀ p' H' d, Ext p H p' H' → Rel g p' H' σm h' σ → XD g p' H' d fs → W (.ref (g.cl c)) d σ H'
  | .no => False
theorem GP.mono {r : Res (List (Va × Va))} {Q : List (V × V) → Hp → Prop} (G : GP g W σm σ p H r Q) (E : Ext p H p1 H1) : GP g W σm σ p1 H1 r Q := by
  cases r with
  | ok v h' => exact fun p' H' x E' R' rv => G p' H' x (E.trans E') R' rv
  | ex c fs h' => exact fun p' H' d E' R' xd => G p' H' d (E.trans E') R' xd
  | no => exact G
def SP' (g : Gb) (W : WX) (X : Cx) (pos : Pos) (keys : List (Option Expr)) (values : List Expr) (m : MP) : Prop := ∃ trs, PPs X pos keys values trs ∧ ∀ p H σm h σ Q, Rel g p H σm h σ → GP g W σm σ p H (m σm h) Q → tPairs trs σ H Q
def mPnil : MP := fun _ h => .ok [] h
def mPcons (a b : ME) (r : MP) : MP := fun σ h => (a σ h).bind fun k h1 => (b σ h1).bind fun v h2 => (r σ h2).bind fun s h3 => .ok ((k, v) :: s) h3
theorem dNil {pos : Pos} : SP' g W X pos [] [] mPnil := ⟨_, pps_nil, fun p H σm h σ Q R G => G p H [] (.refl _ _) R rfl⟩
theorem RdE.goP {t : TE} {m : ME} (S : RdE g W t m) (R : Rel g p H σm h σ) {k : Va → MH → Res (List (Va × Va))} {Q : List (V × V) → Hp → Prop} {Q' : VK} (G : GP g W σm σ p H ((m σm h).bind k) Q)
    (hk : ∀ p1 H1 v h1 x, Ext p H p1 H1 → Rel g p1 H1 σm h1 σ → RV g p1 H1 v x → GP g W σm σ p1 H1 (k v h1) Q → Q' x H1) : t σ H Q' := by
  refine S p H σm h σ _ R ?_
  cases e : m σm h with
  | no => rw [e] at G; exact G
  | ex c fs h' => rw [e] at G; exact G
  | ok v h' => rw [e] at G; exact fun p1 H1 x E1 R1 rv => hk p1 H1 v h' x E1 R1 rv (G.mono E1)
theorem dCons {pos : Pos} {k v : Expr} {ks : List (Option Expr)} {vs : List Expr} {mk mv : ME} {r : MP} (hk : SE g W X k mk) (hv : SE g W X v mv) (hr : SP' g W X pos ks vs r) : SP' g W X pos (some k :: ks) (v :: vs) (mPcons mk mv r) := by
  obtain ⟨tk, pk, rk⟩ := hk
  obtain ⟨tv, pv, rv⟩ := hv
  obtain ⟨trs, pr, rr⟩ := hr
  refine ⟨_, pps_cons pk pv pr, fun p H σm h σ Q R G => ?_⟩
  show tk σ H _
  refine RdE.goP rk R G fun p1 H1 k h1 x E1 R1 rvk G1 => ?_
  show tv σ H1 _
  refine RdE.goP rv R1 G1 fun p2 H2 v h2 y E2 R2 rvv G2 => ?_
  refine rr p2 H2 σm h2 σ _ R2 ?_
  cases e : r σm h2 with
  | no => rw [e] at G2; exact G2
  | ex c fs h' => rw [e] at G2; exact G2
  | ok s h' =>
    rw [e] at G2
    intro p3 H3 z E3 R3 rp
    exact G2 p3 H3 _ E3 R3 (by simp only [RVP]; exact ⟨x, y, z, rfl, (rvk.ext E2).ext E3, rvv.ext E3, rp⟩)
def keysOk (kvs : List (Va × Va)) : Bool := kvs.all fun kv => (keyOf kv.1).isSome
def merge (acc kvs : List (Va × Va)) : List (Va × Va) := kvs.foldl (fun a kv => put a kv.1 kv.2) acc
theorem merge_ok : ∀ {kvs acc : List (Va × Va)} {xs : List (V × V)} {ys : List (Key × V)}, keysOk kvs = true → RVP g p H kvs xs → RK g p H acc ys → ∃ zs : List (Key × V), xs = zs.map (fun kv => (kV kv.1, kv.2)) ∧ RK g p H (merge acc kvs) (mergeK ys zs)
  | [], acc, xs, ys, hk, r, ra => by simp only [RVP] at r; subst r; exact ⟨[], rfl, ra⟩
  | kv :: rest, acc, xs, ys, hk, r, ra => by
    simp only [RVP] at r
    obtain ⟨a, b, s, rfl, r1, r2, r3⟩ := r
    simp only [keysOk, List.all_cons, Bool.and_eq_true] at hk
    cases q : keyOf kv.1 with
    | none => rw [q] at hk; exact absurd hk.1 (by simp)
    | some k =>
      obtain ⟨zs, e1, e2⟩ := merge_ok (kvs := rest) (by simpa [keysOk] using hk.2) r3 (put_ok q r2 ra)
      refine ⟨(k, b) :: zs, by rw [e1, keyOf_kV q r1]; rfl, ?_⟩
      exact e2
def mDict (m : MP) : ME := fun σ h => (m σ (h.push (.dic []))).bind fun kvs h2 => match h2.get h.n with
  | some (.dic []) => cond (keysOk kvs && Nat.ble kvs.length 15) (.ok (.ref h.n) (h2.put h.n (.dic (merge [] kvs)))) .no
  | _ => .no
theorem RVP.len : ∀ {v : List (Va × Va)} {x : List (V × V)}, RVP g p H v x → v.length = x.length
  | [], x, h => by simp only [RVP] at h; subst h; rfl
  | v :: vs, x, h => by
    simp only [RVP] at h
    obtain ⟨a, b, s, rfl, h2, h3, h4⟩ := h
    simp [RVP.len h4]
theorem sDict {keys : List (Option Expr)} {values : List Expr} {m : MP} {pos : Pos} (hr : SP' g W X pos keys values m) (h1 : keys.all (·.isSome) = true := by rfl) (h2 : keys.length = values.length := by rfl) (h3 : keys ≠ [] := by simp) (h4 : keys.length ≤ 15 := by decide) :
    SE g W X (.Dict keys values pos) (mDict m) := by
  obtain ⟨trs, pr, rr⟩ := hr
  refine ⟨_, pe_disp pr h1 h2 h3 h4, fun p H σm h σ Q R G => ?_⟩
  intro a hn
  unfold mDict at G
  obtain ⟨E1, R1, hi⟩ := R.h.new (o := .dic []) (u := .dK []) hn ⟨[], rfl, rfl⟩
  refine rr _ _ σm _ σ _ ⟨R1, R.s.ext E1⟩ ?_
  replace G := G.mono E1
  cases e : m σm (h.push (.dic [])) with
  | no => rw [e] at G; exact G
  | ex c fs h' => rw [e] at G; exact G
  | ok kvs h' =>
    rw [e] at G
    simp only [Res.bind] at G
    intro p2 H2 ps E2 R2 rp
    cases e2 : h'.get h.n with
    | none => simp only [e2] at G; exact G.elim
    | some o =>
      cases o with
      | dic ks =>
        cases ks with
        | nil =>
          simp only [e2] at G
          cases q2 : (keysOk kvs && Nat.ble kvs.length 15) with
          | false => rw [q2] at G; exact G.elim
          | true =>
            rw [q2] at G
            simp only [Bool.and_eq_true, Nat.ble_eq] at q2
            obtain ⟨b, ys, k1, k2, k3, k4⟩ := R2.h.setD e2
            rw [E2.ix _ _ hi] at k1; cases k1
            simp only [RK] at k3
            subst k3
            obtain ⟨zs, e5, e6⟩ := merge_ok (acc := []) (ys := []) q2.1 rp rfl
            obtain ⟨E3, R3⟩ := k4 _ _ e6
            exact ⟨k2, zs, e5, by have := rp.len; rw [e5, List.length_map] at this; rw [← this]; exact q2.2, G p2 _ _ (E2.trans E3) ⟨R3, R2.s.ext E3⟩ (by simp only [RV]; exact ⟨a, rfl, (E2.trans E3).ix _ _ hi⟩)⟩
        | cons _ _ => simp only [e2] at G; exact G.elim
      | _ => simp only [e2] at G; exact G.elim
end
section
variable {g : Gb} {W : WX} {X : Cx}
/-! ### a < b < c -/
def mChain (f f' : F2) (ma mb mc : ME) : ME := fun σ h => (ma σ h).bind fun v h1 => (mb σ h1).bind fun u h2 => (Plain (f v u h2)).bind fun z h3 => match z with
  | .bl true => (mc σ h3).bind fun w h4 => Plain (f' u w h4)
  | .bl false => .ok (.bl false) h3
  | _ => .no
theorem rd_chain {r r' : R2} {f f' : F2} {ta tb tc : TE} {ma mb mc : ME} (hs : OpS g r f) (hs' : OpS g r' f') (ra : RdE g W ta ma) (rb : RdE g W tb mb) (rc : RdE g W tc mc) : RdE g W (tChain r r' ta tb tc) (mChain f f' ma mb mc) := fun p H σm h σ Q R G => by
  refine RdE.go ra R G fun p1 H1 v h1 x E1 R1 rv G1 => ?_
  refine RdE.go rb R1 G1 fun p2 H2 u h2 y E2 R2 ru G2 => ?_
  refine hs p2 h2 H2 v u x y _ R2.h (rv.ext E2) ru ?_
  cases e : f v u h2 with
  | no => rw [e] at G2; exact G2.elim
  | ex c' fs h' => rw [e] at G2; exact G2.elim
  | ok z h3 =>
    rw [e] at G2
    simp only [Plain, Res.bind] at G2
    intro p3 H3 zz E3 R3 rz
    have R3' : Rel g p3 H3 _ h3 _ := ⟨R3, R2.s.ext E3⟩
    cases z with
    | bl k =>
      simp only [RV] at rz
      refine ⟨k, rz, ?_⟩
      cases k with
      | true =>
        rw [if_pos rfl]
        refine RdE.go rc R3' (G2.mono E3) fun p4 H4 w h4 z4 E4 R4 rw4 G4 => ?_
        exact hs' p4 h4 H4 u w y z4 Q R4.h ((ru.ext E3).ext E4) rw4 (G4.plain R4)
      | false =>
        rw [if_neg (by simp)]
        exact G2 p3 H3 _ E3 R3' rvBl
    | _ => exact G2.elim
theorem sChain {a b c : Expr} {op op' : CmpOp} {pos : Pos} {r r' : R2} {f f' : F2} {ma mb mc : ME} (ho : OpR X (compareOp op) r) (hs : OpS g r f) (ho' : OpR X (compareOp op') r') (hs' : OpS g r' f') (ha : SE g W X a ma) (hb : SE g W X b mb) (hc : SE g W X c mc)
    (hm : lastMarks [op, op'] [b, c] = false := by rfl) : SE g W X (.Compare a [op, op'] [b, c] pos) (mChain f f' ma mb mc) := by
  obtain ⟨ta, pa, ra⟩ := ha
  obtain ⟨tb, pb, rb⟩ := hb
  obtain ⟨tc, pc, rc⟩ := hc
  exact ⟨_, pe_chain ho ho' pa pb pc hm, rd_chain hs hs' ra rb rc⟩
/-- the module's own constants -/
theorem sKI {x : Str} {v : Int} {pos : Pos} (hk : ∃ t, X.mg x = some (.int v t)) (hg : Gl X x := by rfl) (hd : (x == ("__debug__" : Str)) = false := by decide) : SE g W X (.Name x pos) (mCon (.int v)) := by
  obtain ⟨t, e⟩ := hk
  exact sCon (pe_glob (v := .int v) hg e ⟨t, rfl⟩ hd) fun _ _ => rvInt
theorem sKS {x : Str} {v : Str} {pos : Pos} (hk : ∃ t, X.mg x = some (.str v t)) (hg : Gl X x := by rfl) (hd : (x == ("__debug__" : Str)) = false := by decide) : SE g W X (.Name x pos) (mCon (.str v)) := by
  obtain ⟨t, e⟩ := hk
  exact sCon (pe_glob (v := .str v) hg e ⟨t, rfl⟩ hd) fun _ _ => rvStr
/-- -a -/
def mNeg (m : ME) : ME := fun σ h => (m σ h).bind fun v h1 => match v with
  | .int i => .ok (.int (-i)) h1
  | _ => .no
theorem sNeg {a : Expr} {m : ME} {pos : Pos} (ha : SE g W X a m) : SE g W X (.UnaryOp .USub a pos) (mNeg m) := by
  obtain ⟨ta, pa, ra⟩ := ha
  refine ⟨_, pe_un un_neg pa, fun p H σm h σ Q R G => ?_⟩
  refine RdE.go ra R G fun p1 H1 v h1 x E1 R1 rv G1 => ?_
  cases v with
  | int i => simp only [RV] at rv; exact ⟨i, rv, G1 p1 H1 _ (.refl _ _) R1 rvInt⟩
  | _ => exact G1.elim
/-! ### comparisons as tests -/
def mTb (m : ME) : MB := fun σ h => (m σ h).bind fun v h1 => match v with
  | .bl b => .ok b h1
  | _ => .no
theorem rd_tb {t : TE} {m : ME} (r : RdE g W t m) : RdT g W (tTest t) (mTb m) := fun p H σm h σ Q R G => by
  refine RdE.goT r R G fun p1 H1 v h1 x E1 R1 rv G1 => ?_
  cases v with
  | bl b => simp only [RV] at rv; exact ⟨b, rv, G1 p1 H1 (.refl _ _) R1⟩
  | _ => exact G1.elim
theorem tCmpT {op : CmpOp} {a b : Expr} {pos : Pos} {r : R2} {f : F2} {ma mb : ME} (ho : OpR X (compareOp op) r) (hs : OpS g r f) (ha : SE g W X a ma) (hb : SE g W X b mb) (hm : behindInMarks op b = false := by rfl) :
    ST g W X (.Compare a [op] [b] pos) (mTb (mBin f ma mb)) := by
  obtain ⟨ta, pa, ra⟩ := ha
  obtain ⟨tb, pb, rb⟩ := hb
  exact ⟨_, pt_cmpR ho pa pb hm, rd_tb (rd_bin hs ra rb)⟩
theorem tChainT {a b c : Expr} {op op' : CmpOp} {pos : Pos} {r r' : R2} {f f' : F2} {ma mb mc : ME} (ho : OpR X (compareOp op) r) (hs : OpS g r f) (ho' : OpR X (compareOp op') r') (hs' : OpS g r' f') (ha : SE g W X a ma) (hb : SE g W X b mb) (hc : SE g W X c mc)
    (hm : lastMarks [op, op'] [b, c] = false := by rfl) : ST g W X (.Compare a [op, op'] [b, c] pos) (mTb (mChain f f' ma mb mc)) := by
  obtain ⟨ta, pa, ra⟩ := ha
  obtain ⟨tb, pb, rb⟩ := hb
  obtain ⟨tc, pc, rc⟩ := hc
  exact ⟨_, pt_chain ho ho' pa pb pc hm, rd_tb (rd_chain hs hs' ra rb rc)⟩
theorem tDInT {i o : Expr} {pos : Pos} {mi mo : ME} (hu : X.A.units + 1 < cLine) (hi : SE g W X i mi) (ho : SE g W X o mo) (hm : behindInMarks .In o = false := by rfl) : ST g W X (.Compare i [.In] [o] pos) (mTb (mBin (fDIn id) mi mo)) := by
  obtain ⟨ta, pa, ra⟩ := hi
  obtain ⟨tb, pb, rb⟩ := ho
  exact ⟨_, pt_cmp (pc_din hu pa pb) hm, rd_tb (rd_bin osDIn ra rb)⟩
theorem tDNotInT {i o : Expr} {pos : Pos} {mi mo : ME} (hu : X.A.units + 1 < cLine) (hi : SE g W X i mi) (ho : SE g W X o mo) (hm : behindInMarks .NotIn o = false := by rfl) : ST g W X (.Compare i [.NotIn] [o] pos) (mTb (mBin (fDIn not) mi mo)) := by
  obtain ⟨ta, pa, ra⟩ := hi
  obtain ⟨tb, pb, rb⟩ := ho
  exact ⟨_, pt_cmp (pc_dnotin hu pa pb) hm, rd_tb (rd_bin osDNotIn ra rb)⟩
/-- how deep, how long -/
def big : Nat := 1000000
theorem u64 {k : Nat} {A : Around} (r : Room k A) : A.units + 64 < cLine := by have := r.un; omega
theorem u100 {k : Nat} {A : Around} (r : Room k A) : A.units + 100 < cLine := by have := r.un; omega
theorem u1 {k : Nat} {A : Around} (r : Room k A) : A.units + 1 < cLine := by have := r.un; omega
/-- a def as the top has left it -/
structure DefT (g : Gb) (mg : Str → Option Value) (x qual : Str) (st : Stmt) : Prop where
  ex : ∃ f fd, mg x = some (.ref f) ∧ Fun g.K x qual st f fd
structure MthT (g : Gb) (c : Nat) (x qual : Str) (st : Stmt) : Prop where
  ex : ∃ f fd, Cls g.K (g.cl c) ∧ Meth g.K (g.cl c) x f ∧ Fun g.K x qual st f fd
structure IniT (g : Gb) (mg : Str → Option Value) (c : Nat) (x qual : Str) (st : Stmt) : Prop where
  ex : ∃ f fd, mg x = some (.ref (g.cl c)) ∧ Mk g.K (g.cl c) f ∧ Fun g.K "__init__" qual st f fd
end
/-! ### the end of a law -/
open PyProof.Rows PySem.Spec
/-- nothing but the script -/
def heap0 (ns : List Int) : MH := ⟨0, .nil, ns⟩
theorem rh0 {g : Gb} {H : Hp} (s : ScrOk g H) : RH g [] (heap0 g.ns) H := ⟨rfl, List.nodup_nil, fun i o e => by simp [heap0, MH.get, Tr.get] at e, fun a h => by simp at h, s, rfl⟩
def bitsOk (ns : List Int) : Prop := ns.length ≤ 63 ∧ ∀ z ∈ ns, Builtin.Int.intBits z ≤ 1048576
theorem law_run {P : Program} {w : World} {K : PySem.W.Frag} {mg mb : Str → Option Value} {k : Nat} {fa a : Addr} {fd : FuncData} {x : Str} {cl : Nat → Addr} {m : FnM} {s₁ : Shared} {vs : List Value} {ns : List Int}
    (KX : K.In s₁.heap) (hns : s₁.heap.Ns mainGlobals mg) (hb : s₁.heap.Ns builtinsNs mb) (hbb : ∀ x : Str, x ≠ "__name__" → mb x = bootBuiltins x) (hlim : s₁.heap.NoLimit) (hg : s₁.gens = #[])
    (ha : s₁.heap.get? a = some { cls := .type "list", data := .seq vs.toArray }) (hi : IntsAre vs ns) (hl : ns.length ≤ sizeLine) (hr : Room k callerA)
    (F : ∀ base : Heap, K.In base → base.Ns mainGlobals mg → FnG P w K mg base k fa fd [x] (spM ⟨K, a, ns, cl⟩ 1 m)) (hbind : ∀ (s : Shared) (u : Value), BindsTo s fd ⟨[u], []⟩ [(x, u)])
    (hm : ∃ h', m [.scr] (heap0 ns) = .ok (.bl true) h') :
    codeAny (model P w) callerA (.call (.ref fa) ⟨[.ref a], []⟩) (fun r s' => r = .ok (.ret (.bool true)) ∧ OldK s₁.heap s'.heap ∧ s'.os = s₁.os ∧ AllBare s'.gens) s₁ := by
  have rv := vals_ints hi
  have lenV := hi.length
  -- the heap to begin with: the script locked, or nothing where it is written
  obtain ⟨H, hS, hok, hO⟩ : ∃ H : Hp, ScrOk ⟨K, a, ns, cl⟩ H ∧ HOk P w H s₁.heap ∧ ∀ b u, H b = some u → b = a ∧ K.lookup a = none ∧ ∃ o xs, u = .frz o (.lst xs) := by
    cases hk : K.lookup a with
    | some o =>
      have e := KX a o hk
      rw [ha] at e
      cases e
      exact ⟨fun _ => none, .inr ⟨_, vs.toArray, _, hk, rfl, rfl, rfl, by rw [List.size_toArray, lenV]; exact hl, by simpa using rv⟩, fun b u z => (nomatch (show (none : Option HO) = some u from z)), fun b u z => (nomatch (show (none : Option HO) = some u from z))⟩
    | none =>
      refine ⟨fun b => if b = a then some (.frz { cls := .type "list", data := .seq vs.toArray } (.lst (ns.map V.int))) else none, .inl ⟨{ cls := .type "list", data := .seq vs.toArray }, if_pos rfl⟩, fun b u z => ?_, fun b u z => ?_⟩
      · have hba : b = a := Decidable.byContradiction fun n => by simp only [if_neg n] at z; cases z
        subst hba
        simp only [if_true] at z
        cases z
        exact ⟨ha, by rw [List.length_map]; exact hl, vs, _, rv, ha⟩
      · have hba : b = a := Decidable.byContradiction fun n => by simp only [if_neg n] at z; cases z
        subst hba
        simp only [if_true] at z
        cases z
        exact ⟨rfl, rfl, _, _, rfl⟩
  -- what is not tracked is the base
  have keepB : ∀ {b : Addr} {o : Obj}, s₁.heap.get? b = some o → H b = none → (hidT s₁.heap H).get? b = some o := fun e n => hidT_get e n
  have noL : ∀ {b : Addr} {o : Obj} {es : Array DictEntry} {ep : Nat}, s₁.heap.get? b = some o → o.data = .dict es ep → H b = none := fun {b o es ep} e d => by
    cases q : H b with
    | none => rfl
    | some u =>
      obtain ⟨rfl, _⟩ := hO b u q
      rw [ha] at e; cases e
      exact nomatch (show Data.seq vs.toArray _ = Data.dict es ep from d)
  have nsB : ∀ {b : Addr} {mm : Str → Option Value}, s₁.heap.Ns b mm → (hidT s₁.heap H).Ns b mm := fun ⟨o, es, ep, e, d, r⟩ => ⟨o, es, ep, keepB e (noL e d), d, r⟩
  have kB : K.In (hidT s₁.heap H) := fun b o e => keepB (KX b o e) (by
    cases q : H b with
    | none => rfl
    | some u =>
      obtain ⟨rfl, hk, _⟩ := hO b u q
      rw [hk] at e; cases e)
  have hM : Mod K mg (hidT s₁.heap H) := ⟨kB, nsB hns, ⟨mb, nsB hb, hbb⟩, let ⟨mc, h1, h2⟩ := hlim; ⟨mc, nsB h1, h2⟩⟩
  have e0 : Env0 P w K mg (hidT s₁.heap H) callerA [] s₁ H := ⟨rfl, hM, fun b o e => of_hidT e, Nat.le_of_eq (hidT_size _ _), trivial, fun b hb => absurd (show b ∈ ([] : List Addr) from hb) (by simp), hok, .of_eq hg⟩
  obtain ⟨hE, em⟩ := hm
  have hsp : spM ⟨K, a, ns, cl⟩ 1 m [V.ref a] H (fun v _ => v = .bl true) (fun _ _ _ => False) := by
    refine ⟨rfl, [], heap0 ns, [.scr], rh0 hS, by simp only [RVs, RV]; exact ⟨_, [], rfl, rfl, rfl⟩, ?_⟩
    rw [em]
    intro p' H' x _ _ rvx
    simpa only [RV] using rvx
  refine codeAny_mono ((F _ kB (nsB hns)).run callerA [] s₁ H ⟨[.ref a], []⟩ [.ref a] [.ref a] _ _ rfl hr e0 (hbind s₁ (.ref a)) (.cons rfl .nil) hsp) fun res s' hq => ?_
  match res, hq with
  | .error e, hq => exact (by obtain ⟨_, _, _, _, _, _, _, _, _, _, _, _, z⟩ := hq; exact z.elim)
  | .ok .next, hq => exact hq.elim
  | .ok .brk, hq => exact hq.elim
  | .ok .cont, hq => exact hq.elim
  | .ok (.ret u), hq =>
    obtain ⟨v, H', os, bare, un, hok', r', q⟩ := hq
    have q' : v = .bl true := q
    subst q'
    obtain rfl : u = Value.bool true := r'
    refine ⟨rfl, OldK.of_keep fun b o e => ?_, os, bare⟩
    cases qb : H b with
    | none => exact un.keep b o e qb (fun z => absurd (show b ∈ ([] : List Addr) from z) (by simp)) (by simp)
    | some u =>
      obtain ⟨rfl, _, ob, xs, rfl⟩ := hO b u qb
      obtain ⟨e1, _⟩ := hok b _ qb
      obtain ⟨e2, _⟩ := hok' b _ (un.frzs b ob _ qb)
      rw [e] at e1; cases e1
      exact e2
/-- the goal that the head leaves, from the law's small run -/
theorem walkG {l : PySem.W.OpenLaw} {k : Nat} {q : Program} {loose : List Str} {XP : (Str → Option Value) → Heap → Prop} {YP : World → Heap → Prop} {d : DefRec} {K : Params → PySem.W.Frag} {x : Str} {m : FnM}
    (hn : l.most = some 63) (hdf : d.params.defaults = []) (hr : Room k callerA) (hY : ∀ (w : World) (h : Heap), YP w h → (K w.params).In h)
    (F : ∀ (w : World) (mg : Str → Option Value) (fa : Addr) (h : Heap), (K w.params).In h → h.Ns mainGlobals mg → mg d.name = some (.ref fa) →
      ∃ (fd : FuncData) (cl : Nat → Addr), (∀ (s : Shared) (u : Value), BindsTo s fd ⟨[u], []⟩ [(x, u)]) ∧ ∀ (a : Addr) (ns : List Int) (base : Heap), (K w.params).In base → base.Ns mainGlobals mg → FnG l.prog w (K w.params) mg base k fa fd [x] (spM ⟨K w.params, a, ns, cl⟩ 1 m))
    (hm : ∀ ns, bitsOk ns → ∃ h', m [.scr] (heap0 ns) = .ok (.bl true) h') : PySem.W.WalkO q loose XP YP l.row.toRowW d [] (fun f vs => PySem.call f vs) := by
  refine Att.attach_callB hn hdf fun w s₀ s₁ mg mb fa o pm cd doc a vs ns G Y ho hd hcd hmg hobj hints hlen hbits hg => ?_
  have KX := hY w _ Y
  obtain ⟨fd, cl, hb, hF⟩ := F w mg fa _ KX G.T.g hmg
  exact law_run KX G.T.g G.T.b G.T.builtins G.T.nolimit hg hobj hints (Nat.le_trans hlen (by decide)) hr (hF a ns) hb (hm ns ⟨hlen, hbits⟩)
end Mn
end

section
/-! Mini: == and != of lists and dicts that are equal, dicts within. -/
namespace PySem.SeqAt
open AutoSeq1 (wpAny_loadPart')
open MeetsSeq MeetsSeq2 MeetsSeq3 SeqRoads2
section
variable {prog : Program} {w : World}
/-- list != list, turn by turn, where all items are equal -/
theorem mn_ne_loop (l b : Addr) (items items2 : Array Value) (n n2 : Nat) (dd dd2 : Option Addr) (sl sl2 : Array (Option Value)) (hsz : items.size = items2.size) (k : Nat) :
    ∀ i : Nat, items.size - i = k → MeetsIn prog w (Builtin.«list.__eq__.loop» ⟨[.ref l, .ref b, rawInt i, rawInt 3], []⟩)
      (fun A R s => s.heap.get? l = some { cls := .type "list", dict := dd, data := .seq items n, slots := sl } ∧ s.heap.get? b = some { cls := .type "list", dict := dd2, data := .seq items2 n2, slots := sl2 } ∧
        (∀ j (h1 : j < items.size) (h2 : j < items2.size), EqP prog w A.in1 s items[j] items2[j] true) ∧ R (.ok (.ret (.bool false))) s) := by
  induction k with
  | zero =>
    intro i hk A R s h
    obtain ⟨hp, g, d, tk, os⟩ := s
    obtain ⟨hl, hb, he, h⟩ := h
    wp_walk using wpAny_loadPart' hl, wpAny_loadPart' hb
    have z1 : items[((i : Nat) : Int).toNat]? = none := by simp; omega
    have z2 : items2[((i : Nat) : Int).toNat]? = none := by simp; omega
    rw [z1, z2]
    wp_walk using wpAny_loadPart' hl, wpAny_loadPart' hb
    show R (.ok (.ret (.bool (items.size != items2.size)))) _
    rw [hsz]
    simpa using h
  | succ k ih =>
    intro i hk A R s h
    obtain ⟨hp, g, d, tk, os⟩ := s
    obtain ⟨hl, hb, he, h⟩ := h
    wp_walk using wpAny_loadPart' hl, wpAny_loadPart' hb
    have l1 : i < items.size := by omega
    have l2 : i < items2.size := by omega
    have z1 : items[((i : Nat) : Int).toNat]? = some items[i] := by simp [l1]
    have z2 : items2[((i : Nat) : Int).toNat]? = some items2[i] := by simp [l2]
    have zc : ((i : Int) + 1) = ((i + 1 : Nat) : Int) := by push_cast; rfl
    rw [z1, z2]
    refine wpAny_bind (he i l1 l2 _ _ ?_)
    wp_walk
    rw [zc]
    exact ⟨plainId_quiet plain_eq_loop _, codeAny_builtin entry_eq_loop (by
      rw [Around.under_plainId plain_eq_loop _]
      exact ih (i + 1) (by omega) A R _ ⟨hl, hb, he, h⟩)⟩
theorem mn_list_ne (l b : Addr) (items items2 : Array Value) (n n2 : Nat) (dd dd2 : Option Addr) (sl sl2 : Array (Option Value)) (hsz : items.size = items2.size) :
    MeetsIn prog w (Builtin.«list.__ne__» ⟨[.ref l, .ref b], []⟩)
      (fun A R s => s.heap.get? l = some { cls := .type "list", dict := dd, data := .seq items n, slots := sl } ∧ s.heap.get? b = some { cls := .type "list", dict := dd2, data := .seq items2 n2, slots := sl2 } ∧
        (∀ j (h1 : j < items.size) (h2 : j < items2.size), EqP prog w A.in1 s items[j] items2[j] true) ∧ R (.ok (.ret (.bool false))) s) := by
  intro A R s h
  obtain ⟨hp, g, d, tk, os⟩ := s
  obtain ⟨hl, hb, he, h⟩ := h
  have f3 := AutoSeq1.sub_list_list
  have hne : ¬ (items.size != items2.size) = true := by simp [hsz]
  wp_walk using wpAny_loadPart' hl, wpAny_loadPart' hb
  exact ⟨plainId_quiet plain_eq_loop _, codeAny_builtin entry_eq_loop (by
    rw [Around.under_plainId plain_eq_loop _]
    exact mn_ne_loop l b items items2 n n2 dd dd2 sl sl2 hsz _ 0 rfl A R _ ⟨hl, hb, he, h⟩)⟩
theorem mn_ne_lists {A : Around} {s : Shared} {l b : Addr} {items items2 : Array Value} (hl : s.heap.IsList l items) (hb : s.heap.IsList b items2) (hsz : items.size = items2.size) (hu : A.units < cLine)
    (he : ∀ j (h1 : j < items.size) (h2 : j < items2.size), EqP prog w A.in1 s items[j] items2[j] true) (E Q : Value → Shared → Prop) (h : Q (.bool false) s) : wpAny (model prog w) A (richCompare .NotEq (.ref l) (.ref b)) Q E s := by
  obtain ⟨⟨cls, dd, data, sl⟩, ho, hc, n, hd⟩ := id hl
  obtain ⟨⟨cls2, dd2, data2, sl2⟩, ho2, hc2, n2, hd2⟩ := id hb
  simp only at hc hd hc2 hd2
  subst hc hd hc2 hd2
  have ta : s.TypeIs (.ref l) "list" := ⟨_, ho, rfl⟩
  have tb : s.TypeIs (.ref b) "list" := ⟨_, ho2, rfl⟩
  refine wpAny_richCompare_same_room (op := .NotEq) ta tb F.slot_list_ne (call_meetsIn F.slot_list_ne ta F.entry_list_ne (F.args_list_ne_2 _ _) (mn_list_ne l b items items2 n n2 dd dd2 sl sl2 hsz) ⟨ho, ho2, he, ?_⟩) hu
  exact show Value.bool false ≠ Value.notImplemented ∧ Q (.bool false) s from ⟨(fun x => nomatch x), h⟩
end
end PySem.SeqAt
namespace Mn
open PySem L2
def all2 (f : Va → Va → Bool) : List Va → List Va → Bool
  | [], [] => true
  | x :: xs, y :: ys => f x y && all2 f xs ys
  | _, _ => false
/-- surely equal (dicts and lists by what they hold) -/
def eqM (n : Nat) (h : MH) (v u : Va) : Bool := match n with
  | 0 => false
  | n + 1 => match toD deep h v, toD deep h u with
    | some d, some e => d.plain && (e.plain && (Nat.ble d.depth 60 && PyData.eqv d e))
    | _, _ => match v, u with
      | .ref i, .ref j => match h.get i, h.get j with
        | some (.lst xs), some (.lst ys) => all2 (eqM n h) xs ys
        | some (.dic ks), some (.dic ls) => (ks.length.beq ls.length) && ks.all fun kv => match look ls kv.1 with
          | some u => eqM n h kv.2 u
          | none => false
        | _, _ => false
      | _, _ => false
section
variable {g : Gb} {W : WX} {X : Cx} {p : List Addr} {H : Hp} {h : MH} {pins : List (Addr × Obj)} {σ : St} {s : Shared}
/-- equal by the small run -/
def EM (g : Gb) (p : List Addr) (H : Hp) (n : Nat) (h : MH) (x y : V) : Prop := ∃ v u, RV g p H v x ∧ RV g p H u y ∧ eqM n h v u = true
theorem all2_ok {n : Nat} : ∀ {xs ys : List Va} {as bs : List V}, all2 (eqM n h) xs ys = true → RVs g p H xs as → RVs g p H ys bs → Paired (EM g p H n h) as bs
  | [], [], as, bs, _, r1, r2 => by simp only [RVs] at r1 r2; subst r1 r2; exact .nil
  | x :: xs, y :: ys, as, bs, e, r1, r2 => by
    simp only [RVs] at r1 r2
    obtain ⟨a, t, rfl, h1, h2⟩ := r1
    obtain ⟨b, t', rfl, h3, h4⟩ := r2
    simp only [all2, Bool.and_eq_true] at e
    exact .cons ⟨x, y, h1, h3, e.1⟩ (all2_ok e.2 h2 h4)
  | [], _ :: _, _, _, e, _, _ => by simp [all2] at e
  | _ :: _, [], _, _, e, _, _ => by simp [all2] at e
theorem RK.mem : ∀ {ks : List (Va × Va)} {ys : List (Key × V)} {q : Key × V}, RK g p H ks ys → q ∈ ys → ∃ kv, kv ∈ ks ∧ kv.1 = keyVa q.1 ∧ RV g p H kv.2 q.2
  | [], ys, q, r, m => by simp only [RK] at r; subst r; simp at m
  | a :: r, ys, q, z, m => by
    simp only [RK] at z
    obtain ⟨k1, y, t, rfl, e1, r1, r2⟩ := z
    rcases List.mem_cons.mp m with e | e
    · subst e; exact ⟨a, by simp, e1, r1⟩
    · obtain ⟨kv, m1, m2, m3⟩ := RK.mem r2 e
      exact ⟨kv, by simp [m1], m2, m3⟩
theorem keyOf_keyVa (k : Key) : keyOf (keyVa k) = some k := by cases k <;> rfl
/-- two lists, two dicts -/
theorem refs_ok {n i j : Nat} {x y : V} (R : RH g p h H) (r1 : RV g p H (.ref i) x) (r2 : RV g p H (.ref j) y)
    (e : (match h.get i, h.get j with
        | some (.lst xs), some (.lst ys) => all2 (eqM n h) xs ys
        | some (.dic ks), some (.dic ls) => (ks.length.beq ls.length) && ks.all fun kv => match look ls kv.1 with
          | some u => eqM n h kv.2 u
          | none => false
        | _, _ => false) = true) : EqR g.K H (EM g p H n h) x y := by
  simp only [RV] at r1 r2
  obtain ⟨a, rfl, ha⟩ := r1
  obtain ⟨b, rfl, hb⟩ := r2
  split at e
  · rename_i xs ys h1 h2
    obtain ⟨a', as, q1, q2, q3⟩ := R.lst h1
    obtain ⟨b', bs, k1, k2, k3⟩ := R.lst h2
    rw [ha] at q1; cases q1
    rw [hb] at k1; cases k1
    exact .inl ⟨a, b, as, bs, rfl, rfl, .inl (.inl q2), .inl (.inl k2), all2_ok e q3 k3⟩
  · rename_i ks ls h1 h2
    obtain ⟨a', as, q1, q2, q3⟩ := R.dic h1
    obtain ⟨b', bs, k1, k2, k3⟩ := R.dic h2
    rw [ha] at q1; cases q1
    rw [hb] at k1; cases k1
    simp only [Bool.and_eq_true, List.all_eq_true] at e
    refine .inr ⟨a, b, as, bs, rfl, rfl, q2, k2, by rw [← q3.len, ← k3.len]; exact Nat.eq_of_beq_eq_true e.1, fun q m => ?_⟩
    obtain ⟨kv, m1, m2, m3⟩ := q3.mem m
    have e' := e.2 kv m1
    cases z : look ls kv.1 with
    | none => rw [z] at e'; simp at e'
    | some u =>
      rw [z] at e'
      rw [m2] at z
      obtain ⟨w, w1, w2⟩ := (look_ok (keyOf_keyVa q.1) k3).2 u z
      exact ⟨w, w1, kv.2, u, m3, w2, e'⟩
  · cases e
theorem eqM_run (hK : X.K = g.K) (I : Inv X pins σ H s) (R : RH g p h H) : ∀ (n : Nat) (A : Around), A.units + n + 62 < cLine → ∀ (x y : V) (a b : Value), EM g p H n h x y → RelV x a → RelV y b → SeqAt.EqP X.prog X.w A s a b true
  | 0, _, _, _, _, _, _, ⟨_, _, _, _, e⟩, _, _ => by simp [eqM] at e
  | n + 1, A, hu, x, y, a, b, ⟨v, u, r1, r2, e⟩, ra, rb => by
    unfold eqM at e
    split at e
    · rename_i d d' h1 h2
      simp only [Bool.and_eq_true, Nat.ble_eq] at e
      obtain ⟨as, x1⟩ := Dp.reads I d x a (hK ▸ toD_ok R _ _ _ _ h1 r1) ra
      obtain ⟨bs, x2⟩ := Dp.reads I d' y b (hK ▸ toD_ok R _ _ _ _ h2 r2) rb
      have q := SeqAt.eqAt_plain d d' A s a b as bs x1 x2 e.1 e.2.1 (by have := Nat.min_le_left d.depth d'.depth; omega)
      rw [e.2.2.2] at q
      exact q.eqP
    · split at e
      · have step := eqR_run I (A := A) (F := EM g p H n h) (by omega) (eqM_run hK I R n A.in1 (by show A.units + 1 + n + 62 < cLine; omega)) (hK ▸ refs_ok R r1 r2 e) ra rb
        simp only [RV] at r1 r2
        obtain ⟨a1, rfl, _⟩ := r1
        obtain ⟨b1, rfl, _⟩ := r2
        obtain rfl : a = Value.ref a1 := ra
        obtain rfl : b = Value.ref b1 := rb
        by_cases q : a1 = b1
        · subst q; exact (SeqAt.EqAt.same _).eqP
        · exact SeqAt.eqP_refs q step
      · cases e
/-- == and != of lists and dicts -/
def eqRef (h : MH) (v u : Va) : Bool := match v, u with
  | .ref i, .ref j => match h.get i, h.get j with
    | some (.lst xs), some (.lst ys) => all2 (eqM 20 h) xs ys
    | some (.dic ks), some (.dic ls) => (ks.length.beq ls.length) && ks.all fun kv => match look ls kv.1 with
      | some u => eqM 20 h kv.2 u
      | none => false
    | _, _ => false
  | _, _ => false
def rEqM (g : Gb) : R2 := fun x y H Q => ∃ p h, RH g p h H ∧ EqR g.K H (EM g p H 20 h) x y ∧ Q (.bl true) H
theorem op_eqM (hK : X.K = g.K) (hu : X.A.units + 100 < cLine) : OpR X (compareOp .Eq) (rEqM g) := by
  intro pins s σ H x y v u Q I rx ry hq
  obtain ⟨p, h, R, e, q⟩ := hq
  exact eqR_run I (A := X.A) (by omega) (eqM_run hK I R 20 X.A.in1 (by show X.A.units + 1 + 20 + 62 < cLine; omega)) (hK ▸ e) rx ry _ _ ⟨.bl true, H, I, rfl, q⟩
def rNeM (g : Gb) : R2 := fun x y H Q => ∃ p h, RH g p h H ∧ (∃ a b xs ys, x = V.ref a ∧ y = V.ref b ∧ SqL g.K H a xs ∧ SqL g.K H b ys ∧ Paired (EM g p H 20 h) xs ys) ∧ Q (.bl false) H
theorem op_neM (hK : X.K = g.K) (hu : X.A.units + 100 < cLine) : OpR X (compareOp .NotEq) (rNeM g) := by
  intro pins s σ H x y v u Q I rx ry hq
  obtain ⟨p, h, R, ⟨a, b, xs, ys, rfl, rfl, l1, l2, pr⟩, q⟩ := hq
  obtain rfl : v = Value.ref a := rx
  obtain rfl : u = Value.ref b := ry
  obtain ⟨us, r1, p1, _⟩ := I.list (hK ▸ l1)
  obtain ⟨ws, r2, p2, _⟩ := I.list (hK ▸ l2)
  have hsz : us.toArray.size = ws.toArray.size := by
    rw [List.size_toArray, List.size_toArray, ← r1.length, ← r2.length]
    exact Paired.length pr
  refine SeqAt.mn_ne_lists p1.isList p2.isList hsz (by omega) (fun j h1 h2 => ?_) _ _ ⟨.bl false, H, I, rfl, q⟩
  have k := items_run (eqM_run hK I R 20 X.A.in1 (by show X.A.units + 1 + 20 + 62 < cLine; omega)) pr r1 r2 j (by simpa using h1) (by simpa using h2)
  simpa using k
/-- ==, != of data; of lists and dicts that are equal -/
def fEqA : F2 := fun v u h => match toD deep h v, toD deep h u with
  | some _, some _ => fEqD id v u h
  | _, _ => cond (eqRef h v u) (.ok (.bl true) h) .no
def isLst (h : MH) (v : Va) : Bool := match v with
  | .ref i => match h.get i with
    | some (.lst _) => true
    | _ => false
  | _ => false
def fNeA : F2 := fun v u h => match toD deep h v, toD deep h u with
  | some _, some _ => fEqD not v u h
  | _, _ => cond (isLst h v && eqRef h v u) (.ok (.bl false) h) .no
theorem osEqA : OpS g (fun x y H Q => rEqD g.K x y H Q ∨ rEqM g x y H Q) fEqA := fun p h H v u x y Q R rv ru G => by
  unfold fEqA at G
  split at G
  · exact .inl (osEqD p h H v u x y Q R rv ru G)
  · cases e : eqRef h v u with
    | false => rw [e] at G; exact G.elim
    | true =>
      rw [e] at G
      unfold eqRef at e
      split at e
      · exact .inr ⟨p, h, R, refs_ok R rv ru e, G p H _ (.refl _ _) R rvBl⟩
      · cases e
theorem opEqA (hK : X.K = g.K) (hu : X.A.units + 100 < cLine) : OpR X (compareOp .Eq) (fun x y H Q => rEqD g.K x y H Q ∨ rEqM g x y H Q) := Mn.OpR.or (hK ▸ op_eqD (by omega)) (op_eqM hK hu)
theorem osNeA : OpS g (fun x y H Q => rNeD g.K x y H Q ∨ rNeM g x y H Q) fNeA := fun p h H v u x y Q R rv ru G => by
  unfold fNeA at G
  split at G
  · exact .inl (osNeD p h H v u x y Q R rv ru G)
  · cases e : (isLst h v && eqRef h v u) with
    | false => rw [e] at G; exact G.elim
    | true =>
      rw [e] at G
      simp only [Bool.and_eq_true] at e
      obtain ⟨el, e⟩ := e
      unfold eqRef at e
      split at e
      · have E := refs_ok R rv ru e
        rcases E with ⟨a, b, xs, ys, e1, e2, e3, e4, e5⟩ | ⟨a, b, ks, ls, e1, e2, e3, e4, e5⟩
        · exact .inr ⟨p, h, R, ⟨a, b, xs, ys, e1, e2, e3, e4, e5⟩, G p H _ (.refl _ _) R rvBl⟩
        · exfalso
          simp only [isLst] at el
          split at el
          · rename_i zs hz
            obtain ⟨a', zs', q1, q2, q3⟩ := R.lst hz
            simp only [RV] at rv
            obtain ⟨a2, rfl, ha⟩ := rv
            cases e1
            rw [q1] at ha; cases ha
            rw [q2] at e3; cases e3
          · cases el
      · cases e
theorem opNeA (hK : X.K = g.K) (hu : X.A.units + 100 < cLine) : OpR X (compareOp .NotEq) (fun x y H Q => rNeD g.K x y H Q ∨ rNeM g x y H Q) := Mn.OpR.or (hK ▸ op_neD (by omega)) (op_neM hK hu)
end
end Mn
end

section
/-! The walk of latewise_k37_chances_of_rows: printed by gen.py -/
namespace Lw
open PySem L2 Mn
def top (i : Nat) : Stmt := PySem.Challenge.pw_latewise_k37_chances_of_rows.main.body.getD i (.Pass ⟨0, 0, 0, 0⟩)
abbrev s_Source_states : Stmt := inClass (top 16) 2
abbrev s_law_fraction : Stmt := top 24
abbrev s_law_added : Stmt := top 27
abbrev s_fraction_of : Stmt := top 9
abbrev s_total_of : Stmt := top 17
abbrev s_chance : Stmt := top 18
abbrev s_reached_from : Stmt := top 14
abbrev s_is_integer : Stmt := top 6
abbrev s_is_name : Stmt := top 7
abbrev s_is_source_state : Stmt := top 13
abbrev s_are_source_states : Stmt := top 15
abbrev s_Source___init__ : Stmt := inClass (top 16) 0
abbrev s_law_due : Stmt := top 25
abbrev s_law_take : Stmt := top 21
abbrev s_law_pick : Stmt := top 22
abbrev s_law_row : Stmt := top 26
abbrev s_law_source : Stmt := top 23
abbrev s_law_feed : Stmt := top 20
abbrev s_law : Stmt := top 28
/-- what is asked of the top -/
structure Tx (g : Gb) (mg : Str → Option Value) : Prop where
  b_abs : mg "abs" = none
  b_all : mg "all" = none
  b_bool : mg "bool" = none
  b_dict : mg "dict" = none
  b_int : mg "int" = none
  b_isinstance : mg "isinstance" = none
  b_len : mg "len" = none
  b_list : mg "list" = none
  b_max : mg "max" = none
  b_min : mg "min" = none
  b_range : mg "range" = none
  b_repr : mg "repr" = none
  b_sorted : mg "sorted" = none
  b_str : mg "str" = none
  b_sum : mg "sum" = none
  b_tuple : mg "tuple" = none
  k_LETTERS : ∃ t, mg "LETTERS" = some (.str "abcdefghijklmnopqrstuvwxyz" t)
  k_MAX_NAME : ∃ t, mg "MAX_NAME" = some (.int 8 t)
  k_MAX_PART : ∃ t, mg "MAX_PART" = some (.int 9 t)
  k_MAX_SOURCE : ∃ t, mg "MAX_SOURCE" = some (.int 4 t)
  f_Source_rows : FldT g 0 "rows"
  d_Source_states : MthT g 0 "states" "Source.states" s_Source_states
  d_law_fraction : DefT g mg "_law_fraction" "_law_fraction" s_law_fraction
  d_law_added : DefT g mg "_law_added" "_law_added" s_law_added
  d_fraction_of : DefT g mg "fraction_of" "fraction_of" s_fraction_of
  d_total_of : DefT g mg "total_of" "total_of" s_total_of
  d_chance : DefT g mg "chance" "chance" s_chance
  d_reached_from : DefT g mg "reached_from" "reached_from" s_reached_from
  d_is_integer : DefT g mg "is_integer" "is_integer" s_is_integer
  d_is_name : DefT g mg "is_name" "is_name" s_is_name
  d_is_source_state : DefT g mg "is_source_state" "is_source_state" s_is_source_state
  d_are_source_states : DefT g mg "are_source_states" "are_source_states" s_are_source_states
  d_Source___init__ : IniT g mg 0 "Source" "Source.__init__" s_Source___init__
  d_law_due : DefT g mg "_law_due" "_law_due" s_law_due
  d_law_take : DefT g mg "_law_take" "_law_take" s_law_take
  d_law_pick : DefT g mg "_law_pick" "_law_pick" s_law_pick
  d_law_row : DefT g mg "_law_row" "_law_row" s_law_row
  d_law_source : DefT g mg "_law_source" "_law_source" s_law_source
  d_law_feed : DefT g mg "_law_feed" "_law_feed" s_law_feed
  d_law : DefT g mg "law" "law" s_law
section
variable {P : Program} {w : World} {mg : Str → Option Value} {base : Heap} {g : Gb}
/-! Source_states -/
def NSource_states : List Str := ["self", "state"]
def b_Source_states : MT := mRet (mLcP big [1] (mIter (mFld 0 "rows" (mLoc 0))) (mgName 1) (mYes) (mCallB fDictOf (mCons (mLoc 1) (mNil))))
def m_Source_states : FnM := mkFn 2 1 b_Source_states
theorem sc_Source_states : FnScope ["self", "state"] ["self"] (defScope s_Source_states) := ⟨rfl, rfl, rfl, by decide +kernel, rfl, by decide +kernel, by decide +kernel⟩
theorem t_Source_states (T : Tx g mg) : MtT g P w mg base 1 1 0 "states" m_Source_states := by
  obtain ⟨f, fd, e1, e2, F⟩ := T.d_Source_states.ex
  have B : Binds g.K fd ["self"] [] := F.binds fun _ _ _ _ _ _ us hl => match us, hl with | [_], _ => rfl
  have sc := sc_Source_states
  have G : FnG P w g.K mg base 1 f fd ["self"] (spM g 1 m_Source_states) := by
    refine mk_fn F sc b_Source_states 2 1 rfl rfl fun cdv A outer s H E hG hr tk po => ?_
    unfold b_Source_states
    exact bOne (cRet (sLc (own := [("state", 1)]) big rfl sc.nd (sIter rfl (sFld rfl T.f_Source_rows (sLoc (pv 0)))) (blkOk_by (by show blkC NSource_states (defScope s_Source_states) _ _ = true; decide +kernel)) (fun _ _ _ _ _ => kSet (by decide) sc.nd) (fun _ _ _ _ _ => tsNil) (fun _ _ _ _ _ => sCallTy call_dictD csDictOf T.b_dict (sCons (sLoc (pv 1)) (sNil)))))
  exact ⟨f, fd, _, e1, e2, B, G⟩
/-! law_fraction -/
def Nlaw_fraction : List Str := ["top", "bottom", "first", "second"]
def b_law_fraction : MT := mSeq (mPar 2 3 (mCons (mLoc 0) (mCons (mLoc 1) (mNil))))
  (mSeq (mWhile (mTb (mBin fGt (mLoc 3) (mCon (.int 0)))) (mPar 2 3 (mCons (mLoc 3) (mCons (mBin fSub (mLoc 2) (mBin fMul (mBin fFdiv (mLoc 2) (mLoc 3)) (mLoc 3))) (mNil)))) big)
  (mRet (mTup (mCons (mBin fFdiv (mLoc 0) (mLoc 2)) (mCons (mBin fFdiv (mLoc 1) (mLoc 2)) (mNil))))))
def m_law_fraction : FnM := mkFn 4 2 b_law_fraction
theorem sc_law_fraction : FnScope ["top", "bottom", "first", "second"] ["top", "bottom"] (defScope s_law_fraction) := ⟨rfl, rfl, rfl, by decide +kernel, rfl, by decide +kernel, by decide +kernel⟩
theorem t_law_fraction (T : Tx g mg) : FnT g P w mg base 1 2 "_law_fraction" m_law_fraction := by
  obtain ⟨f, fd, e1, F⟩ := T.d_law_fraction.ex
  have B : Binds g.K fd ["top", "bottom"] [] := F.binds fun _ _ _ _ _ _ us hl => match us, hl with | [_, _], _ => rfl
  have sc := sc_law_fraction
  have G : FnG P w g.K mg base 1 f fd ["top", "bottom"] (spM g 2 m_law_fraction) := by
    refine mk_fn F sc b_law_fraction 4 2 rfl rfl fun cdv A outer s H E hG hr tk po => ?_
    unfold b_law_fraction
    exact bCons (cPar rfl sc.nd (sCons (sLoc (pv 0)) (sCons (sLoc (pv 1)) (sNil))))
      (bCons (cWhile big po (tCmpT op_gt osGt (sLoc (pv 3)) (sInt)) (bOne (cPar rfl sc.nd (sCons (sLoc (pv 3)) (sCons (sBin op_sub osSub (sLoc (pv 2)) (sBin opMul osMul (sBin op_fdivW osFdiv (sLoc (pv 2)) (sLoc (pv 3))) (sLoc (pv 3)))) (sNil))))))
      (bOne (cRet (sTup (sCons (sBin op_fdivW osFdiv (sLoc (pv 0)) (sLoc (pv 2))) (sCons (sBin op_fdivW osFdiv (sLoc (pv 1)) (sLoc (pv 2))) (sNil)))))))
  exact ⟨f, fd, _, e1, F.kp, B, G⟩
/-! law_added -/
def Nlaw_added : List Str := ["some", "top", "bottom", "one"]
def b_law_added : MT := mSeq (mAsgG (mTup (mCons (mCon (.int 0)) (mCons (mCon (.int 1)) (mNil)))) (mgTup 2 (mgCons (mgName 1) (mgCons (mgName 2) (mgNil)))))
  (mSeq (mFor big (mIter (mLoc 0)) (mgName 3) (mPar 1 2 (mCons (mBin fAdd (mBin fMul (mLoc 1) (mBin fSub2 (mLoc 3) (mCon (.int 1)))) (mBin fMul (mBin fSub2 (mLoc 3) (mCon (.int 0))) (mLoc 2))) (mCons (mBin fMul (mLoc 2) (mBin fSub2 (mLoc 3) (mCon (.int 1)))) (mNil)))))
  (mRet (mIf (mTb (mBin fGt (mLoc 1) (mCon (.int 0)))) (mCallF 2 m_law_fraction (mCons (mLoc 1) (mCons (mLoc 2) (mNil)))) (mTup (mCons (mCon (.int 0)) (mCons (mCon (.int 1)) (mNil)))))))
def m_law_added : FnM := mkFn 4 1 b_law_added
theorem sc_law_added : FnScope ["some", "top", "bottom", "one"] ["some"] (defScope s_law_added) := ⟨rfl, rfl, rfl, by decide +kernel, rfl, by decide +kernel, by decide +kernel⟩
theorem t_law_added (T : Tx g mg) : FnT g P w mg base 2 1 "_law_added" m_law_added := by
  obtain ⟨f, fd, e1, F⟩ := T.d_law_added.ex
  have B : Binds g.K fd ["some"] [] := F.binds fun _ _ _ _ _ _ us hl => match us, hl with | [_], _ => rfl
  have sc := sc_law_added
  have G : FnG P w g.K mg base 2 f fd ["some"] (spM g 1 m_law_added) := by
    refine mk_fn F sc b_law_added 4 1 rfl rfl fun cdv A outer s H E hG hr tk po => ?_
    unfold b_law_added
    exact bCons (cAsg (sTup (sCons (sInt) (sCons (sInt) (sNil)))) (gTup' rfl rfl (gCons' (gSet sc.nd) (gCons' (gSet sc.nd) (gNil')))))
      (bCons (cFor big po rfl (sIter rfl (sLoc (pv 0))) (gSet sc.nd) (bOne (cPar rfl sc.nd (sCons (sBin opAdd osAdd (sBin opMul osMul (sLoc (pv 1)) (sIx rfl (u1 hr) (sLoc (pv 3)) (sInt))) (sBin opMul osMul (sIx rfl (u1 hr) (sLoc (pv 3)) (sInt)) (sLoc (pv 2)))) (sCons (sBin opMul osMul (sLoc (pv 2)) (sIx rfl (u1 hr) (sLoc (pv 3)) (sInt))) (sNil))))))
      (bOne (cRet (sIf (tCmpT op_gt osGt (sLoc (pv 1)) (sInt)) (sCall rfl hG (hr.mono (by decide)) tk (t_law_fraction T) (sCons (sLoc (pv 1)) (sCons (sLoc (pv 2)) (sNil)))) (sTup (sCons (sInt) (sCons (sInt) (sNil))))))))
  exact ⟨f, fd, _, e1, F.kp, B, G⟩
/-! fraction_of -/
def Nfraction_of : List Str := ["top", "bottom", "first", "second"]
def b_fraction_of : MT := mSeq (mPar 2 3 (mCons (mCallB fAbs (mCons (mLoc 0) (mNil))) (mCons (mLoc 1) (mNil))))
  (mSeq (mWhile (mTb (mBin fGt (mLoc 3) (mCon (.int 0)))) (mPar 2 3 (mCons (mLoc 3) (mCons (mBin fMod (mLoc 2) (mLoc 3)) (mNil)))) big)
  (mRet (mTup (mCons (mBin fFdiv (mLoc 0) (mLoc 2)) (mCons (mBin fFdiv (mLoc 1) (mLoc 2)) (mNil))))))
def m_fraction_of : FnM := mkFn 4 2 b_fraction_of
theorem sc_fraction_of : FnScope ["top", "bottom", "first", "second"] ["top", "bottom"] (defScope s_fraction_of) := ⟨rfl, rfl, rfl, by decide +kernel, rfl, by decide +kernel, by decide +kernel⟩
theorem t_fraction_of (T : Tx g mg) : FnT g P w mg base 1 2 "fraction_of" m_fraction_of := by
  obtain ⟨f, fd, e1, F⟩ := T.d_fraction_of.ex
  have B : Binds g.K fd ["top", "bottom"] [] := F.binds fun _ _ _ _ _ _ us hl => match us, hl with | [_, _], _ => rfl
  have sc := sc_fraction_of
  have G : FnG P w g.K mg base 1 f fd ["top", "bottom"] (spM g 2 m_fraction_of) := by
    refine mk_fn F sc b_fraction_of 4 2 rfl rfl fun cdv A outer s H E hG hr tk po => ?_
    unfold b_fraction_of
    exact bCons (cPar rfl sc.nd (sCons (sCallB call_abs csAbs T.b_abs (sCons (sLoc (pv 0)) (sNil))) (sCons (sLoc (pv 1)) (sNil))))
      (bCons (cWhile big po (tCmpT op_gt osGt (sLoc (pv 3)) (sInt)) (bOne (cPar rfl sc.nd (sCons (sLoc (pv 3)) (sCons (sBin op_modN osMod (sLoc (pv 2)) (sLoc (pv 3))) (sNil))))))
      (bOne (cRet (sTup (sCons (sBin op_fdivW osFdiv (sLoc (pv 0)) (sLoc (pv 2))) (sCons (sBin op_fdivW osFdiv (sLoc (pv 1)) (sLoc (pv 2))) (sNil)))))))
  exact ⟨f, fd, _, e1, F.kp, B, G⟩
/-! total_of -/
def Ntotal_of : List Str := ["source", "state", "part", "behind"]
def b_total_of : MT := mRet (mCallB fSum (mCons (mLcP big [2, 3] (mWalkD .vals (mBin fSub2 (mFld 0 "rows" (mLoc 0)) (mLoc 1))) (mgTup 2 (mgCons (mgName 2) (mgCons (mgName 3) (mgNil)))) (mYes) (mLoc 2)) (mNil)))
def m_total_of : FnM := mkFn 4 2 b_total_of
theorem sc_total_of : FnScope ["source", "state", "part", "behind"] ["source", "state"] (defScope s_total_of) := ⟨rfl, rfl, rfl, by decide +kernel, rfl, by decide +kernel, by decide +kernel⟩
theorem t_total_of (T : Tx g mg) : FnT g P w mg base 1 2 "total_of" m_total_of := by
  obtain ⟨f, fd, e1, F⟩ := T.d_total_of.ex
  have B : Binds g.K fd ["source", "state"] [] := F.binds fun _ _ _ _ _ _ us hl => match us, hl with | [_, _], _ => rfl
  have sc := sc_total_of
  have G : FnG P w g.K mg base 1 f fd ["source", "state"] (spM g 2 m_total_of) := by
    refine mk_fn F sc b_total_of 4 2 rfl rfl fun cdv A outer s H E hG hr tk po => ?_
    unfold b_total_of
    exact bOne (cRet (sCallB (cr_sum rfl) csSum T.b_sum (sCons (sLc (own := [("part", 2), ("behind", 3)]) big rfl sc.nd (sVals (sIx rfl (u1 hr) (sFld rfl T.f_Source_rows (sLoc (pv 0))) (sLoc (pv 1)))) (blkOk_by (by show blkC Ntotal_of (defScope s_total_of) _ _ = true; decide +kernel)) (fun _ _ _ _ _ => kTup rfl rfl (kCons (kSet (by decide) sc.nd) (kCons (kSet (by decide) sc.nd) (kNil)))) (fun _ _ _ _ _ => tsNil) (fun _ _ _ _ _ => sLoc (pv 2))) (sNil))))
  exact ⟨f, fd, _, e1, F.kp, B, G⟩
/-! chance -/
def Nchance : List Str := ["source", "row", "top", "bottom", "state", "kind", "part", "behind"]
def b_chance : MT := mSeq (mAsgG (mTup (mCons (mCon (.int 1)) (mCons (mCon (.int 1)) (mCons (mCon (.int 0)) (mNil))))) (mgTup 3 (mgCons (mgName 2) (mgCons (mgName 3) (mgCons (mgName 4) (mgNil))))))
  (mSeq (mFor big (mIter (mLoc 1)) (mgName 5) (mSeq (mIfS (mTb (mBin (fDIn not) (mLoc 5) (mBin fSub2 (mFld 0 "rows" (mLoc 0)) (mLoc 4)))) (mRet (mTup (mCons (mCon (.int 0)) (mCons (mCon (.int 1)) (mNil))))) (mSkip))
  (mSeq (mAsgG (mBin fSub2 (mBin fSub2 (mFld 0 "rows" (mLoc 0)) (mLoc 4)) (mLoc 5)) (mgTup 2 (mgCons (mgName 6) (mgCons (mgName 7) (mgNil)))))
  (mSeq (mPar 2 3 (mCons (mBin fMul (mLoc 2) (mLoc 6)) (mCons (mBin fMul (mLoc 3) (mCallF 2 m_total_of (mCons (mLoc 0) (mCons (mLoc 4) (mNil))))) (mNil))))
  (mSet 4 (mLoc 7))))))
  (mRet (mCallF 2 m_fraction_of (mCons (mLoc 2) (mCons (mLoc 3) (mNil))))))
def m_chance : FnM := mkFn 8 2 b_chance
theorem sc_chance : FnScope ["source", "row", "top", "bottom", "state", "kind", "part", "behind"] ["source", "row"] (defScope s_chance) := ⟨rfl, rfl, rfl, by decide +kernel, rfl, by decide +kernel, by decide +kernel⟩
theorem t_chance (T : Tx g mg) : FnT g P w mg base 2 2 "chance" m_chance := by
  obtain ⟨f, fd, e1, F⟩ := T.d_chance.ex
  have B : Binds g.K fd ["source", "row"] [] := F.binds fun _ _ _ _ _ _ us hl => match us, hl with | [_, _], _ => rfl
  have sc := sc_chance
  have G : FnG P w g.K mg base 2 f fd ["source", "row"] (spM g 2 m_chance) := by
    refine mk_fn F sc b_chance 8 2 rfl rfl fun cdv A outer s H E hG hr tk po => ?_
    unfold b_chance
    exact bCons (cAsg (sTup (sCons (sInt) (sCons (sInt) (sCons (sInt) (sNil))))) (gTup' rfl rfl (gCons' (gSet sc.nd) (gCons' (gSet sc.nd) (gCons' (gSet sc.nd) (gNil'))))))
      (bCons (cFor big po rfl (sIter rfl (sLoc (pv 1))) (gSet sc.nd) (bCons (cIf (tDNotInT (u1 hr) (sLoc (pv 5)) (sIx rfl (u1 hr) (sFld rfl T.f_Source_rows (sLoc (pv 0))) (sLoc (pv 4)))) (bOne (cRet (sTup (sCons (sInt) (sCons (sInt) (sNil)))))) (bNil))
      (bCons (cAsg (sIx rfl (u1 hr) (sIx rfl (u1 hr) (sFld rfl T.f_Source_rows (sLoc (pv 0))) (sLoc (pv 4))) (sLoc (pv 5))) (gTup' rfl rfl (gCons' (gSet sc.nd) (gCons' (gSet sc.nd) (gNil')))))
      (bCons (cPar rfl sc.nd (sCons (sBin opMul osMul (sLoc (pv 2)) (sLoc (pv 6))) (sCons (sBin opMul osMul (sLoc (pv 3)) (sCall rfl hG (hr.mono (by decide)) tk (t_total_of T) (sCons (sLoc (pv 0)) (sCons (sLoc (pv 4)) (sNil))))) (sNil))))
      (bOne (cSet sc.nd (sLoc (pv 7))))))))
      (bOne (cRet (sCall rfl hG (hr.mono (by decide)) tk (t_fraction_of T) (sCons (sLoc (pv 2)) (sCons (sLoc (pv 3)) (sNil)))))))
  exact ⟨f, fd, _, e1, F.kp, B, G⟩
/-! reached_from -/
def Nreached_from : List Str := ["rows", "state", "found", "waiting", "part", "behind"]
def b_reached_from : MT := mSeq (mPar 2 3 (mCons (mDict (mPcons (mLoc 1) (mCon (.bl true)) (mPnil))) (mCons (mLst (mCons (mLoc 1) (mNil))) (mNil))))
  (mSeq (mWhile (mTb (mBin fNeA (mLoc 3) (mLst (mNil)))) (mFor big (mWalkD .vals (mBin fSub2 (mLoc 0) (mBM0 fPop (mLoc 3)))) (mgTup 2 (mgCons (mgName 4) (mgCons (mgName 5) (mgNil)))) (mIfS (mTb (mBin (fDIn not) (mLoc 5) (mLoc 2))) (mSeq (mStore (mCon (.bl true)) (mLoc 2) (mLoc 5))
  (mExpr (mBM fAppend (mLoc 3) (mCons (mLoc 5) (mNil))))) (mSkip))) big)
  (mRet (mLoc 2)))
def m_reached_from : FnM := mkFn 6 2 b_reached_from
theorem sc_reached_from : FnScope ["rows", "state", "found", "waiting", "part", "behind"] ["rows", "state"] (defScope s_reached_from) := ⟨rfl, rfl, rfl, by decide +kernel, rfl, by decide +kernel, by decide +kernel⟩
theorem t_reached_from (T : Tx g mg) : FnT g P w mg base 1 2 "reached_from" m_reached_from := by
  obtain ⟨f, fd, e1, F⟩ := T.d_reached_from.ex
  have B : Binds g.K fd ["rows", "state"] [] := F.binds fun _ _ _ _ _ _ us hl => match us, hl with | [_, _], _ => rfl
  have sc := sc_reached_from
  have G : FnG P w g.K mg base 1 f fd ["rows", "state"] (spM g 2 m_reached_from) := by
    refine mk_fn F sc b_reached_from 6 2 rfl rfl fun cdv A outer s H E hG hr tk po => ?_
    unfold b_reached_from
    exact bCons (cPar rfl sc.nd (sCons (sDict (dCons (sLoc (pv 1)) (sBl) (dNil))) (sCons (sLst (sCons (sLoc (pv 1)) (sNil))) (sNil))))
      (bCons (cWhile big po (tCmpT (opNeA rfl (u100 hr)) osNeA (sLoc (pv 3)) (sLst (sNil))) (bOne (cFor big po rfl (sVals (sIx rfl (u1 hr) (sLoc (pv 0)) (sBM0 rfl PySem.F.slot_list_pop PySem.F.type_list_pop mt_pop msPop (sLoc (pv 3))))) (gTup' rfl rfl (gCons' (gSet sc.nd) (gCons' (gSet sc.nd) (gNil')))) (bOne (cIf (tDNotInT (u1 hr) (sLoc (pv 5)) (sLoc (pv 2))) (bCons (cStore (u1 hr) (sBl) (sLoc (pv 2)) (sLoc (pv 5)))
      (bOne (cExpr (sBM rfl PySem.F.slot_list_append PySem.F.type_list_append mt_append msAppend (sLoc (pv 3)) (sCons (sLoc (pv 5)) (sNil)))))) (bNil))))))
      (bOne (cRet (sLoc (pv 2)))))
  exact ⟨f, fd, _, e1, F.kp, B, G⟩
/-! is_integer -/
def Nis_integer : List Str := ["value", "least", "most"]
def b_is_integer : MT := mRet (mAnd (mIsi "int" (mLoc 0)) (mAnd (mNot (mIsi "bool" (mLoc 0))) (mChain fLe fLe (mLoc 1) (mLoc 0) (mLoc 2))))
def m_is_integer : FnM := mkFn 3 3 b_is_integer
theorem sc_is_integer : FnScope ["value", "least", "most"] ["value", "least", "most"] (defScope s_is_integer) := ⟨rfl, rfl, rfl, by decide +kernel, rfl, by decide +kernel, by decide +kernel⟩
theorem t_is_integer (T : Tx g mg) : FnT g P w mg base 1 3 "is_integer" m_is_integer := by
  obtain ⟨f, fd, e1, F⟩ := T.d_is_integer.ex
  have B : Binds g.K fd ["value", "least", "most"] [] := F.binds fun _ _ _ _ _ _ us hl => match us, hl with | [_, _, _], _ => rfl
  have sc := sc_is_integer
  have G : FnG P w g.K mg base 1 f fd ["value", "least", "most"] (spM g 3 m_is_integer) := by
    refine mk_fn F sc b_is_integer 3 3 rfl rfl fun cdv A outer s H E hG hr tk po => ?_
    unfold b_is_integer
    exact bOne (cRet (sAnd rfl (sIsi rfl T.b_isinstance T.b_int (sLoc (pv 0))) (sAnd rfl (sNot rfl (sIsi rfl T.b_isinstance T.b_bool (sLoc (pv 0)))) (sOne (sChain op_le osLe op_le osLe (sLoc (pv 1)) (sLoc (pv 0)) (sLoc (pv 2)))))))
  exact ⟨f, fd, _, e1, F.kp, B, G⟩
/-! is_name -/
def Nis_name : List Str := ["value", "letter"]
def b_is_name : MT := mSeq (mIfS (mOrT (mNotT (mTru (mIsi "str" (mLoc 0)))) (mNotT (mTb (mChain fLe fLe (mCon (.int 1)) (mCallB fLen (mCons (mLoc 0) (mNil))) (mCon (.int 8)))))) (mRet (mCon (.bl false))) (mSkip))
  (mRet (mCallB (fBls fun bs => bs.all id) (mCons (mLcP big [1] (mIter (mLoc 0)) (mgName 1) (mYes) (mBin (fIn id) (mLoc 1) (mCon (.str "abcdefghijklmnopqrstuvwxyz")))) (mNil))))
def m_is_name : FnM := mkFn 2 1 b_is_name
theorem sc_is_name : FnScope ["value", "letter"] ["value"] (defScope s_is_name) := ⟨rfl, rfl, rfl, by decide +kernel, rfl, by decide +kernel, by decide +kernel⟩
theorem t_is_name (T : Tx g mg) : FnT g P w mg base 1 1 "is_name" m_is_name := by
  obtain ⟨f, fd, e1, F⟩ := T.d_is_name.ex
  have B : Binds g.K fd ["value"] [] := F.binds fun _ _ _ _ _ _ us hl => match us, hl with | [_], _ => rfl
  have sc := sc_is_name
  have G : FnG P w g.K mg base 1 f fd ["value"] (spM g 1 m_is_name) := by
    refine mk_fn F sc b_is_name 2 1 rfl rfl fun cdv A outer s H E hG hr tk po => ?_
    unfold b_is_name
    exact bCons (cIf (SW.st (wOr (tNot (tTru rfl (sIsi rfl T.b_isinstance T.b_str (sLoc (pv 0))))) (wOr1 (tNot (tChainT op_le osLe op_le osLe (sInt) (sCallB lenAll csLen T.b_len (sCons (sLoc (pv 0)) (sNil))) (sKI T.k_MAX_NAME)))))) (bOne (cRet (sBl))) (bNil))
      (bOne (cRet (sCallB (cr_all rfl) csBls T.b_all (sCons (sLc (own := [("letter", 1)]) big rfl sc.nd (sIter rfl (sLoc (pv 0))) (blkOk_by (by show blkC Nis_name (defScope s_is_name) _ _ = true; decide +kernel)) (fun _ _ _ _ _ => kSet (by decide) sc.nd) (fun _ _ _ _ _ => tsNil) (fun _ _ _ _ _ => sCmp op_in_str osInStr (sLoc (pv 1)) (sKS T.k_LETTERS))) (sNil)))))
  exact ⟨f, fd, _, e1, F.kp, B, G⟩
/-! is_source_state -/
def Nis_source_state : List Str := ["value", "many", "name", "pair"]
def b_is_source_state : MT := mSeq (mIfS (mOrT (mNotT (mTru (mIsi "dict" (mLoc 0)))) (mNotT (mTb (mChain fLe fLe (mCon (.int 1)) (mCallB fLen (mCons (mLoc 0) (mNil))) (mCon (.int 4)))))) (mRet (mCon (.bl false))) (mSkip))
  (mSeq (mFor big (mWalkD .items (mLoc 0)) (mgTup 2 (mgCons (mgName 2) (mgCons (mgName 3) (mgNil)))) (mSeq (mIfS (mOrT (mNotT (mTru (mCallF 1 m_is_name (mCons (mLoc 2) (mNil))))) (mOrT (mNotT (mTru (mIsi "tuple" (mLoc 3)))) (mTb (mBin fNeA (mCallB fLen (mCons (mLoc 3) (mNil))) (mCon (.int 2)))))) (mRet (mCon (.bl false))) (mSkip))
  (mIfS (mOrT (mNotT (mTru (mCallF 3 m_is_integer (mCons (mBin fSub2 (mLoc 3) (mCon (.int 0))) (mCons (mCon (.int 1)) (mCons (mCon (.int 9)) (mNil))))))) (mNotT (mTru (mCallF 3 m_is_integer (mCons (mBin fSub2 (mLoc 3) (mCon (.int 1))) (mCons (mCon (.int 0)) (mCons (mBin fSub (mLoc 1) (mCon (.int 1))) (mNil)))))))) (mRet (mCon (.bl false))) (mSkip))))
  (mRet (mCon (.bl true))))
def m_is_source_state : FnM := mkFn 4 2 b_is_source_state
theorem sc_is_source_state : FnScope ["value", "many", "name", "pair"] ["value", "many"] (defScope s_is_source_state) := ⟨rfl, rfl, rfl, by decide +kernel, rfl, by decide +kernel, by decide +kernel⟩
theorem t_is_source_state (T : Tx g mg) : FnT g P w mg base 2 2 "is_source_state" m_is_source_state := by
  obtain ⟨f, fd, e1, F⟩ := T.d_is_source_state.ex
  have B : Binds g.K fd ["value", "many"] [] := F.binds fun _ _ _ _ _ _ us hl => match us, hl with | [_, _], _ => rfl
  have sc := sc_is_source_state
  have G : FnG P w g.K mg base 2 f fd ["value", "many"] (spM g 2 m_is_source_state) := by
    refine mk_fn F sc b_is_source_state 4 2 rfl rfl fun cdv A outer s H E hG hr tk po => ?_
    unfold b_is_source_state
    exact bCons (cIf (SW.st (wOr (tNot (tTru rfl (sIsi rfl T.b_isinstance T.b_dict (sLoc (pv 0))))) (wOr1 (tNot (tChainT op_le osLe op_le osLe (sInt) (sCallB lenAll csLen T.b_len (sCons (sLoc (pv 0)) (sNil))) (sKI T.k_MAX_SOURCE)))))) (bOne (cRet (sBl))) (bNil))
      (bCons (cFor big po rfl (sItems (sLoc (pv 0))) (gTup' rfl rfl (gCons' (gSet sc.nd) (gCons' (gSet sc.nd) (gNil')))) (bCons (cIf (SW.st (wOr (tNot (tTru rfl (sCall rfl hG (hr.mono (by decide)) tk (t_is_name T) (sCons (sLoc (pv 2)) (sNil))))) (wOr (tNot (tTru rfl (sIsi rfl T.b_isinstance T.b_tuple (sLoc (pv 3))))) (wOr1 (tCmpT (opNeA rfl (u100 hr)) osNeA (sCallB lenAll csLen T.b_len (sCons (sLoc (pv 3)) (sNil))) (sInt)))))) (bOne (cRet (sBl))) (bNil))
      (bOne (cIf (SW.st (wOr (tNot (tTru rfl (sCall rfl hG (hr.mono (by decide)) tk (t_is_integer T) (sCons (sIx rfl (u1 hr) (sLoc (pv 3)) (sInt)) (sCons (sInt) (sCons (sKI T.k_MAX_PART) (sNil))))))) (wOr1 (tNot (tTru rfl (sCall rfl hG (hr.mono (by decide)) tk (t_is_integer T) (sCons (sIx rfl (u1 hr) (sLoc (pv 3)) (sInt)) (sCons (sInt) (sCons (sBin op_sub osSub (sLoc (pv 1)) (sInt)) (sNil)))))))))) (bOne (cRet (sBl))) (bNil)))))
      (bOne (cRet (sBl))))
  exact ⟨f, fd, _, e1, F.kp, B, G⟩
/-! are_source_states -/
def Nare_source_states : List Str := ["value", "state"]
def b_are_source_states : MT := mSeq (mIfS (mOrT (mNotT (mTru (mIsi "list" (mLoc 0)))) (mNotT (mTb (mChain fLe fLe (mCon (.int 1)) (mCallB fLen (mCons (mLoc 0) (mNil))) (mCon (.int 4)))))) (mRet (mCon (.bl false))) (mSkip))
  (mSeq (mIfS (mTb (mBin fNeA (mLcP big [1] (mIter (mLoc 0)) (mgName 1) (mNotT (mTru (mCallF 2 m_is_source_state (mCons (mLoc 1) (mCons (mCallB fLen (mCons (mLoc 0) (mNil))) (mNil)))))) (mLoc 1)) (mLst (mNil)))) (mRet (mCon (.bl false))) (mSkip))
  (mRet (mBin fEqA (mLcP big [1] (mRng1 (mCons (mCallB fLen (mCons (mLoc 0) (mNil))) (mNil))) (mgName 1) (mTb (mBin fLt (mCallB fLen (mCons (mCallF 2 m_reached_from (mCons (mLoc 0) (mCons (mLoc 1) (mNil)))) (mNil))) (mCallB fLen (mCons (mLoc 0) (mNil))))) (mLoc 1)) (mLst (mNil)))))
def m_are_source_states : FnM := mkFn 2 1 b_are_source_states
theorem sc_are_source_states : FnScope ["value", "state"] ["value"] (defScope s_are_source_states) := ⟨rfl, rfl, rfl, by decide +kernel, rfl, by decide +kernel, by decide +kernel⟩
theorem t_are_source_states (T : Tx g mg) : FnT g P w mg base 3 1 "are_source_states" m_are_source_states := by
  obtain ⟨f, fd, e1, F⟩ := T.d_are_source_states.ex
  have B : Binds g.K fd ["value"] [] := F.binds fun _ _ _ _ _ _ us hl => match us, hl with | [_], _ => rfl
  have sc := sc_are_source_states
  have G : FnG P w g.K mg base 3 f fd ["value"] (spM g 1 m_are_source_states) := by
    refine mk_fn F sc b_are_source_states 2 1 rfl rfl fun cdv A outer s H E hG hr tk po => ?_
    unfold b_are_source_states
    exact bCons (cIf (SW.st (wOr (tNot (tTru rfl (sIsi rfl T.b_isinstance T.b_list (sLoc (pv 0))))) (wOr1 (tNot (tChainT op_le osLe op_le osLe (sInt) (sCallB lenAll csLen T.b_len (sCons (sLoc (pv 0)) (sNil))) (sKI T.k_MAX_SOURCE)))))) (bOne (cRet (sBl))) (bNil))
      (bCons (cIf (tCmpT (opNeA rfl (u100 hr)) osNeA (sLc (own := [("state", 1)]) big rfl sc.nd (sIter rfl (sLoc (pv 0))) (blkOk_by (by show blkC Nare_source_states (defScope s_are_source_states) _ _ = true; decide +kernel)) (fun _ _ _ _ _ => kSet (by decide) sc.nd) (fun _ _ _ _ _ => tsOne (tNot (tTru rfl (sCall rfl hG (hr.mono (by decide)) takes0 (t_is_source_state T) (sCons (sLoc (pv 1)) (sCons (sCallB lenAll csLen T.b_len (sCons (sLoc (pv 0)) (sNil))) (sNil))))))) (fun _ _ _ _ _ => sLoc (pv 1))) (sLst (sNil))) (bOne (cRet (sBl))) (bNil))
      (bOne (cRet (sCmp (opEqA rfl (u100 hr)) osEqA (sLc (own := [("state", 1)]) big rfl sc.nd (sRng1 T.b_range (sCons (sCallB lenAll csLen T.b_len (sCons (sLoc (pv 0)) (sNil))) (sNil))) (blkOk_by (by show blkC Nare_source_states (defScope s_are_source_states) _ _ = true; decide +kernel)) (fun _ _ _ _ _ => kSet (by decide) sc.nd) (fun _ _ _ _ _ => tsOne (tCmpT op_lt osLt (sCallB lenAll csLen T.b_len (sCons (sCall rfl hG (hr.mono (by decide)) takes0 (t_reached_from T) (sCons (sLoc (pv 0)) (sCons (sLoc (pv 1)) (sNil)))) (sNil))) (sCallB lenAll csLen T.b_len (sCons (sLoc (pv 0)) (sNil))))) (fun _ _ _ _ _ => sLoc (pv 1))) (sLst (sNil))))))
  exact ⟨f, fd, _, e1, F.kp, B, G⟩
/-! Source___init__ -/
def NSource___init__ : List Str := ["self", "states", "state"]
def b_Source___init__ : MT := mSeq (mIfS (mNotT (mTru (mCallF 1 m_are_source_states (mCons (mLoc 1) (mNil))))) (mNever) (mSkip))
  (mFldS 0 "rows" (mLoc 0) (mLcP big [2] (mIter (mLoc 1)) (mgName 2) (mYes) (mCallB fDictOf (mCons (mLoc 2) (mNil)))))
def m_Source___init__ : FnM := mkFn 3 2 b_Source___init__
theorem sc_Source___init__ : FnScope ["self", "states", "state"] ["self", "states"] (defScope s_Source___init__) := ⟨rfl, rfl, rfl, by decide +kernel, rfl, by decide +kernel, by decide +kernel⟩
theorem t_Source___init__ (T : Tx g mg) : ClT g P w mg base 4 2 0 "Source" m_Source___init__ := by
  obtain ⟨f, fd, e1, e2, F⟩ := T.d_Source___init__.ex
  have B : Binds g.K fd ["self", "states"] [] := F.binds fun _ _ _ _ _ _ us hl => match us, hl with | [_, _], _ => rfl
  have sc := sc_Source___init__
  have G : FnG P w g.K mg base 4 f fd ["self", "states"] (spM g 2 m_Source___init__) := by
    refine mk_fn F sc b_Source___init__ 3 2 rfl rfl fun cdv A outer s H E hG hr tk po => ?_
    unfold b_Source___init__
    exact bCons (cIf (tNot (tTru rfl (sCall rfl hG (hr.mono (by decide)) tk (t_are_source_states T) (sCons (sLoc (pv 1)) (sNil))))) (bOne (cNever)) (bNil))
      (bOne (cFldS rfl T.f_Source_rows (sLoc (pv 0)) (sLc (own := [("state", 2)]) big rfl sc.nd (sIter rfl (sLoc (pv 1))) (blkOk_by (by show blkC NSource___init__ (defScope s_Source___init__) _ _ = true; decide +kernel)) (fun _ _ _ _ _ => kSet (by decide) sc.nd) (fun _ _ _ _ _ => tsNil) (fun _ _ _ _ _ => sCallTy call_dictD csDictOf T.b_dict (sCons (sLoc (pv 2)) (sNil))))))
  exact ⟨f, fd, _, e1, e2, B, G⟩
/-! law_due -/
def Nlaw_due : List Str := ["states", "row", "top", "bottom", "state", "kind", "pair"]
def b_law_due : MT := mSeq (mAsgG (mTup (mCons (mCon (.int 1)) (mCons (mCon (.int 1)) (mCons (mCon (.int 0)) (mNil))))) (mgTup 3 (mgCons (mgName 2) (mgCons (mgName 3) (mgCons (mgName 4) (mgNil))))))
  (mSeq (mFor big (mIter (mLoc 1)) (mgName 5) (mSeq (mIfS (mTb (mBin (fDIn not) (mLoc 5) (mBin fSub2 (mLoc 0) (mLoc 4)))) (mRet (mTup (mCons (mCon (.int 0)) (mCons (mCon (.int 1)) (mNil))))) (mSkip))
  (mSeq (mSet 2 (mBin fMul (mLoc 2) (mBin fSub2 (mBin fSub2 (mBin fSub2 (mLoc 0) (mLoc 4)) (mLoc 5)) (mCon (.int 0)))))
  (mSeq (mSet 3 (mBin fMul (mLoc 3) (mCallB fSum (mCons (mLcP big [6] (mWalkD .vals (mBin fSub2 (mLoc 0) (mLoc 4))) (mgName 6) (mYes) (mBin fSub2 (mLoc 6) (mCon (.int 0)))) (mNil)))))
  (mSet 4 (mBin fSub2 (mBin fSub2 (mBin fSub2 (mLoc 0) (mLoc 4)) (mLoc 5)) (mCon (.int 1))))))))
  (mRet (mCallF 2 m_law_fraction (mCons (mLoc 2) (mCons (mLoc 3) (mNil))))))
def m_law_due : FnM := mkFn 7 2 b_law_due
theorem sc_law_due : FnScope ["states", "row", "top", "bottom", "state", "kind", "pair"] ["states", "row"] (defScope s_law_due) := ⟨rfl, rfl, rfl, by decide +kernel, rfl, by decide +kernel, by decide +kernel⟩
theorem t_law_due (T : Tx g mg) : FnT g P w mg base 2 2 "_law_due" m_law_due := by
  obtain ⟨f, fd, e1, F⟩ := T.d_law_due.ex
  have B : Binds g.K fd ["states", "row"] [] := F.binds fun _ _ _ _ _ _ us hl => match us, hl with | [_, _], _ => rfl
  have sc := sc_law_due
  have G : FnG P w g.K mg base 2 f fd ["states", "row"] (spM g 2 m_law_due) := by
    refine mk_fn F sc b_law_due 7 2 rfl rfl fun cdv A outer s H E hG hr tk po => ?_
    unfold b_law_due
    exact bCons (cAsg (sTup (sCons (sInt) (sCons (sInt) (sCons (sInt) (sNil))))) (gTup' rfl rfl (gCons' (gSet sc.nd) (gCons' (gSet sc.nd) (gCons' (gSet sc.nd) (gNil'))))))
      (bCons (cFor big po rfl (sIter rfl (sLoc (pv 1))) (gSet sc.nd) (bCons (cIf (tDNotInT (u1 hr) (sLoc (pv 5)) (sIx rfl (u1 hr) (sLoc (pv 0)) (sLoc (pv 4)))) (bOne (cRet (sTup (sCons (sInt) (sCons (sInt) (sNil)))))) (bNil))
      (bCons (cSet sc.nd (sBin opMul osMul (sLoc (pv 2)) (sIx rfl (u1 hr) (sIx rfl (u1 hr) (sIx rfl (u1 hr) (sLoc (pv 0)) (sLoc (pv 4))) (sLoc (pv 5))) (sInt))))
      (bCons (cSet sc.nd (sBin opMul osMul (sLoc (pv 3)) (sCallB (cr_sum rfl) csSum T.b_sum (sCons (sLc (own := [("pair", 6)]) big rfl sc.nd (sVals (sIx rfl (u1 hr) (sLoc (pv 0)) (sLoc (pv 4)))) (blkOk_by (by show blkC Nlaw_due (defScope s_law_due) _ _ = true; decide +kernel)) (fun _ _ _ _ _ => kSet (by decide) sc.nd) (fun _ _ _ _ _ => tsNil) (fun _ _ _ _ _ => sIx rfl (u1 hr) (sLoc (pv 6)) (sInt))) (sNil)))))
      (bOne (cSet sc.nd (sIx rfl (u1 hr) (sIx rfl (u1 hr) (sIx rfl (u1 hr) (sLoc (pv 0)) (sLoc (pv 4))) (sLoc (pv 5))) (sInt))))))))
      (bOne (cRet (sCall rfl hG (hr.mono (by decide)) tk (t_law_fraction T) (sCons (sLoc (pv 2)) (sCons (sLoc (pv 3)) (sNil)))))))
  exact ⟨f, fd, _, e1, F.kp, B, G⟩
/-! law_take -/
def Nlaw_take : List Str := ["feed", "size", "digit"]
def b_law_take : MT := mSeq (mIfS (mTb (mBin fGt (mBin fSub2 (mLoc 0) (mCon (.int 0))) (mCon (.int 0)))) (mSeq (mSet 2 (mBin fMod (mCallB fInt (mCons (mBin fSub2 (mLoc 0) (mCon (.int 0))) (mNil))) (mLoc 1)))
  (mSeq (mStore (mBin fFdiv (mBin fSub2 (mLoc 0) (mCon (.int 0))) (mLoc 1)) (mLoc 0) (mCon (.int 0)))
  (mRet (mLoc 2)))) (mSkip))
  (mSeq (mStore (mBin fMod (mCallB fInt (mCons (mBin fAdd (mBin fMul (mBin fSub2 (mLoc 0) (mCon (.int 1))) (mCon (.int 69069))) (mCon (.int 12345))) (mNil))) (mCon (.int 4294967311))) (mLoc 0) (mCon (.int 1)))
  (mRet (mBin fMod (mCallB fInt (mCons (mBin fFdiv (mBin fSub2 (mLoc 0) (mCon (.int 1))) (mCon (.int 65536))) (mNil))) (mLoc 1))))
def m_law_take : FnM := mkFn 3 2 b_law_take
theorem sc_law_take : FnScope ["feed", "size", "digit"] ["feed", "size"] (defScope s_law_take) := ⟨rfl, rfl, rfl, by decide +kernel, rfl, by decide +kernel, by decide +kernel⟩
theorem t_law_take (T : Tx g mg) : FnT g P w mg base 1 2 "_law_take" m_law_take := by
  obtain ⟨f, fd, e1, F⟩ := T.d_law_take.ex
  have B : Binds g.K fd ["feed", "size"] [] := F.binds fun _ _ _ _ _ _ us hl => match us, hl with | [_, _], _ => rfl
  have sc := sc_law_take
  have G : FnG P w g.K mg base 1 f fd ["feed", "size"] (spM g 2 m_law_take) := by
    refine mk_fn F sc b_law_take 3 2 rfl rfl fun cdv A outer s H E hG hr tk po => ?_
    unfold b_law_take
    exact bCons (cIf (tCmpT op_gt osGt (sIx rfl (u1 hr) (sLoc (pv 0)) (sInt)) (sInt)) (bCons (cSet sc.nd (sBin op_modN osMod (sCallTy call_int1 csInt T.b_int (sCons (sIx rfl (u1 hr) (sLoc (pv 0)) (sInt)) (sNil))) (sLoc (pv 1))))
      (bCons (cStore (u1 hr) (sBin op_fdivW osFdiv (sIx rfl (u1 hr) (sLoc (pv 0)) (sInt)) (sLoc (pv 1))) (sLoc (pv 0)) (sInt))
      (bOne (cRet (sLoc (pv 2)))))) (bNil))
      (bCons (cStore (u1 hr) (sBin op_modN osMod (sCallTy call_int1 csInt T.b_int (sCons (sBin opAdd osAdd (sBin opMul osMul (sIx rfl (u1 hr) (sLoc (pv 0)) (sInt)) (sInt)) (sInt)) (sNil))) (sInt)) (sLoc (pv 0)) (sInt))
      (bOne (cRet (sBin op_modN osMod (sCallTy call_int1 csInt T.b_int (sCons (sBin op_fdivW osFdiv (sIx rfl (u1 hr) (sLoc (pv 0)) (sInt)) (sInt)) (sNil))) (sLoc (pv 1))))))
  exact ⟨f, fd, _, e1, F.kp, B, G⟩
/-! law_pick -/
def Nlaw_pick : List Str := ["feed", "things"]
def b_law_pick : MT := mRet (mBin fSub2 (mLoc 1) (mCallF 2 m_law_take (mCons (mLoc 0) (mCons (mCallB fLen (mCons (mLoc 1) (mNil))) (mNil)))))
def m_law_pick : FnM := mkFn 2 2 b_law_pick
theorem sc_law_pick : FnScope ["feed", "things"] ["feed", "things"] (defScope s_law_pick) := ⟨rfl, rfl, rfl, by decide +kernel, rfl, by decide +kernel, by decide +kernel⟩
theorem t_law_pick (T : Tx g mg) : FnT g P w mg base 2 2 "_law_pick" m_law_pick := by
  obtain ⟨f, fd, e1, F⟩ := T.d_law_pick.ex
  have B : Binds g.K fd ["feed", "things"] [] := F.binds fun _ _ _ _ _ _ us hl => match us, hl with | [_, _], _ => rfl
  have sc := sc_law_pick
  have G : FnG P w g.K mg base 2 f fd ["feed", "things"] (spM g 2 m_law_pick) := by
    refine mk_fn F sc b_law_pick 2 2 rfl rfl fun cdv A outer s H E hG hr tk po => ?_
    unfold b_law_pick
    exact bOne (cRet (sIx rfl (u1 hr) (sLoc (pv 1)) (sCall rfl hG (hr.mono (by decide)) tk (t_law_take T) (sCons (sLoc (pv 0)) (sCons (sCallB lenAll csLen T.b_len (sCons (sLoc (pv 1)) (sNil))) (sNil))))))
  exact ⟨f, fd, _, e1, F.kp, B, G⟩
/-! law_row -/
def Nlaw_row : List Str := ["feed", "states", "names", "found", "state", "turn", "kind"]
def b_law_row : MT := mSeq (mPar 3 4 (mCons (mLst (mNil)) (mCons (mCon (.int 0)) (mNil))))
  (mSeq (mFor big (mRng1 (mCons (mCallF 2 m_law_take (mCons (mLoc 0) (mCons (mCon (.int 8)) (mNil)))) (mNil))) (mgName 5) (mSeq (mSet 6 (mCallF 2 m_law_pick (mCons (mLoc 0) (mCons (mCallB fSorted (mCons (mBin fSub2 (mLoc 1) (mLoc 4)) (mNil))) (mNil)))))
  (mSeq (mIfS (mTb (mBin fEqA (mCallF 2 m_law_take (mCons (mLoc 0) (mCons (mCon (.int 9)) (mNil)))) (mCon (.int 0)))) (mRet (mBin fAdd (mBin fAdd (mLoc 3) (mLst (mCons (mCallF 2 m_law_pick (mCons (mLoc 0) (mCons (mBin fAdd (mLoc 2) (mLst (mCons (mCon (.str "zzz")) (mNil)))) (mNil)))) (mNil)))) (mLst (mCons (mLoc 6) (mNil))))) (mSkip))
  (mSeq (mExpr (mBM fAppend (mLoc 3) (mCons (mLoc 6) (mNil))))
  (mSet 4 (mBin fSub2 (mBin fSub2 (mBin fSub2 (mLoc 1) (mLoc 4)) (mLoc 6)) (mCon (.int 1))))))))
  (mRet (mLoc 3)))
def m_law_row : FnM := mkFn 7 3 b_law_row
theorem sc_law_row : FnScope ["feed", "states", "names", "found", "state", "turn", "kind"] ["feed", "states", "names"] (defScope s_law_row) := ⟨rfl, rfl, rfl, by decide +kernel, rfl, by decide +kernel, by decide +kernel⟩
theorem t_law_row (T : Tx g mg) : FnT g P w mg base 3 3 "_law_row" m_law_row := by
  obtain ⟨f, fd, e1, F⟩ := T.d_law_row.ex
  have B : Binds g.K fd ["feed", "states", "names"] [] := F.binds fun _ _ _ _ _ _ us hl => match us, hl with | [_, _, _], _ => rfl
  have sc := sc_law_row
  have G : FnG P w g.K mg base 3 f fd ["feed", "states", "names"] (spM g 3 m_law_row) := by
    refine mk_fn F sc b_law_row 7 3 rfl rfl fun cdv A outer s H E hG hr tk po => ?_
    unfold b_law_row
    exact bCons (cPar rfl sc.nd (sCons (sLst (sNil)) (sCons (sInt) (sNil))))
      (bCons (cFor big po rfl (sRng1 T.b_range (sCons (sCall rfl hG (hr.mono (by decide)) tk (t_law_take T) (sCons (sLoc (pv 0)) (sCons (sInt) (sNil)))) (sNil))) (gSet sc.nd) (bCons (cSet sc.nd (sCall rfl hG (hr.mono (by decide)) tk (t_law_pick T) (sCons (sLoc (pv 0)) (sCons (sCallB (sortAll rfl) csSorted T.b_sorted (sCons (sIx rfl (u1 hr) (sLoc (pv 1)) (sLoc (pv 4))) (sNil))) (sNil)))))
      (bCons (cIf (tCmpT (opEqA rfl (u100 hr)) osEqA (sCall rfl hG (hr.mono (by decide)) tk (t_law_take T) (sCons (sLoc (pv 0)) (sCons (sInt) (sNil)))) (sInt)) (bOne (cRet (sBin opAdd osAdd (sBin opAdd osAdd (sLoc (pv 3)) (sLst (sCons (sCall rfl hG (hr.mono (by decide)) tk (t_law_pick T) (sCons (sLoc (pv 0)) (sCons (sBin opAdd osAdd (sLoc (pv 2)) (sLst (sCons (sStr) (sNil)))) (sNil)))) (sNil)))) (sLst (sCons (sLoc (pv 6)) (sNil)))))) (bNil))
      (bCons (cExpr (sBM rfl PySem.F.slot_list_append PySem.F.type_list_append mt_append msAppend (sLoc (pv 3)) (sCons (sLoc (pv 6)) (sNil))))
      (bOne (cSet sc.nd (sIx rfl (u1 hr) (sIx rfl (u1 hr) (sIx rfl (u1 hr) (sLoc (pv 1)) (sLoc (pv 4))) (sLoc (pv 6))) (sInt))))))))
      (bOne (cRet (sLoc (pv 3)))))
  exact ⟨f, fd, _, e1, F.kp, B, G⟩
/-! law_source -/
def Nlaw_source : List Str := ["feed", "names", "many", "found", "state", "left", "row", "turn", "kind"]
def b_law_source : MT := mSeq (mPar 2 3 (mCons (mBin fAdd (mCon (.int 1)) (mCallF 2 m_law_take (mCons (mLoc 0) (mCons (mCon (.int 4)) (mNil))))) (mCons (mLst (mNil)) (mNil))))
  (mSeq (mFor big (mRng1 (mCons (mLoc 2) (mNil))) (mgName 4) (mSeq (mPar 5 6 (mCons (mCallB fList (mCons (mLoc 1) (mNil))) (mCons (mDict0) (mNil))))
  (mSeq (mFor big (mRng1 (mCons (mBin fAdd (mCon (.int 1)) (mCallF 2 m_law_take (mCons (mLoc 0) (mCons (mCallB fLen (mCons (mLoc 1) (mNil))) (mNil))))) (mNil))) (mgName 7) (mSeq (mSet 8 (mBM fPopAt (mLoc 5) (mCons (mCallF 2 m_law_take (mCons (mLoc 0) (mCons (mCallB fLen (mCons (mLoc 5) (mNil))) (mNil)))) (mNil))))
  (mStore (mTup (mCons (mBin fAdd (mCon (.int 1)) (mCallF 2 m_law_take (mCons (mLoc 0) (mCons (mCallF 2 m_law_pick (mCons (mLoc 0) (mCons (mLst (mCons (mCon (.int 2)) (mCons (mCon (.int 9)) (mNil)))) (mNil)))) (mNil))))) (mCons (mCallF 2 m_law_take (mCons (mLoc 0) (mCons (mLoc 2) (mNil)))) (mNil)))) (mLoc 6) (mLoc 8))))
  (mSeq (mSet 8 (mCallF 2 m_law_pick (mCons (mLoc 0) (mCons (mCallB fSorted (mCons (mLoc 6) (mNil))) (mNil)))))
  (mSeq (mStore (mTup (mCons (mBin fSub2 (mBin fSub2 (mLoc 6) (mLoc 8)) (mCon (.int 0))) (mCons (mBin fMod (mCallB fInt (mCons (mBin fAdd (mLoc 4) (mCon (.int 1))) (mNil))) (mLoc 2)) (mNil)))) (mLoc 6) (mLoc 8))
  (mExpr (mBM fAppend (mLoc 3) (mCons (mLoc 6) (mNil)))))))))
  (mRet (mLoc 3)))
def m_law_source : FnM := mkFn 9 2 b_law_source
theorem sc_law_source : FnScope ["feed", "names", "many", "found", "state", "left", "row", "turn", "kind"] ["feed", "names"] (defScope s_law_source) := ⟨rfl, rfl, rfl, by decide +kernel, rfl, by decide +kernel, by decide +kernel⟩
theorem t_law_source (T : Tx g mg) : FnT g P w mg base 3 2 "_law_source" m_law_source := by
  obtain ⟨f, fd, e1, F⟩ := T.d_law_source.ex
  have B : Binds g.K fd ["feed", "names"] [] := F.binds fun _ _ _ _ _ _ us hl => match us, hl with | [_, _], _ => rfl
  have sc := sc_law_source
  have G : FnG P w g.K mg base 3 f fd ["feed", "names"] (spM g 2 m_law_source) := by
    refine mk_fn F sc b_law_source 9 2 rfl rfl fun cdv A outer s H E hG hr tk po => ?_
    unfold b_law_source
    exact bCons (cPar rfl sc.nd (sCons (sBin opAdd osAdd (sInt) (sCall rfl hG (hr.mono (by decide)) tk (t_law_take T) (sCons (sLoc (pv 0)) (sCons (sInt) (sNil))))) (sCons (sLst (sNil)) (sNil))))
      (bCons (cFor big po rfl (sRng1 T.b_range (sCons (sLoc (pv 2)) (sNil))) (gSet sc.nd) (bCons (cPar rfl sc.nd (sCons (sCallTy (listAll rfl) csList T.b_list (sCons (sLoc (pv 1)) (sNil))) (sCons (sDict0) (sNil))))
      (bCons (cFor big po rfl (sRng1 T.b_range (sCons (sBin opAdd osAdd (sInt) (sCall rfl hG (hr.mono (by decide)) tk (t_law_take T) (sCons (sLoc (pv 0)) (sCons (sCallB lenAll csLen T.b_len (sCons (sLoc (pv 1)) (sNil))) (sNil))))) (sNil))) (gSet sc.nd) (bCons (cSet sc.nd (sBM rfl PySem.F.slot_list_pop PySem.F.type_list_pop mt_popAt msPopAt (sLoc (pv 5)) (sCons (sCall rfl hG (hr.mono (by decide)) tk (t_law_take T) (sCons (sLoc (pv 0)) (sCons (sCallB lenAll csLen T.b_len (sCons (sLoc (pv 5)) (sNil))) (sNil)))) (sNil))))
      (bOne (cStore (u1 hr) (sTup (sCons (sBin opAdd osAdd (sInt) (sCall rfl hG (hr.mono (by decide)) tk (t_law_take T) (sCons (sLoc (pv 0)) (sCons (sCall rfl hG (hr.mono (by decide)) tk (t_law_pick T) (sCons (sLoc (pv 0)) (sCons (sLst (sCons (sInt) (sCons (sInt) (sNil)))) (sNil)))) (sNil))))) (sCons (sCall rfl hG (hr.mono (by decide)) tk (t_law_take T) (sCons (sLoc (pv 0)) (sCons (sLoc (pv 2)) (sNil)))) (sNil)))) (sLoc (pv 6)) (sLoc (pv 8))))))
      (bCons (cSet sc.nd (sCall rfl hG (hr.mono (by decide)) tk (t_law_pick T) (sCons (sLoc (pv 0)) (sCons (sCallB (sortAll rfl) csSorted T.b_sorted (sCons (sLoc (pv 6)) (sNil))) (sNil)))))
      (bCons (cStore (u1 hr) (sTup (sCons (sIx rfl (u1 hr) (sIx rfl (u1 hr) (sLoc (pv 6)) (sLoc (pv 8))) (sInt)) (sCons (sBin op_modN osMod (sCallTy call_int1 csInt T.b_int (sCons (sBin opAdd osAdd (sLoc (pv 4)) (sInt)) (sNil))) (sLoc (pv 2))) (sNil)))) (sLoc (pv 6)) (sLoc (pv 8)))
      (bOne (cExpr (sBM rfl PySem.F.slot_list_append PySem.F.type_list_append mt_append msAppend (sLoc (pv 3)) (sCons (sLoc (pv 6)) (sNil))))))))))
      (bOne (cRet (sLoc (pv 3)))))
  exact ⟨f, fd, _, e1, F.kp, B, G⟩
/-! law_feed -/
def Nlaw_feed : List Str := ["script", "k", "seed", "digits"]
def b_law_feed : MT := mSeq (mSet 2 (mBin fSub2 (mBin fAdd (mCallB fList (mCons (mSl (mLoc 0) (mPart (mLoc 1)) (mPart (mBin fAdd (mLoc 1) (mCon (.int 1))))) (mNil))) (mLst (mCons (mBin fAdd (mBin fMul (mCon (.int 71)) (mLoc 1)) (mCon (.int 23))) (mNil)))) (mCon (.int 0))))
  (mSeq (mSet 3 (mCallB fMax2 (mCons (mCon (.int 0)) (mCons (mBin fSub (mCallB fAbs (mCons (mLoc 2) (mNil))) (mBin fPow (mCon (.int 10)) (mCon (.int 18)))) (mNil)))))
  (mRet (mLst (mCons (mLoc 3) (mCons (mBin fMod (mCallB fInt (mCons (mBin fAdd (mBin fAdd (mBin fMul (mBin fMod (mCallB fInt (mCons (mCallB fAbs (mCons (mLoc 2) (mNil))) (mNil))) (mCon (.int 1000003))) (mCon (.int 7919))) (mBin fMul (mCon (.int 31)) (mLoc 1))) (mCon (.int 17))) (mNil))) (mCon (.int 1000033))) (mNil))))))
def m_law_feed : FnM := mkFn 4 2 b_law_feed
theorem sc_law_feed : FnScope ["script", "k", "seed", "digits"] ["script", "k"] (defScope s_law_feed) := ⟨rfl, rfl, rfl, by decide +kernel, rfl, by decide +kernel, by decide +kernel⟩
theorem t_law_feed (T : Tx g mg) : FnT g P w mg base 1 2 "_law_feed" m_law_feed := by
  obtain ⟨f, fd, e1, F⟩ := T.d_law_feed.ex
  have B : Binds g.K fd ["script", "k"] [] := F.binds fun _ _ _ _ _ _ us hl => match us, hl with | [_, _], _ => rfl
  have sc := sc_law_feed
  have G : FnG P w g.K mg base 1 f fd ["script", "k"] (spM g 2 m_law_feed) := by
    refine mk_fn F sc b_law_feed 4 2 rfl rfl fun cdv A outer s H E hG hr tk po => ?_
    unfold b_law_feed
    exact bCons (cSet sc.nd (sIx rfl (u1 hr) (sBin opAdd osAdd (sCallTy (listAll rfl) csList T.b_list (sCons (sSl rfl (sLoc (pv 0)) (oSome (sLoc (pv 1))) (oSome (sBin opAdd osAdd (sLoc (pv 1)) (sInt)))) (sNil))) (sLst (sCons (sBin opAdd osAdd (sBin opMul osMul (sInt) (sLoc (pv 1))) (sInt)) (sNil)))) (sInt)))
      (bCons (cSet sc.nd (sCallB (call_max2 rfl) csMax2 T.b_max (sCons (sInt) (sCons (sBin op_sub osSub (sCallB call_abs csAbs T.b_abs (sCons (sLoc (pv 2)) (sNil))) (sBin op_pow osPow (sInt) (sInt))) (sNil)))))
      (bOne (cRet (sLst (sCons (sLoc (pv 3)) (sCons (sBin op_modN osMod (sCallTy call_int1 csInt T.b_int (sCons (sBin opAdd osAdd (sBin opAdd osAdd (sBin opMul osMul (sBin op_modN osMod (sCallTy call_int1 csInt T.b_int (sCons (sCallB call_abs csAbs T.b_abs (sCons (sLoc (pv 2)) (sNil))) (sNil))) (sInt)) (sInt)) (sBin opMul osMul (sInt) (sLoc (pv 1)))) (sInt)) (sNil))) (sInt)) (sNil)))))))
  exact ⟨f, fd, _, e1, F.kp, B, G⟩
/-! law -/
def Nlaw : List Str := ["script", "k", "feed", "names", "states", "source", "turn", "row", "shown", "told", "rows", "longer", "name"]
def b_law : MT := mSeq (mFor big (mRng1 (mCons (mCallB fMax2 (mCons (mCon (.int 1)) (mCons (mCallB fMin2 (mCons (mCon (.int 5)) (mCons (mCallB fLen (mCons (mLoc 0) (mNil))) (mNil)))) (mNil)))) (mNil))) (mgName 1) (mSeq (mSet 2 (mCallF 2 m_law_feed (mCons (mLoc 0) (mCons (mLoc 1) (mNil)))))
  (mSeq (mSet 3 (mLst (mCons (mCon (.str "ski")) (mCons (mCon (.str "a")) (mCons (mCon (.str "end")) (mNil))))))
  (mSeq (mSet 4 (mCallF 2 m_law_source (mCons (mLoc 2) (mCons (mLoc 3) (mNil)))))
  (mSeq (mSet 5 (mMake 0 2 m_Source___init__ (mCons (mLoc 4) (mNil))))
  (mSeq (mFor big (mRng1 (mCons (mCon (.int 5)) (mNil))) (mgName 6) (mSeq (mSet 7 (mCallF 3 m_law_row (mCons (mLoc 2) (mCons (mLoc 4) (mCons (mLoc 3) (mNil))))))
  (mSeq (mPar 8 9 (mCons (mCallB fRepr (mCons (mLoc 7) (mNil))) (mCons (mCallF 2 m_chance (mCons (mLoc 5) (mCons (mLoc 7) (mNil)))) (mNil))))
  (mSeq (mIfS (mOrT (mTb (mBin fNeA (mCallB fRepr (mCons (mLoc 9) (mNil))) (mCallB fRepr (mCons (mCallF 2 m_law_due (mCons (mLoc 4) (mCons (mLoc 7) (mNil)))) (mNil))))) (mTb (mBin fNeA (mCallB fRepr (mCons (mLoc 7) (mNil))) (mLoc 8)))) (mRet (mCon (.bl false))) (mSkip))
  (mIfS (mTb (mBin fNeA (mCallF 1 m_law_added (mCons (mLcP big [12] (mIter (mLoc 3)) (mgName 12) (mYes) (mCallF 2 m_chance (mCons (mLoc 5) (mCons (mBin fAdd (mLoc 7) (mLst (mCons (mLoc 12) (mNil)))) (mNil))))) (mNil))) (mCallF 1 m_law_added (mCons (mLst (mCons (mLoc 9) (mNil))) (mNil))))) (mRet (mCon (.bl false))) (mSkip))))))
  (mSeq (mSet 7 (mLst (mNil)))
  (mSeq (mFor big (mRng1 (mCons (mCon (.int 3)) (mNil))) (mgName 6) (mSeq (mExpr (mBM fAppend (mLoc 7) (mCons (mCallF 2 m_law_pick (mCons (mLoc 2) (mCons (mLoc 3) (mNil)))) (mNil))))
  (mIfS (mTb (mBin fNeA (mCallF 2 m_chance (mCons (mLoc 5) (mCons (mLoc 7) (mNil)))) (mCallF 2 m_law_due (mCons (mLoc 4) (mCons (mLoc 7) (mNil)))))) (mRet (mCon (.bl false))) (mSkip))))
  (mSeq (mIfS (mAndT (mTb (mBin fEqA (mLoc 1) (mCon (.int 0)))) (mTb (mBin fNeA (mCallF 2 m_chance (mCons (mMake 0 2 m_Source___init__ (mCons (mLst (mCons (mDict (mPcons (mCon (.str "a")) (mTup (mCons (mCon (.int 3)) (mCons (mCon (.int 0)) (mNil)))) (mPnil))) (mNil))) (mNil))) (mCons (mBin fMul (mLst (mCons (mCon (.str "a")) (mNil))) (mCon (.int 3000))) (mNil)))) (mTup (mCons (mCon (.int 1)) (mCons (mCon (.int 1)) (mNil))))))) (mRet (mCon (.bl false))) (mSkip))
  (mSeq (mSet 10 (mLst (mCons (mLst (mNil)) (mNil))))
  (mSeq (mFor big (mRng1 (mCons (mCon (.int 3)) (mNil))) (mgName 6) (mSeq (mIfS (mTb (mBin fNeA (mCallF 1 m_law_added (mCons (mLcP big [7] (mIter (mLoc 10)) (mgName 7) (mYes) (mCallF 2 m_chance (mCons (mLoc 5) (mCons (mLoc 7) (mNil))))) (mNil))) (mTup (mCons (mCon (.int 1)) (mCons (mCon (.int 1)) (mNil)))))) (mRet (mCon (.bl false))) (mSkip))
  (mSeq (mSet 11 (mLst (mNil)))
  (mSeq (mFor big (mIter (mLoc 10)) (mgName 7) (mSet 11 (mBin fAdd (mLoc 11) (mLcP big [12] (mIter (mLoc 3)) (mgName 12) (mYes) (mBin fAdd (mLoc 7) (mLst (mCons (mLoc 12) (mNil))))))))
  (mSet 10 (mLoc 11))))))
  (mIfS (mTb (mBin fNeA (mMeth 0 1 "states" m_Source_states (mLoc 5) mNil) (mLoc 4))) (mRet (mCon (.bl false))) (mSkip)))))))))))))
  (mRet (mCon (.bl true)))
def m_law : FnM := mkFn 13 1 b_law
theorem sc_law : FnScope ["script", "k", "feed", "names", "states", "source", "turn", "row", "shown", "told", "rows", "longer", "name"] ["script"] (defScope s_law) := ⟨rfl, rfl, rfl, by decide +kernel, rfl, by decide +kernel, by decide +kernel⟩
theorem t_law (T : Tx g mg) : FnT g P w mg base 6 1 "law" m_law := by
  obtain ⟨f, fd, e1, F⟩ := T.d_law.ex
  have B : Binds g.K fd ["script"] [] := F.binds fun _ _ _ _ _ _ us hl => match us, hl with | [_], _ => rfl
  have sc := sc_law
  have G : FnG P w g.K mg base 6 f fd ["script"] (spM g 1 m_law) := by
    refine mk_fn F sc b_law 13 1 rfl rfl fun cdv A outer s H E hG hr tk po => ?_
    unfold b_law
    exact bCons (cFor big po rfl (sRng1 T.b_range (sCons (sCallB (call_max2 rfl) csMax2 T.b_max (sCons (sInt) (sCons (sCallB (call_min2 rfl) csMin2 T.b_min (sCons (sInt) (sCons (sCallB lenAll csLen T.b_len (sCons (sLoc (pv 0)) (sNil))) (sNil)))) (sNil)))) (sNil))) (gSet sc.nd) (bCons (cSet sc.nd (sCall rfl hG (hr.mono (by decide)) tk (t_law_feed T) (sCons (sLoc (pv 0)) (sCons (sLoc (pv 1)) (sNil)))))
      (bCons (cSet sc.nd (sLst (sCons (sStr) (sCons (sStr) (sCons (sStr) (sNil))))))
      (bCons (cSet sc.nd (sCall rfl hG (hr.mono (by decide)) tk (t_law_source T) (sCons (sLoc (pv 2)) (sCons (sLoc (pv 3)) (sNil)))))
      (bCons (cSet sc.nd (sMake rfl hG (hr.mono (by decide)) tk (t_Source___init__ T) (sCons (sLoc (pv 4)) (sNil))))
      (bCons (cFor big po rfl (sRng1 T.b_range (sCons (sInt) (sNil))) (gSet sc.nd) (bCons (cSet sc.nd (sCall rfl hG (hr.mono (by decide)) tk (t_law_row T) (sCons (sLoc (pv 2)) (sCons (sLoc (pv 4)) (sCons (sLoc (pv 3)) (sNil))))))
      (bCons (cPar rfl sc.nd (sCons (sCallB (cr_repr hG (u100 hr)) csRepr T.b_repr (sCons (sLoc (pv 7)) (sNil))) (sCons (sCall rfl hG (hr.mono (by decide)) tk (t_chance T) (sCons (sLoc (pv 5)) (sCons (sLoc (pv 7)) (sNil)))) (sNil))))
      (bCons (cIf (SW.st (wOr (tCmpT (opNeA rfl (u100 hr)) osNeA (sCallB (cr_repr hG (u100 hr)) csRepr T.b_repr (sCons (sLoc (pv 9)) (sNil))) (sCallB (cr_repr hG (u100 hr)) csRepr T.b_repr (sCons (sCall rfl hG (hr.mono (by decide)) tk (t_law_due T) (sCons (sLoc (pv 4)) (sCons (sLoc (pv 7)) (sNil)))) (sNil)))) (wOr1 (tCmpT (opNeA rfl (u100 hr)) osNeA (sCallB (cr_repr hG (u100 hr)) csRepr T.b_repr (sCons (sLoc (pv 7)) (sNil))) (sLoc (pv 8)))))) (bOne (cRet (sBl))) (bNil))
      (bOne (cIf (tCmpT (opNeA rfl (u100 hr)) osNeA (sCall rfl hG (hr.mono (by decide)) tk (t_law_added T) (sCons (sLc (own := [("name", 12)]) big rfl sc.nd (sIter rfl (sLoc (pv 3))) (blkOk_by (by show blkC Nlaw (defScope s_law) _ _ = true; decide +kernel)) (fun _ _ _ _ _ => kSet (by decide) sc.nd) (fun _ _ _ _ _ => tsNil) (fun _ _ _ _ _ => sCall rfl hG (hr.mono (by decide)) takes0 (t_chance T) (sCons (sLoc (pv 5)) (sCons (sBin opAdd osAdd (sLoc (pv 7)) (sLst (sCons (sLoc (pv 12)) (sNil)))) (sNil))))) (sNil))) (sCall rfl hG (hr.mono (by decide)) tk (t_law_added T) (sCons (sLst (sCons (sLoc (pv 9)) (sNil))) (sNil)))) (bOne (cRet (sBl))) (bNil)))))))
      (bCons (cSet sc.nd (sLst (sNil)))
      (bCons (cFor big po rfl (sRng1 T.b_range (sCons (sInt) (sNil))) (gSet sc.nd) (bCons (cExpr (sBM rfl PySem.F.slot_list_append PySem.F.type_list_append mt_append msAppend (sLoc (pv 7)) (sCons (sCall rfl hG (hr.mono (by decide)) tk (t_law_pick T) (sCons (sLoc (pv 2)) (sCons (sLoc (pv 3)) (sNil)))) (sNil))))
      (bOne (cIf (tCmpT (opNeA rfl (u100 hr)) osNeA (sCall rfl hG (hr.mono (by decide)) tk (t_chance T) (sCons (sLoc (pv 5)) (sCons (sLoc (pv 7)) (sNil)))) (sCall rfl hG (hr.mono (by decide)) tk (t_law_due T) (sCons (sLoc (pv 4)) (sCons (sLoc (pv 7)) (sNil))))) (bOne (cRet (sBl))) (bNil)))))
      (bCons (cIf (SW.st (wAnd (tCmpT (opEqA rfl (u100 hr)) osEqA (sLoc (pv 1)) (sInt)) (wAnd1 (tCmpT (opNeA rfl (u100 hr)) osNeA (sCall rfl hG (hr.mono (by decide)) tk (t_chance T) (sCons (sMake rfl hG (hr.mono (by decide)) tk (t_Source___init__ T) (sCons (sLst (sCons (sDict (dCons (sStr) (sTup (sCons (sInt) (sCons (sInt) (sNil)))) (dNil))) (sNil))) (sNil))) (sCons (sBin opMul osMul (sLst (sCons (sStr) (sNil))) (sInt)) (sNil)))) (sTup (sCons (sInt) (sCons (sInt) (sNil)))))))) (bOne (cRet (sBl))) (bNil))
      (bCons (cSet sc.nd (sLst (sCons (sLst (sNil)) (sNil))))
      (bCons (cFor big po rfl (sRng1 T.b_range (sCons (sInt) (sNil))) (gSet sc.nd) (bCons (cIf (tCmpT (opNeA rfl (u100 hr)) osNeA (sCall rfl hG (hr.mono (by decide)) tk (t_law_added T) (sCons (sLc (own := [("row", 7)]) big rfl sc.nd (sIter rfl (sLoc (pv 10))) (blkOk_by (by show blkC Nlaw (defScope s_law) _ _ = true; decide +kernel)) (fun _ _ _ _ _ => kSet (by decide) sc.nd) (fun _ _ _ _ _ => tsNil) (fun _ _ _ _ _ => sCall rfl hG (hr.mono (by decide)) takes0 (t_chance T) (sCons (sLoc (pv 5)) (sCons (sLoc (pv 7)) (sNil))))) (sNil))) (sTup (sCons (sInt) (sCons (sInt) (sNil))))) (bOne (cRet (sBl))) (bNil))
      (bCons (cSet sc.nd (sLst (sNil)))
      (bCons (cFor big po rfl (sIter rfl (sLoc (pv 10))) (gSet sc.nd) (bOne (cSet sc.nd (sBin opAdd osAdd (sLoc (pv 11)) (sLc (own := [("name", 12)]) big rfl sc.nd (sIter rfl (sLoc (pv 3))) (blkOk_by (by show blkC Nlaw (defScope s_law) _ _ = true; decide +kernel)) (fun _ _ _ _ _ => kSet (by decide) sc.nd) (fun _ _ _ _ _ => tsNil) (fun _ _ _ _ _ => sBin opAdd osAdd (sLoc (pv 7)) (sLst (sCons (sLoc (pv 12)) (sNil)))))))))
      (bOne (cSet sc.nd (sLoc (pv 11))))))))
      (bOne (cIf (tCmpT (opNeA rfl (u100 hr)) osNeA (sMeth0 rfl hG (hr.mono (by decide)) tk (t_Source_states T) (sLoc (pv 5))) (sLoc (pv 4))) (bOne (cRet (sBl))) (bNil))))))))))))))
      (bOne (cRet (sBl)))
  exact ⟨f, fd, _, e1, F.kp, B, G⟩
theorem g_law (T : Tx g mg) {f : Addr} {fd : FuncData} (F : Fun g.K "law" "law" s_law f fd) : FnG P w g.K mg base 6 f fd ["script"] (spM g 1 m_law) := by
  have sc := sc_law
  refine mk_fn F sc b_law 13 1 rfl rfl fun cdv A outer s H E hG hr tk po => ?_
  unfold b_law
  exact bCons (cFor big po rfl (sRng1 T.b_range (sCons (sCallB (call_max2 rfl) csMax2 T.b_max (sCons (sInt) (sCons (sCallB (call_min2 rfl) csMin2 T.b_min (sCons (sInt) (sCons (sCallB lenAll csLen T.b_len (sCons (sLoc (pv 0)) (sNil))) (sNil)))) (sNil)))) (sNil))) (gSet sc.nd) (bCons (cSet sc.nd (sCall rfl hG (hr.mono (by decide)) tk (t_law_feed T) (sCons (sLoc (pv 0)) (sCons (sLoc (pv 1)) (sNil)))))
      (bCons (cSet sc.nd (sLst (sCons (sStr) (sCons (sStr) (sCons (sStr) (sNil))))))
      (bCons (cSet sc.nd (sCall rfl hG (hr.mono (by decide)) tk (t_law_source T) (sCons (sLoc (pv 2)) (sCons (sLoc (pv 3)) (sNil)))))
      (bCons (cSet sc.nd (sMake rfl hG (hr.mono (by decide)) tk (t_Source___init__ T) (sCons (sLoc (pv 4)) (sNil))))
      (bCons (cFor big po rfl (sRng1 T.b_range (sCons (sInt) (sNil))) (gSet sc.nd) (bCons (cSet sc.nd (sCall rfl hG (hr.mono (by decide)) tk (t_law_row T) (sCons (sLoc (pv 2)) (sCons (sLoc (pv 4)) (sCons (sLoc (pv 3)) (sNil))))))
      (bCons (cPar rfl sc.nd (sCons (sCallB (cr_repr hG (u100 hr)) csRepr T.b_repr (sCons (sLoc (pv 7)) (sNil))) (sCons (sCall rfl hG (hr.mono (by decide)) tk (t_chance T) (sCons (sLoc (pv 5)) (sCons (sLoc (pv 7)) (sNil)))) (sNil))))
      (bCons (cIf (SW.st (wOr (tCmpT (opNeA rfl (u100 hr)) osNeA (sCallB (cr_repr hG (u100 hr)) csRepr T.b_repr (sCons (sLoc (pv 9)) (sNil))) (sCallB (cr_repr hG (u100 hr)) csRepr T.b_repr (sCons (sCall rfl hG (hr.mono (by decide)) tk (t_law_due T) (sCons (sLoc (pv 4)) (sCons (sLoc (pv 7)) (sNil)))) (sNil)))) (wOr1 (tCmpT (opNeA rfl (u100 hr)) osNeA (sCallB (cr_repr hG (u100 hr)) csRepr T.b_repr (sCons (sLoc (pv 7)) (sNil))) (sLoc (pv 8)))))) (bOne (cRet (sBl))) (bNil))
      (bOne (cIf (tCmpT (opNeA rfl (u100 hr)) osNeA (sCall rfl hG (hr.mono (by decide)) tk (t_law_added T) (sCons (sLc (own := [("name", 12)]) big rfl sc.nd (sIter rfl (sLoc (pv 3))) (blkOk_by (by show blkC Nlaw (defScope s_law) _ _ = true; decide +kernel)) (fun _ _ _ _ _ => kSet (by decide) sc.nd) (fun _ _ _ _ _ => tsNil) (fun _ _ _ _ _ => sCall rfl hG (hr.mono (by decide)) takes0 (t_chance T) (sCons (sLoc (pv 5)) (sCons (sBin opAdd osAdd (sLoc (pv 7)) (sLst (sCons (sLoc (pv 12)) (sNil)))) (sNil))))) (sNil))) (sCall rfl hG (hr.mono (by decide)) tk (t_law_added T) (sCons (sLst (sCons (sLoc (pv 9)) (sNil))) (sNil)))) (bOne (cRet (sBl))) (bNil)))))))
      (bCons (cSet sc.nd (sLst (sNil)))
      (bCons (cFor big po rfl (sRng1 T.b_range (sCons (sInt) (sNil))) (gSet sc.nd) (bCons (cExpr (sBM rfl PySem.F.slot_list_append PySem.F.type_list_append mt_append msAppend (sLoc (pv 7)) (sCons (sCall rfl hG (hr.mono (by decide)) tk (t_law_pick T) (sCons (sLoc (pv 2)) (sCons (sLoc (pv 3)) (sNil)))) (sNil))))
      (bOne (cIf (tCmpT (opNeA rfl (u100 hr)) osNeA (sCall rfl hG (hr.mono (by decide)) tk (t_chance T) (sCons (sLoc (pv 5)) (sCons (sLoc (pv 7)) (sNil)))) (sCall rfl hG (hr.mono (by decide)) tk (t_law_due T) (sCons (sLoc (pv 4)) (sCons (sLoc (pv 7)) (sNil))))) (bOne (cRet (sBl))) (bNil)))))
      (bCons (cIf (SW.st (wAnd (tCmpT (opEqA rfl (u100 hr)) osEqA (sLoc (pv 1)) (sInt)) (wAnd1 (tCmpT (opNeA rfl (u100 hr)) osNeA (sCall rfl hG (hr.mono (by decide)) tk (t_chance T) (sCons (sMake rfl hG (hr.mono (by decide)) tk (t_Source___init__ T) (sCons (sLst (sCons (sDict (dCons (sStr) (sTup (sCons (sInt) (sCons (sInt) (sNil)))) (dNil))) (sNil))) (sNil))) (sCons (sBin opMul osMul (sLst (sCons (sStr) (sNil))) (sInt)) (sNil)))) (sTup (sCons (sInt) (sCons (sInt) (sNil)))))))) (bOne (cRet (sBl))) (bNil))
      (bCons (cSet sc.nd (sLst (sCons (sLst (sNil)) (sNil))))
      (bCons (cFor big po rfl (sRng1 T.b_range (sCons (sInt) (sNil))) (gSet sc.nd) (bCons (cIf (tCmpT (opNeA rfl (u100 hr)) osNeA (sCall rfl hG (hr.mono (by decide)) tk (t_law_added T) (sCons (sLc (own := [("row", 7)]) big rfl sc.nd (sIter rfl (sLoc (pv 10))) (blkOk_by (by show blkC Nlaw (defScope s_law) _ _ = true; decide +kernel)) (fun _ _ _ _ _ => kSet (by decide) sc.nd) (fun _ _ _ _ _ => tsNil) (fun _ _ _ _ _ => sCall rfl hG (hr.mono (by decide)) takes0 (t_chance T) (sCons (sLoc (pv 5)) (sCons (sLoc (pv 7)) (sNil))))) (sNil))) (sTup (sCons (sInt) (sCons (sInt) (sNil))))) (bOne (cRet (sBl))) (bNil))
      (bCons (cSet sc.nd (sLst (sNil)))
      (bCons (cFor big po rfl (sIter rfl (sLoc (pv 10))) (gSet sc.nd) (bOne (cSet sc.nd (sBin opAdd osAdd (sLoc (pv 11)) (sLc (own := [("name", 12)]) big rfl sc.nd (sIter rfl (sLoc (pv 3))) (blkOk_by (by show blkC Nlaw (defScope s_law) _ _ = true; decide +kernel)) (fun _ _ _ _ _ => kSet (by decide) sc.nd) (fun _ _ _ _ _ => tsNil) (fun _ _ _ _ _ => sBin opAdd osAdd (sLoc (pv 7)) (sLst (sCons (sLoc (pv 12)) (sNil)))))))))
      (bOne (cSet sc.nd (sLoc (pv 11))))))))
      (bOne (cIf (tCmpT (opNeA rfl (u100 hr)) osNeA (sMeth0 rfl hG (hr.mono (by decide)) tk (t_Source_states T) (sLoc (pv 5))) (sLoc (pv 4))) (bOne (cRet (sBl))) (bNil))))))))))))))
      (bOne (cRet (sBl)))
end
theorem all_mk {l : PySem.W.OpenLaw} {w : World} {K : PySem.W.Frag} {h : Heap} {mg : Str → Option Value} {fa : Addr} (X : K.In h) (G : h.Ns mainGlobals mg) (hfa : mg "law" = some (.ref fa))
    {C_Source : Addr} {t_LETTERS : Tok} {t_MAX_NAME : Tok} {t_MAX_PART : Tok} {t_MAX_SOURCE : Tok} {f_Source_states : Addr} {od_Source_states an_Source_states : Option Addr} {sl_Source_states : Array (Option Value)} {oc_Source_states kV_Source_states dc_Source_states pm_Source_states cd_Source_states ct_Source_states : Value} {f_law_fraction : Addr} {od_law_fraction an_law_fraction : Option Addr} {sl_law_fraction : Array (Option Value)} {oc_law_fraction kV_law_fraction dc_law_fraction pm_law_fraction cd_law_fraction ct_law_fraction : Value} {f_law_added : Addr} {od_law_added an_law_added : Option Addr} {sl_law_added : Array (Option Value)} {oc_law_added kV_law_added dc_law_added pm_law_added cd_law_added ct_law_added : Value} {f_fraction_of : Addr} {od_fraction_of an_fraction_of : Option Addr} {sl_fraction_of : Array (Option Value)} {oc_fraction_of kV_fraction_of dc_fraction_of pm_fraction_of cd_fraction_of ct_fraction_of : Value} {f_total_of : Addr} {od_total_of an_total_of : Option Addr} {sl_total_of : Array (Option Value)} {oc_total_of kV_total_of dc_total_of pm_total_of cd_total_of ct_total_of : Value} {f_chance : Addr} {od_chance an_chance : Option Addr} {sl_chance : Array (Option Value)} {oc_chance kV_chance dc_chance pm_chance cd_chance ct_chance : Value} {f_reached_from : Addr} {od_reached_from an_reached_from : Option Addr} {sl_reached_from : Array (Option Value)} {oc_reached_from kV_reached_from dc_reached_from pm_reached_from cd_reached_from ct_reached_from : Value} {f_is_integer : Addr} {od_is_integer an_is_integer : Option Addr} {sl_is_integer : Array (Option Value)} {oc_is_integer kV_is_integer dc_is_integer pm_is_integer cd_is_integer ct_is_integer : Value} {f_is_name : Addr} {od_is_name an_is_name : Option Addr} {sl_is_name : Array (Option Value)} {oc_is_name kV_is_name dc_is_name pm_is_name cd_is_name ct_is_name : Value} {f_is_source_state : Addr} {od_is_source_state an_is_source_state : Option Addr} {sl_is_source_state : Array (Option Value)} {oc_is_source_state kV_is_source_state dc_is_source_state pm_is_source_state cd_is_source_state ct_is_source_state : Value} {f_are_source_states : Addr} {od_are_source_states an_are_source_states : Option Addr} {sl_are_source_states : Array (Option Value)} {oc_are_source_states kV_are_source_states dc_are_source_states pm_are_source_states cd_are_source_states ct_are_source_states : Value} {f_Source___init__ : Addr} {od_Source___init__ an_Source___init__ : Option Addr} {sl_Source___init__ : Array (Option Value)} {oc_Source___init__ kV_Source___init__ dc_Source___init__ pm_Source___init__ cd_Source___init__ ct_Source___init__ : Value} {f_law_due : Addr} {od_law_due an_law_due : Option Addr} {sl_law_due : Array (Option Value)} {oc_law_due kV_law_due dc_law_due pm_law_due cd_law_due ct_law_due : Value} {f_law_take : Addr} {od_law_take an_law_take : Option Addr} {sl_law_take : Array (Option Value)} {oc_law_take kV_law_take dc_law_take pm_law_take cd_law_take ct_law_take : Value} {f_law_pick : Addr} {od_law_pick an_law_pick : Option Addr} {sl_law_pick : Array (Option Value)} {oc_law_pick kV_law_pick dc_law_pick pm_law_pick cd_law_pick ct_law_pick : Value} {f_law_row : Addr} {od_law_row an_law_row : Option Addr} {sl_law_row : Array (Option Value)} {oc_law_row kV_law_row dc_law_row pm_law_row cd_law_row ct_law_row : Value} {f_law_source : Addr} {od_law_source an_law_source : Option Addr} {sl_law_source : Array (Option Value)} {oc_law_source kV_law_source dc_law_source pm_law_source cd_law_source ct_law_source : Value} {f_law_feed : Addr} {od_law_feed an_law_feed : Option Addr} {sl_law_feed : Array (Option Value)} {oc_law_feed kV_law_feed dc_law_feed pm_law_feed cd_law_feed ct_law_feed : Value} {f_law : Addr} {od_law an_law : Option Addr} {sl_law : Array (Option Value)} {oc_law kV_law dc_law pm_law cd_law ct_law : Value}
    (a_Source : PySem.W.nsIn K mainGlobals "Source" = some (some (.ref C_Source)))
    (pg_Source : PySem.W.plainGet K C_Source Str.empty = true)
    (hd_Source : PySem.W.hasDictIn K C_Source = true)
    (po_Source : PySem.W.plainOver K C_Source = true)
    (sa_Source : PySem.W.findIn K (.ref C_Source) "__setattr__" = some (some (.builtin "object.__setattr__")))
    (mk_Source : PySem.W.makesIn K C_Source = true)
    (kc_Source : PySem.W.keepIn K (.ref C_Source) = true)
    (n_Source_rows : PySem.W.findIn K (.ref C_Source) "rows" = some none)
    (z_abs : PySem.W.nsIn K mainGlobals "abs" = some none)
    (z_all : PySem.W.nsIn K mainGlobals "all" = some none)
    (z_bool : PySem.W.nsIn K mainGlobals "bool" = some none)
    (z_dict : PySem.W.nsIn K mainGlobals "dict" = some none)
    (z_int : PySem.W.nsIn K mainGlobals "int" = some none)
    (z_isinstance : PySem.W.nsIn K mainGlobals "isinstance" = some none)
    (z_len : PySem.W.nsIn K mainGlobals "len" = some none)
    (z_list : PySem.W.nsIn K mainGlobals "list" = some none)
    (z_max : PySem.W.nsIn K mainGlobals "max" = some none)
    (z_min : PySem.W.nsIn K mainGlobals "min" = some none)
    (z_range : PySem.W.nsIn K mainGlobals "range" = some none)
    (z_repr : PySem.W.nsIn K mainGlobals "repr" = some none)
    (z_sorted : PySem.W.nsIn K mainGlobals "sorted" = some none)
    (z_str : PySem.W.nsIn K mainGlobals "str" = some none)
    (z_sum : PySem.W.nsIn K mainGlobals "sum" = some none)
    (z_tuple : PySem.W.nsIn K mainGlobals "tuple" = some none)
    (y_LETTERS : PySem.W.nsIn K mainGlobals "LETTERS" = some (some (.str "abcdefghijklmnopqrstuvwxyz" t_LETTERS)))
    (y_MAX_NAME : PySem.W.nsIn K mainGlobals "MAX_NAME" = some (some (.int 8 t_MAX_NAME)))
    (y_MAX_PART : PySem.W.nsIn K mainGlobals "MAX_PART" = some (some (.int 9 t_MAX_PART)))
    (y_MAX_SOURCE : PySem.W.nsIn K mainGlobals "MAX_SOURCE" = some (some (.int 4 t_MAX_SOURCE)))
    (a_Source_states : PySem.W.findIn K (.ref C_Source) "states" = some (some (.ref f_Source_states)))
    (i_Source_states : PySem.W.isFn K (.ref f_Source_states) = true)
    (l_Source_states : K.lookup f_Source_states = some ⟨oc_Source_states, od_Source_states, .func (PySem.W.fnOf "states" "Source.states" (defArgs s_Source_states) (defBody s_Source_states) (defScope s_Source_states) .none kV_Source_states dc_Source_states pm_Source_states an_Source_states cd_Source_states ct_Source_states), sl_Source_states⟩)
    (c_Source_states : PySem.W.codeIn K cd_Source_states "Source.states" = true)
    (k_Source_states : PySem.W.keepIn K (.ref f_Source_states) = true)
    (a_law_fraction : PySem.W.nsIn K mainGlobals "_law_fraction" = some (some (.ref f_law_fraction)))
    (l_law_fraction : K.lookup f_law_fraction = some ⟨oc_law_fraction, od_law_fraction, .func (PySem.W.fnOf "_law_fraction" "_law_fraction" (defArgs s_law_fraction) (defBody s_law_fraction) (defScope s_law_fraction) .none kV_law_fraction dc_law_fraction pm_law_fraction an_law_fraction cd_law_fraction ct_law_fraction), sl_law_fraction⟩)
    (c_law_fraction : PySem.W.codeIn K cd_law_fraction "_law_fraction" = true)
    (k_law_fraction : PySem.W.keepIn K (.ref f_law_fraction) = true)
    (a_law_added : PySem.W.nsIn K mainGlobals "_law_added" = some (some (.ref f_law_added)))
    (l_law_added : K.lookup f_law_added = some ⟨oc_law_added, od_law_added, .func (PySem.W.fnOf "_law_added" "_law_added" (defArgs s_law_added) (defBody s_law_added) (defScope s_law_added) .none kV_law_added dc_law_added pm_law_added an_law_added cd_law_added ct_law_added), sl_law_added⟩)
    (c_law_added : PySem.W.codeIn K cd_law_added "_law_added" = true)
    (k_law_added : PySem.W.keepIn K (.ref f_law_added) = true)
    (a_fraction_of : PySem.W.nsIn K mainGlobals "fraction_of" = some (some (.ref f_fraction_of)))
    (l_fraction_of : K.lookup f_fraction_of = some ⟨oc_fraction_of, od_fraction_of, .func (PySem.W.fnOf "fraction_of" "fraction_of" (defArgs s_fraction_of) (defBody s_fraction_of) (defScope s_fraction_of) .none kV_fraction_of dc_fraction_of pm_fraction_of an_fraction_of cd_fraction_of ct_fraction_of), sl_fraction_of⟩)
    (c_fraction_of : PySem.W.codeIn K cd_fraction_of "fraction_of" = true)
    (k_fraction_of : PySem.W.keepIn K (.ref f_fraction_of) = true)
    (a_total_of : PySem.W.nsIn K mainGlobals "total_of" = some (some (.ref f_total_of)))
    (l_total_of : K.lookup f_total_of = some ⟨oc_total_of, od_total_of, .func (PySem.W.fnOf "total_of" "total_of" (defArgs s_total_of) (defBody s_total_of) (defScope s_total_of) .none kV_total_of dc_total_of pm_total_of an_total_of cd_total_of ct_total_of), sl_total_of⟩)
    (c_total_of : PySem.W.codeIn K cd_total_of "total_of" = true)
    (k_total_of : PySem.W.keepIn K (.ref f_total_of) = true)
    (a_chance : PySem.W.nsIn K mainGlobals "chance" = some (some (.ref f_chance)))
    (l_chance : K.lookup f_chance = some ⟨oc_chance, od_chance, .func (PySem.W.fnOf "chance" "chance" (defArgs s_chance) (defBody s_chance) (defScope s_chance) .none kV_chance dc_chance pm_chance an_chance cd_chance ct_chance), sl_chance⟩)
    (c_chance : PySem.W.codeIn K cd_chance "chance" = true)
    (k_chance : PySem.W.keepIn K (.ref f_chance) = true)
    (a_reached_from : PySem.W.nsIn K mainGlobals "reached_from" = some (some (.ref f_reached_from)))
    (l_reached_from : K.lookup f_reached_from = some ⟨oc_reached_from, od_reached_from, .func (PySem.W.fnOf "reached_from" "reached_from" (defArgs s_reached_from) (defBody s_reached_from) (defScope s_reached_from) .none kV_reached_from dc_reached_from pm_reached_from an_reached_from cd_reached_from ct_reached_from), sl_reached_from⟩)
    (c_reached_from : PySem.W.codeIn K cd_reached_from "reached_from" = true)
    (k_reached_from : PySem.W.keepIn K (.ref f_reached_from) = true)
    (a_is_integer : PySem.W.nsIn K mainGlobals "is_integer" = some (some (.ref f_is_integer)))
    (l_is_integer : K.lookup f_is_integer = some ⟨oc_is_integer, od_is_integer, .func (PySem.W.fnOf "is_integer" "is_integer" (defArgs s_is_integer) (defBody s_is_integer) (defScope s_is_integer) .none kV_is_integer dc_is_integer pm_is_integer an_is_integer cd_is_integer ct_is_integer), sl_is_integer⟩)
    (c_is_integer : PySem.W.codeIn K cd_is_integer "is_integer" = true)
    (k_is_integer : PySem.W.keepIn K (.ref f_is_integer) = true)
    (a_is_name : PySem.W.nsIn K mainGlobals "is_name" = some (some (.ref f_is_name)))
    (l_is_name : K.lookup f_is_name = some ⟨oc_is_name, od_is_name, .func (PySem.W.fnOf "is_name" "is_name" (defArgs s_is_name) (defBody s_is_name) (defScope s_is_name) .none kV_is_name dc_is_name pm_is_name an_is_name cd_is_name ct_is_name), sl_is_name⟩)
    (c_is_name : PySem.W.codeIn K cd_is_name "is_name" = true)
    (k_is_name : PySem.W.keepIn K (.ref f_is_name) = true)
    (a_is_source_state : PySem.W.nsIn K mainGlobals "is_source_state" = some (some (.ref f_is_source_state)))
    (l_is_source_state : K.lookup f_is_source_state = some ⟨oc_is_source_state, od_is_source_state, .func (PySem.W.fnOf "is_source_state" "is_source_state" (defArgs s_is_source_state) (defBody s_is_source_state) (defScope s_is_source_state) .none kV_is_source_state dc_is_source_state pm_is_source_state an_is_source_state cd_is_source_state ct_is_source_state), sl_is_source_state⟩)
    (c_is_source_state : PySem.W.codeIn K cd_is_source_state "is_source_state" = true)
    (k_is_source_state : PySem.W.keepIn K (.ref f_is_source_state) = true)
    (a_are_source_states : PySem.W.nsIn K mainGlobals "are_source_states" = some (some (.ref f_are_source_states)))
    (l_are_source_states : K.lookup f_are_source_states = some ⟨oc_are_source_states, od_are_source_states, .func (PySem.W.fnOf "are_source_states" "are_source_states" (defArgs s_are_source_states) (defBody s_are_source_states) (defScope s_are_source_states) .none kV_are_source_states dc_are_source_states pm_are_source_states an_are_source_states cd_are_source_states ct_are_source_states), sl_are_source_states⟩)
    (c_are_source_states : PySem.W.codeIn K cd_are_source_states "are_source_states" = true)
    (k_are_source_states : PySem.W.keepIn K (.ref f_are_source_states) = true)
    (a_Source___init__ : PySem.W.findIn K (.ref C_Source) "__init__" = some (some (.ref f_Source___init__)))
    (i_Source___init__ : PySem.W.isFn K (.ref f_Source___init__) = true)
    (l_Source___init__ : K.lookup f_Source___init__ = some ⟨oc_Source___init__, od_Source___init__, .func (PySem.W.fnOf "__init__" "Source.__init__" (defArgs s_Source___init__) (defBody s_Source___init__) (defScope s_Source___init__) .none kV_Source___init__ dc_Source___init__ pm_Source___init__ an_Source___init__ cd_Source___init__ ct_Source___init__), sl_Source___init__⟩)
    (c_Source___init__ : PySem.W.codeIn K cd_Source___init__ "Source.__init__" = true)
    (k_Source___init__ : PySem.W.keepIn K (.ref f_Source___init__) = true)
    (a_law_due : PySem.W.nsIn K mainGlobals "_law_due" = some (some (.ref f_law_due)))
    (l_law_due : K.lookup f_law_due = some ⟨oc_law_due, od_law_due, .func (PySem.W.fnOf "_law_due" "_law_due" (defArgs s_law_due) (defBody s_law_due) (defScope s_law_due) .none kV_law_due dc_law_due pm_law_due an_law_due cd_law_due ct_law_due), sl_law_due⟩)
    (c_law_due : PySem.W.codeIn K cd_law_due "_law_due" = true)
    (k_law_due : PySem.W.keepIn K (.ref f_law_due) = true)
    (a_law_take : PySem.W.nsIn K mainGlobals "_law_take" = some (some (.ref f_law_take)))
    (l_law_take : K.lookup f_law_take = some ⟨oc_law_take, od_law_take, .func (PySem.W.fnOf "_law_take" "_law_take" (defArgs s_law_take) (defBody s_law_take) (defScope s_law_take) .none kV_law_take dc_law_take pm_law_take an_law_take cd_law_take ct_law_take), sl_law_take⟩)
    (c_law_take : PySem.W.codeIn K cd_law_take "_law_take" = true)
    (k_law_take : PySem.W.keepIn K (.ref f_law_take) = true)
    (a_law_pick : PySem.W.nsIn K mainGlobals "_law_pick" = some (some (.ref f_law_pick)))
    (l_law_pick : K.lookup f_law_pick = some ⟨oc_law_pick, od_law_pick, .func (PySem.W.fnOf "_law_pick" "_law_pick" (defArgs s_law_pick) (defBody s_law_pick) (defScope s_law_pick) .none kV_law_pick dc_law_pick pm_law_pick an_law_pick cd_law_pick ct_law_pick), sl_law_pick⟩)
    (c_law_pick : PySem.W.codeIn K cd_law_pick "_law_pick" = true)
    (k_law_pick : PySem.W.keepIn K (.ref f_law_pick) = true)
    (a_law_row : PySem.W.nsIn K mainGlobals "_law_row" = some (some (.ref f_law_row)))
    (l_law_row : K.lookup f_law_row = some ⟨oc_law_row, od_law_row, .func (PySem.W.fnOf "_law_row" "_law_row" (defArgs s_law_row) (defBody s_law_row) (defScope s_law_row) .none kV_law_row dc_law_row pm_law_row an_law_row cd_law_row ct_law_row), sl_law_row⟩)
    (c_law_row : PySem.W.codeIn K cd_law_row "_law_row" = true)
    (k_law_row : PySem.W.keepIn K (.ref f_law_row) = true)
    (a_law_source : PySem.W.nsIn K mainGlobals "_law_source" = some (some (.ref f_law_source)))
    (l_law_source : K.lookup f_law_source = some ⟨oc_law_source, od_law_source, .func (PySem.W.fnOf "_law_source" "_law_source" (defArgs s_law_source) (defBody s_law_source) (defScope s_law_source) .none kV_law_source dc_law_source pm_law_source an_law_source cd_law_source ct_law_source), sl_law_source⟩)
    (c_law_source : PySem.W.codeIn K cd_law_source "_law_source" = true)
    (k_law_source : PySem.W.keepIn K (.ref f_law_source) = true)
    (a_law_feed : PySem.W.nsIn K mainGlobals "_law_feed" = some (some (.ref f_law_feed)))
    (l_law_feed : K.lookup f_law_feed = some ⟨oc_law_feed, od_law_feed, .func (PySem.W.fnOf "_law_feed" "_law_feed" (defArgs s_law_feed) (defBody s_law_feed) (defScope s_law_feed) .none kV_law_feed dc_law_feed pm_law_feed an_law_feed cd_law_feed ct_law_feed), sl_law_feed⟩)
    (c_law_feed : PySem.W.codeIn K cd_law_feed "_law_feed" = true)
    (k_law_feed : PySem.W.keepIn K (.ref f_law_feed) = true)
    (a_law : PySem.W.nsIn K mainGlobals "law" = some (some (.ref f_law)))
    (l_law : K.lookup f_law = some ⟨oc_law, od_law, .func (PySem.W.fnOf "law" "law" (defArgs s_law) (defBody s_law) (defScope s_law) .none kV_law dc_law pm_law an_law cd_law ct_law), sl_law⟩)
    (c_law : PySem.W.codeIn K cd_law "law" = true)
    (k_law : PySem.W.keepIn K (.ref f_law) = true)
    : ∃ (fd : FuncData) (cl : Nat → Addr), (∀ (s : Shared) (u : Value), BindsTo s fd ⟨[u], []⟩ [("script", u)]) ∧ ∀ (a : Addr) (ns : List Int) (base : Heap), K.In base → base.Ns mainGlobals mg → FnG l.prog w K mg base 6 fa fd ["script"] (spM ⟨K, a, ns, cl⟩ 1 m_law) := by
  have e := hfa.symm.trans (PySem.W.mg_of X G a_law)
  cases e
  refine ⟨PySem.W.fnOf "law" "law" (defArgs s_law) (defBody s_law) (defScope s_law) .none kV_law dc_law pm_law an_law cd_law ct_law, fun n => if n = 0 then C_Source else 0, fun s v => .of_eq rfl, fun a ns base _ _ => g_law (g := ⟨K, a, ns, fun n => if n = 0 then C_Source else 0⟩) ?_ (fun_mk (st := s_law) l_law c_law k_law)⟩
  exact {
    b_abs := PySem.W.mg_none_of X G z_abs
    b_all := PySem.W.mg_none_of X G z_all
    b_bool := PySem.W.mg_none_of X G z_bool
    b_dict := PySem.W.mg_none_of X G z_dict
    b_int := PySem.W.mg_none_of X G z_int
    b_isinstance := PySem.W.mg_none_of X G z_isinstance
    b_len := PySem.W.mg_none_of X G z_len
    b_list := PySem.W.mg_none_of X G z_list
    b_max := PySem.W.mg_none_of X G z_max
    b_min := PySem.W.mg_none_of X G z_min
    b_range := PySem.W.mg_none_of X G z_range
    b_repr := PySem.W.mg_none_of X G z_repr
    b_sorted := PySem.W.mg_none_of X G z_sorted
    b_str := PySem.W.mg_none_of X G z_str
    b_sum := PySem.W.mg_none_of X G z_sum
    b_tuple := PySem.W.mg_none_of X G z_tuple
    k_LETTERS := ⟨_, PySem.W.mg_of X G y_LETTERS⟩
    k_MAX_NAME := ⟨_, PySem.W.mg_of X G y_MAX_NAME⟩
    k_MAX_PART := ⟨_, PySem.W.mg_of X G y_MAX_PART⟩
    k_MAX_SOURCE := ⟨_, PySem.W.mg_of X G y_MAX_SOURCE⟩
    f_Source_rows := ⟨⟨pg_Source, hd_Source, po_Source, sa_Source⟩, n_Source_rows⟩
    d_Source_states := ⟨_, _, ⟨pg_Source, hd_Source, po_Source, sa_Source⟩, ⟨a_Source_states, i_Source_states, k_Source_states⟩, fun_mk (st := s_Source_states) l_Source_states c_Source_states k_Source_states⟩
    d_law_fraction := ⟨_, _, PySem.W.mg_of X G a_law_fraction, fun_mk (st := s_law_fraction) l_law_fraction c_law_fraction k_law_fraction⟩
    d_law_added := ⟨_, _, PySem.W.mg_of X G a_law_added, fun_mk (st := s_law_added) l_law_added c_law_added k_law_added⟩
    d_fraction_of := ⟨_, _, PySem.W.mg_of X G a_fraction_of, fun_mk (st := s_fraction_of) l_fraction_of c_fraction_of k_fraction_of⟩
    d_total_of := ⟨_, _, PySem.W.mg_of X G a_total_of, fun_mk (st := s_total_of) l_total_of c_total_of k_total_of⟩
    d_chance := ⟨_, _, PySem.W.mg_of X G a_chance, fun_mk (st := s_chance) l_chance c_chance k_chance⟩
    d_reached_from := ⟨_, _, PySem.W.mg_of X G a_reached_from, fun_mk (st := s_reached_from) l_reached_from c_reached_from k_reached_from⟩
    d_is_integer := ⟨_, _, PySem.W.mg_of X G a_is_integer, fun_mk (st := s_is_integer) l_is_integer c_is_integer k_is_integer⟩
    d_is_name := ⟨_, _, PySem.W.mg_of X G a_is_name, fun_mk (st := s_is_name) l_is_name c_is_name k_is_name⟩
    d_is_source_state := ⟨_, _, PySem.W.mg_of X G a_is_source_state, fun_mk (st := s_is_source_state) l_is_source_state c_is_source_state k_is_source_state⟩
    d_are_source_states := ⟨_, _, PySem.W.mg_of X G a_are_source_states, fun_mk (st := s_are_source_states) l_are_source_states c_are_source_states k_are_source_states⟩
    d_Source___init__ := ⟨_, _, PySem.W.mg_of X G a_Source, ⟨mk_Source, a_Source___init__, i_Source___init__, kc_Source⟩, fun_mk (st := s_Source___init__) l_Source___init__ c_Source___init__ k_Source___init__⟩
    d_law_due := ⟨_, _, PySem.W.mg_of X G a_law_due, fun_mk (st := s_law_due) l_law_due c_law_due k_law_due⟩
    d_law_take := ⟨_, _, PySem.W.mg_of X G a_law_take, fun_mk (st := s_law_take) l_law_take c_law_take k_law_take⟩
    d_law_pick := ⟨_, _, PySem.W.mg_of X G a_law_pick, fun_mk (st := s_law_pick) l_law_pick c_law_pick k_law_pick⟩
    d_law_row := ⟨_, _, PySem.W.mg_of X G a_law_row, fun_mk (st := s_law_row) l_law_row c_law_row k_law_row⟩
    d_law_source := ⟨_, _, PySem.W.mg_of X G a_law_source, fun_mk (st := s_law_source) l_law_source c_law_source k_law_source⟩
    d_law_feed := ⟨_, _, PySem.W.mg_of X G a_law_feed, fun_mk (st := s_law_feed) l_law_feed c_law_feed k_law_feed⟩
    d_law := ⟨_, _, PySem.W.mg_of X G a_law, fun_mk (st := s_law) l_law c_law k_law⟩
  }
end Lw
end

section
namespace Lw
open PySem L2 Mn

def WE {α : Type} (r : Res α) (Q : α → MH → Prop) : Prop := match r with
  | .ok a h => Q a h
  | _ => False
def WS (r : SR) (N : MS → MH → Prop) (R : Va → MH → Prop) : Prop := match r with
  | .nx s h => N s h
  | .rt v h => R v h
  | _ => False

section
variable {α β : Type}
theorem WE_ok (a : α) (h : MH) (Q : α → MH → Prop) : WE (.ok a h) Q = Q a h := rfl
theorem WE_bind (r : Res α) (f : α → MH → Res β) (Q : β → MH → Prop) : WE (r.bind f) Q = WE r fun a h => WE (f a h) Q := by cases r <;> rfl
theorem WE_plain (r : Res Va) (Q : Va → MH → Prop) : WE (Plain r) Q = WE r Q := by cases r <;> rfl
theorem WS_toS (r : Res α) (σ : MS) (f : α → MH → SR) (N : MS → MH → Prop) (R : Va → MH → Prop) : WS (r.toS σ f) N R = WE r fun a h => WS (f a h) N R := by cases r <;> rfl
theorem WS_nx (s : MS) (h : MH) (N : MS → MH → Prop) (R : Va → MH → Prop) : WS (.nx s h) N R = N s h := rfl
theorem WS_rt (s : Va) (h : MH) (N : MS → MH → Prop) (R : Va → MH → Prop) : WS (.rt s h) N R = R s h := rfl
theorem WS_seq (a b : MT) (σ : MS) (h : MH) (N : MS → MH → Prop) (R : Va → MH → Prop) : WS (mSeq a b σ h) N R = WS (a σ h) (fun s h1 => WS (b s h1) N R) R := by
  unfold mSeq; cases a σ h <;> rfl
theorem WS_onw (r : SR) (N : MS → MH → Prop) (R : Va → MH → Prop) : WS (Onw r) N R = WS r N fun _ _ => False := by cases r <;> rfl
theorem WE_mono {r : Res α} {Q Q' : α → MH → Prop} (w : WE r Q) (k : ∀ a h, Q a h → Q' a h) : WE r Q' := by
  cases r with
  | ok a h => exact k a h w
  | ex => exact w.elim
  | no => exact w.elim
theorem WS_mono {r : SR} {N N' : MS → MH → Prop} {R R' : Va → MH → Prop} (w : WS r N R) (k : ∀ a h, N a h → N' a h) (k' : ∀ a h, R a h → R' a h) : WS r N' R' := by
  cases r with
  | nx a h => exact k a h w
  | rt a h => exact k' a h w
  | _ => exact w.elim
theorem WE_ex {r : Res α} {Q : α → MH → Prop} (w : WE r Q) : ∃ a h, r = .ok a h ∧ Q a h := by
  cases r with
  | ok a h => exact ⟨a, h, rfl, w⟩
  | ex => exact w.elim
  | no => exact w.elim
end

theorem WE_fn (n np : Nat) (b : MT) (as : List Va) (h : MH) (Q : Va → MH → Prop) : as.length = np → WS (b (startM n as) h) (fun _ h' => Q .non h') Q → WE (mkFn n np b as h) Q := by
  intro e w
  unfold mkFn
  rw [if_pos e]
  revert w
  cases b (startM n as) h <;> exact id

section
variable (σ : MS) (h : MH) (Q : Va → MH → Prop) (N : MS → MH → Prop) (QB : Bool → MH → Prop) (QA : List Va → MH → Prop)
theorem W_loc (i : Nat) : WE (mLoc i σ h) Q = ∃ v, σ[i]? = some (some v) ∧ Q v h := by
  unfold mLoc
  rcases e : σ[i]? with _ | _ | v <;> simp [WE]
theorem W_con (v : Va) : WE (mCon v σ h) Q = Q v h := rfl
theorem W_bin (f : F2) (a b : ME) : WE (mBin f a b σ h) Q = WE (a σ h) fun v h1 => WE (b σ h1) fun u h2 => WE (f v u h2) Q := by
  simp only [mBin, WE_bind, WE_plain]
theorem W_tb (m : ME) : WE (mTb m σ h) QB = WE (m σ h) fun v h1 => ∃ b, v = .bl b ∧ QB b h1 := by
  simp only [mTb, WE_bind]
  congr 1; funext v h1
  cases v <;> simp [WE]
theorem W_tru (m : ME) : WE (mTru m σ h) QB = WE (m σ h) fun v h1 => ∃ b, truth v h1 = some b ∧ QB b h1 := by
  simp only [mTru, WE_bind]
  congr 1; funext v h1
  cases e : truth v h1 <;> simp [WE]
theorem W_notT (m : MB) : WE (mNotT m σ h) QB = WE (m σ h) fun b h1 => QB (!b) h1 := by
  simp only [mNotT, WE_bind, WE_ok]
theorem W_andT (a b : MB) : WE (mAndT a b σ h) QB = WE (a σ h) fun c h1 => (c = true → WE (b σ h1) QB) ∧ (c = false → QB false h1) := by
  simp only [mAndT, WE_bind]
  congr 1; funext v h1
  cases v <;> simp [WE]
theorem W_orT (a b : MB) : WE (mOrT a b σ h) QB = WE (a σ h) fun c h1 => (c = true → QB true h1) ∧ (c = false → WE (b σ h1) QB) := by
  simp only [mOrT, WE_bind]
  congr 1; funext v h1
  cases v <;> simp [WE]
theorem W_not (a : ME) : WE (mNot a σ h) Q = WE (a σ h) fun v h1 => ∃ b, truth v h1 = some b ∧ Q (.bl (!b)) h1 := by
  simp only [mNot, WE_bind]
  congr 1; funext v h1
  cases e : truth v h1 <;> simp [WE]
theorem W_and (a b : ME) : WE (mAnd a b σ h) Q = WE (a σ h) fun v h1 => ∃ c, truth v h1 = some c ∧ (c = true → WE (b σ h1) Q) ∧ (c = false → Q v h1) := by
  simp only [mAnd, WE_bind]
  congr 1; funext v h1
  rcases e : truth v h1 with _ | _ | _ <;> simp [WE]
theorem W_if (c : MB) (a b : ME) : WE (mIf c a b σ h) Q = WE (c σ h) fun k h1 => (k = true → WE (a σ h1) Q) ∧ (k = false → WE (b σ h1) Q) := by
  simp only [mIf, WE_bind]
  congr 1; funext v h1
  cases v <;> simp
theorem W_nil : WE (mNil σ h) QA = QA [] h := rfl
theorem W_cons (a : ME) (b : MA) : WE (mCons a b σ h) QA = WE (a σ h) fun v h1 => WE (b σ h1) fun vs h2 => QA (v :: vs) h2 := by
  simp only [mCons, WE_bind, WE_ok]
theorem W_tup (a : MA) : WE (mTup a σ h) Q = WE (a σ h) fun vs h1 => vs.length ≤ PySem.sizeLine ∧ Q (.tup vs) h1 := by
  simp only [mTup, WE_bind]
  congr 1; funext v h1
  split <;> simp [WE, *]
theorem W_lst (a : MA) : WE (mLst a σ h) Q = WE (a σ h) fun vs h1 => vs.length ≤ PySem.sizeLine ∧ Q (.ref h1.n) (h1.push (.lst vs)) := by
  simp only [mLst, WE_bind]
  congr 1; funext v h1
  split <;> simp [WE, newO, Plain, *]
theorem W_d0 : WE (mDict0 σ h) Q = Q (.ref h.n) (h.push (.dic [])) := rfl
theorem W_callB (f : FL) (a : MA) : WE (mCallB f a σ h) Q = WE (a σ h) fun vs h1 => WE (f vs h1) Q := by
  simp only [mCallB, WE_bind, WE_plain]
theorem W_callF (n : Nat) (m : FnM) (a : MA) : WE (mCallF n m a σ h) Q = WE (a σ h) fun vs h1 => vs.length = n ∧ WE (m vs h1) Q := by
  simp only [mCallF, WE_bind]
  congr 1; funext v h1
  by_cases e : v.length = n
  · rw [show v.length.beq n = true from Nat.beq_eq.mpr e]; simp [e]
  · rw [show v.length.beq n = false from Bool.eq_false_iff.mpr fun z => e (Nat.beq_eq.mp z)]; simp [e, WE]
theorem W_ret (m : ME) (R : Va → MH → Prop) : WS (mRet m σ h) N R = WE (m σ h) R := by
  simp only [mRet, WS_toS]; rfl
theorem W_expr (m : ME) (R : Va → MH → Prop) : WS (mExpr m σ h) N R = WE (m σ h) fun _ h1 => N σ h1 := by
  simp only [mExpr, WS_toS]; rfl
theorem W_skip (R : Va → MH → Prop) : WS (mSkip σ h) N R = N σ h := rfl
theorem W_set (i : Nat) (m : ME) (R : Va → MH → Prop) : WS (mSet i m σ h) N R = WE (m σ h) fun v h1 => N (σ.set i (some v)) h1 := by
  simp only [mSet, WS_toS]; rfl
theorem W_ifS (c : MB) (a b : MT) (R : Va → MH → Prop) : WS (mIfS c a b σ h) N R = WE (c σ h) fun k h1 => (k = true → WS (a σ h1) N R) ∧ (k = false → WS (b σ h1) N R) := by
  simp only [mIfS, WS_toS]
  congr 1; funext v h1
  cases v <;> simp
theorem W_par (i j : Nat) (a b : ME) (R : Va → MH → Prop) : WS (mPar i j (mCons a (mCons b mNil)) σ h) N R = WE (a σ h) fun v h1 => WE (b σ h1) fun w h2 => N ((σ.set i (some v)).set j (some w)) h2 := by
  simp only [mPar, WS_toS, W_cons, W_nil]; rfl
theorem W_asgG (m : ME) (gt : MG) (R : Va → MH → Prop) : WS (mAsgG m gt σ h) N R = WE (m σ h) fun v h1 => WS (gt v σ h1) N fun _ _ => False := by
  simp only [mAsgG, WS_toS, WS_onw]
theorem W_gName (i : Nat) (v : Va) (R : Va → MH → Prop) : WS (mgName i v σ h) N R = N (σ.set i (some v)) h := rfl
theorem W_gNil (R : Va → MH → Prop) : WS (mgNil [] σ h) N R = N σ h := rfl
theorem W_gCons (a : MG) (b : MGs) (v : Va) (r : List Va) (R : Va → MH → Prop) : WS (mgCons a b (v :: r) σ h) N R = WS (a v σ h) (fun s h1 => WS (b r s h1) N R) R := by
  simp only [mgCons, WS_seq]
theorem W_gTup (n : Nat) (ms : MGs) (xs : List Va) (R : Va → MH → Prop) : WS (mgTup n ms (.tup xs) σ h) N R = (xs.length = n ∧ WS (ms xs σ h) N R) := by
  simp only [mgTup]
  split <;> simp [WS, *]
theorem W_store (mv mo mk : ME) (R : Va → MH → Prop) : WS (mStore mv mo mk σ h) N R = WE (mv σ h) fun v h1 => WE (mo σ h1) fun o h2 => WE (mk σ h2) fun k h3 => ∃ h4, fStore v o k h3 = some h4 ∧ N σ h4 := by
  simp only [mStore, WS_toS]
  congr 1; funext v h1; congr 1; funext o h2; congr 1; funext k h3
  cases fStore v o k h3 <;> simp [WS]
theorem W_bM (f : FM) (mo : ME) (ms : MA) : WE (mBM f mo ms σ h) Q = WE (mo σ h) fun v h1 => (∃ xs, listAt h1 v = some xs) ∧ WE (ms σ h1) fun vs h2 => WE (f v vs h2) Q := by
  simp only [mBM, WE_bind]
  congr 1; funext v h1
  cases listAt h1 v <;> simp [WE_bind, WE_plain] <;> simp [WE]
theorem W_bM0 (f : FM) (mo : ME) : WE (mBM0 f mo σ h) Q = WE (mo σ h) fun v h1 => (∃ xs, listAt h1 v = some xs) ∧ WE (f v [] h1) Q := by
  simp only [mBM0, WE_bind]
  congr 1; funext v h1
  cases listAt h1 v <;> simp [WE_bind, WE_plain] <;> simp [WE]
theorem W_fld (c : Nat) (f : PySem.Str) (mo : ME) : WE (mFld c f mo σ h) Q = WE (mo σ h) fun v h1 => ∃ fs w, insAt h1 c v = some fs ∧ fs.lookup f = some w ∧ Q w h1 := by
  simp only [mFld, WE_bind]
  congr 1; funext v h1
  rcases insAt h1 c v with _ | fs
  · simp [WE]
  · cases e : fs.lookup f <;> simp [WE, e]
theorem W_isi (T : String) (m : ME) : WE (mIsi T m σ h) Q = WE (m σ h) fun v h1 => ∃ a, tyName h1 v = some a ∧ Q (.bl (kitName a T)) h1 := by
  simp only [mIsi, WE_bind]
  congr 1; funext v h1
  cases tyName h1 v <;> simp [WE]
theorem W_chain (f f' : F2) (ma mb mc : ME) : WE (mChain f f' ma mb mc σ h) Q = WE (ma σ h) fun v h1 => WE (mb σ h1) fun u h2 => WE (f v u h2) fun z h3 => ∃ b, z = .bl b ∧ (b = true → WE (mc σ h3) fun w h4 => WE (f' u w h4) Q) ∧ (b = false → Q (.bl false) h3) := by
  simp only [mChain, WE_bind, WE_plain]
  congr 1; funext v h1; congr 1; funext u h2; congr 1; funext z h3
  cases z with
  | bl b => cases b <;> simp [WE_bind, WE_plain] <;> simp [WE]
  | _ => simp [WE]
theorem W_ii (k : Int → Int → Va) (i j : Int) : WE (fII k (.int i) (.int j) h) Q = Q (k i j) h := rfl
theorem W_ic (c : Int → Int → Bool) (k : Int → Int → Va) (i j : Int) : WE (fIC c k (.int i) (.int j) h) Q = (c i j = true ∧ Q (k i j) h) := by
  simp only [fIC]
  split <;> simp [WE, *]
theorem W_addI (i j : Int) : WE (fAdd (.int i) (.int j) h) Q = Q (.int (i + j)) h := rfl
theorem W_mulI (i j : Int) : WE (fMul (.int i) (.int j) h) Q = (i.natAbs.log2 + j.natAbs.log2 < 1000000 ∧ Q (.int (i * j)) h) := by
  simp only [fMul]
  split <;> simp [WE, *]
theorem W_int (i : Int) : WE (fInt [.int i] h) Q = Q (.int i) h := rfl
theorem W_abs (i : Int) : WE (fAbs [.int i] h) Q = Q (.int (if i < 0 then -i else i)) h := rfl
theorem W_max2 (i j : Int) : WE (fMax2 [.int i, .int j] h) Q = Q (.int (if j > i then j else i)) h := rfl
theorem W_min2 (i j : Int) : WE (fMin2 [.int i, .int j] h) Q = Q (.int (if j < i then j else i)) h := rfl
end

/-- what stands in the heap -/
structure At (h : MH) (i : Nat) (o : MO) : Prop where
  lt : i < h.n
  get : h.get i = some o

/-- the heap has grown; what stood there stands there yet, but for what `E` names -/
structure Gr (E : Nat → Prop) (h h' : MH) : Prop where
  n : h.n ≤ h'.n
  s : h'.s = h.s
  k : ∀ i, i < h.n → ¬ E i → h'.get i = h.get i

def nob : Nat → Prop := fun _ => False

theorem Gr.refl (E) (h : MH) : Gr E h h := ⟨Nat.le_refl _, rfl, fun _ _ _ => rfl⟩
theorem Gr.trans {E} {a b c : MH} (x : Gr E a b) (y : Gr E b c) : Gr E a c :=
  ⟨Nat.le_trans x.n y.n, y.s.trans x.s, fun i l e => (y.k i (Nat.lt_of_lt_of_le l x.n) e).trans (x.k i l e)⟩
theorem Gr.weak {E E' : Nat → Prop} {a b : MH} (x : Gr E a b) (k : ∀ i, E i → E' i) : Gr E' a b := ⟨x.n, x.s, fun i l e => x.k i l fun z => e (k i z)⟩
theorem Gr.none {E : Nat → Prop} {a b : MH} (x : Gr nob a b) : Gr E a b := x.weak fun _ z => z.elim
theorem Gr.at_ {E} {a b : MH} (x : Gr E a b) {i : Nat} {o : MO} (t : At a i o) (e : ¬ E i) : At b i o := ⟨Nat.lt_of_lt_of_le t.lt x.n, (x.k i t.lt e).trans t.get⟩
theorem Gr.at0 {a b : MH} (x : Gr nob a b) {i : Nat} {o : MO} (t : At a i o) : At b i o := x.at_ t id
theorem Gr.push (E) (h : MH) (o : MO) : Gr E h (h.push o) := ⟨Nat.le_succ _, rfl, fun i l _ => by
  rw [MH.get_push, if_neg (Nat.ne_of_lt l)]⟩
theorem Gr.put {E : Nat → Prop} (h : MH) (i : Nat) (o : MO) (e : E i) : Gr E h (h.put i o) := ⟨Nat.le_refl _, rfl, fun j l x => by
  rw [MH.get_put, if_neg (by rintro rfl; exact x e)]⟩
/-- something new is written: nothing old is touched -/
theorem Gr.putN {E : Nat → Prop} {h h' : MH} (x : Gr E h h') (i : Nat) (o : MO) (e : h.n ≤ i) : Gr E h (h'.put i o) := ⟨x.n, x.s, fun j l z => by
  rw [MH.get_put, if_neg (by omega), x.k j l z]⟩
theorem At.push (h : MH) (o : MO) : At (h.push o) h.n o := ⟨Nat.lt_succ_self _, by rw [MH.get_push, if_pos rfl]⟩
theorem At.push' {h : MH} {i o} (t : At h i o) (u : MO) : At (h.push u) i o := (Gr.push nob h u).at0 t
theorem At.put {h : MH} {i : Nat} (l : i < h.n) (o : MO) : At (h.put i o) i o := ⟨l, by rw [MH.get_put, if_pos rfl]⟩
theorem At.put' {h : MH} {i j o} (t : At h i o) (u : MO) (e : i ≠ j) : At (h.put j u) i o := ⟨t.lt, by rw [MH.get_put, if_neg e, t.get]⟩
theorem At.inj {h : MH} {i o u} (t : At h i o) (x : At h i u) : o = u := by
  have := t.get.symm.trans x.get
  exact Option.some.inj this

/-- a loop by what holds at each turn -/
theorem loop_inv {it : IT} {gt : MG} {b : MT} {N : MS → MH → Prop} {R : Va → MH → Prop} (I : Nat → MS → MH → Prop) (len : Nat)
    (st : ∀ i σ h, i < len → I i σ h → ∃ v, it.at i h = some (some v) ∧ WS (gt v σ h) (fun σ1 h1 => WS (b σ1 h1) (I (i + 1)) R) fun _ _ => False)
    (en : ∀ σ h, I len σ h → it.at len h = some none ∧ N σ h) :
    ∀ n i σ h, len < n + i → i ≤ len → I i σ h → WS (loopF it gt b n i σ h) N R := by
  intro n
  induction n with
  | zero => intro i σ h a b; omega
  | succ n ih =>
    intro i σ h l m k
    unfold loopF
    by_cases e : i = len
    · subst e
      obtain ⟨a, c⟩ := en σ h k
      rw [a]
      exact c
    · obtain ⟨v, a, c⟩ := st i σ h (by omega) k
      rw [a]
      show WS (match Onw (gt v σ h) with
        | .nx σ1 h1 => _
        | r => r) N R
      cases q : gt v σ h with
      | nx s1 h1 =>
        rw [q] at c
        show WS (match b s1 h1 with
          | .nx σ2 h2 => _
          | .ct σ2 h2 => _
          | .bk σ2 h2 => _
          | r => r) N R
        have c' : WS (b s1 h1) (I (i + 1)) R := c
        cases q' : b s1 h1 with
        | nx s2 h2 =>
          rw [q'] at c'
          exact ih (i + 1) s2 h2 (by omega) (by omega) c'
        | rt v h2 => rw [q'] at c'; exact c'
        | _ => rw [q'] at c'; exact c'.elim
      | _ => rw [q] at c; exact c.elim

theorem comp_inv {it : IT} {gt : MG} {tt : MB} {te : ME} {σ : MS} {d : Nat} {Q : Va → MH → Prop} (I : Nat → List Va → MH → Prop) (len : Nat)
    (at_ : ∀ i acc h, I i acc h → At h d (.lst acc))
    (st : ∀ i acc h, i < len → I i acc h → ∃ v, it.at i h = some (some v) ∧ WS (gt v σ h) (fun σ1 h1 => WE (tt σ1 h1) fun k h2 => (k = false → I (i + 1) acc h2) ∧ (k = true → WE (te σ1 h2) fun y h3 => At h3 d (.lst acc) ∧ acc.length < PySem.sizeLine ∧ I (i + 1) (acc ++ [y]) (h3.put d (.lst (acc ++ [y]))))) fun _ _ => False)
    (en : ∀ acc h, I len acc h → it.at len h = some none ∧ Q (.ref d) h) :
    ∀ n i acc h, len < n + i → i ≤ len → I i acc h → WE (loopC it gt tt te σ d n i h) Q := by
  intro n
  induction n with
  | zero => intro i acc h a b; omega
  | succ n ih =>
    intro i acc h l m k
    unfold loopC
    by_cases e : i = len
    · subst e
      obtain ⟨a, c⟩ := en acc h k
      rw [a]
      exact c
    · obtain ⟨v, a, c⟩ := st i acc h (by omega) k
      rw [a]
      show WE (match gt v σ h with
        | .nx σ1 h1 => _
        | _ => .no) Q
      cases q : gt v σ h with
      | nx s1 h1 =>
        rw [q] at c
        have c' : WE (tt s1 h1) _ := c
        show WE (match tt s1 h1 with
          | .ok false h2 => _
          | .ok true h2 => _
          | _ => .no) Q
        cases q' : tt s1 h1 with
        | ok k h2 =>
          rw [q'] at c'
          cases k with
          | false => exact ih (i + 1) acc h2 (by omega) (by omega) (c'.1 rfl)
          | true =>
            have c2 := c'.2 rfl
            show WE (match te s1 h2 with
              | .ok y h3 => _
              | _ => .no) Q
            cases q2 : te s1 h2 with
            | ok y h3 =>
              rw [q2] at c2
              obtain ⟨x1, x2, x3⟩ := c2
              show WE (match h3.get d with
                | some (.lst acc) => _
                | _ => .no) Q
              rw [x1.get]
              show WE (if acc.length < PySem.sizeLine then _ else .no) Q
              rw [if_pos x2]
              exact ih (i + 1) _ _ (by omega) (by omega) x3
            | _ => rw [q2] at c2; exact c2.elim
        | _ => rw [q'] at c'; exact c'.elim
      | _ => rw [q] at c; exact c.elim

theorem wh_inv {c : MB} {b : MT} {N : MS → MH → Prop} {R : Va → MH → Prop} (I : Nat → MS → MH → Prop)
    (st : ∀ i σ h, I i σ h → WE (c σ h) fun k h1 => (k = false → N σ h1) ∧ (k = true → WS (b σ h1) (fun s h2 => ∃ j, j < i ∧ I j s h2) R)) :
    ∀ n i σ h, i < n → I i σ h → WS (mWhile c b n σ h) N R := by
  intro n
  induction n with
  | zero => intro i σ h a; omega
  | succ n ih =>
    intro i σ h l k
    have c' := st i σ h k
    unfold mWhile
    rw [WS_toS]
    refine WE_mono c' ?_
    intro a h1 z
    cases a with
    | false => exact z.1 rfl
    | true =>
      have z2 := z.2 rfl
      show WS (match b σ h1 with
        | .nx σ' h' => _
        | .ct σ' h' => _
        | .bk σ' h' => _
        | r => r) N R
      cases q : b σ h1 with
      | nx s2 h2 =>
        rw [q] at z2
        obtain ⟨j, l', i'⟩ := z2
        exact ih j s2 h2 (by omega) i'
      | rt v h2 => rw [q] at z2; exact z2
      | _ => rw [q] at z2; exact z2.elim

theorem WS_for (n : Nat) (mi : MI) (gt : MG) (b : MT) (σ : MS) (h : MH) (N : MS → MH → Prop) (R : Va → MH → Prop) :
    WS (mFor n mi gt b σ h) N R = WE (mi σ h) fun w h1 => (w.lk = none → WS (loopF w.it gt b n 0 σ h1) N R) ∧ ∀ i, w.lk = some i → WS (loopF w.it gt b n 0 σ h1) (fun s h2 => ∃ ks, h2.get i = some (.lck ks) ∧ N s (h2.put i (.dic ks))) (fun v h2 => ∃ ks, h2.get i = some (.lck ks) ∧ R v (h2.put i (.dic ks))) := by
  simp only [mFor, WS_toS]
  congr 1; funext w h1
  cases e : w.lk with
  | none => simp
  | some i =>
    simp only [reduceCtorEq, false_implies, true_and, Option.some.injEq, forall_eq']
    cases loopF w.it gt b n 0 σ h1 with
    | nx s h2 =>
      simp only [unlS, WS]
      cases h2.get i with
      | none => simp
      | some o => cases o <;> simp
    | rt s h2 =>
      simp only [unlS, WS]
      cases h2.get i with
      | none => simp
      | some o => cases o <;> simp
    | _ => simp [unlS, WS]
theorem WE_lc (n : Nat) (own : List Nat) (mi : MI) (gt : MG) (tt : MB) (te : ME) (σ : MS) (h : MH) (Q : Va → MH → Prop) :
    WE (mLcP n own mi gt tt te σ h) Q = WE (mi σ h) fun w h1 => (w.lk = none → WE (loopC w.it gt tt te (wipeM σ own) h1.n n 0 (h1.push (.lst []))) Q) ∧ ∀ i, w.lk = some i → WE (loopC w.it gt tt te (wipeM σ own) h1.n n 0 (h1.push (.lst []))) fun v h2 => ∃ ks, h2.get i = some (.lck ks) ∧ Q v (h2.put i (.dic ks)) := by
  simp only [mLcP, WE_bind]
  congr 1; funext w h1
  cases e : w.lk with
  | none => simp [WE_plain]
  | some i =>
    simp only [reduceCtorEq, false_implies, true_and, Option.some.injEq, forall_eq', WE_plain]
    cases loopC w.it gt tt te (wipeM σ own) h1.n n 0 (h1.push (.lst [])) with
    | ok s h2 =>
      simp only [unlE, WE]
      cases h2.get i with
      | none => simp
      | some o => cases o <;> simp
    | _ => simp [unlE, WE]
theorem W_rng1 (a : ME) (σ : MS) (h : MH) (Q : Wk → MH → Prop) : WE (mRng1 (mCons a mNil) σ h) Q = WE (a σ h) fun v h1 => ∃ j, v = .int j ∧ (-l62 ≤ j ∧ j < l62) ∧ Q ⟨.rng 0 j.toNat, none⟩ h1 := by
  simp only [mRng1, WE_bind, W_cons, W_nil]
  congr 1; funext a h1
  cases a with
  | int j =>
    by_cases e : -l62 ≤ j ∧ j < l62
    · simp [WE, e.1, e.2]
    · have : (decide (-l62 ≤ j) && decide (j < l62)) = false := by simpa using e
      simp only [this, cond, WE]
      simp
      intro a b; exact (e ⟨a, b⟩).elim
  | _ => simp [WE]
theorem W_iter (m : ME) (σ : MS) (h : MH) (Q : Wk → MH → Prop) : WE (mIter m σ h) Q = WE (m σ h) fun v h1 => WE (wkOf v h1) Q := by
  simp only [mIter, WE_bind]
theorem W_walkD (k : List (Va × Va) → IT) (m : ME) (σ : MS) (h : MH) (Q : Wk → MH → Prop) : WE (mWalkD k m σ h) Q = WE (m σ h) fun v h1 => WE (wkDic k v h1) Q := by
  simp only [mWalkD, WE_bind]

/-! ### the draws -/
structure Fe (h : MH) (f : Nat) : Prop where
  ex : ∃ a b : Int, At h f (.lst [.int a, .int b]) ∧ 0 ≤ b ∧ b < 4294967311

def tk (h : MH) (f : Nat) (size : Int) (v : Va) (h' : MH) : Prop := ∃ d : Int, v = .int d ∧ 0 ≤ d ∧ d < size ∧ Fe h' f ∧ Gr (· = f) h h' ∧ h'.n = h.n

theorem log2_lt {n k : Nat} (e : n < 2 ^ k) (z : 0 < k) : n.log2 < k := by
  by_cases o : n = 0
  · subst o; simpa using z
  · exact (Nat.log2_lt o).mpr e

theorem p_take {h : MH} {f : Nat} {size : Int} (F : Fe h f) (p : 0 < size) (q : size < 1000) : WE (m_law_take [.ref f, .int size] h) (tk h f size) := by
  obtain ⟨a, b, A, b0, b1⟩ := F.ex
  have hl : size.natAbs.log2 < 9000 := log2_lt (by omega) (by omega)
  have hm : (b.natAbs.log2 : Nat) < 40 := log2_lt (by omega) (by omega)
  have m0 := Int.emod_nonneg a (b := size) (by omega)
  have m1 := Int.emod_lt_of_pos a p
  have s0 := Int.emod_nonneg (b * 69069 + 12345) (b := 4294967311) (by omega)
  have s1 := Int.emod_lt_of_pos (b * 69069 + 12345) (b := 4294967311) (by omega)
  refine WE_fn _ _ _ _ _ _ rfl ?_
  unfold b_law_take
  simp only [WS_seq, W_ifS, W_tb, W_bin, W_loc, startM, W_con, fSub2]
  simp [dicAt, A.get, fIx, listAt, atI, WE_ok, fGt, W_ii, WS_seq, W_set, W_bin, W_loc, W_con, W_callB, W_cons, W_nil, W_int, fMod, W_ic, W_store, fSub2, fFdiv, fStore, W_ret, ixN, W_skip, W_addI, W_mulI, p, hl, MH.get_put]
  by_cases z : a ≤ 0
  · left
    have r0 := Int.emod_nonneg ((b * 69069 + 12345) % 4294967311 / 65536) (b := size) (by omega)
    have r1 := Int.emod_lt_of_pos ((b * 69069 + 12345) % 4294967311 / 65536) p
    have l1 : Nat.log2 69069 < 40 := log2_lt (by omega) (by omega)
    have l2 : Nat.log2 65536 < 40 := log2_lt (by omega) (by omega)
    exact ⟨z, by omega, by omega, _, rfl, r0, r1, ⟨_, _, At.put A.lt _, s0, s1⟩, Gr.put _ _ _ rfl, rfl⟩
  · right
    exact ⟨by omega, _, rfl, m0, m1, ⟨_, _, At.put A.lt _, b0, b1⟩, Gr.put _ _ _ rfl, rfl⟩

/-- the drawn one of some things -/
theorem p_pick {h : MH} {f t : Nat} {xs : List Va} (F : Fe h f) (T : At h t (.lst xs)) (e : t ≠ f) (p : 0 < xs.length) (q : xs.length < 1000) :
    WE (m_law_pick [.ref f, .ref t] h) fun v h' => v ∈ xs ∧ Fe h' f ∧ Gr (· = f) h h' ∧ h'.n = h.n := by
  refine WE_fn _ _ _ _ _ _ rfl ?_
  unfold b_law_pick
  simp only [W_ret, W_bin, W_loc, startM, W_con, fSub2, W_callF, W_cons, W_nil, W_callB]
  simp [listAt, T.get, fLen, WE_ok]
  refine WE_mono (p_take F (size := xs.length) (by omega) (by omega)) ?_
  rintro v h1 ⟨d, rfl, d0, d1, F1, G1, n1⟩
  have T1 := G1.at_ T e
  have : d.toNat < xs.length := by omega
  simp [dicAt, T1.get, fIx, listAt, atI, ixN, d0, d1, WE_ok, this]
  exact ⟨F1, G1, n1⟩

end Lw
end

section
namespace Lw
open PySem L2 Mn


/-! ### the states as plain data -/
abbrev En := Str × Int × Int
def kvOf (e : En) : Va × Va := (.str e.1, .tup [.int e.2.1, .int e.2.2])
def lk : List En → Str → Option (Int × Int)
  | [], _ => none
  | e :: r, x => if e.1 = x then some e.2 else lk r x
def pt (s : List En) (x : Str) (v : Int × Int) : List En := if x ∈ s.map (·.1) then s.map fun e => if e.1 = x then (e.1, v) else e else s ++ [(x, v)]
def nms : List Str := ["ski", "a", "end"]

theorem look_kv (s : List En) (x : Str) : look (s.map kvOf) (.str x) = (lk s x).map fun e => Va.tup [.int e.1, .int e.2] := by
  induction s with
  | nil => rfl
  | cons e r ih =>
    simp only [List.map_cons, look, kvOf, kIs, lk]
    by_cases q : e.1 = x
    · simp [q]
    · have : (e.1 == x) = false := by simpa using q
      simp [this, q]
      exact ih
theorem has_kv (s : List En) (x : Str) : has (s.map kvOf) (.str x) = decide (x ∈ s.map (·.1)) := by
  rw [Bool.eq_iff_iff]
  simp [has, kvOf, kIs]
theorem put_kv (s : List En) (x : Str) (v : Int × Int) : put (s.map kvOf) (.str x) (.tup [.int v.1, .int v.2]) = (pt s x v).map kvOf := by
  unfold put pt
  rw [has_kv]
  by_cases q : x ∈ s.map (·.1)
  · simp only [q, decide_true, cond, if_true, List.map_map]
    apply List.map_congr_left
    intro e _
    simp only [Function.comp, kvOf, kIs]
    by_cases z : e.1 = x
    · simp [z]
    · have : (e.1 == x) = false := by simpa using z
      simp [z, this]
  · simp only [q, decide_false, cond, if_false, List.map_append, List.map_cons, List.map_nil]
    rfl
theorem strs_kv (s : List En) : strsOf (keysVa (s.map kvOf)) = some (s.map (·.1)) := by
  induction s with
  | nil => rfl
  | cons e r ih =>
    show (strsOf (keysVa (r.map kvOf))).map (e.1 :: ·) = _
    rw [ih]; rfl
theorem mem_insS {x y : Str} {l : List Str} : x ∈ insS y l ↔ x = y ∨ x ∈ l := by
  induction l with
  | nil => simp [insS]
  | cons z r ih =>
    unfold insS
    cases ltS z y <;> simp [ih]
    constructor
    · rintro (h | h | h) <;> simp [h]
    · rintro (h | h | h) <;> simp [h]
theorem mem_sortS {x : Str} {l : List Str} : x ∈ sortS l ↔ x ∈ l := by
  induction l with
  | nil => simp [sortS]
  | cons z r ih => simp [sortS, mem_insS, ih]
theorem len_insS {y : Str} {l : List Str} : (insS y l).length = l.length + 1 := by
  induction l with
  | nil => rfl
  | cons z r ih =>
    unfold insS
    cases ltS z y <;> simp [ih]
theorem len_sortS {l : List Str} : (sortS l).length = l.length := by
  induction l with
  | nil => rfl
  | cons z r ih => simp [sortS, len_insS, ih]

structure RowOk (m : Int) (s : List En) : Prop where
  nd : (s.map (·.1)).Nodup
  ok : ∀ e ∈ s, e.1 ∈ nms ∧ 1 ≤ e.2.1 ∧ e.2.1 ≤ 9 ∧ 0 ≤ e.2.2 ∧ e.2.2 < m
  l3 : s.length ≤ 3
  l1 : 1 ≤ s.length

structure Sts (h : MH) (l : Nat) (rs : List Nat) (S : List (List En)) : Prop where
  at_ : At h l (.lst (rs.map Va.ref))
  len : rs.length = S.length
  row : ∀ (i : Nat) (r : Nat) (s : List En), rs[i]? = some r → S[i]? = some s → At h r (.dic (s.map kvOf))

structure Good (S : List (List En)) (m : Int) : Prop where
  ok : ∀ (i : Nat) (s : List En), S[i]? = some s → RowOk m s ∧ ∃ e ∈ s, e.2.2 = ((i : Int) + 1) % m

theorem Fe.ne {h f r kvs} (F : Fe h f) (x : At h r (.dic kvs)) : r ≠ f := by
  rintro rfl
  obtain ⟨a, b, A, _⟩ := F.ex
  cases A.inj x
theorem Sts.gr {h h' f l rs S} (T : Sts h l rs S) (F : Fe h f) (e : l ≠ f) (G : Gr (· = f) h h') : Sts h' l rs S :=
  ⟨G.at_ T.at_ e, T.len, fun i r s a b => G.at_ (T.row i r s a b) (F.ne (T.row i r s a b))⟩
theorem Sts.gr0 {h h' l rs S} (T : Sts h l rs S) (G : Gr nob h h') : Sts h' l rs S :=
  ⟨G.at0 T.at_, T.len, fun i r s a b => G.at0 (T.row i r s a b)⟩
theorem Fe.gr {h h' f} (F : Fe h f) (G : Gr nob h h') : Fe h' f := by
  obtain ⟨a, b, A, z⟩ := F.ex
  exact ⟨a, b, G.at0 A, z⟩
theorem Fe.lt {h f} (F : Fe h f) : f < h.n := by
  obtain ⟨a, b, A, z⟩ := F.ex
  exact A.lt
theorem Fe.put {h f} (F : Fe h f) {i o} (e : i ≠ f) : Fe (h.put i o) f := by
  obtain ⟨a, b, A, z⟩ := F.ex
  exact ⟨a, b, A.put' o (Ne.symm e), z⟩
theorem f_ixL {h : MH} {l : Nat} {xs : List Va} {v : Va} (T : At h l (.lst xs)) (i : Nat) (e : xs[i]? = some v) : fIx (.ref l) (.int i) h = .ok v h := by
  have : i < xs.length := by
    rcases Nat.lt_or_ge i xs.length with q | q
    · exact q
    · rw [List.getElem?_eq_none q] at e; cases e
  simp [fIx, listAt, T.get, atI, ixN, this]
  simpa [this] using e
theorem da_l {h : MH} {l : Nat} {xs : List Va} (T : At h l (.lst xs)) : dicAt h (.ref l) = none := by simp [dicAt, T.get]
theorem da_d {h : MH} {l : Nat} {xs : List (Va × Va)} (T : At h l (.dic xs)) : dicAt h (.ref l) = some xs := by simp [dicAt, T.get]
theorem la_l {h : MH} {l : Nat} {xs : List Va} (T : At h l (.lst xs)) : listAt h (.ref l) = some xs := by simp [listAt, T.get]
theorem la_d {h : MH} {l : Nat} {xs : List (Va × Va)} (T : At h l (.dic xs)) : listAt h (.ref l) = none := by simp [listAt, T.get]
theorem len_l {h : MH} {l : Nat} {xs : List Va} (T : At h l (.lst xs)) : fLen [.ref l] h = .ok (.int xs.length) h := by simp [fLen, listAt, T.get]
theorem len_d {h : MH} {l : Nat} {xs : List (Va × Va)} (T : At h l (.dic xs)) : fLen [.ref l] h = .ok (.int xs.length) h := by simp [fLen, listAt, T.get]

theorem rng_lt {n i : Nat} (l : i < n) (h : MH) : (IT.rng 0 n).at i h = some (some (Va.int i)) := by
  show some (cond (Nat.blt i n) (some (Va.int (0 + (i : Int)))) none) = _
  rw [show Nat.blt i n = true from Nat.blt_eq.mpr l]
  simp [cond]
theorem rng_eq (n : Nat) (h : MH) : (IT.rng 0 n).at n h = some none := by
  show some (cond (Nat.blt n n) (some (Va.int (0 + (n : Int)))) none) = _
  rw [show Nat.blt n n = false from Bool.eq_false_iff.mpr fun z => Nat.lt_irrefl n (Nat.blt_eq.mp z)]
  rfl
theorem da_t (h : MH) (xs : List Va) : dicAt h (.tup xs) = none := rfl
theorem ixT0 (h : MH) (a : Va) (xs : List Va) : fIx (.tup (a :: xs)) (.int 0) h = .ok a h := by
  simp [fIx, atI, ixN]
theorem ixT1 (h : MH) (a b : Va) (xs : List Va) : fIx (.tup (a :: b :: xs)) (.int 1) h = .ok b h := by
  have : (1 : Int) < (xs.length : Int) + 1 + 1 := by omega
  simp [fIx, atI, ixN, this]
theorem app_l {h : MH} {l : Nat} {xs : List Va} (T : At h l (.lst xs)) (v : Va) (e : xs.length < sizeLine) : fAppend (.ref l) [v] h = .ok .non (h.put l (.lst (xs ++ [v]))) := by
  simp [fAppend, T.get, e]
theorem dget {h : MH} {l : Nat} {s : List En} {x : Str} {v : Int × Int} (T : At h l (.dic (s.map kvOf))) (e : lk s x = some v) : fDGet (.ref l) (.str x) h = .ok (.tup [.int v.1, .int v.2]) h := by
  simp [fDGet, da_d T, keyOf, look_kv, e]
theorem din {h : MH} {l : Nat} {s : List En} {x : Str} (k : Bool → Bool) (T : At h l (.dic (s.map kvOf))) : fDIn k (.str x) (.ref l) h = .ok (.bl (k (lk s x).isSome)) h := by
  simp [fDIn, da_d T, keyOf, look_kv]
theorem store_d {h : MH} {l : Nat} {s : List En} {x : Str} {p j : Int} (T : At h l (.dic (s.map kvOf))) (e : s.length < sizeLine) : fStore (.tup [.int p, .int j]) (.ref l) (.str x) h = some (h.put l (.dic ((pt s x (p, j)).map kvOf))) := by
  have := put_kv s x (p, j)
  simp only [fStore, T.get, keyOf, List.length_map, e, if_true, this]
/-- a key is drawn from a row's sorted keys -/
theorem p_key {h : MH} {f r : Nat} {s : List En} {m : Int} (F : Fe h f) (T : At h r (.dic (s.map kvOf))) (O : RowOk m s) (Q : Va → MH → Prop)
    (q : ∀ e ∈ s, ∀ h', Fe h' f → Gr (· = f) h h' → Q (.str e.1) h') :
    WE (fSorted [.ref r] h) fun v h1 => WE (m_law_pick [.ref f, v] h1) Q := by
  have l : Nat.blt (s.map (·.1)).length 64 = true := by
    have := O.l3
    rw [Nat.blt_eq]; simp; omega
  have e : fSorted [.ref r] h = newO h (.lst ((sortS (s.map (·.1))).map .str)) := by
    simp only [fSorted, da_d T, strs_kv, l, cond]
  rw [e]
  show WE (m_law_pick [.ref f, .ref h.n] _) Q
  have z := O.l3
  have z1 := O.l1
  refine WE_mono (p_pick (F.gr (Gr.push _ _ _)) (At.push h _) (Ne.symm (Nat.ne_of_lt F.lt)) (by simp [len_sortS]; omega) (by simp [len_sortS]; omega)) ?_
  rintro v h1 ⟨v1, F1, G1, n1⟩
  simp only [List.mem_map, mem_sortS] at v1
  obtain ⟨x, ⟨e, m, rfl⟩, rfl⟩ := v1
  exact q e m h1 F1 ((Gr.push _ _ _).trans G1)

end Lw
end

section
namespace Lw
open PySem L2 Mn

theorem pick_perm {α : Type} {xs : List α} {n : Nat} (h : n < xs.length) : (xs[n] :: xs.eraseIdx n).Perm xs := by
  induction xs generalizing n with
  | nil => simp at h
  | cons a r ih =>
    cases n with
    | zero => exact .refl _
    | succ n =>
      have := ih (n := n) (by simpa using h)
      exact (List.Perm.swap _ _ _).trans (this.cons a)

/-- what holds at a turn of the inner loop: the names left and the row so far -/
structure Tn (h0 : MH) (f nm lf rw_ : Nat) (m : Int) (j : Nat) (h : MH) (xs : List Str) (s : List En) : Prop where
  F : Fe h f
  G : Gr (· = f) h0 h
  L : At h lf (.lst (xs.map .str))
  D : At h rw_ (.dic (s.map kvOf))
  nd : (xs ++ s.map (·.1)).Nodup
  sub : ∀ x ∈ xs, x ∈ nms
  len : xs.length + j = 3
  sl : s.length = j
  ok : ∀ e ∈ s, e.1 ∈ nms ∧ 1 ≤ e.2.1 ∧ e.2.1 ≤ 9 ∧ 0 ≤ e.2.2 ∧ e.2.2 < m
  b1 : h0.n ≤ lf
  b2 : h0.n ≤ rw_

theorem p_turn {h0 : MH} {f nm lf rw_ : Nat} {m : Int} (hm : 1 ≤ m ∧ m ≤ 4) (f0 : f < h0.n) {j : Nat} (lj : j < 3) {h : MH} {xs : List Str} {s : List En}
    (T : Tn h0 f nm lf rw_ m j h xs s) (fo : Va) (st : Option Va) (t : Option Va) (k : Option Va) :
    WS ((mSeq (mSet 8 (mBM fPopAt (mLoc 5) (mCons (mCallF 2 m_law_take (mCons (mLoc 0) (mCons (mCallB fLen (mCons (mLoc 5) (mNil))) (mNil)))) (mNil))))
  (mStore (mTup (mCons (mBin fAdd (mCon (.int 1)) (mCallF 2 m_law_take (mCons (mLoc 0) (mCons (mCallF 2 m_law_pick (mCons (mLoc 0) (mCons (mLst (mCons (mCon (.int 2)) (mCons (mCon (.int 9)) (mNil)))) (mNil)))) (mNil))))) (mCons (mCallF 2 m_law_take (mCons (mLoc 0) (mCons (mLoc 2) (mNil)))) (mNil)))) (mLoc 6) (mLoc 8)))
      [some (.ref f), some (.ref nm), some (.int m), some fo, st, some (.ref lf), some (.ref rw_), t, k] h)
      (fun σ h' => (∃ k, σ = [some (.ref f), some (.ref nm), some (.int m), some fo, st, some (.ref lf), some (.ref rw_), t, k]) ∧ ∃ xs s, Tn h0 f nm lf rw_ m (j + 1) h' xs s) (fun _ _ => False) := by
  have hl := T.len
  have c1 := len_l T.L
  simp [W_loc, W_con, W_bin, W_tb, W_tru, W_notT, W_andT, W_orT, W_not, W_and, W_if, W_nil, W_cons, W_tup, W_lst, W_d0, W_callB, W_callF, W_ret, W_expr, W_skip, W_set, W_ifS, W_par, W_asgG, W_gName, W_gNil, W_gCons, W_gTup, W_store, W_bM, W_bM0, W_fld, W_isi, W_chain, W_ii, W_ic, W_addI, W_mulI, W_int, W_abs, W_max2, W_min2, WE_ok, WS_seq, fSub2, startM, List.replicate, fMod, fFdiv, la_l T.L, c1]
  refine WE_mono (p_take T.F (by omega) (by omega)) ?_
  rintro v h1 ⟨d, rfl, d0, d1, F1, G1, n1⟩
  have lf' : lf ≠ f := by have := T.b1; omega
  have rf' : rw_ ≠ f := by have := T.b2; omega
  have L1 := G1.at_ T.L lf'
  have D1 := G1.at_ T.D rf'
  obtain ⟨n, rfl⟩ := Int.eq_ofNat_of_zero_le d0
  have hn : n < xs.length := by omega
  have g1 : -9223372036854775808 ≤ (n : Int) ∧ (n : Int) < 9223372036854775808 := by omega
  have g2 : seqIndex? (n : Int) (xs.map Va.str).length = some n := by
    simp [seqIndex?]; omega
  have e1 : fPopAt (.ref lf) [.int n] h1 = .ok (.str xs[n]) (h1.put lf (.lst ((xs.eraseIdx n).map .str))) := by
    simp only [fPopAt, L1.get, g2]
    simp [g1, hn]
    rw [List.eraseIdx_eq_take_drop_succ, List.eraseIdx_eq_take_drop_succ, List.map_append, List.map_take, List.map_drop]
  have e2 : (n : Int) = ((n : Nat) : Int) := rfl
  show WE (fPopAt (.ref lf) [.int n] h1) _
  rw [e1, WE_ok]
  refine ⟨by simp [sizeLine], ?_⟩
  have F2 : Fe (h1.put lf (.lst ((xs.eraseIdx n).map .str))) f := F1.put lf'
  have L2 : At (h1.put lf (.lst ((xs.eraseIdx n).map .str))) lf (.lst ((xs.eraseIdx n).map .str)) := At.put L1.lt _
  have ne : rw_ ≠ lf := by
    rintro rfl
    cases T.L.inj T.D
  have D2 := D1.put' (.lst ((xs.eraseIdx n).map .str)) ne
  have G2 : Gr (· = f) h0 (h1.put lf (.lst ((xs.eraseIdx n).map .str))) := (T.G.trans G1).putN _ _ T.b1
  generalize h1.put lf (.lst ((xs.eraseIdx n).map .str)) = h2 at F2 L2 D2 G2
  refine WE_mono (p_pick (F2.gr (Gr.push _ _ _)) (At.push h2 _) (Ne.symm (Nat.ne_of_lt F2.lt)) (by simp) (by simp)) ?_
  rintro v h3 ⟨v1, F3, G3, n3⟩
  have G3' : Gr (· = f) h2 h3 := (Gr.push _ _ _).trans G3
  have q : ∃ z : Int, v = .int z ∧ 0 < z ∧ z ≤ 9 := by
    simp at v1
    rcases v1 with rfl | rfl
    · exact ⟨2, rfl, by omega, by omega⟩
    · exact ⟨9, rfl, by omega, by omega⟩
  obtain ⟨z, rfl, z0, z1⟩ := q
  refine WE_mono (p_take F3 z0 (by omega)) ?_
  rintro v h4 ⟨d, rfl, d0', d1', F4, G4, n4⟩
  simp [W_loc, W_con, W_bin, W_tb, W_tru, W_notT, W_andT, W_orT, W_not, W_and, W_if, W_nil, W_cons, W_tup, W_lst, W_d0, W_callB, W_callF, W_ret, W_expr, W_skip, W_set, W_ifS, W_par, W_asgG, W_gName, W_gNil, W_gCons, W_gTup, W_store, W_bM, W_bM0, W_fld, W_isi, W_chain, W_ii, W_ic, W_addI, W_mulI, W_int, W_abs, W_max2, W_min2, WE_ok, WS_seq, fSub2, startM, List.replicate, fMod, fFdiv]
  refine WE_mono (p_take F4 (by omega) (by omega)) ?_
  rintro v h5 ⟨d2, rfl, d20, d21, F5, G5, n5⟩
  have G6 := (G3'.trans G4).trans G5
  have D5 := G6.at_ D2 rf'
  have L5 := G6.at_ L2 lf'
  have GG := G2.trans G6
  refine ⟨by simp [sizeLine], ?_⟩
  have e3 := put_kv s xs[n] (1 + d, d2)
  have nin : xs[n] ∉ s.map (·.1) := by
    intro z
    have := (List.nodup_append.mp T.nd).2.2
    exact this _ (List.getElem_mem hn) _ z rfl
  have sl := T.sl
  have e4 : s.length < sizeLine := by simp [sizeLine]; omega
  simp only [fStore, D5.get, keyOf, List.length_map, e4, if_true]
  refine ⟨_, rfl, ?_⟩
  refine ⟨xs.eraseIdx n, s ++ [(xs[n], 1 + d, d2)], ?_⟩
  have e5 : pt s xs[n] (1 + d, d2) = s ++ [(xs[n], 1 + d, d2)] := by unfold pt; rw [if_neg nin]
  rw [e5] at e3
  rw [e3]
  have pm : (xs.eraseIdx n ++ (s ++ [(xs[n], 1 + d, d2)]).map (·.1)).Perm (xs ++ s.map (·.1)) := by
    have p1 : (xs[n] :: xs.eraseIdx n).Perm xs := pick_perm hn
    simp only [List.map_append, List.map_cons, List.map_nil, ← List.append_assoc]
    refine (List.perm_append_comm).trans ?_
    exact (p1.append_right (s.map (·.1)))
  exact ⟨F5.put rf', GG.putN _ _ T.b2, L5.put' _ (Ne.symm ne), At.put D5.lt _, pm.nodup_iff.mpr T.nd,
    fun x hx => T.sub x (List.mem_of_mem_eraseIdx hx), by rw [List.length_eraseIdx_of_lt hn]; omega, by simp [sl], by
      intro e he
      rcases List.mem_append.mp he with he | he
      · exact T.ok e he
      · simp at he
        subst he
        exact ⟨T.sub _ (List.getElem_mem hn), by simp; omega, by simp; omega, d20, d21⟩, T.b1, T.b2⟩
theorem lk_mem {s : List En} {e : En} (nd : (s.map (·.1)).Nodup) (m : e ∈ s) : lk s e.1 = some e.2 := by
  induction s with
  | nil => cases m
  | cons a r ih =>
    simp only [List.map_cons, List.nodup_cons] at nd
    unfold lk
    rcases List.mem_cons.mp m with rfl | m
    · simp
    · have : a.1 ≠ e.1 := fun z => nd.1 (z ▸ List.mem_map_of_mem m)
      rw [if_neg this]
      exact ih nd.2 m
theorem mem_lk {s : List En} {x : Str} {v : Int × Int} (m : lk s x = some v) : (x, v) ∈ s := by
  induction s with
  | nil => cases m
  | cons a r ih =>
    unfold lk at m
    by_cases z : a.1 = x
    · rw [if_pos z] at m
      subst z
      cases m
      exact List.mem_cons_self
    · rw [if_neg z] at m
      exact List.mem_cons_of_mem _ (ih m)

theorem pt_keys {s : List En} {x : Str} {v : Int × Int} (m : x ∈ s.map (·.1)) : (pt s x v).map (·.1) = s.map (·.1) := by
  unfold pt
  rw [if_pos m, List.map_map]
  apply List.map_congr_left
  intro e _
  simp only [Function.comp]
  split <;> rfl
theorem RowOk.pt {m : Int} {s : List En} {e : En} {j : Int} (O : RowOk m s) (em : e ∈ s) (j0 : 0 ≤ j) (j1 : j < m) : RowOk m (pt s e.1 (e.2.1, j)) ∧ ∃ u ∈ Lw.pt s e.1 (e.2.1, j), u.2.2 = j := by
  have k : e.1 ∈ s.map (·.1) := List.mem_map_of_mem em
  have kk := pt_keys (v := (e.2.1, j)) k
  have l : (Lw.pt s e.1 (e.2.1, j)).length = s.length := by
    have := congrArg List.length kk
    simpa using this
  refine ⟨⟨by rw [kk]; exact O.nd, ?_, by rw [l]; exact O.l3, by rw [l]; exact O.l1⟩, (e.1, (e.2.1, j)), ?_, rfl⟩
  · intro u mu
    unfold Lw.pt at mu
    rw [if_pos k] at mu
    obtain ⟨w, mw, rfl⟩ := List.mem_map.mp mu
    have ow := O.ok w mw
    have oe := O.ok e em
    split
    · exact ⟨ow.1, oe.2.1, oe.2.2.1, j0, j1⟩
    · exact ow
  · unfold Lw.pt
    rw [if_pos k]
    exact List.mem_map.mpr ⟨e, em, by simp⟩

/-- what the drawing of the states gives -/
structure Src (h0 : MH) (f : Nat) (v : Va) (h : MH) : Prop where
  ex : ∃ l rs S m, v = .ref l ∧ Sts h l rs S ∧ Good S m ∧ m = (S.length : Int) ∧ 1 ≤ m ∧ m ≤ 4 ∧ h0.n ≤ l
  F : Fe h f
  G : Gr (· = f) h0 h

structure Ou (h0 : MH) (f : Nat) (m : Int) (fo i : Nat) (h : MH) (rs : List Nat) (S : List (List En)) : Prop where
  T : Sts h fo rs S
  g : Good S m
  len : S.length = i
  b : h0.n ≤ fo
  F : Fe h f
  G : Gr (· = f) h0 h

theorem p_source {h : MH} {f nm : Nat} (F : Fe h f) (T : At h nm (.lst (nms.map .str))) (e : nm ≠ f) : WE (m_law_source [.ref f, .ref nm] h) (Src h f) := by
  refine WE_fn _ _ _ _ _ _ rfl ?_
  unfold b_law_source
  simp [W_loc, W_con, W_bin, W_tb, W_tru, W_notT, W_andT, W_orT, W_not, W_and, W_if, W_nil, W_cons, W_tup, W_lst, W_d0, W_callB, W_callF, W_ret, W_expr, W_skip, W_set, W_ifS, W_par, W_asgG, W_gName, W_gNil, W_gCons, W_gTup, W_store, W_bM, W_bM0, W_fld, W_isi, W_chain, W_ii, W_ic, W_addI, W_mulI, W_int, W_abs, W_max2, W_min2, WE_ok, WS_seq, fSub2, startM, List.replicate, fMod, fFdiv, WS_for, W_rng1]
  refine WE_mono (p_take F (by omega) (by omega)) ?_
  rintro v h1 ⟨d, rfl, d0, d1, F1, G1, n1⟩
  simp [W_loc, W_con, W_bin, W_tb, W_tru, W_notT, W_andT, W_orT, W_not, W_and, W_if, W_nil, W_cons, W_tup, W_lst, W_d0, W_callB, W_callF, W_ret, W_expr, W_skip, W_set, W_ifS, W_par, W_asgG, W_gName, W_gNil, W_gCons, W_gTup, W_store, W_bM, W_bM0, W_fld, W_isi, W_chain, W_ii, W_ic, W_addI, W_mulI, W_int, W_abs, W_max2, W_min2, WE_ok, WS_seq, fSub2, startM, List.replicate, fMod, fFdiv]
  refine ⟨by simp [l62]; omega, ?_⟩
  have f0 := F.lt
  have hb : (1 + d).toNat ≤ 4 := by omega
  refine loop_inv (fun i σ h' => ∃ a b c e k rs S, σ = [some (.ref f), some (.ref nm), some (.int (1 + d)), some (.ref h1.n), a, b, c, e, k] ∧ Ou h f (1 + d) h1.n i h' rs S) (1 + d).toNat ?st ?en big 0 _ _ (by simp [big]; omega) (Nat.zero_le _) ?z
  case z =>
    refine ⟨_, _, _, _, _, [], [], rfl, ⟨At.push _ _, rfl, ?_⟩, ⟨?_⟩, rfl, by omega, F1.gr (Gr.push _ _ _), G1.trans (Gr.push _ _ _)⟩
    · intro i r s a; simp at a
    · intro i s a; simp at a
  case en =>
    rintro σ h' ⟨a, b, c, e', k, rs, S, rfl, O⟩
    refine ⟨rng_eq _ _, ?_⟩
    simp
    exact ⟨⟨_, rs, S, 1 + d, rfl, O.T, O.g, by rw [O.len]; omega, by omega, by omega, O.b⟩, O.F, O.G⟩
  case st =>
    rintro i σ h' li ⟨a, b, c, e', k, rs, S, rfl, O⟩
    refine ⟨.int i, rng_lt li _, ?_⟩
    have T' := O.G.at_ T e
    simp [W_loc, W_con, W_bin, W_tb, W_tru, W_notT, W_andT, W_orT, W_not, W_and, W_if, W_nil, W_cons, W_tup, W_lst, W_d0, W_callB, W_callF, W_ret, W_expr, W_skip, W_set, W_ifS, W_par, W_asgG, W_gName, W_gNil, W_gCons, W_gTup, W_store, W_bM, W_bM0, W_fld, W_isi, W_chain, W_ii, W_ic, W_addI, W_mulI, W_int, W_abs, W_max2, W_min2, WE_ok, WS_seq, fSub2, startM, List.replicate, fMod, fFdiv, WS_for, W_rng1, fList, la_l T', da_l T', newO]
    have T2 := (T'.push' (.lst (nms.map .str))).push' (.dic [])
    have c1 := len_l T2
    simp [W_loc, W_con, W_bin, W_tb, W_tru, W_notT, W_andT, W_orT, W_not, W_and, W_if, W_nil, W_cons, W_tup, W_lst, W_d0, W_callB, W_callF, W_ret, W_expr, W_skip, W_set, W_ifS, W_par, W_asgG, W_gName, W_gNil, W_gCons, W_gTup, W_store, W_bM, W_bM0, W_fld, W_isi, W_chain, W_ii, W_ic, W_addI, W_mulI, W_int, W_abs, W_max2, W_min2, WE_ok, WS_seq, fSub2, startM, List.replicate, fMod, fFdiv, c1]
    refine WE_mono (p_take ((O.F.gr (Gr.push _ _ _)).gr (Gr.push _ _ _)) (by simp [nms]) (by simp [nms])) ?_
    rintro v h3 ⟨t, rfl, t0, t1, F3, G3, n3⟩
    simp [W_loc, W_con, W_bin, W_tb, W_tru, W_notT, W_andT, W_orT, W_not, W_and, W_if, W_nil, W_cons, W_tup, W_lst, W_d0, W_callB, W_callF, W_ret, W_expr, W_skip, W_set, W_ifS, W_par, W_asgG, W_gName, W_gNil, W_gCons, W_gTup, W_store, W_bM, W_bM0, W_fld, W_isi, W_chain, W_ii, W_ic, W_addI, W_mulI, W_int, W_abs, W_max2, W_min2, WE_ok, WS_seq, fSub2, startM, List.replicate, fMod, fFdiv]
    refine ⟨by simp [l62]; simp [nms] at t1; omega, ?_⟩
    have G3' : Gr (· = f) h' h3 := ((Gr.push _ _ _).trans (Gr.push _ _ _)).trans G3
    have fl : f < h'.n := O.F.lt
    have A1 : At h3 h'.n (.lst (nms.map .str)) := G3.at_ ((At.push _ _).push' _) (by omega)
    have A2 : At h3 (h'.n + 1) (.dic []) := G3.at_ (At.push (h'.push (.lst (nms.map .str))) (.dic [])) (by omega)
    have tn : (1 + t).toNat ≤ 3 := by simp [nms] at t1; omega
    refine loop_inv (fun j σ h2 => ∃ t' k', σ = [some (.ref f), some (.ref nm), some (.int (1 + d)), some (.ref h1.n), some (.int i), some (.ref h'.n), some (.ref (h'.n + 1)), t', k'] ∧ ∃ xs s, Tn h' f nm h'.n (h'.n + 1) (1 + d) j h2 xs s) (1 + t).toNat ?st2 ?en2 big 0 _ _ (by simp [big]; omega) (Nat.zero_le _) ?z2
    case z2 => exact ⟨_, _, rfl, nms, [], F3, G3', A1, A2, by decide, fun _ => id, rfl, rfl, (by simp), by omega, by omega⟩
    case st2 =>
      rintro j σ h4 lj ⟨t', k', rfl, xs, s, T⟩
      refine ⟨.int j, rng_lt lj _, ?_⟩
      rw [W_gName]
      refine WS_mono (p_turn (by omega) fl (by omega) T _ _ _ _) ?_ (fun _ _ => False.elim)
      rintro σ' h5 ⟨⟨k2, rfl⟩, T2⟩
      exact ⟨_, _, rfl, T2⟩
    case en2 =>
      rintro σ h4 ⟨t', k', rfl, xs, s, T⟩
      refine ⟨rng_eq _ _, ?_⟩
      have O' : RowOk (1 + d) s := ⟨(List.nodup_append.mp T.nd).2.1, T.ok, by rw [T.sl]; exact tn, by rw [T.sl]; omega⟩
      have rf : h'.n + 1 ≠ f := by omega
      simp [W_loc, W_con, W_bin, W_tb, W_tru, W_notT, W_andT, W_orT, W_not, W_and, W_if, W_nil, W_cons, W_tup, W_lst, W_d0, W_callB, W_callF, W_ret, W_expr, W_skip, W_set, W_ifS, W_par, W_asgG, W_gName, W_gNil, W_gCons, W_gTup, W_store, W_bM, W_bM0, W_fld, W_isi, W_chain, W_ii, W_ic, W_addI, W_mulI, W_int, W_abs, W_max2, W_min2, WE_ok, WS_seq, fSub2, startM, List.replicate, fMod, fFdiv]
      refine p_key T.F T.D O' _ ?_
      intro e1 em h5 F5 G5
      have D5 := G5.at_ T.D rf
      have ek := lk_mem O'.nd em
      have e4 : s.length < sizeLine := by have := O'.l3; simp [sizeLine]; omega
      have c5 := dget D5 ek
      simp [W_loc, W_con, W_bin, W_tb, W_tru, W_notT, W_andT, W_orT, W_not, W_and, W_if, W_nil, W_cons, W_tup, W_lst, W_d0, W_callB, W_callF, W_ret, W_expr, W_skip, W_set, W_ifS, W_par, W_asgG, W_gName, W_gNil, W_gCons, W_gTup, W_store, W_bM, W_bM0, W_fld, W_isi, W_chain, W_ii, W_ic, W_addI, W_mulI, W_int, W_abs, W_max2, W_min2, WE_ok, WS_seq, fSub2, startM, List.replicate, fMod, fFdiv, da_d D5, c5, da_t, ixT0, store_d D5 e4]
      refine ⟨by omega, by simp [sizeLine], ?_⟩
      have GG : Gr (· = f) h' h5 := T.G.trans G5
      have lf : h1.n ≠ f := by have := O.b; omega
      have lr : h1.n ≠ h'.n + 1 := by have := O.T.at_.lt; omega
      have L5 := (GG.at_ O.T.at_ lf).put' (.dic ((pt s e1.1 (e1.2.1, ((i : Int) + 1) % (1 + d))).map kvOf)) lr
      have D6 := At.put D5.lt (.dic ((pt s e1.1 (e1.2.1, ((i : Int) + 1) % (1 + d))).map kvOf))
      have F6 := F5.put (i := h'.n + 1) (o := .dic ((pt s e1.1 (e1.2.1, ((i : Int) + 1) % (1 + d))).map kvOf)) rf
      have G6 := GG.putN (h'.n + 1) (.dic ((pt s e1.1 (e1.2.1, ((i : Int) + 1) % (1 + d))).map kvOf)) (by omega)
      generalize hp : pt s e1.1 (e1.2.1, ((i : Int) + 1) % (1 + d)) = s' at L5 D6 F6 G6
      rw [app_l L5 _ (by simp [O.T.len, O.len, sizeLine]; omega)]
      refine ⟨⟨_, la_l L5⟩, ?_⟩
      rw [WE_ok]
      have m0 := Int.emod_nonneg ((i : Int) + 1) (b := 1 + d) (by omega)
      have m1 := Int.emod_lt_of_pos ((i : Int) + 1) (b := 1 + d) (by omega)
      have P := O'.pt em m0 m1
      rw [hp] at P
      refine ⟨rs ++ [h'.n + 1], S ++ [s'], ⟨?_, by simp [O.T.len], ?_⟩, ⟨?_⟩, by simp [O.len], O.b, F6.put lf, (O.G.trans G6).putN _ _ O.b⟩
      · simp
        exact At.put L5.lt _
      · intro k r sk a b
        by_cases z : k < rs.length
        · rw [List.getElem?_append_left z] at a
          rw [List.getElem?_append_left (O.T.len ▸ z)] at b
          have X := O.T.row k r sk a b
          refine (G6.at_ X (O.F.ne X)).put' _ ?_
          rintro rfl
          cases X.inj O.T.at_
        · rw [List.getElem?_append_right (by omega)] at a
          rw [List.getElem?_append_right (by have := O.T.len; omega)] at b
          rw [← O.T.len] at b
          have : k - rs.length = 0 := by
            rcases Nat.eq_zero_or_pos (k - rs.length) with z | z
            · exact z
            · rw [List.getElem?_eq_none (by simp; omega)] at a; cases a
          rw [this] at a b
          simp at a b
          subst a b
          exact D6.put' _ (Ne.symm lr)
      · intro k sk b
        by_cases z : k < S.length
        · rw [List.getElem?_append_left z] at b
          exact O.g.ok k sk b
        · rw [List.getElem?_append_right (by omega)] at b
          have : k - S.length = 0 := by
            rcases Nat.eq_zero_or_pos (k - S.length) with z | z
            · exact z
            · rw [List.getElem?_eq_none (by simp; omega)] at b; cases b
          rw [this] at b
          simp at b
          subst b
          have : k = i := by have := O.len; omega
          rw [this]
          exact P
end Lw
end

section
namespace Lw
open PySem L2 Mn

/-! ### comparisons -/
theorem ne_i (h : MH) (i j : Int) : fNeA (.int i) (.int j) h = .ok (.bl (!(i == j))) h := rfl
theorem eq_i (h : MH) (i j : Int) : fEqA (.int i) (.int j) h = .ok (.bl (i == j)) h := rfl
theorem ne_t (h : MH) (a b c d : Int) : fNeA (.tup [.int a, .int b]) (.tup [.int c, .int d]) h = .ok (.bl (!((a == c) && ((b == d) && true)))) h := rfl
theorem td_s (h : MH) (x : Str) : toD deep h (.str x) = some (.str x) := rfl
theorem ne_s {h : MH} {x : Str} (o : PyData.strOk x = true) : fNeA (.str x) (.str x) h = .ok (.bl false) h := by
  have : SeqAt.shaped (.str x) = true := by
    unfold SeqAt.shaped
    simp [PyData.canLay0, PyData.depth, o]
  simp [fNeA, fEqD, td_s, PyData.eqv, this]
theorem allD_int (h : MH) (is : List Int) : allD (toD 39 h) (is.map Va.int) = some (is.map PyData.int) := by
  induction is with
  | nil => rfl
  | cons a r ih =>
    simp only [List.map_cons, allD, ih]
    rfl
theorem td_l {h : MH} {l : Nat} {xs : List Va} (T : At h l (.lst xs)) : toD deep h (.ref l) = (allD (toD 39 h) xs).map PyData.list := by
  show (match h.get l with
    | some (.lst xs) => _
    | _ => none) = _
  rw [T.get]
theorem can_ints (is : List Int) : PyData.canLayAll0 (is.map PyData.int) = true := by
  induction is with
  | nil => rfl
  | cons a r ih => simp [PyData.canLayAll0, PyData.canLay0, ih]
theorem dep_ints (is : List Int) : PyData.depthAll (is.map PyData.int) = 0 := by
  induction is with
  | nil => rfl
  | cons a r ih => simp [PyData.depthAll, PyData.depth, ih]
theorem lst_eqD {h : MH} {l k : Nat} {is : List Int} (T : At h l (.lst (is.map Va.int))) (U : At h k (.lst [])) (q : Bool → Bool) : fEqD q (.ref l) (.ref k) h = .ok (.bl (q is.isEmpty)) h := by
  unfold fEqD
  rw [td_l T, td_l U, allD_int]
  show cond (SeqAt.shaped (.list (is.map .int)) && SeqAt.shaped (.list [])) (Res.ok (Va.bl (q (PyData.eqv (.list (is.map .int)) (.list [])))) h) Res.no = _
  have a : SeqAt.shaped (.list (is.map .int)) = true := by simp [SeqAt.shaped, PyData.canLay0, PyData.depth, can_ints, dep_ints]
  rw [a]
  cases is <;> rfl
theorem ne_l {h : MH} {l k : Nat} {is : List Int} (T : At h l (.lst (is.map Va.int))) (U : At h k (.lst [])) : fNeA (.ref l) (.ref k) h = .ok (.bl (!is.isEmpty)) h := by
  rw [← lst_eqD T U not]
  unfold fNeA
  rw [td_l T, td_l U, allD_int]
  rfl
theorem eq_l {h : MH} {l k : Nat} {is : List Int} (T : At h l (.lst (is.map Va.int))) (U : At h k (.lst [])) : fEqA (.ref l) (.ref k) h = .ok (.bl is.isEmpty) h := by
  have z := lst_eqD T U id
  simp only [id] at z
  rw [← z]
  unfold fEqA
  rw [td_l T, td_l U, allD_int]
  rfl

/-! ### the tests of a source -/
theorem p_integer {h : MH} {v a b : Int} (e : a ≤ v ∧ v ≤ b) : WE (m_is_integer [.int v, .int a, .int b] h) fun r h' => r = .bl true ∧ h' = h := by
  refine WE_fn _ _ _ _ _ _ rfl ?_
  unfold b_is_integer
  simp [W_loc, W_con, W_bin, W_tb, W_tru, W_notT, W_andT, W_orT, W_not, W_and, W_if, W_nil, W_cons, W_tup, W_lst, W_d0, W_callB, W_callF, W_ret, W_expr, W_skip, W_set, W_ifS, W_par, W_asgG, W_gName, W_gNil, W_gCons, W_gTup, W_store, W_bM, W_bM0, W_fld, W_isi, W_chain, W_ii, W_ic, W_addI, W_mulI, W_int, W_abs, W_max2, W_min2, WE_ok, WS_seq, fSub2, startM, List.replicate, fMod, fFdiv, tyName, truth, fLe, kitName, e.1, e.2]

theorem letters_ok : ∀ x ∈ nms, ∀ c ∈ x.cps.toList, (!(Builtin.Str.occurrences "abcdefghijklmnopqrstuvwxyz" ⟨#[c]⟩ 0 (Str.length "abcdefghijklmnopqrstuvwxyz") 1).isEmpty) = true := by decide +kernel
theorem lens_ok : ∀ x ∈ nms, 1 ≤ x.length ∧ x.length ≤ 8 ∧ x.cps.toList.length ≤ 8 := by decide

theorem blsOf_map (bs : List Bool) : blsOf (bs.map Va.bl) = some bs := by
  induction bs with
  | nil => rfl
  | cons b r ih => simp [blsOf, ih]
theorem p_name {h : MH} {x : Str} (m : x ∈ nms) : WE (m_is_name [.str x] h) fun r h' => r = .bl true ∧ Gr nob h h' := by
  have l := lens_ok x m
  refine WE_fn _ _ _ _ _ _ rfl ?_
  unfold b_is_name
  have l1 : (1 : Int) ≤ x.length := by omega
  have l2 : (x.length : Int) ≤ 8 := by omega
  have l3 : x.length ≤ sizeLine := by simp [sizeLine]; omega
  simp [W_loc, W_con, W_bin, W_tb, W_tru, W_notT, W_andT, W_orT, W_not, W_and, W_if, W_nil, W_cons, W_tup, W_lst, W_d0, W_callB, W_callF, W_ret, W_expr, W_skip, W_set, W_ifS, W_par, W_asgG, W_gName, W_gNil, W_gCons, W_gTup, W_store, W_bM, W_bM0, W_fld, W_isi, W_chain, W_ii, W_ic, W_addI, W_mulI, W_int, W_abs, W_max2, W_min2, WE_ok, WS_seq, fSub2, startM, List.replicate, fMod, fFdiv, tyName, truth, kitName, fLe, fLen, l1, l2, l3, WE_lc, W_iter, wkOf]
  refine comp_inv (fun i acc h' => At h' h.n (.lst acc) ∧ Gr nob h h' ∧ acc.length = i ∧ ∃ bs : List Bool, acc = bs.map Va.bl ∧ bs.all id = true) x.cps.toList.length (fun _ _ _ z => z.1) ?st ?en big 0 [] _ (by show _ < 1000000 + 0; omega) (Nat.zero_le _) ⟨At.push _ _, Gr.push _ _ _, rfl, [], rfl, rfl⟩
  case en =>
    rintro acc h' ⟨A, G, _, bs, rfl, ab⟩
    refine ⟨by simp [IT.at], ?_⟩
    simp [W_loc, W_con, W_bin, W_tb, W_tru, W_notT, W_andT, W_orT, W_not, W_and, W_if, W_nil, W_cons, W_tup, W_lst, W_d0, W_callB, W_callF, W_ret, W_expr, W_skip, W_set, W_ifS, W_par, W_asgG, W_gName, W_gNil, W_gCons, W_gTup, W_store, W_bM, W_bM0, W_fld, W_isi, W_chain, W_ii, W_ic, W_addI, W_mulI, W_int, W_abs, W_max2, W_min2, WE_ok, WS_seq, fSub2, startM, List.replicate, fMod, fFdiv, fBls, la_l A, blsOf_map]
    exact ⟨by simpa using ab, G⟩
  case st =>
    rintro i acc h' li ⟨A, G, la, bs, rfl, ab⟩
    have e := List.getElem?_eq_getElem li
    refine ⟨.str ⟨#[x.cps.toList[i]]⟩, by simp [IT.at], ?_⟩
    have c := letters_ok x m _ (List.getElem_mem li)
    simp [W_loc, W_con, W_bin, W_tb, W_tru, W_notT, W_andT, W_orT, W_not, W_and, W_if, W_nil, W_cons, W_tup, W_lst, W_d0, W_callB, W_callF, W_ret, W_expr, W_skip, W_set, W_ifS, W_par, W_asgG, W_gName, W_gNil, W_gCons, W_gTup, W_store, W_bM, W_bM0, W_fld, W_isi, W_chain, W_ii, W_ic, W_addI, W_mulI, W_int, W_abs, W_max2, W_min2, WE_ok, WS_seq, fSub2, startM, List.replicate, fMod, fFdiv, wipeM, mYes, fIn]
    refine ⟨A, by simp [sizeLine] at la ⊢; omega, At.put A.lt _, G.putN _ _ (Nat.le_refl _), by simpa using la, bs ++ [true], ?_, ?_⟩
    · simp
      simpa using c
    · simpa using ab
theorem Gr.unlock {h h' : MH} {r : Nat} {ks : List (Va × Va)} (T : At h r (.dic ks)) (G : Gr nob (h.put r (.lck ks)) h') : Gr nob h (h'.put r (.dic ks)) := ⟨G.n, G.s, fun i l _ => by
  rw [MH.get_put]
  split
  · next e => subst e; exact T.get.symm
  · next e =>
    rw [G.k i l id, MH.get_put, if_neg e]⟩

theorem p_state {h : MH} {r : Nat} {s : List En} {m : Int} (T : At h r (.dic (s.map kvOf))) (O : RowOk m s) (hm : 1 ≤ m) : WE (m_is_source_state [.ref r, .int m] h) fun v h' => v = .bl true ∧ Gr nob h h' := by
  refine WE_fn _ _ _ _ _ _ rfl ?_
  unfold b_is_source_state
  have c1 := len_d T
  have z1 : (1 : Int) ≤ s.length := by have := O.l1; omega
  have z2 : (s.length : Int) ≤ 4 := by have := O.l3; omega
  simp [W_loc, W_con, W_bin, W_tb, W_tru, W_notT, W_andT, W_orT, W_not, W_and, W_if, W_nil, W_cons, W_tup, W_lst, W_d0, W_callB, W_callF, W_ret, W_expr, W_skip, W_set, W_ifS, W_par, W_asgG, W_gName, W_gNil, W_gCons, W_gTup, W_store, W_bM, W_bM0, W_fld, W_isi, W_chain, W_ii, W_ic, W_addI, W_mulI, W_int, W_abs, W_max2, W_min2, WE_ok, WS_seq, fSub2, startM, List.replicate, fMod, fFdiv, tyName, truth, kitName, fLe, T.get, c1, z1, z2, WS_for, W_walkD, wkDic]
  refine loop_inv (fun i σ h' => (∃ a b, σ = [some (.ref r), some (.int m), a, b]) ∧ Gr nob (h.put r (.lck (s.map kvOf))) h') s.length ?st ?en big 0 _ _ (by have := O.l3; show _ < 1000000 + 0; omega) (Nat.zero_le _) ⟨⟨_, _, rfl⟩, Gr.refl _ _⟩
  case en =>
    rintro σ h' ⟨⟨a, b, rfl⟩, G⟩
    refine ⟨by simp [IT.at], ?_⟩
    have A := G.at0 (At.put T.lt (.lck (s.map kvOf)))
    refine ⟨_, A.get, ?_⟩
    exact Gr.unlock T G
  case st =>
    rintro i σ h' li ⟨⟨a, b, rfl⟩, G⟩
    refine ⟨.tup [.str s[i].1, .tup [.int s[i].2.1, .int s[i].2.2]], by simp [IT.at, li, kvOf], ?_⟩
    have o := O.ok _ (List.getElem_mem li)
    simp [W_loc, W_con, W_bin, W_tb, W_tru, W_notT, W_andT, W_orT, W_not, W_and, W_if, W_nil, W_cons, W_tup, W_lst, W_d0, W_callB, W_callF, W_ret, W_expr, W_skip, W_set, W_ifS, W_par, W_asgG, W_gName, W_gNil, W_gCons, W_gTup, W_store, W_bM, W_bM0, W_fld, W_isi, W_chain, W_ii, W_ic, W_addI, W_mulI, W_int, W_abs, W_max2, W_min2, WE_ok, WS_seq, fSub2, startM, List.replicate, fMod, fFdiv]
    refine WE_mono (p_name o.1) ?_
    rintro v h2 ⟨rfl, G2⟩
    simp [W_loc, W_con, W_bin, W_tb, W_tru, W_notT, W_andT, W_orT, W_not, W_and, W_if, W_nil, W_cons, W_tup, W_lst, W_d0, W_callB, W_callF, W_ret, W_expr, W_skip, W_set, W_ifS, W_par, W_asgG, W_gName, W_gNil, W_gCons, W_gTup, W_store, W_bM, W_bM0, W_fld, W_isi, W_chain, W_ii, W_ic, W_addI, W_mulI, W_int, W_abs, W_max2, W_min2, WE_ok, WS_seq, fSub2, startM, List.replicate, fMod, fFdiv, truth, tyName, kitName, fLen, ne_i, da_t, ixT0, ixT1]
    refine WE_mono (p_integer ⟨o.2.1, o.2.2.1⟩) ?_
    rintro v h3 ⟨rfl, rfl⟩
    simp [W_loc, W_con, W_bin, W_tb, W_tru, W_notT, W_andT, W_orT, W_not, W_and, W_if, W_nil, W_cons, W_tup, W_lst, W_d0, W_callB, W_callF, W_ret, W_expr, W_skip, W_set, W_ifS, W_par, W_asgG, W_gName, W_gNil, W_gCons, W_gTup, W_store, W_bM, W_bM0, W_fld, W_isi, W_chain, W_ii, W_ic, W_addI, W_mulI, W_int, W_abs, W_max2, W_min2, WE_ok, WS_seq, fSub2, startM, List.replicate, fMod, fFdiv, truth, da_t, ixT1, fSub]
    refine WE_mono (p_integer ⟨o.2.2.2.1, by omega⟩) ?_
    rintro v h3 ⟨rfl, rfl⟩
    simp [W_loc, W_con, W_bin, W_tb, W_tru, W_notT, W_andT, W_orT, W_not, W_and, W_if, W_nil, W_cons, W_tup, W_lst, W_d0, W_callB, W_callF, W_ret, W_expr, W_skip, W_set, W_ifS, W_par, W_asgG, W_gName, W_gNil, W_gCons, W_gTup, W_store, W_bM, W_bM0, W_fld, W_isi, W_chain, W_ii, W_ic, W_addI, W_mulI, W_int, W_abs, W_max2, W_min2, WE_ok, WS_seq, fSub2, startM, List.replicate, fMod, fFdiv, truth]
    exact G.trans G2
end Lw
end

section
namespace Lw
open PySem L2 Mn

/-! ### what is reached -/
def trues (ks : List Int) : List (Va × Va) := ks.map fun i => (Va.int i, Va.bl true)

theorem trues_len (ks : List Int) : (trues ks).length = ks.length := by simp [trues]
theorem look_tr (ks : List Int) (i : Int) : look (trues ks) (.int i) = if i ∈ ks then some (.bl true) else none := by
  induction ks with
  | nil => rfl
  | cons a r ih =>
    unfold trues at ih ⊢
    simp only [List.map_cons, look, kIs, List.mem_cons]
    by_cases e : a = i
    · simp [e]
    · have : (a == i) = false := by simpa using e
      simp only [this, cond]
      rw [ih]
      simp [Ne.symm e]
theorem put_tr (ks : List Int) (i : Int) (n : i ∉ ks) : put (trues ks) (.int i) (.bl true) = trues (ks ++ [i]) := by
  have : has (trues ks) (.int i) = false := by
    rw [Bool.eq_false_iff]
    intro z
    simp [trues, has, kIs] at z
    exact n z
  unfold put
  rw [this]
  simp [trues]

/-- the found, the open, and how far the open one's row has been looked through -/
structure Rc (h0 : MH) (fd td : Nat) (S : List (List En)) (m : Int) (st : Int) (h : MH) (ks ts : List Int) : Prop where
  D : At h fd (.dic (trues ks))
  L : At h td (.lst (ts.map Va.int))
  G : Gr nob h0 h
  nd : ks.Nodup
  rg : ∀ i ∈ ks, 0 ≤ i ∧ i < m
  tsm : ∀ i ∈ ts, i ∈ ks
  st : st ∈ ks
  tl : ts.length ≤ ks.length
  b1 : h0.n ≤ fd
  b2 : h0.n ≤ td

theorem sub_len {α : Type} [DecidableEq α] : ∀ (xs ys : List α), xs.Nodup → (∀ x ∈ xs, x ∈ ys) → xs.length ≤ ys.length := by
  intro xs
  induction xs with
  | nil => intro ys _ _; simp
  | cons x r ih =>
    intro ys nd sb
    have nd' := List.nodup_cons.mp nd
    have mx := sb x List.mem_cons_self
    have := ih (ys.erase x) nd'.2 fun y hy => (List.mem_erase_of_ne (by rintro rfl; exact nd'.1 hy)).mpr (sb y (List.mem_cons_of_mem _ hy))
    rw [List.length_erase_of_mem mx] at this
    have := List.length_pos_of_mem mx
    simp; omega
theorem nodup_range {ks : List Int} {m : Nat} (nd : ks.Nodup) (rg : ∀ i ∈ ks, 0 ≤ i ∧ i < (m : Int)) : ks.length ≤ m := by
  have := sub_len ks ((List.range m).map fun i : Nat => (i : Int)) nd (fun i hi => by
    have := rg i hi
    exact List.mem_map.mpr ⟨i.toNat, by simp; omega, by omega⟩)
  simpa using this
theorem full_range {ks : List Int} {m : Nat} (al : ∀ i : Nat, i < m → (i : Int) ∈ ks) : m ≤ ks.length := by
  have := sub_len ((List.range m).map fun i : Nat => (i : Int)) ks (List.Pairwise.map _ (fun a b n => by omega) List.nodup_range) (fun i hi => by
    obtain ⟨j, hj, rfl⟩ := List.mem_map.mp hi
    exact al j (by simpa using hj))
  simpa using this

theorem ts_mem {ts : List Int} (e : ts ≠ []) : ∃ t, ts = ts.dropLast ++ [t] := ⟨ts.getLast e, (List.dropLast_concat_getLast e).symm⟩

theorem pop_l {h : MH} {l : Nat} {xs : List Va} {v : Va} (T : At h l (.lst (xs ++ [v]))) : fPop (.ref l) [] h = .ok v (h.put l (.lst xs)) := by
  simp [fPop, T.get]

theorem W_dict1 (a b : ME) (σ : MS) (h : MH) (Q : Va → MH → Prop) : WE (mDict (mPcons a b mPnil) σ h) Q = WE (a σ (h.push (.dic []))) fun k h1 => WE (b σ h1) fun v h2 => h2.get h.n = some (.dic []) ∧ (keyOf k).isSome ∧ Q (.ref h.n) (h2.put h.n (.dic (merge [] [(k, v)]))) := by
  simp only [mDict, mPcons, mPnil, WE_bind, WE_ok]
  congr 1; funext k h1; congr 1; funext v h2
  cases e : h2.get h.n with
  | none => simp [WE]
  | some o =>
    cases o with
    | dic ks =>
      cases ks with
      | cons x r => simp [WE]
      | nil =>
        cases z : keyOf k with
        | none => simp [WE, keysOk, z]
        | some => simp [WE, keysOk, z]; exact Iff.rfl
    | _ => simp [WE]
theorem Gr.both {h h' : MH} (G : Gr nob h h') (r : Nat) (o : MO) : Gr nob (h.put r o) (h'.put r o) := ⟨G.n, G.s, fun i l _ => by
  rw [MH.get_put, MH.get_put, G.k i l id]⟩
theorem din_tr {h : MH} {l : Nat} {ks : List Int} {x : Int} (T : At h l (.dic (trues ks))) : fDIn not (.int x) (.ref l) h = .ok (.bl (!decide (x ∈ ks))) h := by
  simp only [fDIn, da_d T, keyOf, look_tr]
  by_cases e : x ∈ ks <;> simp [e]
theorem store_tr {h : MH} {l : Nat} {ks : List Int} {x : Int} (T : At h l (.dic (trues ks))) (e : ks.length < sizeLine) (n : x ∉ ks) : fStore (.bl true) (.ref l) (.int x) h = some (h.put l (.dic (trues (ks ++ [x])))) := by
  simp only [fStore, T.get, keyOf, trues_len, e, if_true, put_tr ks x n]

def succ (S : List (List En)) (ks : List Int) (x : Int) : Prop := ∀ s, S[x.toNat]? = some s → ∀ e ∈ s, e.2.2 ∈ ks

theorem all_in {S : List (List En)} {m : Int} {ks : List Int} {st : Int} (g : Good S m) (em : m = (S.length : Int)) (s0 : 0 ≤ st) (s1 : st < m) (i : st ∈ ks) (c : ∀ x ∈ ks, succ S ks x) (nd : ks.Nodup) (rg : ∀ i ∈ ks, 0 ≤ i ∧ i < m) : ks.length = S.length := by
  have stp : ∀ x ∈ ks, (x + 1) % m ∈ ks := by
    intro x hx
    have r := rg x hx
    have l : x.toNat < S.length := by omega
    obtain ⟨_, e, he, ee⟩ := g.ok x.toNat _ (List.getElem?_eq_getElem l)
    have := c x hx _ (List.getElem?_eq_getElem l) e he
    rw [ee] at this
    rwa [Int.toNat_of_nonneg r.1] at this
  have all : ∀ k : Nat, (st + k) % m ∈ ks := by
    intro k
    induction k with
    | zero => simpa [Int.emod_eq_of_lt s0 s1] using i
    | succ k ih =>
      have := stp _ ih
      rw [Int.emod_add_emod] at this
      rw [show st + ((k + 1 : Nat) : Int) = st + k + 1 by push_cast; omega]
      exact this
  have a1 := nodup_range (m := S.length) nd (fun i hi => em ▸ rg i hi)
  have a2 := full_range (m := S.length) (ks := ks) (fun i hi => by
    have := all (i + m - st).toNat
    rw [show st + ((i + m - st).toNat : Int) = i + m by omega] at this
    rw [Int.add_emod_right, Int.emod_eq_of_lt (by omega) (by omega)] at this
    exact this)
  omega

theorem p_reached {h : MH} {l : Nat} {rs : List Nat} {S : List (List En)} {m : Int} {st : Int} (T : Sts h l rs S) (g : Good S m) (em : m = (S.length : Int)) (m1 : m ≤ 4) (s0 : 0 ≤ st) (s1 : st < m) :
    WE (m_reached_from [.ref l, .int st] h) fun v h' => ∃ d ks, v = .ref d ∧ At h' d (.dic ks) ∧ ks.length = S.length ∧ Gr nob h h' := by
  refine WE_fn _ _ _ _ _ _ rfl ?_
  unfold b_reached_from
  have c0 : (h.push (.dic [])).get h.n = some (.dic []) := (At.push h (.dic [])).get
  have c2 : merge [] [(Va.int st, Va.bl true)] = trues [st] := rfl
  simp [W_loc, W_con, W_bin, W_tb, W_tru, W_notT, W_andT, W_orT, W_not, W_and, W_if, W_nil, W_cons, W_tup, W_lst, W_d0, W_callB, W_callF, W_ret, W_expr, W_skip, W_set, W_ifS, W_par, W_asgG, W_gName, W_gNil, W_gCons, W_gTup, W_store, W_bM, W_bM0, W_fld, W_isi, W_chain, W_ii, W_ic, W_addI, W_mulI, W_int, W_abs, W_max2, W_min2, WE_ok, WS_seq, fSub2, startM, List.replicate, fMod, fFdiv, W_dict1, c0, c2, keyOf]
  refine ⟨by simp [sizeLine], ?_⟩
  have D0 : At ((h.push (.dic [])).put h.n (.dic (trues [st]))) h.n (.dic (trues [st])) := At.put (Nat.lt_succ_self _) _
  have G0 : Gr nob h ((h.push (.dic [])).put h.n (.dic (trues [st]))) := (Gr.push _ _ _).putN _ _ (Nat.le_refl _)
  have n0 : ((h.push (.dic [])).put h.n (.dic (trues [st]))).n = h.n + 1 := rfl
  generalize ((h.push (.dic [])).put h.n (.dic (trues [st]))) = h1 at D0 G0 n0
  refine wh_inv (fun i σ h' => ∃ a b ks ts, σ = [some (.ref l), some (.int st), some (.ref h.n), some (.ref h1.n), a, b] ∧ Rc h h.n h1.n S m st h' ks ts ∧ (∀ x ∈ ks, x ∉ ts → succ S ks x) ∧ i = 2 * (S.length - ks.length) + ts.length) ?st big (2 * (S.length - 1) + 1) _ _ (by show _ < 1000000; omega) ?z
  case z =>
    refine ⟨_, _, [st], [st], rfl, ⟨D0.push' _, At.push _ _, G0.trans (Gr.push _ _ _), by simp, ?_, fun _ => id, by simp, Nat.le_refl _, Nat.le_refl _, by omega⟩, ?_, rfl⟩
    · intro i hi; simp at hi; omega
    · intro x a b; exact (b a).elim
  case st =>
    rintro i σ h' ⟨a, b, ks, ts, rfl, R, C, hi⟩
    simp [W_loc, W_con, W_bin, W_tb, W_tru, W_notT, W_andT, W_orT, W_not, W_and, W_if, W_nil, W_cons, W_tup, W_lst, W_d0, W_callB, W_callF, W_ret, W_expr, W_skip, W_set, W_ifS, W_par, W_asgG, W_gName, W_gNil, W_gCons, W_gTup, W_store, W_bM, W_bM0, W_fld, W_isi, W_chain, W_ii, W_ic, W_addI, W_mulI, W_int, W_abs, W_max2, W_min2, WE_ok, WS_seq, fSub2, startM, List.replicate, fMod, fFdiv]
    rw [ne_l (R.L.push' _) (At.push h' _)]
    have R1 : Rc h h.n h1.n S m st (h'.push (.lst [])) ks ts := ⟨R.D.push' _, R.L.push' _, R.G.trans (Gr.push _ _ _), R.nd, R.rg, R.tsm, R.st, R.tl, R.b1, R.b2⟩
    generalize h'.push (.lst []) = h2 at R1
    by_cases ne : ts = []
    · subst ne
      simp [W_loc, W_con, W_bin, W_tb, W_tru, W_notT, W_andT, W_orT, W_not, W_and, W_if, W_nil, W_cons, W_tup, W_lst, W_d0, W_callB, W_callF, W_ret, W_expr, W_skip, W_set, W_ifS, W_par, W_asgG, W_gName, W_gNil, W_gCons, W_gTup, W_store, W_bM, W_bM0, W_fld, W_isi, W_chain, W_ii, W_ic, W_addI, W_mulI, W_int, W_abs, W_max2, W_min2, WE_ok, WS_seq, fSub2, startM, List.replicate, fMod, fFdiv]
      exact ⟨_, R1.D, by simpa [trues_len] using all_in g em s0 s1 R1.st (fun x hx => C x hx (by simp)) R1.nd R1.rg, R1.G⟩
    · have nb : ts.isEmpty = false := by simpa using ne
      simp [W_loc, W_con, W_bin, W_tb, W_tru, W_notT, W_andT, W_orT, W_not, W_and, W_if, W_nil, W_cons, W_tup, W_lst, W_d0, W_callB, W_callF, W_ret, W_expr, W_skip, W_set, W_ifS, W_par, W_asgG, W_gName, W_gNil, W_gCons, W_gTup, W_store, W_bM, W_bM0, W_fld, W_isi, W_chain, W_ii, W_ic, W_addI, W_mulI, W_int, W_abs, W_max2, W_min2, WE_ok, WS_seq, fSub2, startM, List.replicate, fMod, fFdiv, nb]
      obtain ⟨t, et⟩ := ts_mem ne
      generalize ts.dropLast = t0 at et
      have mt : t ∈ ks := R1.tsm t (by rw [et]; simp)
      have rt := R1.rg t mt
      have lt : t.toNat < S.length := by omega
      have lr : t.toNat < rs.length := by rw [T.len]; exact lt
      have L1 := R1.L
      rw [et, List.map_append] at L1
      have Tl := R1.G.at0 T.at_
      have nl : l ≠ h1.n := by have := T.at_.lt; have := R1.b2; omega
      have Tl2 := Tl.put' (.lst (t0.map Va.int)) nl
      have X := T.row t.toNat _ _ (List.getElem?_eq_getElem lr) (List.getElem?_eq_getElem lt)
      have nr : rs[t.toNat] ≠ h1.n := by have := X.lt; have := R1.b2; omega
      have nr2 : rs[t.toNat] ≠ h.n := by have := X.lt; omega
      have X2 := (R1.G.at0 X).put' (.lst (t0.map Va.int)) nr
      have e1 : fIx (.ref l) (.int t) (h2.put h1.n (.lst (t0.map Va.int))) = .ok (.ref rs[t.toNat]) (h2.put h1.n (.lst (t0.map Va.int))) := by
        have := f_ixL Tl2 t.toNat (v := .ref rs[t.toNat]) (by simp [lr])
        rwa [Int.toNat_of_nonneg rt.1] at this
      have e2 := pop_l (v := .int t) (xs := t0.map Va.int) L1
      have e3 : dicAt (h2.put h1.n (.lst (t0.map Va.int))) (.ref l) = none := da_l Tl2
      simp [W_loc, W_con, W_bin, W_tb, W_tru, W_notT, W_andT, W_orT, W_not, W_and, W_if, W_nil, W_cons, W_tup, W_lst, W_d0, W_callB, W_callF, W_ret, W_expr, W_skip, W_set, W_ifS, W_par, W_asgG, W_gName, W_gNil, W_gCons, W_gTup, W_store, W_bM, W_bM0, W_fld, W_isi, W_chain, W_ii, W_ic, W_addI, W_mulI, W_int, W_abs, W_max2, W_min2, WE_ok, WS_seq, fSub2, startM, List.replicate, fMod, fFdiv, WS_for, W_walkD, la_l L1]
      rw [show fPop (.ref h1.n) [] h2 = _ from e2]
      simp [W_loc, W_con, W_bin, W_tb, W_tru, W_notT, W_andT, W_orT, W_not, W_and, W_if, W_nil, W_cons, W_tup, W_lst, W_d0, W_callB, W_callF, W_ret, W_expr, W_skip, W_set, W_ifS, W_par, W_asgG, W_gName, W_gNil, W_gCons, W_gTup, W_store, W_bM, W_bM0, W_fld, W_isi, W_chain, W_ii, W_ic, W_addI, W_mulI, W_int, W_abs, W_max2, W_min2, WE_ok, WS_seq, fSub2, startM, List.replicate, fMod, fFdiv, e3, e1, wkDic, X2.get]
      generalize hs : S[t.toNat] = s at X X2
      generalize hr : rs[t.toNat] = r at X X2 nr nr2
      refine loop_inv (fun j σ h3 => ∃ a b ks' ts', σ = [some (.ref l), some (.int st), some (.ref h.n), some (.ref h1.n), a, b] ∧ Rc (h.put r (.lck (s.map kvOf))) h.n h1.n S m st h3 ks' ts' ∧ (∀ x ∈ ks', x ∉ ts' → x ≠ t → succ S ks' x) ∧ 2 * (S.length - ks'.length) + ts'.length + 1 ≤ i ∧ ∀ k e, k < j → s[k]? = some e → e.2.2 ∈ ks') s.length ?st2 ?en2 big 0 _ _ ?lb (Nat.zero_le _) ?z2
      case lb =>
        have := (g.ok t.toNat _ (List.getElem?_eq_getElem lt)).1.l3
        rw [hs] at this
        show _ < 1000000 + 0
        omega
      case z2 =>
        refine ⟨_, _, ks, t0, rfl, ⟨(R1.D.put' _ (by omega)).put' _ (Ne.symm nr2), (At.put L1.lt _).put' _ (Ne.symm nr), ?_, R1.nd, R1.rg, fun i hi => R1.tsm i (by rw [et]; exact List.mem_append_left _ hi), R1.st, by have := R1.tl; rw [et] at this; simp at this; omega, R1.b1, R1.b2⟩, ?_, ?_, ?_⟩
        · exact (R1.G.putN _ _ R1.b2).both _ _
        · intro x hx nx nt
          refine C x hx ?_
          rw [et]
          simp [nx, nt]
        · have := congrArg List.length et
          simp at this
          omega
        · intro k e z; omega
      case en2 =>
        rintro σ h3 ⟨a, b, ks', ts', rfl, R3, C3, m3, E3⟩
        refine ⟨by simp [IT.at], ?_⟩
        have A := R3.G.at0 (At.put X.lt (.lck (s.map kvOf)))
        refine ⟨_, A.get, _, ?_, ⟨_, _, rfl⟩, ks', ts', ⟨R3.D.put' _ (Ne.symm nr2), R3.L.put' _ (Ne.symm nr), Gr.unlock X R3.G, R3.nd, R3.rg, R3.tsm, R3.st, R3.tl, R3.b1, R3.b2⟩, ?_, rfl⟩
        · omega
        · intro x hx nx
          by_cases z : x = t
          · subst z
            intro s' hs' e he
            rw [List.getElem?_eq_getElem lt, hs] at hs'
            cases hs'
            obtain ⟨k, hk, rfl⟩ := List.getElem_of_mem he
            exact E3 k _ hk (List.getElem?_eq_getElem hk)
          · exact C3 x hx nx z
      case st2 =>
        rintro j σ h3 lj ⟨a, b, ks', ts', rfl, R3, C3, m3, E3⟩
        refine ⟨.tup [.int s[j].2.1, .int s[j].2.2], by simp [IT.at, lj, kvOf], ?_⟩
        have o := (g.ok t.toNat _ (List.getElem?_eq_getElem lt)).1.ok s[j] (by rw [hs]; exact List.getElem_mem lj)
        simp [W_loc, W_con, W_bin, W_tb, W_tru, W_notT, W_andT, W_orT, W_not, W_and, W_if, W_nil, W_cons, W_tup, W_lst, W_d0, W_callB, W_callF, W_ret, W_expr, W_skip, W_set, W_ifS, W_par, W_asgG, W_gName, W_gNil, W_gCons, W_gTup, W_store, W_bM, W_bM0, W_fld, W_isi, W_chain, W_ii, W_ic, W_addI, W_mulI, W_int, W_abs, W_max2, W_min2, WE_ok, WS_seq, fSub2, startM, List.replicate, fMod, fFdiv, din_tr R3.D]
        by_cases q : s[j].2.2 ∈ ks'
        · simp [W_loc, W_con, W_bin, W_tb, W_tru, W_notT, W_andT, W_orT, W_not, W_and, W_if, W_nil, W_cons, W_tup, W_lst, W_d0, W_callB, W_callF, W_ret, W_expr, W_skip, W_set, W_ifS, W_par, W_asgG, W_gName, W_gNil, W_gCons, W_gTup, W_store, W_bM, W_bM0, W_fld, W_isi, W_chain, W_ii, W_ic, W_addI, W_mulI, W_int, W_abs, W_max2, W_min2, WE_ok, WS_seq, fSub2, startM, List.replicate, fMod, fFdiv, q]
          refine ⟨ks', ts', R3, C3, m3, ?_⟩
          intro k a1 a2 a3 hk e
          by_cases z : k < j
          · exact E3 k _ z e
          · have : k = j := by omega
            subst this
            rw [List.getElem?_eq_getElem lj] at e
            have := Option.some.inj e
            rw [this] at q
            exact q
        · have kl : ks'.length < sizeLine := by
            have := nodup_range (m := S.length) R3.nd (fun i hi => em ▸ R3.rg i hi)
            simp [sizeLine]; omega
          have nf : h.n ≠ h1.n := by omega
          have L4 := R3.L.put' (.dic (trues (ks' ++ [s[j].2.2]))) (Ne.symm nf)
          have D4 := At.put R3.D.lt (.dic (trues (ks' ++ [s[j].2.2])))
          have G4 := R3.G.putN h.n (.dic (trues (ks' ++ [s[j].2.2]))) R3.b1
          have tl : ts'.length < sizeLine := by
            have := R3.tl
            omega
          have e4 := app_l L4 (.int s[j].2.2) (by simpa using tl)
          have nd' : (ks' ++ [s[j].2.2]).Nodup := List.nodup_append.mpr ⟨R3.nd, by simp, by intro a ha b hb; simp at hb; subst hb; rintro rfl; exact q ha⟩
          have rg' : ∀ i ∈ ks' ++ [s[j].2.2], 0 ≤ i ∧ i < m := by
            intro i hi
            rcases List.mem_append.mp hi with hi | hi
            · exact R3.rg i hi
            · simp at hi; subst hi; exact ⟨o.2.2.2.1, o.2.2.2.2⟩
          have lk' := nodup_range (m := S.length) nd' (fun i hi => em ▸ rg' i hi)
          simp [W_loc, W_con, W_bin, W_tb, W_tru, W_notT, W_andT, W_orT, W_not, W_and, W_if, W_nil, W_cons, W_tup, W_lst, W_d0, W_callB, W_callF, W_ret, W_expr, W_skip, W_set, W_ifS, W_par, W_asgG, W_gName, W_gNil, W_gCons, W_gTup, W_store, W_bM, W_bM0, W_fld, W_isi, W_chain, W_ii, W_ic, W_addI, W_mulI, W_int, W_abs, W_max2, W_min2, WE_ok, WS_seq, fSub2, startM, List.replicate, fMod, fFdiv, q, store_tr R3.D kl q, la_l L4, e4]
          refine ⟨ks' ++ [s[j].2.2], ts' ++ [s[j].2.2], ⟨D4.put' _ nf, ?_, G4.putN _ _ R3.b2, nd', rg', ?_, List.mem_append_left _ R3.st, by have := R3.tl; simp; omega, R3.b1, R3.b2⟩, ?_, ?_, ?_⟩
          · simp
            exact At.put L4.lt _
          · intro i hi
            rcases List.mem_append.mp hi with hi | hi
            · exact List.mem_append_left _ (R3.tsm i hi)
            · exact List.mem_append_right _ hi
          · intro x hx nx nt s' hs' e he
            simp only [List.mem_append, not_or] at hx nx
            rcases hx with hx | hx
            · exact List.mem_append_left _ (C3 x hx nx.1 nt s' hs' e he)
            · exact (nx.2 hx).elim
          · simp at lk' ⊢
            omega
          · intro k a1 a2 a3 hk e
            by_cases z : k < j
            · exact List.mem_append_left _ (E3 k _ z e)
            · have : k = j := by omega
              subst this
              rw [List.getElem?_eq_getElem lj] at e
              have := Option.some.inj e
              rw [this]
              simp
end Lw
end

section
namespace Lw
open PySem L2 Mn

theorem lst_at {h : MH} {l : Nat} {xs : List Va} (T : At h l (.lst xs)) (i : Nat) : (IT.lst (.ref l)).at i h = some xs[i]? := by
  simp [IT.at, la_l T]
theorem wk_l {h : MH} {l : Nat} {xs : List Va} (T : At h l (.lst xs)) : wkOf (.ref l) h = .ok ⟨.lst (.ref l), none⟩ h := by
  simp [wkOf, T.get]
theorem dictOf_d {h : MH} {l : Nat} {xs : List (Va × Va)} (T : At h l (.dic xs)) : fDictOf [.ref l] h = newO h (.dic xs) := by
  simp [fDictOf, da_d T]
theorem W_make (c n : Nat) (m : FnM) (ms : MA) (σ : MS) (h : MH) (Q : Va → MH → Prop) : WE (mMake c n m ms σ h) Q = WE (ms σ h) fun vs h1 => vs.length + 1 = n ∧ WE (m (.ref h1.n :: vs) (h1.push (.ins c []))) fun v h2 => v = .non ∧ Q (.ref h1.n) h2 := by
  simp only [mMake, WE_bind]
  congr 1; funext v h1
  by_cases e : v.length + 1 = n
  · rw [show (v.length + 1).beq n = true from Nat.beq_eq.mpr e]
    simp only [cond, e, true_and]
    cases m (.ref h1.n :: v) (h1.push (.ins c [])) with
    | ok v h2 => cases v <;> simp [WE]
    | _ => simp [WE]
  · rw [show (v.length + 1).beq n = false from Bool.eq_false_iff.mpr fun z => e (Nat.beq_eq.mp z)]; simp [e, WE]
theorem W_fldS (c : Nat) (f : Str) (mo mv : ME) (σ : MS) (h : MH) (N : MS → MH → Prop) (R : Va → MH → Prop) : WS (mFldS c f mo mv σ h) N R = WE (mv σ h) fun v h1 => WE (mo σ h1) fun o h2 => ∃ i fs, o = .ref i ∧ insAt h2 c o = some fs ∧ fs.length < 1000 ∧ N σ (h2.put i (.ins c (putA f v fs))) := by
  simp only [mFldS, WS_toS]
  congr 1; funext v h1; congr 1; funext o h2
  cases e : insAt h2 c o with
  | none => simp [WS]
  | some fs =>
    cases o with
    | ref i =>
      by_cases l : fs.length < 1000
      · simp [WS, l, Nat.blt_eq.mpr l]
      · simp [WS, l, show Nat.blt fs.length 1000 = false from Bool.eq_false_iff.mpr fun z => l (Nat.blt_eq.mp z)]
    | _ => simp [WS]
theorem W_meth0 {c : Nat} {x : Str} {m : FnM} {mo : ME} {σ : MS} {h : MH} {Q : Va → MH → Prop} (w : WE (mo σ h) fun v h1 => ∃ fs, insAt h1 c v = some fs ∧ fs.lookup x = none ∧ WE (m [v] h1) Q) : WE (mMeth c 1 x m mo mNil σ h) Q := by
  simp only [mMeth, WE_bind]
  refine WE_mono w ?_
  rintro v h1 ⟨fs, e, z, k⟩
  simp only [e, z]
  exact k

theorem p_states {h : MH} {l : Nat} {rs : List Nat} {S : List (List En)} {m : Int} (T : Sts h l rs S) (g : Good S m) (em : m = (S.length : Int)) (m0 : 1 ≤ m) (m1 : m ≤ 4) :
    WE (m_are_source_states [.ref l] h) fun v h' => v = .bl true ∧ Gr nob h h' := by
  refine WE_fn _ _ _ _ _ _ rfl ?_
  unfold b_are_source_states
  have c1 := len_l T.at_
  have z1 : (1 : Int) ≤ rs.length := by have := T.len; omega
  have z2 : (rs.length : Int) ≤ 4 := by have := T.len; omega
  simp [W_loc, W_con, W_bin, W_tb, W_tru, W_notT, W_andT, W_orT, W_not, W_and, W_if, W_nil, W_cons, W_tup, W_lst, W_d0, W_callB, W_callF, W_ret, W_expr, W_skip, W_set, W_ifS, W_par, W_asgG, W_gName, W_gNil, W_gCons, W_gTup, W_store, W_bM, W_bM0, W_fld, W_isi, W_chain, W_ii, W_ic, W_addI, W_mulI, W_int, W_abs, W_max2, W_min2, WE_ok, WS_seq, fSub2, startM, List.replicate, fMod, fFdiv, tyName, truth, kitName, fLe, T.at_.get, c1, z1, z2, WE_lc, W_iter, wk_l T.at_]
  refine comp_inv (fun i acc h' => At h' h.n (.lst acc) ∧ Gr nob h h' ∧ acc = []) rs.length (fun _ _ _ z => z.1) ?st ?en big 0 [] _ (by show _ < 1000000 + 0; omega) (Nat.zero_le _) ⟨At.push _ _, Gr.push _ _ _, rfl⟩
  case st =>
    rintro i acc h' li ⟨A, G, rfl⟩
    have T' := T.gr0 G
    have lS : i < S.length := T.len ▸ li
    refine ⟨.ref rs[i], by rw [lst_at T'.at_]; simp [li], ?_⟩
    have X := T'.row i _ _ (List.getElem?_eq_getElem li) (List.getElem?_eq_getElem lS)
    simp [W_loc, W_con, W_bin, W_tb, W_tru, W_notT, W_andT, W_orT, W_not, W_and, W_if, W_nil, W_cons, W_tup, W_lst, W_d0, W_callB, W_callF, W_ret, W_expr, W_skip, W_set, W_ifS, W_par, W_asgG, W_gName, W_gNil, W_gCons, W_gTup, W_store, W_bM, W_bM0, W_fld, W_isi, W_chain, W_ii, W_ic, W_addI, W_mulI, W_int, W_abs, W_max2, W_min2, WE_ok, WS_seq, fSub2, startM, List.replicate, fMod, fFdiv, wipeM, len_l T'.at_]
    rw [show (rs.length : Int) = m by have := T.len; omega]
    refine WE_mono (p_state X (g.ok i _ (List.getElem?_eq_getElem lS)).1 m0) ?_
    rintro v h2 ⟨rfl, G2⟩
    simp [truth]
    exact ⟨G2.at0 A, G.trans G2⟩
  case en =>
    rintro acc h' ⟨A, G, rfl⟩
    have T' := T.gr0 G
    refine ⟨by rw [lst_at T'.at_]; simp, ?_⟩
    rw [ne_l (is := []) (A.push' _) (At.push h' _)]
    have T2 := T'.gr0 (Gr.push nob h' (.lst []))
    have G2 := G.trans (Gr.push nob h' (.lst []))
    generalize h'.push (.lst []) = h2 at T2 G2
    simp [W_loc, W_con, W_bin, W_tb, W_tru, W_notT, W_andT, W_orT, W_not, W_and, W_if, W_nil, W_cons, W_tup, W_lst, W_d0, W_callB, W_callF, W_ret, W_expr, W_skip, W_set, W_ifS, W_par, W_asgG, W_gName, W_gNil, W_gCons, W_gTup, W_store, W_bM, W_bM0, W_fld, W_isi, W_chain, W_ii, W_ic, W_addI, W_mulI, W_int, W_abs, W_max2, W_min2, WE_ok, WS_seq, fSub2, startM, List.replicate, fMod, fFdiv, WE_lc, W_rng1, len_l T2.at_]
    refine ⟨by simp [l62]; omega, ?_⟩
    refine comp_inv (fun i acc h' => At h' h2.n (.lst acc) ∧ Gr nob h2 h' ∧ acc = []) rs.length (fun _ _ _ z => z.1) ?st2 ?en2 big 0 [] _ (by show _ < 1000000 + 0; omega) (Nat.zero_le _) ⟨At.push _ _, Gr.push _ _ _, rfl⟩
    case st2 =>
      rintro i acc h3 li ⟨A, G3, rfl⟩
      have T3 := T2.gr0 G3
      refine ⟨.int i, rng_lt li _, ?_⟩
      simp [W_loc, W_con, W_bin, W_tb, W_tru, W_notT, W_andT, W_orT, W_not, W_and, W_if, W_nil, W_cons, W_tup, W_lst, W_d0, W_callB, W_callF, W_ret, W_expr, W_skip, W_set, W_ifS, W_par, W_asgG, W_gName, W_gNil, W_gCons, W_gTup, W_store, W_bM, W_bM0, W_fld, W_isi, W_chain, W_ii, W_ic, W_addI, W_mulI, W_int, W_abs, W_max2, W_min2, WE_ok, WS_seq, fSub2, startM, List.replicate, fMod, fFdiv, wipeM]
      refine WE_mono (p_reached T3 g em m1 (by omega) (by have := T.len; omega)) ?_
      rintro v h4 ⟨d, ks, rfl, D, lk, G4⟩
      have T4 := T3.gr0 G4
      simp [W_loc, W_con, W_bin, W_tb, W_tru, W_notT, W_andT, W_orT, W_not, W_and, W_if, W_nil, W_cons, W_tup, W_lst, W_d0, W_callB, W_callF, W_ret, W_expr, W_skip, W_set, W_ifS, W_par, W_asgG, W_gName, W_gNil, W_gCons, W_gTup, W_store, W_bM, W_bM0, W_fld, W_isi, W_chain, W_ii, W_ic, W_addI, W_mulI, W_int, W_abs, W_max2, W_min2, WE_ok, WS_seq, fSub2, startM, List.replicate, fMod, fFdiv, len_d D, len_l T4.at_, fLt, lk, T.len]
      exact ⟨G4.at0 A, G3.trans G4⟩
    case en2 =>
      rintro acc h3 ⟨A, G3, rfl⟩
      refine ⟨rng_eq _ _, ?_⟩
      rw [eq_l (is := []) (A.push' _) (At.push h3 _)]
      simp [WE_ok]
      exact (G2.trans G3).trans (Gr.push _ _ _)

theorem p_copies {h : MH} {l : Nat} {rs : List Nat} {S : List (List En)} (T : Sts h l rs S) (l4 : S.length ≤ 4) (i : Nat) (σ : MS) (hi : i < σ.length) (own : List Nat) :
    WE (loopC (.lst (.ref l)) (mgName i) mYes (mCallB fDictOf (mCons (mLoc i) mNil)) σ h.n big 0 (h.push (.lst []))) fun v h' => ∃ rs2, v = .ref h.n ∧ Sts h' h.n rs2 S ∧ Gr nob h h' := by
  refine comp_inv (fun j acc h' => ∃ rs2, acc = rs2.map Va.ref ∧ rs2.length = j ∧ At h' h.n (.lst acc) ∧ Gr nob h h' ∧ ∀ (k r : Nat) (s : List En), rs2[k]? = some r → S[k]? = some s → At h' r (.dic (s.map kvOf))) rs.length (fun _ _ _ ⟨_, _, _, z, _⟩ => z) ?st ?en big 0 [] _ (by have := T.len; show _ < 1000000 + 0; omega) (Nat.zero_le _) ⟨[], rfl, rfl, At.push _ _, Gr.push _ _ _, by simp⟩
  case st =>
    rintro j acc h' lj ⟨rs2, rfl, len, A, G, D⟩
    have T' := T.gr0 G
    have lS : j < S.length := T.len ▸ lj
    have X := T'.row j _ _ (List.getElem?_eq_getElem lj) (List.getElem?_eq_getElem lS)
    refine ⟨.ref rs[j], by rw [lst_at T'.at_]; simp [lj], ?_⟩
    simp [W_loc, W_con, W_bin, W_tb, W_tru, W_notT, W_andT, W_orT, W_not, W_and, W_if, W_nil, W_cons, W_tup, W_lst, W_d0, W_callB, W_callF, W_ret, W_expr, W_skip, W_set, W_ifS, W_par, W_asgG, W_gName, W_gNil, W_gCons, W_gTup, W_store, W_bM, W_bM0, W_fld, W_isi, W_chain, W_ii, W_ic, W_addI, W_mulI, W_int, W_abs, W_max2, W_min2, WE_ok, WS_seq, fSub2, startM, List.replicate, fMod, fFdiv, mYes, hi, dictOf_d X, newO]
    have A2 := A.push' (.dic (S[j].map kvOf))
    refine ⟨A2, by simp [sizeLine]; omega, rs2 ++ [h'.n], by simp, by simp [len], ?_, ?_, ?_⟩
    · exact At.put A2.lt _
    · exact (G.trans (Gr.push _ _ _)).putN _ _ (Nat.le_refl _)
    · intro k r s a b
      by_cases z : k < rs2.length
      · rw [List.getElem?_append_left z] at a
        have Y := (D k r s a b).push' (.dic (S[j].map kvOf))
        refine Y.put' _ ?_
        rintro rfl
        cases Y.inj A2
      · rw [List.getElem?_append_right (by omega)] at a
        have : k - rs2.length = 0 := by
          rcases Nat.eq_zero_or_pos (k - rs2.length) with z | z
          · exact z
          · rw [List.getElem?_eq_none (by simp; omega)] at a; cases a
        rw [this] at a
        simp at a
        subst a
        have : k = j := by omega
        subst this
        rw [List.getElem?_eq_getElem lS] at b
        cases b
        refine (At.push h' _).put' _ ?_
        have := A.lt
        omega
  case en =>
    rintro acc h' ⟨rs2, rfl, len, A, G, D⟩
    have T' := T.gr0 G
    exact ⟨by rw [lst_at T'.at_]; simp, rs2, rfl, ⟨A, by rw [len, T.len], D⟩, G⟩

structure Sou (h : MH) (v : Va) (S : List (List En)) : Prop where
  ex : ∃ o l rs, v = .ref o ∧ At h o (.ins 0 [("rows", .ref l)]) ∧ Sts h l rs S

theorem Sou.gr {h h' : MH} {v S} (s : Sou h v S) (G : Gr nob h h') : Sou h' v S := by
  obtain ⟨o, l, rs, e, A, T⟩ := s.ex
  exact ⟨o, l, rs, e, G.at0 A, T.gr0 G⟩

theorem p_init {h : MH} {l : Nat} {rs : List Nat} {S : List (List En)} {m : Int} (T : Sts h l rs S) (g : Good S m) (em : m = (S.length : Int)) (m0 : 1 ≤ m) (m1 : m ≤ 4) :
    WE (m_Source___init__ [.ref h.n, .ref l] (h.push (.ins 0 []))) fun v h' => v = .non ∧ (∃ l2 rs2, At h' h.n (.ins 0 [("rows", .ref l2)]) ∧ Sts h' l2 rs2 S ∧ h.n ≤ l2) ∧ Gr nob h h' := by
  refine WE_fn _ _ _ _ _ _ rfl ?_
  unfold b_Source___init__
  have T1 := T.gr0 (Gr.push nob h (.ins 0 []))
  have O1 := At.push h (.ins 0 [])
  have G1 := Gr.push nob h (.ins 0 [])
  generalize h.push (.ins 0 []) = h1 at T1 O1 G1
  simp [W_loc, W_con, W_bin, W_tb, W_tru, W_notT, W_andT, W_orT, W_not, W_and, W_if, W_nil, W_cons, W_tup, W_lst, W_d0, W_callB, W_callF, W_ret, W_expr, W_skip, W_set, W_ifS, W_par, W_asgG, W_gName, W_gNil, W_gCons, W_gTup, W_store, W_bM, W_bM0, W_fld, W_isi, W_chain, W_ii, W_ic, W_addI, W_mulI, W_int, W_abs, W_max2, W_min2, WE_ok, WS_seq, fSub2, startM, List.replicate, fMod, fFdiv]
  refine WE_mono (p_states T1 g em m0 m1) ?_
  rintro v h2 ⟨rfl, G2⟩
  have T2 := T1.gr0 G2
  simp [W_loc, W_con, W_bin, W_tb, W_tru, W_notT, W_andT, W_orT, W_not, W_and, W_if, W_nil, W_cons, W_tup, W_lst, W_d0, W_callB, W_callF, W_ret, W_expr, W_skip, W_set, W_ifS, W_par, W_asgG, W_gName, W_gNil, W_gCons, W_gTup, W_store, W_bM, W_bM0, W_fld, W_isi, W_chain, W_ii, W_ic, W_addI, W_mulI, W_int, W_abs, W_max2, W_min2, WE_ok, WS_seq, fSub2, startM, List.replicate, fMod, fFdiv, truth, W_fldS, WE_lc, W_iter, wk_l T2.at_, wipeM]
  refine WE_mono (p_copies T2 (by omega) 2 _ (by simp) []) ?_
  rintro v h3 ⟨rs2, rfl, C, G3⟩
  have O3 := (G2.trans G3).at0 O1
  refine ⟨[], by simp [insAt, O3.get], by simp, ⟨h2.n, ?_, ⟨rs2, ?_⟩, (G1.trans G2).n⟩, ?_⟩
  · exact At.put O3.lt _
  · refine ⟨C.at_.put' _ ?_, C.len, fun k r s a b => (C.row k r s a b).put' _ ?_⟩
    · intro z; rw [z] at C; cases C.at_.inj O3
    · intro z; have := C.row k r s a b; rw [z] at this; cases this.inj O3
  · exact (G1.trans (G2.trans G3)).putN _ _ (Nat.le_refl _)
end Lw
end

section
namespace Lw
open PySem L2 Mn

def lid : Nat := 2 ^ 9000
theorem lid_log {n : Nat} (e : n < lid) : n.log2 < 9000 := log2_lt e (by omega)

/-- Euclid's pairs: how many steps may yet come -/
structure Eu (G i a b : Nat) : Prop where
  g : Nat.gcd a b = G
  la : a < lid
  lb : b < lid
  m : (b ≤ a ∧ a * b < 2 ^ i) ∨ (a < b ∧ 1 ≤ i ∧ a * b < 2 ^ (i - 1))

theorem Eu.step {G i a b : Nat} (E : Eu G i a b) (p : 0 < b) : ∃ j, j < i ∧ Eu G j b (a % b) := by
  have r := Nat.mod_lt a p
  have g : Nat.gcd b (a % b) = G := by rw [← E.g, Nat.gcd_comm a b, Nat.gcd_comm b (a % b), ← Nat.gcd_rec b a]
  have l : a % b < lid := Nat.lt_trans r E.lb
  rcases E.m with ⟨le, m⟩ | ⟨lt, i1, m⟩
  · cases i with
    | zero =>
      have : 1 ≤ a * b := Nat.mul_pos (by omega) p
      simp at m; omega
    | succ i =>
      refine ⟨i, Nat.lt_succ_self i, g, E.lb, l, .inl ⟨Nat.le_of_lt r, ?_⟩⟩
      have h1 : b + a % b ≤ a := by
        have := Nat.div_add_mod a b
        have : 1 ≤ a / b := (Nat.le_div_iff_mul_le p).mpr (by omega)
        have : b * 1 ≤ b * (a / b) := Nat.mul_le_mul_left b this
        omega
      have h2 : 2 * (a % b) ≤ a := by omega
      have h3 : b * (2 * (a % b)) ≤ b * a := Nat.mul_le_mul_left b h2
      rw [Nat.pow_succ] at m
      rw [Nat.mul_comm a b] at m
      have : b * (2 * (a % b)) = 2 * (b * (a % b)) := by rw [← Nat.mul_assoc, Nat.mul_comm b 2, Nat.mul_assoc]
      omega
  · have e : a % b = a := Nat.mod_eq_of_lt lt
    rw [e] at g l ⊢
    exact ⟨i - 1, by omega, g, E.lb, l, .inl ⟨Nat.le_of_lt lt, by rwa [Nat.mul_comm]⟩⟩

theorem Eu.start {a b : Nat} (la : a < lid) (lb : b < lid) : Eu (Nat.gcd a b) 18001 a b := by
  have m : a * b < 2 ^ 18000 := by
    have : (2 : Nat) ^ 18000 = lid * lid := by rw [show 18000 = 9000 + 9000 from rfl, Nat.pow_add]; rfl
    rw [this]
    exact Nat.mul_lt_mul'' la lb
  refine ⟨rfl, la, lb, ?_⟩
  by_cases e : b ≤ a
  · exact .inl ⟨e, Nat.lt_of_lt_of_le m (Nat.pow_le_pow_right (by omega) (by omega))⟩
  · exact .inr ⟨by omega, by omega, m⟩

def red (t b : Nat) : Va := .tup [.int ((t / Nat.gcd t b : Nat) : Int), .int ((b / Nat.gcd t b : Nat) : Int)]

theorem gcd_ok {t b : Nat} (p : 0 < b) (l : b < lid) : 0 < Nat.gcd t b ∧ (Nat.gcd t b).log2 < 9000 := by
  refine ⟨Nat.gcd_pos_of_pos_right t p, lid_log (Nat.lt_of_le_of_lt (Nat.gcd_le_right t p) l)⟩

theorem p_frac {h : MH} {t b : Nat} (p : 0 < b) (lt : t < lid) (lb : b < lid) : WE (m_fraction_of [.int t, .int b] h) fun v h' => v = red t b ∧ h' = h := by
  refine WE_fn _ _ _ _ _ _ rfl ?_
  unfold b_fraction_of
  have n0 : ¬ ((t : Int) < 0) := by omega
  simp [W_loc, W_con, W_bin, W_tb, W_tru, W_notT, W_andT, W_orT, W_not, W_and, W_if, W_nil, W_cons, W_tup, W_lst, W_d0, W_callB, W_callF, W_ret, W_expr, W_skip, W_set, W_ifS, W_par, W_asgG, W_gName, W_gNil, W_gCons, W_gTup, W_store, W_bM, W_bM0, W_fld, W_isi, W_chain, W_ii, W_ic, W_addI, W_mulI, W_int, W_abs, W_max2, W_min2, WE_ok, WS_seq, fSub2, startM, List.replicate, fMod, fFdiv, n0]
  refine wh_inv (fun i σ h' => ∃ x y : Nat, σ = [some (.int t), some (.int b), some (.int x), some (.int y)] ∧ h' = h ∧ Eu (Nat.gcd t b) i x y) ?st big 18001 _ _ (by show _ < 1000000; omega) ⟨t, b, rfl, rfl, Eu.start lt lb⟩
  rintro i σ h' ⟨x, y, rfl, rfl, E⟩
  have gk := gcd_ok (t := t) p lb
  by_cases z : 0 < y
  · have z' : (0 : Int) < y := by omega
    simp [W_loc, W_con, W_bin, W_tb, W_tru, W_notT, W_andT, W_orT, W_not, W_and, W_if, W_nil, W_cons, W_tup, W_lst, W_d0, W_callB, W_callF, W_ret, W_expr, W_skip, W_set, W_ifS, W_par, W_asgG, W_gName, W_gNil, W_gCons, W_gTup, W_store, W_bM, W_bM0, W_fld, W_isi, W_chain, W_ii, W_ic, W_addI, W_mulI, W_int, W_abs, W_max2, W_min2, WE_ok, WS_seq, fSub2, startM, List.replicate, fMod, fFdiv, fGt, z']
    obtain ⟨j, lj, E'⟩ := E.step z
    exact .inr ⟨z, j, lj, y, x % y, ⟨rfl, by simp⟩, E'⟩
  · have y0 : y = 0 := by omega
    subst y0
    have xe : x = Nat.gcd t b := by have := E.g; simpa using this
    subst xe
    simp [W_loc, W_con, W_bin, W_tb, W_tru, W_notT, W_andT, W_orT, W_not, W_and, W_if, W_nil, W_cons, W_tup, W_lst, W_d0, W_callB, W_callF, W_ret, W_expr, W_skip, W_set, W_ifS, W_par, W_asgG, W_gName, W_gNil, W_gCons, W_gTup, W_store, W_bM, W_bM0, W_fld, W_isi, W_chain, W_ii, W_ic, W_addI, W_mulI, W_int, W_abs, W_max2, W_min2, WE_ok, WS_seq, fSub2, startM, List.replicate, fMod, fFdiv, fGt, sizeLine, red, gk.2]
    omega
theorem p_lfrac {h : MH} {t b : Nat} (p : 0 < b) (lt : t < lid) (lb : b < lid) : WE (m_law_fraction [.int t, .int b] h) fun v h' => v = red t b ∧ h' = h := by
  refine WE_fn _ _ _ _ _ _ rfl ?_
  unfold b_law_fraction
  simp [W_loc, W_con, W_bin, W_tb, W_tru, W_notT, W_andT, W_orT, W_not, W_and, W_if, W_nil, W_cons, W_tup, W_lst, W_d0, W_callB, W_callF, W_ret, W_expr, W_skip, W_set, W_ifS, W_par, W_asgG, W_gName, W_gNil, W_gCons, W_gTup, W_store, W_bM, W_bM0, W_fld, W_isi, W_chain, W_ii, W_ic, W_addI, W_mulI, W_int, W_abs, W_max2, W_min2, WE_ok, WS_seq, fSub2, startM, List.replicate, fMod, fFdiv]
  refine wh_inv (fun i σ h' => ∃ x y : Nat, σ = [some (.int t), some (.int b), some (.int x), some (.int y)] ∧ h' = h ∧ Eu (Nat.gcd t b) i x y) ?st big 18001 _ _ (by show _ < 1000000; omega) ⟨t, b, rfl, rfl, Eu.start lt lb⟩
  rintro i σ h' ⟨x, y, rfl, rfl, E⟩
  have gk := gcd_ok (t := t) p lb
  by_cases z : 0 < y
  · have z' : (0 : Int) < y := by omega
    have l1 := lid_log E.lb
    have l2 : ((x : Int) / (y : Int)).natAbs.log2 < 9000 := by
      have e : (x : Int) / (y : Int) = ((x / y : Nat) : Int) := by simp
      rw [e, Int.natAbs_natCast]
      exact lid_log (Nat.lt_of_le_of_lt (Nat.div_le_self x y) E.la)
    have l3 : ((x : Int) / (y : Int)).natAbs.log2 + y.log2 < 1000000 := by omega
    obtain ⟨j, lj, E'⟩ := E.step z
    have e2 : (x : Int) - (x : Int) / y * y = ((x % y : Nat) : Int) := by
      have := Int.emod_def (x : Int) y
      rw [Int.mul_comm] at this
      rw [← this]; simp
    simp [W_loc, W_con, W_bin, W_tb, W_tru, W_notT, W_andT, W_orT, W_not, W_and, W_if, W_nil, W_cons, W_tup, W_lst, W_d0, W_callB, W_callF, W_ret, W_expr, W_skip, W_set, W_ifS, W_par, W_asgG, W_gName, W_gNil, W_gCons, W_gTup, W_store, W_bM, W_bM0, W_fld, W_isi, W_chain, W_ii, W_ic, W_addI, W_mulI, W_int, W_abs, W_max2, W_min2, WE_ok, WS_seq, fSub2, startM, List.replicate, fMod, fFdiv, fGt, z', l1, l3, fSub, e2]
    exact .inr ⟨z, j, lj, y, x % y, ⟨rfl, by simp⟩, E'⟩
  · have y0 : y = 0 := by omega
    subst y0
    have xe : x = Nat.gcd t b := by have := E.g; simpa using this
    subst xe
    simp [W_loc, W_con, W_bin, W_tb, W_tru, W_notT, W_andT, W_orT, W_not, W_and, W_if, W_nil, W_cons, W_tup, W_lst, W_d0, W_callB, W_callF, W_ret, W_expr, W_skip, W_set, W_ifS, W_par, W_asgG, W_gName, W_gNil, W_gCons, W_gTup, W_store, W_bM, W_bM0, W_fld, W_isi, W_chain, W_ii, W_ic, W_addI, W_mulI, W_int, W_abs, W_max2, W_min2, WE_ok, WS_seq, fSub2, startM, List.replicate, fMod, fFdiv, fGt, sizeLine, red, gk.2]
    omega
end Lw
end

section
namespace Lw
open PySem L2 Mn

def tot (s : List En) : Nat := (s.map fun e => e.2.1.toNat).sum
def rowAt (S : List (List En)) (i : Nat) : List En := S[i]?.getD []
def stp (S : List (List En)) : List Str → Nat → Nat → Nat → Option (Nat × Nat)
  | [], n, d, _ => some (n, d)
  | x :: r, n, d, i => match lk (rowAt S i) x with
    | none => none
    | some (p, j) => stp S r (n * p.toNat) (d * tot (rowAt S i)) j.toNat
def chV (S : List (List En)) (row : List Str) : Va := match stp S row 1 1 0 with
  | none => .tup [.int 0, .int 1]
  | some (n, d) => red n d

theorem p_parts {h : MH} {r : Nat} {s : List En} (T : At h r (.lck (s.map kvOf))) (l3 : s.length ≤ 3) {gt : MG} {te : ME} {σ : MS}
    (k : ∀ (p j : Int) h, WS (gt (.tup [.int p, .int j]) σ h) (fun σ1 h1 => WE (te σ1 h1) fun y h2 => y = .int p ∧ h2 = h) fun _ _ => False) :
    WE (loopC (.vals (s.map kvOf)) gt mYes te σ h.n big 0 (h.push (.lst []))) fun v h' => v = .ref h.n ∧ At h' h.n (.lst (s.map fun e => Va.int e.2.1)) ∧ Gr nob h h' := by
  refine comp_inv (fun i acc h' => At h' h.n (.lst acc) ∧ Gr nob h h' ∧ acc = (s.take i).map fun e => Va.int e.2.1) s.length (fun _ _ _ z => z.1) ?st ?en big 0 [] _ (by show _ < 1000000 + 0; omega) (Nat.zero_le _) ⟨At.push _ _, Gr.push _ _ _, rfl⟩
  case st =>
    rintro i acc h' li ⟨A, G, e⟩
    refine ⟨.tup [.int s[i].2.1, .int s[i].2.2], by simp [IT.at, li, kvOf], ?_⟩
    refine WS_mono (k s[i].2.1 s[i].2.2 h') ?_ fun _ _ => False.elim
    intro σ1 h1 w
    have al : acc.length < sizeLine := by rw [e]; simp [sizeLine]; omega
    rw [show mYes σ1 h1 = .ok true h1 from rfl, WE_ok]
    refine ⟨(fun z => nomatch z), fun _ => ?_⟩
    refine WE_mono w ?_
    rintro y h2 ⟨rfl, rfl⟩
    refine ⟨A, al, At.put A.lt _, G.putN _ _ (Nat.le_refl _), ?_⟩
    rw [e, List.take_add_one, List.getElem?_eq_getElem li, List.map_append]
    rfl
  case en =>
    rintro acc h' ⟨A, G, e⟩
    refine ⟨by simp [IT.at], rfl, ?_, G⟩
    rw [List.take_length] at e
    rw [← e]
    exact A
theorem ints_parts (s : List En) : intsOf (s.map fun e => Va.int e.2.1) = some (s.map fun e => e.2.1) := by
  induction s with
  | nil => rfl
  | cons e r ih => simp [intsOf, ih]
theorem tot_sum {s : List En} (k : ∀ e ∈ s, 0 ≤ e.2.1) : (s.map fun e => e.2.1).sum = (tot s : Int) := by
  induction s with
  | nil => rfl
  | cons e r ih =>
    have := k e List.mem_cons_self
    have := ih fun e m => k e (List.mem_cons_of_mem _ m)
    simp only [tot, List.map_cons, List.sum_cons] at this ⊢
    rw [this]
    omega
theorem le_tot {s : List En} {e : En} (m : e ∈ s) : e.2.1.toNat ≤ tot s := by
  induction s with
  | nil => cases m
  | cons a r ih =>
    simp only [tot, List.map_cons, List.sum_cons] at ih ⊢
    rcases List.mem_cons.mp m with rfl | m
    · omega
    · have := ih m; omega

theorem Gr.unlock' {h h' : MH} {r : Nat} {ks : List (Va × Va)} (T : At h r (.dic ks)) (G : Gr nob (h.put r (.lck ks)) h') : h'.get r = some (.lck ks) := (G.at0 (At.put T.lt _)).get

theorem p_total {h : MH} {o : Nat} {S : List (List En)} {m : Int} {i : Nat} (U : Sou h (.ref o) S) (g : Good S m) (li : i < S.length) :
    WE (m_total_of [.ref o, .int i] h) fun v h' => v = .int (tot (rowAt S i)) ∧ Gr nob h h' := by
  refine WE_fn _ _ _ _ _ _ rfl ?_
  unfold b_total_of
  obtain ⟨_, l, rs, e0, A, T⟩ := U.ex
  cases e0
  have lr : i < rs.length := by rw [T.len]; exact li
  have X := T.row i _ _ (List.getElem?_eq_getElem lr) (List.getElem?_eq_getElem li)
  have e1 := f_ixL T.at_ i (v := .ref rs[i]) (by simp [lr])
  have er : rowAt S i = S[i] := by simp [rowAt, li]
  rw [er]
  have O := (g.ok i _ (List.getElem?_eq_getElem li)).1
  generalize S[i] = s at X O
  generalize rs[i] = r at X e1
  simp [W_loc, W_con, W_bin, W_tb, W_tru, W_notT, W_andT, W_orT, W_not, W_and, W_if, W_nil, W_cons, W_tup, W_lst, W_d0, W_callB, W_callF, W_ret, W_expr, W_skip, W_set, W_ifS, W_par, W_asgG, W_gName, W_gNil, W_gCons, W_gTup, W_store, W_bM, W_bM0, W_fld, W_isi, W_chain, W_ii, W_ic, W_addI, W_mulI, W_int, W_abs, W_max2, W_min2, WE_ok, WS_seq, fSub2, startM, List.replicate, fMod, fFdiv, WE_lc, W_walkD, insAt, A.get, da_l T.at_, e1, wkDic, X.get, List.lookup, wipeM]
  refine WE_mono (p_parts (h := h.put r (.lck (s.map kvOf))) (At.put X.lt _) O.l3 ?k) ?_
  case k =>
    intro p j h
    simp [W_loc, W_con, W_bin, W_tb, W_tru, W_notT, W_andT, W_orT, W_not, W_and, W_if, W_nil, W_cons, W_tup, W_lst, W_d0, W_callB, W_callF, W_ret, W_expr, W_skip, W_set, W_ifS, W_par, W_asgG, W_gName, W_gNil, W_gCons, W_gTup, W_store, W_bM, W_bM0, W_fld, W_isi, W_chain, W_ii, W_ic, W_addI, W_mulI, W_int, W_abs, W_max2, W_min2, WE_ok, WS_seq, fSub2, startM, List.replicate, fMod, fFdiv]
  rintro v h2 ⟨rfl, L, G2⟩
  refine ⟨_, Gr.unlock' X G2, ?_⟩
  have ne : h.n ≠ r := by have := X.lt; omega
  have L3 := L.put' (.dic (s.map kvOf)) ne
  have G3 := Gr.unlock X G2
  generalize h2.put r (.dic (s.map kvOf)) = h3 at L3 G3
  rw [show (h.put r (.lck (s.map kvOf))).n = h.n from rfl] at *
  simp only [fSum, la_l L3, ints_parts, WE_ok]
  exact ⟨by rw [tot_sum fun e m => by have := O.ok e m; omega], G3⟩
/-- the size of the totals -/
structure Bd (S : List (List En)) (B : Nat) (len : Nat) : Prop where
  b : ∀ i, i < S.length → tot (rowAt S i) ≤ B
  b1 : 1 ≤ B
  pw : B ^ len < lid
  le : len < 900000

theorem mul_log {n p : Nat} (a : n < lid) (b : p < lid) : n.log2 + p.log2 < 1000000 := by
  have := lid_log a
  have := lid_log b
  omega

/-- what holds of top, bottom and state at a turn -/
structure Ch (S : List (List En)) (row : List Str) (B : Nat) (i n d st : Nat) : Prop where
  e : stp S (row.drop i) n d st = stp S row 1 1 0
  nB : n ≤ B ^ i
  dB : d ≤ B ^ i
  d1 : 1 ≤ d
  sl : st < S.length

theorem Ch.lt {S : List (List En)} {row : List Str} {B i n d st len : Nat} (c : Ch S row B i n d st) (b : Bd S B len) (l : i ≤ len) : n < lid ∧ d < lid := by
  have := Nat.pow_le_pow_right b.b1 l
  have := b.pw
  have := c.nB
  have := c.dB
  omega
theorem Ch.step {S : List (List En)} {row : List Str} {B i n d st len : Nat} {m : Int} (c : Ch S row B i n d st) (b : Bd S B len) (g : Good S m) (em : m = (S.length : Int)) (li : i < row.length) {p j : Nat}
    (e : lk (rowAt S st) row[i] = some ((p : Int), (j : Int))) : Ch S row B (i + 1) (n * p) (d * tot (rowAt S st)) j ∧ p ≤ B ∧ tot (rowAt S st) ≤ B := by
  have mm := mem_lk e
  have er : rowAt S st = S[st]'c.sl := by simp [rowAt, c.sl]
  have O := (g.ok st _ (List.getElem?_eq_getElem c.sl)).1
  rw [← er] at O
  have o := O.ok _ mm
  simp at o
  have lt := le_tot mm
  simp at lt
  have bt := b.b st c.sl
  have pB : p ≤ B := by omega
  refine ⟨⟨?_, ?_, ?_, ?_, ?_⟩, pB, bt⟩
  · rw [← c.e, List.drop_eq_getElem_cons li]
    simp only [stp, e]
    simp
  · rw [Nat.pow_succ]; exact Nat.mul_le_mul c.nB pB
  · rw [Nat.pow_succ]; exact Nat.mul_le_mul c.dB bt
  · have := c.d1
    exact Nat.mul_pos this (by omega)
  · omega
theorem Ch.none {S : List (List En)} {row : List Str} {B i n d st : Nat} (c : Ch S row B i n d st) (li : i < row.length) (e : lk (rowAt S st) row[i] = none) : chV S row = .tup [.int 0, .int 1] := by
  unfold chV
  rw [← c.e, List.drop_eq_getElem_cons li]
  simp only [stp, e]
theorem Ch.fin {S : List (List En)} {row : List Str} {B n d st : Nat} (c : Ch S row B row.length n d st) : chV S row = red n d := by
  unfold chV
  rw [← c.e]
  simp [stp]

theorem p_chance {h : MH} {o rw_ : Nat} {S : List (List En)} {m : Int} {row : List Str} {B : Nat} (U : Sou h (.ref o) S) (g : Good S m) (em : m = (S.length : Int)) (m0 : 1 ≤ m) (W : At h rw_ (.lst (row.map Va.str))) (b : Bd S B row.length) :
    WE (m_chance [.ref o, .ref rw_] h) fun v h' => v = chV S row ∧ Gr nob h h' := by
  refine WE_fn _ _ _ _ _ _ rfl ?_
  unfold b_chance
  simp [W_loc, W_con, W_bin, W_tb, W_tru, W_notT, W_andT, W_orT, W_not, W_and, W_if, W_nil, W_cons, W_tup, W_lst, W_d0, W_callB, W_callF, W_ret, W_expr, W_skip, W_set, W_ifS, W_par, W_asgG, W_gName, W_gNil, W_gCons, W_gTup, W_store, W_bM, W_bM0, W_fld, W_isi, W_chain, W_ii, W_ic, W_addI, W_mulI, W_int, W_abs, W_max2, W_min2, WE_ok, WS_seq, fSub2, startM, List.replicate, fMod, fFdiv, WS_for, W_iter, wk_l W]
  refine ⟨by simp [sizeLine], ?_⟩
  refine loop_inv (fun i σ h' => ∃ n d st : Nat, ∃ x y z, σ = [some (.ref o), some (.ref rw_), some (.int n), some (.int d), some (.int st), x, y, z] ∧ Gr nob h h' ∧ Ch S row B i n d st) row.length ?st ?en big 0 _ _ (by have := b.le; show _ < 1000000 + 0; omega) (Nat.zero_le _) ⟨1, 1, 0, _, _, _, rfl, Gr.refl _ _, rfl, by simp, by simp, by omega, by omega⟩
  case en =>
    rintro σ h' ⟨n, d, st, x, y, z, rfl, G, c⟩
    refine ⟨by rw [lst_at (G.at0 W)]; simp, ?_⟩
    have l := c.lt b (Nat.le_refl _)
    simp [W_loc, W_con, W_bin, W_tb, W_tru, W_notT, W_andT, W_orT, W_not, W_and, W_if, W_nil, W_cons, W_tup, W_lst, W_d0, W_callB, W_callF, W_ret, W_expr, W_skip, W_set, W_ifS, W_par, W_asgG, W_gName, W_gNil, W_gCons, W_gTup, W_store, W_bM, W_bM0, W_fld, W_isi, W_chain, W_ii, W_ic, W_addI, W_mulI, W_int, W_abs, W_max2, W_min2, WE_ok, WS_seq, fSub2, startM, List.replicate, fMod, fFdiv]
    refine WE_mono (p_frac c.d1 l.1 l.2) ?_
    rintro v h2 ⟨rfl, rfl⟩
    exact ⟨c.fin.symm, G⟩
  case st =>
    rintro i σ h' li ⟨n, d, st, x, y, z, rfl, G, c⟩
    refine ⟨.str row[i], by rw [lst_at (G.at0 W)]; simp [li], ?_⟩
    have U' := U.gr G
    obtain ⟨_, l, rs, e0, A, T⟩ := U'.ex
    cases e0
    have lr : st < rs.length := by rw [T.len]; exact c.sl
    have X := T.row st _ _ (List.getElem?_eq_getElem lr) (List.getElem?_eq_getElem c.sl)
    have e1 := f_ixL T.at_ st (v := .ref rs[st]) (by simp [lr])
    have er : rowAt S st = S[st]'c.sl := by simp [rowAt, c.sl]
    have O := (g.ok st _ (List.getElem?_eq_getElem c.sl)).1
    rw [← er] at X O
    cases q : lk (rowAt S st) row[i] with
    | none =>
      simp [W_loc, W_con, W_bin, W_tb, W_tru, W_notT, W_andT, W_orT, W_not, W_and, W_if, W_nil, W_cons, W_tup, W_lst, W_d0, W_callB, W_callF, W_ret, W_expr, W_skip, W_set, W_ifS, W_par, W_asgG, W_gName, W_gNil, W_gCons, W_gTup, W_store, W_bM, W_bM0, W_fld, W_isi, W_chain, W_ii, W_ic, W_addI, W_mulI, W_int, W_abs, W_max2, W_min2, WE_ok, WS_seq, fSub2, startM, List.replicate, fMod, fFdiv, insAt, A.get, List.lookup, da_l T.at_, e1, din not X, q, sizeLine]
      exact ⟨(c.none li q).symm, G⟩
    | some v =>
      obtain ⟨p, j⟩ := v
      have ok := O.ok _ (mem_lk q)
      simp at ok
      obtain ⟨p, rfl⟩ := Int.eq_ofNat_of_zero_le (show 0 ≤ p by omega)
      obtain ⟨j, rfl⟩ := Int.eq_ofNat_of_zero_le (show 0 ≤ j by omega)
      obtain ⟨c', pB, tB⟩ := c.step b g em li q
      have l := c.lt b (Nat.le_of_lt li)
      have Bl : B < lid := by
        have : B ^ 1 ≤ B ^ row.length := Nat.pow_le_pow_right b.b1 (by omega)
        have := b.pw
        simp at *; omega
      have l1 : n.log2 + p.log2 < 1000000 := mul_log l.1 (by omega)
      simp [W_loc, W_con, W_bin, W_tb, W_tru, W_notT, W_andT, W_orT, W_not, W_and, W_if, W_nil, W_cons, W_tup, W_lst, W_d0, W_callB, W_callF, W_ret, W_expr, W_skip, W_set, W_ifS, W_par, W_asgG, W_gName, W_gNil, W_gCons, W_gTup, W_store, W_bM, W_bM0, W_fld, W_isi, W_chain, W_ii, W_ic, W_addI, W_mulI, W_int, W_abs, W_max2, W_min2, WE_ok, WS_seq, fSub2, startM, List.replicate, fMod, fFdiv, insAt, A.get, List.lookup, da_l T.at_, e1, din not X, q, da_d X, dget X q, l1]
      refine WE_mono (p_total U' g c.sl) ?_
      rintro v h2 ⟨rfl, G2⟩
      have l2 : d.log2 + (tot (rowAt S st)).log2 < 1000000 := mul_log l.2 (by omega)
      simp [W_loc, W_con, W_bin, W_tb, W_tru, W_notT, W_andT, W_orT, W_not, W_and, W_if, W_nil, W_cons, W_tup, W_lst, W_d0, W_callB, W_callF, W_ret, W_expr, W_skip, W_set, W_ifS, W_par, W_asgG, W_gName, W_gNil, W_gCons, W_gTup, W_store, W_bM, W_bM0, W_fld, W_isi, W_chain, W_ii, W_ic, W_addI, W_mulI, W_int, W_abs, W_max2, W_min2, WE_ok, WS_seq, fSub2, startM, List.replicate, fMod, fFdiv, l2]
      exact ⟨n * p, d * tot (rowAt S st), j, ⟨by simp, by simp, rfl⟩, G.trans G2, c'⟩
theorem p_due {h : MH} {l rw_ : Nat} {rs : List Nat} {S : List (List En)} {m : Int} {row : List Str} {B : Nat} (T0 : Sts h l rs S) (g : Good S m) (em : m = (S.length : Int)) (m0 : 1 ≤ m) (W : At h rw_ (.lst (row.map Va.str))) (b : Bd S B row.length) :
    WE (m_law_due [.ref l, .ref rw_] h) fun v h' => v = chV S row ∧ Gr nob h h' := by
  refine WE_fn _ _ _ _ _ _ rfl ?_
  unfold b_law_due
  simp [W_loc, W_con, W_bin, W_tb, W_tru, W_notT, W_andT, W_orT, W_not, W_and, W_if, W_nil, W_cons, W_tup, W_lst, W_d0, W_callB, W_callF, W_ret, W_expr, W_skip, W_set, W_ifS, W_par, W_asgG, W_gName, W_gNil, W_gCons, W_gTup, W_store, W_bM, W_bM0, W_fld, W_isi, W_chain, W_ii, W_ic, W_addI, W_mulI, W_int, W_abs, W_max2, W_min2, WE_ok, WS_seq, fSub2, startM, List.replicate, fMod, fFdiv, WS_for, W_iter, wk_l W]
  refine ⟨by simp [sizeLine], ?_⟩
  refine loop_inv (fun i σ h' => ∃ n d st : Nat, ∃ x y, σ = [some (.ref l), some (.ref rw_), some (.int n), some (.int d), some (.int st), x, y] ∧ Gr nob h h' ∧ Ch S row B i n d st) row.length ?st ?en big 0 _ _ (by have := b.le; show _ < 1000000 + 0; omega) (Nat.zero_le _) ⟨1, 1, 0, _, _, rfl, Gr.refl _ _, rfl, by simp, by simp, by omega, by omega⟩
  case en =>
    rintro σ h' ⟨n, d, st, x, y, rfl, G, c⟩
    refine ⟨by rw [lst_at (G.at0 W)]; simp, ?_⟩
    have l := c.lt b (Nat.le_refl _)
    simp [W_loc, W_con, W_bin, W_tb, W_tru, W_notT, W_andT, W_orT, W_not, W_and, W_if, W_nil, W_cons, W_tup, W_lst, W_d0, W_callB, W_callF, W_ret, W_expr, W_skip, W_set, W_ifS, W_par, W_asgG, W_gName, W_gNil, W_gCons, W_gTup, W_store, W_bM, W_bM0, W_fld, W_isi, W_chain, W_ii, W_ic, W_addI, W_mulI, W_int, W_abs, W_max2, W_min2, WE_ok, WS_seq, fSub2, startM, List.replicate, fMod, fFdiv]
    refine WE_mono (p_lfrac c.d1 l.1 l.2) ?_
    rintro v h2 ⟨rfl, rfl⟩
    exact ⟨c.fin.symm, G⟩
  case st =>
    rintro i σ h' li ⟨n, d, st, x, y, rfl, G, c⟩
    refine ⟨.str row[i], by rw [lst_at (G.at0 W)]; simp [li], ?_⟩
    have T := T0.gr0 G
    have lr : st < rs.length := by rw [T.len]; exact c.sl
    have X := T.row st _ _ (List.getElem?_eq_getElem lr) (List.getElem?_eq_getElem c.sl)
    have e1 := f_ixL T.at_ st (v := .ref rs[st]) (by simp [lr])
    have er : rowAt S st = S[st]'c.sl := by simp [rowAt, c.sl]
    have O := (g.ok st _ (List.getElem?_eq_getElem c.sl)).1
    rw [← er] at X O
    cases q : lk (rowAt S st) row[i] with
    | none =>
      simp [W_loc, W_con, W_bin, W_tb, W_tru, W_notT, W_andT, W_orT, W_not, W_and, W_if, W_nil, W_cons, W_tup, W_lst, W_d0, W_callB, W_callF, W_ret, W_expr, W_skip, W_set, W_ifS, W_par, W_asgG, W_gName, W_gNil, W_gCons, W_gTup, W_store, W_bM, W_bM0, W_fld, W_isi, W_chain, W_ii, W_ic, W_addI, W_mulI, W_int, W_abs, W_max2, W_min2, WE_ok, WS_seq, fSub2, startM, List.replicate, fMod, fFdiv, da_l T.at_, e1, din not X, q, sizeLine]
      exact ⟨(c.none li q).symm, G⟩
    | some v =>
      obtain ⟨p, j⟩ := v
      have ok := O.ok _ (mem_lk q)
      simp at ok
      obtain ⟨p, rfl⟩ := Int.eq_ofNat_of_zero_le (show 0 ≤ p by omega)
      obtain ⟨j, rfl⟩ := Int.eq_ofNat_of_zero_le (show 0 ≤ j by omega)
      obtain ⟨c', pB, tB⟩ := c.step b g em li q
      have ll := c.lt b (Nat.le_of_lt li)
      have Bl : B < lid := by
        have : B ^ 1 ≤ B ^ row.length := Nat.pow_le_pow_right b.b1 (by omega)
        have := b.pw
        simp at *; omega
      have l1 : n.log2 + p.log2 < 1000000 := mul_log ll.1 (by omega)
      generalize hr : rs[st] = r at X e1
      simp [W_loc, W_con, W_bin, W_tb, W_tru, W_notT, W_andT, W_orT, W_not, W_and, W_if, W_nil, W_cons, W_tup, W_lst, W_d0, W_callB, W_callF, W_ret, W_expr, W_skip, W_set, W_ifS, W_par, W_asgG, W_gName, W_gNil, W_gCons, W_gTup, W_store, W_bM, W_bM0, W_fld, W_isi, W_chain, W_ii, W_ic, W_addI, W_mulI, W_int, W_abs, W_max2, W_min2, WE_ok, WS_seq, fSub2, startM, List.replicate, fMod, fFdiv, da_l T.at_, e1, din not X, q, da_d X, dget X q, l1, da_t, ixT0, WE_lc, W_walkD, wkDic, X.get, wipeM]
      refine WE_mono (p_parts (h := h'.put r (.lck ((rowAt S st).map kvOf))) (At.put X.lt _) O.l3 ?k) ?_
      case k =>
        intro p j h
        simp [W_loc, W_con, W_bin, W_tb, W_tru, W_notT, W_andT, W_orT, W_not, W_and, W_if, W_nil, W_cons, W_tup, W_lst, W_d0, W_callB, W_callF, W_ret, W_expr, W_skip, W_set, W_ifS, W_par, W_asgG, W_gName, W_gNil, W_gCons, W_gTup, W_store, W_bM, W_bM0, W_fld, W_isi, W_chain, W_ii, W_ic, W_addI, W_mulI, W_int, W_abs, W_max2, W_min2, WE_ok, WS_seq, fSub2, startM, List.replicate, fMod, fFdiv, da_t, ixT0]
      rintro v h2 ⟨rfl, L, G2⟩
      refine ⟨_, Gr.unlock' X G2, ?_⟩
      have ne : h'.n ≠ r := by have := X.lt; omega
      have L3 := L.put' (.dic ((rowAt S st).map kvOf)) ne
      have G3 := Gr.unlock X G2
      generalize h2.put r (.dic ((rowAt S st).map kvOf)) = h3 at L3 G3
      rw [show (h'.put r (.lck ((rowAt S st).map kvOf))).n = h'.n from rfl] at *
      have l2 : d.log2 + (tot (rowAt S st)).log2 < 1000000 := mul_log ll.2 (by omega)
      have T3 := T.gr0 G3
      have X3 := G3.at0 X
      have e3 := f_ixL T3.at_ st (v := .ref rs[st]) (by simp [lr])
      rw [hr] at e3
      simp only [fSum, la_l L3, ints_parts, WE_ok]
      rw [tot_sum fun e m => by have := O.ok e m; omega]
      simp [W_loc, W_con, W_bin, W_tb, W_tru, W_notT, W_andT, W_orT, W_not, W_and, W_if, W_nil, W_cons, W_tup, W_lst, W_d0, W_callB, W_callF, W_ret, W_expr, W_skip, W_set, W_ifS, W_par, W_asgG, W_gName, W_gNil, W_gCons, W_gTup, W_store, W_bM, W_bM0, W_fld, W_isi, W_chain, W_ii, W_ic, W_addI, W_mulI, W_int, W_abs, W_max2, W_min2, WE_ok, WS_seq, fSub2, startM, List.replicate, fMod, fFdiv, l2, da_l T3.at_, e3, da_d X3, dget X3 q, da_t, ixT1]
      exact ⟨n * p, d * tot (rowAt S st), j, ⟨by simp, by simp, rfl⟩, G.trans G3, c'⟩
end Lw
end

section
namespace Lw
open PySem L2 Mn

theorem add_l {h : MH} {a b : Nat} {xs ys : List Va} (A : At h a (.lst xs)) (B : At h b (.lst ys)) (e : xs.length + ys.length ≤ sizeLine) : fAdd (.ref a) (.ref b) h = .ok (.ref h.n) (h.push (.lst (xs ++ ys))) := by
  simp [fAdd, A.get, B.get, e, newO]

def rws : List Str := nms ++ [Str.ofString "zzz"]

structure Row (h0 : MH) (f : Nat) (v : Va) (h : MH) : Prop where
  ex : ∃ (lr : Nat) (row : List Str), v = .ref lr ∧ At h lr (.lst (row.map Va.str)) ∧ row.length ≤ 8 ∧ (∀ x ∈ row, x ∈ rws) ∧ h0.n ≤ lr
  F : Fe h f
  G : Gr (· = f) h0 h

structure Rw (h0 : MH) (f fo j : Nat) (S : List (List En)) (h : MH) (row : List Str) (st : Nat) : Prop where
  A : At h fo (.lst (row.map Va.str))
  len : row.length = j
  sl : st < S.length
  F : Fe h f
  G : Gr (· = f) h0 h
  sub : ∀ x ∈ row, x ∈ rws

theorem p_row {h : MH} {f l nm : Nat} {rs : List Nat} {S : List (List En)} {m : Int} (F : Fe h f) (T : Sts h l rs S) (lf : l ≠ f) (N : At h nm (.lst (nms.map Va.str))) (nf : nm ≠ f) (g : Good S m) (em : m = (S.length : Int)) (m0 : 1 ≤ m) :
    WE (m_law_row [.ref f, .ref l, .ref nm] h) (Row h f) := by
  refine WE_fn _ _ _ _ _ _ rfl ?_
  unfold b_law_row
  simp [W_loc, W_con, W_bin, W_tb, W_tru, W_notT, W_andT, W_orT, W_not, W_and, W_if, W_nil, W_cons, W_tup, W_lst, W_d0, W_callB, W_callF, W_ret, W_expr, W_skip, W_set, W_ifS, W_par, W_asgG, W_gName, W_gNil, W_gCons, W_gTup, W_store, W_bM, W_bM0, W_fld, W_isi, W_chain, W_ii, W_ic, W_addI, W_mulI, W_int, W_abs, W_max2, W_min2, WE_ok, WS_seq, fSub2, startM, List.replicate, fMod, fFdiv, WS_for, W_rng1]
  have f0 := F.lt
  refine WE_mono (p_take (F.gr (Gr.push _ _ (.lst []))) (by omega) (by omega)) ?_
  rintro v h1 ⟨t, rfl, t0, t1, F1, G1, n1⟩
  have A1 := G1.at_ (At.push h (.lst [])) (by omega)
  simp [W_loc, W_con, W_bin, W_tb, W_tru, W_notT, W_andT, W_orT, W_not, W_and, W_if, W_nil, W_cons, W_tup, W_lst, W_d0, W_callB, W_callF, W_ret, W_expr, W_skip, W_set, W_ifS, W_par, W_asgG, W_gName, W_gNil, W_gCons, W_gTup, W_store, W_bM, W_bM0, W_fld, W_isi, W_chain, W_ii, W_ic, W_addI, W_mulI, W_int, W_abs, W_max2, W_min2, WE_ok, WS_seq, fSub2, startM, List.replicate, fMod, fFdiv]
  refine ⟨by simp [l62]; omega, ?_⟩
  refine loop_inv (fun j σ h' => ∃ (row : List Str) (st : Nat), ∃ x y, σ = [some (.ref f), some (.ref l), some (.ref nm), some (.ref h.n), some (.int st), x, y] ∧ Rw h f h.n j S h' row st) t.toNat ?st ?en big 0 _ _ (by show _ < 1000000 + 0; omega) (Nat.zero_le _) ⟨[], 0, _, _, rfl, A1, rfl, by omega, F1, (Gr.push _ _ _).trans G1, by simp⟩
  case en =>
    rintro σ h' ⟨row, st, x, y, rfl, R⟩
    refine ⟨rng_eq _ _, ?_⟩
    simp
    exact ⟨⟨h.n, row, rfl, R.A, by have := R.len; omega, R.sub, Nat.le_refl _⟩, R.F, R.G⟩
  case st =>
    rintro j σ h' lj ⟨row, st, x, y, rfl, R⟩
    refine ⟨.int j, rng_lt lj _, ?_⟩
    have T' := T.gr F lf R.G
    have lr : st < rs.length := by rw [T.len]; exact R.sl
    have X := T'.row st _ _ (List.getElem?_eq_getElem lr) (List.getElem?_eq_getElem R.sl)
    have e1 := f_ixL T'.at_ st (v := .ref rs[st]) (by simp [lr])
    have O := (g.ok st _ (List.getElem?_eq_getElem R.sl)).1
    generalize hS : S[st]'R.sl = s at X O
    generalize hr : rs[st] = r at X e1
    simp [W_loc, W_con, W_bin, W_tb, W_tru, W_notT, W_andT, W_orT, W_not, W_and, W_if, W_nil, W_cons, W_tup, W_lst, W_d0, W_callB, W_callF, W_ret, W_expr, W_skip, W_set, W_ifS, W_par, W_asgG, W_gName, W_gNil, W_gCons, W_gTup, W_store, W_bM, W_bM0, W_fld, W_isi, W_chain, W_ii, W_ic, W_addI, W_mulI, W_int, W_abs, W_max2, W_min2, WE_ok, WS_seq, fSub2, startM, List.replicate, fMod, fFdiv, da_l T'.at_, e1]
    refine p_key R.F X O _ ?_
    intro e me h2 F2 G2
    refine WE_mono (p_take F2 (by omega) (by omega)) ?_
    rintro v h3 ⟨d, rfl, d0, d1, F3, G3, n3⟩
    have G23 := G2.trans G3
    have fo : h.n ≠ f := by omega
    have L3 := G23.at_ R.A fo
    have N3 := (R.G.trans G23).at_ N nf
    have ke : e.1 ∈ rws := List.mem_append_left _ (O.ok e me).1
    have rl : row.length < sizeLine := by have := R.len; simp [sizeLine]; omega
    by_cases z : d = 0
    · subst z
      simp [W_loc, W_con, W_bin, W_tb, W_tru, W_notT, W_andT, W_orT, W_not, W_and, W_if, W_nil, W_cons, W_tup, W_lst, W_d0, W_callB, W_callF, W_ret, W_expr, W_skip, W_set, W_ifS, W_par, W_asgG, W_gName, W_gNil, W_gCons, W_gTup, W_store, W_bM, W_bM0, W_fld, W_isi, W_chain, W_ii, W_ic, W_addI, W_mulI, W_int, W_abs, W_max2, W_min2, WE_ok, WS_seq, fSub2, startM, List.replicate, fMod, fFdiv, eq_i]
      refine ⟨by simp [sizeLine], ?_⟩
      rw [add_l (N3.push' _) (At.push h3 (.lst [.str "zzz"])) (by simp [nms, sizeLine]), WE_ok]
      have G5 := (Gr.push nob h3 (.lst [Va.str "zzz"])).trans (Gr.push nob _ (.lst (nms.map Va.str ++ [.str "zzz"])))
      have A5 := At.push (h3.push (.lst [.str "zzz"])) (.lst (nms.map Va.str ++ [.str "zzz"]))
      rw [show (h3.push (.lst [Va.str "zzz"])).n = h3.n + 1 from rfl] at *
      have F5 := F3.gr G5
      have L5 := G5.at0 L3
      have f3 := F3.lt
      generalize ((h3.push (.lst [Va.str "zzz"])).push (.lst (nms.map Va.str ++ [.str "zzz"]))) = h5 at G5 A5 F5 L5
      refine WE_mono (p_pick F5 A5 (by omega) (by simp) (by simp [nms])) ?_
      rintro v h6 ⟨v1, F6, G6, n6⟩
      have vx : ∃ x ∈ rws, v = .str x := by
        have : v ∈ rws.map Va.str := by simpa [rws] using v1
        obtain ⟨x, hx, rfl⟩ := List.mem_map.mp this
        exact ⟨x, hx, rfl⟩
      obtain ⟨x, hx, rfl⟩ := vx
      have L6 := G6.at_ L5 fo
      have GG := ((R.G.trans G23).trans G5.none).trans G6
      rw [add_l (L6.push' _) (At.push h6 _) (by simp; omega), WE_ok]
      have A8 := At.push (h6.push (.lst [Va.str x])) (.lst (row.map Va.str ++ [.str x]))
      have G8 := (Gr.push nob h6 (.lst [Va.str x])).trans (Gr.push nob _ (.lst (row.map Va.str ++ [.str x])))
      have F8 := F6.gr G8
      have b8 : h.n ≤ ((h6.push (.lst [Va.str x])).push (.lst (row.map Va.str ++ [.str x]))).n := by have := GG.n; have := G8.n; omega
      generalize hh : ((h6.push (.lst [Va.str x])).push (.lst (row.map Va.str ++ [.str x]))) = h8 at A8 G8 F8 b8
      refine ⟨by simp [sizeLine], by simp [sizeLine], ?_⟩
      rw [add_l (A8.push' _) (At.push h8 _) (by have := R.len; simp [sizeLine]; omega), WE_ok]
      refine ⟨⟨_, row ++ [x] ++ [e.1], rfl, ?_, by have := R.len; simp; omega, ?_, ?_⟩, (F8.gr (Gr.push _ _ _)).gr (Gr.push _ _ _), GG.trans (G8.trans ((Gr.push _ _ _).trans (Gr.push _ _ _))).none⟩
      · rw [show (row ++ [x] ++ [e.1]).map Va.str = row.map Va.str ++ [.str x] ++ [.str e.1] by simp]
        exact At.push _ _
      · intro y hy
        simp at hy
        rcases hy with hy | rfl | rfl
        · exact R.sub y hy
        · exact hx
        · exact ke
      · show h.n ≤ h8.n + 1
        omega
    · have X3 := G23.at_ X (R.F.ne X)
      have T3 := T'.gr R.F lf G23
      have L4 := At.put L3.lt (.lst (row.map Va.str ++ [Va.str e.1]))
      have G4 := (R.G.trans G23).putN h.n (.lst (row.map Va.str ++ [Va.str e.1])) (Nat.le_refl _)
      have F4 := F3.put (i := h.n) (o := .lst (row.map Va.str ++ [Va.str e.1])) fo
      have T4 := T.gr F lf G4
      have X4 := T4.row st _ _ (List.getElem?_eq_getElem lr) (List.getElem?_eq_getElem R.sl)
      rw [hS, hr] at X4
      have e4 := f_ixL T4.at_ st (v := .ref rs[st]) (by simp [lr])
      rw [hr] at e4
      have ok := O.ok e me
      have ek := lk_mem O.nd me
      simp [W_loc, W_con, W_bin, W_tb, W_tru, W_notT, W_andT, W_orT, W_not, W_and, W_if, W_nil, W_cons, W_tup, W_lst, W_d0, W_callB, W_callF, W_ret, W_expr, W_skip, W_set, W_ifS, W_par, W_asgG, W_gName, W_gNil, W_gCons, W_gTup, W_store, W_bM, W_bM0, W_fld, W_isi, W_chain, W_ii, W_ic, W_addI, W_mulI, W_int, W_abs, W_max2, W_min2, WE_ok, WS_seq, fSub2, startM, List.replicate, fMod, fFdiv, eq_i, z, la_l L3, app_l L3 _ (show (row.map Va.str).length < sizeLine by simpa using rl), da_l T4.at_, e4, da_d X4, dget X4 ek, da_t, ixT1]
      obtain ⟨j2, ej⟩ := Int.eq_ofNat_of_zero_le ok.2.2.2.1
      refine ⟨row ++ [e.1], j2, by simpa using ej, by simpa using L4, by have := R.len; simp; omega, by omega, F4, G4, ?_⟩
      intro y hy
      simp at hy
      rcases hy with hy | rfl
      · exact R.sub y hy
      · exact ke
end Lw
end

section
namespace Lw
open PySem L2 Mn

def ratV (q : Rat) : Va := .tup [.int q.num, .int (q.den : Int)]
def rsum : List Rat → Rat
  | [] => 0
  | q :: r => q + rsum r
theorem rsum_app (a b : List Rat) : rsum (a ++ b) = rsum a + rsum b := by
  induction a with
  | nil => simp [rsum, Rat.zero_add]
  | cons q r ih => simp [rsum, ih, Rat.add_assoc]

theorem red_rat {t b : Nat} (p : 0 < b) : red t b = ratV (mkRat t b) := by
  unfold red ratV
  rw [Rat.num_mkRat, Rat.den_mkRat, if_neg (by omega), if_neg (by omega), Int.natAbs_natCast, Nat.gcd_comm b t]
  simp

theorem mk_same {a b : Int} {D : Nat} (p : D ≠ 0) : mkRat a D + mkRat b D = mkRat (a + b) D := by
  rw [Rat.mkRat_add_mkRat _ _ p p, Rat.mkRat_eq_iff (Nat.mul_ne_zero p p) p]
  push_cast
  rw [← Int.add_mul, Int.mul_assoc]

/-- what may be added up -/
structure Qs (q : Rat) : Prop where
  n0 : 0 ≤ q.num
  n1 : q.num ≤ q.den
  d : q.den ≤ 27 ^ 9

theorem p_added {h : MH} {l : Nat} {qs : List Rat} (L : At h l (.lst (qs.map ratV))) (k : ∀ q ∈ qs, Qs q) (l9 : qs.length ≤ 9) :
    WE (m_law_added [.ref l] h) fun v h' => v = ratV (rsum qs) ∧ h' = h := by
  refine WE_fn _ _ _ _ _ _ rfl ?_
  unfold b_law_added
  simp [W_loc, W_con, W_bin, W_tb, W_tru, W_notT, W_andT, W_orT, W_not, W_and, W_if, W_nil, W_cons, W_tup, W_lst, W_d0, W_callB, W_callF, W_ret, W_expr, W_skip, W_set, W_ifS, W_par, W_asgG, W_gName, W_gNil, W_gCons, W_gTup, W_store, W_bM, W_bM0, W_fld, W_isi, W_chain, W_ii, W_ic, W_addI, W_mulI, W_int, W_abs, W_max2, W_min2, WE_ok, WS_seq, fSub2, startM, List.replicate, fMod, fFdiv, WS_for, W_iter, wk_l L]
  refine ⟨by simp [sizeLine], ?_⟩
  have bn : ∀ i b : Nat, i ≤ 9 → b ≤ (27 ^ 9) ^ i → 10 * b < lid := by
    intro i b hi hb
    have h1 : (27 ^ 9) ^ i ≤ (27 ^ 9) ^ 9 := Nat.pow_le_pow_right (by omega) hi
    have h2 : 10 * (27 ^ 9) ^ 9 < 2 ^ 400 := by decide
    have h3 : 2 ^ 400 ≤ lid := Nat.pow_le_pow_right (by omega) (by omega)
    omega
  refine loop_inv (fun i σ h' => ∃ t b : Nat, ∃ x, σ = [some (.ref l), some (.int t), some (.int b), x] ∧ h' = h ∧ 0 < b ∧ b ≤ (27 ^ 9) ^ i ∧ t ≤ i * b ∧ mkRat t b = rsum (qs.take i)) qs.length ?st ?en big 0 _ _ (by show _ < 1000000 + 0; omega) (Nat.zero_le _) ⟨0, 1, _, rfl, rfl, by omega, by simp, by omega, ?z⟩
  case z => simp [rsum]
  case en =>
    rintro σ h' ⟨t, b, x, rfl, rfl, b0, bb, tb, e⟩
    refine ⟨by rw [lst_at L]; simp, ?_⟩
    rw [List.take_length] at e
    rw [← e]
    have hb := bn _ b l9 bb
    have ht : t < lid := by
      have : qs.length * b ≤ 9 * b := Nat.mul_le_mul_right b l9
      omega
    by_cases z : t = 0
    · subst z
      simp [W_loc, W_con, W_bin, W_tb, W_tru, W_notT, W_andT, W_orT, W_not, W_and, W_if, W_nil, W_cons, W_tup, W_lst, W_d0, W_callB, W_callF, W_ret, W_expr, W_skip, W_set, W_ifS, W_par, W_asgG, W_gName, W_gNil, W_gCons, W_gTup, W_store, W_bM, W_bM0, W_fld, W_isi, W_chain, W_ii, W_ic, W_addI, W_mulI, W_int, W_abs, W_max2, W_min2, WE_ok, WS_seq, fSub2, startM, List.replicate, fMod, fFdiv, fGt, sizeLine, ratV]
    · have z' : (0 : Int) < t := by omega
      simp [W_loc, W_con, W_bin, W_tb, W_tru, W_notT, W_andT, W_orT, W_not, W_and, W_if, W_nil, W_cons, W_tup, W_lst, W_d0, W_callB, W_callF, W_ret, W_expr, W_skip, W_set, W_ifS, W_par, W_asgG, W_gName, W_gNil, W_gCons, W_gTup, W_store, W_bM, W_bM0, W_fld, W_isi, W_chain, W_ii, W_ic, W_addI, W_mulI, W_int, W_abs, W_max2, W_min2, WE_ok, WS_seq, fSub2, startM, List.replicate, fMod, fFdiv, fGt, z']
      refine .inr ⟨by omega, ?_⟩
      refine WE_mono (p_lfrac b0 ht (by omega)) ?_
      rintro v h2 ⟨rfl, rfl⟩
      exact ⟨red_rat b0, rfl⟩
  case st =>
    rintro i σ h' li ⟨t, b, x, rfl, rfl, b0, bb, tb, e⟩
    refine ⟨ratV qs[i], by rw [lst_at L]; simp [li], ?_⟩
    have Q := k _ (List.getElem_mem li)
    have e2 : rsum (qs.take (i + 1)) = mkRat t b + qs[i] := by
      rw [List.take_add_one, List.getElem?_eq_getElem li, rsum_app, ← e]
      simp [rsum, Rat.add_zero]
    generalize qs[i] = q at Q e2
    obtain ⟨n, en⟩ := Int.eq_ofNat_of_zero_le Q.n0
    have hb := bn i b (by omega) bb
    have n1 := Q.n1
    have d1 := Q.d
    have d0 := q.den_pos
    have eq : q = mkRat n q.den := by rw [← en]; exact (Rat.mkRat_self q).symm
    have e3 : rsum (qs.take (i + 1)) = mkRat ((t * q.den + n * b : Nat) : Int) (b * q.den) := by
      rw [e2]
      conv => lhs; rw [eq]
      rw [Rat.mkRat_add_mkRat _ _ (by omega) (by omega)]
      push_cast; rfl
    have it : i * b ≤ 9 * b := Nat.mul_le_mul_right b (by omega)
    have dl : q.den < lid := by
      have := bn 1 (27 ^ 9) (by omega) (by simp)
      omega
    have nl : n < lid := by omega
    have l1 := mul_log (show t < lid by omega) dl
    have l2 := mul_log nl (show b < lid by omega)
    have l3 := mul_log (show b < lid by omega) dl
    have bb2 : b * q.den ≤ (27 ^ 9) ^ (i + 1) := by
      rw [Nat.pow_succ]
      exact Nat.mul_le_mul bb d1
    have tb2 : t * q.den + n * b ≤ (i + 1) * (b * q.den) := by
      have h1 : t * q.den ≤ i * b * q.den := Nat.mul_le_mul_right _ tb
      have h2 : n * b ≤ q.den * b := Nat.mul_le_mul_right _ (by omega)
      rw [Nat.add_mul, Nat.one_mul, ← Nat.mul_assoc, Nat.mul_comm b q.den]
      omega
    have d2 : 0 < b * q.den := Nat.mul_pos b0 d0
    unfold ratV
    simp [W_loc, W_con, W_bin, W_tb, W_tru, W_notT, W_andT, W_orT, W_not, W_and, W_if, W_nil, W_cons, W_tup, W_lst, W_d0, W_callB, W_callF, W_ret, W_expr, W_skip, W_set, W_ifS, W_par, W_asgG, W_gName, W_gNil, W_gCons, W_gTup, W_store, W_bM, W_bM0, W_fld, W_isi, W_chain, W_ii, W_ic, W_addI, W_mulI, W_int, W_abs, W_max2, W_min2, WE_ok, WS_seq, fSub2, startM, List.replicate, fMod, fFdiv, en, da_t, ixT0, ixT1, l1, l2, l3]
    exact ⟨_, _, ⟨by push_cast; rfl, by push_cast; rfl⟩, d2, by simpa using bb2, tb2, e3.symm⟩
/-! ### the chances as rationals -/
def qOf : Option (Nat × Nat) → Rat
  | none => 0
  | some (n, d) => mkRat n d
def chq (S : List (List En)) (row : List Str) : Rat := qOf (stp S row 1 1 0)

theorem rowAt_ok {S : List (List En)} {m : Int} (g : Good S m) {i : Nat} (li : i < S.length) : RowOk m (rowAt S i) := by
  have := (g.ok i _ (List.getElem?_eq_getElem li)).1
  simpa [rowAt, li] using this
theorem tot_pos {S : List (List En)} {m : Int} (g : Good S m) {i : Nat} (li : i < S.length) : 0 < tot (rowAt S i) := by
  have O := rowAt_ok g li
  cases e : rowAt S i with
  | nil => have := O.l1; rw [e] at this; simp at this
  | cons a r =>
    have me : a ∈ rowAt S i := by rw [e]; exact List.mem_cons_self
    have := O.ok a me
    have := le_tot (s := rowAt S i) me
    rw [e] at this
    omega

theorem stp_ok {S : List (List En)} {m : Int} {B : Nat} (g : Good S m) (em : m = (S.length : Int)) (hB : ∀ i, i < S.length → tot (rowAt S i) ≤ B) (row : List Str) :
    ∀ n d i n' d', i < S.length → n ≤ d → 0 < d → stp S row n d i = some (n', d') → n' ≤ d' ∧ 0 < d' ∧ d' ≤ d * B ^ row.length := by
  induction row with
  | nil =>
    intro n d i n' d' li l p e
    cases e
    simp [l, p]
  | cons x r ih =>
    intro n d i n' d' li l p e
    unfold stp at e
    cases q : lk (rowAt S i) x with
    | none => rw [q] at e; cases e
    | some v =>
      obtain ⟨pp, j⟩ := v
      rw [q] at e
      have mm := mem_lk q
      have o := (rowAt_ok g li).ok _ mm
      simp at o
      have lt := le_tot mm
      simp at lt
      have tp := tot_pos g li
      obtain ⟨a, b, c⟩ := ih _ _ _ n' d' (by omega) (Nat.mul_le_mul l (by omega)) (Nat.mul_pos p tp) e
      refine ⟨a, b, Nat.le_trans c ?_⟩
      rw [List.length_cons, Nat.pow_succ, Nat.mul_assoc, Nat.mul_comm (B ^ r.length) B, ← Nat.mul_assoc, ← Nat.mul_assoc]
      exact Nat.mul_le_mul_right _ (Nat.mul_le_mul_left d (hB i li))

theorem chV_rat {S : List (List En)} {m : Int} (g : Good S m) (em : m = (S.length : Int)) (m0 : 1 ≤ m) (row : List Str) {B : Nat} (hB : ∀ i, i < S.length → tot (rowAt S i) ≤ B) : chV S row = ratV (chq S row) := by
  unfold chV chq
  cases e : stp S row 1 1 0 with
  | none => rfl
  | some v =>
    obtain ⟨n, d⟩ := v
    have := stp_ok g em hB row 1 1 0 n d (by omega) (Nat.le_refl _) (by omega) e
    exact red_rat this.2.1

theorem chq_ok0 {S : List (List En)} {m : Int} (g : Good S m) (em : m = (S.length : Int)) (m0 : 1 ≤ m) (row : List Str) {B : Nat} (b1 : 1 ≤ B) (hB : ∀ i, i < S.length → tot (rowAt S i) ≤ B) : 0 ≤ (chq S row).num ∧ (chq S row).num ≤ (chq S row).den ∧ (chq S row).den ≤ B ^ row.length := by
  unfold chq
  cases e : stp S row 1 1 0 with
  | none => exact ⟨by decide, by decide, Nat.pow_pos b1⟩
  | some v =>
    obtain ⟨n, d⟩ := v
    obtain ⟨a, b, c⟩ := stp_ok g em hB row 1 1 0 n d (by omega) (Nat.le_refl _) (by omega) e
    have h1 : (mkRat n d).num = ((n / Nat.gcd n d : Nat) : Int) := by
      rw [Rat.num_mkRat, if_neg (by omega), Int.natAbs_natCast, Nat.gcd_comm d n]; simp
    have h2 : (mkRat n d).den = d / Nat.gcd n d := by
      rw [Rat.den_mkRat, if_neg (by omega), Int.natAbs_natCast, Nat.gcd_comm d n]
    show 0 ≤ (mkRat n d).num ∧ (mkRat n d).num ≤ (mkRat n d).den ∧ (mkRat n d).den ≤ B ^ row.length
    refine ⟨by rw [h1]; exact Int.natCast_nonneg _, ?_, ?_⟩
    · rw [h1, h2]
      exact Int.ofNat_le.mpr (Nat.div_le_div_right (c := Nat.gcd n d) a)
    · rw [h2]
      have h4 := Nat.div_le_self d (Nat.gcd n d)
      rw [Nat.one_mul] at c
      omega
theorem chq_ok {S : List (List En)} {m : Int} (g : Good S m) (em : m = (S.length : Int)) (m0 : 1 ≤ m) (row : List Str) (hB : ∀ i, i < S.length → tot (rowAt S i) ≤ 27) (l : row.length ≤ 9) : Qs (chq S row) := by
  obtain ⟨a, b, c⟩ := chq_ok0 g em m0 row (by omega) hB
  exact ⟨a, b, Nat.le_trans c (Nat.pow_le_pow_right (by omega) l)⟩

/-- one name's part of a row -/
def prt (s : List En) (x : Str) : Nat := match lk s x with
  | none => 0
  | some v => v.1.toNat
theorem prt_cons (e : En) (s : List En) (x : Str) (nd : e.1 ∉ s.map (·.1)) : prt (e :: s) x = (if e.1 = x then e.2.1.toNat else 0) + prt s x := by
  unfold prt
  simp only [lk]
  by_cases z : e.1 = x
  · simp only [z, if_true]
    have : lk s x = none := by
      cases q : lk s x with
      | none => rfl
      | some v => exact (nd (z ▸ List.mem_map.mpr ⟨_, mem_lk q, rfl⟩)).elim
    rw [this]; rfl
  · simp [z]
theorem prt_sum {s : List En} (nd : (s.map (·.1)).Nodup) (k : ∀ e ∈ s, e.1 ∈ nms) : prt s "ski" + prt s "a" + prt s "end" = tot s := by
  induction s with
  | nil => rfl
  | cons e r ih =>
    have nd' := List.nodup_cons.mp nd
    have := ih nd'.2 fun e m => k e (List.mem_cons_of_mem _ m)
    rw [prt_cons _ _ _ nd'.1, prt_cons _ _ _ nd'.1, prt_cons _ _ _ nd'.1]
    have ht : tot (e :: r) = e.2.1.toNat + tot r := rfl
    rw [ht, ← this]
    have me := k e List.mem_cons_self
    simp only [nms, List.mem_cons, List.not_mem_nil, or_false] at me
    have n1 : (Str.ofString "ski") ≠ Str.ofString "a" := by decide
    have n2 : (Str.ofString "ski") ≠ Str.ofString "end" := by decide
    have n3 : (Str.ofString "a") ≠ Str.ofString "end" := by decide
    rcases me with q | q | q <;> simp [q, n1, n2, n3, Ne.symm n1, Ne.symm n2, Ne.symm n3] <;> omega

theorem q_one (n d p T : Nat) (s : List En) (x : Str) (h : T ≠ 0) (hd : d ≠ 0) : (match lk s x with
    | none => (0 : Rat)
    | some v => mkRat ((n * v.1.toNat : Nat) : Int) (d * T)) = mkRat ((n * prt s x : Nat) : Int) (d * T) := by
  unfold prt
  cases lk s x with
  | none => simp
  | some v => rfl

theorem three {S : List (List En)} {m : Int} (g : Good S m) (em : m = (S.length : Int)) (row : List Str) :
    ∀ n d i, i < S.length → 0 < d → qOf (stp S (row ++ [Str.ofString "ski"]) n d i) + (qOf (stp S (row ++ [Str.ofString "a"]) n d i) + (qOf (stp S (row ++ [Str.ofString "end"]) n d i) + 0)) = qOf (stp S row n d i) := by
  induction row with
  | nil =>
    intro n d i li d0
    have O := rowAt_ok g li
    have tp := tot_pos g li
    have ps := prt_sum O.nd fun e m => (O.ok e m).1
    have one : ∀ x, qOf (stp S ([] ++ [x]) n d i) = mkRat ((n * prt (rowAt S i) x : Nat) : Int) (d * tot (rowAt S i)) := by
      intro x
      rw [← q_one n d 0 (tot (rowAt S i)) (rowAt S i) x (by omega) (by omega)]
      simp only [List.nil_append, stp]
      cases lk (rowAt S i) x with
      | none => rfl
      | some v => rfl
    rw [one, one, one]
    have z : d * tot (rowAt S i) ≠ 0 := Nat.mul_ne_zero (by omega) (by omega)
    rw [Rat.add_zero, mk_same z, mk_same z]
    show _ = mkRat n d
    rw [Rat.mkRat_eq_iff z (by omega), ← ps]
    push_cast
    grind
  | cons y r ih =>
    intro n d i li d0
    simp only [List.cons_append, stp]
    cases q : lk (rowAt S i) y with
    | none => simp [qOf, Rat.add_zero]
    | some v =>
      obtain ⟨p, j⟩ := v
      have o := (rowAt_ok g li).ok _ (mem_lk q)
      simp at o
      exact ih _ _ _ (by omega) (Nat.mul_pos d0 (tot_pos g li))

theorem chq3 {S : List (List En)} {m : Int} (g : Good S m) (em : m = (S.length : Int)) (m0 : 1 ≤ m) (row : List Str) : rsum ((nms.map fun x => row ++ [x]).map (chq S)) = chq S row :=
  three g em row 1 1 0 (by omega) (by omega)
theorem chq_wide {S : List (List En)} {m : Int} (g : Good S m) (em : m = (S.length : Int)) (m0 : 1 ≤ m) (R : List (List Str)) : rsum ((R.flatMap fun row => nms.map fun x => row ++ [x]).map (chq S)) = rsum (R.map (chq S)) := by
  induction R with
  | nil => rfl
  | cons a r ih =>
    rw [List.flatMap_cons, List.map_append, rsum_app, ih, chq3 g em m0]
    rfl
end Lw
end

section
namespace Lw
open PySem L2 Mn
open PyProof.Rows

theorem strOk_of {x : Str} (h : ∀ k ∈ x.cps.toList, k < 0x110000) : PyData.strOk x = true := by
  unfold PyData.strOk
  rw [Array.all_eq_true']
  intro k hk
  simpa using h k (by simpa using hk)
theorem shown_rws : ∀ x ∈ rws, PyData.strOk (PyData.shown (.str x)) = true ∧ PyData.strOk x = true ∧ PyData.weight (.str x) ≤ 100 := by decide +kernel
theorem strOk_mem {x : Str} (o : PyData.strOk x = true) {k : Nat} (m : k ∈ x.cps.toList) : k < 0x110000 := by
  unfold PyData.strOk at o
  rw [Array.all_eq_true'] at o
  simpa using o k (by simpa using m)

theorem repr_t (h : MH) {a b : Int} (la : a.natAbs < 10 ^ 12) (lb : b.natAbs < 10 ^ 12) : ∃ x, PyData.strOk x = true ∧ ∀ h, fRepr [.tup [.int a, .int b]] h = .ok (.str x) h := by
  refine ⟨(PyData.tuple [.int a, .int b]).shown, ?_, ?_⟩
  · apply strOk_of
    intro k hk
    rcases Nat.lt_or_ge k 0x110000 with q | q
    · exact q
    rw [PyData.shown_tuple, mem_cps_append, mem_cps_append, mem_join] at hk
    exfalso
    rcases hk with (hk | (⟨t, ht, hk⟩ | ⟨_, hk⟩)) | hk
    · have : (Str.ofString "(").cps.toList = [40] := by decide
      rw [this] at hk; simp at hk; omega
    · rw [PyData.shownAll_cons, PyData.shownAll_cons, PyData.shownAll_nil] at ht
      simp at ht
      rcases ht with rfl | rfl
      · exact shown_int_free' (k := k) (by omega) _ hk
      · exact shown_int_free' (k := k) (by omega) _ hk
    · have : (Str.ofString ", ").cps.toList = [44, 32] := by decide
      rw [this] at hk; simp at hk; omega
    · have : ∀ k ∈ (Str.ofString ")").cps, k = 41 := by decide
      simp at hk
      have := this k hk; omega
  · intro h
    have l1 : a.natAbs.log2 < 1920 := log2_lt (Nat.lt_trans la (by decide)) (by omega)
    have l2 : b.natAbs.log2 < 1920 := log2_lt (Nat.lt_trans lb (by decide)) (by omega)
    have s1 := PyData.shown_int_le la
    have s2 := PyData.shown_int_le lb
    have len : (PyData.tuple [.int a, .int b]).shown.length ≤ 15728653 := shown_le13 (by simp [PyData.layable0, PyData.canLay0, PyData.canLayAll0, PyData.depth, PyData.depthAll, PyData.weight, PyData.weightAll]; split <;> split <;> omega) (by simp [PyData.intsShort, PyData.intsShortAll, s1, s2])
    have c : ((PyData.tuple [.int a, .int b]).showable && (!(PyData.tuple [.int a, .int b]).hasDict && (Nat.ble (PyData.tuple [.int a, .int b]).depth 60 && Nat.ble (PyData.tuple [.int a, .int b]).shown.length sizeLine))) = true := by
      have b2 : Nat.ble (PyData.tuple [.int a, .int b]).shown.length sizeLine = true := Nat.ble_eq.mpr (by simp [sizeLine]; omega)
      rw [b2]
      simp [PyData.showable, PyData.showableAll, PyData.hasDict, PyData.hasDictAll, PyData.depth, PyData.depthAll, l1, l2]
    show cond _ _ _ = _
    rw [c]
    rfl

theorem allD_str (h : MH) (xs : List Str) : allD (toD 39 h) (xs.map Va.str) = some (xs.map PyData.str) := by
  induction xs with
  | nil => rfl
  | cons a r ih =>
    simp only [List.map_cons, allD, ih]
    rfl
theorem row_facts {row : List Str} (k : ∀ x ∈ row, x ∈ rws) : PyData.canLayAll0 (row.map PyData.str) = true ∧ PyData.depthAll (row.map PyData.str) = 0 ∧ PyData.weightAll (row.map PyData.str) ≤ 200 * row.length ∧ PyData.intsShortAll 13 (row.map PyData.str) = true ∧ PyData.showableAll (row.map PyData.str) = true ∧ PyData.hasDictAll (row.map PyData.str) = false ∧ ∀ t ∈ PyData.shownAll (row.map PyData.str), PyData.strOk t = true := by
  induction row with
  | nil => simp [PyData.canLayAll0, PyData.depthAll, PyData.weightAll, PyData.intsShortAll, PyData.showableAll, PyData.hasDictAll, PyData.shownAll]
  | cons a r ih =>
    obtain ⟨h1, h2, h3, h4, h5, h6, h7⟩ := ih fun x m => k x (List.mem_cons_of_mem _ m)
    obtain ⟨s1, s2, s3⟩ := shown_rws a (k a List.mem_cons_self)
    refine ⟨by simp [PyData.canLayAll0, PyData.canLay0, s2, h1], by simp [PyData.depthAll, PyData.depth, h2], ?_, by simp [PyData.intsShortAll, PyData.intsShort, h4], by simp [PyData.showableAll, PyData.showable, h5], by simp [PyData.hasDictAll, PyData.hasDict, h6], ?_⟩
    · simp only [List.map_cons, PyData.weightAll, List.length_cons]
      omega
    · intro t ht
      rw [List.map_cons, PyData.shownAll_cons] at ht
      rcases List.mem_cons.mp ht with rfl | ht
      · exact s1
      · exact h7 t ht

theorem repr_r {row : List Str} (k : ∀ x ∈ row, x ∈ rws) (l : row.length ≤ 9) : ∃ x, PyData.strOk x = true ∧ ∀ h lr, At h lr (.lst (row.map Va.str)) → fRepr [.ref lr] h = .ok (.str x) h := by
  obtain ⟨h1, h2, h3, h4, h5, h6, h7⟩ := row_facts k
  refine ⟨(PyData.list (row.map .str)).shown, ?_, ?_⟩
  · apply strOk_of
    intro c hc
    rw [PyData.shown_list, mem_cps_append, mem_cps_append, mem_join] at hc
    rcases hc with (hk | (⟨t, ht, hk⟩ | ⟨_, hk⟩)) | hk
    · have : (Str.ofString "[").cps.toList = [91] := by decide
      rw [this] at hk; simp at hk; omega
    · exact strOk_mem (h7 t ht) hk
    · have : (Str.ofString ", ").cps.toList = [44, 32] := by decide
      rw [this] at hk; simp at hk; omega
    · have : (Str.ofString "]").cps.toList = [93] := by decide
      rw [this] at hk; simp at hk; omega
  · intro h lr A
    have len : (PyData.list (row.map .str)).shown.length ≤ 15728653 := shown_le13 (by simp [PyData.layable0, PyData.canLay0, PyData.depth, PyData.weight, h1, h2]; exact decide_eq_true (by omega)) (by simp [PyData.intsShort, h4])
    have b2 : Nat.ble (PyData.list (row.map .str)).shown.length sizeLine = true := Nat.ble_eq.mpr (by simp [sizeLine]; omega)
    simp only [fRepr, td_l A, allD_str, Option.map_some]
    rw [b2]
    simp [PyData.showable, PyData.hasDict, PyData.depth, h2, h5, h6]
    rfl
end Lw
end

section
namespace Lw
open PySem L2 Mn

theorem cut_map (xs : List Int) (lo hi : Option Int) : ∃ ys : List Int, cutA (xs.map Va.int) lo hi = ys.map Va.int ∧ ys.length ≤ xs.length := by
  unfold cutA
  refine ⟨(xs.drop (HT.sIx (xs.map Va.int).length 0 lo)).take (HT.sIx (xs.map Va.int).length (xs.map Va.int).length hi - HT.sIx (xs.map Va.int).length 0 lo), ?_, ?_⟩
  · rw [List.map_take, List.map_drop]
  · simp
    omega

theorem p_feed {h : MH} {k : Nat} (k5 : k ≤ 5) (ls : h.s.length ≤ 63) : WE (m_law_feed [.scr, .int k] h) fun v h' => ∃ f, v = .ref f ∧ Fe h' f ∧ Gr nob h h' ∧ h.n ≤ f := by
  refine WE_fn _ _ _ _ _ _ rfl ?_
  unfold b_law_feed
  have lk : Nat.log2 71 + k.log2 < 1000000 := by
    have : Nat.log2 71 < 40 := log2_lt (by omega) (by omega)
    have : k.log2 < 40 := log2_lt (by omega) (by omega)
    omega
  obtain ⟨ys, ey, ly⟩ := cut_map h.s (some (k : Int)) (some ((k : Int) + 1))
  simp [W_loc, W_con, W_bin, W_tb, W_tru, W_notT, W_andT, W_orT, W_not, W_and, W_if, W_nil, W_cons, W_tup, W_lst, W_d0, W_callB, W_callF, W_ret, W_expr, W_skip, W_set, W_ifS, W_par, W_asgG, W_gName, W_gNil, W_gCons, W_gTup, W_store, W_bM, W_bM0, W_fld, W_isi, W_chain, W_ii, W_ic, W_addI, W_mulI, W_int, W_abs, W_max2, W_min2, WE_ok, WS_seq, fSub2, startM, List.replicate, fMod, fFdiv, mSl, mPart, WE_bind, WE_plain, fSl, listAt, scrL, newO, ey]
  have A1 := At.push h (.lst (ys.map Va.int))
  have G1 := Gr.push nob h (.lst (ys.map Va.int))
  have b1 : h.n ≤ (h.push (.lst (ys.map Va.int))).n := G1.n
  generalize h.push (.lst (ys.map Va.int)) = h1 at A1 G1 b1
  have e1 : fList [.ref h.n] h1 = newO h1 (.lst (ys.map Va.int)) := by simp [fList, la_l A1]
  rw [e1]
  show WE (Res.ok (Va.ref h1.n) (h1.push (.lst (ys.map Va.int)))) _
  rw [WE_ok]
  refine ⟨lk, by simp [sizeLine], ?_⟩
  have A2 := At.push h1 (.lst (ys.map Va.int))
  have G2 := G1.trans (Gr.push nob h1 (.lst (ys.map Va.int)))
  have b2 : h.n ≤ (h1.push (.lst (ys.map Va.int))).n := G2.n
  generalize h1.push (.lst (ys.map Va.int)) = h2 at A2 G2 b2
  rw [add_l (A2.push' _) (At.push h2 (.lst [Va.int (71 * k + 23)])) (by simp [sizeLine]; omega), WE_ok]
  have A3 := At.push (h2.push (.lst [Va.int (71 * k + 23)])) (.lst (ys.map Va.int ++ [Va.int (71 * k + 23)]))
  have G3 := (G2.trans (Gr.push nob h2 (.lst [Va.int (71 * k + 23)]))).trans (Gr.push nob _ (.lst (ys.map Va.int ++ [Va.int (71 * k + 23)])))
  generalize (h2.push (.lst [Va.int (71 * k + 23)])).push (.lst (ys.map Va.int ++ [Va.int (71 * k + 23)])) = h3 at A3 G3
  obtain ⟨z, ez⟩ : ∃ z : Int, (ys.map Va.int ++ [Va.int (71 * k + 23)])[0]? = some (.int z) := by
    cases ys with
    | nil => exact ⟨_, rfl⟩
    | cons a r => exact ⟨a, rfl⟩
  have e3 := f_ixL A3 0 ez
  rw [da_l A3]
  show WE (fIx _ (Va.int ((0 : Nat) : Int)) h3) _
  rw [e3]
  have hz : 0 ≤ (if z < 0 then -z else z) := by split <;> omega
  simp [W_loc, W_con, W_bin, W_tb, W_tru, W_notT, W_andT, W_orT, W_not, W_and, W_if, W_nil, W_cons, W_tup, W_lst, W_d0, W_callB, W_callF, W_ret, W_expr, W_skip, W_set, W_ifS, W_par, W_asgG, W_gName, W_gNil, W_gCons, W_gTup, W_store, W_bM, W_bM0, W_fld, W_isi, W_chain, W_ii, W_ic, W_addI, W_mulI, W_int, W_abs, W_max2, W_min2, WE_ok, WS_seq, fSub2, startM, List.replicate, fMod, fFdiv]
  generalize (if z < 0 then -z else z) = q at hz
  have m0 := Int.emod_nonneg q (b := 1000003) (by omega)
  have m1 := Int.emod_lt_of_pos q (b := 1000003) (by omega)
  have l1 : (q % 1000003).natAbs.log2 + Nat.log2 7919 < 1000000 := by
    have : Nat.log2 7919 < 40 := log2_lt (by omega) (by omega)
    have : (q % 1000003).natAbs.log2 < 40 := log2_lt (by omega) (by omega)
    omega
  have l2 : Nat.log2 31 + k.log2 < 1000000 := by
    have : Nat.log2 31 < 40 := log2_lt (by omega) (by omega)
    have : k.log2 < 40 := log2_lt (by omega) (by omega)
    omega
  have p1 : fPow (.int 10) (.int 18) h3 = .ok (.int (10 ^ 18)) h3 := by rfl
  simp [W_loc, W_con, W_bin, W_tb, W_tru, W_notT, W_andT, W_orT, W_not, W_and, W_if, W_nil, W_cons, W_tup, W_lst, W_d0, W_callB, W_callF, W_ret, W_expr, W_skip, W_set, W_ifS, W_par, W_asgG, W_gName, W_gNil, W_gCons, W_gTup, W_store, W_bM, W_bM0, W_fld, W_isi, W_chain, W_ii, W_ic, W_addI, W_mulI, W_int, W_abs, W_max2, W_min2, WE_ok, WS_seq, fSub2, startM, List.replicate, fMod, fFdiv, p1, fSub, l1, l2]
  have s0 := Int.emod_nonneg (q % 1000003 * 7919 + 31 * k + 17) (b := 1000033) (by omega)
  have s1 := Int.emod_lt_of_pos (q % 1000003 * 7919 + 31 * k + 17) (b := 1000033) (by omega)
  exact ⟨by simp [sizeLine], ⟨_, _, At.push _ _, s0, by omega⟩, G3.trans (Gr.push _ _ _), G3.n⟩
end Lw
end

section
namespace Lw
open PySem L2 Mn

/-! ### a source's states against the states -/
theorem td_d {h : MH} {r : Nat} {ks : List (Va × Va)} (X : At h r (.dic ks)) (n : Nat) : toD (n + 1) h (.ref r) = none := by
  show (match h.get r with
    | some (.lst xs) => _
    | _ => none) = none
  rw [X.get]
theorem td_sts {h : MH} {l : Nat} {rs : List Nat} {S : List (List En)} (T : Sts h l rs S) (p : 0 < S.length) : toD deep h (.ref l) = none := by
  rw [td_l T.at_]
  have lr : 0 < rs.length := T.len ▸ p
  have X := T.row 0 _ _ (List.getElem?_eq_getElem lr) (List.getElem?_eq_getElem p)
  cases rs with
  | nil => simp at lr
  | cons r q =>
    have : toD 39 h (.ref r) = none := td_d X 38
    simp [allD, this]
theorem eqM_row {h : MH} {a b : Nat} {s : List En} {m : Int} (A : At h a (.dic (s.map kvOf))) (B : At h b (.dic (s.map kvOf))) (O : RowOk m s) : eqM 20 h (.ref a) (.ref b) = true := by
  have t1 : toD deep h (.ref a) = none := td_d A 39
  have t2 : ∀ (e : En), eqM 19 h (.tup [.int e.2.1, .int e.2.2]) (.tup [.int e.2.1, .int e.2.2]) = true := by
    intro e
    show ((PyData.tuple [.int e.2.1, .int e.2.2]).plain && ((PyData.tuple [.int e.2.1, .int e.2.2]).plain && (Nat.ble (PyData.tuple [.int e.2.1, .int e.2.2]).depth 60 && PyData.eqv (PyData.tuple [.int e.2.1, .int e.2.2]) (PyData.tuple [.int e.2.1, .int e.2.2])))) = true
    simp [PyData.plain, PyData.plainAll, PyData.depth, PyData.depthAll, PyData.eqv, PyData.eqvAll]
  unfold eqM
  rw [t1]
  simp only [A.get, B.get]
  rw [Bool.and_eq_true]
  refine ⟨Nat.beq_eq.mpr rfl, ?_⟩
  rw [List.all_eq_true]
  intro kv hk
  obtain ⟨e, he, rfl⟩ := List.mem_map.mp hk
  have : look (s.map kvOf) (kvOf e).1 = some (.tup [.int e.2.1, .int e.2.2]) := by
    show look (s.map kvOf) (.str e.1) = _
    rw [look_kv, lk_mem O.nd he]
    rfl
  rw [this]
  exact t2 e
theorem all2_rows {h : MH} {m : Int} : ∀ (S : List (List En)) (rs1 rs2 : List Nat), rs1.length = S.length → rs2.length = S.length →
    (∀ (i : Nat) (r : Nat) (s : List En), rs1[i]? = some r → S[i]? = some s → At h r (.dic (s.map kvOf))) → (∀ (i : Nat) (r : Nat) (s : List En), rs2[i]? = some r → S[i]? = some s → At h r (.dic (s.map kvOf))) → (∀ s ∈ S, RowOk m s) →
    all2 (eqM 20 h) (rs1.map Va.ref) (rs2.map Va.ref) = true := by
  intro S
  induction S with
  | nil =>
    intro rs1 rs2 l1 l2 _ _ _
    cases rs1 with
    | nil => cases rs2 with
      | nil => rfl
      | cons => simp at l2
    | cons => simp at l1
  | cons s r ih =>
    intro rs1 rs2 l1 l2 h1 h2 O
    cases rs1 with
    | nil => simp at l1
    | cons a q1 =>
      cases rs2 with
      | nil => simp at l2
      | cons b q2 =>
        show (eqM 20 h (.ref a) (.ref b) && all2 (eqM 20 h) (q1.map Va.ref) (q2.map Va.ref)) = true
        rw [eqM_row (h1 0 a s rfl rfl) (h2 0 b s rfl rfl) (O s List.mem_cons_self)]
        exact ih q1 q2 (by simpa using l1) (by simpa using l2) (fun i r s x y => h1 (i + 1) r s (by simpa using x) (by simpa using y)) (fun i r s x y => h2 (i + 1) r s (by simpa using x) (by simpa using y)) fun s m => O s (List.mem_cons_of_mem _ m)
theorem ne_sts {h : MH} {l1 l2 : Nat} {rs1 rs2 : List Nat} {S : List (List En)} {m : Int} (g : Good S m) (p : 0 < S.length) (T1 : Sts h l1 rs1 S) (T2 : Sts h l2 rs2 S) : fNeA (.ref l1) (.ref l2) h = .ok (.bl false) h := by
  unfold fNeA
  rw [td_sts T1 p]
  have e : eqRef h (.ref l1) (.ref l2) = true := by
    unfold eqRef
    simp only [T1.at_.get, T2.at_.get]
    exact all2_rows S rs1 rs2 T1.len T2.len T1.row T2.row (m := m) fun s ms => by
      obtain ⟨i, hi, rfl⟩ := List.getElem_of_mem ms
      exact (g.ok i _ (List.getElem?_eq_getElem hi)).1
  have e2 : isLst h (.ref l1) = true := by simp [isLst, T1.at_.get]
  simp only [e, e2]
  rfl

/-! ### the walks over names and rows -/
structure Rws (h : MH) (l : Nat) (rr : List Nat) (R : List (List Str)) : Prop where
  at_ : At h l (.lst (rr.map Va.ref))
  len : rr.length = R.length
  row : ∀ (i : Nat) (r : Nat) (s : List Str), rr[i]? = some r → R[i]? = some s → At h r (.lst (s.map Va.str))
theorem Rws.gr {h h' l rr R} (T : Rws h l rr R) (G : Gr nob h h') : Rws h' l rr R := ⟨G.at0 T.at_, T.len, fun i r s a b => G.at0 (T.row i r s a b)⟩

/-- the facts that stay through a turn of the law -/
structure Env (f nm l o l2 : Nat) (rs rs2 : List Nat) (S : List (List En)) (ns : List Int) (h : MH) : Prop where
  F : Fe h f
  N : At h nm (.lst (nms.map Va.str))
  nf : nm ≠ f
  T : Sts h l rs S
  lf : l ≠ f
  O : At h o (.ins 0 [("rows", .ref l2)])
  T2 : Sts h l2 rs2 S
  l2f : l2 ≠ f
  s : h.s = ns
theorem Env.gr {f nm l o l2 rs rs2 S ns h h'} (E : Env f nm l o l2 rs rs2 S ns h) (G : Gr (· = f) h h') (F : Fe h' f) : Env f nm l o l2 rs rs2 S ns h' :=
  ⟨F, G.at_ E.N E.nf, E.nf, E.T.gr E.F E.lf G, E.lf, G.at_ E.O (by
    rintro rfl
    obtain ⟨a, b, A, _⟩ := E.F.ex
    cases A.inj E.O), E.T2.gr E.F E.l2f G, E.l2f, G.s.trans E.s⟩
theorem Env.gr0 {f nm l o l2 rs rs2 S ns h h'} (E : Env f nm l o l2 rs rs2 S ns h) (G : Gr nob h h') : Env f nm l o l2 rs rs2 S ns h' := E.gr G.none (E.F.gr G)
theorem Env.sou {f nm l o l2 rs rs2 S ns h} (E : Env f nm l o l2 rs rs2 S ns h) : Sou h (.ref o) S := ⟨_, _, _, rfl, E.O, E.T2⟩

/-- what the states are known to be -/
structure Kn (S : List (List En)) (m : Int) : Prop where
  g : Good S m
  em : m = (S.length : Int)
  m0 : 1 ≤ m
  m1 : m ≤ 4
theorem Kn.tot {S m} (K : Kn S m) : ∀ i, i < S.length → Lw.tot (rowAt S i) ≤ 27 := by
  intro i li
  have O := rowAt_ok K.g li
  have k : ∀ s : List En, (∀ e ∈ s, e.2.1 ≤ 9) → Lw.tot s ≤ 9 * s.length := by
    intro s
    induction s with
    | nil => intro _; exact Nat.zero_le _
    | cons e r ih =>
      intro k
      have := k e List.mem_cons_self
      have := ih fun e m => k e (List.mem_cons_of_mem _ m)
      have q : Lw.tot (e :: r) = e.2.1.toNat + Lw.tot r := rfl
      rw [q, List.length_cons]
      omega
  have := k _ fun e m => (O.ok e m).2.2.1
  have := O.l3
  omega
theorem Kn.bd {S m} (K : Kn S m) {n : Nat} (l : n ≤ 1000) : Bd S 27 n := ⟨K.tot, by omega, by
  have h1 : 27 ^ n ≤ 27 ^ 1000 := Nat.pow_le_pow_right (by omega) l
  have h2 : 27 ^ 1000 ≤ (2 ^ 5) ^ 1000 := Nat.pow_le_pow_left (by omega) 1000
  rw [← Nat.pow_mul] at h2
  have h3 : 2 ^ (5 * 1000) < 2 ^ 9000 := Nat.pow_lt_pow_right (by omega) (by omega)
  unfold lid
  omega, by omega⟩

/-- `[chance(source, row + [name]) for name in names]` -/
theorem p_names {h : MH} {f nm l o l2 lr : Nat} {rs rs2 : List Nat} {S : List (List En)} {ns : List Int} {m : Int} {row : List Str} (E : Env f nm l o l2 rs rs2 S ns h) (K : Kn S m) (A : At h lr (.lst (row.map Va.str))) (lr8 : row.length ≤ 8) (σ : MS)
    (s5 : ∀ v, (σ.set 12 (some v))[5]? = some (some (.ref o))) (s7 : ∀ v, (σ.set 12 (some v))[7]? = some (some (.ref lr))) (s12 : ∀ v, (σ.set 12 (some v))[12]? = some (some v)) :
    WE (loopC (.lst (.ref nm)) (mgName 12) mYes (mCallF 2 m_chance (mCons (mLoc 5) (mCons (mBin fAdd (mLoc 7) (mLst (mCons (mLoc 12) (mNil)))) (mNil)))) σ h.n big 0 (h.push (.lst []))) fun v h' => v = .ref h.n ∧ At h' h.n (.lst (((nms.map fun x => row ++ [x]).map (chq S)).map ratV)) ∧ Gr nob h h' := by
  refine comp_inv (fun i acc h' => At h' h.n (.lst acc) ∧ Gr nob h h' ∧ acc = (nms.map fun x => ratV (chq S (row ++ [x]))).take i) nms.length (fun _ _ _ z => z.1) ?st ?en big 0 [] _ (by decide) (Nat.zero_le _) ⟨At.push _ _, Gr.push _ _ _, rfl⟩
  case en =>
    rintro acc h' ⟨B, G, e⟩
    have N := G.at0 E.N
    refine ⟨by rw [lst_at N]; rfl, rfl, ?_, G⟩
    rw [List.take_of_length_le (by simp)] at e
    rw [List.map_map, List.map_map]
    exact e ▸ B
  case st =>
    rintro i acc h' li ⟨B, G, e⟩
    have E' := E.gr0 G
    have A' := G.at0 A
    refine ⟨.str nms[i], by rw [lst_at E'.N, List.getElem?_map, List.getElem?_eq_getElem li]; rfl, ?_⟩
    simp [W_loc, W_con, W_bin, W_tb, W_tru, W_notT, W_andT, W_orT, W_not, W_and, W_if, W_nil, W_cons, W_tup, W_lst, W_d0, W_callB, W_callF, W_ret, W_expr, W_skip, W_set, W_ifS, W_par, W_asgG, W_gName, W_gNil, W_gCons, W_gTup, W_store, W_bM, W_bM0, W_fld, W_isi, W_chain, W_ii, W_ic, W_addI, W_mulI, W_int, W_abs, W_max2, W_min2, WE_ok, WS_seq, fSub2, startM, List.replicate, fMod, fFdiv, mYes, s5, s7, s12]
    refine ⟨by simp [sizeLine], ?_⟩
    rw [add_l (A'.push' _) (At.push h' _) (by simp [sizeLine]; omega), WE_ok]
    have A2 := At.push (h'.push (.lst [Va.str nms[i]])) (.lst (row.map Va.str ++ [Va.str nms[i]]))
    have G2 := (Gr.push nob h' (.lst [Va.str nms[i]])).trans (Gr.push nob _ (.lst (row.map Va.str ++ [Va.str nms[i]])))
    have E2 := E'.gr0 G2
    rw [show row.map Va.str ++ [Va.str nms[i]] = (row ++ [nms[i]]).map Va.str by simp] at *
    refine WE_mono (p_chance E2.sou K.g K.em K.m0 A2 (K.bd (by simp; omega))) ?_
    rintro v h3 ⟨rfl, G3⟩
    have G4 := (G.trans G2).trans G3
    have B4 := (G2.trans G3).at0 B
    refine ⟨B4, by rw [e]; have : nms.length = 3 := rfl; simp [sizeLine]; omega, At.put B4.lt _, G4.putN _ _ (Nat.le_refl _), ?_⟩
    rw [e, chV_rat K.g K.em K.m0 _ K.tot, List.take_add_one, List.getElem?_map, List.getElem?_eq_getElem li]
    rfl
/-- `[chance(source, row) for row in rows]` -/
theorem p_rows {h : MH} {f nm l o l2 rl : Nat} {rs rs2 rr : List Nat} {S : List (List En)} {ns : List Int} {m : Int} {R : List (List Str)} (E : Env f nm l o l2 rs rs2 S ns h) (K : Kn S m) (A : Rws h rl rr R) (r9 : R.length ≤ 9) (rk : ∀ r ∈ R, r.length ≤ 9) (σ : MS)
    (s5 : ∀ v, (σ.set 7 (some v))[5]? = some (some (.ref o))) (s7 : ∀ v, (σ.set 7 (some v))[7]? = some (some v)) :
    WE (loopC (.lst (.ref rl)) (mgName 7) mYes (mCallF 2 m_chance (mCons (mLoc 5) (mCons (mLoc 7) (mNil)))) σ h.n big 0 (h.push (.lst []))) fun v h' => v = .ref h.n ∧ At h' h.n (.lst ((R.map (chq S)).map ratV)) ∧ Gr nob h h' := by
  refine comp_inv (fun i acc h' => At h' h.n (.lst acc) ∧ Gr nob h h' ∧ acc = (R.map fun x => ratV (chq S x)).take i) R.length (fun _ _ _ z => z.1) ?st ?en big 0 [] _ (by show _ < 1000000 + 0; omega) (Nat.zero_le _) ⟨At.push _ _, Gr.push _ _ _, rfl⟩
  case en =>
    rintro acc h' ⟨B, G, e⟩
    have A' := A.gr G
    refine ⟨by rw [lst_at A'.at_]; simp [A.len], rfl, ?_, G⟩
    rw [List.take_of_length_le (by simp)] at e
    rw [List.map_map]
    exact e ▸ B
  case st =>
    rintro i acc h' li ⟨B, G, e⟩
    have E' := E.gr0 G
    have A' := A.gr G
    have lr : i < rr.length := by rw [A.len]; exact li
    have X := A'.row i _ _ (List.getElem?_eq_getElem lr) (List.getElem?_eq_getElem li)
    refine ⟨.ref rr[i], by rw [lst_at A'.at_, List.getElem?_map, List.getElem?_eq_getElem lr]; rfl, ?_⟩
    simp [W_loc, W_con, W_bin, W_tb, W_tru, W_notT, W_andT, W_orT, W_not, W_and, W_if, W_nil, W_cons, W_tup, W_lst, W_d0, W_callB, W_callF, W_ret, W_expr, W_skip, W_set, W_ifS, W_par, W_asgG, W_gName, W_gNil, W_gCons, W_gTup, W_store, W_bM, W_bM0, W_fld, W_isi, W_chain, W_ii, W_ic, W_addI, W_mulI, W_int, W_abs, W_max2, W_min2, WE_ok, WS_seq, fSub2, startM, List.replicate, fMod, fFdiv, mYes, s5, s7]
    have lk := rk _ (List.getElem_mem li)
    refine WE_mono (p_chance E'.sou K.g K.em K.m0 X (K.bd (by omega))) ?_
    rintro v h3 ⟨rfl, G3⟩
    have G4 := G.trans G3
    have B4 := G3.at0 B
    refine ⟨B4, by rw [e]; simp [sizeLine]; omega, At.put B4.lt _, G4.putN _ _ (Nat.le_refl _), ?_⟩
    rw [e, chV_rat K.g K.em K.m0 _ K.tot, List.take_add_one, List.getElem?_map, List.getElem?_eq_getElem li]
    rfl

/-- `[row + [name] for name in names]` -/
theorem p_ext {h : MH} {nm lr : Nat} {row : List Str} (N : At h nm (.lst (nms.map Va.str))) (A : At h lr (.lst (row.map Va.str))) (l9 : row.length ≤ 9) (σ : MS)
    (s7 : ∀ v, (σ.set 12 (some v))[7]? = some (some (.ref lr))) (s12 : ∀ v, (σ.set 12 (some v))[12]? = some (some v)) :
    WE (loopC (.lst (.ref nm)) (mgName 12) mYes (mBin fAdd (mLoc 7) (mLst (mCons (mLoc 12) (mNil)))) σ h.n big 0 (h.push (.lst []))) fun v h' => ∃ rr, v = .ref h.n ∧ Rws h' h.n rr (nms.map fun x => row ++ [x]) ∧ Gr nob h h' := by
  refine comp_inv (fun i acc h' => Gr nob h h' ∧ ∃ rr : List Nat, acc = rr.map Va.ref ∧ rr.length = i ∧ At h' h.n (.lst acc) ∧ (∀ r ∈ rr, h.n < r) ∧ ∀ (k r : Nat) (s : List Str), rr[k]? = some r → (nms.map fun x => row ++ [x])[k]? = some s → At h' r (.lst (s.map Va.str))) nms.length (fun _ _ _ z => by obtain ⟨_, _, _, _, z, _⟩ := z; exact z) ?st ?en big 0 [] _ (by decide) (Nat.zero_le _) ⟨Gr.push _ _ _, [], rfl, rfl, At.push _ _, by simp, by simp⟩
  case en =>
    rintro acc h' ⟨G, rr, rfl, len, B, bb, D⟩
    have N' := G.at0 N
    exact ⟨by rw [lst_at N']; rfl, rr, rfl, ⟨B, by simpa using len, D⟩, G⟩
  case st =>
    rintro i acc h' li ⟨G, rr, rfl, len, B, bb, D⟩
    have N' := G.at0 N
    have A' := G.at0 A
    refine ⟨.str nms[i], by rw [lst_at N', List.getElem?_map, List.getElem?_eq_getElem li]; rfl, ?_⟩
    simp [W_loc, W_con, W_bin, W_tb, W_tru, W_notT, W_andT, W_orT, W_not, W_and, W_if, W_nil, W_cons, W_tup, W_lst, W_d0, W_callB, W_callF, W_ret, W_expr, W_skip, W_set, W_ifS, W_par, W_asgG, W_gName, W_gNil, W_gCons, W_gTup, W_store, W_bM, W_bM0, W_fld, W_isi, W_chain, W_ii, W_ic, W_addI, W_mulI, W_int, W_abs, W_max2, W_min2, WE_ok, WS_seq, fSub2, startM, List.replicate, fMod, fFdiv, mYes, s7, s12]
    refine ⟨by simp [sizeLine], ?_⟩
    rw [add_l (A'.push' _) (At.push h' _) (by simp [sizeLine]; omega), WE_ok]
    have A2 := At.push (h'.push (.lst [Va.str nms[i]])) (.lst (row.map Va.str ++ [Va.str nms[i]]))
    have G2 := (Gr.push nob h' (.lst [Va.str nms[i]])).trans (Gr.push nob _ (.lst (row.map Va.str ++ [Va.str nms[i]])))
    rw [show row.map Va.str ++ [Va.str nms[i]] = (row ++ [nms[i]]).map Va.str by simp] at *
    have l3 : nms.length = 3 := rfl
    have B2 := G2.at0 B
    have bn : h.n < (h'.push (.lst [Va.str nms[i]])).n := by
      have := B.lt
      show h.n < h'.n + 1
      omega
    generalize hn : (h'.push (.lst [Va.str nms[i]])).n = a at *
    refine ⟨B2, by simp [sizeLine]; omega, (G.trans G2).putN _ _ (Nat.le_refl _), rr ++ [a], by simp, by simp [len], At.put B2.lt _, ?_, ?_⟩
    · intro r hr
      rcases List.mem_append.mp hr with hr | hr
      · exact bb r hr
      · simp at hr; omega
    · intro k r s x y hy es
      subst es
      have yy : (nms.map fun x => row ++ [x])[k]? = some (row ++ [y]) := by rw [List.getElem?_map, hy]; rfl
      by_cases z : k < rr.length
      · rw [List.getElem?_append_left z] at x
        have Y := D k r _ x yy
        refine (G2.at0 Y).put' _ ?_
        have := bb r (List.mem_of_getElem? x)
        omega
      · rw [List.getElem?_append_right (by omega)] at x
        have : k - rr.length = 0 := by
          rcases Nat.eq_zero_or_pos (k - rr.length) with z | z
          · exact z
          · rw [List.getElem?_eq_none (by simp; omega)] at x; cases x
        rw [this] at x
        simp at x
        subst x
        have : k = i := by omega
        subst this
        rw [List.getElem?_eq_getElem li] at hy
        cases hy
        exact A2.put' _ (by omega)
end Lw
end

section
namespace Lw
open PySem L2 Mn

def bd1 : MT := mFor big (mRng1 (mCons (mCon (.int 5)) (mNil))) (mgName 6) (mSeq (mSet 7 (mCallF 3 m_law_row (mCons (mLoc 2) (mCons (mLoc 4) (mCons (mLoc 3) (mNil))))))
  (mSeq (mPar 8 9 (mCons (mCallB fRepr (mCons (mLoc 7) (mNil))) (mCons (mCallF 2 m_chance (mCons (mLoc 5) (mCons (mLoc 7) (mNil)))) (mNil))))
  (mSeq (mIfS (mOrT (mTb (mBin fNeA (mCallB fRepr (mCons (mLoc 9) (mNil))) (mCallB fRepr (mCons (mCallF 2 m_law_due (mCons (mLoc 4) (mCons (mLoc 7) (mNil)))) (mNil))))) (mTb (mBin fNeA (mCallB fRepr (mCons (mLoc 7) (mNil))) (mLoc 8)))) (mRet (mCon (.bl false))) (mSkip))
  (mIfS (mTb (mBin fNeA (mCallF 1 m_law_added (mCons (mLcP big [12] (mIter (mLoc 3)) (mgName 12) (mYes) (mCallF 2 m_chance (mCons (mLoc 5) (mCons (mBin fAdd (mLoc 7) (mLst (mCons (mLoc 12) (mNil)))) (mNil))))) (mNil))) (mCallF 1 m_law_added (mCons (mLst (mCons (mLoc 9) (mNil))) (mNil))))) (mRet (mCon (.bl false))) (mSkip)))))
def bd2 : MT := mFor big (mRng1 (mCons (mCon (.int 3)) (mNil))) (mgName 6) (mSeq (mExpr (mBM fAppend (mLoc 7) (mCons (mCallF 2 m_law_pick (mCons (mLoc 2) (mCons (mLoc 3) (mNil)))) (mNil))))
  (mIfS (mTb (mBin fNeA (mCallF 2 m_chance (mCons (mLoc 5) (mCons (mLoc 7) (mNil)))) (mCallF 2 m_law_due (mCons (mLoc 4) (mCons (mLoc 7) (mNil)))))) (mRet (mCon (.bl false))) (mSkip)))
def bd3 : MT := mIfS (mAndT (mTb (mBin fEqA (mLoc 1) (mCon (.int 0)))) (mTb (mBin fNeA (mCallF 2 m_chance (mCons (mMake 0 2 m_Source___init__ (mCons (mLst (mCons (mDict (mPcons (mCon (.str "a")) (mTup (mCons (mCon (.int 3)) (mCons (mCon (.int 0)) (mNil)))) (mPnil))) (mNil))) (mNil))) (mCons (mBin fMul (mLst (mCons (mCon (.str "a")) (mNil))) (mCon (.int 3000))) (mNil)))) (mTup (mCons (mCon (.int 1)) (mCons (mCon (.int 1)) (mNil))))))) (mRet (mCon (.bl false))) (mSkip)
def bd4 : MT := mFor big (mRng1 (mCons (mCon (.int 3)) (mNil))) (mgName 6) (mSeq (mIfS (mTb (mBin fNeA (mCallF 1 m_law_added (mCons (mLcP big [7] (mIter (mLoc 10)) (mgName 7) (mYes) (mCallF 2 m_chance (mCons (mLoc 5) (mCons (mLoc 7) (mNil))))) (mNil))) (mTup (mCons (mCon (.int 1)) (mCons (mCon (.int 1)) (mNil)))))) (mRet (mCon (.bl false))) (mSkip))
  (mSeq (mSet 11 (mLst (mNil)))
  (mSeq (mFor big (mIter (mLoc 10)) (mgName 7) (mSet 11 (mBin fAdd (mLoc 11) (mLcP big [12] (mIter (mLoc 3)) (mgName 12) (mYes) (mBin fAdd (mLoc 7) (mLst (mCons (mLoc 12) (mNil))))))))
  (mSet 10 (mLoc 11)))))
def bd5 : MT := mIfS (mTb (mBin fNeA (mMeth 0 1 "states" m_Source_states (mLoc 5) mNil) (mLoc 4))) (mRet (mCon (.bl false))) (mSkip)
theorem law_eq : b_law = mSeq (mFor big (mRng1 (mCons (mCallB fMax2 (mCons (mCon (.int 1)) (mCons (mCallB fMin2 (mCons (mCon (.int 5)) (mCons (mCallB fLen (mCons (mLoc 0) (mNil))) (mNil)))) (mNil)))) (mNil))) (mgName 1) (mSeq (mSet 2 (mCallF 2 m_law_feed (mCons (mLoc 0) (mCons (mLoc 1) (mNil)))))
  (mSeq (mSet 3 (mLst (mCons (mCon (.str "ski")) (mCons (mCon (.str "a")) (mCons (mCon (.str "end")) (mNil))))))
  (mSeq (mSet 4 (mCallF 2 m_law_source (mCons (mLoc 2) (mCons (mLoc 3) (mNil)))))
  (mSeq (mSet 5 (mMake 0 2 m_Source___init__ (mCons (mLoc 4) (mNil))))
  (mSeq bd1
  (mSeq (mSet 7 (mLst (mNil)))
  (mSeq bd2
  (mSeq bd3
  (mSeq (mSet 10 (mLst (mCons (mLst (mNil)) (mNil))))
  (mSeq bd4
  bd5))))))))))) (mRet (mCon (.bl true))) := rfl

abbrev sg (k : Int) (f nm l o : Nat) (a6 a7 a8 a9 a10 a11 a12 : Option Va) : MS := [some .scr, some (.int k), some (.ref f), some (.ref nm), some (.ref l), some (.ref o), a6, a7, a8, a9, a10, a11, a12]

theorem ne_rat (q : Rat) (h : MH) : fNeA (ratV q) (ratV q) h = .ok (.bl false) h := by
  unfold ratV
  rw [ne_t]
  simp
theorem rsum_one (q : Rat) : rsum [q] = q := by simp [rsum, Rat.add_zero]
theorem repr_rat {S : List (List En)} {m : Int} (K : Kn S m) (row : List Str) (l : row.length ≤ 8) : ∃ x, PyData.strOk x = true ∧ ∀ h, fRepr [ratV (chq S row)] h = .ok (.str x) h := by
  obtain ⟨a, b, c⟩ := chq_ok0 K.g K.em K.m0 row (B := 27) (by omega) K.tot
  have : 27 ^ row.length ≤ 27 ^ 8 := Nat.pow_le_pow_right (by omega) l
  have e : (27 : Nat) ^ 8 < 10 ^ 12 := by decide
  exact repr_t ⟨0, .nil, []⟩ (by omega) (by omega)

theorem p_bd1 {f nm l o l2 : Nat} {rs rs2 : List Nat} {S : List (List En)} {ns : List Int} {m : Int} {h : MH} {k : Int} {a6 a7 a8 a9 a10 a11 a12 : Option Va} (E : Env f nm l o l2 rs rs2 S ns h) (K : Kn S m) :
    WS (bd1 (sg k f nm l o a6 a7 a8 a9 a10 a11 a12) h) (fun σ h' => (∃ a6 a7 a8 a9 a10 a11 a12, σ = sg k f nm l o a6 a7 a8 a9 a10 a11 a12) ∧ Env f nm l o l2 rs rs2 S ns h') fun _ _ => False := by
  unfold bd1
  rw [WS_for]
  simp [W_loc, W_con, W_bin, W_tb, W_tru, W_notT, W_andT, W_orT, W_not, W_and, W_if, W_nil, W_cons, W_tup, W_lst, W_d0, W_callB, W_callF, W_ret, W_expr, W_skip, W_set, W_ifS, W_par, W_asgG, W_gName, W_gNil, W_gCons, W_gTup, W_store, W_bM, W_bM0, W_fld, W_isi, W_chain, W_ii, W_ic, W_addI, W_mulI, W_int, W_abs, W_max2, W_min2, WE_ok, WS_seq, fSub2, startM, List.replicate, fMod, fFdiv, W_rng1]
  refine ⟨by simp [l62], ?_⟩
  refine loop_inv (fun i σ h' => (∃ a6 a7 a8 a9 a10 a11 a12, σ = sg k f nm l o a6 a7 a8 a9 a10 a11 a12) ∧ Env f nm l o l2 rs rs2 S ns h') 5 ?st ?en big 0 _ _ (by decide) (Nat.zero_le _) ⟨⟨_, _, _, _, _, _, _, rfl⟩, E⟩
  case en =>
    rintro σ h' ⟨⟨a6, a7, a8, a9, a10, a11, a12, rfl⟩, E⟩
    exact ⟨rng_eq 5 _, by simp, E⟩
  case st =>
    rintro i σ h' li ⟨⟨a6, a7, a8, a9, a10, a11, a12, rfl⟩, E⟩
    refine ⟨.int i, rng_lt li _, ?_⟩
    simp [W_loc, W_con, W_bin, W_tb, W_tru, W_notT, W_andT, W_orT, W_not, W_and, W_if, W_nil, W_cons, W_tup, W_lst, W_d0, W_callB, W_callF, W_ret, W_expr, W_skip, W_set, W_ifS, W_par, W_asgG, W_gName, W_gNil, W_gCons, W_gTup, W_store, W_bM, W_bM0, W_fld, W_isi, W_chain, W_ii, W_ic, W_addI, W_mulI, W_int, W_abs, W_max2, W_min2, WE_ok, WS_seq, fSub2, startM, List.replicate, fMod, fFdiv]
    refine WE_mono (p_row E.F E.T E.lf E.N E.nf K.g K.em K.m0) ?_
    rintro v h2 ⟨⟨lr, row, rfl, A, l8, sub, blr⟩, F2, G2⟩
    have E2 := E.gr G2 F2
    obtain ⟨x, ox, rx⟩ := repr_r sub (by omega)
    obtain ⟨y, oy, ry⟩ := repr_rat K row l8
    have cv := chV_rat K.g K.em K.m0 row K.tot
    simp [W_loc, W_con, W_bin, W_tb, W_tru, W_notT, W_andT, W_orT, W_not, W_and, W_if, W_nil, W_cons, W_tup, W_lst, W_d0, W_callB, W_callF, W_ret, W_expr, W_skip, W_set, W_ifS, W_par, W_asgG, W_gName, W_gNil, W_gCons, W_gTup, W_store, W_bM, W_bM0, W_fld, W_isi, W_chain, W_ii, W_ic, W_addI, W_mulI, W_int, W_abs, W_max2, W_min2, WE_ok, WS_seq, fSub2, startM, List.replicate, fMod, fFdiv, rx _ _ A]
    refine WE_mono (p_chance E2.sou K.g K.em K.m0 A (K.bd (by omega))) ?_
    rintro v h3 ⟨rfl, G3⟩
    have E3 := E2.gr0 G3
    have A3 := G3.at0 A
    simp [W_loc, W_con, W_bin, W_tb, W_tru, W_notT, W_andT, W_orT, W_not, W_and, W_if, W_nil, W_cons, W_tup, W_lst, W_d0, W_callB, W_callF, W_ret, W_expr, W_skip, W_set, W_ifS, W_par, W_asgG, W_gName, W_gNil, W_gCons, W_gTup, W_store, W_bM, W_bM0, W_fld, W_isi, W_chain, W_ii, W_ic, W_addI, W_mulI, W_int, W_abs, W_max2, W_min2, WE_ok, WS_seq, fSub2, startM, List.replicate, fMod, fFdiv, cv, ry]
    refine WE_mono (p_due E3.T K.g K.em K.m0 A3 (K.bd (by omega))) ?_
    rintro v h4 ⟨rfl, G4⟩
    have E4 := E3.gr0 G4
    have A4 := G4.at0 A3
    simp [W_loc, W_con, W_bin, W_tb, W_tru, W_notT, W_andT, W_orT, W_not, W_and, W_if, W_nil, W_cons, W_tup, W_lst, W_d0, W_callB, W_callF, W_ret, W_expr, W_skip, W_set, W_ifS, W_par, W_asgG, W_gName, W_gNil, W_gCons, W_gTup, W_store, W_bM, W_bM0, W_fld, W_isi, W_chain, W_ii, W_ic, W_addI, W_mulI, W_int, W_abs, W_max2, W_min2, WE_ok, WS_seq, fSub2, startM, List.replicate, fMod, fFdiv, cv, ry, ne_s oy, rx _ _ A4, ne_s ox, WE_lc, W_iter, wk_l E4.N, wipeM]
    refine WE_mono (p_names E4 K A4 l8 _ (fun _ => rfl) (fun _ => rfl) (fun _ => rfl)) ?_
    rintro v h5 ⟨rfl, L5, G5⟩
    have E5 := E4.gr0 G5
    refine WE_mono (p_added L5 ?q1 (by simp [nms])) ?_
    case q1 =>
      intro q hq
      obtain ⟨r, hr, rfl⟩ := List.mem_map.mp hq
      obtain ⟨z, hz, rfl⟩ := List.mem_map.mp hr
      exact chq_ok K.g K.em K.m0 _ K.tot (by simp; omega)
    rintro v h6 ⟨rfl, rfl⟩
    rw [chq3 K.g K.em K.m0]
    refine ⟨by simp [sizeLine], ?_⟩
    refine WE_mono (p_added (qs := [chq S row]) (At.push _ _) ?q2 (by simp)) ?_
    case q2 =>
      intro q hq
      simp at hq
      subst hq
      exact chq_ok K.g K.em K.m0 _ K.tot (by omega)
    rintro v h7 ⟨rfl, rfl⟩
    rw [rsum_one, ne_rat]
    simp [WE_ok]
    exact E5.gr0 (Gr.push _ _ _)
end Lw
end

section
namespace Lw
open PySem L2 Mn

theorem p_bd2 {f nm l o l2 : Nat} {rs rs2 : List Nat} {S : List (List En)} {ns : List Int} {m : Int} {h : MH} {k : Int} {a6 a8 a9 a10 a11 a12 : Option Va} (E : Env f nm l o l2 rs rs2 S ns h) (K : Kn S m) :
    WS (bd2 (sg k f nm l o a6 (some (.ref h.n)) a8 a9 a10 a11 a12) (h.push (.lst []))) (fun σ h' => (∃ a6 a7 a8 a9 a10 a11 a12, σ = sg k f nm l o a6 a7 a8 a9 a10 a11 a12) ∧ Env f nm l o l2 rs rs2 S ns h') fun _ _ => False := by
  unfold bd2
  rw [WS_for]
  simp [W_loc, W_con, W_bin, W_tb, W_tru, W_notT, W_andT, W_orT, W_not, W_and, W_if, W_nil, W_cons, W_tup, W_lst, W_d0, W_callB, W_callF, W_ret, W_expr, W_skip, W_set, W_ifS, W_par, W_asgG, W_gName, W_gNil, W_gCons, W_gTup, W_store, W_bM, W_bM0, W_fld, W_isi, W_chain, W_ii, W_ic, W_addI, W_mulI, W_int, W_abs, W_max2, W_min2, WE_ok, WS_seq, fSub2, startM, List.replicate, fMod, fFdiv, W_rng1]
  refine ⟨by simp [l62], ?_⟩
  have f0 := E.F.lt
  have nf : h.n ≠ f := by omega
  refine loop_inv (fun i σ h' => (∃ a6 a8 a9 a10 a11 a12, σ = sg k f nm l o a6 (some (.ref h.n)) a8 a9 a10 a11 a12) ∧ Gr (· = f) h h' ∧ Fe h' f ∧ ∃ row : List Str, At h' h.n (.lst (row.map Va.str)) ∧ row.length = i) 3 ?st ?en big 0 _ _ (by decide) (Nat.zero_le _) ⟨⟨_, _, _, _, _, _, rfl⟩, Gr.push _ _ _, E.F.gr (Gr.push _ _ _), [], At.push _ _, rfl⟩
  case en =>
    rintro σ h' ⟨⟨a6, a8, a9, a10, a11, a12, rfl⟩, G, F, _⟩
    exact ⟨rng_eq 3 _, by simp, E.gr G F⟩
  case st =>
    rintro i σ h' li ⟨⟨a6, a8, a9, a10, a11, a12, rfl⟩, G, F, row, A, lr⟩
    refine ⟨.int i, rng_lt li _, ?_⟩
    have E' := E.gr G F
    simp [W_loc, W_con, W_bin, W_tb, W_tru, W_notT, W_andT, W_orT, W_not, W_and, W_if, W_nil, W_cons, W_tup, W_lst, W_d0, W_callB, W_callF, W_ret, W_expr, W_skip, W_set, W_ifS, W_par, W_asgG, W_gName, W_gNil, W_gCons, W_gTup, W_store, W_bM, W_bM0, W_fld, W_isi, W_chain, W_ii, W_ic, W_addI, W_mulI, W_int, W_abs, W_max2, W_min2, WE_ok, WS_seq, fSub2, startM, List.replicate, fMod, fFdiv, la_l A]
    refine WE_mono (p_pick F E'.N E.nf (by simp [nms]) (by simp [nms])) ?_
    rintro v h2 ⟨v1, F2, G2, n2⟩
    obtain ⟨x, hx, rfl⟩ := List.mem_map.mp v1
    have A2 := G2.at_ A nf
    have GG := G.trans G2
    rw [app_l A2 _ (by simp [lr, sizeLine]; omega), WE_ok]
    have A3 := At.put A2.lt (.lst (row.map Va.str ++ [Va.str x]))
    have G3 := GG.putN h.n (.lst (row.map Va.str ++ [Va.str x])) (Nat.le_refl _)
    have F3 := F2.put (i := h.n) (o := .lst (row.map Va.str ++ [Va.str x])) nf
    rw [show row.map Va.str ++ [Va.str x] = (row ++ [x]).map Va.str by simp] at *
    generalize h2.put h.n (.lst ((row ++ [x]).map Va.str)) = h3 at A3 G3 F3
    have E3 := E.gr G3 F3
    have cv := chV_rat K.g K.em K.m0 (row ++ [x]) K.tot
    refine WE_mono (p_chance E3.sou K.g K.em K.m0 A3 (K.bd (by simp; omega))) ?_
    rintro v h4 ⟨rfl, G4⟩
    have E4 := E3.gr0 G4
    have A4 := G4.at0 A3
    refine WE_mono (p_due E4.T K.g K.em K.m0 A4 (K.bd (by simp; omega))) ?_
    rintro v h5 ⟨rfl, G5⟩
    have G45 := G4.trans G5
    rw [cv, ne_rat]
    simp [WE_ok]
    exact ⟨G3.trans G45.none, F3.gr G45, row ++ [x], by simpa using G45.at0 A3, by simp [lr]⟩

/-! ### the one closed answer -/
def S1 : List (List En) := [[("a", 3, 0)]]
theorem S1_good : Kn S1 1 := ⟨⟨by
  intro i s e
  cases i with
  | zero =>
    simp [S1] at e
    subst e
    exact ⟨⟨by decide, by intro e he; simp at he; subst he; simp; decide, by decide, by decide⟩, ("a", 3, 0), by simp, by decide⟩
  | succ i => simp [S1] at e⟩, rfl, by decide, by decide⟩
theorem S1_bd : Bd S1 3 3000 := ⟨by
  intro i li
  simp [S1] at li
  subst li
  decide, by omega, by
    have h1 : 3 ^ 3000 < 8 ^ 3000 := Nat.pow_lt_pow_left (by omega) (by omega)
    have h2 : (8 : Nat) ^ 3000 = 2 ^ 9000 := by
      rw [show (8 : Nat) = 2 ^ 3 from rfl, ← Nat.pow_mul]
    unfold lid
    omega, by omega⟩
theorem S1_stp : ∀ k n d, stp S1 (List.replicate k (Str.ofString "a")) n d 0 = some (n * 3 ^ k, d * 3 ^ k) := by
  intro k
  induction k with
  | zero => intro n d; simp [stp]
  | succ k ih =>
    intro n d
    have e : lk (rowAt S1 0) (Str.ofString "a") = some (3, 0) := by decide
    have t : tot (rowAt S1 0) = 3 := by decide
    rw [List.replicate_succ]
    unfold stp
    rw [e, t]
    show stp S1 _ (n * 3) (d * 3) 0 = _
    rw [ih, Nat.pow_succ, Nat.mul_assoc, Nat.mul_assoc, Nat.mul_comm 3]
theorem S1_ch : chV S1 (List.replicate 3000 (Str.ofString "a")) = .tup [.int 1, .int 1] := by
  unfold chV
  rw [S1_stp]
  have p : 0 < 3 ^ 3000 := Nat.pow_pos (by omega)
  simp only [Nat.one_mul]
  unfold red
  rw [Nat.gcd_self, Nat.div_self p]
  rfl
theorem mul_l {h : MH} {a : Nat} {v : Va} (A : At h a (.lst [v])) : fMul (.ref a) (.int 3000) h = .ok (.ref h.n) (h.push (.lst (List.replicate 3000 v))) := by
  have e : (List.replicate (3000 : Int).toNat [v]).flatten = List.replicate 3000 v := by
    rw [List.flatten_replicate_singleton]; rfl
  simp only [fMul, A.get]
  rw [e]
  have c : (decide (-(2 ^ 63) ≤ (3000 : Int)) && (decide ((3000 : Int) < 2 ^ 63) && decide ([v].length * (3000 : Int).toNat ≤ sizeLine))) = true := by
    simp [sizeLine]
  rw [c]
  rfl

theorem p_bd3 {f nm l o l2 : Nat} {rs rs2 : List Nat} {S : List (List En)} {ns : List Int} {m : Int} {h : MH} {k : Int} {a6 a7 a8 a9 a10 a11 a12 : Option Va} (E : Env f nm l o l2 rs rs2 S ns h) (K : Kn S m) :
    WS (bd3 (sg k f nm l o a6 a7 a8 a9 a10 a11 a12) h) (fun σ h' => (∃ a6 a7 a8 a9 a10 a11 a12, σ = sg k f nm l o a6 a7 a8 a9 a10 a11 a12) ∧ Env f nm l o l2 rs rs2 S ns h') fun _ _ => False := by
  unfold bd3
  by_cases z : k = 0
  · subst z
    have c0 : (h.push (.dic [])).get h.n = some (.dic []) := (At.push h (.dic [])).get
    have c2 : merge [] [(Va.str (Str.ofString "a"), Va.tup [.int 3, .int 0])] = [kvOf (Str.ofString "a", 3, 0)] := rfl
    simp [W_loc, W_con, W_bin, W_tb, W_tru, W_notT, W_andT, W_orT, W_not, W_and, W_if, W_nil, W_cons, W_tup, W_lst, W_d0, W_callB, W_callF, W_ret, W_expr, W_skip, W_set, W_ifS, W_par, W_asgG, W_gName, W_gNil, W_gCons, W_gTup, W_store, W_bM, W_bM0, W_fld, W_isi, W_chain, W_ii, W_ic, W_addI, W_mulI, W_int, W_abs, W_max2, W_min2, WE_ok, WS_seq, fSub2, startM, List.replicate, fMod, fFdiv, eq_i, W_make, W_dict1, c0, c2, keyOf]
    refine ⟨by simp [sizeLine], by simp [sizeLine], ?_⟩
    have D0 : At ((h.push (.dic [])).put h.n (.dic [kvOf (Str.ofString "a", 3, 0)])) h.n (.dic [kvOf (Str.ofString "a", 3, 0)]) := At.put (Nat.lt_succ_self _) _
    have G0 : Gr nob h ((h.push (.dic [])).put h.n (.dic [kvOf (Str.ofString "a", 3, 0)])) := (Gr.push _ _ _).putN _ _ (Nat.le_refl _)
    generalize (h.push (.dic [])).put h.n (.dic [kvOf (Str.ofString "a", 3, 0)]) = h1 at D0 G0
    have T : Sts (h1.push (.lst [.ref h.n])) h1.n [h.n] S1 := ⟨At.push _ _, rfl, by
      intro i r s a b
      cases i with
      | zero =>
        simp [S1] at a b
        subst a b
        exact D0.push' _
      | succ i => simp at a⟩
    have G1 := G0.trans (Gr.push nob h1 (.lst [.ref h.n]))
    generalize h1.push (.lst [.ref h.n]) = h2 at T G1
    refine WE_mono (p_init T S1_good.g rfl (by decide) (by decide)) ?_
    rintro v h3 ⟨rfl, ⟨l2', rs2', O, T2, _⟩, G3⟩
    refine ⟨rfl, by simp [sizeLine], ?_⟩
    rw [mul_l (At.push h3 (.lst [Va.str (Str.ofString "a")])), WE_ok]
    have G4 := (Gr.push nob h3 (.lst [Va.str (Str.ofString "a")])).trans (Gr.push nob _ (.lst (List.replicate 3000 (Va.str (Str.ofString "a")))))
    have A4 := At.push (h3.push (.lst [Va.str (Str.ofString "a")])) (.lst (List.replicate 3000 (Va.str (Str.ofString "a"))))
    rw [show List.replicate 3000 (Va.str (Str.ofString "a")) = (List.replicate 3000 (Str.ofString "a")).map Va.str from List.map_replicate.symm] at *
    have U : Sou h3 (.ref h2.n) S1 := ⟨_, _, _, rfl, O, T2⟩
    refine WE_mono (p_chance (B := 3) (U.gr G4) S1_good.g rfl (by decide) A4 (by rw [List.length_replicate]; exact S1_bd)) ?_
    rintro v h5 ⟨rfl, G5⟩
    rw [S1_ch, ne_t]
    refine ⟨by simp [sizeLine], ?_⟩
    rw [WE_ok]
    exact ⟨rfl, E.gr0 (G1.trans (G3.trans (G4.trans G5)))⟩
  · simp [W_loc, W_con, W_bin, W_tb, W_tru, W_notT, W_andT, W_orT, W_not, W_and, W_if, W_nil, W_cons, W_tup, W_lst, W_d0, W_callB, W_callF, W_ret, W_expr, W_skip, W_set, W_ifS, W_par, W_asgG, W_gName, W_gNil, W_gCons, W_gTup, W_store, W_bM, W_bM0, W_fld, W_isi, W_chain, W_ii, W_ic, W_addI, W_mulI, W_int, W_abs, W_max2, W_min2, WE_ok, WS_seq, fSub2, startM, List.replicate, fMod, fFdiv, eq_i, z]
    exact E
end Lw
end

section
namespace Lw
open PySem L2 Mn

/-! ### the rows of each length -/
def wide (R : List (List Str)) : List (List Str) := R.flatMap fun row => nms.map fun x => row ++ [x]

theorem p_widen {f nm l o l2 : Nat} {rs rs2 : List Nat} {S : List (List En)} {ns : List Int} {h : MH} {rl rq : Nat} {rr : List Nat} {R : List (List Str)} (E : Env f nm l o l2 rs rs2 S ns h) (A : Rws h rl rr R) (r9 : R.length ≤ 9) (rk : ∀ r ∈ R, r.length ≤ 8) (k : Int) {a6 a7 a8 a9 a12 : Option Va} (B : At h rq (.lst [])) :
    WS (mFor big (mIter (mLoc 10)) (mgName 7) (mSet 11 (mBin fAdd (mLoc 11) (mLcP big [12] (mIter (mLoc 3)) (mgName 12) (mYes) (mBin fAdd (mLoc 7) (mLst (mCons (mLoc 12) (mNil)))))))
      (sg k f nm l o a6 a7 a8 a9 (some (.ref rl)) (some (.ref rq)) a12) h) (fun σ h' => (∃ a7 a12 w, σ = sg k f nm l o a6 a7 a8 a9 (some (.ref rl)) (some (.ref w)) a12 ∧ ∃ rr2, Rws h' w rr2 (wide R)) ∧ Gr nob h h') fun _ _ => False := by
  rw [WS_for]
  simp [W_loc, W_con, W_bin, W_tb, W_tru, W_notT, W_andT, W_orT, W_not, W_and, W_if, W_nil, W_cons, W_tup, W_lst, W_d0, W_callB, W_callF, W_ret, W_expr, W_skip, W_set, W_ifS, W_par, W_asgG, W_gName, W_gNil, W_gCons, W_gTup, W_store, W_bM, W_bM0, W_fld, W_isi, W_chain, W_ii, W_ic, W_addI, W_mulI, W_int, W_abs, W_max2, W_min2, WE_ok, WS_seq, fSub2, startM, List.replicate, fMod, fFdiv, W_iter, wk_l A.at_]
  refine loop_inv (fun i σ h' => (∃ a7 a12 w, σ = sg k f nm l o a6 a7 a8 a9 (some (.ref rl)) (some (.ref w)) a12 ∧ ∃ rr2, Rws h' w rr2 (wide (R.take i))) ∧ Gr nob h h') R.length ?st ?en big 0 _ _ (by show _ < 1000000 + 0; omega) (Nat.zero_le _) ⟨⟨_, _, _, rfl, [], B, rfl, by simp⟩, Gr.refl _ _⟩
  case en =>
    rintro σ h' ⟨⟨a7, a12, w, rfl, rr2, W⟩, G⟩
    rw [List.take_length] at W
    refine ⟨by rw [lst_at (G.at0 A.at_)]; simp [A.len], ⟨a7, a12, w, rfl, rr2, W⟩, G⟩
  case st =>
    rintro i σ h' li ⟨⟨a7, a12, w, rfl, rr2, W⟩, G⟩
    have E' := E.gr0 G
    have A' := A.gr G
    have lr : i < rr.length := by rw [A.len]; exact li
    have X := A'.row i _ _ (List.getElem?_eq_getElem lr) (List.getElem?_eq_getElem li)
    refine ⟨.ref rr[i], by rw [lst_at A'.at_, List.getElem?_map, List.getElem?_eq_getElem lr]; rfl, ?_⟩
    simp [W_loc, W_con, W_bin, W_tb, W_tru, W_notT, W_andT, W_orT, W_not, W_and, W_if, W_nil, W_cons, W_tup, W_lst, W_d0, W_callB, W_callF, W_ret, W_expr, W_skip, W_set, W_ifS, W_par, W_asgG, W_gName, W_gNil, W_gCons, W_gTup, W_store, W_bM, W_bM0, W_fld, W_isi, W_chain, W_ii, W_ic, W_addI, W_mulI, W_int, W_abs, W_max2, W_min2, WE_ok, WS_seq, fSub2, startM, List.replicate, fMod, fFdiv, WE_lc, W_iter, wk_l E'.N, wipeM]
    have lk := rk _ (List.getElem_mem li)
    refine WE_mono (p_ext E'.N X (by omega) _ (fun _ => rfl) (fun _ => rfl)) ?_
    rintro v h2 ⟨rr3, rfl, W3, G3⟩
    have W' := W.gr G3
    have wl : (wide (R.take i)).length ≤ 3 * 9 := by
      have : ∀ Q : List (List Str), (wide Q).length = 3 * Q.length := by
        intro Q
        induction Q with
        | nil => rfl
        | cons a r ih =>
          have : wide (a :: r) = (nms.map fun x => a ++ [x]) ++ wide r := rfl
          rw [this, List.length_append, ih, List.length_cons, List.length_map]
          have : nms.length = 3 := rfl
          omega
      rw [this]
      have : (R.take i).length ≤ 9 := by simp; omega
      omega
    rw [add_l W'.at_ W3.at_ (by
      have a := W'.len
      have b := W3.len
      have : nms.length = 3 := rfl
      simp [sizeLine] at *
      omega), WE_ok]
    have G4 := G3.trans (Gr.push nob h2 (.lst (rr2.map Va.ref ++ rr3.map Va.ref)))
    have W4 := W'.gr (Gr.push nob h2 (.lst (rr2.map Va.ref ++ rr3.map Va.ref)))
    have W5 := W3.gr (Gr.push nob h2 (.lst (rr2.map Va.ref ++ rr3.map Va.ref)))
    have e : wide (R.take (i + 1)) = wide (R.take i) ++ nms.map fun x => R[i] ++ [x] := by
      unfold wide
      rw [List.take_add_one, List.getElem?_eq_getElem li, List.flatMap_append]
      simp
    refine ⟨⟨_, _, h2.n, ⟨rfl, rfl, rfl⟩, rr2 ++ rr3, ?_⟩, G.trans G4⟩
    rw [e]
    refine ⟨by rw [List.map_append]; exact At.push _ _, by rw [List.length_append, List.length_append, W'.len, W3.len], ?_⟩
    intro j r s x y
    by_cases z : j < rr2.length
    · rw [List.getElem?_append_left z] at x
      rw [List.getElem?_append_left (W'.len ▸ z)] at y
      exact W4.row j r s x y
    · rw [List.getElem?_append_right (by omega)] at x
      rw [List.getElem?_append_right (by rw [← W'.len]; omega), ← W'.len] at y
      exact W5.row _ r s x y
theorem wide_len (Q : List (List Str)) : (wide Q).length = 3 * Q.length := by
  induction Q with
  | nil => rfl
  | cons a r ih =>
    have : wide (a :: r) = (nms.map fun x => a ++ [x]) ++ wide r := rfl
    rw [this, List.length_append, ih, List.length_cons, List.length_map]
    have : nms.length = 3 := rfl
    omega
theorem wide_row {Q : List (List Str)} {n : Nat} (k : ∀ r ∈ Q, r.length = n) : ∀ r ∈ wide Q, r.length = n + 1 := by
  intro r hr
  obtain ⟨a, ha, h2⟩ := List.mem_flatMap.mp hr
  obtain ⟨x, hx, rfl⟩ := List.mem_map.mp h2
  simp [k a ha]

theorem p_bd4 {f nm l o l2 : Nat} {rs rs2 : List Nat} {S : List (List En)} {ns : List Int} {m : Int} {h : MH} {k : Int} {a6 a7 a8 a9 a11 a12 : Option Va} {rl : Nat} (E : Env f nm l o l2 rs rs2 S ns h) (K : Kn S m) {rr : List Nat} (A : Rws h rl rr [[]]) :
    WS (bd4 (sg k f nm l o a6 a7 a8 a9 (some (.ref rl)) a11 a12) h) (fun σ h' => (∃ a6 a7 a8 a9 a10 a11 a12, σ = sg k f nm l o a6 a7 a8 a9 a10 a11 a12) ∧ Env f nm l o l2 rs rs2 S ns h') fun _ _ => False := by
  unfold bd4
  rw [WS_for]
  simp [W_loc, W_con, W_bin, W_tb, W_tru, W_notT, W_andT, W_orT, W_not, W_and, W_if, W_nil, W_cons, W_tup, W_lst, W_d0, W_callB, W_callF, W_ret, W_expr, W_skip, W_set, W_ifS, W_par, W_asgG, W_gName, W_gNil, W_gCons, W_gTup, W_store, W_bM, W_bM0, W_fld, W_isi, W_chain, W_ii, W_ic, W_addI, W_mulI, W_int, W_abs, W_max2, W_min2, WE_ok, WS_seq, fSub2, startM, List.replicate, fMod, fFdiv, W_rng1]
  refine ⟨by simp [l62], ?_⟩
  refine loop_inv (fun i σ h' => (∃ a6 a7 a8 a9 a11 a12 rl, σ = sg k f nm l o a6 a7 a8 a9 (some (.ref rl)) a11 a12 ∧ ∃ rr R, Rws h' rl rr R ∧ R.length = 3 ^ i ∧ (∀ r ∈ R, r.length = i) ∧ rsum (R.map (chq S)) = 1) ∧ Env f nm l o l2 rs rs2 S ns h') 3 ?st ?en big 0 _ _ (by decide) (Nat.zero_le _) ⟨⟨_, _, _, _, _, _, _, rfl, rr, [[]], A, rfl, by simp, ?z⟩, E⟩
  case z =>
    show rsum [chq S []] = 1
    rw [rsum_one]
    rfl
  case en =>
    rintro σ h' ⟨⟨a6, a7, a8, a9, a11, a12, rl, rfl, _⟩, E⟩
    exact ⟨rng_eq 3 _, by simp, E⟩
  case st =>
    rintro i σ h' li ⟨⟨a6, a7, a8, a9, a11, a12, rl, rfl, rr, R, A, rn, rk, q1⟩, E⟩
    refine ⟨.int i, rng_lt li _, ?_⟩
    have r9 : R.length ≤ 9 := by
      rw [rn]
      have : 3 ^ i ≤ 3 ^ 2 := Nat.pow_le_pow_right (by omega) (by omega)
      omega
    simp [W_loc, W_con, W_bin, W_tb, W_tru, W_notT, W_andT, W_orT, W_not, W_and, W_if, W_nil, W_cons, W_tup, W_lst, W_d0, W_callB, W_callF, W_ret, W_expr, W_skip, W_set, W_ifS, W_par, W_asgG, W_gName, W_gNil, W_gCons, W_gTup, W_store, W_bM, W_bM0, W_fld, W_isi, W_chain, W_ii, W_ic, W_addI, W_mulI, W_int, W_abs, W_max2, W_min2, WE_ok, WS_seq, fSub2, startM, List.replicate, fMod, fFdiv, WE_lc, W_iter, wk_l A.at_, wipeM]
    refine WE_mono (p_rows E K A r9 (fun r hr => by rw [rk r hr]; omega) _ (fun _ => rfl) (fun _ => rfl)) ?_
    rintro v h2 ⟨rfl, L, G2⟩
    refine WE_mono (p_added L ?q2 (by simpa using r9)) ?_
    case q2 =>
      intro q hq
      obtain ⟨r, hr, rfl⟩ := List.mem_map.mp hq
      exact chq_ok K.g K.em K.m0 _ K.tot (by rw [rk r hr]; omega)
    rintro v h3 ⟨rfl, rfl⟩
    rw [q1]
    refine ⟨by simp [sizeLine], ?_⟩
    rw [show (Va.tup [Va.int 1, Va.int 1]) = ratV 1 from rfl, ne_rat]
    simp [WE_ok]
    have G3 := G2.trans (Gr.push nob h3 (.lst []))
    refine WS_mono (p_widen (E.gr0 G3) (A.gr G3) r9 (fun r hr => by rw [rk r hr]; omega) k (At.push h3 _)) ?_ (fun _ _ => False.elim)
    rintro σ h4 ⟨⟨a7, a12, w, rfl, rr2, W⟩, G4⟩
    simp [W_loc, W_con, W_bin, W_tb, W_tru, W_notT, W_andT, W_orT, W_not, W_and, W_if, W_nil, W_cons, W_tup, W_lst, W_d0, W_callB, W_callF, W_ret, W_expr, W_skip, W_set, W_ifS, W_par, W_asgG, W_gName, W_gNil, W_gCons, W_gTup, W_store, W_bM, W_bM0, W_fld, W_isi, W_chain, W_ii, W_ic, W_addI, W_mulI, W_int, W_abs, W_max2, W_min2, WE_ok, WS_seq, fSub2, startM, List.replicate, fMod, fFdiv]
    refine ⟨⟨_, _, _, _, _, _, w, ⟨rfl, rfl, rfl, rfl, rfl, rfl, rfl⟩, rr2, wide R, W, by rw [wide_len, rn, Nat.pow_succ]; omega, wide_row rk, ?_⟩, (E.gr0 G3).gr0 G4⟩
    rw [show wide R = R.flatMap fun row => nms.map fun x => row ++ [x] from rfl, chq_wide K.g K.em K.m0, q1]

theorem p_bd5 {f nm l o l2 : Nat} {rs rs2 : List Nat} {S : List (List En)} {ns : List Int} {m : Int} {h : MH} {k : Int} {a6 a7 a8 a9 a10 a11 a12 : Option Va} (E : Env f nm l o l2 rs rs2 S ns h) (K : Kn S m) :
    WS (bd5 (sg k f nm l o a6 a7 a8 a9 a10 a11 a12) h) (fun σ h' => (∃ a6 a7 a8 a9 a10 a11 a12, σ = sg k f nm l o a6 a7 a8 a9 a10 a11 a12) ∧ Env f nm l o l2 rs rs2 S ns h') fun _ _ => False := by
  unfold bd5
  have s0 : 0 < S.length := by have := K.m0; have := K.em; omega
  simp [W_loc, W_con, W_bin, W_tb, W_tru, W_notT, W_andT, W_orT, W_not, W_and, W_if, W_nil, W_cons, W_tup, W_lst, W_d0, W_callB, W_callF, W_ret, W_expr, W_skip, W_set, W_ifS, W_par, W_asgG, W_gName, W_gNil, W_gCons, W_gTup, W_store, W_bM, W_bM0, W_fld, W_isi, W_chain, W_ii, W_ic, W_addI, W_mulI, W_int, W_abs, W_max2, W_min2, WE_ok, WS_seq, fSub2, startM, List.replicate, fMod, fFdiv]
  refine W_meth0 ?_
  simp [W_loc, W_con, W_bin, W_tb, W_tru, W_notT, W_andT, W_orT, W_not, W_and, W_if, W_nil, W_cons, W_tup, W_lst, W_d0, W_callB, W_callF, W_ret, W_expr, W_skip, W_set, W_ifS, W_par, W_asgG, W_gName, W_gNil, W_gCons, W_gTup, W_store, W_bM, W_bM0, W_fld, W_isi, W_chain, W_ii, W_ic, W_addI, W_mulI, W_int, W_abs, W_max2, W_min2, WE_ok, WS_seq, fSub2, startM, List.replicate, fMod, fFdiv, insAt, E.O.get, List.lookup]
  refine ⟨by decide, ?_⟩
  refine WE_fn _ _ _ _ _ _ rfl ?_
  unfold b_Source_states
  simp [W_loc, W_con, W_bin, W_tb, W_tru, W_notT, W_andT, W_orT, W_not, W_and, W_if, W_nil, W_cons, W_tup, W_lst, W_d0, W_callB, W_callF, W_ret, W_expr, W_skip, W_set, W_ifS, W_par, W_asgG, W_gName, W_gNil, W_gCons, W_gTup, W_store, W_bM, W_bM0, W_fld, W_isi, W_chain, W_ii, W_ic, W_addI, W_mulI, W_int, W_abs, W_max2, W_min2, WE_ok, WS_seq, fSub2, startM, List.replicate, fMod, fFdiv, WE_lc, W_iter, wk_l E.T2.at_, insAt, E.O.get, List.lookup, wipeM]
  refine WE_mono (p_copies E.T2 (by have := K.m1; have := K.em; omega) 1 _ (by simp) []) ?_
  rintro v h2 ⟨rs3, rfl, T3, G⟩
  have E2 := E.gr0 G
  rw [ne_sts K.g s0 T3 E2.T]
  simp [WE_ok]
  exact E2
end Lw
end

section
namespace Lw
open PySem L2 Mn

theorem p_iter {h : MH} {ns : List Int} (es : h.s = ns) (l63 : ns.length ≤ 63) {k : Nat} (k5 : k ≤ 5) {a1 a2 a3 a4 a5 a6 a7 a8 a9 a10 a11 a12 : Option Va} {N : MS → MH → Prop} {R : Va → MH → Prop}
    (fin : ∀ b1 b2 b3 b4 b5 b6 b7 b8 b9 b10 b11 b12 h', h'.s = ns → N [some .scr, b1, b2, b3, b4, b5, b6, b7, b8, b9, b10, b11, b12] h') :
    WS ((mSeq (mSet 2 (mCallF 2 m_law_feed (mCons (mLoc 0) (mCons (mLoc 1) (mNil)))))
      (mSeq (mSet 3 (mLst (mCons (mCon (.str "ski")) (mCons (mCon (.str "a")) (mCons (mCon (.str "end")) (mNil))))))
      (mSeq (mSet 4 (mCallF 2 m_law_source (mCons (mLoc 2) (mCons (mLoc 3) (mNil)))))
      (mSeq (mSet 5 (mMake 0 2 m_Source___init__ (mCons (mLoc 4) (mNil))))
      (mSeq bd1
      (mSeq (mSet 7 (mLst (mNil)))
      (mSeq bd2
      (mSeq bd3
      (mSeq (mSet 10 (mLst (mCons (mLst (mNil)) (mNil))))
      (mSeq bd4
      bd5)))))))))) [some .scr, some (.int k), a2, a3, a4, a5, a6, a7, a8, a9, a10, a11, a12] h) N R := by
  simp only [W_loc, W_con, W_bin, W_tb, W_tru, W_notT, W_andT, W_orT, W_not, W_and, W_if, W_nil, W_cons, W_tup, W_lst, W_d0, W_callB, W_callF, W_ret, W_expr, W_skip, W_set, W_ifS, W_par, W_asgG, W_gName, W_gNil, W_gCons, W_gTup, W_store, W_bM, W_bM0, W_fld, W_isi, W_chain, W_ii, W_ic, W_addI, W_mulI, W_int, W_abs, W_max2, W_min2, WE_ok, WS_seq, fSub2, startM, List.replicate, fMod, fFdiv]
  simp only [List.getElem?_cons_zero, List.getElem?_cons_succ, Option.some.injEq, exists_eq_left', List.set_cons_zero, List.set_cons_succ, List.length_cons, List.length_nil, true_and]
  refine WE_mono (p_feed k5 (by rw [es]; exact l63)) ?_
  rintro v h1 ⟨f, rfl, F1, G1, b1⟩
  refine ⟨by simp [sizeLine], ?_⟩
  have f1 := F1.lt
  have N2 := At.push h1 (.lst (nms.map Va.str))
  have G2 := Gr.push nob h1 (.lst (nms.map Va.str))
  have F2 := F1.gr G2
  have nf : h1.n ≠ f := by omega
  have s2 : (h1.push (.lst (nms.map Va.str))).s = ns := (G1.trans G2).s.trans es
  have f2 := F2.lt
  rw [show [Va.str (Str.ofString "ski"), Va.str (Str.ofString "a"), Va.str (Str.ofString "end")] = nms.map Va.str from rfl]
  generalize hn : h1.n = nm at N2 nf
  generalize h1.push (.lst (nms.map Va.str)) = h2 at N2 F2 s2 f2
  refine WE_mono (p_source F2 N2 nf) ?_
  rintro v h3 ⟨⟨l, rs, S, m, rfl, T, g, em, m0, m1, bl⟩, F3, G3⟩
  have K : Kn S m := ⟨g, em, m0, m1⟩
  have lf : l ≠ f := by omega
  rw [W_make]
  simp only [W_loc, W_con, W_bin, W_tb, W_tru, W_notT, W_andT, W_orT, W_not, W_and, W_if, W_nil, W_cons, W_tup, W_lst, W_d0, W_callB, W_callF, W_ret, W_expr, W_skip, W_set, W_ifS, W_par, W_asgG, W_gName, W_gNil, W_gCons, W_gTup, W_store, W_bM, W_bM0, W_fld, W_isi, W_chain, W_ii, W_ic, W_addI, W_mulI, W_int, W_abs, W_max2, W_min2, WE_ok, WS_seq, fSub2, startM, List.replicate, fMod, fFdiv]
  simp only [List.getElem?_cons_zero, List.getElem?_cons_succ, Option.some.injEq, exists_eq_left', List.length_cons, List.length_nil]
  refine ⟨by simp, ?_⟩
  have f3 := F3.lt
  refine WE_mono (p_init T g em m0 m1) ?_
  rintro v h4 ⟨rfl, ⟨l2, rs2, O, T2, b2⟩, G4⟩
  refine ⟨rfl, ?_⟩
  have E : Env f nm l h3.n l2 rs rs2 S ns h4 := ⟨F3.gr G4, G4.at0 (G3.at_ N2 nf), nf, T.gr0 G4, lf, O, T2, by omega, G4.s.trans (G3.s.trans s2)⟩
  generalize h3.n = o at E
  refine WS_mono (p_bd1 E K) ?_ (fun _ _ => False.elim)
  rintro σ h5 ⟨⟨c6, c7, c8, c9, c10, c11, c12, rfl⟩, E⟩
  refine ⟨Nat.zero_le _, ?_⟩
  refine WS_mono (p_bd2 E K) ?_ (fun _ _ => False.elim)
  rintro σ h6 ⟨⟨c6, c7, c8, c9, c10, c11, c12, rfl⟩, E⟩
  refine WS_mono (p_bd3 E K) ?_ (fun _ _ => False.elim)
  rintro σ h7 ⟨⟨c6, c7, c8, c9, c10, c11, c12, rfl⟩, E⟩
  refine ⟨Nat.zero_le _, by simp [sizeLine], ?_⟩
  have G7 := (Gr.push nob h7 (.lst [])).trans (Gr.push nob (h7.push (.lst [])) (.lst [Va.ref h7.n]))
  have A7 : Rws ((h7.push (.lst [])).push (.lst [Va.ref h7.n])) (h7.push (.lst [])).n [h7.n] [[]] := ⟨At.push _ _, rfl, by
    intro i r s a b
    cases i with
    | zero =>
      simp at a b
      subst a b
      exact (At.push h7 (.lst [])).push' _
    | succ i => simp at a⟩
  refine WS_mono (p_bd4 (E.gr0 G7) K A7) ?_ (fun _ _ => False.elim)
  rintro σ h8 ⟨⟨c6, c7, c8, c9, c10, c11, c12, rfl⟩, E⟩
  refine WS_mono (p_bd5 E K) ?_ (fun _ _ => False.elim)
  rintro σ h9 ⟨⟨c6, c7, c8, c9, c10, c11, c12, rfl⟩, E⟩
  exact fin _ _ _ _ _ _ _ _ _ _ _ _ _ E.s

theorem runs : ∀ ns, Mn.bitsOk ns → ∃ h', m_law [.scr] (Mn.heap0 ns) = .ok (.bl true) h' := by
  intro ns ok
  suffices w : WE (m_law [.scr] (Mn.heap0 ns)) fun v _ => v = .bl true by
    obtain ⟨v, h', e, rfl⟩ := WE_ex w
    exact ⟨h', e⟩
  refine WE_fn _ _ _ _ _ _ rfl ?_
  rw [law_eq]
  have c : fLen [.scr] (Mn.heap0 ns) = .ok (.int ns.length) (Mn.heap0 ns) := by
    simp [fLen, listAt, scrL, Mn.heap0]
  rw [WS_seq, WS_for]
  simp [W_loc, W_con, W_bin, W_tb, W_tru, W_notT, W_andT, W_orT, W_not, W_and, W_if, W_nil, W_cons, W_tup, W_lst, W_d0, W_callB, W_callF, W_ret, W_expr, W_skip, W_set, W_ifS, W_par, W_asgG, W_gName, W_gNil, W_gCons, W_gTup, W_store, W_bM, W_bM0, W_fld, W_isi, W_chain, W_ii, W_ic, W_addI, W_mulI, W_int, W_abs, W_max2, W_min2, WE_ok, WS_seq, fSub2, startM, List.replicate, fMod, fFdiv, W_rng1, c]
  have k5 : 1 ≤ (if (1 : Int) < (if (ns.length : Int) < 5 then (ns.length : Int) else 5) then (if (ns.length : Int) < 5 then (ns.length : Int) else 5) else 1) ∧ (if (1 : Int) < (if (ns.length : Int) < 5 then (ns.length : Int) else 5) then (if (ns.length : Int) < 5 then (ns.length : Int) else 5) else 1) ≤ 5 := by
    split <;> split <;> omega
  generalize (if (1 : Int) < (if (ns.length : Int) < 5 then (ns.length : Int) else 5) then (if (ns.length : Int) < 5 then (ns.length : Int) else 5) else 1) = n at k5
  refine ⟨by simp [l62]; omega, ?_⟩
  refine loop_inv (fun i σ h' => (∃ b1 b2 b3 b4 b5 b6 b7 b8 b9 b10 b11 b12, σ = [some .scr, b1, b2, b3, b4, b5, b6, b7, b8, b9, b10, b11, b12]) ∧ h'.s = ns) n.toNat ?st ?en big 0 _ _ (by show _ < 1000000 + 0; omega) (Nat.zero_le _) ⟨⟨_, _, _, _, _, _, _, _, _, _, _, _, rfl⟩, rfl⟩
  case en =>
    intro σ h' _
    exact ⟨rng_eq _ _, trivial⟩
  case st =>
    rintro i σ h' li ⟨⟨b1, b2, b3, b4, b5, b6, b7, b8, b9, b10, b11, b12, rfl⟩, es⟩
    refine ⟨.int i, rng_lt li _, ?_⟩
    rw [W_gName]
    refine p_iter (a1 := b1) es ok.1 (by omega) ?_
    intro b1 b2 b3 b4 b5 b6 b7 b8 b9 b10 b11 b12 h' es
    exact ⟨⟨_, _, _, _, _, _, _, _, _, _, _, _, rfl⟩, es⟩
end Lw
end
open PySem PySem.W PyProof.Rows
set_option maxRecDepth 100000 in
set_option maxHeartbeats 0 in
theorem PySem.Challenge.cw_latewise_k37_chances_of_rows_holds : PySem.Challenge.rw_latewise_k37_chances_of_rows.Holds := by
  w_on; o_law; k_head; (case hw => w_witness2)
  k_fill
  refine Mn.walkG (k := 6) (l := PySem.Challenge.rw_latewise_k37_chances_of_rows) (x := "script") (m := Lw.m_law) rfl rfl ⟨rfl, by decide, by decide⟩ (fun w h Y => PySem.W.kIn_of Y) ?F Lw.runs
  case F =>
    intro w mg fa h KX G hmg
    refine' Lw.all_mk KX G hmg ?a_Source ?pg_Source ?hd_Source ?po_Source ?sa_Source ?mk_Source ?kc_Source ?n_Source_rows ?z_abs ?z_all ?z_bool ?z_dict ?z_int ?z_isinstance ?z_len ?z_list ?z_max ?z_min ?z_range ?z_repr ?z_sorted ?z_str ?z_sum ?z_tuple ?y_LETTERS ?y_MAX_NAME ?y_MAX_PART ?y_MAX_SOURCE ?a_Source_states ?i_Source_states ?l_Source_states ?c_Source_states ?k_Source_states ?a_law_fraction ?l_law_fraction ?c_law_fraction ?k_law_fraction ?a_law_added ?l_law_added ?c_law_added ?k_law_added ?a_fraction_of ?l_fraction_of ?c_fraction_of ?k_fraction_of ?a_total_of ?l_total_of ?c_total_of ?k_total_of ?a_chance ?l_chance ?c_chance ?k_chance ?a_reached_from ?l_reached_from ?c_reached_from ?k_reached_from ?a_is_integer ?l_is_integer ?c_is_integer ?k_is_integer ?a_is_name ?l_is_name ?c_is_name ?k_is_name ?a_is_source_state ?l_is_source_state ?c_is_source_state ?k_is_source_state ?a_are_source_states ?l_are_source_states ?c_are_source_states ?k_are_source_states ?a_Source___init__ ?i_Source___init__ ?l_Source___init__ ?c_Source___init__ ?k_Source___init__ ?a_law_due ?l_law_due ?c_law_due ?k_law_due ?a_law_take ?l_law_take ?c_law_take ?k_law_take ?a_law_pick ?l_law_pick ?c_law_pick ?k_law_pick ?a_law_row ?l_law_row ?c_law_row ?k_law_row ?a_law_source ?l_law_source ?c_law_source ?k_law_source ?a_law_feed ?l_law_feed ?c_law_feed ?k_law_feed ?a_law ?l_law ?c_law ?k_law
    (case a_Source => k_is)
    (case pg_Source => k_is)
    (case hd_Source => k_is)
    (case po_Source => k_is)
    (case sa_Source => k_is)
    (case mk_Source => k_is)
    (case kc_Source => k_is)
    (case n_Source_rows => k_is)
    (case z_abs => k_is)
    (case z_all => k_is)
    (case z_bool => k_is)
    (case z_dict => k_is)
    (case z_int => k_is)
    (case z_isinstance => k_is)
    (case z_len => k_is)
    (case z_list => k_is)
    (case z_max => k_is)
    (case z_min => k_is)
    (case z_range => k_is)
    (case z_repr => k_is)
    (case z_sorted => k_is)
    (case z_str => k_is)
    (case z_sum => k_is)
    (case z_tuple => k_is)
    (case y_LETTERS => k_is)
    (case y_MAX_NAME => k_is)
    (case y_MAX_PART => k_is)
    (case y_MAX_SOURCE => k_is)
    (case a_Source_states => k_is)
    (case i_Source_states => k_is)
    (case l_Source_states => k_is)
    (case c_Source_states => k_is)
    (case k_Source_states => k_is)
    (case a_law_fraction => k_is)
    (case l_law_fraction => k_is)
    (case c_law_fraction => k_is)
    (case k_law_fraction => k_is)
    (case a_law_added => k_is)
    (case l_law_added => k_is)
    (case c_law_added => k_is)
    (case k_law_added => k_is)
    (case a_fraction_of => k_is)
    (case l_fraction_of => k_is)
    (case c_fraction_of => k_is)
    (case k_fraction_of => k_is)
    (case a_total_of => k_is)
    (case l_total_of => k_is)
    (case c_total_of => k_is)
    (case k_total_of => k_is)
    (case a_chance => k_is)
    (case l_chance => k_is)
    (case c_chance => k_is)
    (case k_chance => k_is)
    (case a_reached_from => k_is)
    (case l_reached_from => k_is)
    (case c_reached_from => k_is)
    (case k_reached_from => k_is)
    (case a_is_integer => k_is)
    (case l_is_integer => k_is)
    (case c_is_integer => k_is)
    (case k_is_integer => k_is)
    (case a_is_name => k_is)
    (case l_is_name => k_is)
    (case c_is_name => k_is)
    (case k_is_name => k_is)
    (case a_is_source_state => k_is)
    (case l_is_source_state => k_is)
    (case c_is_source_state => k_is)
    (case k_is_source_state => k_is)
    (case a_are_source_states => k_is)
    (case l_are_source_states => k_is)
    (case c_are_source_states => k_is)
    (case k_are_source_states => k_is)
    (case a_Source___init__ => k_is)
    (case i_Source___init__ => k_is)
    (case l_Source___init__ => k_is)
    (case c_Source___init__ => k_is)
    (case k_Source___init__ => k_is)
    (case a_law_due => k_is)
    (case l_law_due => k_is)
    (case c_law_due => k_is)
    (case k_law_due => k_is)
    (case a_law_take => k_is)
    (case l_law_take => k_is)
    (case c_law_take => k_is)
    (case k_law_take => k_is)
    (case a_law_pick => k_is)
    (case l_law_pick => k_is)
    (case c_law_pick => k_is)
    (case k_law_pick => k_is)
    (case a_law_row => k_is)
    (case l_law_row => k_is)
    (case c_law_row => k_is)
    (case k_law_row => k_is)
    (case a_law_source => k_is)
    (case l_law_source => k_is)
    (case c_law_source => k_is)
    (case k_law_source => k_is)
    (case a_law_feed => k_is)
    (case l_law_feed => k_is)
    (case c_law_feed => k_is)
    (case k_law_feed => k_is)
    (case a_law => k_is)
    (case l_law => k_is)
    (case c_law => k_is)
    (case k_law => k_is)
