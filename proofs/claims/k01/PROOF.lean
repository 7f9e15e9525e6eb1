import PyProof.Rows.All
import Wide.All
import OpenK.AllK
import Wide.FinOn
import HandS.ForMost
import HandS.IsInst
import HandS.Deep
import HandS.SortOrd
import HandS.Zip
import HandS.Conv
import HandS.TupAny
import KE.SortData
import HandS.SortRule
import HandS.Style
import HandS.Dict
import HandS.Words
import PyProof.Laws
import PySem.Challenge.RW_awaywhencalled_k01_houses_rules_and_stan
set_option Elab.async false
set_option linter.all false
set_option maxRecDepth 100000
set_option maxHeartbeats 4000000
/-! Data: what a value of the program means, whatever the heap; how it lies in the heap. -/
namespace AW
open PySem PySem.Spec PyProof.Rows L2

inductive D where
  | non | bl (b : Bool) | int (i : Int) | str (x : Str) | tup (xs : List D) | lst (xs : List D) | arr (xs : List D)

mutual
def D.py : D → PyData
  | .non => .none
  | .bl b => .bool b
  | .int i => .int i
  | .str x => .str x
  | .tup xs => .tuple (D.pys xs)
  | .lst xs => .list (D.pys xs)
  | .arr xs => .list (D.pys xs)
def D.pys : List D → List PyData
  | [] => []
  | x :: r => D.py x :: D.pys r
end
mutual
def D.dep : D → Nat
  | .non => 0
  | .bl _ => 0
  | .int _ => 0
  | .str _ => 0
  | .tup xs => D.deps xs + 1
  | .lst xs => D.deps xs + 1
  | .arr xs => D.deps xs + 1
def D.deps : List D → Nat
  | [] => 0
  | x :: r => max (D.dep x) (D.deps r)
end
mutual
/-- Python's == -/
def D.eqv : D → D → Bool
  | .non, .non => true
  | .bl a, .bl b => a == b
  | .bl a, .int j => (if a then 1 else 0) == j
  | .int i, .bl b => i == (if b then 1 else 0)
  | .int i, .int j => i == j
  | .str x, .str y => x == y
  | .tup xs, .tup ys => D.eqvs xs ys
  | .lst xs, .lst ys => D.eqvs xs ys
  | .lst xs, .arr ys => D.eqvs xs ys
  | .arr xs, .lst ys => D.eqvs xs ys
  | .arr xs, .arr ys => D.eqvs xs ys
  | _, _ => false
def D.eqvs : List D → List D → Bool
  | [], [] => true
  | x :: xs, y :: ys => D.eqv x y && D.eqvs xs ys
  | _, _ => false
end
mutual
theorem D.eqv_py : ∀ a b : D, PyData.eqv a.py b.py = D.eqv a b
  | .non, b => by cases b <;> simp [D.py, D.eqv, PyData.eqv]
  | .bl a, b => by cases b <;> simp [D.py, D.eqv, PyData.eqv]
  | .int a, b => by cases b <;> simp [D.py, D.eqv, PyData.eqv]
  | .str a, b => by cases b <;> simp [D.py, D.eqv, PyData.eqv]
  | .tup xs, b => by
    cases b with
    | tup ys => simp only [D.py, D.eqv, PyData.eqv]; exact D.eqvs_py xs ys
    | _ => simp [D.py, D.eqv, PyData.eqv]
  | .lst xs, b => by
    cases b with
    | lst ys => simp only [D.py, D.eqv, PyData.eqv]; exact D.eqvs_py xs ys
    | arr ys => simp only [D.py, D.eqv, PyData.eqv]; exact D.eqvs_py xs ys
    | _ => simp [D.py, D.eqv, PyData.eqv]
  | .arr xs, b => by
    cases b with
    | lst ys => simp only [D.py, D.eqv, PyData.eqv]; exact D.eqvs_py xs ys
    | arr ys => simp only [D.py, D.eqv, PyData.eqv]; exact D.eqvs_py xs ys
    | _ => simp [D.py, D.eqv, PyData.eqv]
theorem D.eqvs_py : ∀ xs ys : List D, PyData.eqvAll (D.pys xs) (D.pys ys) = D.eqvs xs ys
  | [], [] => by simp [D.pys, D.eqvs, PyData.eqvAll]
  | [], _ :: _ => by simp [D.pys, D.eqvs, PyData.eqvAll]
  | _ :: _, [] => by simp [D.pys, D.eqvs, PyData.eqvAll]
  | x :: xs, y :: ys => by simp only [D.pys, D.eqvs, PyData.eqvAll]; rw [D.eqv_py x y, D.eqvs_py xs ys]
end
mutual
theorem D.dep_py : ∀ a : D, a.py.depth ≤ a.dep
  | .non => by simp [D.py, PyData.depth, D.dep]
  | .bl _ => by simp [D.py, PyData.depth, D.dep]
  | .int _ => by simp [D.py, PyData.depth, D.dep]
  | .str _ => by simp [D.py, PyData.depth, D.dep]
  | .tup xs => by have := D.deps_py xs; simp only [D.py, PyData.depth, D.dep]; omega
  | .lst xs => by have := D.deps_py xs; simp only [D.py, PyData.depth, D.dep]; omega
  | .arr xs => by have := D.deps_py xs; simp only [D.py, PyData.depth, D.dep]; omega
theorem D.deps_py : ∀ xs : List D, PyData.depthAll (D.pys xs) ≤ D.deps xs
  | [] => by simp [D.pys, PyData.depthAll, D.deps]
  | x :: r => by have := D.dep_py x; have := D.deps_py r; simp only [D.pys, PyData.depthAll, D.deps]; omega
end
/-! ### how data lie -/
/-- a list that never changes any more -/
def FzL (H : Hp) (a : Addr) (xs : List V) : Prop := ∃ o, H a = some (.frz o (.lst xs))
def FzA (K : PySem.W.Frag) (H : Hp) (a : Addr) (xs : List V) : Prop :=
  (∃ o, H a = some (.frz o (.lst xs))) ∨
    ∃ (o : Obj) (its : Array Value) (n : Nat), K.lookup a = some o ∧ o.cls = .type "list" ∧ o.dict = none ∧ o.data = .seq its n ∧ its.size ≤ sizeLine ∧ Vals xs its.toList
theorem FzL.sq {K : PySem.W.Frag} {H : Hp} {a : Addr} {xs : List V} (h : FzL H a xs) : SqL K H a xs := by
  obtain ⟨o, h⟩ := h
  exact .inl (.inr ⟨o, h⟩)
theorem FzA.sq {K : PySem.W.Frag} {H : Hp} {a : Addr} {xs : List V} (h : FzA K H a xs) : SqL K H a xs := by
  rcases h with ⟨o, h⟩ | h
  · exact .inl (.inr ⟨o, h⟩)
  · exact .inr h
mutual
inductive DR (K : PySem.W.Frag) (H : Hp) : V → D → Prop
  | non : DR K H .non .non
  | bl (b : Bool) : DR K H (.bl b) (.bl b)
  | int (i : Int) : DR K H (.int i) (.int i)
  | str (x : Str) (h : PyData.strOk x = true) : DR K H (.str x) (.str x)
  | tup {a : Addr} {xs : List V} {ds : List D} : SqT K H a xs → DRs K H xs ds → DR K H (.ref a) (.tup ds)
  | lst {a : Addr} {xs : List V} {ds : List D} : FzL H a xs → DRs K H xs ds → DR K H (.ref a) (.lst ds)
  | arr {a : Addr} {xs : List V} {ds : List D} : FzA K H a xs → DRs K H xs ds → DR K H (.ref a) (.arr ds)
inductive DRs (K : PySem.W.Frag) (H : Hp) : List V → List D → Prop
  | nil : DRs K H [] []
  | cons {v : V} {vs : List V} {d : D} {ds : List D} : DR K H v d → DRs K H vs ds → DRs K H (v :: vs) (d :: ds)
end
/-- the heap goes on: tuples and frozen things stay, and all at F -/
structure Ex (F : Addr → Prop) (H H' : Hp) : Prop where
  tup : ∀ a xs, H a = some (.tup xs) → H' a = some (.tup xs)
  frz : ∀ a o u, H a = some (.frz o u) → H' a = some (.frz o u)
  keep : ∀ a o, F a → H a = some o → H' a = some o
theorem Ex.refl {F : Addr → Prop} (H : Hp) : Ex F H H := ⟨fun _ _ h => h, fun _ _ _ h => h, fun _ _ _ h => h⟩
theorem Ex.trans {F : Addr → Prop} {H H1 H2 : Hp} (a : Ex F H H1) (b : Ex F H1 H2) : Ex F H H2 :=
  ⟨fun c xs h => b.tup c xs (a.tup c xs h), fun c o u h => b.frz c o u (a.frz c o u h), fun c o f h => b.keep c o f (a.keep c o f h)⟩
theorem Ex.weak {F G : Addr → Prop} {H H' : Hp} (e : Ex G H H') (h : ∀ a, F a → G a) : Ex F H H' := ⟨e.tup, e.frz, fun a o f q => e.keep a o (h a f) q⟩
theorem Ex.new {F : Addr → Prop} {H : Hp} {p : Addr} {o : HO} (h : H p = none) : Ex F H (upd H p o) :=
  ⟨fun a xs q => by rw [upd_ne (ne_of_none q h)]; exact q, fun a ob u q => by rw [upd_ne (ne_of_none q h)]; exact q, fun a ob _ q => by rw [upd_ne (ne_of_none q h)]; exact q⟩
theorem Ex.set {F : Addr → Prop} {H : Hp} {p : Addr} {o : HO} {xs : List V} (h : H p = some (.lst xs)) (f : ¬ F p) : Ex F H (upd H p o) :=
  ⟨fun a ys q => by rw [upd_ne (ne_of q h (by intro z; cases z))]; exact q, fun a ob u q => by rw [upd_ne (ne_of q h (by intro z; cases z))]; exact q,
    fun a ob fa q => by rw [upd_ne (show a ≠ p from fun e => f (by rw [← e]; exact fa))]; exact q⟩
section
variable {K : PySem.W.Frag} {F : Addr → Prop} {H H' : Hp}
theorem Ex.sqT {a : Addr} {xs : List V} (e : Ex F H H') (h : SqT K H a xs) : SqT K H' a xs := by
  rcases h with (h | ⟨o, h⟩) | h
  · exact .inl (.inl (e.tup _ _ h))
  · exact .inl (.inr ⟨o, e.frz _ _ _ h⟩)
  · exact .inr h
theorem Ex.fzL {a : Addr} {xs : List V} (e : Ex F H H') (h : FzL H a xs) : FzL H' a xs := by
  obtain ⟨o, h⟩ := h
  exact ⟨o, e.frz _ _ _ h⟩
theorem Ex.fzA {a : Addr} {xs : List V} (e : Ex F H H') (h : FzA K H a xs) : FzA K H' a xs := by
  rcases h with ⟨o, h⟩ | h
  · exact .inl ⟨o, e.frz _ _ _ h⟩
  · exact .inr h
mutual
theorem DR.ex (e : Ex F H H') : ∀ {v : V} {d : D}, DR K H v d → DR K H' v d
  | _, _, .non => .non
  | _, _, .bl b => .bl b
  | _, _, .int i => .int i
  | _, _, .str x q => .str x q
  | _, _, .tup h r => .tup (e.sqT h) (DRs.ex e r)
  | _, _, .lst h r => .lst (e.fzL h) (DRs.ex e r)
  | _, _, .arr h r => .arr (e.fzA h) (DRs.ex e r)
theorem DRs.ex (e : Ex F H H') : ∀ {vs : List V} {ds : List D}, DRs K H vs ds → DRs K H' vs ds
  | _, _, .nil => .nil
  | _, _, .cons h r => .cons (DR.ex e h) (DRs.ex e r)
end
mutual
theorem DR.dp : ∀ {v : V} {d : D}, DR K H v d → Dp K H v d.py
  | _, _, .non => .non
  | _, _, .bl b => .bl b
  | _, _, .int i => .int i
  | _, _, .str x _ => .str x
  | _, _, .tup h r => .tup h (DRs.dp r)
  | _, _, .lst h r => .lst h.sq (DRs.dp r)
  | _, _, .arr h r => .lst h.sq (DRs.dp r)
theorem DRs.dp : ∀ {vs : List V} {ds : List D}, DRs K H vs ds → DpAll K H vs (D.pys ds)
  | _, _, .nil => .nil
  | _, _, .cons h r => .cons (DR.dp h) (DRs.dp r)
end
mutual
theorem DR.lay : ∀ {v : V} {d : D}, DR K H v d → d.py.canLay0 = true
  | _, _, .non => by simp [D.py, PyData.canLay0]
  | _, _, .bl _ => by simp [D.py, PyData.canLay0]
  | _, _, .int _ => by simp [D.py, PyData.canLay0]
  | _, _, .str x h => by simp only [D.py, PyData.canLay0]; exact h
  | _, _, .tup _ r => by simp only [D.py, PyData.canLay0]; exact DRs.lay r
  | _, _, .lst _ r => by simp only [D.py, PyData.canLay0]; exact DRs.lay r
  | _, _, .arr _ r => by simp only [D.py, PyData.canLay0]; exact DRs.lay r
theorem DRs.lay : ∀ {vs : List V} {ds : List D}, DRs K H vs ds → PyData.canLayAll0 (D.pys ds) = true
  | _, _, .nil => by simp [D.pys, PyData.canLayAll0]
  | _, _, .cons h r => by simp only [D.pys, PyData.canLayAll0, Bool.and_eq_true]; exact ⟨DR.lay h, DRs.lay r⟩
end
theorem shaped_of {a : D} (l : a.py.canLay0 = true) (h : a.dep ≤ 60) : SeqAt.shaped a.py = true := by
  unfold SeqAt.shaped
  rw [l, Bool.true_and]
  have := D.dep_py a
  exact decide_eq_true (by omega)
theorem DRs.len : ∀ {vs : List V} {ds : List D}, DRs K H vs ds → vs.length = ds.length
  | _, _, .nil => rfl
  | _, _, .cons _ r => congrArg (· + 1) (DRs.len r)
theorem DRs.get : ∀ {vs : List V} {ds : List D} {i : Nat} {d : D}, DRs K H vs ds → ds[i]? = some d → ∃ v, vs[i]? = some v ∧ DR K H v d
  | _, _, _, _, .nil, e => by simp at e
  | _, _, 0, _, .cons h _, e => by simp at e; subst e; exact ⟨_, rfl, h⟩
  | _, _, i + 1, d, .cons _ r, e => by
    obtain ⟨v, h1, h2⟩ := DRs.get (i := i) (d := d) r (by simpa using e)
    exact ⟨v, by simpa using h1, h2⟩
theorem DRs.get' : ∀ {vs : List V} {ds : List D} {i : Nat} {v : V}, DRs K H vs ds → vs[i]? = some v → ∃ d, ds[i]? = some d ∧ DR K H v d
  | _, _, _, _, .nil, e => by simp at e
  | _, _, 0, _, .cons h _, e => by simp at e; subst e; exact ⟨_, rfl, h⟩
  | _, _, i + 1, d, .cons _ r, e => by
    obtain ⟨v, h1, h2⟩ := DRs.get' (i := i) (v := d) r (by simpa using e)
    exact ⟨v, by simpa using h1, h2⟩
theorem DRs.app : ∀ {vs ws : List V} {ds es : List D}, DRs K H vs ds → DRs K H ws es → DRs K H (vs ++ ws) (ds ++ es)
  | _, _, _, _, .nil, s => s
  | _, _, _, _, .cons h r, s => .cons h (DRs.app r s)
theorem DRs.one {v : V} {d : D} (h : DR K H v d) : DRs K H [v] [d] := .cons h .nil
theorem DRs.take : ∀ {vs : List V} {ds : List D} (n : Nat), DRs K H vs ds → DRs K H (vs.take n) (ds.take n)
  | _, _, 0, _ => .nil
  | _, _, _ + 1, .nil => .nil
  | _, _, n + 1, .cons h r => .cons h (DRs.take n r)
theorem DRs.drop : ∀ {vs : List V} {ds : List D} (n : Nat), DRs K H vs ds → DRs K H (vs.drop n) (ds.drop n)
  | _, _, 0, r => r
  | _, _, _ + 1, .nil => .nil
  | _, _, n + 1, .cons _ r => DRs.drop n r
theorem DRs.set {v : V} {d : D} (h : DR K H v d) : ∀ {vs : List V} {ds : List D} (i : Nat), DRs K H vs ds → DRs K H (vs.set i v) (ds.set i d)
  | _, _, _, .nil => .nil
  | _, _, 0, .cons _ r => .cons h r
  | _, _, i + 1, .cons q r => .cons q (DRs.set h i r)
theorem DRs.erase : ∀ {vs : List V} {ds : List D} (i : Nat), DRs K H vs ds → DRs K H (vs.eraseIdx i) (ds.eraseIdx i)
  | _, _, _, .nil => .nil
  | _, _, 0, .cons _ r => r
  | _, _, i + 1, .cons q r => .cons q (DRs.erase i r)
theorem DRs.rep {vs : List V} {ds : List D} (h : DRs K H vs ds) : ∀ n : Nat, DRs K H (List.replicate n vs).flatten (List.replicate n ds).flatten
  | 0 => .nil
  | n + 1 => by
    rw [List.replicate_succ, List.replicate_succ, List.flatten_cons, List.flatten_cons]
    exact h.app (DRs.rep h n)
theorem DRs.mem {vs : List V} {ds : List D} (h : DRs K H vs ds) {d : D} (hd : d ∈ ds) : ∃ v ∈ vs, DR K H v d := by
  obtain ⟨i, hi⟩ := List.getElem?_of_mem hd
  obtain ⟨v, h1, h2⟩ := h.get hi
  exact ⟨v, List.mem_of_getElem? h1, h2⟩
theorem DRs.eraseIdx_rev {vs : List V} {ds : List D} (h : DRs K H vs ds) : DRs K H vs.reverse ds.reverse := by
  induction vs generalizing ds with
  | nil => cases h; exact .nil
  | cons v vs ih =>
    cases h with
    | cons h r =>
      rw [List.reverse_cons, List.reverse_cons]
      exact (ih r).app (.one h)
end

/-- a list is frozen: nothing happens but that it is known so -/
theorem _root_.L2.Inv.freeze {X : Cx} {pins : List (Addr × Obj)} {σ : L2.St} {H : Hp} {s : Shared} {a : Addr} {xs : List V} (I : Inv X pins σ H s) (h : H a = some (.lst xs)) :
    ∃ o, Inv X pins σ (upd H a (.frz o (.lst xs))) s := by
  obtain ⟨hz, its, n, r, e⟩ := I.hok a _ h
  refine ⟨{ cls := .type "list", data := .seq its.toArray n }, ?_⟩
  have u : Un X.fs [] H (upd H a (.frz { cls := .type "list", data := .seq its.toArray n } (.lst xs))) s.heap s.heap := by
    refine ⟨fun b o q _ _ _ => q, fun b o q _ _ _ => ⟨o.slots, q⟩, fun b o q n' _ => ?_, fun b o q _ => ⟨o, q⟩, fun b ys q => ?_, fun b o v q => ?_, fun b ps q => ⟨#[], ?_⟩⟩
    · rw [upd_ne (fun z => by subst z; rw [h] at n'; cases n')]; exact n'
    · rw [upd_ne (ne_of q h (by intro z; cases z))]; exact q
    · rw [upd_ne (ne_of q h (by intro z; cases z))]; exact q
    · rw [upd_ne (ne_of q h (by intro z; cases z)), q]; simp
  refine I.un (t' := s.toks) u fun b o q => ?_
  by_cases hb : b = a
  · subst hb
    rw [upd_same] at q
    cases q
    exact ⟨e, hz, its, n, r, e⟩
  · rw [upd_ne hb] at q
    exact (I.hok b o q).stay (fun c v _ q => q) (fun c q => by rw [upd_ne (ne_of q h (by intro z; cases z))]; exact q) fun c ys q => by rw [upd_ne (ne_of q h (by intro z; cases z))]; exact q
end AW

set_option Elab.async false
set_option linter.all false
set_option maxRecDepth 100000
set_option maxHeartbeats 4000000
/-! The text as a small tree, what the tree is worth, and how the text becomes the tree. -/
namespace AW
open PySem PySem.Spec PyProof.Rows L2

inductive Res (α : Type) where
  | ok (a : α) | exc (c : Str) (p : D) | no
/-- a mark on what follows: simp does not go into it -/
inductive Fx {α β : Type} (f : α → Res β) : Type where
  | mk
def Res.bind {α β : Type} (x : Res α) (f : α → Res β) (_h : Fx f := .mk) : Res β := match x with
  | .ok a => f a
  | .exc c p => .exc c p
  | .no => .no
instance : Monad Res where
  pure := Res.ok
  bind := fun x f => x.bind f

inductive Val where
  | d (x : D) | own (xs : List D)
inductive Slot where
  | d (x : D) | own (xs : List D) | lk (xs : List D) | io (xs : List D)
abbrev Env := List (Option Slot)
inductive PVal where
  | val (v : Val) | var (i : Nat)
def Val.toD : Val → D
  | .d x => x
  | .own xs => .lst xs
def Val.slot : Val → Slot
  | .d x => .d x
  | .own xs => .own xs

/-! ### trees -/
inductive Bi where
  | len | int | abs | list | tuple | sorted | any | all | max | min | lrange | str | set
  deriving DecidableEq
inductive Ty where
  | int | bool | str | tuple | list
  deriving DecidableEq
mutual
inductive Tg where
  | n (i : Nat) | t (ts : Tgs)
inductive Tgs where
  | nil | cons (t : Tg) (r : Tgs)
end
mutual
inductive E where
  | k (d : D) | gc (d : D) | v (i : Nat)
  | tup (es : Es) | lst (es : Es)
  | bin (op : Operator) (a b : E) | neg (a : E) | not (a : E) | and (a b : E) | or (a b : E)
  | cmp (op : CmpOp) (a b : E) | chain (op op2 : CmpOp) (a b c : E) | ife (t a b : E)
  | call (f : Nat) (as : Es) | calli (f : Nat) (i : Nat) (as : Es)
  | b1 (b : Bi) (a : E) | b2 (b : Bi) (a b2 : E) | isi (a : E) (ts : List Ty)
  | ix (o i : E) | sl (o : E) (lo hi : Oe) | lc (tg : Tg) (it : It) (own : List Nat) (tt : Oe) (elt : E)
  | app (i : Nat) (e : E) | pop (i : Nat) | popA (i : Nat) (e : E)
  | rev (a : E) | dget (kvs : List (Str × Int)) (a b : E)
inductive Es where
  | nil | cons (e : E) (r : Es)
inductive Oe where
  | non | som (e : E)
inductive It where
  | e (e : E) | rng (a : E) | zip (a b : E)
end
mutual
inductive S where
  | asg (i : Nat) (e : E) | unp (tg : Tg) (e : E) | par (ts : Tgs) (es : Es) | setL (i : Nat) (ix e : E)
  | ex (e : E) | iff (t : E) (a b : Ss) | for_ (tg : Tg) (it : It) (b : Ss) | whl (t : E) (b : Ss)
  | ret (e : E) | pass | brk | cont | bad
inductive Ss where
  | nil | cons (s : S) (r : Ss)
end

/-! ### what operations are worth -/
def lim : Nat := 16000000
def eqD (x y : D) : Option Bool := match x, y with
  | .int i, .int j => some (decide (i = j))
  | .bl i, .bl j => some (i == j)
  | .str i, .str j => some (decide (i = j))
  | x, y => if x.dep ≤ 60 ∧ y.dep ≤ 60 then some (D.eqv x y) else none
def flat : D → Bool
  | .non => true
  | .bl _ => true
  | .int _ => true
  | .str _ => true
  | _ => false
def inD (x y : D) : Option Bool := match y with
  | .lst ys => if x.dep ≤ 60 ∧ D.deps ys ≤ 59 then some (ys.any fun z => D.eqv z x) else none
  | .tup ys => if flat x = true ∧ ys.all flat = true then some (ys.any fun z => D.eqv z x) else none
  | _ => none
def isNon : D → Bool
  | .non => true
  | _ => false
def cmpD (op : CmpOp) (x y : D) : Option Bool := match op with
  | .Eq => eqD x y
  | .NotEq => (eqD x y).map (!·)
  | .Lt => match x, y with
    | .int i, .int j => some (decide (i < j))
    | _, _ => none
  | .LtE => match x, y with
    | .int i, .int j => some (decide (i ≤ j))
    | _, _ => none
  | .Gt => match x, y with
    | .int i, .int j => some (decide (j < i))
    | _, _ => none
  | .GtE => match x, y with
    | .int i, .int j => some (decide (j ≤ i))
    | _, _ => none
  | .In => inD x y
  | .NotIn => (inD x y).map (!·)
  | .Is => match y with
    | .non => some (isNon x)
    | _ => none
  | .IsNot => match y with
    | .non => some (!isNon x)
    | _ => none
def binD (op : Operator) (x y : D) : Option Val := match op with
  | .Add => match x, y with
    | .int i, .int j => some (.d (.int (i + j)))
    | .lst xs, .lst ys => if xs.length + ys.length ≤ lim then some (.own (xs ++ ys)) else none
    | .tup xs, .tup ys => if xs.length + ys.length ≤ lim then some (.d (.tup (xs ++ ys))) else none
    | .str a, .str b => if a.length + b.length ≤ lim then some (.d (.str (a ++ b))) else none
    | _, _ => none
  | .Sub => match x, y with
    | .int i, .int j => some (.d (.int (i - j)))
    | _, _ => none
  | .Mult => match x, y with
    | .int i, .int j => if (-(2 ^ 64) < i ∧ i < 2 ^ 64) ∨ (-(2 ^ 64) < j ∧ j < 2 ^ 64) then some (.d (.int (i * j))) else none
    | .lst xs, .int k => if -(2 ^ 62) ≤ k ∧ k < 2 ^ 62 ∧ xs.length * k.toNat ≤ lim then some (.own (List.replicate k.toNat xs).flatten) else none
    | _, _ => none
  | .FloorDiv => match x, y with
    | .int i, .int j => if j ≠ 0 ∧ j.natAbs < 1073741824 then some (.d (.int (i.fdiv j))) else none
    | _, _ => none
  | .Mod => match x, y with
    | .int i, .int j => if j ≠ 0 then some (.d (.int (i.fmod j))) else none
    | _, _ => none
  | .Pow => match x, y with
    | .int i, .int j => if 0 ≤ j ∧ j ≤ 1000000 ∧ i.natAbs < 2 ^ 64 then some (.d (.int (i ^ j.toNat))) else none
    | _, _ => none
  | _ => none
def ints? : List D → Option (List Int)
  | [] => some []
  | .int i :: r => (ints? r).map (i :: ·)
  | _ :: _ => none
def bls? : List D → Option (List Bool)
  | [] => some []
  | .bl b :: r => (bls? r).map (b :: ·)
  | _ :: _ => none
def items? : D → Option (List D)
  | .lst xs => some xs
  | .tup xs => some xs
  | _ => none

/-! order -/
/-- in the order that Python sorts by -/
def sortD (xs : List D) : List D := xs.mergeSort (PySem.W.dataLe false D.py)
def isRow : D → Bool
  | .tup (_ :: _) => true
  | _ => false
def noRow : D → Bool
  | .tup _ => false
  | .non => false
  | _ => true
/-- Python can sort them -/
def sortable (xs : List D) : Bool := decide (xs.length ≤ lim) && decide (D.deps xs ≤ 60) && (xs.all fun a => xs.all fun b => PySem.W.alike a.py b.py) && (xs.all isRow || xs.all noRow)

def bi1 (b : Bi) (x : D) : Option Val := match b with
  | .len => match x with
    | .lst xs => some (.d (.int xs.length))
    | .tup xs => some (.d (.int xs.length))
    | .arr xs => some (.d (.int xs.length))
    | _ => none
  | .int => match x with
    | .int i => some (.d (.int i))
    | .bl c => some (.d (.int (if c then 1 else 0)))
    | _ => none
  | .abs => match x with
    | .int i => some (.d (.int (if i < 0 then -i else i)))
    | _ => none
  | .list => match x with
    | .lst xs => some (.own xs)
    | .tup xs => some (.own xs)
    | _ => none
  | .tuple => match x with
    | .lst xs => some (.d (.tup xs))
    | .tup xs => some (.d (.tup xs))
    | _ => none
  | .sorted => match x with
    | .lst xs => if sortable xs = true then some (.own (sortD xs)) else none
    | .tup xs => if sortable xs = true then some (.own (sortD xs)) else none
    | _ => none
  | .any => match x with
    | .lst xs => (bls? xs).map fun bs => .d (.bl (bs.any id))
    | _ => none
  | .all => match x with
    | .lst xs => (bls? xs).map fun bs => .d (.bl (bs.all id))
    | _ => none
  | .max => match x with
    | .lst xs => (ints? xs).bind fun ns => match ns with
      | [] => none
      | n :: r => some (.d (.int (r.foldl (fun a b => if b > a then b else a) n)))
    | _ => none
  | .min => match x with
    | .lst xs => (ints? xs).bind fun ns => match ns with
      | [] => none
      | n :: r => some (.d (.int (r.foldl (fun a b => if b < a then b else a) n)))
    | _ => none
  | .lrange => match x with
    | .int n => if -1000000 ≤ n ∧ n ≤ 1000000 then some (.own ((List.range n.toNat).map fun (i : Nat) => D.int i)) else none
    | _ => none
  | _ => none
def bi2 (b : Bi) (x y : D) : Option Val := match b with
  | .max => match x, y with
    | .int i, .int j => some (.d (.int (if j > i then j else i)))
    | _, _ => none
  | .min => match x, y with
    | .int i, .int j => some (.d (.int (if j < i then j else i)))
    | _, _ => none
  | _ => none
def isiT : Ty → D → Bool
  | .int, .int _ => true
  | .int, .bl _ => true
  | .bool, .bl _ => true
  | .str, .str _ => true
  | .tuple, .tup _ => true
  | .list, .lst _ => true
  | .list, .arr _ => true
  | _, _ => false
def isiD (ts : List Ty) (x : D) : Bool := ts.any fun t => isiT t x
def ixD (x i : D) : Option D := match x, i with
  | .lst xs, .int j => atI xs j
  | .tup xs, .int j => atI xs j
  | .arr xs, .int j => atI xs j
  | _, _ => none
def cutD (xs : List D) (lo hi : Option Int) : List D := (xs.drop (HT.sIx xs.length 0 lo)).take (HT.sIx xs.length xs.length hi - HT.sIx xs.length 0 lo)
def slD (x : D) (lo hi : Option Int) : Option Val := match x with
  | .lst xs => some (.own (cutD xs lo hi))
  | .tup xs => some (.d (.tup (cutD xs lo hi)))
  | _ => none

/-! ### what trees are worth -/
def ofO {α : Type} : Option α → Res α
  | some a => .ok a
  | none => .no
def getS (ρ : Env) (i : Nat) : Option Slot := ρ.getD i none
def setS (ρ : Env) (i : Nat) (s : Slot) : Env := ρ.set i (some s)
/-- a name's value; an own list is frozen by it -/
def rd (ρ : Env) (i : Nat) : Res (Val × Env) := match getS ρ i with
  | some (.d x) => .ok (.d x, ρ)
  | some (.own xs) => .ok (.d (.lst xs), setS ρ i (.d (.lst xs)))
  | _ => .no
def there (ρ : Env) (i : Nat) : Bool := match getS ρ i with
  | some _ => true
  | none => false
def peek (e : E) (f : Env → Res (Val × Env)) (ρ : Env) : Res (PVal × Env) := match e with
  | .v i => if there ρ i then .ok (.var i, ρ) else .no
  | _ => match f ρ with
    | .ok (v, ρ') => .ok (.val v, ρ')
    | .exc c p => .exc c p
    | .no => .no
def view (ρ : Env) : PVal → Res D
  | .val v => .ok v.toD
  | .var i => match getS ρ i with
    | some (.d x) => .ok x
    | some (.own xs) => .ok (.lst xs)
    | some (.lk xs) => .ok (.lst xs)
    | some (.io xs) => .ok (.lst xs)
    | none => .no
def put (ρ : Env) (i : Nat) (v : Val) : Res Env := match getS ρ i with
  | some (.lk _) => .no
  | some (.io _) => .no
  | _ => .ok (setS ρ i v.slot)
mutual
def bindT : Tg → D → Env → Res Env
  | .n i, x, ρ => put ρ i (.d x)
  | .t ts, x, ρ => match x with
    | .tup xs => bindTs ts xs ρ
    | _ => .no
def bindTs : Tgs → List D → Env → Res Env
  | .nil, [], ρ => .ok ρ
  | .cons t r, x :: xs, ρ => (bindT t x ρ).bind fun ρ' => bindTs r xs ρ'
  | _, _, _ => .no
end
def putT (t : Tg) (v : Val) (ρ : Env) : Res Env := match t, v with
  | .n i, v => put ρ i v
  | .t ts, .d x => bindT (.t ts) x ρ
  | _, _ => .no
def putTs : Tgs → List Val → Env → Res Env
  | .nil, [], ρ => .ok ρ
  | .cons t r, v :: vs, ρ => (putT t v ρ).bind fun ρ' => putTs r vs ρ'
  | _, _, _ => .no
def asInt : Val → Res Int
  | .d (.int i) => .ok i
  | _ => .no
def asBl : Val → Res Bool
  | .d (.bl b) => .ok b
  | _ => .no
def lock (ρ : Env) : PVal → Res (List D × Env × Option Nat)
  | .val (.own xs) => .ok (xs, ρ, none)
  | .val (.d x) => match items? x with
    | some xs => .ok (xs, ρ, none)
    | none => .no
  | .var i => match getS ρ i with
    | some (.d x) => match items? x with
      | some xs => .ok (xs, ρ, none)
      | none => .no
    | some (.own xs) => .ok (xs, setS ρ i (.lk xs), some i)
    | _ => .no
def unlock : Option Nat → Env → Res Env
  | none, ρ => .ok ρ
  | some i, ρ => match getS ρ i with
    | some (.lk xs) => .ok (setS ρ i (.own xs))
    | _ => .no
def wiped (ρ : Env) : List Nat → Env
  | [] => ρ
  | i :: r => (wiped ρ r).set i none
/-- ρ' with the places of l as in ρ -/
def mend (ρ ρ' : Env) : List Nat → Env
  | [] => ρ'
  | i :: r => (mend ρ ρ' r).set i (getS ρ i)
def isOwn (ρ : Env) (i : Nat) : Bool := match getS ρ i with
  | some (.own _) => true
  | _ => false
def plain (ρ : Env) (i : Nat) : Bool := match getS ρ i with
  | some (.d _) => true
  | none => true
  | _ => false
def lcGo (f : D → Env → Res (Option D × Env)) (own : List Nat) : List D → Env → List D → Res (List D × Env)
  | [], ρ, acc => .ok (acc, ρ)
  | x :: r, ρ, acc => match f x (wiped ρ own) with
    | .ok (some y, ρ') => lcGo f own r (mend ρ ρ' own) (acc ++ [y])
    | .ok (none, ρ') => lcGo f own r (mend ρ ρ' own) acc
    | _ => .no
inductive Fl where
  | nx | rt (v : Val) | bk | ct
def forGo (f : D → Env → Res (Fl × Env)) : List D → Env → Res (Fl × Env)
  | [], ρ => .ok (.nx, ρ)
  | x :: r, ρ => match f x ρ with
    | .ok (.nx, ρ') => forGo f r ρ'
    | .ok (.ct, ρ') => forGo f r ρ'
    | .ok (.bk, ρ') => .ok (.nx, ρ')
    | .ok (.rt v, ρ') => .ok (.rt v, ρ')
    | _ => .no
def whlGo (t : Env → Res (Val × Env)) (f : Env → Res (Fl × Env)) : Nat → Env → Res (Fl × Env)
  | 0, _ => .no
  | n + 1, ρ => match t ρ with
    | .ok (.d (.bl true), ρ1) => match f ρ1 with
      | .ok (.nx, ρ') => whlGo t f n ρ'
      | .ok (.ct, ρ') => whlGo t f n ρ'
      | .ok (.bk, ρ') => .ok (.nx, ρ')
      | .ok (.rt v, ρ') => .ok (.rt v, ρ')
      | _ => .no
    | .ok (.d (.bl false), ρ1) => .ok (.nx, ρ1)
    | _ => .no
/-- what the defs of the text are worth: of data; of an own list and data -/
structure Gam where
  f : Nat → List D → Res Val
  g : Nat → List D → List D → Res (Val × List D)
section
variable (Γ : Gam) (W : Nat)
mutual
def ev : E → Env → Res (Val × Env)
  | .k d, ρ => .ok (.d d, ρ)
  | .gc d, ρ => .ok (.d d, ρ)
  | .v i, ρ => rd ρ i
  | .tup es, ρ => (evs es ρ).bind fun (ds, ρ1) => .ok (.d (.tup ds), ρ1)
  | .lst es, ρ => (evs es ρ).bind fun (ds, ρ1) => .ok (.own ds, ρ1)
  | .bin op a b, ρ => (peek a (ev a) ρ).bind fun (p, ρ1) => (peek b (ev b) ρ1).bind fun (q, ρ2) =>
      (view ρ2 p).bind fun x => (view ρ2 q).bind fun y => (ofO (binD op x y)).bind fun r => .ok (r, ρ2)
  | .neg a, ρ => (ev a ρ).bind fun (v, ρ1) => (asInt v).bind fun i => .ok (.d (.int (-i)), ρ1)
  | .not a, ρ => (ev a ρ).bind fun (v, ρ1) => (asBl v).bind fun c => .ok (.d (.bl (!c)), ρ1)
  | .and a b, ρ => (ev a ρ).bind fun (v, ρ1) => (asBl v).bind fun c => if c = true then ev b ρ1 else .ok (.d (.bl false), ρ1)
  | .or a b, ρ => (ev a ρ).bind fun (v, ρ1) => (asBl v).bind fun c => if c = true then .ok (.d (.bl true), ρ1) else ev b ρ1
  | .cmp op a b, ρ => (peek a (ev a) ρ).bind fun (p, ρ1) => (peek b (ev b) ρ1).bind fun (q, ρ2) =>
      (view ρ2 p).bind fun x => (view ρ2 q).bind fun y => (ofO (cmpD op x y)).bind fun r => .ok (.d (.bl r), ρ2)
  | .chain op op2 a b c, ρ => (ev a ρ).bind fun (v, ρ1) => (ev b ρ1).bind fun (u, ρ2) => (ofO (cmpD op v.toD u.toD)).bind fun r =>
      if r = true then (ev c ρ2).bind fun (w, ρ3) => (ofO (cmpD op2 u.toD w.toD)).bind fun r2 => .ok (.d (.bl r2), ρ3) else .ok (.d (.bl false), ρ2)
  | .ife t a b, ρ => (ev t ρ).bind fun (v, ρ1) => (asBl v).bind fun c => if c = true then ev a ρ1 else ev b ρ1
  | .call f as, ρ => (evs as ρ).bind fun (ds, ρ1) => (Γ.f f ds).bind fun r => .ok (r, ρ1)
  | .calli f i as, ρ => if there ρ i = true then (evs as ρ).bind fun (ds, ρ1) => match getS ρ1 i with
    | some (.own xs) => (Γ.g f xs ds).bind fun (r, xs') => .ok (r, setS ρ1 i (.own xs'))
    | some (.io xs) => (Γ.g f xs ds).bind fun (r, xs') => .ok (r, setS ρ1 i (.io xs'))
    | _ => .no
    else .no
  | .b1 b a, ρ => (peek a (ev a) ρ).bind fun (p, ρ1) => (view ρ1 p).bind fun x => (ofO (bi1 b x)).bind fun r => .ok (r, ρ1)
  | .b2 b a c, ρ => (ev a ρ).bind fun (v, ρ1) => (ev c ρ1).bind fun (u, ρ2) => (ofO (bi2 b v.toD u.toD)).bind fun r => .ok (r, ρ2)
  | .isi a ts, ρ => (ev a ρ).bind fun (v, ρ1) => .ok (.d (.bl (isiD ts v.toD)), ρ1)
  | .ix o i, ρ => (peek o (ev o) ρ).bind fun (p, ρ1) => (ev i ρ1).bind fun (v, ρ2) => (view ρ2 p).bind fun x => (ofO (ixD x v.toD)).bind fun r => .ok (.d r, ρ2)
  | .sl o lo hi, ρ => (peek o (ev o) ρ).bind fun (p, ρ1) => (evo lo ρ1).bind fun (l, ρ2) => (evo hi ρ2).bind fun (h, ρ3) => (view ρ3 p).bind fun x => (ofO (slD x l h)).bind fun r => .ok (r, ρ3)
  | .lc tg it own tt elt, ρ => (evIt it ρ).bind fun (xs, ρ1, lk) => if own.all (plain ρ1) = true then
      (lcGo (fun x ρ => (bindT tg x ρ).bind fun ρ1 => match tt with
          | .non => (ev elt ρ1).bind fun (v, ρ3) => .ok (some v.toD, ρ3)
          | .som t => (ev t ρ1).bind fun (c, ρ2) => (asBl c).bind fun c => if c = true then (ev elt ρ2).bind fun (v, ρ3) => .ok (some v.toD, ρ3) else .ok (none, ρ2))
        own xs ρ1 []).bind fun (acc, ρ2) => (unlock lk ρ2).bind fun ρ3 => .ok (.own acc, ρ3) else .no
  | .app i e, ρ => if isOwn ρ i = true then (ev e ρ).bind fun (v, ρ1) => match getS ρ1 i with
    | some (.own xs) => if xs.length < lim then .ok (.d .non, setS ρ1 i (.own (xs ++ [v.toD]))) else .no
    | _ => .no
    else .no
  | .pop i, ρ => match getS ρ i with
    | some (.own xs) => match xs.getLast? with
      | some x => .ok (.d x, setS ρ i (.own xs.dropLast))
      | none => .no
    | _ => .no
  | .popA i e, ρ => if isOwn ρ i = true then (ev e ρ).bind fun (v, ρ1) => (asInt v).bind fun j => match getS ρ1 i with
    | some (.own xs) => match ixN xs.length j with
      | some k => match xs[k]? with
        | some x => if xs.length ≤ lim then .ok (.d x, setS ρ1 i (.own (xs.eraseIdx k))) else .no
        | none => .no
      | none => .no
    | _ => .no
    else .no
  | .rev a, ρ => (ev a ρ).bind fun (v, ρ1) => match v with
    | .d (.tup xs) => .ok (.d (.tup xs.reverse), ρ1)
    | _ => .no
  | .dget kvs a b, ρ => (ev a ρ).bind fun (v, ρ1) => (ev b ρ1).bind fun (u, ρ2) => match v with
    | .d (.str x) => match kvs.lookup x with
      | some i => .ok (.d (.int i), ρ2)
      | none => .ok (.d u.toD, ρ2)
    | _ => .no
def evs : Es → Env → Res (List D × Env)
  | .nil, ρ => .ok ([], ρ)
  | .cons e r, ρ => (ev e ρ).bind fun (v, ρ1) => (evs r ρ1).bind fun (ds, ρ2) => .ok (v.toD :: ds, ρ2)
def evm : Es → Env → Res (List Val × Env)
  | .nil, ρ => .ok ([], ρ)
  | .cons e r, ρ => (ev e ρ).bind fun (v, ρ1) => (evm r ρ1).bind fun (ds, ρ2) => .ok (v :: ds, ρ2)
def evo : Oe → Env → Res (Option Int × Env)
  | .non, ρ => .ok (none, ρ)
  | .som e, ρ => (ev e ρ).bind fun (v, ρ1) => (asInt v).bind fun i => .ok (some i, ρ1)
def evIt : It → Env → Res (List D × Env × Option Nat)
  | .e e, ρ => (peek e (ev e) ρ).bind fun (p, ρ1) => lock ρ1 p
  | .rng a, ρ => (ev a ρ).bind fun (v, ρ1) => (asInt v).bind fun n => if -1000000 ≤ n ∧ n ≤ 1000000 then .ok ((List.range n.toNat).map (fun (i : Nat) => D.int i), ρ1, none) else .no
  | .zip a b, ρ => (ev a ρ).bind fun (v, ρ1) => (ev b ρ1).bind fun (u, ρ2) => match v.toD, u.toD with
    | .lst xs, .lst ys => .ok ((xs.zip ys).map (fun p => .tup [p.1, p.2]), ρ2, none)
    | .tup xs, .tup ys => .ok ((xs.zip ys).map (fun p => .tup [p.1, p.2]), ρ2, none)
    | _, _ => .no
end
def retV (e : E) (ρ : Env) : Res (Val × Env) := match e with
  | .v i => match getS ρ i with
    | some (.own xs) => .ok (.own xs, ρ.set i none)
    | _ => ev Γ (.v i) ρ
  | e => ev Γ e ρ
mutual
def ex : S → Env → Res (Fl × Env)
  | .asg i e, ρ => (ev Γ e ρ).bind fun (v, ρ1) => (put ρ1 i v).bind fun ρ2 => .ok (.nx, ρ2)
  | .unp tg e, ρ => (ev Γ e ρ).bind fun (v, ρ1) => (bindT tg v.toD ρ1).bind fun ρ2 => .ok (.nx, ρ2)
  | .par ts es, ρ => (evm Γ es ρ).bind fun (vs, ρ1) => (putTs ts vs ρ1).bind fun ρ2 => .ok (.nx, ρ2)
  | .setL i ix e, ρ => (ev Γ e ρ).bind fun (v, ρ1) => if there ρ1 i = true then (ev Γ ix ρ1).bind fun (k, ρ2) => (asInt k).bind fun j => match getS ρ2 i with
    | some (.own xs) => match ixN xs.length j with
      | some n => .ok (.nx, setS ρ2 i (.own (xs.set n v.toD)))
      | none => .no
    | some (.io xs) => match ixN xs.length j with
      | some n => .ok (.nx, setS ρ2 i (.io (xs.set n v.toD)))
      | none => .no
    | _ => .no
    else .no
  | .ex e, ρ => (ev Γ e ρ).bind fun (_, ρ1) => .ok (.nx, ρ1)
  | .iff t a b, ρ => (ev Γ t ρ).bind fun (v, ρ1) => (asBl v).bind fun c => if c = true then exs a ρ1 else exs b ρ1
  | .for_ tg it b, ρ => (evIt Γ it ρ).bind fun (xs, ρ1, lk) => (forGo (fun x ρ => (bindT tg x ρ).bind fun ρ' => exs b ρ') xs ρ1).bind fun (fl, ρ2) => (unlock lk ρ2).bind fun ρ3 => .ok (fl, ρ3)
  | .whl t b, ρ => whlGo (ev Γ t) (exs b) W ρ
  | .ret e, ρ => (retV Γ e ρ).bind fun (v, ρ1) => .ok (.rt v, ρ1)
  | .pass, ρ => .ok (.nx, ρ)
  | .brk, ρ => .ok (.bk, ρ)
  | .cont, ρ => .ok (.ct, ρ)
  | .bad, _ => .no
def exs : Ss → Env → Res (Fl × Env)
  | .nil, ρ => .ok (.nx, ρ)
  | .cons s r, ρ => (ex s ρ).bind fun (fl, ρ1) => match fl with
    | .nx => exs r ρ1
    | .rt v => .ok (.rt v, ρ1)
    | .bk => .ok (.bk, ρ1)
    | .ct => .ok (.ct, ρ1)
end
/-- a def's body at data -/
def runF (n : Nat) (b : Ss) (ds : List D) : Res Val := match exs Γ W b (ds.map (fun x => some (.d x)) ++ List.replicate (n - ds.length) none) with
  | .ok (.rt v, _) => .ok v
  | .ok (.nx, _) => .ok (.d .non)
  | _ => .no
/-- .. at an own list, lent, and data -/
def runG (n : Nat) (b : Ss) (xs : List D) (ds : List D) : Res (Val × List D) := match exs Γ W b (some (.io xs) :: ds.map (fun x => some (.d x)) ++ List.replicate (n - (ds.length + 1)) none) with
  | .ok (.rt v, ρ) => match getS ρ 0 with
    | some (.io xs') => .ok (v, xs')
    | _ => .no
  | .ok (.nx, ρ) => match getS ρ 0 with
    | some (.io xs') => .ok (.d .non, xs')
    | _ => .no
  | _ => .no
end
end AW

set_option Elab.async false
set_option linter.all false
set_option maxRecDepth 100000
set_option maxHeartbeats 4000000
/-! How the places of a frame bear the tree's own places. -/
namespace AW
open PySem PySem.Spec PyProof.Rows L2

def mutS (ρ : Env) (i : Nat) : Prop := (∃ xs, getS ρ i = some (.own xs)) ∨ ∃ xs, getS ρ i = some (.io xs)
def SlR (K : PySem.W.Frag) (H : Hp) (v : V) : Slot → Prop
  | .d x => DR K H v x
  | .own xs => ∃ a vs, v = .ref a ∧ H a = some (.lst vs) ∧ DRs K H vs xs
  | .lk xs => ∃ a vs, v = .ref a ∧ H a = some (.lst vs) ∧ DRs K H vs xs
  | .io xs => ∃ a vs, v = .ref a ∧ H a = some (.lst vs) ∧ DRs K H vs xs
def Slot.but (s : Slot) (ys : List D) : Slot := match s with
  | .io _ => .io ys
  | _ => .own ys
structure Pins where
  lk : List (Nat × Addr)
  io : List (Nat × Addr)
abbrev Fr := Addr → Prop
structure Rel (K : PySem.W.Frag) (P : Pins) (F : Fr) (ρ : Env) (σ : L2.St) (H : Hp) : Prop where
  len : ρ.length = σ.length
  sl : ∀ i s, getS ρ i = some s → ∃ v, σ[i]? = some (some v) ∧ SlR K H v s
  inj : ∀ i j a, mutS ρ i → mutS ρ j → σ[i]? = some (some (.ref a)) → σ[j]? = some (some (.ref a)) → i = j
  nf : ∀ i a, mutS ρ i → σ[i]? = some (some (.ref a)) → ¬ F a
  fok : ∀ a, F a → H a ≠ none
  lkS : ∀ i xs, getS ρ i = some (.lk xs) → ∃ a, (i, a) ∈ P.lk
  ioS : ∀ i xs, getS ρ i = some (.io xs) → ∃ a, (i, a) ∈ P.io
  pinL : ∀ p ∈ P.lk, σ[p.1]? = some (some (.ref p.2)) ∧ (∃ xs, getS ρ p.1 = some (.lk xs)) ∧ F p.2
  pinI : ∀ p ∈ P.io, σ[p.1]? = some (some (.ref p.2)) ∧ ∃ xs, getS ρ p.1 = some (.io xs)
/-- F and one more -/
def plus (F : Fr) (a : Addr) : Fr := fun b => F b ∨ b = a
/-- F and what the frame owns -/
def owned (F : Fr) (ρ : Env) (σ : L2.St) : Fr := fun b => F b ∨ ∃ i, mutS ρ i ∧ σ[i]? = some (some (.ref b))
def VR (K : PySem.W.Frag) (H : Hp) (F : Fr) (ρ : Env) (σ : L2.St) (v : V) : Val → Prop
  | .d x => DR K H v x
  | .own xs => ∃ a vs, v = .ref a ∧ H a = some (.lst vs) ∧ DRs K H vs xs ∧ ¬ F a ∧ ∀ i, mutS ρ i → σ[i]? ≠ some (some (.ref a))
def PR (K : PySem.W.Frag) (H : Hp) (F : Fr) (ρ : Env) (σ : L2.St) (v : V) : PVal → Prop
  | .val r => VR K H F ρ σ v r
  | .var i => σ[i]? = some (some v)
/-- a value as it may be read now -/
def VW (K : PySem.W.Frag) (H : Hp) (v : V) (x : D) : Prop := DR K H v x ∨ ∃ a vs xs, x = .lst xs ∧ v = .ref a ∧ Rd H a (.lst vs) ∧ DRs K H vs xs
section
variable {K : PySem.W.Frag} {P : Pins} {F G : Fr} {ρ : Env} {σ : L2.St} {H H' : Hp}
theorem getS_set (ρ : Env) (i j : Nat) (s : Option Slot) (h : i < ρ.length) : getS (ρ.set i s) j = if j = i then s else getS ρ j := by
  unfold getS
  rw [List.getD_eq_getElem?_getD, List.getD_eq_getElem?_getD, List.getElem?_set]
  by_cases e : i = j
  · subst e; simp [h]
  · rw [if_neg e, if_neg (Ne.symm e)]
theorem getS_lt {i : Nat} {s : Slot} (h : getS ρ i = some s) : i < ρ.length := by
  unfold getS at h
  rw [List.getD_eq_getElem?_getD] at h
  cases e : ρ[i]? with
  | none => rw [e] at h; cases h
  | some o => exact (List.getElem?_eq_some_iff.mp e).1
theorem mutS_set {i j : Nat} {s : Slot} (h : i < ρ.length) (hj : mutS (setS ρ i s) j) : (j = i ∧ ((∃ xs, s = .own xs) ∨ ∃ xs, s = .io xs)) ∨ (j ≠ i ∧ mutS ρ j) := by
  unfold mutS setS at hj
  rw [getS_set ρ i j (some s) h] at hj
  by_cases e : j = i
  · rw [if_pos e] at hj
    left
    refine ⟨e, ?_⟩
    rcases hj with ⟨xs, q⟩ | ⟨xs, q⟩
    · exact .inl ⟨xs, Option.some.inj q⟩
    · exact .inr ⟨xs, Option.some.inj q⟩
  · rw [if_neg e] at hj
    exact .inr ⟨e, hj⟩
theorem Rel.shrink (R : Rel K P G ρ σ H) (h : ∀ a, F a → G a) (hl : ∀ p ∈ P.lk, F p.2) : Rel K P F ρ σ H :=
  ⟨R.len, R.sl, R.inj, fun i a m e f => R.nf i a m e (h a f), fun a f => R.fok a (h a f), R.lkS, R.ioS, fun p hp => ⟨(R.pinL p hp).1, (R.pinL p hp).2.1, hl p hp⟩, R.pinI⟩
theorem Rel.lkF (R : Rel K P F ρ σ H) : ∀ p ∈ P.lk, F p.2 := fun p hp => (R.pinL p hp).2.2
theorem Rel.grow {a : Addr} {o : HO} (R : Rel K P F ρ σ H) (ha : H a = some o) (hn : ∀ i, mutS ρ i → σ[i]? ≠ some (some (.ref a))) : Rel K P (plus F a) ρ σ H :=
  ⟨R.len, R.sl, R.inj, fun i b m e f => f.elim (R.nf i b m e) fun z => hn i m (by rw [e, z]), fun b f => f.elim (R.fok b) fun z => by rw [z, ha]; simp, R.lkS, R.ioS,
    fun p hp => ⟨(R.pinL p hp).1, (R.pinL p hp).2.1, .inl (R.pinL p hp).2.2⟩, R.pinI⟩
/-- the heap goes on, the frame's own things stay -/
theorem Rel.ex (R : Rel K P F ρ σ H) (e : Ex (owned F ρ σ) H H') : Rel K P F ρ σ H' := by
  refine ⟨R.len, fun i s q => ?_, R.inj, R.nf, fun a f => ?_, R.lkS, R.ioS, R.pinL, R.pinI⟩
  · obtain ⟨v, h1, h2⟩ := R.sl i s q
    refine ⟨v, h1, ?_⟩
    cases s with
    | d x => exact DR.ex e h2
    | own xs =>
      obtain ⟨a, vs, rfl, h3, h4⟩ := h2
      exact ⟨a, vs, rfl, e.keep a _ (.inr ⟨i, .inl ⟨xs, q⟩, h1⟩) h3, DRs.ex e h4⟩
    | io xs =>
      obtain ⟨a, vs, rfl, h3, h4⟩ := h2
      exact ⟨a, vs, rfl, e.keep a _ (.inr ⟨i, .inr ⟨xs, q⟩, h1⟩) h3, DRs.ex e h4⟩
    | lk xs =>
      obtain ⟨a, vs, rfl, h3, h4⟩ := h2
      obtain ⟨b, hb⟩ := R.lkS i xs q
      obtain ⟨h5, _, h6⟩ := R.pinL _ hb
      have h5 : σ[i]? = some (some (V.ref b)) := h5
      rw [h1] at h5
      have : a = b := by injection h5 with h5; injection h5 with h5; injection h5
      subst this
      exact ⟨a, vs, rfl, e.keep a _ (.inl h6) h3, DRs.ex e h4⟩
  · have := R.fok a f
    cases q : H a with
    | none => exact absurd q this
    | some o => rw [e.keep a o (.inl f) q]; simp
theorem Rel.new {p : Addr} {o : HO} (R : Rel K P F ρ σ H) (h : H p = none) : Rel K P F ρ σ (upd H p o) := R.ex (.new h)
theorem Rel.fresh {p : Addr} (R : Rel K P F ρ σ H) (h : H p = none) : ¬ F p := fun f => R.fok p f h
/-- what the frame owns stands in the heap -/
theorem Rel.own_at {i : Nat} {a : Addr} (R : Rel K P F ρ σ H) (m : mutS ρ i) (e : σ[i]? = some (some (.ref a))) : ∃ vs, H a = some (.lst vs) := by
  rcases m with ⟨xs, q⟩ | ⟨xs, q⟩ <;>
  · obtain ⟨v, h1, b, vs, rfl, h3, _⟩ := R.sl i _ q
    rw [e] at h1
    have : a = b := by injection h1 with h1; injection h1 with h1; injection h1
    subst this
    exact ⟨vs, h3⟩
theorem Rel.apart {i : Nat} {a : Addr} (R : Rel K P F ρ σ H) (h : H a = none) (m : mutS ρ i) : σ[i]? ≠ some (some (.ref a)) := fun e => by
  obtain ⟨vs, q⟩ := R.own_at m e
  rw [h] at q; cases q
/-- a list that the frame owns has other items -/
theorem Rel.upd {i : Nat} {a : Addr} {vs' : List V} {xs xs' : List D} {s : Slot} (R : Rel K P F ρ σ H) (q : getS ρ i = some s) (hs : (s = .own xs) ∨ (s = .io xs)) (e : σ[i]? = some (some (.ref a))) (r : DRs K H vs' xs') :
    Rel K P F (setS ρ i (s.but xs')) σ (L2.upd H a (.lst vs')) := by
  have m : mutS ρ i := by
    rcases hs with rfl | rfl
    · exact .inl ⟨xs, q⟩
    · exact .inr ⟨xs, q⟩
  have hi := getS_lt q
  obtain ⟨ws, ha⟩ := R.own_at m e
  have nfa := R.nf i a m e
  have ex : Ex F H (L2.upd H a (.lst vs')) := Ex.set ha nfa
  have mu : ∀ j, mutS (setS ρ i (s.but xs')) j → mutS ρ j := fun j hj => by
    rcases mutS_set hi hj with ⟨rfl, _⟩ | ⟨_, h⟩
    · exact m
    · exact h
  refine ⟨by unfold setS; rw [List.length_set]; exact R.len, fun j t hj => ?_, fun j k b mj mk => R.inj j k b (mu j mj) (mu k mk), fun j b mj => R.nf j b (mu j mj), fun b f => ?_, fun j ys hj => ?_, fun j ys hj => ?_, fun p hp => ?_, fun p hp => ?_⟩
  · unfold setS at hj
    rw [getS_set ρ i j _ hi] at hj
    by_cases ej : j = i
    · subst ej
      rw [if_pos rfl] at hj
      refine ⟨_, e, ?_⟩
      have et := Option.some.inj hj
      subst et
      rcases hs with rfl | rfl <;> exact ⟨a, vs', rfl, upd_same, DRs.ex ex r⟩
    · rw [if_neg ej] at hj
      obtain ⟨v, h1, h2⟩ := R.sl j t hj
      refine ⟨v, h1, ?_⟩
      have ne : ∀ b, v = .ref b → (mutS ρ j ∨ (∃ ys, t = .lk ys)) → b ≠ a := fun b hv hm z => by
        subst hv z
        rcases hm with hm | ⟨ys, rfl⟩
        · exact ej (R.inj j i _ hm m h1 e)
        · obtain ⟨c, hc⟩ := R.lkS j ys hj
          obtain ⟨h5, _, h6⟩ := R.pinL _ hc
          have h5 : σ[j]? = some (some (V.ref c)) := h5
          rw [h1] at h5
          have : b = c := by injection h5 with h5; injection h5 with h5; injection h5
          subst this
          exact nfa h6
      cases t with
      | d x => exact DR.ex ex h2
      | own ys =>
        obtain ⟨b, us, rfl, h3, h4⟩ := h2
        exact ⟨b, us, rfl, by rw [upd_ne (ne b rfl (.inl (.inl ⟨ys, hj⟩)))]; exact h3, DRs.ex ex h4⟩
      | io ys =>
        obtain ⟨b, us, rfl, h3, h4⟩ := h2
        exact ⟨b, us, rfl, by rw [upd_ne (ne b rfl (.inl (.inr ⟨ys, hj⟩)))]; exact h3, DRs.ex ex h4⟩
      | lk ys =>
        obtain ⟨b, us, rfl, h3, h4⟩ := h2
        exact ⟨b, us, rfl, by rw [upd_ne (ne b rfl (.inr ⟨ys, rfl⟩))]; exact h3, DRs.ex ex h4⟩
  · have z := R.fok b f
    by_cases eb : b = a
    · subst eb; rw [upd_same]; simp
    · rw [upd_ne eb]; exact z
  · unfold setS at hj
    rw [getS_set ρ i j _ hi] at hj
    by_cases ej : j = i
    · rw [if_pos ej] at hj
      rcases hs with rfl | rfl <;> cases hj
    · rw [if_neg ej] at hj
      exact R.lkS j ys hj
  · unfold setS at hj
    rw [getS_set ρ i j _ hi] at hj
    by_cases ej : j = i
    · subst ej
      rw [if_pos rfl] at hj
      rcases hs with rfl | rfl
      · cases hj
      · exact R.ioS _ _ q
    · rw [if_neg ej] at hj
      exact R.ioS j ys hj
  · obtain ⟨h1, ⟨ys, h2⟩, h3⟩ := R.pinL p hp
    refine ⟨h1, ⟨ys, ?_⟩, h3⟩
    unfold setS
    rw [getS_set ρ i p.1 _ hi, if_neg (fun z => by rw [z, q] at h2; rcases hs with rfl | rfl <;> cases h2)]
    exact h2
  · obtain ⟨h1, ys, h2⟩ := R.pinI p hp
    refine ⟨h1, ?_⟩
    unfold setS
    rw [getS_set ρ i p.1 _ hi]
    by_cases z : p.1 = i
    · rw [if_pos z]
      rw [z, q] at h2
      rcases hs with rfl | rfl
      · cases h2
      · exact ⟨xs', rfl⟩
    · rw [if_neg z]
      exact ⟨ys, h2⟩
/-- an own list is frozen -/
theorem Rel.freeze {i : Nat} {a : Addr} {vs : List V} {xs : List D} {o : Obj} (R : Rel K P F ρ σ H) (q : getS ρ i = some (.own xs)) (e : σ[i]? = some (some (.ref a))) (ha : H a = some (.lst vs)) (r : DRs K H vs xs) :
    Rel K P F (setS ρ i (.d (.lst xs))) σ (L2.upd H a (.frz o (.lst vs))) := by
  have m : mutS ρ i := .inl ⟨xs, q⟩
  have hi := getS_lt q
  have nfa := R.nf i a m e
  have ex : Ex F H (L2.upd H a (.frz o (.lst vs))) := Ex.set ha nfa
  have mu : ∀ j, mutS (setS ρ i (.d (.lst xs))) j → mutS ρ j ∧ j ≠ i := fun j hj => by
    rcases mutS_set hi hj with ⟨rfl, h⟩ | ⟨h', h⟩
    · rcases h with ⟨_, h⟩ | ⟨_, h⟩ <;> cases h
    · exact ⟨h, h'⟩
  refine ⟨by unfold setS; rw [List.length_set]; exact R.len, fun j t hj => ?_, fun j k b mj mk => R.inj j k b (mu j mj).1 (mu k mk).1, fun j b mj => R.nf j b (mu j mj).1, fun b f => ?_, fun j ys hj => ?_, fun j ys hj => ?_, fun p hp => ?_, fun p hp => ?_⟩
  · unfold setS at hj
    rw [getS_set ρ i j _ hi] at hj
    by_cases ej : j = i
    · subst ej
      rw [if_pos rfl] at hj
      have et := Option.some.inj hj
      subst et
      exact ⟨_, e, .lst ⟨o, upd_same⟩ (DRs.ex ex r)⟩
    · rw [if_neg ej] at hj
      obtain ⟨v, h1, h2⟩ := R.sl j t hj
      refine ⟨v, h1, ?_⟩
      have ne : ∀ b, v = .ref b → (mutS ρ j ∨ (∃ ys, t = .lk ys)) → b ≠ a := fun b hv hm z => by
        subst hv z
        rcases hm with hm | ⟨ys, rfl⟩
        · exact ej (R.inj j i _ hm m h1 e)
        · obtain ⟨c, hc⟩ := R.lkS j ys hj
          obtain ⟨h5, _, h6⟩ := R.pinL _ hc
          have h5 : σ[j]? = some (some (V.ref c)) := h5
          rw [h1] at h5
          have : b = c := by injection h5 with h5; injection h5 with h5; injection h5
          subst this
          exact nfa h6
      cases t with
      | d x => exact DR.ex ex h2
      | own ys =>
        obtain ⟨b, us, rfl, h3, h4⟩ := h2
        exact ⟨b, us, rfl, by rw [upd_ne (ne b rfl (.inl (.inl ⟨ys, hj⟩)))]; exact h3, DRs.ex ex h4⟩
      | io ys =>
        obtain ⟨b, us, rfl, h3, h4⟩ := h2
        exact ⟨b, us, rfl, by rw [upd_ne (ne b rfl (.inl (.inr ⟨ys, hj⟩)))]; exact h3, DRs.ex ex h4⟩
      | lk ys =>
        obtain ⟨b, us, rfl, h3, h4⟩ := h2
        exact ⟨b, us, rfl, by rw [upd_ne (ne b rfl (.inr ⟨ys, rfl⟩))]; exact h3, DRs.ex ex h4⟩
  · have z := R.fok b f
    by_cases eb : b = a
    · subst eb; rw [upd_same]; simp
    · rw [upd_ne eb]; exact z
  · unfold setS at hj
    rw [getS_set ρ i j _ hi] at hj
    by_cases ej : j = i
    · rw [if_pos ej] at hj; cases hj
    · rw [if_neg ej] at hj
      exact R.lkS j ys hj
  · unfold setS at hj
    rw [getS_set ρ i j _ hi] at hj
    by_cases ej : j = i
    · rw [if_pos ej] at hj; cases hj
    · rw [if_neg ej] at hj
      exact R.ioS j ys hj
  · obtain ⟨h1, ⟨ys, h2⟩, h3⟩ := R.pinL p hp
    refine ⟨h1, ⟨ys, ?_⟩, h3⟩
    unfold setS
    rw [getS_set ρ i p.1 _ hi, if_neg (fun z => by rw [z, q] at h2; cases h2)]
    exact h2
  · obtain ⟨h1, ys, h2⟩ := R.pinI p hp
    refine ⟨h1, ys, ?_⟩
    unfold setS
    rw [getS_set ρ i p.1 _ hi, if_neg (fun z => by rw [z, q] at h2; cases h2)]
    exact h2
/-- a place that is neither lent nor locked takes another value -/
theorem Rel.put {i : Nat} {v : V} {r : Val} {ρ' : Env} (R : Rel K P F ρ σ H) (hi : i < σ.length) (hp : put ρ i r = .ok ρ') (h : VR K H F ρ σ v r) : Rel K P F ρ' (σ.set i (some v)) H := by
  have hi' : i < ρ.length := by rw [R.len]; exact hi
  have nl : (∀ xs, getS ρ i ≠ some (.lk xs)) ∧ (∀ xs, getS ρ i ≠ some (.io xs)) := by
    unfold AW.put at hp
    refine ⟨fun xs e => ?_, fun xs e => ?_⟩ <;> · rw [e] at hp; cases hp
  have eρ : ρ' = setS ρ i r.slot := by
    unfold AW.put at hp
    cases e : getS ρ i with
    | none => rw [e] at hp; cases hp; rfl
    | some s =>
      rw [e] at hp
      cases s with
      | d x => cases hp; rfl
      | own xs => cases hp; rfl
      | lk xs => exact absurd e (nl.1 xs)
      | io xs => exact absurd e (nl.2 xs)
  subst eρ
  have sσ : ∀ j, j ≠ i → (σ.set i (some v))[j]? = σ[j]? := fun j hj => List.getElem?_set_ne (Ne.symm hj)
  have sσi : (σ.set i (some v))[i]? = some (some v) := by rw [List.getElem?_set_self hi]
  have mu : ∀ j b, mutS (setS ρ i r.slot) j → (σ.set i (some v))[j]? = some (some (.ref b)) → (j = i ∧ ∃ xs, r = .own xs ∧ v = .ref b) ∨ (j ≠ i ∧ mutS ρ j ∧ σ[j]? = some (some (.ref b))) := fun j b hj hb => by
    rcases mutS_set hi' hj with ⟨rfl, hh⟩ | ⟨h1, h2⟩
    · rw [sσi] at hb
      have hv : v = .ref b := Option.some.inj (Option.some.inj hb)
      cases r with
      | d x => rcases hh with ⟨_, z⟩ | ⟨_, z⟩ <;> cases z
      | own xs => exact .inl ⟨rfl, xs, rfl, hv⟩
    · rw [sσ j h1] at hb
      exact .inr ⟨h1, h2, hb⟩
  refine ⟨by unfold setS; rw [List.length_set, List.length_set]; exact R.len, fun j t hj => ?_, fun j k b mj mk ej ek => ?_, fun j b mj ej => ?_, R.fok, fun j ys hj => ?_, fun j ys hj => ?_, fun p hp => ?_, fun p hp => ?_⟩
  · unfold setS at hj
    rw [getS_set ρ i j _ hi'] at hj
    by_cases ej : j = i
    · subst ej
      rw [if_pos rfl] at hj
      have et := Option.some.inj hj
      subst et
      refine ⟨v, sσi, ?_⟩
      cases r with
      | d x => exact h
      | own xs =>
        obtain ⟨a, vs, h1, h2, h3, _⟩ := h
        exact ⟨a, vs, h1, h2, h3⟩
    · rw [if_neg ej] at hj
      obtain ⟨w, h1, h2⟩ := R.sl j t hj
      exact ⟨w, by rw [sσ j ej]; exact h1, h2⟩
  · rcases mu j b mj ej with ⟨rfl, xs, rfl, rfl⟩ | ⟨h1, h2, h3⟩
    · rcases mu k b mk ek with ⟨h, _⟩ | ⟨h4, h5, h6⟩
      · exact h.symm
      · obtain ⟨a, vs, ea, _, _, _, h7⟩ := h
        cases ea
        exact absurd h6 (h7 k h5)
    · rcases mu k b mk ek with ⟨rfl, xs, rfl, rfl⟩ | ⟨h4, h5, h6⟩
      · obtain ⟨a, vs, ea, _, _, _, h7⟩ := h
        cases ea
        exact absurd h3 (h7 j h2)
      · exact R.inj j k b h2 h5 h3 h6
  · rcases mu j b mj ej with ⟨rfl, xs, rfl, rfl⟩ | ⟨h1, h2, h3⟩
    · obtain ⟨a, vs, ea, _, _, h7, _⟩ := h
      cases ea
      exact h7
    · exact R.nf j b h2 h3
  · unfold setS at hj
    rw [getS_set ρ i j _ hi'] at hj
    by_cases ej : j = i
    · rw [if_pos ej] at hj; cases r <;> cases hj
    · rw [if_neg ej] at hj
      exact R.lkS j ys hj
  · unfold setS at hj
    rw [getS_set ρ i j _ hi'] at hj
    by_cases ej : j = i
    · rw [if_pos ej] at hj; cases r <;> cases hj
    · rw [if_neg ej] at hj
      exact R.ioS j ys hj
  · obtain ⟨h1, ⟨ys, h2⟩, h3⟩ := R.pinL p hp
    have ne : p.1 ≠ i := fun z => nl.1 ys (by rw [← z]; exact h2)
    refine ⟨by rw [sσ _ ne]; exact h1, ⟨ys, ?_⟩, h3⟩
    unfold setS
    rw [getS_set ρ i p.1 _ hi', if_neg ne]
    exact h2
  · obtain ⟨h1, ys, h2⟩ := R.pinI p hp
    have ne : p.1 ≠ i := fun z => nl.2 ys (by rw [← z]; exact h2)
    refine ⟨by rw [sσ _ ne]; exact h1, ys, ?_⟩
    unfold setS
    rw [getS_set ρ i p.1 _ hi', if_neg ne]
    exact h2

theorem VW.of_slot {i : Nat} {v : V} {x : D} (R : Rel K P F ρ σ H) (e : σ[i]? = some (some v)) (h : view ρ (.var i) = .ok x) : VW K H v x := by
  unfold view at h
  dsimp only at h
  cases q : getS ρ i with
  | none => rw [q] at h; cases h
  | some s =>
    rw [q] at h
    obtain ⟨w, h1, h2⟩ := R.sl i s q
    rw [e] at h1
    have : v = w := Option.some.inj (Option.some.inj h1)
    subst this
    cases s with
    | d y => cases h; exact .inl h2
    | own xs => cases h; obtain ⟨a, vs, h3, h4, h5⟩ := h2; exact .inr ⟨a, vs, xs, rfl, h3, Rd.of h4, h5⟩
    | lk xs => cases h; obtain ⟨a, vs, h3, h4, h5⟩ := h2; exact .inr ⟨a, vs, xs, rfl, h3, Rd.of h4, h5⟩
    | io xs => cases h; obtain ⟨a, vs, h3, h4, h5⟩ := h2; exact .inr ⟨a, vs, xs, rfl, h3, Rd.of h4, h5⟩
/-- the frame's wish for the time in which a value is kept in hand -/
def hold (F : Fr) (v : V) : PVal → Fr
  | .val (.own _) => fun b => F b ∨ v = .ref b
  | _ => F
theorem hold_le (F : Fr) (v : V) (p : PVal) : ∀ a, F a → hold F v p a := fun a f => by
  unfold hold
  split
  · exact .inl f
  · exact f
theorem Rel.held {v : V} {p : PVal} (R : Rel K P F ρ σ H) (h : PR K H F ρ σ v p) : Rel K P (hold F v p) ρ σ H := by
  cases p with
  | var i => exact R
  | val r =>
    cases r with
    | d x => exact R
    | own xs =>
      obtain ⟨a, vs, rfl, h1, h2, h3, h4⟩ := h
      have := R.grow h1 h4
      refine this.shrink (fun b f => ?_) (fun q hq => .inl (R.lkF q hq))
      rcases f with f | f
      · exact .inl f
      · exact .inr (by injection f with f; exact f.symm)
/-- what was kept in hand may be read behind it -/
theorem VW.held {v : V} {p : PVal} {x : D} {ρ' : Env} (h : PR K H F ρ σ v p) (ex : Ex (hold F v p) H H') (R : Rel K P G ρ' σ H') (hx : view ρ' p = .ok x) : VW K H' v x := by
  cases p with
  | var i => exact VW.of_slot R h hx
  | val r =>
    cases r with
    | d y => cases hx; exact .inl (DR.ex ex h)
    | own xs =>
      cases hx
      obtain ⟨a, vs, rfl, h1, h2, _⟩ := h
      exact .inr ⟨a, vs, xs, rfl, rfl, Rd.of (ex.keep a _ (.inr rfl) h1), DRs.ex ex h2⟩
end
end AW

set_option Elab.async false
set_option linter.all false
set_option maxRecDepth 100000
set_option maxHeartbeats 4000000
/-! Operations by data. -/
namespace AW
open PySem PySem.Spec PyProof.Rows L2

/-- a value just made -/
def NewR (K : PySem.W.Frag) (H H' : Hp) (v : V) (r : Val) : Prop := (∀ F, Ex F H H') ∧ match r with
  | .d x => DR K H' v x
  | .own xs => ∃ p vs, v = .ref p ∧ H p = none ∧ H' p = some (.lst vs) ∧ DRs K H' vs xs
section
variable {K : PySem.W.Frag} {P : Pins} {F : Fr} {ρ : Env} {σ : L2.St} {H H' : Hp} {v : V}
theorem NewR.rel {r : Val} (n : NewR K H H' v r) (R : Rel K P F ρ σ H) : Rel K P F ρ σ H' ∧ VR K H' F ρ σ v r := by
  have R' : Rel K P F ρ σ H' := R.ex (n.1 _)
  refine ⟨R', ?_⟩
  cases r with
  | d x => exact n.2
  | own xs =>
    obtain ⟨p, vs, h1, h2, h3, h4⟩ := n.2
    exact ⟨p, vs, h1, h3, h4, R.fresh h2, fun i m => R.apart h2 m⟩
theorem NewR.same {x : D} (h : DR K H v x) : NewR K H H v (.d x) := ⟨fun _ => .refl H, h⟩
theorem NewR.tup {p : Addr} {vs : List V} {xs : List D} (h : H p = none) (r : DRs K H vs xs) : NewR K H (upd H p (.tup vs)) (.ref p) (.d (.tup xs)) :=
  ⟨fun _ => .new h, .tup (SqT.of upd_same) (DRs.ex (.new (F := fun _ => False) h) r)⟩
theorem NewR.lst {p : Addr} {vs : List V} {xs : List D} (h : H p = none) (r : DRs K H vs xs) : NewR K H (upd H p (.lst vs)) (.ref p) (.own xs) :=
  ⟨fun _ => .new h, p, vs, rfl, h, upd_same, DRs.ex (.new (F := fun _ => False) h) r⟩

theorem VW.int {i : Int} (h : VW K H v (.int i)) : v = .int i := by
  rcases h with h | ⟨_, _, _, e, _⟩
  · cases h; rfl
  · cases e
theorem VW.bl {i : Bool} (h : VW K H v (.bl i)) : v = .bl i := by
  rcases h with h | ⟨_, _, _, e, _⟩
  · cases h; rfl
  · cases e
theorem VW.str {i : Str} (h : VW K H v (.str i)) : v = .str i ∧ PyData.strOk i = true := by
  rcases h with h | ⟨_, _, _, e, _⟩
  · cases h with | str _ q => exact ⟨rfl, q⟩
  · cases e
theorem VW.non (h : VW K H v .non) : v = .non := by
  rcases h with h | ⟨_, _, _, e, _⟩
  · cases h; rfl
  · cases e
theorem VW.tup {xs : List D} (h : VW K H v (.tup xs)) : ∃ a vs, v = .ref a ∧ SqT K H a vs ∧ DRs K H vs xs := by
  rcases h with h | ⟨_, _, _, e, _⟩
  · cases h with | tup h r => exact ⟨_, _, rfl, h, r⟩
  · cases e
theorem VW.lst {xs : List D} (h : VW K H v (.lst xs)) : ∃ a vs, v = .ref a ∧ Rd H a (.lst vs) ∧ DRs K H vs xs := by
  rcases h with h | ⟨a, vs, ys, e, h1, h2, h3⟩
  · cases h with | lst h r => obtain ⟨o, h⟩ := h; exact ⟨_, _, rfl, .inr ⟨o, h⟩, r⟩
  · cases e; exact ⟨a, vs, h1, h2, h3⟩
theorem VW.arr {xs : List D} (h : VW K H v (.arr xs)) : ∃ a vs, v = .ref a ∧ SqL K H a vs ∧ DRs K H vs xs := by
  rcases h with h | ⟨a, vs, ys, e, h1, h2, h3⟩
  · cases h with | arr h r => exact ⟨_, _, rfl, h.sq, r⟩
  · cases e
theorem VW.dp {x : D} (h : VW K H v x) : Dp K H v x.py ∧ x.py.canLay0 = true := by
  rcases h with h | ⟨a, vs, ys, rfl, rfl, h2, h3⟩
  · exact ⟨DR.dp h, DR.lay h⟩
  · exact ⟨.lst (.inl h2) (DRs.dp h3), by simp only [D.py, PyData.canLay0]; exact DRs.lay h3⟩
theorem VW.of {x : D} (h : DR K H v x) : VW K H v x := .inl h
theorem DR.flat {x : D} (h : DR K H v x) (f : flat x = true) : flatV v = true := by
  cases h <;> first | rfl | (exfalso; revert f; simp [AW.flat]; done)
theorem DRs.flat : ∀ {vs : List V} {xs : List D}, DRs K H vs xs → xs.all flat = true → vs.all flatV = true
  | _, _, .nil, _ => rfl
  | _, _, .cons h r, f => by
    rw [List.all_cons, Bool.and_eq_true] at f ⊢
    exact ⟨h.flat f.1, DRs.flat r f.2⟩
theorem eqV_flat {x y : D} {u : V} (h : DR K H v x) (g : DR K H u y) (f : AW.flat x = true) (f2 : AW.flat y = true) : eqV v u = D.eqv x y := by
  cases h <;> first | (exfalso; revert f; simp [AW.flat]; done) | (cases g <;> first | (exfalso; revert f2; simp [AW.flat]; done) | (simp [eqV, D.eqv]; done))
theorem inV_flat {x : D} (h : DR K H v x) (f : AW.flat x = true) : ∀ {vs : List V} {xs : List D}, DRs K H vs xs → xs.all AW.flat = true → inV v vs = xs.any fun z => D.eqv z x
  | _, _, .nil, _ => rfl
  | _, _, .cons g r, q => by
    rw [List.all_cons, Bool.and_eq_true] at q
    unfold inV
    rw [List.any_cons, List.any_cons, eqV_flat g h q.1 f]
    exact congrArg _ (inV_flat h f r q.2)
theorem any_py (x : D) : ∀ xs : List D, ((D.pys xs).any fun z => PyData.eqv z x.py) = xs.any fun z => D.eqv z x
  | [] => by simp [D.pys]
  | y :: r => by simp only [D.pys, List.any_cons]; rw [D.eqv_py, any_py x r]
end
theorem _root_.L2.Inv.rdL {X : Cx} {pins : List (Addr × Obj)} {σ : L2.St} {H : Hp} {s : Shared} {a : Addr} {xs : List V} (I : Inv X pins σ H s) (h : Rd H a (.lst xs)) :
    xs.length ≤ sizeLine ∧ ∃ (its : List Value) (n : Nat), Vals xs its ∧ xs.length = its.length ∧ s.heap.get? a = some { cls := .type "list", data := .seq its.toArray n } := by
  obtain ⟨z, its, n, r, e⟩ := h.ok I.hok
  exact ⟨z, its, n, r, r.length, e⟩
theorem lim_line : lim ≤ sizeLine := by rw [sizeLine_eq]; decide

section
variable {X : Cx}
def rCatR : R2 := fun x y H Q => ∃ l b xs zs, x = .ref l ∧ y = .ref b ∧ Rd H l (.lst xs) ∧ Rd H b (.lst zs) ∧ xs.length + zs.length ≤ sizeLine ∧ ∀ p, H p = none → Q (.ref p) (upd H p (.lst (xs ++ zs)))
theorem op_catR : OpR X (binaryOp .Add) rCatR := by
  intro pins s σ H x y v u Q I rx ry h
  obtain ⟨l, b, xs, zs, rfl, rfl, hH, hB, hz, q⟩ := h
  cases rx
  cases ry
  obtain ⟨z, its, n, r, hl, e⟩ := I.rdL hH
  obtain ⟨z2, its2, n2, r2, hl2, e2⟩ := I.rdL hB
  refine PySem.P.add_list e e2 ?_ (by rw [List.size_toArray, List.size_toArray]; omega)
  have ea : its.toArray ++ its2.toArray = (its ++ its2).toArray := by simp
  rw [ea]
  exact ⟨.ref _, _, I.lnew (t' := s.toks) (r.append r2) (by rw [List.length_append]; omega), rfl, q _ I.fresh⟩
def rRepR : R2 := fun x y H Q => ∃ l k xs, x = .ref l ∧ y = .int k ∧ Rd H l (.lst xs) ∧ -(2 ^ 63) ≤ k ∧ k < 2 ^ 63 ∧ xs.length * k.toNat ≤ sizeLine ∧
  ∀ p, H p = none → Q (.ref p) (upd H p (.lst (List.replicate k.toNat xs).flatten))
theorem op_repR : OpR X (binaryOp .Mult) rRepR := by
  intro pins s σ H x y v u Q I rx ry h
  obtain ⟨l, k, xs, rfl, rfl, hH, h1, h2, hz, q⟩ := h
  cases rx
  obtain ⟨t, rfl⟩ := ry
  obtain ⟨z, its, n, r, hl, e⟩ := I.rdL hH
  have hlen : its.toArray.size * k.toNat ≤ sizeLine := by rw [List.size_toArray, ← hl]; exact hz
  have hcap : ¬ its.toArray.size * k.toNat > (2 ^ 63 - 1) / 8 := by
    have : (sizeLine : Nat) ≤ (2 ^ 63 - 1) / 8 := by decide
    omega
  have hfit : ¬ (!Builtin.List.listFitsIndex k) = true := by
    rw [fitsIndex_both h1 h2]
    exact Bool.false_ne_true
  have hlong : ¬ Builtin.List.listTooLong (its.toArray.size * k.toNat) = true := by
    rw [notLongL hlen]
    exact Bool.false_ne_true
  have hnew : List.foldl (fun x1 x2 => x1 ++ x2) #[] (List.replicate (if its.toArray.isEmpty = true then 0 else k.toNat) its.toArray) = (List.replicate k.toNat its).flatten.toArray := by
    have f0 : ∀ m : Nat, List.foldl (fun x1 x2 => x1 ++ x2) #[] (List.replicate m its.toArray) = (List.replicate m its).flatten.toArray := fun m => by
      have := foldl_rep its m []
      rw [List.nil_append] at this
      exact this
    rw [f0]
    cases its with
    | nil => simp
    | cons a r' => rw [if_neg (by simp)]
  refine wpAny_binaryOp_repeat_ref (T := "list") (U := "int") (by decide) ⟨_, e, rfl⟩ (fun s' => typeIs_int s' k t) noFill_list_mul F.fills_int_mul F.slot_int_rmul repeat_list F.slot_int_index.lookup
    (call_meets F.slot_int_rmul (typeIs_int s k t) F.entry_int_rmul (F.args_int_rmul_2 _ _) (int___rmul___int_list k t l its.toArray n)
      ⟨e, rfl, ⟨_, e, rfl⟩, call_meets F.slot_list_mul ⟨_, e, rfl⟩ F.entry_list_mul (F.args_list_mul_2 _ _) (AutoListH.list___mul___list_int_3 l its.toArray n k t hfit hcap hlong) ⟨e, ?_⟩⟩)
  rw [hnew]
  exact ⟨.ref _, _, I.lnew (t' := s.toks) (r.rep k.toNat) (by rw [PyProof.Rows.lm_len_rep_flat, Nat.mul_comm]; exact hz), rfl, q _ I.fresh⟩

/-- a op b by data -/
def rBin (K : PySem.W.Frag) (op : Operator) : R2 := fun x y H Q => ∃ a b r, VW K H x a ∧ VW K H y b ∧ binD op a b = some r ∧ ∀ v H', NewR K H H' v r → Q v H'
theorem strOk_app {a b : Str} (h1 : PyData.strOk a = true) (h2 : PyData.strOk b = true) : PyData.strOk (a ++ b) = true := by
  show (a.cps ++ b.cps).all (· < 0x110000) = true
  rw [Array.all_append]
  unfold PyData.strOk at h1 h2
  rw [h1, h2]; rfl
theorem op_binD (op : Operator) : OpR X (binaryOp op) (rBin X.K op) := by
  intro pins s σ H x y v u Q I rx ry h
  obtain ⟨a, b, r, ha, hb, e, q⟩ := h
  have hl := lim_line
  unfold binD at e
  cases op <;> dsimp only at e
  case Add =>
    cases a <;> cases b <;> first | (cases e; done) | skip
    case int.int i j =>
      cases e
      exact op_add pins s σ H x y v u Q I rx ry ⟨i, j, ha.int, hb.int, q _ _ (.same (.int _))⟩
    case str.str i j =>
      dsimp only at e
      split at e
      · rename_i hz
        cases e
        exact op_add_str pins s σ H x y v u Q I rx ry ⟨i, j, ha.str.1, hb.str.1, by omega, q _ _ (.same (.str _ (strOk_app ha.str.2 hb.str.2)))⟩
      · cases e
    case tup.tup xs ys =>
      dsimp only at e
      split at e
      · rename_i hz
        cases e
        obtain ⟨p, vs, rfl, h1, h2⟩ := ha.tup
        obtain ⟨p2, ws, rfl, h3, h4⟩ := hb.tup
        have l1 := h2.len
        have l2 := h4.len
        refine op_catA pins s σ H _ _ v u Q I rx ry ⟨p, p2, vs, ws, rfl, rfl, h1, h3, by omega, fun e => ?_, fun _ e => ?_, fun _ _ p hp => q _ _ (.tup hp (h2.app h4))⟩
        · subst e; cases h2; exact q _ _ (.same (.tup h3 h4))
        · subst e; cases h4; rw [List.append_nil] at q; exact q _ _ (.same (.tup h1 h2))
      · cases e
    case lst.lst xs ys =>
      dsimp only at e
      split at e
      · rename_i hz
        cases e
        obtain ⟨p, vs, rfl, h1, h2⟩ := ha.lst
        obtain ⟨p2, ws, rfl, h3, h4⟩ := hb.lst
        have l1 := h2.len
        have l2 := h4.len
        exact op_catR pins s σ H _ _ v u Q I rx ry ⟨p, p2, vs, ws, rfl, rfl, h1, h3, by omega, fun p hp => q _ _ (.lst hp (h2.app h4))⟩
      · cases e
  case Sub =>
    cases a <;> cases b <;> first | (cases e; done) | skip
    case int.int i j =>
      cases e
      exact op_sub pins s σ H x y v u Q I rx ry ⟨i, j, ha.int, hb.int, q _ _ (.same (.int _))⟩
  case Mult =>
    cases a <;> cases b <;> first | (cases e; done) | skip
    case int.int i j =>
      dsimp only at e
      split at e
      · rename_i hc
        cases e
        exact op_mul pins s σ H x y v u Q I rx ry ⟨i, j, ha.int, hb.int, hc, q _ _ (.same (.int _))⟩
      · cases e
    case lst.int xs k =>
      dsimp only at e
      split at e
      · rename_i hc
        cases e
        obtain ⟨p, vs, rfl, h1, h2⟩ := ha.lst
        have l1 := h2.len
        have e2 : (2 : Int) ^ 63 = 2 * 2 ^ 62 := by decide
        refine op_repR pins s σ H _ _ v u Q I rx ry ⟨p, k, vs, rfl, hb.int, h1, by omega, by omega, ?_, fun p hp => q _ _ (.lst hp (h2.rep _))⟩
        rw [l1]; omega
      · cases e
  case FloorDiv =>
    cases a <;> cases b <;> first | (cases e; done) | skip
    case int.int i j =>
      dsimp only at e
      split at e
      · rename_i hc
        cases e
        exact op_fdivN pins s σ H x y v u Q I rx ry ⟨i, j, ha.int, hb.int, hc, q _ _ (.same (.int _))⟩
      · cases e
  case Mod =>
    cases a <;> cases b <;> first | (cases e; done) | skip
    case int.int i j =>
      dsimp only at e
      split at e
      · rename_i hc
        cases e
        exact op_modN pins s σ H x y v u Q I rx ry ⟨i, j, ha.int, hb.int, hc, q _ _ (.same (.int _))⟩
      · cases e
  case Pow =>
    cases a <;> cases b <;> first | (cases e; done) | skip
    case int.int i j =>
      dsimp only at e
      split at e
      · rename_i hc
        cases e
        exact op_pow pins s σ H x y v u Q I rx ry ⟨i, j, ha.int, hb.int, hc, q _ _ (.same (.int _))⟩
      · cases e
  all_goals cases e

/-- a comparison by data -/
def rCmp (K : PySem.W.Frag) (op : CmpOp) : R2 := fun x y H Q => ∃ a b r, VW K H x a ∧ VW K H y b ∧ cmpD op a b = some r ∧ Q (.bl r) H
theorem eqD_is {x y : D} {r : Bool} (e : eqD x y = some r) : r = D.eqv x y ∧ x.dep ≤ 60 ∧ y.dep ≤ 60 := by
  unfold eqD at e
  split at e
  · cases e; refine ⟨?_, by simp [D.dep], by simp [D.dep]⟩; rw [D.eqv, Bool.eq_iff_iff]; simp
  · cases e; simp [D.eqv, D.dep]
  · rename_i i j
    cases e
    refine ⟨?_, by simp [D.dep], by simp [D.dep]⟩
    rw [D.eqv, Bool.eq_iff_iff]
    simp
  · split at e
    · rename_i h
      cases e
      exact ⟨rfl, h.1, h.2⟩
    · cases e
theorem rm65 (hr : Room 0 X.A) : X.A.units + 65 < cLine := by have := hr.un; omega
theorem op_cmpD (hr : Room 0 X.A) (op : CmpOp) : OpR X (compareOp op) (rCmp X.K op) := by
  intro pins s σ H x y v u Q I rx ry h
  obtain ⟨a, b, r, ha, hb, e, q⟩ := h
  have h65 := rm65 hr
  have inn : ∀ {r : Bool}, inD a b = some r → ∀ (neg : Bool), Q (.bl (if neg then !r else r)) H → wpAny (model X.prog X.w) X.A (compareOp (if neg then .NotIn else .In) v u) (EP X pins σ Q) X.xe s := fun {r} e0 neg q => by
    unfold inD at e0
    split at e0
    · split at e0
      · rename_i ys hd
        cases e0
        have h1 := ha.dp
        have h2 := hb.dp
        have s1 := shaped_of h1.2 hd.1
        have s2 : SeqAt.shaped (D.py (.lst ys)) = true := shaped_of h2.2 (by simp only [D.dep]; omega)
        cases neg with
        | false => exact op_inD h65 pins s σ H x y v u Q I rx ry ⟨_, _, h1.1, h2.1, s1, s2, by rw [any_py]; exact q⟩
        | true => exact op_notInD h65 pins s σ H x y v u Q I rx ry ⟨_, _, h1.1, h2.1, s1, s2, by rw [any_py]; exact q⟩
      · cases e0
    · split at e0
      · rename_i ys hd
        cases e0
        obtain ⟨p, vs, rfl, h1, h2⟩ := hb.tup
        have h3 : DR X.K H x a := by
          rcases ha with ha | ⟨_, _, _, rfl, _⟩
          · exact ha
          · have := hd.1; unfold flat at this; cases this
        cases neg with
        | false => exact op_in_seq pins s σ H x _ v u Q I rx ry ⟨p, vs, rfl, .inr h1, h3.flat hd.1, h2.flat hd.2, by rw [inV_flat h3 hd.1 h2 hd.2]; exact q⟩
        | true => exact op_notIn_seq pins s σ H x _ v u Q I rx ry ⟨p, vs, rfl, .inr h1, h3.flat hd.1, h2.flat hd.2, by rw [inV_flat h3 hd.1 h2 hd.2]; exact q⟩
      · cases e0
    · cases e0
  unfold cmpD at e
  cases op <;> dsimp only at e
  case Eq =>
    obtain ⟨h1, h2, h3⟩ := eqD_is e
    subst h1
    exact op_eqD (by omega) pins s σ H x y v u Q I rx ry ⟨_, _, ha.dp.1, hb.dp.1, shaped_of ha.dp.2 h2, shaped_of hb.dp.2 h3, by rw [D.eqv_py]; exact q⟩
  case NotEq =>
    obtain ⟨r', e', rfl⟩ := Option.map_eq_some_iff.mp e
    obtain ⟨h1, h2, h3⟩ := eqD_is e'
    subst h1
    exact op_neD (by omega) pins s σ H x y v u Q I rx ry ⟨_, _, ha.dp.1, hb.dp.1, shaped_of ha.dp.2 h2, shaped_of hb.dp.2 h3, by rw [D.eqv_py]; exact q⟩
  case Lt =>
    cases a <;> cases b <;> first | (cases e; done) | skip
    cases e
    exact op_lt pins s σ H x y v u Q I rx ry ⟨_, _, ha.int, hb.int, q⟩
  case LtE =>
    cases a <;> cases b <;> first | (cases e; done) | skip
    cases e
    exact op_le pins s σ H x y v u Q I rx ry ⟨_, _, ha.int, hb.int, q⟩
  case Gt =>
    cases a <;> cases b <;> first | (cases e; done) | skip
    cases e
    exact op_gt pins s σ H x y v u Q I rx ry ⟨_, _, ha.int, hb.int, q⟩
  case GtE =>
    cases a <;> cases b <;> first | (cases e; done) | skip
    cases e
    exact op_ge pins s σ H x y v u Q I rx ry ⟨_, _, ha.int, hb.int, q⟩
  case In => exact inn e false q
  case NotIn =>
    obtain ⟨r', e', rfl⟩ := Option.map_eq_some_iff.mp e
    exact inn e' true q
  case Is =>
    cases b <;> first | (cases e; done) | skip
    cases e
    refine op_isN pins s σ H x y v u Q I rx ry ⟨hb.non, ?_⟩
    have : decide (x = V.non) = isNon a := by
      rcases ha with ha | ⟨_, _, _, rfl, rfl, _⟩
      · cases ha <;> simp [isNon]
      · simp [isNon]
    rw [this]; exact q
  case IsNot =>
    cases b <;> first | (cases e; done) | skip
    cases e
    refine op_notN pins s σ H x y v u Q I rx ry ⟨hb.non, ?_⟩
    have : decide (x = V.non) = isNon a := by
      rcases ha with ha | ⟨_, _, _, rfl, rfl, _⟩
      · cases ha <;> simp [isNon]
      · simp [isNon]
    rw [this]; exact q

/-- o[i] by data -/
def rIxD (K : PySem.W.Frag) : R2 := fun x y H Q => ∃ a b r, VW K H x a ∧ VW K H y b ∧ ixD a b = some r ∧ ∀ v, DR K H v r → Q v H
theorem atI_DRs {K : PySem.W.Frag} {H : Hp} {vs : List V} {xs : List D} {i : Int} {r : D} (h : DRs K H vs xs) (e : atI xs i = some r) : ∃ v, atI vs i = some v ∧ DR K H v r := by
  unfold atI at e ⊢
  rw [h.len]
  cases q : ixN xs.length i with
  | none => rw [q] at e; cases e
  | some j =>
    rw [q] at e
    exact h.get e
theorem ix_D : IxR X (rIxD X.K) := by
  intro value slice pins s σ H x y v u Q I rx ry h hs
  obtain ⟨a, b, r, ha, hb, e, q⟩ := h
  unfold ixD at e
  cases a <;> cases b <;> first | (cases e; done) | skip
  case tup.int xs i =>
    obtain ⟨p, vs, rfl, h1, h2⟩ := ha.tup
    obtain ⟨w, e1, e2⟩ := atI_DRs h2 e
    exact ix_tup value slice pins s σ H _ y v u Q I rx ry ⟨p, vs, i, w, rfl, hb.int, h1, e1, q w e2⟩ hs
  case lst.int xs i =>
    obtain ⟨p, vs, rfl, h1, h2⟩ := ha.lst
    obtain ⟨w, e1, e2⟩ := atI_DRs h2 e
    exact ix_list value slice pins s σ H _ y v u Q I rx ry ⟨p, vs, i, w, rfl, hb.int, .inl h1, e1, q w e2⟩ hs
  case arr.int xs i =>
    obtain ⟨p, vs, rfl, h1, h2⟩ := ha.arr
    obtain ⟨w, e1, e2⟩ := atI_DRs h2 e
    exact ix_list value slice pins s σ H _ y v u Q I rx ry ⟨p, vs, i, w, rfl, hb.int, h1, e1, q w e2⟩ hs

/-- o[lo:hi] by data -/
def rSlD (K : PySem.W.Frag) : V → Option Int → Option Int → Hp → VK → Prop := fun x lo hi H Q => ∃ a r, VW K H x a ∧ slD a lo hi = some r ∧ ∀ v H', NewR K H H' v r → Q v H'
theorem DRs.cut {K : PySem.W.Frag} {H : Hp} {vs : List V} {xs : List D} (h : DRs K H vs xs) (lo hi : Option Int) : DRs K H (cutV vs lo hi) (cutD xs lo hi) := by
  unfold cutV cutD
  rw [h.len]
  exact (h.drop _).take _
theorem sl_D : L2.SlR X (rSlD X.K) := by
  intro pins s σ H x v vl vu lo hi sl Q I rx hs pl pu h
  obtain ⟨a, r, ha, e, q⟩ := h
  unfold slD at e
  cases a <;> first | (cases e; done) | skip
  case tup xs =>
    cases e
    obtain ⟨p, vs, rfl, h1, h2⟩ := ha.tup
    refine sl_tupA pins s σ H _ v vl vu lo hi sl Q I rx hs pl pu ⟨p, vs, rfl, h1, fun hw => ?_, fun _ p hp => q _ _ (.tup hp (h2.cut lo hi))⟩
    have hc : cutD xs lo hi = xs := by
      unfold cutD
      rw [← h2.len, hw.1, hw.2, List.drop_zero, Nat.sub_zero, h2.len, List.take_length]
    rw [hc] at q
    exact q _ _ (.same (.tup h1 h2))
  case lst xs =>
    cases e
    obtain ⟨p, vs, rfl, h1, h2⟩ := ha.lst
    exact sl_list pins s σ H _ v vl vu lo hi sl Q I rx hs pl pu ⟨p, vs, rfl, .inl h1, fun p hp => q _ _ (.lst hp (h2.cut lo hi))⟩

/-! ### built-ins of one value -/
def rB1 (K : PySem.W.Frag) (b : Bi) : List V → Hp → VK → Prop := fun xs H Q => ∃ x a r, xs = [x] ∧ VW K H x a ∧ bi1 b a = some r ∧ ∀ v H', NewR K H H' v r → Q v H'
theorem b1_len : CallR X (.builtin "len") (rB1 X.K .len) := by
  intro pins s σ H xs us Q I r h
  obtain ⟨x, a, v, rfl, ha, e, q⟩ := h
  unfold bi1 at e
  cases a <;> first | (cases e; done) | skip
  case tup xs =>
    cases e
    obtain ⟨p, vs, rfl, h1, h2⟩ := ha.tup
    exact call_len_seq pins s σ H _ us Q I r ⟨p, vs, rfl, .inr h1, by rw [h2.len]; exact q _ _ (.same (.int _))⟩
  case lst xs =>
    cases e
    obtain ⟨p, vs, rfl, h1, h2⟩ := ha.lst
    exact call_len_seq pins s σ H _ us Q I r ⟨p, vs, rfl, .inl (.inl h1), by rw [h2.len]; exact q _ _ (.same (.int _))⟩
  case arr xs =>
    cases e
    obtain ⟨p, vs, rfl, h1, h2⟩ := ha.arr
    exact call_len_seq pins s σ H _ us Q I r ⟨p, vs, rfl, .inl h1, by rw [h2.len]; exact q _ _ (.same (.int _))⟩
theorem b1_int : CallR X (.type "int") (rB1 X.K .int) := by
  intro pins s σ H xs us Q I r h
  obtain ⟨x, a, v, rfl, ha, e, q⟩ := h
  unfold bi1 at e
  cases a <;> first | (cases e; done) | skip
  case bl c =>
    cases e
    exact call_int1 pins s σ H _ us Q I r (.inr ⟨c, by rw [ha.bl], q _ _ (.same (.int _))⟩)
  case int i =>
    cases e
    exact call_int1 pins s σ H _ us Q I r (.inl ⟨i, by rw [ha.int], q _ _ (.same (.int _))⟩)
theorem b1_abs : CallR X (.builtin "abs") (rB1 X.K .abs) := by
  intro pins s σ H xs us Q I r h
  obtain ⟨x, a, v, rfl, ha, e, q⟩ := h
  unfold bi1 at e
  cases a <;> first | (cases e; done) | skip
  case int i =>
    cases e
    exact call_abs pins s σ H _ us Q I r ⟨i, by rw [ha.int], q _ _ (.same (.int _))⟩
theorem b1_list : CallR X (.type "list") (rB1 X.K .list) := by
  intro pins s σ H xs us Q I r h
  obtain ⟨x, a, v, rfl, ha, e, q⟩ := h
  unfold bi1 at e
  cases a <;> first | (cases e; done) | skip
  case tup xs =>
    cases e
    obtain ⟨p, vs, rfl, h1, h2⟩ := ha.tup
    exact call_list_of pins s σ H _ us Q I r ⟨p, vs, rfl, .inr h1, fun l hl => q _ _ (.lst hl h2)⟩
  case lst xs =>
    cases e
    obtain ⟨p, vs, rfl, h1, h2⟩ := ha.lst
    exact call_list_of pins s σ H _ us Q I r ⟨p, vs, rfl, .inl (.inl h1), fun l hl => q _ _ (.lst hl h2)⟩
theorem b1_tuple : CallR X (.type "tuple") (rB1 X.K .tuple) := by
  intro pins s σ H xs us Q I r h
  obtain ⟨x, a, v, rfl, ha, e, q⟩ := h
  unfold bi1 at e
  cases a <;> first | (cases e; done) | skip
  case tup xs =>
    cases e
    obtain ⟨p, vs, rfl, h1, h2⟩ := ha.tup
    exact call_tuple_of pins s σ H _ us Q I r ⟨p, vs, rfl, .inr ⟨h1, q _ _ (.same (.tup h1 h2))⟩⟩
  case lst xs =>
    cases e
    obtain ⟨p, vs, rfl, h1, h2⟩ := ha.lst
    exact call_tuple_of pins s σ H _ us Q I r ⟨p, vs, rfl, .inl ⟨.inl h1, fun l hl => q _ _ (.tup hl h2)⟩⟩
theorem DRs.bls {K : PySem.W.Frag} {H : Hp} : ∀ {vs : List V} {xs : List D} {bs : List Bool}, DRs K H vs xs → bls? xs = some bs → vs = bs.map V.bl
  | _, _, _, .nil, e => by cases e; rfl
  | _, _, _, .cons h r, e => by
    cases h <;> first | (cases e; done) | skip
    obtain ⟨bs', e', rfl⟩ := Option.map_eq_some_iff.mp e
    rw [DRs.bls r e', List.map_cons]
theorem DRs.ints {K : PySem.W.Frag} {H : Hp} : ∀ {vs : List V} {xs : List D} {bs : List Int}, DRs K H vs xs → ints? xs = some bs → vs = bs.map V.int
  | _, _, _, .nil, e => by cases e; rfl
  | _, _, _, .cons h r, e => by
    cases h <;> first | (cases e; done) | skip
    obtain ⟨bs', e', rfl⟩ := Option.map_eq_some_iff.mp e
    rw [DRs.ints r e', List.map_cons]
theorem b1_any (hc : X.calm = true) : CallR X (.builtin "any") (rB1 X.K .any) := by
  intro pins s σ H xs us Q I r h
  obtain ⟨x, a, v, rfl, ha, e, q⟩ := h
  unfold bi1 at e
  cases a <;> first | (cases e; done) | skip
  case lst xs =>
    obtain ⟨bs, e', rfl⟩ := Option.map_eq_some_iff.mp e
    obtain ⟨p, vs, rfl, h1, h2⟩ := ha.lst
    rw [h2.bls e'] at h1
    exact cr_any hc pins s σ H _ us Q I r ⟨p, bs, rfl, .inl h1, q _ _ (.same (.bl _))⟩
theorem b1_all (hc : X.calm = true) : CallR X (.builtin "all") (rB1 X.K .all) := by
  intro pins s σ H xs us Q I r h
  obtain ⟨x, a, v, rfl, ha, e, q⟩ := h
  unfold bi1 at e
  cases a <;> first | (cases e; done) | skip
  case lst xs =>
    obtain ⟨bs, e', rfl⟩ := Option.map_eq_some_iff.mp e
    obtain ⟨p, vs, rfl, h1, h2⟩ := ha.lst
    rw [h2.bls e'] at h1
    exact cr_all hc pins s σ H _ us Q I r ⟨p, bs, rfl, .inl h1, q _ _ (.same (.bl _))⟩
theorem fmax_ge : ∀ (r : List Int) (n : Int), n ≤ r.foldl (fun a b => if b > a then b else a) n ∧ (∀ y ∈ r, y ≤ r.foldl (fun a b => if b > a then b else a) n) ∧ (r.foldl (fun a b => if b > a then b else a) n = n ∨ r.foldl (fun a b => if b > a then b else a) n ∈ r)
  | [], n => ⟨Int.le_refl _, fun _ h => (nomatch h), .inl rfl⟩
  | b :: r, n => by
    obtain ⟨h1, h2, h3⟩ := fmax_ge r (if b > n then b else n)
    rw [List.foldl_cons]
    have h4 : n ≤ (if b > n then b else n) ∧ b ≤ (if b > n then b else n) ∧ ((if b > n then b else n) = n ∨ (if b > n then b else n) = b) := by split <;> omega
    refine ⟨by omega, fun y hy => ?_, ?_⟩
    · rcases List.mem_cons.mp hy with rfl | hy
      · omega
      · exact h2 y hy
    · rcases h3 with h3 | h3
      · rw [h3]
        rcases h4.2.2 with z | z
        · exact .inl z
        · rw [z]; exact .inr List.mem_cons_self
      · exact .inr (List.mem_cons_of_mem _ h3)
theorem fmin_le : ∀ (r : List Int) (n : Int), r.foldl (fun a b => if b < a then b else a) n ≤ n ∧ (∀ y ∈ r, r.foldl (fun a b => if b < a then b else a) n ≤ y) ∧ (r.foldl (fun a b => if b < a then b else a) n = n ∨ r.foldl (fun a b => if b < a then b else a) n ∈ r)
  | [], n => ⟨Int.le_refl _, fun _ h => (nomatch h), .inl rfl⟩
  | b :: r, n => by
    obtain ⟨h1, h2, h3⟩ := fmin_le r (if b < n then b else n)
    rw [List.foldl_cons]
    have h4 : (if b < n then b else n) ≤ n ∧ (if b < n then b else n) ≤ b ∧ ((if b < n then b else n) = n ∨ (if b < n then b else n) = b) := by split <;> omega
    refine ⟨by omega, fun y hy => ?_, ?_⟩
    · rcases List.mem_cons.mp hy with rfl | hy
      · omega
      · exact h2 y hy
    · rcases h3 with h3 | h3
      · rw [h3]
        rcases h4.2.2 with z | z
        · exact .inl z
        · rw [z]; exact .inr List.mem_cons_self
      · exact .inr (List.mem_cons_of_mem _ h3)
theorem b1_max (hc : X.calm = true) : CallR X (.builtin "max") (rB1 X.K .max) := by
  intro pins s σ H xs us Q I r h
  obtain ⟨x, a, v, rfl, ha, e, q⟩ := h
  unfold bi1 at e
  cases a <;> first | (cases e; done) | skip
  case lst xs =>
    obtain ⟨ns, e1, e2⟩ := Option.bind_eq_some_iff.mp e
    cases ns with
    | nil => cases e2
    | cons n ns =>
      cases e2
      obtain ⟨p, vs, rfl, h1, h2⟩ := ha.lst
      rw [h2.ints e1] at h1
      obtain ⟨f1, f2, f3⟩ := fmax_ge ns n
      refine cr_max hc pins s σ H _ us Q I r ⟨p, n :: ns, rfl, .inl h1, by simp, fun m hm1 hm2 => ?_⟩
      have : m = ns.foldl (fun a b => if b > a then b else a) n := by
        have k1 : ns.foldl (fun a b => if b > a then b else a) n ≤ m := hm2 _ (by rcases f3 with z | z; rw [z]; exact List.mem_cons_self; exact List.mem_cons_of_mem _ z)
        have k2 : m ≤ ns.foldl (fun a b => if b > a then b else a) n := by
          rcases List.mem_cons.mp hm1 with rfl | z
          · exact f1
          · exact f2 m z
        omega
      rw [this]
      exact q _ _ (.same (.int _))
theorem b1_min (hc : X.calm = true) : CallR X (.builtin "min") (rB1 X.K .min) := by
  intro pins s σ H xs us Q I r h
  obtain ⟨x, a, v, rfl, ha, e, q⟩ := h
  unfold bi1 at e
  cases a <;> first | (cases e; done) | skip
  case lst xs =>
    obtain ⟨ns, e1, e2⟩ := Option.bind_eq_some_iff.mp e
    cases ns with
    | nil => cases e2
    | cons n ns =>
      cases e2
      obtain ⟨p, vs, rfl, h1, h2⟩ := ha.lst
      rw [h2.ints e1] at h1
      obtain ⟨f1, f2, f3⟩ := fmin_le ns n
      refine cr_min hc pins s σ H _ us Q I r ⟨p, n :: ns, rfl, .inl h1, by simp, fun m hm1 hm2 => ?_⟩
      have : m = ns.foldl (fun a b => if b < a then b else a) n := by
        have k1 : m ≤ ns.foldl (fun a b => if b < a then b else a) n := hm2 _ (by rcases f3 with z | z; rw [z]; exact List.mem_cons_self; exact List.mem_cons_of_mem _ z)
        have k2 : ns.foldl (fun a b => if b < a then b else a) n ≤ m := by
          rcases List.mem_cons.mp hm1 with rfl | z
          · exact f1
          · exact f2 m z
        omega
      rw [this]
      exact q _ _ (.same (.int _))
def rB2 (K : PySem.W.Frag) (b : Bi) : List V → Hp → VK → Prop := fun xs H Q => ∃ x y a c r, xs = [x, y] ∧ VW K H x a ∧ VW K H y c ∧ bi2 b a c = some r ∧ ∀ v H', NewR K H H' v r → Q v H'
theorem b2_max (hc : X.calm = true) : CallR X (.builtin "max") (rB2 X.K .max) := by
  intro pins s σ H xs us Q I r h
  obtain ⟨x, y, a, b, v, rfl, ha, hb, e, q⟩ := h
  unfold bi2 at e
  cases a <;> cases b <;> first | (cases e; done) | skip
  cases e
  exact call_max2 hc pins s σ H _ us Q I r ⟨_, _, by rw [ha.int, hb.int], q _ _ (.same (.int _))⟩
theorem b2_min (hc : X.calm = true) : CallR X (.builtin "min") (rB2 X.K .min) := by
  intro pins s σ H xs us Q I r h
  obtain ⟨x, y, a, b, v, rfl, ha, hb, e, q⟩ := h
  unfold bi2 at e
  cases a <;> cases b <;> first | (cases e; done) | skip
  cases e
  exact call_min2 hc pins s σ H _ us Q I r ⟨_, _, by rw [ha.int, hb.int], q _ _ (.same (.int _))⟩

/-! ### isinstance -/
def Ty.nm : Ty → String
  | .int => "int"
  | .bool => "bool"
  | .str => "str"
  | .tuple => "tuple"
  | .list => "list"
def D.tyn : D → String
  | .non => "NoneType"
  | .bl _ => "bool"
  | .int _ => "int"
  | .str _ => "str"
  | .tup _ => "tuple"
  | .lst _ => "list"
  | .arr _ => "list"
theorem tyX {K : PySem.W.Frag} {H : Hp} {v : V} {x : D} (h : DR K H v x) : TyX K H v (.type x.tyn) := by
  cases h with
  | non => exact .base .non
  | bl b => exact .base (.bl b)
  | int i => exact .base (.int i)
  | str s _ => exact .base (.str s)
  | tup h _ =>
    rcases h with (h | ⟨o, h⟩) | ⟨o, its, n, h, hc, _⟩
    · exact .base (.tup h)
    · exact .fTuple h
    · exact .kTuple h hc
  | lst h _ =>
    obtain ⟨o, h⟩ := h
    exact .base (.frz h)
  | arr h _ =>
    rcases h with ⟨o, h⟩ | ⟨o, its, n, h, hc, _⟩
    · exact .base (.frz h)
    · exact .kList h hc
theorem isi_one {K : PySem.W.Frag} (x : D) (t : Ty) : PySem.W.kitOne K (.type x.tyn) (.type t.nm) = some (isiT t x) := by
  refine kit_ty ?_
  cases x <;> cases t <;> (simp only [D.tyn, Ty.nm, isiT]; decide +kernel)
theorem isi_any {K : PySem.W.Frag} (x : D) : ∀ ts : List Ty, PySem.W.kitAny K (.type x.tyn) (ts.map fun t => .type t.nm) = some (isiD ts x)
  | [] => kitAny_nil
  | t :: ts => by
    rw [List.map_cons]
    refine kitAny_cons (isi_one x t) (fun h => ?_) (fun h => ?_)
    · rw [isi_any x ts]
      unfold isiD
      rw [List.any_cons, h, Bool.false_or]
    · unfold isiD
      rw [List.any_cons, h, Bool.true_or]
theorem call_isi1 (t : Ty) : CallR X (.builtin "isinstance") (fun xs H Q => ∃ v x, xs = [v, .ty t.nm] ∧ DR X.K H v x ∧ Q (.bl (isiD [t] x)) H) := by
  intro pins s σ H xs us Q I r h
  obtain ⟨v, x, rfl, h1, q⟩ := h
  refine call_isi pins s σ H _ us Q I r ⟨v, .ty t.nm, _, _, _, rfl, .ty _, tyX h1, isi_one x t, ?_⟩
  have : isiD [t] x = isiT t x := by simp [isiD]
  rw [← this]
  exact q
theorem call_isiN (ts : List Ty) : CallR X (.builtin "isinstance") (fun xs H Q => ∃ v tp x, xs = [v, .ref tp] ∧ H tp = some (.tup (ts.map fun t => .ty t.nm)) ∧ DR X.K H v x ∧ Q (.bl (isiD ts x)) H) := by
  intro pins s σ H xs us Q I r h
  obtain ⟨v, tp, x, rfl, h0, h1, q⟩ := h
  refine call_isiT pins s σ H _ us Q I r ⟨v, tp, _, _, _, _, rfl, h0, ?_, tyX h1, isi_any x ts, q⟩
  clear r q h0 I h1
  induction ts with
  | nil => exact .nil
  | cons t ts ih => exact .cons (.ty _) ih
end
end AW

set_option Elab.async false
set_option linter.all false
set_option maxRecDepth 100000
set_option maxHeartbeats 4000000
/-! How the text becomes the tree. -/
namespace AW
open PySem PySem.Spec PyProof.Rows L2

/-- what a global name is -/
inductive GE where
  | f (id ar : Nat) | g (id ar : Nat) | c (d : D) | bi
structure Sg where
  N : List Str
  sc : Scope
  fn : Str → Bool
  G : List (Str × GE)
def Sg.kind (T : Sg) (x : Str) : Option NameKind := T.sc.names.lookup x
def isVis : Option NameKind → Bool
  | some .local => true
  | some .cell => true
  | some .free => true
  | _ => false
def isLoc : Option NameKind → Bool
  | some .local => true
  | some .cell => true
  | _ => false
def isLocal : Option NameKind → Bool
  | some .local => true
  | _ => false
def isGlob : Option NameKind → Bool
  | some .globalImplicit => true
  | _ => false
def okN (x : Str) : Bool := !(x == ("__debug__" : Str)) && !(x == ("__classdict__" : Str))
def pos? (N : List Str) (x : Str) : Option Nat :=
  let i := N.findIdx (· == x)
  if N[i]? = some x then some i else none
theorem pos?_at {N : List Str} {x : Str} {i : Nat} (h : pos? N x = some i) : N[i]? = some x := by
  unfold pos? at h
  dsimp only at h
  split at h
  · cases h; assumption
  · cases h
/-- a name that is read -/
def Sg.ix (T : Sg) (x : Str) : Option Nat := if isVis (T.kind x) && okN x then pos? T.N x else none
/-- a name that is stored -/
def Sg.tg (T : Sg) (x : Str) : Option Nat := if isLoc (T.kind x) && (T.fn x || isLocal (T.kind x)) then pos? T.N x else none
/-- a name of the module -/
def Sg.gl (T : Sg) (x : Str) : Option GE := if isGlob (T.kind x) && okN x then T.G.lookup x else none
def Sg.bi (T : Sg) (x : Str) : Bool := match T.gl x with
  | some .bi => true
  | _ => false

def constD : Const → Option D
  | .none => some .non
  | .bool b => some (.bl b)
  | .int i => some (.int i)
  | .str x => if PyData.strOk x = true then some (.str x) else none
  | _ => none
def compL (f : Expr → Option E) : List Expr → Option Es
  | [] => some .nil
  | e :: r => match f e, compL f r with
    | some a, some b => some (.cons a b)
    | _, _ => none
def compB (f : Expr → Option E) (op : BoolOp) : List Expr → Option E
  | [] => none
  | [e] => f e
  | e :: e2 :: r => match f e, compB f op (e2 :: r) with
    | some a, some b => some (match op with
      | .And => .and a b
      | .Or => .or a b)
    | _, _ => none
def compO (f : Expr → Option E) : Option Expr → Option Oe
  | none => some .non
  | some e => (f e).map .som
def compUn (f : Expr → Option E) (op : UnaryOp) (a : Expr) : Option E := match op with
  | .USub => (f a).map .neg
  | .Not => (f a).map .not
  | _ => none
def compBin (f : Expr → Option E) (a : Expr) (op : Operator) (b : Expr) : Option E := match f a, f b with
  | some x, some y => some (.bin op x y)
  | _, _ => none
def compIf (f : Expr → Option E) (t a b : Expr) : Option E := match f t, f a, f b with
  | some x, some y, some z => some (.ife x y z)
  | _, _, _ => none
def isSet : Expr → Bool
  | .Set .. => true
  | _ => false
def compCmp (f : Expr → Option E) (a : Expr) : List CmpOp → List Expr → Option E
  | [op], [b] => if isSet b then none else match f a, f b with
    | some x, some y => some (.cmp op x y)
    | _, _ => none
  | [op, op2], [b, c] => if isSet c then none else match f a, f b, f c with
    | some x, some y, some z => some (.chain op op2 x y z)
    | _, _, _ => none
  | _, _ => none
def isM1 : Expr → Bool
  | .UnaryOp .USub (.Constant (.int 1) _ _) _ => true
  | _ => false
def dictC : List (Option Expr) → List Expr → Option (List (Str × Int))
  | [], [] => some []
  | some (.Constant (.str x) _ _) :: ks, .Constant (.int i) _ _ :: vs => if PyData.strOk x = true then (dictC ks vs).map ((x, i) :: ·) else none
  | _, _ => none
def compSub (f : Expr → Option E) (o i : Expr) : Option E := match i with
  | .Slice lo hi none _ => match f o, compO f lo, compO f hi with
    | some x, some l, some h => some (.sl x l h)
    | _, _, _ => none
  | .Slice none none (some st) _ => if isM1 st = true then (f o).map .rev else none
  | .Slice .. => none
  | i => match f o, f i with
    | some x, some y => some (.ix x y)
    | _, _ => none
def isStar : Expr → Bool
  | .Starred .. => true
  | _ => false
mutual
def compTg : Nat → Sg → Expr → Option Tg
  | 0, _, _ => none
  | n + 1, T, e => match e with
    | .Name x _ => (T.tg x).map .n
    | .Tuple es _ _ => (compTgs n T es).map .t
    | _ => none
def compTgs : Nat → Sg → List Expr → Option Tgs
  | 0, _, _ => none
  | n + 1, T, es => match es with
    | [] => some .nil
    | e :: r => match compTg n T e, compTgs n T r with
      | some a, some b => some (.cons a b)
      | _, _ => none
end

mutual
def tgNames : Nat → Expr → List Str
  | 0, _ => []
  | n + 1, e => match e with
    | .Name x _ => [x]
    | .Tuple es _ _ => tgsNames n es
    | _ => []
def tgsNames : Nat → List Expr → List Str
  | 0, _ => []
  | n + 1, es => match es with
    | [] => []
    | e :: r => tgNames n e ++ tgsNames n r
end
def ownOf (N : List Str) (xs : List Str) : List (Str × Nat) := xs.filterMap fun x => (pos? N x).map fun i => (x, i)
mutual
def tgIn (own : List Nat) : Tg → Bool
  | .n i => own.contains i
  | .t ts => tgsIn own ts
def tgsIn (own : List Nat) : Tgs → Bool
  | .nil => true
  | .cons t r => tgIn own t && tgsIn own r
end
def Sg.blk (T : Sg) (scope : Scope) : Sg := { T with sc := relS scope T.sc, fn := fun x => scope.names.lookup x == some .cell }
def bi1Of (x : Str) : Option Bi :=
  if x = "len" then some .len else if x = "int" then some .int else if x = "abs" then some .abs else if x = "list" then some .list else if x = "tuple" then some .tuple
  else if x = "sorted" then some .sorted else if x = "any" then some .any else if x = "all" then some .all else if x = "max" then some .max else if x = "min" then some .min else none
def bi2Of (x : Str) : Option Bi := if x = "max" then some .max else if x = "min" then some .min else none
def tyOf (x : Str) : Option Ty :=
  if x = "int" then some .int else if x = "bool" then some .bool else if x = "str" then some .str else if x = "tuple" then some .tuple else if x = "list" then some .list else none
def tyEx (T : Sg) : Expr → Option Ty
  | .Name x _ => if T.bi x then tyOf x else none
  | _ => none
def tysEx (T : Sg) : List Expr → Option (List Ty)
  | [] => some []
  | e :: r => match tyEx T e, tysEx T r with
    | some a, some b => some (a :: b)
    | _, _ => none
def compIsi (T : Sg) (f : Expr → Option E) (a t : Expr) : Option E := match t with
  | .Tuple es _ _ => match f a, tysEx T es with
    | some x, some ts => if ts.length ≤ 100 then some (.isi x ts) else none
    | _, _ => none
  | t => match f a, tyEx T t with
    | some x, some ty => some (.isi x [ty])
    | _, _ => none
/-- range(a) -/
def rangeOf (T : Sg) : Expr → Option Expr
  | .Call (.Name x _) [a] [] _ => if x = "range" ∧ T.bi x = true then some a else none
  | _ => none
def compBi (T : Sg) (f : Expr → Option E) (x : Str) (args : List Expr) : Option E := match args with
  | [a] => if x = "list" then
      match rangeOf T a with
      | some b => (f b).map (.b1 .lrange)
      | none => (f a).map (.b1 .list)
    else match bi1Of x with
      | some b => (f a).map (.b1 b)
      | none => none
  | [a, t] => if x = "isinstance" then compIsi T f a t else match bi2Of x with
    | some b => match f a, f t with
      | some c, some d => some (.b2 b c d)
      | _, _ => none
    | none => none
  | _ => none
def compCall (T : Sg) (f : Expr → Option E) (x : Str) (args : List Expr) : Option E := match T.gl x with
  | some (.f id ar) => if args.length = ar then (compL f args).map (.call id) else none
  | some (.g id ar) => match args with
    | .Name y _ :: r => if r.length = ar then
        match T.ix y, compL f r with
        | some i, some es => some (.calli id i es)
        | _, _ => none
      else none
    | _ => none
  | some .bi => compBi T f x args
  | _ => none
def compMeth (T : Sg) (f : Expr → Option E) (o : Expr) (m : Str) (args : List Expr) : Option E := match o with
  | .Name x _ => match T.ix x with
    | some i => if m = "append" then match args with
        | [a] => (f a).map (.app i)
        | _ => none
      else if m = "pop" then match args with
        | [] => some (.pop i)
        | [a] => (f a).map (.popA i)
        | _ => none
      else none
    | none => none
  | .Dict ks vs _ => match dictC ks vs, args with
    | some kvs, [a, b] => if m = "get" ∧ (kvs.map (·.1)).Nodup ∧ 0 < kvs.length ∧ kvs.length ≤ 15 then
        match f a, f b with
        | some x, some y => some (.dget kvs x y)
        | _, _ => none
      else none
    | _, _ => none
  | _ => none
def compIt (T : Sg) (f : Expr → Option E) (e : Expr) : Option It := match rangeOf T e with
  | some a => (f a).map .rng
  | none => match e with
    | .Call (.Name x _) [a, b] [] _ => if x = "zip" ∧ T.bi x = true then
        match f a, f b with
        | some c, some d => some (.zip c d)
        | _, _ => none
      else (f e).map .e
    | e => if isSet e then none else (f e).map .e
def zipTg (e : Expr) (t : It) : Bool := match t with
  | .zip _ _ => (match e with
    | .Tuple .. => true
    | _ => false)
  | _ => true
def comp : Nat → Sg → Expr → Option E
  | 0, _, _ => none
  | n + 1, T, e => match e with
    | .Constant c _ _ => (constD c).map .k
    | .Name x _ => match T.gl x with
      | some (.c d) => some (.gc d)
      | _ => (T.ix x).map .v
    | .Tuple es _ _ => if es.length ≤ 1000 then (compL (comp n T) es).map .tup else none
    | .List es _ => if es.length ≤ 1000 then (compL (comp n T) es).map .lst else none
    | .BinOp a op b _ => compBin (comp n T) a op b
    | .UnaryOp op a _ => compUn (comp n T) op a
    | .BoolOp op es _ => compB (comp n T) op es
    | .IfExp t a b _ => compIf (comp n T) t a b
    | .Compare a ops bs _ => compCmp (comp n T) a ops bs
    | .Subscript o i _ => compSub (comp n T) o i
    | .ListComp elt gens scope _ => match gens with
      | [⟨tg, it, ifs, as⟩] =>
        let own := ownOf T.N (tgNames 10 tg)
        if as = 0 ∧ blkC T.N T.sc scope own = true then
          match compTg 10 (T.blk scope) tg, compIt T (comp n T) it, comp n (T.blk scope) elt with
          | some t, some i, some x => if tgIn (own.map (·.2)) t = true ∧ zipTg tg i = true then
              match ifs with
              | [] => some (.lc t i (own.map (·.2)) .non x)
              | [c] => (comp n (T.blk scope) c).map fun c => .lc t i (own.map (·.2)) (.som c) x
              | _ => none
            else none
          | _, _, _ => none
        else none
      | _ => none
    | .Call fe args kws pos => match fe, kws with
      | .Name x _, [] => compCall T (comp n T) x args
      | .Attribute o m ap, [] => if (ap.endLine == pos.line) = true then compMeth T (comp n T) o m args else none
      | _, _ => none
    | _ => none

/-! ### statements -/
def isComp : Expr → Bool
  | .ListComp .. => true
  | .SetComp .. => true
  | .DictComp .. => true
  | _ => false
/-- how a tuple that is written is stored to a tuple of targets -/
def swapDec (T : Sg) (ts vs : List Expr) : Option (Option (List Str)) :=
  if !(ts.length == 2 || ts.length == 3) || vs.length != ts.length then some none
  else if vs.any isStar then some none
  else
    let line := (ts.head?.map (·.pos.line)).getD 0
    let names := ts.filterMap fun
      | .Name id pos => if T.sc.names.lookup id == some .local && pos.line == line then some id else none
      | _ => none
    if names.length != ts.length || names.eraseDups.length != names.length then some none
    else if vs.all (foldedForSure 8) then some none
    else if vs.all (constantsAlone 8) then none
    else some (some names)
def swapChk (T : Sg) (o : Option (List Str)) (ts vs : List Expr) : Bool := match o with
  | none => true
  | some ns => match ts, vs with
    | [.Name x _, .Name y _], [_, _] => decide (ns = [x, y]) && decide (x ≠ y) && isLocal (T.kind x) && isLocal (T.kind y)
    | [.Name x _, .Name y _, .Name z _], [_, _, _] => decide (ns = [x, y, z]) && decide (x ≠ y) && decide (x ≠ z) && decide (y ≠ z) && isLocal (T.kind x) && isLocal (T.kind y) && isLocal (T.kind z)
    | _, _ => false
def compAsg (m : Nat) (T : Sg) (t e : Expr) : Option S := match t with
  | .Name x p => match T.tg x, comp m T e with
    | some i, some c => (match e with
      | .ListComp .. => some (.asg i c)
      | e => if isComp e then none else some (.asg i c))
    | _, _ => none
  | .Tuple ts k p => match e with
    | .Tuple vs _ _ => match swapDec T ts vs, compTgs 10 T ts, compL (comp m T) vs with
      | some o, some tg, some es => if vs.length = ts.length ∧ ts.length ≤ 100 ∧ swapChk T o ts vs = true then some (.par tg es) else none
      | _, _, _ => none
    | e => if isComp e then none else match compTgs 10 T ts, comp m T e with
      | some tg, some c => some (.unp (.t tg) c)
      | _, _ => none
  | .Subscript o i _ => match o with
    | .Name x _ => match i with
      | .Slice .. => none
      | i => if isComp e then none else match T.ix x, comp m T i, comp m T e with
        | some j, some k, some c => some (.setL j k c)
        | _, _, _ => none
    | _ => none
  | _ => none
def isDoc : Expr → Bool
  | .Constant (.str _) _ _ => true
  | _ => false
mutual
def compS (m : Nat) : Nat → Sg → Stmt → Option S
  | 0, _, _ => none
  | n + 1, T, s => match s with
    | .Return v _ => match v with
      | some e => (comp m T e).map .ret
      | none => some (.ret (.k .non))
    | .Assign ts e _ => match ts with
      | [t] => compAsg m T t e
      | _ => none
    | .Expr e _ => if isDoc e then some .pass else if isComp e then none else (comp m T e).map .ex
    | .If t a b _ => match comp m T t, compSs m n T a, compSs m n T b with
      | some x, some y, some z => some (.iff x y z)
      | _, _, _ => none
    | .For tg it b els _ => match els with
      | [] => match compTg 10 T tg, compIt T (comp m T) it, compSs m n T b with
        | some x, some y, some z => if zipTg tg y = true then some (.for_ x y z) else none
        | _, _, _ => none
      | _ => none
    | .While t b els _ => match els with
      | [] => match comp m T t, compSs m n T b with
        | some x, some y => some (.whl x y)
        | _, _ => none
      | _ => none
    | .Pass _ => some .pass
    | .Break _ => some .brk
    | .Continue _ => some .cont
    | .Raise .. => some .bad
    | _ => none
def compSs (m : Nat) : Nat → Sg → List Stmt → Option Ss
  | 0, _, _ => none
  | n + 1, T, ss => match ss with
    | [] => some .nil
    | s :: r => match compS m n T s, compSs m n T r with
      | some a, some b => some (.cons a b)
      | _, _ => none
end
end AW

set_option Elab.async false
set_option linter.all false
set_option maxRecDepth 100000
set_option maxHeartbeats 4000000
/-! Where the tree is worth r, the text gives r: expressions. -/
namespace AW
open PySem PySem.Spec PyProof.Rows L2

theorem bind_ok {α β : Type} {x : Res α} {f : α → Res β} {b : β} : x.bind f = .ok b ↔ ∃ a, x = .ok a ∧ f a = .ok b := by
  cases x with
  | ok a => exact ⟨fun h => ⟨a, rfl, h⟩, fun ⟨a', e, h⟩ => by cases e; exact h⟩
  | exc c p => exact ⟨fun h => (nomatch h), fun ⟨_, e, _⟩ => (nomatch e)⟩
  | no => exact ⟨fun h => (nomatch h), fun ⟨_, e, _⟩ => (nomatch e)⟩
theorem ofO_ok {α : Type} {x : Option α} {a : α} : ofO x = .ok a ↔ x = some a := by
  cases x with
  | none => exact ⟨fun h => (nomatch h), fun h => (nomatch h)⟩
  | some b => exact ⟨fun h => by cases h; rfl, fun h => by cases h; rfl⟩
theorem asInt_ok {v : Val} {i : Int} (h : asInt v = .ok i) : v = .d (.int i) := by
  unfold asInt at h
  split at h <;> cases h
  rfl
theorem asBl_ok {v : Val} {i : Bool} (h : asBl v = .ok i) : v = .d (.bl i) := by
  unfold asBl at h
  split at h <;> cases h
  rfl

theorem bl_ok {β : Type} {x : Res (Val × Env)} {g : Bool → Env → Res β} {b : β} (h : (x.bind fun (v, ρ1) => (asBl v).bind fun c => g c ρ1) = .ok b) : ∃ c ρ1, x = .ok (.d (.bl c), ρ1) ∧ g c ρ1 = .ok b := by
  obtain ⟨⟨v, ρ1⟩, e1, h⟩ := bind_ok.mp h
  obtain ⟨c, e2, h⟩ := bind_ok.mp h
  have ev := asBl_ok e2
  exact ⟨c, ρ1, by rw [e1, ev], h⟩
theorem int_ok {β : Type} {x : Res (Val × Env)} {g : Int → Env → Res β} {b : β} (h : (x.bind fun (v, ρ1) => (asInt v).bind fun c => g c ρ1) = .ok b) : ∃ c ρ1, x = .ok (.d (.int c), ρ1) ∧ g c ρ1 = .ok b := by
  obtain ⟨⟨v, ρ1⟩, e1, h⟩ := bind_ok.mp h
  obtain ⟨c, e2, h⟩ := bind_ok.mp h
  have ev := asInt_ok e2
  exact ⟨c, ρ1, by rw [e1, ev], h⟩

/-! ### what a def keeps -/
def VR0 (K : PySem.W.Frag) (H : Hp) (F : Fr) (v : V) : Val → Prop
  | .d x => DR K H v x
  | .own xs => ∃ a vs, v = .ref a ∧ H a = some (.lst vs) ∧ DRs K H vs xs ∧ ¬ F a
def spF (K : PySem.W.Frag) (ar : Nat) (g : List D → Res Val) : Sp := fun vs H Q _ => ∃ (F : Fr) (ds : List D) (r : Val),
  vs.length = ar ∧ DRs K H vs ds ∧ (∀ a, F a → H a ≠ none) ∧ g ds = .ok r ∧ ∀ v H', Ex F H H' → VR0 K H' F v r → Q v H'
def spG (K : PySem.W.Frag) (ar : Nat) (g : List D → List D → Res (Val × List D)) : Sp := fun vs H Q _ => ∃ (F : Fr) (a : Addr) (us ws : List V) (xs ds : List D) (r : Val) (xs' : List D),
  vs = .ref a :: ws ∧ ws.length = ar ∧ H a = some (.lst us) ∧ DRs K H us xs ∧ ¬ F a ∧ (∀ a, F a → H a ≠ none) ∧ DRs K H ws ds ∧ g xs ds = .ok (r, xs') ∧
  ∀ v H' us', Ex F H H' → H' a = some (.lst us') → DRs K H' us' xs' → VR0 K H' (plus F a) v r → Q v H'
def GOk (X : Cx) (Γ : Gam) (x : Str) : GE → Prop
  | .f id ar => ∃ (fa : Addr) (fd : FuncData) (k : Nat) (ps : List Str), X.mg x = some (.ref fa) ∧ PySem.W.keepIn X.K (.ref fa) = true ∧ FnOk X.prog X.w X.K X.mg X.base CX0 k fa fd ps (spF X.K ar (Γ.f id)) ∧ Binds X.K fd ps [] ∧ Room k X.A
  | .g id ar => ∃ (fa : Addr) (fd : FuncData) (k : Nat) (ps : List Str), X.mg x = some (.ref fa) ∧ PySem.W.keepIn X.K (.ref fa) = true ∧ FnOk X.prog X.w X.K X.mg X.base CX0 k fa fd ps (spG X.K ar (Γ.g id)) ∧ Binds X.K fd ps [] ∧ Room k X.A
  | .c d => ∃ (v : V) (u : Value), X.mg x = some u ∧ RelV v u ∧ ∀ H, DR X.K H v d
  | .bi => X.mg x = none
structure XOk (Γ : Gam) (T : Sg) (X : Cx) : Prop where
  N : X.N = T.N
  sc : X.env.scope = T.sc
  fn : X.fn = T.fn
  nd : X.N.Nodup
  calm : X.calm = true
  nox : X.xe = fun _ _ => False
  room : Room 0 X.A
  g : ∀ x ge, T.G.lookup x = some ge → GOk X Γ x ge

/-! ### readings -/
def tE (K : PySem.W.Frag) (f : Env → Res (Val × Env)) : TE := fun σ H Q => ∃ P F ρ r ρ', Rel K P F ρ σ H ∧ f ρ = .ok (r, ρ') ∧ ∀ v H', Ex F H H' → Rel K P F ρ' σ H' → VR K H' F ρ' σ v r → Q v H'
def tD (K : PySem.W.Frag) (f : Env → Res (Val × Env)) : TE := fun σ H Q => ∃ P F ρ r ρ', Rel K P F ρ σ H ∧ f ρ = .ok (r, ρ') ∧ ∀ v H', Ex F H H' → Rel K P F ρ' σ H' → DR K H' v r.toD → Q v H'
def tPk (K : PySem.W.Frag) (f : Env → Res (PVal × Env)) : TE := fun σ H Q => ∃ P F ρ r ρ', Rel K P F ρ σ H ∧ f ρ = .ok (r, ρ') ∧ ∀ v H', Ex F H H' → Rel K P F ρ' σ H' → PR K H' F ρ' σ v r → Q v H'
def tT (K : PySem.W.Frag) (f : Env → Res (Val × Env)) : TT := fun σ H Q => ∃ P F ρ c ρ', Rel K P F ρ σ H ∧ f ρ = .ok (.d (.bl c), ρ') ∧ ∀ H', Ex F H H' → Rel K P F ρ' σ H' → Q c H'
def tA (K : PySem.W.Frag) (f : Env → Res (List D × Env)) : TA := fun σ H Q => ∃ P F ρ ds ρ', Rel K P F ρ σ H ∧ f ρ = .ok (ds, ρ') ∧ ∀ vs H', Ex F H H' → Rel K P F ρ' σ H' → DRs K H' vs ds → Q vs H'
def tOi (K : PySem.W.Frag) (f : Env → Res (Option Int × Env)) : TO := fun σ H Q => ∃ P F ρ i ρ', Rel K P F ρ σ H ∧ f ρ = .ok (i, ρ') ∧ ∀ H', Ex F H H' → Rel K P F ρ' σ H' → Q i H'
section
variable {X : Cx} {e a b c : Expr} {t t' : TE} {pos : Pos}
theorem _root_.L2.PE.imp (h : PE X e t) (w : ∀ σ H Q, t' σ H Q → t σ H Q) : PE X e t' := ⟨fun pins s σ H Q I q => h.run pins s σ H Q I (w _ _ _ q)⟩
theorem _root_.L2.PT.imp {t t' : TT} (h : PT X e t) (w : ∀ σ H Q, t' σ H Q → t σ H Q) : PT X e t' := ⟨fun pins s σ H Q I q => h.run pins s σ H Q I (w _ _ _ q)⟩
/-- a value is frozen, if it is a list of ours -/
theorem pe_D {f : Env → Res (Val × Env)} (h : PE X e (tE X.K f)) : PE X e (tD X.K f) := by
  refine ⟨fun pins s σ H Q I q => ?_⟩
  obtain ⟨P, F, ρ, r, ρ', R, e, k⟩ := q
  refine thn (h.run pins s σ H (fun v H' => Ex F H H' ∧ Rel X.K P F ρ' σ H' ∧ VR X.K H' F ρ' σ v r) I ⟨P, F, ρ, r, ρ', R, e, fun v H' h1 h2 h3 => ⟨h1, h2, h3⟩⟩) fun u s1 ⟨v, H1, I1, r1, h1, h2, h3⟩ => ?_
  cases r with
  | d x => exact ⟨v, H1, I1, r1, k v H1 h1 h2 h3⟩
  | own xs =>
    obtain ⟨p, vs, rfl, h4, h5, h6, h7⟩ := h3
    obtain ⟨o, I2⟩ := I1.freeze h4
    have x1 : Ex (owned F ρ' σ) H1 (upd H1 p (.frz o (.lst vs))) := Ex.set h4 fun z => z.elim h6 fun ⟨i, m, q⟩ => h7 i m q
    have x2 : Ex F H1 (upd H1 p (.frz o (.lst vs))) := x1.weak fun a f => .inl f
    exact ⟨_, _, I2, r1, k _ _ (h1.trans x2) (h2.ex x1) (.lst ⟨o, upd_same⟩ (DRs.ex x2 h5))⟩
/-- as a test -/
theorem pt_E {f : Env → Res (Val × Env)} (h : PE X e (tE X.K f)) (he : ∀ whole, isTrue e X.env whole = (do let v ← whole; standAt e.pos; holding [v] (truthy v))) : PT X e (tT X.K f) := by
  refine (pt_val h he).imp fun σ H Q q => ?_
  obtain ⟨P, F, ρ, c, ρ', R, e, k⟩ := q
  exact ⟨P, F, ρ, _, ρ', R, e, fun v H' h1 h2 h3 => ⟨c, by cases h3; rfl, k H' h1 h2⟩⟩
theorem pk_E {f : Env → Res (Val × Env)} {c : E} (h : PE X e (tE X.K f)) (hc : ∀ i, c ≠ .v i) : PE X e (tPk X.K (peek c f)) := by
  refine h.imp fun σ H Q q => ?_
  obtain ⟨P, F, ρ, r, ρ', R, e, k⟩ := q
  have e' : ∃ r', f ρ = .ok (r', ρ') ∧ r = .val r' := by
    unfold peek at e
    split at e
    · exact absurd rfl (hc _)
    · cases q : f ρ with
      | ok p => rw [q] at e; obtain ⟨v, ρ2⟩ := p; cases e; exact ⟨v, rfl, rfl⟩
      | exc c p => rw [q] at e; cases e
      | no => rw [q] at e; cases e
  obtain ⟨r', e1, rfl⟩ := e'
  exact ⟨P, F, ρ, r', ρ', R, e1, fun v H' h1 h2 h3 => k v H' h1 h2 h3⟩
end
structure SE (X : Cx) (Γ : Gam) (e : Expr) (c : E) : Prop where
  pe : PE X e (tE X.K (ev Γ c))
  pk : PE X e (tPk X.K (peek c (ev Γ c)))
  pt : PT X e (tT X.K (ev Γ c))
  ns : isStar e = false
theorem SE.pd {X : Cx} {Γ : Gam} {e : Expr} {c : E} (h : SE X Γ e c) : PE X e (tD X.K (ev Γ c)) := pe_D h.pe
section
variable {X : Cx} {Γ : Gam} {T : Sg} {pos : Pos}
theorem se_plain {e : Expr} {c : E} (h : PE X e (tE X.K (ev Γ c))) (hc : ∀ i, c ≠ .v i) (ns : isStar e = false)
    (he : ∀ whole, isTrue e X.env whole = (do let v ← whole; standAt e.pos; holding [v] (truthy v))) : SE X Γ e c := ⟨h, pk_E h hc, pt_E h he, ns⟩
theorem star_cons {e : Expr} {es : List Expr} {env : PySem.Env} (h : isStar e = false) : starEach (e :: es) env = (false, eval e env) :: starEach es env := by
  cases e <;> first | rfl | (unfold isStar at h; cases h)
theorem star_none {pos : Pos} {env : PySem.Env} : ∀ {es : List Expr}, (∀ e ∈ es, isStar e = false) → (backTo pos (starEach es env)).any (·.1) = false
  | [], _ => rfl
  | e :: es, h => by
    rw [star_cons (h e List.mem_cons_self)]
    show (false || (backTo pos (starEach es env)).any (·.1)) = false
    rw [star_none (es := es) fun x hx => h x (List.mem_cons_of_mem _ hx)]
    rfl
theorem isVis_vis {sc : Scope} {x : Str} (h : isVis (sc.names.lookup x) = true) : Vis sc x := by
  unfold isVis at h
  split at h <;> first | (cases h; done) | skip
  · rename_i e; exact .inl e
  · rename_i e; exact .inr (.inl e)
  · rename_i e; exact .inr (.inr e)
theorem okN_d {x : Str} (h : okN x = true) : (x == ("__debug__" : Str)) = false ∧ (x == ("__classdict__" : Str)) = false := by
  unfold okN at h
  rw [Bool.and_eq_true, Bool.not_eq_true', Bool.not_eq_true'] at h
  exact h
theorem ix_facts (ok : XOk Γ T X) {x : Str} {i : Nat} (h : T.ix x = some i) : X.N[i]? = some x ∧ Vis X.env.scope x ∧ (x == ("__debug__" : Str)) = false ∧ (x == ("__classdict__" : Str)) = false := by
  unfold Sg.ix at h
  split at h
  · rename_i hh
    rw [Bool.and_eq_true] at hh
    obtain ⟨h1, h2⟩ := okN_d hh.2
    refine ⟨by rw [ok.N]; exact pos?_at h, ?_, h1, h2⟩
    rw [ok.sc]
    exact isVis_vis hh.1
  · cases h
theorem gl_facts (ok : XOk Γ T X) {x : Str} {ge : GE} (h : T.gl x = some ge) : Gl X x ∧ GOk X Γ x ge ∧ (x == ("__debug__" : Str)) = false := by
  unfold Sg.gl at h
  split at h
  · rename_i hh
    rw [Bool.and_eq_true] at hh
    refine ⟨?_, ok.g x ge h, (okN_d hh.2).1⟩
    show X.env.scope.names.lookup x = some .globalImplicit
    rw [ok.sc]
    have := hh.1
    unfold isGlob Sg.kind at this
    split at this <;> first | (cases this; done) | assumption
  · cases h
theorem bi_facts (ok : XOk Γ T X) {x : Str} (h : T.bi x = true) : Gl X x ∧ X.mg x = none ∧ (x == ("__debug__" : Str)) = false := by
  unfold Sg.bi at h
  split at h
  · rename_i e
    exact gl_facts ok e
  · cases h

/-- a name's reading -/
theorem se_v (ok : XOk Γ T X) {x : Str} {i : Nat} (h : T.ix x = some i) : SE X Γ (.Name x pos) (.v i) := by
  obtain ⟨h1, h2, h3, h4⟩ := ix_facts ok h
  have base : PE X (.Name x pos) (tVar i) := pe_var h1 h2 h3 h4
  have pe : PE X (.Name x pos) (tE X.K (ev Γ (.v i))) := by
    refine ⟨fun pins s σ H Q I q => ?_⟩
    obtain ⟨P, F, ρ, r, ρ', R, e, k⟩ := q
    have e : rd ρ i = .ok (r, ρ') := e
    unfold rd at e
    cases q : getS ρ i with
    | none => rw [q] at e; cases e
    | some sl =>
      rw [q] at e
      obtain ⟨w, h5, h6⟩ := R.sl i sl q
      cases sl with
      | d y => cases e; exact base.run pins s σ H Q I ⟨w, h5, k w H (.refl H) R h6⟩
      | own xs =>
        cases e
        obtain ⟨p, vs, rfl, h7, h8⟩ := h6
        refine thn (base.run pins s σ H (fun v H' => v = .ref p ∧ H' = H) I ⟨_, h5, rfl, rfl⟩) fun u s1 ⟨v, H1, I1, r1, ev, eH⟩ => ?_
        subst ev eH
        obtain ⟨o, I2⟩ := I1.freeze h7
        have R2 := R.freeze (o := o) q h5 h7 h8
        have x2 : Ex F H1 (upd H1 p (.frz o (.lst vs))) := Ex.set h7 (R.nf i p (.inl ⟨xs, q⟩) h5)
        exact ⟨_, _, I2, r1, k _ _ x2 R2 (.lst ⟨o, upd_same⟩ (DRs.ex x2 h8))⟩
      | lk xs => cases e
      | io xs => cases e
  refine ⟨pe, ?_, pt_E pe fun _ => rfl, rfl⟩
  refine base.imp fun σ H Q q => ?_
  obtain ⟨P, F, ρ, r, ρ', R, e, k⟩ := q
  unfold peek at e
  dsimp only at e
  split at e
  · rename_i th
    cases e
    unfold there at th
    cases q : getS ρ i with
    | none => rw [q] at th; cases th
    | some sl =>
      obtain ⟨w, h5, _⟩ := R.sl i sl q
      exact ⟨w, h5, k w H (.refl H) R h5⟩
  · cases e
theorem se_k {cc : Const} {j : Nat} {d : D} (h : constD cc = some d) : SE X Γ (.Constant cc j pos) (.k d) := by
  refine se_plain (c := .k d) ?_ (fun i z => by cases z) rfl (fun _ => rfl)
  have go : ∀ (v : V), (∀ H, DR X.K H v d) → PE X (.Constant cc j pos) (tC v) → PE X (.Constant cc j pos) (tE X.K (ev Γ (.k d))) := fun v hv h => by
    refine h.imp fun σ H Q q => ?_
    obtain ⟨P, F, ρ, r, ρ', R, e, k⟩ := q
    cases e
    exact k v H (.refl H) R (hv H)
  unfold constD at h
  split at h
  · cases h; exact go _ (fun _ => .non) pe_non
  · cases h; exact go _ (fun _ => .bl _) pe_bl
  · cases h; exact go _ (fun _ => .int _) pe_int
  · split at h
    · rename_i hs; cases h; exact go _ (fun _ => .str _ hs) pe_str
    · cases h
  · cases h
theorem se_gc (ok : XOk Γ T X) {x : Str} {d : D} (h : T.gl x = some (.c d)) : SE X Γ (.Name x pos) (.gc d) := by
  refine se_plain (c := .gc d) ?_ (fun i z => by cases z) rfl (fun _ => rfl)
  obtain ⟨h1, ⟨v, u, h2, h3, h4⟩, h5⟩ := gl_facts ok h
  refine (pe_glob h1 h2 h3 h5).imp fun σ H Q q => ?_
  obtain ⟨P, F, ρ, r, ρ', R, e, k⟩ := q
  cases e
  exact k v H (.refl H) R (h4 H)

/-! ### lists of expressions -/
theorem sa_L {f : Expr → Option E} (hf : ∀ e c, f e = some c → SE X Γ e c) : ∀ {es : List Expr} {cs : Es}, compL f es = some cs → PA X es (tA X.K (evs Γ cs)) ∧ ∀ e ∈ es, isStar e = false
  | [], _, h => by
    cases h
    refine ⟨⟨fun pos pins s σ H Q I q => ?_⟩, fun _ h => (nomatch h)⟩
    obtain ⟨P, F, ρ, ds, ρ', R, e, k⟩ := q
    cases e
    exact (pa_nil (X := X)).run pos pins s σ H Q I (k [] H (.refl H) R .nil)
  | e :: es, cs, h => by
    unfold compL at h
    split at h
    · rename_i a b h1 h2
      cases h
      have he := hf e a h1
      obtain ⟨hr, hs⟩ := sa_L hf h2
      refine ⟨⟨fun pos pins s σ H Q I q => ?_⟩, fun x hx => ?_⟩
      · obtain ⟨P, F, ρ, ds, ρ', R, e1, k⟩ := q
        refine (pa_cons he.pd hr (star_cons he.ns)).run pos pins s σ H Q I ?_
        obtain ⟨⟨v, ρ1⟩, e2, e3⟩ := bind_ok.mp e1
        obtain ⟨⟨ds', ρ2⟩, e4, e5⟩ := bind_ok.mp e3
        cases e5
        refine ⟨P, F, ρ, v, ρ1, R, e2, fun w H1 x1 R1 d1 => ⟨P, F, ρ1, ds', _, R1, e4, fun ws H2 x2 R2 d2 => ?_⟩⟩
        exact k _ _ (x1.trans x2) R2 (.cons (DR.ex x2 d1) d2)
      · rcases List.mem_cons.mp hx with rfl | hx
        · exact he.ns
        · exact hs x hx
    · cases h
theorem compL_len {f : Expr → Option E} : ∀ {es : List Expr} {cs : Es}, compL f es = some cs → ∀ {ρ : Env} {ds : List D} {ρ' : Env}, evs Γ cs ρ = .ok (ds, ρ') → ds.length = es.length
  | [], _, h, ρ, ds, ρ', e => by cases h; cases e; rfl
  | e :: es, cs, h, ρ, ds, ρ', e1 => by
    unfold compL at h
    split at h
    · cases h
      rename_i a b h1 h2
      obtain ⟨⟨v, ρ1⟩, e2, e3⟩ := bind_ok.mp e1
      obtain ⟨⟨ds', ρ2⟩, e4, e5⟩ := bind_ok.mp e3
      cases e5
      rw [List.length_cons, List.length_cons, compL_len h2 e4]
    · cases h
theorem se_tup {es : List Expr} {cs : Es} {j : Nat} (ha : PA X es (tA X.K (evs Γ cs))) (hl : es.length ≤ 1000) (hlen : ∀ {ρ : Env} {ds : List D} {ρ' : Env}, evs Γ cs ρ = .ok (ds, ρ') → ds.length = es.length) : SE X Γ (.Tuple es j pos) (.tup cs) := by
  refine se_plain (c := .tup cs) ?_ (fun i z => by cases z) rfl (fun _ => rfl)
  refine (pe_tup ha).imp fun σ H Q q => ?_
  obtain ⟨P, F, ρ, r, ρ', R, e, k⟩ := q
  obtain ⟨⟨ds, ρ1⟩, e2, e3⟩ := bind_ok.mp e
  cases e3
  refine ⟨P, F, ρ, ds, ρ', R, e2, fun vs H1 x1 R1 d1 => ⟨?_, fun p hp => ?_⟩⟩
  · have := hlen e2
    have := d1.len
    have hs := sizeLine_eq
    omega
  · have n := NewR.tup hp d1
    obtain ⟨R2, v2⟩ := n.rel R1
    exact k _ _ (x1.trans (n.1 F)) R2 v2
theorem se_lst {es : List Expr} {cs : Es} (ha : PA X es (tA X.K (evs Γ cs))) (hl : es.length ≤ 1000) (hlen : ∀ {ρ : Env} {ds : List D} {ρ' : Env}, evs Γ cs ρ = .ok (ds, ρ') → ds.length = es.length) : SE X Γ (.List es pos) (.lst cs) := by
  refine se_plain (c := .lst cs) ?_ (fun i z => by cases z) rfl (fun _ => rfl)
  refine (pe_lst ha).imp fun σ H Q q => ?_
  obtain ⟨P, F, ρ, r, ρ', R, e, k⟩ := q
  obtain ⟨⟨ds, ρ1⟩, e2, e3⟩ := bind_ok.mp e
  cases e3
  refine ⟨P, F, ρ, ds, ρ', R, e2, fun vs H1 x1 R1 d1 => ⟨?_, fun p hp => ?_⟩⟩
  · have := hlen e2
    have := d1.len
    have hs := sizeLine_eq
    omega
  · have n := NewR.lst hp d1
    obtain ⟨R2, v2⟩ := n.rel R1
    exact k _ _ (x1.trans (n.1 F)) R2 v2

/-! ### operators -/
theorem two_pk {a b : Expr} {ca cb : E} (ha : SE X Γ a ca) (hb : SE X Γ b cb) {σ : L2.St} {H : Hp} {P : Pins} {F : Fr} {ρ : Env} {x y : D} {p q : PVal} {ρ1 ρ2 : Env} {R2' : V → V → Hp → Prop}
    (R : Rel X.K P F ρ σ H) (e1 : peek ca (ev Γ ca) ρ = .ok (p, ρ1)) (e2 : peek cb (ev Γ cb) ρ1 = .ok (q, ρ2)) (e3 : view ρ2 p = .ok x) (e4 : view ρ2 q = .ok y)
    (k : ∀ v u H2, Ex F H H2 → Rel X.K P F ρ2 σ H2 → VW X.K H2 v x → VW X.K H2 u y → R2' v u H2) :
    tPk X.K (peek ca (ev Γ ca)) σ H fun v H1 => tPk X.K (peek cb (ev Γ cb)) σ H1 fun u H2 => R2' v u H2 := by
  refine ⟨P, F, ρ, p, ρ1, R, e1, fun v H1 x1 R1 p1 => ⟨P, hold F v p, ρ1, q, ρ2, R1.held p1, e2, fun u H2 x2 R2 p2 => ?_⟩⟩
  refine k v u H2 (x1.trans (x2.weak (hold_le F v p))) (R2.shrink (hold_le F v p) R.lkF) (VW.held p1 x2 R2 e3) ?_
  cases q with
  | var i => exact VW.of_slot R2 p2 e4
  | val r =>
    cases r with
    | d z => cases e4; exact .inl p2
    | own xs => cases e4; obtain ⟨a, vs, rfl, h1, h2, _⟩ := p2; exact .inr ⟨a, vs, xs, rfl, rfl, .inl h1, h2⟩
theorem se_bin {a b : Expr} {ca cb : E} {op : Operator} (ha : SE X Γ a ca) (hb : SE X Γ b cb) : SE X Γ (.BinOp a op b pos) (.bin op ca cb) := by
  refine se_plain (c := .bin op ca cb) ?_ (fun i z => by cases z) rfl (fun _ => rfl)
  refine (pe_op (op_binD op) ha.pk hb.pk).imp fun σ H Q q => ?_
  obtain ⟨P, F, ρ, r, ρ', R, e, k⟩ := q
  obtain ⟨⟨p, ρ1⟩, e1, e⟩ := bind_ok.mp e
  obtain ⟨⟨q, ρ2⟩, e2, e⟩ := bind_ok.mp e
  obtain ⟨x, e3, e⟩ := bind_ok.mp e
  obtain ⟨y, e4, e⟩ := bind_ok.mp e
  obtain ⟨z, e5, e⟩ := bind_ok.mp e
  cases e
  refine two_pk (R2' := fun v u H2 => rBin X.K op v u H2 Q) ha hb R e1 e2 e3 e4 fun v u H2 x R2 w1 w2 => ⟨_, _, _, w1, w2, ofO_ok.mp e5, fun w H3 n => ?_⟩
  obtain ⟨R3, v3⟩ := n.rel R2
  exact k _ _ (x.trans (n.1 F)) R3 v3
theorem se_cmp {a b : Expr} {ca cb : E} {op : CmpOp} (hr : Room 0 X.A) (hs : isSet b = false) (ha : SE X Γ a ca) (hb : SE X Γ b cb) : SE X Γ (.Compare a [op] [b] pos) (.cmp op ca cb) := by
  have hm : behindInMarks op b = false := by cases b <;> first | rfl | (unfold isSet at hs; cases hs)
  have pe : PE X (.Compare a [op] [b] pos) (tE X.K (ev Γ (.cmp op ca cb))) := by
    refine (pe_cmpR (op_cmpD hr op) ha.pk hb.pk hm).imp fun σ H Q q => ?_
    obtain ⟨P, F, ρ, r, ρ', R, e, k⟩ := q
    obtain ⟨⟨p, ρ1⟩, e1, e⟩ := bind_ok.mp e
    obtain ⟨⟨q, ρ2⟩, e2, e⟩ := bind_ok.mp e
    obtain ⟨x, e3, e⟩ := bind_ok.mp e
    obtain ⟨y, e4, e⟩ := bind_ok.mp e
    obtain ⟨z, e5, e⟩ := bind_ok.mp e
    cases e
    exact two_pk (R2' := fun v u H2 => rCmp X.K op v u H2 Q) ha hb R e1 e2 e3 e4 fun v u H2 x R2 w1 w2 => ⟨_, _, _, w1, w2, ofO_ok.mp e5, k _ _ x R2 (.bl _)⟩
  refine ⟨pe, pk_E pe (fun i z => by cases z), ?_, rfl⟩
  refine (pt_cmpR (op_cmpD hr op) ha.pk hb.pk hm).imp fun σ H Q q => ?_
  obtain ⟨P, F, ρ, r, ρ', R, e, k⟩ := q
  obtain ⟨⟨p, ρ1⟩, e1, e⟩ := bind_ok.mp e
  obtain ⟨⟨q, ρ2⟩, e2, e⟩ := bind_ok.mp e
  obtain ⟨x, e3, e⟩ := bind_ok.mp e
  obtain ⟨y, e4, e⟩ := bind_ok.mp e
  obtain ⟨z, e5, e⟩ := bind_ok.mp e
  cases e
  exact two_pk (R2' := fun v u H2 => rCmp X.K op v u H2 (fun x H' => ∃ k, x = .bl k ∧ Q k H')) ha hb R e1 e2 e3 e4 fun v u H2 x R2 w1 w2 => ⟨_, _, _, w1, w2, ofO_ok.mp e5, _, rfl, k _ x R2⟩
theorem last_no {b c : Expr} {op op2 : CmpOp} (hs : isSet c = false) : lastMarks [op, op2] [b, c] = false := by
  cases c <;> first | rfl | (unfold isSet at hs; cases hs)
theorem se_chain {a b c : Expr} {ca cb cc : E} {op op2 : CmpOp} (hr : Room 0 X.A) (hs : isSet c = false) (ha : SE X Γ a ca) (hb : SE X Γ b cb) (hc : SE X Γ c cc) : SE X Γ (.Compare a [op, op2] [b, c] pos) (.chain op op2 ca cb cc) := by
  have key : ∀ {σ : L2.St} {H : Hp} {Q : VK}, tE X.K (ev Γ (.chain op op2 ca cb cc)) σ H Q → tChain (rCmp X.K op) (rCmp X.K op2) (tD X.K (ev Γ ca)) (tD X.K (ev Γ cb)) (tD X.K (ev Γ cc)) σ H Q := fun {σ H Q} q => by
    obtain ⟨P, F, ρ, r, ρ', R, e, k⟩ := q
    obtain ⟨⟨v1, ρ1⟩, e1, e⟩ := bind_ok.mp e
    obtain ⟨⟨v2, ρ2⟩, e2, e⟩ := bind_ok.mp e
    obtain ⟨z, e3, e⟩ := bind_ok.mp e
    refine ⟨P, F, ρ, v1, ρ1, R, e1, fun w1 H1 x1 R1 d1 => ⟨P, F, ρ1, v2, ρ2, R1, e2, fun w2 H2 x2 R2 d2 => ⟨_, _, z, .inl (DR.ex x2 d1), .inl d2, ofO_ok.mp e3, z, rfl, ?_⟩⟩⟩
    cases z with
    | true =>
      rw [if_pos rfl]
      dsimp only at e
      rw [if_pos rfl] at e
      obtain ⟨⟨v3, ρ3⟩, e4, e⟩ := bind_ok.mp e
      obtain ⟨z2, e5, e⟩ := bind_ok.mp e
      cases e
      exact ⟨P, F, ρ2, v3, _, R2, e4, fun w3 H3 x3 R3 d3 => ⟨_, _, z2, .inl (DR.ex x3 d2), .inl d3, ofO_ok.mp e5, k _ _ (x1.trans (x2.trans x3)) R3 (.bl _)⟩⟩
    | false =>
      rw [if_neg Bool.false_ne_true]
      dsimp only at e
      rw [if_neg Bool.false_ne_true] at e
      cases e
      exact k _ _ (x1.trans x2) R2 (.bl _)
  have pe : PE X (.Compare a [op, op2] [b, c] pos) (tE X.K (ev Γ (.chain op op2 ca cb cc))) :=
    (pe_chain (op_cmpD hr op) (op_cmpD hr op2) ha.pd hb.pd hc.pd (last_no hs)).imp fun σ H Q q => key q
  refine ⟨pe, pk_E pe (fun i z => by cases z), ?_, rfl⟩
  refine (pt_chain (op_cmpD hr op) (op_cmpD hr op2) ha.pd hb.pd hc.pd (last_no hs)).imp fun σ H Q q => ?_
  obtain ⟨P, F, ρ, r, ρ', R, e, k⟩ := q
  exact key (Q := fun x H' => ∃ k, x = .bl k ∧ Q k H') ⟨P, F, ρ, _, ρ', R, e, fun v H' x1 R1 d1 => ⟨r, by cases d1; rfl, k H' x1 R1⟩⟩
theorem se_neg {a : Expr} {ca : E} (ha : SE X Γ a ca) : SE X Γ (.UnaryOp .USub a pos) (.neg ca) := by
  refine se_plain (c := .neg ca) ?_ (fun i z => by cases z) rfl (fun _ => rfl)
  refine (pe_un un_neg ha.pe).imp fun σ H Q q => ?_
  obtain ⟨P, F, ρ, r, ρ', R, e, k⟩ := q
  obtain ⟨i, ρ1, e1, e⟩ := int_ok (x := ev Γ ca ρ) (g := fun i ρ1 => .ok (Val.d (.int (-i)), ρ1)) e
  cases e
  exact ⟨P, F, ρ, _, _, R, e1, fun w H1 x1 R1 d1 => ⟨i, by cases d1; rfl, k _ _ x1 R1 (.int _)⟩⟩
theorem se_not {a : Expr} {ca : E} (ha : SE X Γ a ca) : SE X Γ (.UnaryOp .Not a pos) (.not ca) := by
  have pe : PE X (.UnaryOp .Not a pos) (tE X.K (ev Γ (.not ca))) := by
    refine (pe_not ha.pe).imp fun σ H Q q => ?_
    obtain ⟨P, F, ρ, r, ρ', R, e, k⟩ := q
    obtain ⟨i, ρ1, e1, e⟩ := bl_ok (x := ev Γ ca ρ) (g := fun c ρ1 => .ok (Val.d (.bl (!c)), ρ1)) e
    cases e
    exact ⟨P, F, ρ, _, _, R, e1, fun w H1 x1 R1 d1 => ⟨i, by cases d1; rfl, k _ _ x1 R1 (.bl _)⟩⟩
  refine ⟨pe, pk_E pe (fun i z => by cases z), ?_, rfl⟩
  refine (pt_not ha.pt).imp fun σ H Q q => ?_
  obtain ⟨P, F, ρ, r, ρ', R, e, k⟩ := q
  obtain ⟨i, ρ1, e1, e⟩ := bl_ok (x := ev Γ ca ρ) (g := fun c ρ1 => .ok (Val.d (.bl (!c)), ρ1)) e
  cases e
  exact ⟨P, F, ρ, _, _, R, e1, fun H1 x1 R1 => k _ x1 R1⟩
theorem se_ife {t a b : Expr} {ct ca cb : E} (ht : SE X Γ t ct) (ha : SE X Γ a ca) (hb : SE X Γ b cb) : SE X Γ (.IfExp t a b pos) (.ife ct ca cb) := by
  have pe : PE X (.IfExp t a b pos) (tE X.K (ev Γ (.ife ct ca cb))) := by
    refine (pe_ifExp ht.pt ha.pe hb.pe).imp fun σ H Q q => ?_
    obtain ⟨P, F, ρ, r, ρ', R, e, k⟩ := q
    obtain ⟨i, ρ1, e1, e⟩ := bl_ok (x := ev Γ ct ρ) (g := fun c ρ1 => if c = true then ev Γ ca ρ1 else ev Γ cb ρ1) e
    refine ⟨P, F, ρ, i, ρ1, R, e1, fun H1 x1 R1 => ?_⟩
    cases i with
    | true => rw [if_pos rfl] at e ⊢; exact ⟨P, F, ρ1, r, ρ', R1, e, fun w H2 x2 R2 v2 => k _ _ (x1.trans x2) R2 v2⟩
    | false => rw [if_neg Bool.false_ne_true] at e ⊢; exact ⟨P, F, ρ1, r, ρ', R1, e, fun w H2 x2 R2 v2 => k _ _ (x1.trans x2) R2 v2⟩
  refine ⟨pe, pk_E pe (fun i z => by cases z), ⟨fun pins s σ H Q I q => ?_⟩, rfl⟩
  obtain ⟨P, F, ρ, r, ρ', R, e, k⟩ := q
  obtain ⟨i, ρ1, e1, e⟩ := bl_ok (x := ev Γ ct ρ) (g := fun c ρ1 => if c = true then ev Γ ca ρ1 else ev Γ cb ρ1) e
  unfold PySem.isTrue
  refine wpAny_bind (thn (ht.pt.run pins s σ H (fun b H1 => b = i ∧ Ex F H H1 ∧ Rel X.K P F ρ1 σ H1) I ⟨P, F, ρ, i, ρ1, R, e1, fun H1 x1 R1 => ⟨rfl, x1, R1⟩⟩) fun b s1 ⟨H1, I1, eb, x1, R1⟩ => ?_)
  subst eb
  cases b with
  | true => rw [if_pos rfl] at e ⊢; exact ha.pt.run pins s1 σ H1 Q I1 ⟨P, F, ρ1, r, ρ', R1, e, fun H2 x2 R2 => k _ (x1.trans x2) R2⟩
  | false => rw [if_neg Bool.false_ne_true] at e ⊢; exact hb.pt.run pins s1 σ H1 Q I1 ⟨P, F, ρ1, r, ρ', R1, e, fun H2 x2 R2 => k _ (x1.trans x2) R2⟩
/-- and, or -/
theorem se_bool {f : Expr → Option E} {op : BoolOp} (hf : ∀ e c, f e = some c → SE X Γ e c) : ∀ {es : List Expr} {c : E}, compB f op es = some c → PE X (.BoolOp op es pos) (tE X.K (ev Γ c)) ∧ PW X (.BoolOp op es pos) (tT X.K (ev Γ c)) ∧ (2 ≤ es.length → ∀ i, c ≠ .v i)
  | [], _, h => by cases h
  | [e], c, h => by
    have he := hf e c h
    refine ⟨pe_one he.pe, ?_, fun h => by simp at h⟩
    cases op with
    | And => exact pw_and1 he.pt
    | Or => exact pw_or1 he.pt
  | e :: e2 :: r, c, h => by
    unfold compB at h
    split at h
    · rename_i a b h1 h2
      cases h
      have he := hf e a h1
      obtain ⟨hr, hw, _⟩ := se_bool hf h2
      cases op with
      | And =>
        refine ⟨(pe_and he.pe hr).imp fun σ H Q q => ?_, ⟨fun wh pins s σ H Q I q => (pw_and he.pt hw).run wh pins s σ H Q I ?_⟩, fun _ i z => by cases z⟩
        · obtain ⟨P, F, ρ, r, ρ', R, e, k⟩ := q
          obtain ⟨i, ρ1, e1, e⟩ := bl_ok (x := ev Γ a ρ) (g := fun c ρ1 => if c = true then ev Γ b ρ1 else .ok (Val.d (.bl false), ρ1)) e
          refine ⟨P, F, ρ, _, ρ1, R, e1, fun w H1 x1 R1 d1 => ⟨i, by cases d1; rfl, ?_⟩⟩
          cases i with
          | true => rw [if_pos rfl] at e ⊢; exact ⟨P, F, ρ1, r, ρ', R1, e, fun w H2 x2 R2 v2 => k _ _ (x1.trans x2) R2 v2⟩
          | false => rw [if_neg Bool.false_ne_true] at e ⊢; cases e; exact k _ _ x1 R1 (.bl _)
        · obtain ⟨P, F, ρ, r, ρ', R, e, k⟩ := q
          obtain ⟨i, ρ1, e1, e⟩ := bl_ok (x := ev Γ a ρ) (g := fun c ρ1 => if c = true then ev Γ b ρ1 else .ok (Val.d (.bl false), ρ1)) e
          refine ⟨P, F, ρ, i, ρ1, R, e1, fun H1 x1 R1 => ?_⟩
          cases i with
          | true => rw [if_pos rfl] at e ⊢; exact ⟨P, F, ρ1, r, ρ', R1, e, fun H2 x2 R2 => k _ (x1.trans x2) R2⟩
          | false => rw [if_neg Bool.false_ne_true] at e ⊢; cases e; exact k _ x1 R1
      | Or =>
        refine ⟨(pe_or he.pe hr).imp fun σ H Q q => ?_, ⟨fun wh pins s σ H Q I q => (pw_or he.pt hw).run wh pins s σ H Q I ?_⟩, fun _ i z => by cases z⟩
        · obtain ⟨P, F, ρ, r, ρ', R, e, k⟩ := q
          obtain ⟨i, ρ1, e1, e⟩ := bl_ok (x := ev Γ a ρ) (g := fun c ρ1 => if c = true then .ok (Val.d (.bl true), ρ1) else ev Γ b ρ1) e
          refine ⟨P, F, ρ, _, ρ1, R, e1, fun w H1 x1 R1 d1 => ⟨i, by cases d1; rfl, ?_⟩⟩
          cases i with
          | false => rw [if_neg Bool.false_ne_true] at e ⊢; exact ⟨P, F, ρ1, r, ρ', R1, e, fun w H2 x2 R2 v2 => k _ _ (x1.trans x2) R2 v2⟩
          | true => rw [if_pos rfl] at e ⊢; cases e; exact k _ _ x1 R1 (.bl _)
        · obtain ⟨P, F, ρ, r, ρ', R, e, k⟩ := q
          obtain ⟨i, ρ1, e1, e⟩ := bl_ok (x := ev Γ a ρ) (g := fun c ρ1 => if c = true then .ok (Val.d (.bl true), ρ1) else ev Γ b ρ1) e
          refine ⟨P, F, ρ, i, ρ1, R, e1, fun H1 x1 R1 => ?_⟩
          cases i with
          | false => rw [if_neg Bool.false_ne_true] at e ⊢; exact ⟨P, F, ρ1, r, ρ', R1, e, fun H2 x2 R2 => k _ (x1.trans x2) R2⟩
          | true => rw [if_pos rfl] at e ⊢; cases e; exact k _ x1 R1
    · cases h
end
end AW

set_option Elab.async false
set_option linter.all false
set_option maxRecDepth 100000
set_option maxHeartbeats 4000000
/-! sorted of data. -/
namespace PySem.W
open PySem PySem.Calls PyProof.Rows
section
variable {prog : Program} {w : World} {A : Around} {s : Shared} {E : Value → Shared → Prop} {β : Type} {R : Value → β → Prop} {enc : β → PyData} {vs : List Value} {bs : List β}
theorem collect_tuple {l : Addr} {vs : List Value} {Q : List Value → Shared → Prop} (hl : s.heap.IsTuple l vs.toArray)
    (h : Q vs { s with heap := (s.heap.push (seqObj "list" #[] 0)).update s.heap.objs.size (Obj.mapSeq (· ++ vs.toArray)) }) (hsz : vs.length ≤ sizeLine) :
    wpAny (model prog w) A (collect (.ref l)) Q E s := by
  obtain ⟨o, ho, hc, n, hd⟩ := id hl
  unfold collect
  refine wpAny_bind (wpAny_runValue (codeAny_builtin entry_proto_collect' ?_))
  show wpAny _ _ (do again (.builtin "list.__iadd__" ⟨[← newList [], .ref l], []⟩)) _ _ s
  refine wpAny_bind (wpAny_newList (wpAny_pure ⟨Code.quiet_builtin _ (by decide +kernel), codeAny_builtin entry_list_iadd' ?_⟩))
  show wpAny _ _ (Builtin.List.listExtendWith (.ref s.heap.objs.size) (.ref l) (.ref s.heap.objs.size)) _ _ { s with heap := s.heap.push (seqObj "list" #[] 0) }
  unfold Builtin.List.listExtendWith
  have ho' : (s.heap.push (seqObj "list" #[] 0)).get? l = some o := Heap.get?_push_of_some _ ho
  refine wpAny_bind (wpAny_typeOf (T := "tuple") ⟨o, ho', hc⟩ ?_)
  have ht : (Value.type "tuple" == Value.type "tuple") = true := by rfl
  rw [if_pos (by rw [ht]; simp)]
  refine wpAny_bind (listItems_at ho' hd ?_)
  refine wpAny_bind (listItems_at (xs := #[]) (n := 0) (Heap.get?_push_size _ rfl) rfl ?_)
  rw [if_neg (by simp)]
  refine wpAny_bind (listUpdate_at (xs := #[]) (n := 0) (Heap.get?_push_size _ rfl) rfl ?_ (Nat.zero_le _) (by show (#[] ++ vs.toArray).size ≤ sizeLine + 1; simp only [Array.size_append, List.size_toArray, List.length_nil]; omega))
  refine wpAny_pure ?_
  show wpAny (model prog w) A (do
      let o ← load s.heap.objs.size
      match o.data with
      | .seq xs _ => pure xs.toList
      | _ => unsupported "internal:collect") Q E { s with heap := (s.heap.push (seqObj "list" #[] 0)).update s.heap.objs.size (Obj.mapSeq (· ++ vs.toArray)) }
  refine wpAny_bind (wpAny_load (get?_update_seq (Heap.get?_push_size _ rfl) _) ?_)
  show wpAny _ _ (pure ((#[] : Array Value) ++ vs.toArray).toList) Q E _
  rw [show ((#[] : Array Value) ++ vs.toArray).toList = vs by simp]
  exact wpAny_pure h
theorem sorted_of_sortT {l : Addr} {vs : List Value} {kw : List (Str × Value)} {Q : Value → Shared → Prop} (hl : s.heap.IsTuple l vs.toArray) (hL : vs.length ≤ sizeLine) (ha1 : argsOk "sorted" ⟨[.ref l], kw⟩) (ha2 : ∀ x, argsOk "list.sort" ⟨[.ref x], kw⟩)
    (body : ∀ E' : Value → Shared → Prop, wpAny (model prog w) A.in1.in1 (Builtin.«list.sort» ⟨[.ref (s.heap.objs.size + 1)], kw⟩) (fun f s' => f = .done (.ret .none) ∧ Q (.ref (s.heap.objs.size + 1)) s') E' { s with heap := copyHeap s.heap vs }) :
    wpAny (model prog w) A (call (.builtin "sorted") [.ref l] kw) Q E s := by
  refine call_function_entry_kw kind_sorted plain_sorted entry_sorted ha1 ?_
  unfold Builtin.«sorted»
  refine wpAny_bind (m := checkCount "sorted" 1 1 _) (wpAny_pure ?_)
  refine wpAny_bind (collect_tuple hl ?_ hL)
  refine wpAny_bind (wpAny_newList ?_ hL)
  have hsz : ((s.heap.push (seqObj "list" #[] 0)).update s.heap.objs.size (Obj.mapSeq (· ++ vs.toArray))).objs.size = s.heap.objs.size + 1 := by
    rw [Heap.size_update, size_push']
  show wpAny _ _ _ _ _ { s with heap := copyHeap s.heap vs }
  rw [hsz]
  refine wpAny_bind (wpAny_holding (wpAny_call_entry_kw slot_list_sort ⟨_, copyHeap_at s.heap vs, rfl⟩ entry_list_sort ?body (ha2 _)))
  case body =>
    show wpAny (model prog w) A.in1.in1 (Builtin.«list.sort» ⟨[.ref (s.heap.objs.size + 1)], kw⟩) _ _ _
    refine wpAny_mono (body _) (fun f s' hf => ?_) fun _ _ e => e
    obtain ⟨rfl, hq⟩ := hf
    exact ⟨_, rfl, wpAny_pure ⟨_, rfl, hq⟩⟩
theorem sorted_dataT {l : Addr} {Q : Value → Shared → Prop} (hl : s.heap.IsTuple l vs.toArray) (e : EachIs R vs bs) (er : EachIs (fun v b => ∃ as, Reads s.heap v (enc b) as) vs bs) (hal : AllAlike (bs.map enc)) (hk : Sortable (bs.map enc)) (hL : bs.length ≤ sizeLine)
    (hu : ∀ b, b ∈ bs → A.units + 2 + (enc b).depth < cLine) (h : ∀ out, out.length = bs.length → EachIs R out (bs.mergeSort (dataLe false enc)) → Q (.ref (s.heap.objs.size + 1)) { s with heap := sortedAll s.heap vs (List.toArray out) }) :
    wpAny (model prog w) A (call (.builtin "sorted") [.ref l]) Q E s := by
  have er' : EachIs (fun v b => ∃ as, Reads (sortingHeap (copyHeap s.heap vs) (s.heap.objs.size + 1) vs) v (enc b) as) vs bs := er.mono fun _ _ ⟨as, r⟩ => ⟨as, PyProof.Rows.Reads.keeps (fun _ _ => sorting_copy_old) r⟩
  have S : SortsAt prog w A.in1.in1 { s with heap := sortingHeap (copyHeap s.heap vs) (s.heap.objs.size + 1) vs } (dataKind (sortingHeap (copyHeap s.heap vs) (s.heap.objs.size + 1) vs) (bs.map enc)) vs :=
    SortsAt.data (s := { s with heap := sortingHeap (copyHeap s.heap vs) (s.heap.objs.size + 1) vs }) (each_map (R := fun v d => ∃ as, Reads (sortingHeap (copyHeap s.heap vs) (s.heap.objs.size + 1) vs) v d as) enc er') hal hk (bound_map hu)
  have hL' : vs.length ≤ sizeLine := by rw [e.length]; exact hL
  exact sorted_of_sortT hl hL' (args_sorted1 _) (fun _ => args_list_sort _) fun _ => list_sort_vals (s := { s with heap := copyHeap s.heap vs }) (copyHeap_at s.heap vs) S hL' ⟨rfl, h _ (by rw [sortVals_length false rfl]; exact e.length) (sortVals_data false e er' hal)⟩
end
end PySem.W
namespace AW
open PySem PySem.Spec PyProof.Rows L2
mutual
theorem py_depth : ∀ d : D, d.py.depth = d.dep
  | .non => by simp [D.py, D.dep, PyData.depth]
  | .bl _ => by simp [D.py, D.dep, PyData.depth]
  | .int _ => by simp [D.py, D.dep, PyData.depth]
  | .str _ => by simp [D.py, D.dep, PyData.depth]
  | .tup xs => by simp only [D.py, D.dep, PyData.depth]; rw [pys_depth xs]
  | .lst xs => by simp only [D.py, D.dep, PyData.depth]; rw [pys_depth xs]
  | .arr xs => by simp only [D.py, D.dep, PyData.depth]; rw [pys_depth xs]
theorem pys_depth : ∀ ds : List D, PyData.depthAll (D.pys ds) = D.deps ds
  | [] => by simp [D.pys, D.deps, PyData.depthAll]
  | d :: ds => by simp only [D.pys, D.deps, PyData.depthAll]; rw [py_depth d, pys_depth ds]
end
theorem depth_le {x : D} {xs : List D} (h : x ∈ xs) : x.py.depth ≤ D.deps xs := by
  rw [py_depth]
  induction xs with
  | nil => cases h
  | cons y r ih =>
    simp only [D.deps]
    rcases List.mem_cons.mp h with rfl | h
    · omega
    · have := ih h; omega
def RvD (K : PySem.W.Frag) (H : Hp) (u : Value) (d : D) : Prop := ∃ v, RelV v u ∧ DR K H v d
section
variable {K : PySem.W.Frag} {H : Hp}
theorem each_rvd : ∀ {vs : List V} {us : List Value} {ds : List D}, Vals vs us → DRs K H vs ds → PySem.W.EachIs (RvD K H) us ds
  | _, _, _, .nil, .nil => .nil
  | _, _, _, .cons h r, .cons d ds => .cons ⟨_, h, d⟩ (each_rvd r ds)
theorem rvd_each : ∀ {us : List Value} {ds : List D}, PySem.W.EachIs (RvD K H) us ds → ∃ vs, Vals vs us ∧ DRs K H vs ds
  | _, _, .nil => ⟨[], .nil, .nil⟩
  | _, _, .cons ⟨v, h1, h2⟩ r => by
    obtain ⟨vs, h3, h4⟩ := rvd_each r
    exact ⟨v :: vs, .cons h1 h3, .cons h2 h4⟩
end
theorem sortable_ok {xs : List D} (h : sortable xs = true) : xs.length ≤ lim ∧ D.deps xs ≤ 60 ∧ PySem.W.AllAlike (xs.map D.py) ∧ PySem.W.Sortable (xs.map D.py) := by
  unfold sortable at h
  simp only [Bool.and_eq_true, Bool.or_eq_true, decide_eq_true_eq] at h
  obtain ⟨⟨⟨h1, h2⟩, h3⟩, h4⟩ := h
  refine ⟨h1, h2, fun d hd d' hd' => ?_, ?_⟩
  · obtain ⟨b, hb, rfl⟩ := List.mem_map.mp hd
    obtain ⟨b', hb', rfl⟩ := List.mem_map.mp hd'
    exact List.all_eq_true.mp (List.all_eq_true.mp h3 b hb) b' hb'
  · rcases h4 with h4 | h4
    · refine .inl fun d hd => ?_
      obtain ⟨b, hb, rfl⟩ := List.mem_map.mp hd
      have := List.all_eq_true.mp h4 b hb
      unfold isRow at this
      split at this
      · rename_i x r
        exact ⟨x.py, D.pys r, by simp [D.py, D.pys]⟩
      · cases this
    · refine .inr fun d hd => ?_
      obtain ⟨b, hb, rfl⟩ := List.mem_map.mp hd
      have := List.all_eq_true.mp h4 b hb
      unfold noRow at this
      cases b <;> first | (cases this; done) | (simp only [D.py]; exact ⟨(fun z => nomatch z), fun xs z => nomatch z⟩)
theorem b1_sorted {X : Cx} (hc : X.calm = true) (hr : Room 0 X.A) : CallR X (.builtin "sorted") (rB1 X.K .sorted) := by
  intro pins s σ H xs us Q I r h
  obtain ⟨x, a, v, rfl, ha, e, q⟩ := h
  unfold bi1 at e
  have slim : lim ≤ sizeLine := by rw [sizeLine_eq]; decide
  have un : X.A.units + 200 < cLine := by have := hr.un; omega
  have main : ∀ {p : Addr} {its : List Value} {vs : List V} {ds : List D}, Vals vs its → DRs X.K H vs ds → sortable ds = true → v = .own (sortD ds) →
      (∀ (R' : Value → D → Prop) (Q' : Value → Shared → Prop), PySem.W.EachIs R' its ds → PySem.W.EachIs (fun v b => ∃ as, Reads s.heap v (D.py b) as) its ds → PySem.W.AllAlike (ds.map D.py) → PySem.W.Sortable (ds.map D.py) → ds.length ≤ sizeLine → (∀ b, b ∈ ds → X.A.units + 2 + (D.py b).depth < cLine) →
        (∀ out, out.length = ds.length → PySem.W.EachIs R' out (ds.mergeSort (PySem.W.dataLe false D.py)) → Q' (.ref (s.heap.objs.size + 1)) { s with heap := sortedAll s.heap its (List.toArray out) }) →
        wpAny (model X.prog X.w) X.A (call (.builtin "sorted") [.ref p]) Q' X.xe s) →
      wpAny (model X.prog X.w) X.A (call (.builtin "sorted") [.ref p]) (EP X pins σ Q) X.xe s := fun {p its vs ds} rv dr hs ev go => by
    obtain ⟨h1, h2, h3, h4⟩ := sortable_ok hs
    have er : PySem.W.EachIs (fun v b => ∃ as, Reads s.heap v (D.py b) as) its ds := (each_rvd rv dr).mono fun u d ⟨v, r1, d1⟩ => Dp.reads I _ _ _ d1.dp r1
    refine go (RvD X.K H) _ (each_rvd rv dr) er h3 h4 (by omega) (fun b hb => by have := depth_le hb; omega) fun out hl ho => ?_
    obtain ⟨ws, w1, w2⟩ := rvd_each ho
    obtain ⟨ep, he'⟩ := PyProof.Rows.sortedAll_at s.heap its out.toArray
    have hn : H (s.heap.objs.size + 1) = none := I.hok.fresh (Nat.le_succ _)
    have lw : ws.length ≤ sizeLine := by rw [w2.len]; show (ds.mergeSort _).length ≤ _; rw [List.length_mergeSort]; omega
    refine ⟨.ref _, upd H (s.heap.objs.size + 1) (.lst ws), I.laid (t' := s.toks) (fun _ _ => PyProof.Rows.sortedAll_old) (Nat.le_succ _) ⟨lw, out, ep, w1, he'⟩, rfl, q _ _ ?_⟩
    subst ev
    exact ⟨fun F => .new hn, _, ws, rfl, hn, upd_same, DRs.ex (F := fun _ => False) (.new hn) w2⟩
  cases a <;> first | (cases e; done) | skip
  case lst ds =>
    dsimp only at e
    split at e
    · rename_i hs
      cases e
      obtain ⟨p, vs, rfl, h1, h2⟩ := ha.lst
      obtain ⟨its, rv, hl, hz⟩ := I.list (.inl h1)
      rw [Vals.ref1 r]
      refine main rv h2 hs rfl fun R' Q' e1 e2 e3 e4 e5 e6 k => ?_
      exact PySem.W.sorted_data hl.isList e1 e2 e3 e4 e5 e6 k
    · cases e
  case tup ds =>
    dsimp only at e
    split at e
    · rename_i hs
      cases e
      obtain ⟨p, vs, rfl, h1, h2⟩ := ha.tup
      obtain ⟨its, rv, hl, hz⟩ := I.tuple h1
      rw [Vals.ref1 r]
      refine main rv h2 hs rfl fun R' Q' e1 e2 e3 e4 e5 e6 k => ?_
      exact PySem.W.sorted_dataT hl e1 e2 e3 e4 e5 e6 k
    · cases e
end AW

set_option Elab.async false
set_option linter.all false
set_option maxRecDepth 100000
set_option maxHeartbeats 4000000
/-! Soundness: subscripts, calls, methods. -/
namespace AW
open PySem PySem.Spec PyProof.Rows L2
section
variable {X : Cx} {Γ : Gam} {T : Sg} {pos : Pos}
theorem compO_ok {f : Expr → Option E} (hf : ∀ e c, f e = some c → SE X Γ e c) : ∀ {o : Option Expr} {c : Oe}, compO f o = some c → PO X o (tOi X.K (evo Γ c))
  | none, c, h => by
    cases h
    refine ⟨fun pins s σ H Q I q => ?_⟩
    obtain ⟨P, F, ρ, i, ρ', R, e, k⟩ := q
    cases e
    exact (po_none (X := X)).run pins s σ H Q I (k H (.refl H) R)
  | some e, c, h => by
    obtain ⟨c', h1, rfl⟩ := Option.map_eq_some_iff.mp h
    refine ⟨fun pins s σ H Q I q => ?_⟩
    obtain ⟨P, F, ρ, i, ρ', R, e, k⟩ := q
    obtain ⟨j, ρ1, e1, e⟩ := int_ok (x := ev Γ c' ρ) (g := fun i ρ1 => .ok (some i, ρ1)) e
    cases e
    exact (po_some (hf _ _ h1).pe).run pins s σ H Q I ⟨P, F, ρ, _, _, R, e1, fun v H1 x1 R1 d1 => ⟨j, by cases d1; rfl, k H1 x1 R1⟩⟩
theorem VW.kept {a : Expr} {F : Fr} {P : Pins} {ρ1 ρ2 : Env} {σ : L2.St} {H1 H2 : Hp} {v : V} {p : PVal} {x : D} (p1 : PR X.K H1 F ρ1 σ v p) (x2 : Ex (hold F v p) H1 H2) (R2 : Rel X.K P (hold F v p) ρ2 σ H2) (e3 : view ρ2 p = .ok x) : VW X.K H2 v x := VW.held p1 x2 R2 e3
theorem se_ix {o i : Expr} {co ci : E} (ho : SE X Γ o co) (hi : SE X Γ i ci) (hs : PlainIx i) : SE X Γ (.Subscript o i pos) (.ix co ci) := by
  refine se_plain (c := .ix co ci) ?_ (fun i z => by cases z) rfl (fun _ => rfl)
  refine (pe_ix ix_D ho.pk hi.pd hs).imp fun σ H Q q => ?_
  obtain ⟨P, F, ρ, r, ρ', R, e, k⟩ := q
  obtain ⟨⟨p, ρ1⟩, e1, e⟩ := bind_ok.mp e
  obtain ⟨⟨v, ρ2⟩, e2, e⟩ := bind_ok.mp e
  obtain ⟨x, e3, e⟩ := bind_ok.mp e
  obtain ⟨y, e4, e⟩ := bind_ok.mp e
  cases e
  refine ⟨P, F, ρ, p, ρ1, R, e1, fun w H1 x1 R1 p1 => ⟨P, hold F w p, ρ1, v, _, R1.held p1, e2, fun u H2 x2 R2 d2 => ?_⟩⟩
  exact ⟨_, _, _, VW.held p1 x2 R2 e3, .inl d2, ofO_ok.mp e4, fun z dz => k z H2 (x1.trans (x2.weak (hold_le F w p))) (R2.shrink (hold_le F w p) R.lkF) dz⟩
theorem se_sl {o : Expr} {lo hi : Option Expr} {co : E} {cl ch : Oe} {p2 : Pos} (ho : SE X Γ o co) (hl : PO X lo (tOi X.K (evo Γ cl))) (hh : PO X hi (tOi X.K (evo Γ ch))) : SE X Γ (.Subscript o (.Slice lo hi none p2) pos) (.sl co cl ch) := by
  refine se_plain (c := .sl co cl ch) ?_ (fun i z => by cases z) rfl (fun _ => rfl)
  refine (pe_slice sl_D ho.pk hl hh).imp fun σ H Q q => ?_
  obtain ⟨P, F, ρ, r, ρ', R, e, k⟩ := q
  obtain ⟨⟨p, ρ1⟩, e1, e⟩ := bind_ok.mp e
  obtain ⟨⟨l, ρ2⟩, e2, e⟩ := bind_ok.mp e
  obtain ⟨⟨h, ρ3⟩, e3, e⟩ := bind_ok.mp e
  obtain ⟨x, e4, e⟩ := bind_ok.mp e
  obtain ⟨y, e5, e⟩ := bind_ok.mp e
  cases e
  refine ⟨P, F, ρ, p, ρ1, R, e1, fun w H1 x1 R1 p1 => ⟨P, hold F w p, ρ1, l, ρ2, R1.held p1, e2, fun H2 x2 R2 => ⟨P, hold F w p, ρ2, h, _, R2, e3, fun H3 x3 R3 => ?_⟩⟩⟩
  refine ⟨x, _, VW.held p1 (x2.trans x3) R3 e4, ofO_ok.mp e5, fun z H4 n => ?_⟩
  obtain ⟨R4, v4⟩ := n.rel (R3.shrink (hold_le F w p) R.lkF)
  exact k z H4 (x1.trans (((x2.trans x3).weak (hold_le F w p)).trans (n.1 F))) R4 v4
/-- a list of views: one -/
theorem pa_one {a : Expr} {ca : E} (ha : SE X Γ a ca) : PA X [a] (tCons (tPk X.K (peek ca (ev Γ ca))) tNil) := pa_cons ha.pk pa_nil (star_cons ha.ns)
theorem dec_ne {x y : Str} (h : decide (x = y) = false) : x ≠ y := of_decide_eq_false h
/-- a call of a built-in function of one value -/
theorem b1_fn {a : Expr} {ca : E} {x : Str} {b : Bi} {id : String} {p : Pos} (hc : CallR X (.builtin id) (rB1 X.K b)) (hg : Gl X x) (hm : X.mg x = none) (hv : bootBuiltins x = some (.builtin id)) (hn : x ≠ "__name__") (hdb : (x == ("__debug__" : Str)) = false)
    (ha : SE X Γ a ca) : SE X Γ (.Call (.Name x p) [a] [] pos) (.b1 b ca) := by
  refine se_plain (c := .b1 b ca) ?_ (fun i z => by cases z) rfl (fun _ => rfl)
  refine (pe_callB hc hg hm hv (pa_one ha) hn hdb (star_cons ha.ns) rfl).imp fun σ H Q q => ?_
  obtain ⟨P, F, ρ, r, ρ', R, e, k⟩ := q
  obtain ⟨⟨p, ρ1⟩, e1, e⟩ := bind_ok.mp e
  obtain ⟨z, e2, e⟩ := bind_ok.mp e
  obtain ⟨y, e3, e⟩ := bind_ok.mp e
  cases e
  refine ⟨P, F, ρ, p, _, R, e1, fun w H1 x1 R1 p1 => ⟨w, z, _, rfl, VW.held p1 (.refl H1) R1 e2, ofO_ok.mp e3, fun v H2 n => ?_⟩⟩
  obtain ⟨R2, v2⟩ := n.rel R1
  exact k v H2 (x1.trans (n.1 F)) R2 v2
theorem b1_ty {a : Expr} {ca : E} {x : Str} {b : Bi} {id : String} {p : Pos} (hc : CallR X (.type id) (rB1 X.K b)) (hg : Gl X x) (hm : X.mg x = none) (hv : bootBuiltins x = some (.type id)) (hn : x ≠ "__name__") (hdb : (x == ("__debug__" : Str)) = false)
    (ha : SE X Γ a ca) : SE X Γ (.Call (.Name x p) [a] [] pos) (.b1 b ca) := by
  refine se_plain (c := .b1 b ca) ?_ (fun i z => by cases z) rfl (fun _ => rfl)
  refine (pe_callTy hc hg hm hv (pa_one ha) hn hdb (star_cons ha.ns) rfl).imp fun σ H Q q => ?_
  obtain ⟨P, F, ρ, r, ρ', R, e, k⟩ := q
  obtain ⟨⟨p, ρ1⟩, e1, e⟩ := bind_ok.mp e
  obtain ⟨z, e2, e⟩ := bind_ok.mp e
  obtain ⟨y, e3, e⟩ := bind_ok.mp e
  cases e
  refine ⟨P, F, ρ, p, _, R, e1, fun w H1 x1 R1 p1 => ⟨w, z, _, rfl, VW.held p1 (.refl H1) R1 e2, ofO_ok.mp e3, fun v H2 n => ?_⟩⟩
  obtain ⟨R2, v2⟩ := n.rel R1
  exact k v H2 (x1.trans (n.1 F)) R2 v2
theorem b2_fn {a c : Expr} {ca cc : E} {x : Str} {b : Bi} {id : String} {p : Pos} (hc : CallR X (.builtin id) (rB2 X.K b)) (hg : Gl X x) (hm : X.mg x = none) (hv : bootBuiltins x = some (.builtin id)) (hn : x ≠ "__name__") (hdb : (x == ("__debug__" : Str)) = false)
    (ha : SE X Γ a ca) (hc' : SE X Γ c cc) : SE X Γ (.Call (.Name x p) [a, c] [] pos) (.b2 b ca cc) := by
  refine se_plain (c := .b2 b ca cc) ?_ (fun i z => by cases z) rfl (fun _ => rfl)
  refine (pe_callB hc hg hm hv (pa_cons ha.pd (pa_cons hc'.pd pa_nil (star_cons hc'.ns)) (star_cons ha.ns)) hn hdb (star_cons ha.ns) (star_none fun e he => by rw [List.mem_singleton.mp he]; exact hc'.ns)).imp fun σ H Q q => ?_
  obtain ⟨P, F, ρ, r, ρ', R, e, k⟩ := q
  obtain ⟨⟨v, ρ1⟩, e1, e⟩ := bind_ok.mp e
  obtain ⟨⟨u, ρ2⟩, e2, e⟩ := bind_ok.mp e
  obtain ⟨y, e3, e⟩ := bind_ok.mp e
  cases e
  refine ⟨P, F, ρ, v, ρ1, R, e1, fun w H1 x1 R1 d1 => ⟨P, F, ρ1, u, _, R1, e2, fun w2 H2 x2 R2 d2 => ⟨w, w2, _, _, _, rfl, .inl (DR.ex x2 d1), .inl d2, ofO_ok.mp e3, fun v H3 n => ?_⟩⟩⟩
  obtain ⟨R3, v3⟩ := n.rel R2
  exact k v H3 (x1.trans (x2.trans (n.1 F))) R3 v3
theorem se_b1 (ok : XOk Γ T X) {a : Expr} {ca : E} {x : Str} {b : Bi} {p : Pos} (hb : T.gl x = some .bi) (h : bi1Of x = some b) (ha : SE X Γ a ca) : SE X Γ (.Call (.Name x p) [a] [] pos) (.b1 b ca) := by
  obtain ⟨g1, g2, g3⟩ := gl_facts ok hb
  unfold bi1Of at h
  split at h
  · rename_i e; cases h; subst e; exact b1_fn b1_len g1 g2 PySem.boot_len (by decide) g3 ha
  split at h
  · rename_i e; cases h; subst e; exact b1_ty b1_int g1 g2 (by decide +kernel) (by decide) g3 ha
  split at h
  · rename_i e; cases h; subst e; exact b1_fn b1_abs g1 g2 (by decide +kernel) (by decide) g3 ha
  split at h
  · rename_i e; cases h; subst e; exact b1_ty b1_list g1 g2 (by decide +kernel) (by decide) g3 ha
  split at h
  · rename_i e; cases h; subst e; exact b1_ty b1_tuple g1 g2 (by decide +kernel) (by decide) g3 ha
  split at h
  · rename_i e; cases h; subst e; exact b1_fn (b1_sorted ok.calm ok.room) g1 g2 (by decide +kernel) (by decide) g3 ha
  split at h
  · rename_i e; cases h; subst e; exact b1_fn (b1_any ok.calm) g1 g2 (by decide +kernel) (by decide) g3 ha
  split at h
  · rename_i e; cases h; subst e; exact b1_fn (b1_all ok.calm) g1 g2 (by decide +kernel) (by decide) g3 ha
  split at h
  · rename_i e; cases h; subst e; exact b1_fn (b1_max ok.calm) g1 g2 (by decide +kernel) (by decide) g3 ha
  split at h
  · rename_i e; cases h; subst e; exact b1_fn (b1_min ok.calm) g1 g2 (by decide +kernel) (by decide) g3 ha
  · cases h
theorem se_b2 (ok : XOk Γ T X) {a c : Expr} {ca cc : E} {x : Str} {b : Bi} {p : Pos} (hb : T.gl x = some .bi) (h : bi2Of x = some b) (ha : SE X Γ a ca) (hc : SE X Γ c cc) : SE X Γ (.Call (.Name x p) [a, c] [] pos) (.b2 b ca cc) := by
  obtain ⟨g1, g2, g3⟩ := gl_facts ok hb
  unfold bi2Of at h
  split at h
  · rename_i e; cases h; subst e; exact b2_fn (b2_max ok.calm) g1 g2 (by decide +kernel) (by decide) g3 ha hc
  split at h
  · rename_i e; cases h; subst e; exact b2_fn (b2_min ok.calm) g1 g2 (by decide +kernel) (by decide) g3 ha hc
  · cases h
theorem rangeOf_is {e a : Expr} (h : rangeOf T e = some a) : ∃ p q, e = .Call (.Name "range" p) [a] [] q ∧ T.bi "range" = true := by
  unfold rangeOf at h
  split at h
  · split at h
    · rename_i hh
      cases h
      obtain ⟨h1, h2⟩ := hh
      subst h1
      exact ⟨_, _, rfl, h2⟩
    · cases h
  · cases h
theorem DRs.nats {K : PySem.W.Frag} {H : Hp} (f : Nat → Int) : ∀ l : List Nat, DRs K H (l.map fun i => V.int (f i)) (l.map fun i => D.int (f i))
  | [] => .nil
  | _ :: r => .cons (.int _) (DRs.nats f r)
theorem se_lrange (ok : XOk Γ T X) {a e : Expr} {ca : E} {p : Pos} (hb : T.gl "list" = some .bi) (h : rangeOf T e = some a) (ha : SE X Γ a ca) : SE X Γ (.Call (.Name "list" p) [e] [] pos) (.b1 .lrange ca) := by
  obtain ⟨g1, g2, g3⟩ := gl_facts ok hb
  obtain ⟨q1, q2, rfl, hr⟩ := rangeOf_is h
  obtain ⟨f1, f2, f3⟩ := bi_facts ok hr
  refine se_plain (c := .b1 .lrange ca) ?_ (fun i z => by cases z) rfl (fun _ => rfl)
  refine (pe_listRg ok.calm g1 g2 (prg_1 f1 f2 ha.pk (star_cons ha.ns)) rfl).imp fun σ H Q q => ?_
  obtain ⟨P, F, ρ, r, ρ', R, e, k⟩ := q
  obtain ⟨⟨p, ρ1⟩, e1, e⟩ := bind_ok.mp e
  obtain ⟨z, e2, e⟩ := bind_ok.mp e
  obtain ⟨y, e3, e⟩ := bind_ok.mp e
  cases e
  have e4 := ofO_ok.mp e3
  refine ⟨P, F, ρ, p, _, R, e1, fun w H1 x1 R1 p1 => ?_⟩
  have vw := VW.held p1 (.refl H1) R1 e2
  cases z <;> first | (exfalso; revert e4; simp [bi1]; done) | skip
  rename_i n
  have e4 : (if -1000000 ≤ n ∧ n ≤ 1000000 then some (Val.own ((List.range n.toNat).map fun (i : Nat) => D.int i)) else none) = some r := e4
  split at e4
  · rename_i hn
    cases e4
    refine ⟨n, vw.int, ?_, fun l hl => ?_⟩
    · unfold RgOk
      exact ⟨by omega, by omega, by omega, by omega, by omega⟩
    · have nr : NewR X.K H1 (upd H1 l (.lst (rgV 0 n))) (.ref l) (.own ((List.range n.toNat).map fun (i : Nat) => D.int i)) := by
        refine NewR.lst hl ?_
        unfold rgV
        rw [Int.sub_zero]
        have := DRs.nats (K := X.K) (H := H1) (fun i => (i : Int)) (List.range n.toNat)
        simpa using this
      obtain ⟨R2, v2⟩ := nr.rel R1
      exact k _ _ (x1.trans (nr.1 F)) R2 v2
  · cases e4
/-- isinstance -/
theorem pe_tyN (ok : XOk Γ T X) {e : Expr} {t : Ty} (h : tyEx T e = some t) : PE X e (tC (.ty t.nm)) ∧ isStar e = false := by
  unfold tyEx at h
  split at h
  · split at h
    · rename_i hb
      obtain ⟨g1, g2, g3⟩ := bi_facts ok hb
      refine ⟨?_, rfl⟩
      unfold tyOf at h
      split at h
      · rename_i e; cases h; subst e; exact pe_bltn (v := .ty "int") g1 g2 (by decide +kernel) rfl (by decide) g3
      split at h
      · rename_i e; cases h; subst e; exact pe_bltn (v := .ty "bool") g1 g2 (by decide +kernel) rfl (by decide) g3
      split at h
      · rename_i e; cases h; subst e; exact pe_bltn (v := .ty "str") g1 g2 (by decide +kernel) rfl (by decide) g3
      split at h
      · rename_i e; cases h; subst e; exact pe_bltn (v := .ty "tuple") g1 g2 (by decide +kernel) rfl (by decide) g3
      split at h
      · rename_i e; cases h; subst e; exact pe_bltn (v := .ty "list") g1 g2 (by decide +kernel) rfl (by decide) g3
      · cases h
    · cases h
  · cases h
theorem pa_tys (ok : XOk Γ T X) : ∀ {es : List Expr} {ts : List Ty}, tysEx T es = some ts → PA X es (fun _ H Q => Q (ts.map fun t => .ty t.nm) H)
  | [], _, h => by cases h; exact ⟨fun pos pins s σ H Q I q => (pa_nil (X := X)).run pos pins s σ H Q I q⟩
  | e :: es, ts, h => by
    unfold tysEx at h
    split at h
    · rename_i a b h1 h2
      cases h
      obtain ⟨p1, p2⟩ := pe_tyN ok h1
      have := pa_tys ok h2
      exact ⟨fun pos pins s σ H Q I q => (pa_cons p1 this (star_cons p2)).run pos pins s σ H Q I q⟩
    · cases h
theorem se_isi (ok : XOk Γ T X) {f : Expr → Option E} (hf : ∀ e c, f e = some c → SE X Γ e c) {a t : Expr} {c : E} {p : Pos} (hb : T.gl "isinstance" = some .bi) (h : compIsi T f a t = some c) : SE X Γ (.Call (.Name "isinstance" p) [a, t] [] pos) c := by
  obtain ⟨g1, g2, g3⟩ := gl_facts ok hb
  unfold compIsi at h
  split at h
  · split at h
    · split at h
      · rename_i x ts h1 h2 hl
        cases h
        have ha := hf _ _ h1
        refine se_plain (c := .isi x ts) ?_ (fun i z => by cases z) rfl (fun _ => rfl)
        refine (pe_callB (call_isiN ts) g1 g2 (by decide +kernel) (pa_cons ha.pd (pa_cons (pe_tup (pa_tys ok h2)) pa_nil) (star_cons ha.ns)) (by decide) g3 (star_cons ha.ns) rfl).imp fun σ H Q q => ?_
        obtain ⟨P, F, ρ, r, ρ', R, e, k⟩ := q
        obtain ⟨⟨v, ρ1⟩, e1, e⟩ := bind_ok.mp e
        cases e
        refine ⟨P, F, ρ, v, _, R, e1, fun w H1 x1 R1 d1 => ⟨?_, fun p hp => ⟨w, p, v.toD, rfl, upd_same, DR.ex (.new (F := F) hp) d1, ?_⟩⟩⟩
        · rw [List.length_map]; have := sizeLine_eq; omega
        · exact k _ _ (x1.trans (.new hp)) (R1.new hp) (.bl _)
      · cases h
    · cases h
  · split at h
    · rename_i x ty h1 h2
      cases h
      have ha := hf _ _ h1
      obtain ⟨p1, p2⟩ := pe_tyN ok h2
      refine se_plain (c := .isi x [ty]) ?_ (fun i z => by cases z) rfl (fun _ => rfl)
      refine (pe_callB (call_isi1 ty) g1 g2 (by decide +kernel) (pa_cons ha.pd (pa_cons p1 pa_nil (star_cons p2)) (star_cons ha.ns)) (by decide) g3 (star_cons ha.ns) (star_none fun e he => by rw [List.mem_singleton.mp he]; exact p2)).imp fun σ H Q q => ?_
      obtain ⟨P, F, ρ, r, ρ', R, e, k⟩ := q
      obtain ⟨⟨v, ρ1⟩, e1, e⟩ := bind_ok.mp e
      cases e
      exact ⟨P, F, ρ, v, _, R, e1, fun w H1 x1 R1 d1 => ⟨w, v.toD, rfl, d1, k _ _ x1 R1 (.bl _)⟩⟩
    · cases h
theorem se_bi (ok : XOk Γ T X) {f : Expr → Option E} (hf : ∀ e c, f e = some c → SE X Γ e c) {x : Str} {args : List Expr} {c : E} {p : Pos} (hb : T.gl x = some .bi) (h : compBi T f x args = some c) : SE X Γ (.Call (.Name x p) args [] pos) c := by
  unfold compBi at h
  split at h
  · split at h
    · rename_i e
      subst e
      split at h
      · rename_i h1
        obtain ⟨c', h2, rfl⟩ := Option.map_eq_some_iff.mp h
        exact se_lrange ok hb h1 (hf _ _ h2)
      · obtain ⟨c', h2, rfl⟩ := Option.map_eq_some_iff.mp h
        exact se_b1 ok hb (by decide +kernel) (hf _ _ h2)
    · split at h
      · rename_i h1
        obtain ⟨c', h2, rfl⟩ := Option.map_eq_some_iff.mp h
        exact se_b1 ok hb h1 (hf _ _ h2)
      · cases h
  · split at h
    · rename_i e
      subst e
      exact se_isi ok hf hb h
    · split at h
      · rename_i h1
        split at h
        · rename_i h2 h3
          cases h
          exact se_b2 ok hb h1 (hf _ _ h2) (hf _ _ h3)
        · cases h
      · cases h
  · cases h
end
end AW

set_option Elab.async false
set_option linter.all false
set_option maxRecDepth 100000
set_option maxHeartbeats 4000000
/-! t[::-1]; {..}.get(a, b) of a display of constants. -/
namespace HT
open PySem PySem.Calls PyProof.Rows
section
variable {prog : Program} {w : World} {A : Around} {E : Value → Shared → Prop} {s : Shared}
theorem adjust_rev (n : Nat) : Builtin.Slice.sliceAdjust none none (-1) (n : Int) = ((n : Int) - 1, -1) := by
  unfold Builtin.Slice.sliceAdjust
  rfl
theorem places_rev (n : Nat) : Builtin.Slice.slicePlaces ((n : Int) - 1) (-1) (-1) = n := by
  unfold Builtin.Slice.slicePlaces
  have h1 : ¬ ((-1 : Int) > 0) := by omega
  rw [if_neg h1]
  rw [show (-(-1) : Int) = 1 by decide, Int.ediv_one]
  split <;> omega
theorem sliceApplied_rev {sl : Addr} {vs : Value} {n : Nat} {Q : Int × Int × Nat → Shared → Prop} (hs : s.heap.IsSliceOf sl .none .none vs) (ps : IsPart vs (some (-1)))
    (h : Q ((n : Int) - 1, -1, n) s) : wpAny (model prog w) A (Builtin.Slice.sliceApplied (.ref sl) (pure (n : Int))) Q E s := by
  obtain ⟨os, hos, hcs, hds⟩ := id hs
  unfold Builtin.Slice.sliceApplied Builtin.Slice.sliceFields
  refine wpAny_bind (wpAny_bind (wpAny_field hos hds (x := .none) rfl (wpAny_bind (wpAny_field hos hds (x := .none) rfl (wpAny_bind (wpAny_field hos hds (x := vs) rfl (wpAny_pure ?_)))))))
  refine wpAny_bind (slicePart_ ps ?_)
  show wpAny _ _ (if ((-1 : Int) == 0) = true then _ else _) _ _ s
  rw [if_neg (by decide)]
  refine wpAny_bind (slicePart_none (wpAny_bind (slicePart_none (wpAny_bind (wpAny_pure ?_)))))
  show wpAny _ _ (match Builtin.Slice.sliceAdjust none none (-1) (n : Int) with | (lo, hi) => pure (lo, (-1 : Int), Builtin.Slice.slicePlaces lo hi (-1))) _ _ s
  rw [adjust_rev n]
  show wpAny _ _ (pure ((n : Int) - 1, (-1 : Int), Builtin.Slice.slicePlaces ((n : Int) - 1) (-1) (-1))) _ _ s
  rw [places_rev]
  exact wpAny_pure h
theorem pick_rev (xs : Array Value) : ((List.range xs.size).filterMap fun (m : Nat) => xs[(((xs.size : Nat) : Int) - 1 + (m : Int) * (-1)).toNat]?).toArray = xs.toList.reverse.toArray := by
  have e : (List.range xs.size).filterMap (fun (m : Nat) => xs[(((xs.size : Nat) : Int) - 1 + (m : Int) * (-1)).toNat]?) = ((List.range xs.size).map (fun k => xs.size - 1 - k)).filterMap (xs[·]?) := by
    rw [List.filterMap_map]
    have fc : ∀ (l : List Nat) (f g : Nat → Option Value), (∀ k ∈ l, f k = g k) → l.filterMap f = l.filterMap g := fun l f g h => by
      induction l with
      | nil => rfl
      | cons x r ih =>
        rw [List.filterMap_cons, List.filterMap_cons, h x List.mem_cons_self, ih fun k hk => h k (List.mem_cons_of_mem _ hk)]
    refine fc _ _ _ fun k hk => ?_
    have := List.mem_range.mp hk
    show _ = xs[xs.size - 1 - k]?
    have : (((xs.size : Nat) : Int) - 1 + (k : Int) * (-1)).toNat = xs.size - 1 - k := by omega
    rw [this]
  rw [e, PySem.W.krv_range, List.filterMap_reverse, PySem.W.krv_all]
theorem getItem_tuple_rev {t sl : Addr} {items : Array Value} {vs : Value} {Q : Value → Shared → Prop} (ht : IsTup s.heap t items) (hs : s.heap.IsSliceOf sl .none .none vs) (ps : IsPart vs (some (-1)))
    (h : Q (.ref s.heap.objs.size) { s with heap := s.heap.push { cls := .type "tuple", data := .seq items.toList.reverse.toArray } })
    (hsz : items.size ≤ sizeLine) : wpAny (model prog w) A (getItem (.ref t) (.ref sl)) Q E s := by
  have htake : sizeOk (.seq items.toList.reverse.toArray) := by
    show items.toList.reverse.toArray.size ≤ sizeLine
    rw [List.size_toArray, List.length_reverse, Array.length_toList]
    exact hsz
  obtain ⟨os, hos, hcs, hds⟩ := id hs
  have hTs : s.TypeIs (.ref sl) "slice" := ⟨os, hos, hcs⟩
  unfold getItem
  try with_reducible refine wpAny_holding ?_
  first | refine wpAny_bind (wpAny_pure ?_) | skip
  refine wpAny_bind (wpAny_sequenceKey ht.typeIs (by decide) ?_)
  refine wpAny_bind (wpAny_callSpecial?_slot (name := Str.ofString "__getitem__") ht.typeIs PyProof.Rows.slot_tuple_getitem
    (wpAny_call_entry PyProof.Rows.slot_tuple_getitem ht.typeIs entry_tuple_getitem ?_ (args_tuple_getitem _ _)))
  show wpAny _ _ (Builtin.Tuple.tupleItemsOf (.ref t) >>= _) _ _ s
  refine wpAny_bind (tupleItemsOf_ ht ?_)
  refine wpAny_bind (wpAny_typeOf hTs ?_)
  rw [if_pos (by decide)]
  refine wpAny_bind (sliceApplied_rev hs ps ?_)
  have hno : ¬ (((((items.size : Nat) : Int) - 1) == 0 && (-1 : Int) == 1 && items.size == items.size) = true) := by
    intro q
    rw [Bool.and_eq_true, Bool.and_eq_true] at q
    exact absurd (eq_of_beq q.1.2) (by decide)
  show wpAny _ _ (if ((((items.size : Nat) : Int) - 1) == 0 && (-1 : Int) == 1 && items.size == items.size) = true then _ else _) _ _ s
  rw [if_neg hno, pick_rev]
  first
    | exact wpAny_bind (m := Builtin.Tuple.tupleExact _) (wpAny_newObj_type (wpAny_pure ⟨_, rfl, wpAny_pure h⟩) htake)
    | exact wpAny_bind (m := Builtin.Tuple.tupleExact _) (wpAny_newObj_type (wpAny_bind (wpAny_pure (wpAny_pure ⟨_, rfl, wpAny_pure h⟩))) htake)
    | exact wpAny_bind (wpAny_bind (m := Builtin.Tuple.tupleExact _) (wpAny_newObj_type (wpAny_pure (wpAny_pure ⟨_, rfl, wpAny_pure h⟩)) htake))
    | exact wpAny_bind (wpAny_bind (m := Builtin.Tuple.tupleExact _) (wpAny_newObj_type (wpAny_pure ⟨_, rfl, wpAny_pure h⟩) htake))
end
end HT
namespace AW
open PySem PySem.Spec PyProof.Rows L2
section
variable {X : Cx} {Γ : Gam} {T : Sg} {pos : Pos}
def tRevT (K : PySem.W.Frag) (te : TE) : TE := fun σ H Q => te σ H fun x H1 => ∃ a xs, x = .ref a ∧ SqT K H1 a xs ∧ ∀ p, H1 p = none → Q (.ref p) (upd H1 p (.tup xs.reverse))
theorem pe_revT {e : Expr} {te : TE} {k : Nat} {p1 p2 p3 pos : Pos} (he : PE X e te) : PE X (.Subscript e (.Slice none none (some (.UnaryOp .USub (.Constant (.int 1) k p1) p2)) p3) pos) (tRevT X.K te) := by
  refine ⟨fun pins s σ H Q I h => ?_⟩
  refine Subscript_ (thn (he.run pins s σ H _ I h) fun v s1 ⟨x, H1, I1, r1, q1⟩ => ?_)
  obtain ⟨a, xs, ex, hx, q⟩ := q1
  subst ex
  cases r1
  have hst : PO X (some (.UnaryOp .USub (.Constant (.int 1) k p1) p2)) (tPart (tUn (rU fun i => .int (-i)) (tC (.int 1)))) := po_some (pe_un un_neg pe_int)
  refine wpAny_Slice (thn (po_none.run pins s1 σ H1 (fun o H2 => o = none ∧ H2 = H1) I1 ⟨rfl, rfl⟩) fun vl s2 ⟨l, H2, I2, pl, el, e2⟩ => ?_)
  subst el e2
  refine thn (po_none.run pins s2 σ H2 (fun o H3 => o = none ∧ H3 = H2) I2 ⟨rfl, rfl⟩) fun vu s3 ⟨u, H3, I3, pu, eu, e3⟩ => ?_
  subst eu e3
  refine thn (hst.run pins s3 σ H3 (fun o H4 => o = some (-1) ∧ H4 = H3) I3 ⟨1, rfl, -1, rfl, rfl, rfl⟩) fun vs s4 ⟨o, H4, I4, ps, eo, e4⟩ => ?_
  subst eo e4
  cases pl
  cases pu
  have I5 : Inv X pins σ H4 { s4 with heap := s4.heap.push { cls := .type "slice", data := .fields #[.none, .none, vs] } } := I4.kept (t' := s4.toks) fun b ob q => Heap.get?_push_of_some _ q
  obtain ⟨its, r, ht, hz⟩ := I5.tuple hx
  show wpAny (model X.prog X.w) X.A (subscriptTail e (.Slice none none (some (.UnaryOp .USub (.Constant (.int 1) k p1) p2)) p3) (.ref a) (.ref s4.heap.objs.size)) (EP X pins σ Q) X.xe { s4 with heap := s4.heap.push { cls := .type "slice", data := .fields #[.none, .none, vs] } }
  refine tail_any (ops := [.ref a, .ref s4.heap.objs.size]) ht.typeIs (PyProof.Rows.slot_tuple_getitem.lookup) ?_ (by with_unfolding_all rfl)
  refine HT.getItem_tuple_rev ht (Heap.IsSliceOf.new _ .none .none vs) ps ?_ (by rw [List.size_toArray, ← r.length]; exact hz)
  refine ⟨.ref _, _, I5.laid (t' := s4.toks) (o := .tup xs.reverse) (fun b ob q => Heap.get?_push_of_some _ q) (Nat.le_refl _) ?_, rfl, q _ (I5.hok.fresh (Nat.le_refl _))⟩
  exact ⟨by rw [List.length_reverse]; exact hz, _, r.reverse, IsTup.new _ _⟩
theorem DRs.rev {K : PySem.W.Frag} {H : Hp} : ∀ {vs : List V} {xs : List D}, DRs K H vs xs → DRs K H vs.reverse xs.reverse
  | _, _, .nil => .nil
  | _, _, .cons h r => by
    rw [List.reverse_cons, List.reverse_cons]
    exact r.rev.app (.one h)
theorem se_rev {e : Expr} {c : E} {k : Nat} {p1 p2 p3 : Pos} (he : SE X Γ e c) : SE X Γ (.Subscript e (.Slice none none (some (.UnaryOp .USub (.Constant (.int 1) k p1) p2)) p3) pos) (.rev c) := by
  refine se_plain (c := .rev c) ?_ (fun i z => by cases z) rfl (fun _ => rfl)
  refine (pe_revT he.pe).imp fun σ H Q q => ?_
  obtain ⟨P, F, ρ, r, ρ', R, e, k⟩ := q
  obtain ⟨⟨v, ρ1⟩, e1, e2⟩ := bind_ok.mp e
  dsimp only at e2
  split at e2
  · rename_i xs
    have e2 := Res.ok.inj e2
    cases e2
    refine ⟨P, F, ρ, _, _, R, e1, fun w H1 x1 R1 d1 => ?_⟩
    cases d1 with
    | tup h1 h2 =>
      refine ⟨_, _, rfl, h1, fun p hp => k _ _ (x1.trans (.new hp)) (R1.new hp) ?_⟩
      exact .tup (.inl (.inl upd_same)) (DRs.ex (F := F) (.new hp) h2).rev
  · cases e2
/-! ### {..}.get(a, b) -/
def tcs (kvs : List (Str × Int)) : List (TE × TE) := kvs.map fun kv => (tC (.str kv.1), tC (.int kv.2))
def kvk (kvs : List (Str × Int)) : List (Key × V) := kvs.map fun kv => (Sum.inr kv.1, V.int kv.2)
theorem pps_const : ∀ {ks : List (Option Expr)} {vs : List Expr} {kvs : List (Str × Int)}, dictC ks vs = some kvs → PPs X pos ks vs (tcs kvs) ∧ ks.all (·.isSome) = true ∧ ks.length = vs.length ∧ ks.length = kvs.length
  | ks, vs, kvs, h => by
    unfold dictC at h
    split at h
    · cases h; exact ⟨pps_nil, rfl, rfl, rfl⟩
    · rename_i x _ _ ks i _ _ vs
      split at h
      · obtain ⟨r, hr, rfl⟩ := Option.map_eq_some_iff.mp h
        obtain ⟨a, b, c, d⟩ := pps_const hr
        exact ⟨pps_cons pe_str pe_int a, by simpa using b, by simp [c], by simp [d]⟩
      · cases h
    · cases h
theorem tp_const {σ : L2.St} {H : Hp} : ∀ {kvs : List (Str × Int)} {Q : List (V × V) → Hp → Prop}, Q (kvs.map fun kv => (V.str kv.1, V.int kv.2)) H → tPairs (tcs kvs) σ H Q
  | [], _, h => h
  | kv :: r, Q, h => by
    show tPairs (tcs r) σ H fun ps H3 => Q ((V.str kv.1, V.int kv.2) :: ps) H3
    exact tp_const (kvs := r) h
theorem mergeK_new : ∀ (more acc : List (Key × V)), ((acc ++ more).map (·.1)).Nodup → mergeK acc more = acc ++ more
  | [], acc, _ => by simp [mergeK]
  | kv :: r, acc, h => by
    have hn : ¬ (acc.any fun p => decide (p.1 = kv.1)) = true := by
      intro z
      obtain ⟨p, hp, e⟩ := List.any_eq_true.mp z
      have e := of_decide_eq_true e
      rw [List.map_append, List.map_cons] at h
      have := (List.nodup_append.mp h).2.2 p.1 (List.mem_map.mpr ⟨p, hp, rfl⟩) kv.1 List.mem_cons_self
      exact this e
    have e : putK acc kv.1 kv.2 = acc ++ [kv] := by
      unfold putK
      rw [if_neg hn]
    show mergeK (putK acc kv.1 kv.2) r = _
    rw [e, mergeK_new r (acc ++ [kv]) (by rw [List.append_assoc]; exact h), List.append_assoc]
    rfl
theorem valV_k : ∀ (kvs : List (Str × Int)) (x : Str), valV (kvk kvs) (Sum.inr x) = (kvs.lookup x).map V.int
  | [], _ => rfl
  | (y, i) :: r, x => by
    show valV ((Sum.inr y, V.int i) :: kvk r) (Sum.inr x) = _
    rw [List.lookup_cons]
    by_cases e : x = y
    · subst e
      rw [valV_pos rfl]
      simp
    · rw [valV_neg (fun z => e (Sum.inr.inj z).symm), valV_k r x]
      have : (x == y) = false := by simpa using e
      rw [this]
theorem se_dget (ok : XOk Γ T X) {ks : List (Option Expr)} {vs : List Expr} {kvs : List (Str × Int)} {a b : Expr} {ca cb : E} {dp ap : Pos} (hd : dictC ks vs = some kvs) (hn : (kvs.map (·.1)).Nodup) (h0 : 0 < kvs.length) (h15 : kvs.length ≤ 15) (hl : (ap.endLine == pos.line) = true)
    (ha : SE X Γ a ca) (hb : SE X Γ b cb) : SE X Γ (.Call (.Attribute (.Dict ks vs dp) "get" ap) [a, b] [] pos) (.dget kvs ca cb) := by
  refine se_plain (c := .dget kvs ca cb) ?_ (fun i z => by cases z) rfl (fun _ => rfl)
  obtain ⟨pp, hall, hkl, hkn⟩ := pps_const (X := X) (pos := dp) hd
  have disp := pe_disp pp hall hkl (by intro z; rw [z] at hkn; simp at hkn; omega) (by omega)
  have m : M2 X (.Dict ks vs dp) "get" ap a b pos := by
    refine ⟨rfl, ?_, hl, ?_⟩
    · rw [star_cons ha.ns, star_cons hb.ns]; rfl
    · rw [star_cons ha.ns, star_cons hb.ns]; rfl
  have hu : X.A.units + 1 < cLine := by have := ok.room.un; omega
  refine (pe_dget2 hu disp ha.pd hb.pd m).imp fun σ H Q q => ?_
  obtain ⟨P, F, ρ, r, ρ', R, e, k⟩ := q
  obtain ⟨⟨v, ρ1⟩, e1, e⟩ := bind_ok.mp e
  obtain ⟨⟨u, ρ2⟩, e2, e⟩ := bind_ok.mp e
  intro p hp
  refine tp_const ⟨upd_same, kvk kvs, by unfold kvk; rw [List.map_map]; rfl, by unfold kvk; rw [List.length_map]; exact h15, ?_⟩
  have em : mergeK [] (kvk kvs) = kvk kvs := by
    refine mergeK_new (kvk kvs) [] ?_
    rw [List.nil_append]
    unfold kvk
    rw [List.map_map]
    have : (kvs.map fun kv => (Sum.inr kv.1 : Key)) = (kvs.map (·.1)).map Sum.inr := by rw [List.map_map]; rfl
    show (kvs.map fun kv => (Sum.inr kv.1 : Key)).Nodup
    rw [this]
    exact List.pairwise_map.mpr (hn.imp fun h z => h (Sum.inr.inj z))
  rw [em]
  have x0 : ∀ G : Fr, Ex G H (upd (upd H p (.dK [])) p (.dK (kvk kvs))) := fun G => by
    refine ⟨fun a xs h => ?_, fun a o u h => ?_, fun a o _ h => ?_⟩ <;> · rw [upd_ne (ne_of_none h hp), upd_ne (ne_of_none h hp)]; exact h
  have R0 : Rel X.K P F ρ σ (upd (upd H p (.dK [])) p (.dK (kvk kvs))) := R.ex (x0 _)
  have Rg : Rel X.K P (plus F p) ρ σ (upd (upd H p (.dK [])) p (.dK (kvk kvs))) := R0.grow upd_same fun i m => R.apart hp m
  refine ⟨p, rfl, .inl ⟨_, .inl upd_same⟩, P, plus F p, ρ, v, ρ1, Rg, e1, fun w H1 x1 R1 d1 => ⟨P, plus F p, ρ1, u, ρ2, R1, e2, fun z H2 x2 R2 d2 => ?_⟩⟩
  have hp2 : H2 p = some (.dK (kvk kvs)) := (x1.trans x2).keep p _ (.inr rfl) upd_same
  have xF : Ex F H H2 := (x0 F).trans ((x1.trans x2).weak fun _ f => .inl f)
  dsimp only at e
  split at e
  · rename_i x _
    have ex : w = .str x := by cases d1; rfl
    subst ex
    refine ⟨valV (kvk kvs) (Sum.inr x), DGet.k (k := Sum.inr x) hp2, ?_⟩
    rw [valV_k]
    split at e
    · rename_i i hi
      have e := Res.ok.inj e
      cases e
      rw [hi]
      exact k _ _ xF (R2.shrink (fun _ f => .inl f) R.lkF) (.int _)
    · rename_i hi
      have e := Res.ok.inj e
      cases e
      rw [hi]
      exact k _ _ xF (R2.shrink (fun _ f => .inl f) R.lkF) d2
  · cases e
end
end AW

set_option Elab.async false
set_option linter.all false
set_option maxRecDepth 100000
set_option maxHeartbeats 4000000
/-! Soundness: calls of the text's own defs, methods of lists. -/
namespace AW
open PySem PySem.Spec PyProof.Rows L2
theorem vref {a b : Addr} (h : (some (some (V.ref a)) : Option (Option V)) = some (some (V.ref b))) : a = b := by
  injection h with h; injection h with h; injection h
section
variable {K : PySem.W.Frag} {P : Pins} {F : Fr} {ρ : Env} {σ : L2.St} {H H' : Hp}
/-- all that the frame owns but place i -/
def owned1 (F : Fr) (ρ : Env) (σ : L2.St) (i : Nat) : Fr := fun b => F b ∨ ∃ j, j ≠ i ∧ mutS ρ j ∧ σ[j]? = some (some (.ref b))
/-- an own list was lent -/
theorem Rel.lent {i : Nat} {a : Addr} {vs' : List V} {xs xs' : List D} {s : Slot} (R : Rel K P F ρ σ H) (q : getS ρ i = some s) (hs : (s = .own xs) ∨ (s = .io xs)) (e : σ[i]? = some (some (.ref a)))
    (ex : Ex (owned1 F ρ σ i) H H') (ha : H' a = some (.lst vs')) (r : DRs K H' vs' xs') : Rel K P F (setS ρ i (s.but xs')) σ H' := by
  have m : mutS ρ i := by
    rcases hs with rfl | rfl
    · exact .inl ⟨xs, q⟩
    · exact .inr ⟨xs, q⟩
  have hi := getS_lt q
  have mu : ∀ j, mutS (setS ρ i (s.but xs')) j → mutS ρ j := fun j hj => by
    rcases mutS_set hi hj with ⟨rfl, _⟩ | ⟨_, h⟩
    · exact m
    · exact h
  refine ⟨by unfold setS; rw [List.length_set]; exact R.len, fun j t hj => ?_, fun j k b mj mk => R.inj j k b (mu j mj) (mu k mk), fun j b mj => R.nf j b (mu j mj), fun b f => ?_, fun j ys hj => ?_, fun j ys hj => ?_, fun p hp => ?_, fun p hp => ?_⟩
  · unfold setS at hj
    rw [getS_set ρ i j _ hi] at hj
    by_cases ej : j = i
    · subst ej
      rw [if_pos rfl] at hj
      refine ⟨_, e, ?_⟩
      have et := Option.some.inj hj
      subst et
      rcases hs with rfl | rfl <;> exact ⟨a, vs', rfl, ha, r⟩
    · rw [if_neg ej] at hj
      obtain ⟨v, h1, h2⟩ := R.sl j t hj
      refine ⟨v, h1, ?_⟩
      cases t with
      | d x => exact DR.ex ex h2
      | own ys =>
        obtain ⟨b, us, rfl, h3, h4⟩ := h2
        exact ⟨b, us, rfl, ex.keep b _ (.inr ⟨j, ej, .inl ⟨ys, hj⟩, h1⟩) h3, DRs.ex ex h4⟩
      | io ys =>
        obtain ⟨b, us, rfl, h3, h4⟩ := h2
        exact ⟨b, us, rfl, ex.keep b _ (.inr ⟨j, ej, .inr ⟨ys, hj⟩, h1⟩) h3, DRs.ex ex h4⟩
      | lk ys =>
        obtain ⟨b, us, rfl, h3, h4⟩ := h2
        obtain ⟨c, hc⟩ := R.lkS j ys hj
        obtain ⟨h5, _, h6⟩ := R.pinL _ hc
        have h5 : σ[j]? = some (some (V.ref c)) := h5
        rw [h1] at h5
        have := vref h5
        subst this
        exact ⟨b, us, rfl, ex.keep b _ (.inl h6) h3, DRs.ex ex h4⟩
  · have z := R.fok b f
    cases q' : H b with
    | none => exact absurd q' z
    | some o => rw [ex.keep b o (.inl f) q']; simp
  · unfold setS at hj
    rw [getS_set ρ i j _ hi] at hj
    by_cases ej : j = i
    · rw [if_pos ej] at hj
      rcases hs with rfl | rfl <;> cases hj
    · rw [if_neg ej] at hj
      exact R.lkS j ys hj
  · unfold setS at hj
    rw [getS_set ρ i j _ hi] at hj
    by_cases ej : j = i
    · subst ej
      rw [if_pos rfl] at hj
      rcases hs with rfl | rfl
      · cases hj
      · exact R.ioS _ _ q
    · rw [if_neg ej] at hj
      exact R.ioS j ys hj
  · obtain ⟨h1, ⟨ys, h2⟩, h3⟩ := R.pinL p hp
    refine ⟨h1, ⟨ys, ?_⟩, h3⟩
    unfold setS
    rw [getS_set ρ i p.1 _ hi, if_neg (fun z => by rw [z, q] at h2; rcases hs with rfl | rfl <;> cases h2)]
    exact h2
  · obtain ⟨h1, ys, h2⟩ := R.pinI p hp
    refine ⟨h1, ?_⟩
    unfold setS
    rw [getS_set ρ i p.1 _ hi]
    by_cases z : p.1 = i
    · rw [if_pos z]
      rw [z, q] at h2
      rcases hs with rfl | rfl
      · cases h2
      · exact ⟨xs', rfl⟩
    · rw [if_neg z]
      exact ⟨ys, h2⟩
theorem Rel.owned_ok (R : Rel K P F ρ σ H) : ∀ a, owned F ρ σ a → H a ≠ none := fun a h => by
  rcases h with h | ⟨i, m, e⟩
  · exact R.fok a h
  · obtain ⟨vs, q⟩ := R.own_at m e
    rw [q]; simp
theorem Rel.owned1_ok {i : Nat} (R : Rel K P F ρ σ H) : ∀ a, owned1 F ρ σ i a → H a ≠ none := fun a h => by
  rcases h with h | ⟨j, _, m, e⟩
  · exact R.fok a h
  · obtain ⟨vs, q⟩ := R.own_at m e
    rw [q]; simp
theorem VR0.vr {v : V} {r : Val} (h : VR0 K H (owned F ρ σ) v r) : VR K H F ρ σ v r := by
  cases r with
  | d x => exact h
  | own xs =>
    obtain ⟨a, vs, h1, h2, h3, h4⟩ := h
    exact ⟨a, vs, h1, h2, h3, fun f => h4 (.inl f), fun i m e => h4 (.inr ⟨i, m, e⟩)⟩
end
section
variable {X : Cx} {Γ : Gam} {T : Sg} {pos : Pos}
theorem se_call (ok : XOk Γ T X) {f : Expr → Option E} (hf : ∀ e c, f e = some c → SE X Γ e c) {x : Str} {id ar : Nat} {args : List Expr} {cs : Es} {p : Pos} (hg : T.gl x = some (.f id ar)) (hl : args.length = ar) (hc : compL f args = some cs) :
    SE X Γ (.Call (.Name x p) args [] pos) (.call id cs) := by
  obtain ⟨g1, ⟨fa, fd, k, ps, g2, g3, g4, g5, g6⟩, g7⟩ := gl_facts ok hg
  obtain ⟨pa, ns⟩ := sa_L hf hc
  refine se_plain (c := .call id cs) ?_ (fun i z => by cases z) rfl (fun _ => rfl)
  have key : ∀ {σ : L2.St} {H : Hp} {Q : VK}, tE X.K (ev Γ (.call id cs)) σ H Q → tCall (spF X.K ar (Γ.f id)) [] E0 (tA X.K (evs Γ cs)) σ H Q := fun {σ H Q} q => by
    obtain ⟨P, F, ρ, r, ρ', R, e, k⟩ := q
    obtain ⟨⟨ds, ρ1⟩, e1, e⟩ := bind_ok.mp e
    obtain ⟨z, e2, e⟩ := bind_ok.mp e
    cases e
    have dl := compL_len hc e1
    refine ⟨P, F, ρ, ds, _, R, e1, fun vs H1 x1 R1 d1 => ⟨owned F ρ' σ, ds, r, ?_, by rw [List.append_nil]; exact d1, R1.owned_ok, e2, fun v H2 x2 v2 => ?_⟩⟩
    · rw [List.append_nil, d1.len, dl, hl]
    · exact k v H2 (x1.trans (x2.weak fun a f => .inl f)) (R1.ex x2) v2.vr
  cases args with
  | nil =>
    cases hc
    refine (pe_call0 g4 g6 g1 g2 g3 g5 .nil (E := E0) pass0 g7).imp fun σ H Q q => ?_
    obtain ⟨P, F, ρ, ds, ρ', R, e, h⟩ := key q
    cases e
    exact h [] H (.refl H) R .nil
  | cons a as =>
    exact (pe_call g4 g6 g1 g2 g3 g5 .nil (E := E0) pass0 pa g7 (star_cons (ns a List.mem_cons_self)) (star_none fun e he => ns e (List.mem_cons_of_mem _ he))).imp fun σ H Q q => key q
theorem se_calli (ok : XOk Γ T X) {f : Expr → Option E} (hf : ∀ e c, f e = some c → SE X Γ e c) {x y : Str} {id ar i : Nat} {args : List Expr} {cs : Es} {p p2 : Pos} (hg : T.gl x = some (.g id ar)) (hl : args.length = ar) (hi : T.ix y = some i) (hc : compL f args = some cs) :
    SE X Γ (.Call (.Name x p) (.Name y p2 :: args) [] pos) (.calli id i cs) := by
  obtain ⟨g1, ⟨fa, fd, k, ps, g2, g3, g4, g5, g6⟩, g7⟩ := gl_facts ok hg
  obtain ⟨pa, ns⟩ := sa_L hf hc
  obtain ⟨h1, h2, h3, h4⟩ := ix_facts ok hi
  have base : PE X (.Name y p2) (tVar i) := pe_var h1 h2 h3 h4
  refine se_plain (c := .calli id i cs) ?_ (fun i z => by cases z) rfl (fun _ => rfl)
  refine (pe_call g4 g6 g1 g2 g3 g5 .nil (E := E0) pass0 (pa_cons base pa) g7 rfl (star_none ns)).imp fun σ H Q q => ?_
  obtain ⟨P, F, ρ, r, ρ', R, e, k⟩ := q
  have e : (if there ρ i = true then (evs Γ cs ρ).bind fun (ds, ρ1) => match getS ρ1 i with
    | some (.own xs) => (Γ.g id xs ds).bind fun (r, xs') => .ok (r, setS ρ1 i (.own xs'))
    | some (.io xs) => (Γ.g id xs ds).bind fun (r, xs') => .ok (r, setS ρ1 i (.io xs'))
    | _ => .no
    else .no) = .ok (r, ρ') := e
  by_cases th : there ρ i = true
  case neg => rw [if_neg th] at e; cases e
  rw [if_pos th] at e
  obtain ⟨⟨ds, ρ1⟩, e1, e⟩ := bind_ok.mp e
  have dl := compL_len hc e1
  dsimp only at e
  -- the list that is lent stands at the same place before and behind
  have go : ∀ (s : Slot) (xs : List D), getS ρ1 i = some s → (s = .own xs ∨ s = .io xs) → ∀ r' xs', Γ.g id xs ds = .ok (r', xs') → (r', setS ρ1 i (s.but xs')) = (r, ρ') →
      tCall (spG X.K ar (Γ.g id)) [] E0 (tCons (tVar i) (tA X.K (evs Γ cs))) σ H Q := fun s xs q hs r' xs' e2 e3 => by
    cases e3
    have hv : ∃ v, σ[i]? = some (some v) := by
      unfold there at th
      cases q0 : getS ρ i with
      | none => rw [q0] at th; cases th
      | some s0 =>
        obtain ⟨w, hw, _⟩ := R.sl i s0 q0
        exact ⟨w, hw⟩
    obtain ⟨v, hv⟩ := hv
    refine ⟨v, hv, P, F, ρ, ds, _, R, e1, fun vs H1 x1 R1 d1 => ?_⟩
    obtain ⟨w, h5, h6⟩ := R1.sl i s q
    rw [hv] at h5
    have ew : v = w := Option.some.inj (Option.some.inj h5)
    subst ew
    have h7 : ∃ a us, v = .ref a ∧ H1 a = some (.lst us) ∧ DRs X.K H1 us xs := by rcases hs with rfl | rfl <;> exact h6
    obtain ⟨a, us, rfl, h7, h8⟩ := h7
    have m : mutS ρ1 i := by
      rcases hs with rfl | rfl
      · exact .inl ⟨xs, q⟩
      · exact .inr ⟨xs, q⟩
    refine ⟨owned1 F ρ1 σ i, a, us, vs, xs, ds, r, xs', by rw [List.append_nil], by rw [d1.len, dl, hl], h7, h8, ?_, R1.owned1_ok, d1, e2, fun v H2 us' x2 h9 h10 v2 => ?_⟩
    · rintro (z | ⟨j, hj, mj, ej⟩)
      · exact R1.nf i a m hv z
      · exact hj (R1.inj j i a mj m ej hv)
    · have R2 := R1.lent q hs hv x2 h9 h10
      refine k v H2 (x1.trans (x2.weak fun a f => .inl f)) R2 ?_
      cases r with
      | d x => exact v2
      | own zs =>
        obtain ⟨b, ws, k1, k2, k3, k4⟩ := v2
        refine ⟨b, ws, k1, k2, k3, fun f => k4 (.inl (.inl f)), fun j mj ej => k4 ?_⟩
        have hi' := getS_lt q
        rcases mutS_set hi' mj with ⟨rfl, _⟩ | ⟨hne, mj'⟩
        · rw [hv] at ej
          exact .inr (vref ej).symm
        · exact .inl (.inr ⟨j, hne, mj', ej⟩)
  split at e
  · rename_i xs q
    obtain ⟨⟨r', xs'⟩, e2, e3⟩ := bind_ok.mp e
    exact go _ xs q (.inl rfl) r' xs' e2 (by injection e3)
  · rename_i xs q
    obtain ⟨⟨r', xs'⟩, e2, e3⟩ := bind_ok.mp e
    exact go _ xs q (.inr rfl) r' xs' e2 (by injection e3)
  · cases e
theorem isOwn_ok {K : PySem.W.Frag} {P : Pins} {F : Fr} {ρ : Env} {σ : L2.St} {H : Hp} {i : Nat} (R : Rel K P F ρ σ H) (h : isOwn ρ i = true) : ∃ a vs xs, getS ρ i = some (.own xs) ∧ σ[i]? = some (some (.ref a)) ∧ H a = some (.lst vs) ∧ DRs K H vs xs := by
  unfold isOwn at h
  split at h
  · rename_i xs q
    obtain ⟨v, h1, a, vs, rfl, h2, h3⟩ := R.sl i _ q
    exact ⟨a, vs, xs, q, h1, h2, h3⟩
  · cases h
theorem tyL {K : PySem.W.Frag} {H : Hp} {a : Addr} {vs : List V} (h : H a = some (.lst vs)) : tyV K "list" (.ref a) H := .inl ⟨rfl, vs, .inl (.inl h)⟩
theorem few1 {a : Expr} {env : PySem.Env} {pos : Pos} (h : isStar a = false) : ((backTo pos (starEach [a] env)).all (fun x => !x.1) && (backToKw pos (keywordEach [] env)).all (fun x => x.1.isSome)
      && decide (([a] : List Expr).length + ([] : List Keyword).length + (if ([] : List Keyword).isEmpty then 0 else 1) < 30)) = true := by
  rw [star_cons h]
  rfl
theorem se_app (ok : XOk Γ T X) {x : Str} {i : Nat} {a : Expr} {ca : E} {p ap : Pos} (hi : T.ix x = some i) (hl : (ap.endLine == pos.line) = true) (ha : SE X Γ a ca) : SE X Γ (.Call (.Attribute (.Name x p) "append" ap) [a] [] pos) (.app i ca) := by
  obtain ⟨h1, h2, h3, h4⟩ := ix_facts ok hi
  have base : PE X (.Name x p) (tVar i) := pe_var h1 h2 h3 h4
  refine se_plain (c := .app i ca) ?_ (fun i z => by cases z) rfl (fun _ => rfl)
  refine (pe_bm PySem.F.plainAttrs_list PySem.F.slot_list_append PySem.F.type_list_append mt_append base (pa_cons ha.pd pa_nil (star_cons ha.ns)) rfl (few1 ha.ns) hl (star_cons ha.ns) rfl).imp fun σ H Q q => ?_
  obtain ⟨P, F, ρ, r, ρ', R, e, k⟩ := q
  have e : (if isOwn ρ i = true then (ev Γ ca ρ).bind fun (v, ρ1) => match getS ρ1 i with
    | some (.own xs) => if xs.length < lim then .ok (.d .non, setS ρ1 i (.own (xs ++ [v.toD]))) else .no
    | _ => .no
    else .no) = .ok (r, ρ') := e
  by_cases th : isOwn ρ i = true
  case neg => rw [if_neg th] at e; cases e
  rw [if_pos th] at e
  obtain ⟨a0, vs0, xs0, q0, hv, h5, h6⟩ := isOwn_ok R th
  obtain ⟨⟨v, ρ1⟩, e1, e⟩ := bind_ok.mp e
  dsimp only at e
  refine ⟨_, hv, tyL h5, P, F, ρ, v, ρ1, R, e1, fun w H1 x1 R1 d1 => ?_⟩
  split at e
  · rename_i xs q
    split at e
    · rename_i hlim
      cases e
      obtain ⟨u, k1, b, us, rfl, k2, k3⟩ := R1.sl i _ q
      rw [hv] at k1
      have := vref k1
      subst this
      have m : mutS ρ1 i := .inl ⟨xs, q⟩
      have ln := k3.len
      have hs := lim_line
      refine ⟨a0, us, w, rfl, rfl, k2, by omega, ?_⟩
      have R2 := R1.upd q (.inl rfl) hv (k3.app (.one d1))
      exact k _ _ (x1.trans (Ex.set k2 (R1.nf i a0 m hv))) R2 .non
    · cases e
  · cases e
theorem se_pop (ok : XOk Γ T X) {x : Str} {i : Nat} {p ap : Pos} (hi : T.ix x = some i) (hl : (ap.endLine == pos.line) = true) : SE X Γ (.Call (.Attribute (.Name x p) "pop" ap) [] [] pos) (.pop i) := by
  obtain ⟨h1, h2, h3, h4⟩ := ix_facts ok hi
  have base : PE X (.Name x p) (tVar i) := pe_var h1 h2 h3 h4
  refine se_plain (c := .pop i) ?_ (fun i z => by cases z) rfl (fun _ => rfl)
  refine (pe_bm0 PySem.F.plainAttrs_list PySem.F.slot_list_pop PySem.F.type_list_pop mt_pop base rfl hl).imp fun σ H Q q => ?_
  obtain ⟨P, F, ρ, r, ρ', R, e, k⟩ := q
  have e : (match getS ρ i with
    | some (.own xs) => match xs.getLast? with
      | some x => .ok (.d x, setS ρ i (.own xs.dropLast))
      | none => .no
    | _ => .no) = Res.ok (r, ρ') := e
  split at e
  · rename_i xs q
    split at e
    · rename_i y hy
      cases e
      obtain ⟨u, k1, b, us, rfl, k2, k3⟩ := R.sl i _ q
      have m : mutS ρ i := .inl ⟨xs, q⟩
      rw [List.getLast?_eq_getElem?] at hy
      obtain ⟨w, k4, k5⟩ := k3.get hy
      refine ⟨_, k1, tyL k2, b, us, w, rfl, rfl, k2, by rw [k3.len]; exact k4, ?_⟩
      have dl : DRs X.K H us.dropLast xs.dropLast := by
        rw [List.dropLast_eq_take, List.dropLast_eq_take, k3.len]
        exact k3.take _
      have R2 := R.upd q (.inl rfl) k1 dl
      have x2 : Ex F H (upd H b (.lst us.dropLast)) := Ex.set k2 (R.nf i b m k1)
      exact k _ _ x2 R2 (DR.ex x2 k5)
    · cases e
  · cases e
theorem se_popA (ok : XOk Γ T X) {x : Str} {i : Nat} {a : Expr} {ca : E} {p ap : Pos} (hi : T.ix x = some i) (hl : (ap.endLine == pos.line) = true) (ha : SE X Γ a ca) : SE X Γ (.Call (.Attribute (.Name x p) "pop" ap) [a] [] pos) (.popA i ca) := by
  obtain ⟨h1, h2, h3, h4⟩ := ix_facts ok hi
  have base : PE X (.Name x p) (tVar i) := pe_var h1 h2 h3 h4
  refine se_plain (c := .popA i ca) ?_ (fun i z => by cases z) rfl (fun _ => rfl)
  refine (pe_bm PySem.F.plainAttrs_list PySem.F.slot_list_pop PySem.F.type_list_pop mt_popAt base (pa_cons ha.pd pa_nil (star_cons ha.ns)) rfl (few1 ha.ns) hl (star_cons ha.ns) rfl).imp fun σ H Q q => ?_
  obtain ⟨P, F, ρ, r, ρ', R, e, k⟩ := q
  have e : (if isOwn ρ i = true then (ev Γ ca ρ).bind fun (v, ρ1) => (asInt v).bind fun j => match getS ρ1 i with
    | some (.own xs) => match ixN xs.length j with
      | some k => match xs[k]? with
        | some x => if xs.length ≤ lim then .ok (.d x, setS ρ1 i (.own (xs.eraseIdx k))) else .no
        | none => .no
      | none => .no
    | _ => .no
    else .no) = .ok (r, ρ') := e
  by_cases th : isOwn ρ i = true
  case neg => rw [if_neg th] at e; cases e
  rw [if_pos th] at e
  obtain ⟨a0, vs0, xs0, q0, hv, h5, h6⟩ := isOwn_ok R th
  obtain ⟨⟨v, ρ1⟩, e1, e⟩ := bind_ok.mp e
  obtain ⟨j, e2, e3⟩ := bind_ok.mp e
  have ej := asInt_ok e2
  try dsimp only at e3 ej
  subst ej
  clear e
  refine ⟨_, hv, tyL h5, P, F, ρ, _, ρ1, R, e1, fun w H1 x1 R1 d1 => ?_⟩
  split at e3
  · rename_i xs q
    split at e3
    · rename_i n hn
      split at e3
      · rename_i y hy
        split at e3
        · rename_i hlim
          cases e3
          obtain ⟨u, k1, b, us, rfl, k2, k3⟩ := R1.sl i _ q
          rw [hv] at k1
          have := vref k1
          subst this
          have m : mutS ρ1 i := .inl ⟨xs, q⟩
          have ln := k3.len
          have hs := lim_line
          have hz := sizeLine_eq
          obtain ⟨s1, s2, s3, s4⟩ := ixN_seq hn
          obtain ⟨w2, k4, k5⟩ := k3.get hy
          have dw : w = .int j := by cases d1; rfl
          refine ⟨a0, us, j, n, w2, rfl, by rw [dw], k2, by omega, by omega, by rw [ln]; exact s1, k4, ?_⟩
          have R2 := R1.upd q (.inl rfl) hv (k3.erase n)
          have x2 : Ex F H1 (upd H1 a0 (.lst (us.eraseIdx n))) := Ex.set k2 (R1.nf i a0 m hv)
          exact k _ _ (x1.trans x2) R2 (DR.ex x2 k5)
        · cases e3
      · cases e3
    · cases e3
  · cases e3
theorem se_meth (ok : XOk Γ T X) {f : Expr → Option E} (hf : ∀ e c, f e = some c → SE X Γ e c) {o : Expr} {m : Str} {args : List Expr} {c : E} {ap : Pos} (hl : (ap.endLine == pos.line) = true) (h : compMeth T f o m args = some c) : SE X Γ (.Call (.Attribute o m ap) args [] pos) c := by
  unfold compMeth at h
  split at h
  · split at h
    · rename_i i hi
      split at h
      · rename_i e
        subst e
        split at h
        · obtain ⟨c', h2, rfl⟩ := Option.map_eq_some_iff.mp h
          exact se_app ok hi hl (hf _ _ h2)
        · cases h
      · split at h
        · rename_i e
          subst e
          split at h
          · cases h; exact se_pop ok hi hl
          · obtain ⟨c', h2, rfl⟩ := Option.map_eq_some_iff.mp h
            exact se_popA ok hi hl (hf _ _ h2)
          · cases h
        · cases h
    · cases h
  · split at h
    · rename_i kvs a b hd
      split at h
      · rename_i hh
        obtain ⟨rfl, h1, h2, h3⟩ := hh
        split at h
        · rename_i q1 q2
          cases h
          exact se_dget ok hd h1 h2 h3 hl (hf _ _ q1) (hf _ _ q2)
        · cases h
      · cases h
    · cases h
  · cases h
end
end AW

set_option Elab.async false
set_option linter.all false
set_option maxRecDepth 100000
set_option maxHeartbeats 4000000
/-! Soundness: targets, what is walked, list comprehensions, all expressions. -/
namespace AW
open PySem PySem.Spec PyProof.Rows L2

/-! ### targets -/
/-- what is owned then was owned before -/
def Fewer (ρ : Env) (σ : L2.St) (ρ' : Env) (σ' : L2.St) : Prop := ∀ j b, mutS ρ' j → σ'[j]? = some (some (.ref b)) → ∃ k, mutS ρ k ∧ σ[k]? = some (some (.ref b))
theorem Fewer.refl (ρ : Env) (σ : L2.St) : Fewer ρ σ ρ σ := fun j _ m e => ⟨j, m, e⟩
theorem Fewer.trans {ρ ρ1 ρ2 : Env} {σ σ1 σ2 : L2.St} (a : Fewer ρ σ ρ1 σ1) (b : Fewer ρ1 σ1 ρ2 σ2) : Fewer ρ σ ρ2 σ2 := fun j c m e => let ⟨k, h1, h2⟩ := b j c m e; a k c h1 h2
theorem put_is {ρ ρ' : Env} {i : Nat} {r : Val} (h : put ρ i r = .ok ρ') : ρ' = setS ρ i r.slot := by
  unfold put at h
  cases e : getS ρ i with
  | none => rw [e] at h; cases h; rfl
  | some s =>
    rw [e] at h
    cases s with
    | d x => cases h; rfl
    | own xs => cases h; rfl
    | lk xs => cases h
    | io xs => cases h
theorem Fewer.put {ρ ρ' : Env} {σ : L2.St} {i : Nat} {x : D} {v : V} (hi : i < σ.length) (hl : ρ.length = σ.length) (h : put ρ i (.d x) = .ok ρ') : Fewer ρ σ ρ' (σ.set i (some v)) := fun j b m e => by
  rw [put_is h] at m
  rcases mutS_set (by rw [hl]; exact hi) m with ⟨_, ⟨_, z⟩ | ⟨_, z⟩⟩ | ⟨h1, h2⟩
  · cases z
  · cases z
  · rw [List.getElem?_set_ne (Ne.symm h1)] at e
    exact ⟨j, h2, e⟩
def gT (K : PySem.W.Frag) (t : Tg) : TG := fun v σ H Q => ∃ P F ρ x ρ', Rel K P F ρ σ H ∧ DR K H v x ∧ bindT t x ρ = .ok ρ' ∧
  ∀ σ', Rel K P F ρ' σ' H → (∀ own, tgIn own t = true → wipe σ' own = wipe σ own) → Fewer ρ σ ρ' σ' → Q σ' H
def gTs (K : PySem.W.Frag) (t : Tgs) : TGs := fun vs σ H Q => ∃ P F ρ xs ρ', Rel K P F ρ σ H ∧ DRs K H vs xs ∧ bindTs t xs ρ = .ok ρ' ∧
  ∀ σ', Rel K P F ρ' σ' H → (∀ own, tgsIn own t = true → wipe σ' own = wipe σ own) → Fewer ρ σ ρ' σ' → Q σ' H
def tgsLen : Tgs → Nat
  | .nil => 0
  | .cons _ r => tgsLen r + 1
theorem wipe_set_mem {σ : L2.St} {i : Nat} {v : Option V} : ∀ {own : List Nat}, i ∈ own → wipe (σ.set i v) own = wipe σ own
  | j :: own, h => by
    unfold wipe
    by_cases hm : i ∈ own
    · rw [wipe_set_mem hm]
    · rcases List.mem_cons.mp h with rfl | h
      · have key : ∀ (l : List Nat), i ∉ l → wipe (σ.set i v) l = (wipe σ l).set i v := fun l => by
          induction l with
          | nil => intro _; rfl
          | cons k l ih =>
            intro hk
            rw [List.mem_cons, not_or] at hk
            unfold wipe
            rw [ih hk.2, List.set_comm _ _ hk.1]
        rw [key own hm, List.set_set]
      · exact absurd h hm
section
variable {X : Cx} {Γ : Gam} {T : Sg} {pos : Pos}
theorem tg_facts (ok : XOk Γ T X) {x : Str} {i : Nat} (h : T.tg x = some i) : X.N[i]? = some x ∧ Loc X.env.scope x ∧ (X.fn x = true ∨ X.env.scope.names.lookup x = some .local) := by
  unfold Sg.tg at h
  split at h
  · rename_i hh
    rw [Bool.and_eq_true, Bool.or_eq_true] at hh
    refine ⟨by rw [ok.N]; exact pos?_at h, ?_, ?_⟩
    · rw [ok.sc]
      have := hh.1
      unfold isLoc Sg.kind at this
      split at this <;> first | (cases this; done) | skip
      · rename_i e; exact .inl e
      · rename_i e; exact .inr e
    · rcases hh.2 with h1 | h1
      · left; rw [ok.fn]; exact h1
      · right
        rw [ok.sc]
        unfold isLocal Sg.kind at h1
        split at h1 <;> first | (cases h1; done) | assumption
  · cases h
theorem lt_N {X : Cx} {x : Str} {i : Nat} {pins : List (Addr × Obj)} {σ : L2.St} {H : Hp} {s : Shared} (I : Inv X pins σ H s) (h : X.N[i]? = some x) : i < σ.length := by
  rw [I.len]
  exact (List.getElem?_eq_some_iff.mp h).1
theorem as_len (env : PySem.Env) : ∀ es : List Expr, (assignEach es env).length = es.length
  | [] => rfl
  | e :: es => by
    have ih := as_len env es
    cases e <;> (show (assignEach es env).length + 1 = es.length + 1; rw [ih])
theorem as_cons {env : PySem.Env} {e : Expr} {es : List Expr} (h : isStar e = false) : assignEach (e :: es) env = (false, assign e env) :: assignEach es env := by
  cases e <;> first | rfl | (unfold isStar at h; cases h)
theorem as_none {env : PySem.Env} : ∀ {es : List Expr}, (∀ e ∈ es, isStar e = false) → (assignEach es env).findIdx? (·.1) = none
  | [], _ => rfl
  | e :: es, h => by
    rw [as_cons (h e List.mem_cons_self), List.findIdx?_cons]
    simp only [Bool.false_eq_true, if_false]
    rw [as_none (es := es) fun x hx => h x (List.mem_cons_of_mem _ hx)]
    rfl
theorem bindTs_len : ∀ {ts : Tgs} {xs : List D} {ρ ρ' : Env}, bindTs ts xs ρ = .ok ρ' → xs.length = tgsLen ts
  | .nil, [], _, _, _ => rfl
  | .cons t r, x :: xs, ρ, ρ', e => by
    obtain ⟨ρ1, _, e2⟩ := bind_ok.mp (show (bindT t x ρ).bind (fun ρ' => bindTs r xs ρ') = .ok ρ' from e)
    show xs.length + 1 = tgsLen r + 1
    rw [bindTs_len e2]
theorem compTgs_len : ∀ {n : Nat} {es : List Expr} {ts : Tgs}, compTgs n T es = some ts → es.length = tgsLen ts
  | 0, _, _, h => by cases h
  | n + 1, es, t, h => by
    unfold compTgs at h
    split at h
    · cases h; rfl
    · split at h
      · rename_i hb
        cases h
        rw [List.length_cons, compTgs_len hb]
        rfl
      · cases h
mutual
theorem sg_T (ok : XOk Γ T X) : ∀ (n : Nat) {e : Expr} {t : Tg}, compTg n T e = some t → PG X e (gT X.K t) ∧ isStar e = false
  | 0, _, _, h => by cases h
  | n + 1, e, t, h => by
    unfold compTg at h
    split at h
    · obtain ⟨i, hi, rfl⟩ := Option.map_eq_some_iff.mp h
      obtain ⟨h1, h2, h3⟩ := tg_facts ok hi
      refine ⟨⟨fun pins s σ H v u Q I r q => ?_⟩, rfl⟩
      obtain ⟨P, F, ρ, x, ρ', R, d, e, k⟩ := q
      refine (pg_name ok.nd h1 h2 h3).run pins s σ H v u Q I r ?_
      exact k _ (R.put (lt_N I h1) e d) (fun own ho => wipe_set_mem (by
        unfold tgIn at ho
        exact List.contains_iff_mem.mp ho)) (Fewer.put (lt_N I h1) R.len e)
    · obtain ⟨ts, hts, rfl⟩ := Option.map_eq_some_iff.mp h
      rename_i es j p
      obtain ⟨h1, h2⟩ := sg_Ts ok n hts
      refine ⟨⟨fun pins s σ H v u Q I r q => ?_⟩, rfl⟩
      obtain ⟨P, F, ρ, x, ρ', R, d, e, k⟩ := q
      refine (pg_tup (n := es.length) ok.calm h1 (as_len _ _) (as_none h2)).run pins s σ H v u Q I r ?_
      have e : (match x with
        | .tup xs => bindTs ts xs ρ
        | _ => .no) = .ok ρ' := by
        cases x <;> exact e
      split at e
      · cases d with
        | tup hs hd =>
          refine ⟨_, _, rfl, hs, ?_, P, F, ρ, _, ρ', R, hd, e, fun σ' R' hw fw => k σ' R' hw fw⟩
          have := bindTs_len e
          have l2 := hd.len
          have l3 := compTgs_len hts
          omega
      · cases e
    · cases h
theorem sg_Ts (ok : XOk Γ T X) : ∀ (n : Nat) {es : List Expr} {t : Tgs}, compTgs n T es = some t → PGs X es (gTs X.K t) ∧ ∀ e ∈ es, isStar e = false
  | 0, _, _, h => by cases h
  | n + 1, es, t, h => by
    unfold compTgs at h
    split at h
    · cases h
      refine ⟨⟨fun pins s σ H vs us Q I r q => ?_⟩, fun _ h => (nomatch h)⟩
      obtain ⟨P, F, ρ, xs, ρ', R, d, e, k⟩ := q
      cases d with
      | nil => cases e; exact (pgs_nil (X := X)).run pins s σ H [] us Q I r ⟨rfl, k σ R (fun _ _ => rfl) (.refl _ _)⟩
      | cons _ _ => cases e
    · split at h
      · rename_i a b ha hb
        cases h
        obtain ⟨h1, h2⟩ := sg_T ok n ha
        obtain ⟨h3, h4⟩ := sg_Ts ok n hb
        refine ⟨⟨fun pins s σ H vs us Q I r q => ?_⟩, fun x hx => ?_⟩
        · obtain ⟨P, F, ρ, xs, ρ', R, d, e, k⟩ := q
          cases d with
          | nil => cases e
          | cons d1 dr =>
            have e : (bindT a _ ρ).bind (fun ρ' => bindTs b _ ρ') = .ok ρ' := e
            obtain ⟨ρ1, e1, e2⟩ := bind_ok.mp e
            refine (pgs_cons h1 h3 (by rw [as_cons h2]; rfl)).run pins s σ H _ us Q I r ⟨_, _, rfl, P, F, ρ, _, ρ1, R, d1, e1, fun σ1 R1 w1 f1 => ⟨P, F, ρ1, _, ρ', R1, dr, e2, fun σ2 R2 w2 f2 => k σ2 R2 (fun own ho => ?_) (f1.trans f2)⟩⟩
            unfold tgsIn at ho
            rw [Bool.and_eq_true] at ho
            rw [w2 own ho.2, w1 own ho.1]
        · rcases List.mem_cons.mp hx with rfl | hx
          · exact h2
          · exact h4 x hx
      · cases h
end
end
end AW

set_option Elab.async false
set_option linter.all false
set_option maxRecDepth 100000
set_option maxHeartbeats 4000000
/-! Soundness: what is walked, list comprehensions, all expressions. -/
namespace AW
open PySem PySem.Spec PyProof.Rows L2

structure ItD (K : PySem.W.Frag) (J : L2.It) (xs : List D) (F : Fr) (H0 : Hp) : Prop where
  go : ∀ i H, Ex F H0 H → i < xs.length → J.go i H
  yld : ∀ i H v H', Ex F H0 H → J.yld i H v H' → ∀ x, xs[i]? = some x → (∀ G, Ex G H H') ∧ DR K H' v x
  stop : ∀ H, Ex F H0 H → J.stop xs.length H
  len : xs.length ≤ sizeLine
/-- how the walked list is let go -/
def UnL (K : PySem.W.Frag) (P : Pins) (F : Fr) (P' : Pins) (F' : Fr) (H0 : Hp) (lk : Option Nat) : Prop :=
  ∀ ρ2 σ2 H2 ρ3, Rel K P' F' ρ2 σ2 H2 → Ex F' H0 H2 → unlock lk ρ2 = .ok ρ3 → Rel K P F ρ3 σ2 H2 ∧ ∀ j b, mutS ρ3 j → σ2[j]? = some (some (.ref b)) → F' b ∨ mutS ρ2 j
def tI (K : PySem.W.Frag) (f : Env → Res (List D × Env × Option Nat)) : TI := fun σ H R => ∃ P F ρ xs ρ' lk, Rel K P F ρ σ H ∧ f ρ = .ok (xs, ρ', lk) ∧
  ∀ J H' P' F', Ex F H H' → (∀ a, F a → F' a) → Rel K P' F' ρ' σ H' → ItD K J xs F' H' → UnL K P F P' F' H' lk → R J H'
section
variable {K : PySem.W.Frag} {P : Pins} {F : Fr} {ρ : Env} {σ : L2.St} {H H' : Hp}
theorem UnL.free {F' : Fr} {H0 : Hp} (h : ∀ a, F a → F' a) (hl : ∀ p ∈ P.lk, F p.2) : UnL K P F P F' H0 none := fun ρ2 σ2 H2 ρ3 R _ e => by
  cases e
  exact ⟨R.shrink h hl, fun j b m _ => .inr m⟩
theorem Rel.lock {i : Nat} {a : Addr} {xs : List D} (R : Rel K P F ρ σ H) (q : getS ρ i = some (.own xs)) (e : σ[i]? = some (some (.ref a))) : Rel K ⟨(i, a) :: P.lk, P.io⟩ (plus F a) (setS ρ i (.lk xs)) σ H := by
  have m : mutS ρ i := .inl ⟨xs, q⟩
  have hi := getS_lt q
  have mu : ∀ j, mutS (setS ρ i (.lk xs)) j → mutS ρ j ∧ j ≠ i := fun j hj => by
    rcases mutS_set hi hj with ⟨_, ⟨_, z⟩ | ⟨_, z⟩⟩ | ⟨h1, h2⟩
    · cases z
    · cases z
    · exact ⟨h2, h1⟩
  refine ⟨by unfold setS; rw [List.length_set]; exact R.len, fun j t hj => ?_, fun j k b mj mk => R.inj j k b (mu j mj).1 (mu k mk).1, fun j b mj ej f => ?_, fun b f => ?_, fun j ys hj => ?_, fun j ys hj => ?_, fun p hp => ?_, fun p hp => ?_⟩
  · unfold setS at hj
    rw [getS_set ρ i j _ hi] at hj
    by_cases z : j = i
    · subst z
      rw [if_pos rfl] at hj
      have et := Option.some.inj hj
      subst et
      obtain ⟨v, k1, k2⟩ := R.sl j (.own xs) q
      exact ⟨v, k1, k2⟩
    · rw [if_neg z] at hj
      exact R.sl j t hj
  · rcases f with f | f
    · exact R.nf j b (mu j mj).1 ej f
    · subst f
      exact (mu j mj).2 (R.inj j i b (mu j mj).1 m ej e)
  · rcases f with f | f
    · exact R.fok b f
    · obtain ⟨vs, z⟩ := R.own_at m e
      rw [f, z]; simp
  · unfold setS at hj
    rw [getS_set ρ i j _ hi] at hj
    by_cases z : j = i
    · subst z; exact ⟨a, List.mem_cons_self⟩
    · rw [if_neg z] at hj
      obtain ⟨b, hb⟩ := R.lkS j ys hj
      exact ⟨b, List.mem_cons_of_mem _ hb⟩
  · unfold setS at hj
    rw [getS_set ρ i j _ hi] at hj
    by_cases z : j = i
    · rw [if_pos z] at hj; cases hj
    · rw [if_neg z] at hj
      exact R.ioS j ys hj
  · rcases List.mem_cons.mp hp with rfl | hp
    · refine ⟨e, ⟨xs, ?_⟩, .inr rfl⟩
      unfold setS
      rw [getS_set ρ i i _ hi, if_pos rfl]
    · obtain ⟨h1, ⟨ys, h2⟩, h3⟩ := R.pinL p hp
      refine ⟨h1, ⟨ys, ?_⟩, .inl h3⟩
      unfold setS
      rw [getS_set ρ i p.1 _ hi, if_neg (fun z => by rw [z, q] at h2; cases h2)]
      exact h2
  · obtain ⟨h1, ys, h2⟩ := R.pinI p hp
    refine ⟨h1, ys, ?_⟩
    unfold setS
    rw [getS_set ρ i p.1 _ hi, if_neg (fun z => by rw [z, q] at h2; cases h2)]
    exact h2
theorem UnL.locked {i : Nat} {a : Addr} {xs : List D} {H0 : Hp} (R : Rel K P F ρ σ H) (q : getS ρ i = some (.own xs)) (e : σ[i]? = some (some (.ref a))) : UnL K P F ⟨(i, a) :: P.lk, P.io⟩ (plus F a) H0 (some i) := fun ρ2 σ2 H2 ρ3 R2 _ e2 => by
  have m : mutS ρ i := .inl ⟨xs, q⟩
  have nfa := R.nf i a m e
  have npl : ∀ p ∈ P.lk, p.1 ≠ i := fun p hp z => by
    obtain ⟨_, ⟨ys, h2⟩, _⟩ := R.pinL p hp
    rw [z, q] at h2; cases h2
  have npi : ∀ p ∈ P.io, p.1 ≠ i := fun p hp z => by
    obtain ⟨_, ys, h2⟩ := R.pinI p hp
    rw [z, q] at h2; cases h2
  unfold unlock at e2
  dsimp only at e2
  split at e2
  · rename_i ys q2
    cases e2
    have hi := getS_lt q2
    obtain ⟨ei, _, _⟩ := R2.pinL (i, a) List.mem_cons_self
    have ei : σ2[i]? = some (some (V.ref a)) := ei
    have mu : ∀ j, mutS (setS ρ2 i (.own ys)) j → j = i ∨ (j ≠ i ∧ mutS ρ2 j) := fun j hj => by
      rcases mutS_set hi hj with ⟨h1, _⟩ | h2
      · exact .inl h1
      · exact .inr h2
    refine ⟨⟨by unfold setS; rw [List.length_set]; exact R2.len, fun j t hj => ?_, fun j k b mj mk ej ek => ?_, fun j b mj ej f => ?_, fun b f => R2.fok b (.inl f), fun j zs hj => ?_, fun j zs hj => ?_, fun p hp => ?_, fun p hp => ?_⟩, fun j b mj ej => ?_⟩
    · unfold setS at hj
      rw [getS_set ρ2 i j _ hi] at hj
      by_cases z : j = i
      · subst z
        rw [if_pos rfl] at hj
        have et := Option.some.inj hj
        subst et
        obtain ⟨v, k1, k2⟩ := R2.sl j (.lk ys) q2
        exact ⟨v, k1, k2⟩
      · rw [if_neg z] at hj
        exact R2.sl j t hj
    · rcases mu j mj with rfl | ⟨h1, h2⟩
      · rcases mu k mk with rfl | ⟨h3, h4⟩
        · rfl
        · rw [ei] at ej
          exact absurd (.inr (vref ej).symm) (R2.nf k b h4 ek)
      · rcases mu k mk with rfl | ⟨h3, h4⟩
        · rw [ei] at ek
          exact absurd (.inr (vref ek).symm) (R2.nf j b h2 ej)
        · exact R2.inj j k b h2 h4 ej ek
    · rcases mu j mj with rfl | ⟨h1, h2⟩
      · rw [ei] at ej
        have := vref ej
        subst this
        exact nfa f
      · exact R2.nf j b h2 ej (.inl f)
    · unfold setS at hj
      rw [getS_set ρ2 i j _ hi] at hj
      by_cases z : j = i
      · rw [if_pos z] at hj; cases hj
      · rw [if_neg z] at hj
        obtain ⟨b, hb⟩ := R2.lkS j zs hj
        rcases List.mem_cons.mp hb with h | h
        · cases h; exact absurd rfl z
        · exact ⟨b, h⟩
    · unfold setS at hj
      rw [getS_set ρ2 i j _ hi] at hj
      by_cases z : j = i
      · rw [if_pos z] at hj; cases hj
      · rw [if_neg z] at hj
        exact R2.ioS j zs hj
    · obtain ⟨h1, ⟨zs, h2⟩, _⟩ := R2.pinL p (List.mem_cons_of_mem _ hp)
      refine ⟨h1, ⟨zs, ?_⟩, R.lkF p hp⟩
      unfold setS
      rw [getS_set ρ2 i p.1 _ hi, if_neg (npl p hp)]
      exact h2
    · obtain ⟨h1, zs, h2⟩ := R2.pinI p hp
      refine ⟨h1, zs, ?_⟩
      unfold setS
      rw [getS_set ρ2 i p.1 _ hi, if_neg (npi p hp)]
      exact h2
    · rcases mu j mj with rfl | ⟨_, h⟩
      · rw [ei] at ej
        exact .inl (.inr (vref ej).symm)
      · exact .inr h
  · cases e2
end
section
variable {X : Cx} {Γ : Gam} {T : Sg} {pos : Pos} {tg : Expr}
/-- a list or a tuple, walked -/
theorem pi_any {l : Expr} {tl : TE} (hl : PE X l tl) : PI X tg l (fun σ H R => tl σ H fun x H1 => ∃ a, x = .ref a ∧ (((∃ xs, SqL X.K H1 a xs) ∧ R (Itl X.K a) H1) ∨ ((∃ xs, SqT X.K H1 a xs) ∧ R (Itt X.K a) H1))) := by
  refine ⟨fun pins s σ H R I h => ?_⟩
  refine thn (hl.run pins s σ H _ I h) fun v s1 ⟨x, H1, I1, r1, q1⟩ => ?_
  obtain ⟨a, e, q1⟩ := q1
  subst e
  cases r1
  rcases q1 with ⟨⟨xs, hq⟩, q⟩ | ⟨⟨xs, hq⟩, q⟩
  · obtain ⟨its, rv, p, hz⟩ := I1.list hq
    refine wpAny_pyIter_list p.isList ?_
    refine ⟨s1.heap.objs.size, [s1.heap.objs.size], _, _, H1, rfl, I1.kept (t' := s1.toks) fun b o e => Heap.get?_push_of_some _ e, turn_list a _, ⟨_, Heap.get?_push_size _ rfl, rfl, rfl⟩, fun b hb => ?_, q⟩
    have e : b = s1.heap.objs.size := by simpa using hb
    subst e
    exact I1.fpOk (Nat.le_refl _) (I1.hok.fresh (Nat.le_refl _))
  · obtain ⟨its, rv, p, hz⟩ := I1.tuple hq
    refine wpAny_pyIter_tuple (show s1.heap.IsTuple a its.toArray from p) ?_
    refine ⟨s1.heap.objs.size, [s1.heap.objs.size], _, _, H1, rfl, I1.kept (t' := s1.toks) fun b o e => Heap.get?_push_of_some _ e, turn_tuple a _, ⟨_, Heap.get?_push_size _ rfl, rfl, rfl⟩, fun b hb => ?_, q⟩
    have e : b = s1.heap.objs.size := by simpa using hb
    subst e
    exact I1.fpOk (Nat.le_refl _) (I1.hok.fresh (Nat.le_refl _))
theorem itd_list {K : PySem.W.Frag} {a : Addr} {vs : List V} {xs : List D} {F : Fr} {H0 : Hp} (h : ∀ H, Ex F H0 H → SqL K H a vs) (r : DRs K H0 vs xs) (hz : xs.length ≤ sizeLine) : ItD K (Itl K a) xs F H0 where
  go := fun i H e hi => by
    have hl := r.len
    exact ⟨vs, vs[i]'(by omega), h H e, List.getElem?_eq_getElem _⟩
  yld := fun i H v H' e y x hx => by
    obtain ⟨rfl, y⟩ := y
    obtain ⟨w, h1, h2⟩ := r.get hx
    have := y vs (h _ e)
    rw [h1] at this
    cases this
    exact ⟨fun _ => .refl _, DR.ex e h2⟩
  stop := fun H e => ⟨vs, h H e, by rw [r.len]; exact Nat.le_refl _⟩
  len := hz
theorem itd_tup {K : PySem.W.Frag} {a : Addr} {vs : List V} {xs : List D} {F : Fr} {H0 : Hp} (h : SqT K H0 a vs) (r : DRs K H0 vs xs) (hz : xs.length ≤ sizeLine) : ItD K (Itt K a) xs F H0 where
  go := fun i H e hi => by
    have hl := r.len
    exact ⟨vs, vs[i]'(by omega), e.sqT h, List.getElem?_eq_getElem _⟩
  yld := fun i H v H' e y x hx => by
    obtain ⟨rfl, y⟩ := y
    obtain ⟨w, h1, h2⟩ := r.get hx
    have := y vs (e.sqT h)
    rw [h1] at this
    cases this
    exact ⟨fun _ => .refl _, DR.ex e h2⟩
  stop := fun H e => ⟨vs, e.sqT h, by rw [r.len]; exact Nat.le_refl _⟩
  len := hz
/-- the sizes that the heap knows -/
theorem pe_sized {e : Expr} {t : TE} (h : PE X e t) : PE X e (fun σ H Q => t σ H fun v H' => (∀ a xs, v = .ref a → (SqL X.K H' a xs ∨ SqT X.K H' a xs) → xs.length ≤ sizeLine) → Q v H') :=
  ⟨fun pins s σ H Q I q => thn (h.run pins s σ H _ I q) fun u s1 ⟨v, H1, I1, r1, q1⟩ => ⟨v, H1, I1, r1, q1 fun a xs _ hq => by
    rcases hq with hq | hq
    · obtain ⟨_, _, _, z⟩ := I1.list hq; exact z
    · obtain ⟨_, _, _, z⟩ := I1.tuple hq; exact z⟩⟩
theorem items_rd {K : PySem.W.Frag} {H : Hp} {v : V} {x : D} {xs : List D} (d : DR K H v x) (e : items? x = some xs) : ∃ a vs, v = .ref a ∧ DRs K H vs xs ∧ ((∃ o, H a = some (.frz o (.lst vs))) ∨ SqT K H a vs) := by
  cases d with
  | tup h r => cases e; exact ⟨_, _, rfl, r, .inr h⟩
  | lst h r => cases e; exact ⟨_, _, rfl, r, .inl h⟩
  | _ => cases e
theorem si_e {e : Expr} {c : E} (he : SE X Γ e c) : PI X tg e (tI X.K (evIt Γ (.e c))) := by
  refine ⟨fun pins s σ H R I h => ?_⟩
  refine (pi_any (pe_sized he.pk)).run pins s σ H R I ?_
  obtain ⟨P, F, ρ, xs, ρ', lk, Re, e1, k⟩ := h
  obtain ⟨⟨p, ρ1⟩, e2, e3⟩ := bind_ok.mp e1
  dsimp only at e3
  refine ⟨P, F, ρ, p, ρ1, Re, e2, fun v H1 x1 R1 p1 hsz => ?_⟩
  have data : ∀ {x : D} {ys : List D}, DR X.K H1 v x → items? x = some ys → ys = xs → ρ1 = ρ' → none = lk → ∃ a, v = .ref a ∧ (((∃ xs, SqL X.K H1 a xs) ∧ R (Itl X.K a) H1) ∨ ((∃ xs, SqT X.K H1 a xs) ∧ R (Itt X.K a) H1)) := fun {x ys} d hi ex ey ez => by
    subst ex ey ez
    obtain ⟨a, vs, rfl, hr, hq⟩ := items_rd d hi
    refine ⟨a, rfl, ?_⟩
    rcases hq with ⟨o, hq⟩ | hq
    · have hs : SqL X.K H1 a vs := .inl (.inr ⟨o, hq⟩)
      refine .inl ⟨⟨vs, hs⟩, k _ H1 P F x1 (fun _ f => f) R1 (itd_list (fun H2 ex => .inl (.inr ⟨o, ex.frz _ _ _ hq⟩)) hr (by rw [← hr.len]; exact hsz a vs rfl (.inl hs))) (.free (fun _ f => f) Re.lkF)⟩
    · exact .inr ⟨⟨vs, hq⟩, k _ H1 P F x1 (fun _ f => f) R1 (itd_tup hq hr (by rw [← hr.len]; exact hsz a vs rfl (.inr hq))) (.free (fun _ f => f) Re.lkF)⟩
  cases p with
  | val r =>
    cases r with
    | d x =>
      unfold lock at e3
      dsimp only at e3
      split at e3
      · rename_i ys hi
        have e3 := Res.ok.inj e3
        cases e3
        exact data p1 hi rfl rfl rfl
      · cases e3
    | own ys =>
      cases e3
      obtain ⟨a, vs, rfl, h1, h2, h3, h4⟩ := p1
      have hs : SqL X.K H1 a vs := SqL.of h1
      refine ⟨a, rfl, .inl ⟨⟨vs, hs⟩, k _ H1 P (plus F a) x1 (fun _ f => .inl f) (R1.grow h1 h4) (itd_list (fun H2 ex => SqL.of (ex.keep a _ (.inr rfl) h1)) h2 (by rw [← h2.len]; exact hsz a vs rfl (.inl hs))) (.free (fun _ f => .inl f) Re.lkF)⟩⟩
  | var i =>
    have hv : σ[i]? = some (some v) := p1
    unfold lock at e3
    dsimp only at e3
    cases q : getS ρ1 i with
    | none => rw [q] at e3; cases e3
    | some sl =>
      rw [q] at e3
      obtain ⟨w, h1, h2⟩ := R1.sl i sl q
      rw [hv] at h1
      have ew : v = w := Option.some.inj (Option.some.inj h1)
      subst ew
      cases sl with
      | d x =>
        dsimp only at e3
        split at e3
        · rename_i ys hi
          have e3 := Res.ok.inj e3
          cases e3
          exact data h2 hi rfl rfl rfl
        · cases e3
      | own ys =>
        cases e3
        obtain ⟨a, vs, rfl, h3, h4⟩ := h2
        have hs : SqL X.K H1 a vs := SqL.of h3
        exact ⟨a, rfl, .inl ⟨⟨vs, hs⟩, k _ H1 _ (plus F a) x1 (fun _ f => .inl f) (R1.lock q hv) (itd_list (fun H2 ex => SqL.of (ex.keep a _ (.inr rfl) h3)) h4 (by rw [← h4.len]; exact hsz a vs rfl (.inl hs))) (UnL.locked R1 q hv)⟩⟩
      | lk ys => cases e3
      | io ys => cases e3
theorem itd_rng {K : PySem.W.Frag} {n : Nat} {F : Fr} {H0 : Hp} (hn : n ≤ 1000000) : ItD K (Itr 0 n) ((List.range n).map (fun (i : Nat) => D.int i)) F H0 where
  go := fun i H e hi => by rw [List.length_map, List.length_range] at hi; exact hi
  yld := fun i H v H' e y x hx => by
    obtain ⟨rfl, rfl⟩ := y
    refine ⟨fun _ => .refl _, ?_⟩
    rw [List.getElem?_map] at hx
    obtain ⟨j, hj, rfl⟩ := Option.map_eq_some_iff.mp hx
    have : j = i := by
      have h2 : i < n := by
        have := (List.getElem?_eq_some_iff.mp hj).1
        rwa [List.length_range] at this
      rw [List.getElem?_range h2] at hj
      exact (Option.some.inj hj).symm
    subst this
    rw [Int.zero_add]
    exact .int _
  stop := fun H e => by show n ≤ _; rw [List.length_map, List.length_range]; exact Nat.le_refl _
  len := by rw [List.length_map, List.length_range]; have := sizeLine_eq; omega
theorem si_rng (ok : XOk Γ T X) {e a : Expr} {c : E} (h : rangeOf T e = some a) (he : SE X Γ a c) : PI X tg e (tI X.K (evIt Γ (.rng c))) := by
  obtain ⟨q1, q2, rfl, hr⟩ := rangeOf_is h
  obtain ⟨f1, f2, f3⟩ := bi_facts ok hr
  refine ⟨fun pins s σ H R I h => ?_⟩
  refine (pi_range1 f1 f2 (pa_cons he.pe pa_nil (star_cons he.ns)) (star_cons he.ns)).run pins s σ H R I ?_
  obtain ⟨P, F, ρ, xs, ρ', lk, Re, e1, k⟩ := h
  obtain ⟨⟨v, ρ1⟩, e2, e3⟩ := bind_ok.mp e1
  obtain ⟨n, e4, e5⟩ := bind_ok.mp e3
  have e6 := asInt_ok e4
  try dsimp only at e6 e5
  subst e6
  split at e5
  · rename_i hn
    have e5 := Res.ok.inj e5
    cases e5
    refine ⟨P, F, ρ, _, _, Re, e2, fun w H1 x1 R1 d1 => ⟨n, by cases d1; rfl, by omega, by omega, ?_⟩⟩
    exact k _ H1 P F x1 (fun _ f => f) R1 (itd_rng (by omega)) (.free (fun _ f => f) Re.lkF)
  · cases e5
theorem DRs.zipget {K : PySem.W.Frag} {H : Hp} {vs ws : List V} {xs ys : List D} {i : Nat} {x : D} (h1 : DRs K H vs xs) (h2 : DRs K H ws ys) (hx : ((xs.zip ys).map fun p => D.tup [p.1, p.2])[i]? = some x) :
    ∃ v w a b, vs[i]? = some v ∧ ws[i]? = some w ∧ DR K H v a ∧ DR K H w b ∧ x = .tup [a, b] := by
  rw [List.getElem?_map] at hx
  obtain ⟨⟨a, b⟩, hj, rfl⟩ := Option.map_eq_some_iff.mp hx
  obtain ⟨g1, g2⟩ := List.getElem?_zip_eq_some.mp hj
  obtain ⟨v, k1, k2⟩ := h1.get g1
  obtain ⟨w, k3, k4⟩ := h2.get g2
  exact ⟨v, w, a, b, k1, k3, k2, k4, rfl⟩
theorem itd_zip {K : PySem.W.Frag} {a b : Addr} {vs ws : List V} {xs ys : List D} {F : Fr} {H0 : Hp} (h1 : ∀ H, Ex F H0 H → SqL K H a vs) (h2 : ∀ H, Ex F H0 H → SqL K H b ws) (r1 : DRs K H0 vs xs) (r2 : DRs K H0 ws ys) (hz : xs.length ≤ sizeLine) :
    ItD K (Itz K a b) ((xs.zip ys).map fun p => D.tup [p.1, p.2]) F H0 where
  go := fun i H e hi => by
    rw [List.length_map, List.length_zip] at hi
    have l1 := r1.len
    have l2 := r2.len
    exact ⟨vs, ws, vs[i]'(by omega), ws[i]'(by omega), h1 H e, h2 H e, List.getElem?_eq_getElem _, List.getElem?_eq_getElem _⟩
  yld := fun i H v H' e y x hx => by
    obtain ⟨T, c, d, rfl, hT, rfl, y1, y2⟩ := y
    obtain ⟨v, w, p, q, g1, g2, g3, g4, rfl⟩ := DRs.zipget r1 r2 hx
    have z1 := y1 vs (h1 _ e)
    have z2 := y2 ws (h2 _ e)
    rw [g1] at z1
    rw [g2] at z2
    cases z1
    cases z2
    have n : Ex F H (upd H T (.tup [c, d])) := .new hT
    exact ⟨fun _ => .new hT, .tup (SqT.of upd_same) (.cons (DR.ex n (DR.ex e g3)) (.one (DR.ex n (DR.ex e g4))))⟩
  stop := fun H e => by
    refine ⟨vs, ws, h1 H e, h2 H e, ?_⟩
    rw [List.length_map, List.length_zip, r1.len, r2.len]
    first | done | omega
  len := by rw [List.length_map, List.length_zip]; omega
theorem itd_zipT {K : PySem.W.Frag} {a b : Addr} {vs ws : List V} {xs ys : List D} {F : Fr} {H0 : Hp} (h1 : SqT K H0 a vs) (h2 : SqT K H0 b ws) (r1 : DRs K H0 vs xs) (r2 : DRs K H0 ws ys) (hz : xs.length ≤ sizeLine) :
    ItD K (RZ.ItzT K a b) ((xs.zip ys).map fun p => D.tup [p.1, p.2]) F H0 where
  go := fun i H e hi => by
    rw [List.length_map, List.length_zip] at hi
    have l1 := r1.len
    have l2 := r2.len
    exact ⟨vs, ws, vs[i]'(by omega), ws[i]'(by omega), e.sqT h1, e.sqT h2, List.getElem?_eq_getElem _, List.getElem?_eq_getElem _⟩
  yld := fun i H v H' e y x hx => by
    obtain ⟨T, c, d, rfl, hT, rfl, y1, y2⟩ := y
    obtain ⟨v, w, p, q, g1, g2, g3, g4, rfl⟩ := DRs.zipget r1 r2 hx
    have z1 := y1 vs (e.sqT h1)
    have z2 := y2 ws (e.sqT h2)
    rw [g1] at z1
    rw [g2] at z2
    cases z1
    cases z2
    have n : Ex F H (upd H T (.tup [c, d])) := .new hT
    exact ⟨fun _ => .new hT, .tup (SqT.of upd_same) (.cons (DR.ex n (DR.ex e g3)) (.one (DR.ex n (DR.ex e g4))))⟩
  stop := fun H e => by
    refine ⟨vs, ws, e.sqT h1, e.sqT h2, ?_⟩
    rw [List.length_map, List.length_zip, r1.len, r2.len]
    first | done | omega
  len := by rw [List.length_map, List.length_zip]; omega
theorem si_zip (ok : XOk Γ T X) {a b : Expr} {ca cb : E} {p q : Pos} (hb : T.bi "zip" = true) (ha : SE X Γ a ca) (hc : SE X Γ b cb) {es : List Expr} {j : Nat} {tp : Pos} : PI X (.Tuple es j tp) (.Call (.Name "zip" p) [a, b] [] q) (tI X.K (evIt Γ (.zip ca cb))) := by
  obtain ⟨f1, f2, f3⟩ := bi_facts ok hb
  refine ⟨fun pins s σ H R I h => ?_⟩
  refine (RZ.pi_zipA f1 f2 (pa_cons (pe_sized ha.pd) (pa_cons (pe_sized hc.pd) pa_nil (star_cons hc.ns)) (star_cons ha.ns)) (by rw [star_cons ha.ns, star_cons hc.ns] <;> rfl) (star_none fun e he => by rw [List.mem_singleton.mp he]; exact hc.ns)).run pins s σ H R I ?_
  obtain ⟨P, F, ρ, xs, ρ', lk, Re, e1, k⟩ := h
  obtain ⟨⟨v, ρ1⟩, e2, e3⟩ := bind_ok.mp e1
  obtain ⟨⟨u, ρ2⟩, e4, e5⟩ := bind_ok.mp e3
  dsimp only at e5
  refine ⟨P, F, ρ, v, ρ1, Re, e2, fun w1 H1 x1 R1 d1 s1 => ⟨P, F, ρ1, u, ρ2, R1, e4, fun w2 H2 x2 R2 d2 s2 => ?_⟩⟩
  have d1' := DR.ex x2 d1
  split at e5
  · rename_i ev eu
    have e5 := Res.ok.inj e5
    cases e5
    rw [ev] at d1 d1'
    rw [eu] at d2
    cases d1 with
    | lst g1 r1 =>
      cases d2 with
      | lst g2 r2 =>
        obtain ⟨o1, g1'⟩ := x2.fzL g1
        obtain ⟨o2, g2'⟩ := g2
        refine ⟨_, _, _, _, rfl, .inl ⟨.inl (.inr ⟨o1, g1'⟩), .inl (.inr ⟨o2, g2'⟩), ?_⟩⟩
        exact k _ H2 P F (x1.trans x2) (fun _ f => f) R2 (itd_zip (fun H3 ex => .inl (.inr ⟨o1, ex.frz _ _ _ g1'⟩)) (fun H3 ex => .inl (.inr ⟨o2, ex.frz _ _ _ g2'⟩)) (DRs.ex x2 r1) r2 (by rw [← r1.len]; exact s1 _ _ rfl (.inl g1.sq))) (.free (fun _ f => f) Re.lkF)
  · rename_i ev eu
    have e5 := Res.ok.inj e5
    cases e5
    rw [ev] at d1 d1'
    rw [eu] at d2
    cases d1 with
    | tup g1 r1 =>
      cases d2 with
      | tup g2 r2 =>
        refine ⟨_, _, _, _, rfl, .inr ⟨x2.sqT g1, g2, ?_⟩⟩
        exact k _ H2 P F (x1.trans x2) (fun _ f => f) R2 (itd_zipT (x2.sqT g1) g2 (DRs.ex x2 r1) r2 (by rw [← r1.len]; exact s1 _ _ rfl (.inr g1))) (.free (fun _ f => f) Re.lkF)
  · cases e5
theorem si_It (ok : XOk Γ T X) {f : Expr → Option E} (hf : ∀ e c, f e = some c → SE X Γ e c) {e : Expr} {i : It} (h : compIt T f e = some i) (hz : zipTg tg i = true) : PI X tg e (tI X.K (evIt Γ i)) ∧ ∀ x, foldedSetIterable e X.env x = pure x := by
  unfold compIt at h
  split at h
  · rename_i a hr
    obtain ⟨c, hc, rfl⟩ := Option.map_eq_some_iff.mp h
    refine ⟨si_rng ok hr (hf _ _ hc), ?_⟩
    obtain ⟨q1, q2, rfl, _⟩ := rangeOf_is hr
    intro x; rfl
  · split at h
    · split at h
      · rename_i hh
        obtain ⟨h1, h2⟩ := hh
        subst h1
        split at h
        · rename_i h3 h4
          cases h
          cases tg <;> first | (unfold zipTg at hz; cases hz; done) | skip
          exact ⟨si_zip ok h2 (hf _ _ h3) (hf _ _ h4), fun x => rfl⟩
        · cases h
      · obtain ⟨c, hc, rfl⟩ := Option.map_eq_some_iff.mp h
        exact ⟨si_e (hf _ _ hc), fun x => rfl⟩
    · split at h
      · cases h
      · rename_i hs
        obtain ⟨c, hc, rfl⟩ := Option.map_eq_some_iff.mp h
        refine ⟨si_e (hf _ _ hc), fun x => ?_⟩
        clear hc hf hz
        cases e <;> first | rfl | exact absurd rfl hs
end
end AW

set_option Elab.async false
set_option linter.all false
set_option maxRecDepth 100000
set_option maxHeartbeats 4000000
/-! Soundness: list comprehensions, all expressions. -/
namespace AW
open PySem PySem.Spec PyProof.Rows L2
theorem wiped_len (ρ : Env) : ∀ l : List Nat, (wiped ρ l).length = ρ.length
  | [] => rfl
  | i :: r => by unfold wiped; rw [List.length_set, wiped_len ρ r]
theorem mend_len (ρ ρ' : Env) : ∀ l : List Nat, (mend ρ ρ' l).length = ρ'.length
  | [] => rfl
  | i :: r => by unfold mend; rw [List.length_set, mend_len ρ ρ' r]
theorem getS_wiped (ρ : Env) (j : Nat) : ∀ l : List Nat, getS (wiped ρ l) j = if j ∈ l then none else getS ρ j
  | [] => by simp [wiped]
  | i :: r => by
    unfold wiped
    by_cases hi : i < ρ.length
    · rw [getS_set _ i j none (by rw [wiped_len]; exact hi), getS_wiped ρ j r]
      by_cases e : j = i
      · simp [e]
      · rw [if_neg e]
        simp [e]
    · have : (wiped ρ r).set i none = wiped ρ r := List.set_eq_of_length_le (by rw [wiped_len]; omega)
      rw [this, getS_wiped ρ j r]
      by_cases e : j = i
      · subst e
        have : getS ρ j = none := by
          unfold getS
          rw [List.getD_eq_getElem?_getD, List.getElem?_eq_none (by omega)]
          rfl
        simp [this]
      · simp [e]
theorem getS_mend (ρ ρ' : Env) (hl : ρ.length = ρ'.length) (j : Nat) : ∀ l : List Nat, getS (mend ρ ρ' l) j = if j ∈ l then getS ρ j else getS ρ' j
  | [] => by simp [mend]
  | i :: r => by
    unfold mend
    by_cases hi : i < ρ'.length
    · rw [getS_set _ i j _ (by rw [mend_len]; exact hi), getS_mend ρ ρ' hl j r]
      by_cases e : j = i
      · simp [e]
      · rw [if_neg e]
        simp [e]
    · have : (mend ρ ρ' r).set i (getS ρ i) = mend ρ ρ' r := List.set_eq_of_length_le (by rw [mend_len]; omega)
      rw [this, getS_mend ρ ρ' hl j r]
      by_cases e : j = i
      · subst e
        have h1 : getS ρ j = none := by
          unfold getS
          rw [List.getD_eq_getElem?_getD, List.getElem?_eq_none (by omega)]
          rfl
        have h2 : getS ρ' j = none := by
          unfold getS
          rw [List.getD_eq_getElem?_getD, List.getElem?_eq_none (by omega)]
          rfl
        simp [h1, h2]
      · simp [e]
theorem wipe_get {σ : L2.St} {j : Nat} : ∀ {l : List Nat}, j ∉ l → (wipe σ l)[j]? = σ[j]?
  | [], _ => rfl
  | i :: r, h => by
    rw [List.mem_cons, not_or] at h
    unfold wipe
    rw [List.getElem?_set_ne (Ne.symm h.1), wipe_get h.2]
theorem set_none_none {σ : L2.St} (i : Nat) : ∀ l : List Nat, wipe (σ.set i none) l = (wipe σ l).set i none
  | [] => rfl
  | j :: r => by
    unfold wipe
    rw [set_none_none i r]
    by_cases e : i = j
    · subst e; rfl
    · rw [List.set_comm _ _ e]
theorem wipe_wipe (σ : L2.St) : ∀ l : List Nat, wipe (wipe σ l) l = wipe σ l
  | [] => rfl
  | j :: r => by
    show (wipe ((wipe σ r).set j none) r).set j none = (wipe σ r).set j none
    rw [set_none_none, wipe_wipe σ r, List.set_set]
section
variable {K : PySem.W.Frag} {P : Pins} {F : Fr} {ρ : Env} {σ : L2.St} {H H' : Hp}
theorem plain_no {l : List Nat} (h : l.all (plain ρ) = true) {i : Nat} (hi : i ∈ l) : ¬ mutS ρ i ∧ (∀ xs, getS ρ i ≠ some (.lk xs)) ∧ (∀ xs, getS ρ i ≠ some (.io xs)) := by
  have hp := List.all_eq_true.mp h i hi
  unfold plain at hp
  refine ⟨?_, fun xs z => ?_, fun xs z => ?_⟩
  · rintro (⟨xs, z⟩ | ⟨xs, z⟩) <;> · rw [z] at hp; cases hp
  · rw [z] at hp; cases hp
  · rw [z] at hp; cases hp
theorem Rel.wipe {l : List Nat} (R : Rel K P F ρ σ H) (h : l.all (plain ρ) = true) : Rel K P F (wiped ρ l) (L2.wipe σ l) H := by
  have mu : ∀ i, mutS (wiped ρ l) i → mutS ρ i ∧ i ∉ l := fun i m => by
    unfold mutS at m
    rw [getS_wiped] at m
    by_cases hi : i ∈ l
    · rw [if_pos hi] at m
      rcases m with ⟨_, z⟩ | ⟨_, z⟩ <;> cases z
    · rw [if_neg hi] at m
      exact ⟨m, hi⟩
  have gs : ∀ {i s}, getS (wiped ρ l) i = some s → getS ρ i = some s ∧ i ∉ l := fun {i s} q => by
    rw [getS_wiped] at q
    by_cases hi : i ∈ l
    · rw [if_pos hi] at q; cases q
    · rw [if_neg hi] at q; exact ⟨q, hi⟩
  refine ⟨by rw [wiped_len, wipe_length]; exact R.len, fun i s q => ?_, fun i j a mi mj ei ej => ?_, fun i a mi ei => ?_, R.fok, fun i xs q => R.lkS i xs (gs q).1, fun i xs q => R.ioS i xs (gs q).1, fun p hp => ?_, fun p hp => ?_⟩
  · obtain ⟨q1, q2⟩ := gs q
    rw [wipe_get q2]
    exact R.sl i s q1
  · rw [wipe_get (mu i mi).2] at ei
    rw [wipe_get (mu j mj).2] at ej
    exact R.inj i j a (mu i mi).1 (mu j mj).1 ei ej
  · rw [wipe_get (mu i mi).2] at ei
    exact R.nf i a (mu i mi).1 ei
  · obtain ⟨h1, ⟨xs, h2⟩, h3⟩ := R.pinL p hp
    have hn : p.1 ∉ l := fun z => (plain_no h z).2.1 xs h2
    exact ⟨by rw [wipe_get hn]; exact h1, ⟨xs, by rw [getS_wiped, if_neg hn]; exact h2⟩, h3⟩
  · obtain ⟨h1, xs, h2⟩ := R.pinI p hp
    have hn : p.1 ∉ l := fun z => (plain_no h z).2.2 xs h2
    exact ⟨by rw [wipe_get hn]; exact h1, xs, by rw [getS_wiped, if_neg hn]; exact h2⟩
theorem Rel.mend {l : List Nat} {ρ3 : Env} {σ3 : L2.St} {G : Fr} (R : Rel K P G ρ σ H) (h : l.all (plain ρ) = true) (ex : Ex G H H') (R3 : Rel K P F ρ3 σ3 H') (hw : L2.wipe σ3 l = L2.wipe σ l) : Rel K P F (AW.mend ρ ρ3 l) σ H' := by
  have hls : σ3.length = σ.length := by
    have := congrArg List.length hw
    rwa [wipe_length, wipe_length] at this
  have hl : ρ.length = ρ3.length := by rw [R.len, R3.len, hls]
  have sg : ∀ {i}, i ∉ l → σ[i]? = σ3[i]? := fun {i} hi => by
    rw [← wipe_get hi, ← hw, wipe_get hi]
  have mu : ∀ i, mutS (AW.mend ρ ρ3 l) i → mutS ρ3 i ∧ i ∉ l := fun i m => by
    unfold mutS at m
    rw [getS_mend ρ ρ3 hl] at m
    by_cases hi : i ∈ l
    · rw [if_pos hi] at m
      exact absurd m (plain_no h hi).1
    · rw [if_neg hi] at m
      exact ⟨m, hi⟩
  refine ⟨by rw [mend_len, ← hl]; exact R.len, fun i s q => ?_, fun i j a mi mj ei ej => ?_, fun i a mi ei => ?_, R3.fok, fun i xs q => ?_, fun i xs q => ?_, fun p hp => ?_, fun p hp => ?_⟩
  · rw [getS_mend ρ ρ3 hl] at q
    by_cases hi : i ∈ l
    · rw [if_pos hi] at q
      obtain ⟨v, h1, h2⟩ := R.sl i s q
      refine ⟨v, h1, ?_⟩
      cases s with
      | d x => exact DR.ex ex h2
      | own xs => exact absurd (.inl ⟨xs, q⟩) (plain_no h hi).1
      | lk xs => exact absurd q ((plain_no h hi).2.1 xs)
      | io xs => exact absurd q ((plain_no h hi).2.2 xs)
    · rw [if_neg hi] at q
      rw [sg hi]
      exact R3.sl i s q
  · rw [sg (mu i mi).2] at ei
    rw [sg (mu j mj).2] at ej
    exact R3.inj i j a (mu i mi).1 (mu j mj).1 ei ej
  · rw [sg (mu i mi).2] at ei
    exact R3.nf i a (mu i mi).1 ei
  · rw [getS_mend ρ ρ3 hl] at q
    by_cases hi : i ∈ l
    · rw [if_pos hi] at q; exact absurd q ((plain_no h hi).2.1 xs)
    · rw [if_neg hi] at q; exact R3.lkS i xs q
  · rw [getS_mend ρ ρ3 hl] at q
    by_cases hi : i ∈ l
    · rw [if_pos hi] at q; exact absurd q ((plain_no h hi).2.2 xs)
    · rw [if_neg hi] at q; exact R3.ioS i xs q
  · obtain ⟨h1, ⟨xs, h2⟩, h3⟩ := R3.pinL p hp
    obtain ⟨_, ⟨xs', h4⟩, _⟩ := R.pinL p hp
    have hn : p.1 ∉ l := fun z => (plain_no h z).2.1 xs' h4
    exact ⟨by rw [sg hn]; exact h1, ⟨xs, by rw [getS_mend ρ ρ3 hl, if_neg hn]; exact h2⟩, h3⟩
  · obtain ⟨h1, xs, h2⟩ := R3.pinI p hp
    obtain ⟨_, xs', h4⟩ := R.pinI p hp
    have hn : p.1 ∉ l := fun z => (plain_no h z).2.2 xs' h4
    exact ⟨by rw [sg hn]; exact h1, xs, by rw [getS_mend ρ ρ3 hl, if_neg hn]; exact h2⟩
theorem plain_mend {l : List Nat} {ρ3 : Env} (hl : ρ.length = ρ3.length) (h : l.all (plain ρ) = true) : l.all (plain (AW.mend ρ ρ3 l)) = true := by
  rw [List.all_eq_true] at h ⊢
  intro i hi
  have := h i hi
  unfold plain at this ⊢
  rw [getS_mend ρ ρ3 hl, if_pos hi]
  exact this
end
section
variable {X : Cx} {Γ : Gam} {T : Sg} {pos : Pos}
/-- one turn of a comprehension -/
def lcF (Γ : Gam) (t : Tg) (tt : Oe) (c : E) (x : D) (ρ : Env) : Res (Option D × Env) := (bindT t x ρ).bind fun ρ1 => match tt with
  | .non => (ev Γ c ρ1).bind fun (v, ρ3) => .ok (some v.toD, ρ3)
  | .som q => (ev Γ q ρ1).bind fun (b, ρ2) => (asBl b).bind fun b => if b = true then (ev Γ c ρ2).bind fun (v, ρ3) => .ok (some v.toD, ρ3) else .ok (none, ρ2)
/-- a clause's tests -/
def tTs (K : PySem.W.Frag) (Γ : Gam) : Oe → TT
  | .non => tYes
  | .som q => tT K (ev Γ q)
theorem lc_reads {it : It} {t : Tg} {own : List Nat} {tt : Oe} {c : E} (ht : tgIn own t = true) {σ : L2.St} {H : Hp} {Q : VK} (q : tE X.K (ev Γ (.lc t it own tt c)) σ H Q) :
    tLc (tI X.K (evIt Γ it)) (gT X.K t) (tTs X.K Γ tt) (tD X.K (ev Γ c)) own σ H Q := by
  obtain ⟨P, F, ρ, r, ρ', R, e, k⟩ := q
  have e : ((evIt Γ it ρ).bind fun (xs, ρ1, lk) => if own.all (plain ρ1) = true then
      (lcGo (lcF Γ t tt c) own xs ρ1 []).bind fun (acc, ρ2) => (unlock lk ρ2).bind fun ρ3 => .ok (.own acc, ρ3) else .no) = Res.ok (r, ρ') := by cases tt <;> exact e
  obtain ⟨⟨xs, ρ1, lk⟩, e1, e⟩ := bind_ok.mp e
  dsimp only at e
  split at e
  case isFalse => cases e
  rename_i hpl
  obtain ⟨⟨acc, ρ2⟩, e2, e⟩ := bind_ok.mp e
  obtain ⟨ρ3, e3, e⟩ := bind_ok.mp e
  cases e
  refine ⟨P, F, ρ, xs, ρ1, lk, R, e1, fun J H1 P' F' x1 hFF R1 itd un D hD => ?_⟩
  refine ⟨fun i m Hc => m = xs.length - i ∧ i ≤ xs.length ∧ ∃ ρi ai us, lcGo (lcF Γ t tt c) own (xs.drop i) ρi ai = .ok (acc, ρ2) ∧ Ex F' H1 Hc ∧ Rel X.K P' F' ρi σ Hc ∧ own.all (plain ρi) = true ∧ Hc D = some (.lst us) ∧ DRs X.K Hc us ai ∧ ai.length ≤ i ∧ ¬ F' D ∧ ∀ j, mutS ρi j → σ[j]? ≠ some (some (.ref D)), ⟨xs.length, by simp, Nat.zero_le _, ρ1, [], [], e2, .new hD, R1.new hD, hpl, upd_same, .nil, Nat.le_refl _, R1.fresh hD, fun j m => R1.apart hD m⟩, ?_⟩
  rintro i m Hc ⟨rfl, hi, ρi, ai, us, g, xc, Ri, pi, hDc, du, hl, nD, aD⟩
  by_cases hlt : i < xs.length
  · right
    refine ⟨itd.go i Hc xc hlt, fun H' => i + 1 ≤ xs.length ∧ ∃ ρi ai us, lcGo (lcF Γ t tt c) own (xs.drop (i + 1)) ρi ai = .ok (acc, ρ2) ∧ Ex F' H1 H' ∧ Rel X.K P' F' ρi σ H' ∧ own.all (plain ρi) = true ∧ H' D = some (.lst us) ∧ DRs X.K H' us ai ∧ ai.length ≤ i + 1 ∧ ¬ F' D ∧ ∀ j, mutS ρi j → σ[j]? ≠ some (some (.ref D)), fun H' h => ⟨xs.length - (i + 1), by omega, rfl, h⟩, fun v Hy y => ?_⟩
    have hx : xs[i]? = some xs[i] := List.getElem?_eq_getElem hlt
    obtain ⟨xy, dv⟩ := itd.yld i Hc v Hy xc y _ hx
    rw [List.drop_eq_getElem_cons hlt] at g
    have Ry : Rel X.K P' F' ρi σ Hy := Ri.ex (xy _)
    have hDy : Hy D = some (.lst us) := (xy (plus F' D)).keep D _ (.inr rfl) hDc
    have Rw : Rel X.K P' (plus F' D) (wiped ρi own) (wipe σ own) Hy := (Ry.grow hDy aD).wipe pi
    -- the turn by itself
    have step : ∃ o ρt, lcF Γ t tt c xs[i] (wiped ρi own) = .ok (o, ρt) ∧ (match o with
        | some y => lcGo (lcF Γ t tt c) own (xs.drop (i + 1)) (mend ρi ρt own) (ai ++ [y]) = .ok (acc, ρ2)
        | none => lcGo (lcF Γ t tt c) own (xs.drop (i + 1)) (mend ρi ρt own) ai = .ok (acc, ρ2)) := by
      unfold lcGo at g
      split at g
      · rename_i y ρt h; exact ⟨some y, ρt, h, g⟩
      · rename_i ρt h; exact ⟨none, ρt, h, g⟩
      · cases g
    obtain ⟨o, ρt, s1, s2⟩ := step
    unfold lcF at s1
    obtain ⟨ρb, b1, s1⟩ := bind_ok.mp s1
    refine ⟨P', plus F' D, wiped ρi own, _, ρb, Rw, dv, b1, fun σb Rb hw _ => ⟨(hw own ht).trans (wipe_wipe σ own), ?_⟩⟩
    have fin : ∀ (ρt' : Env) (H4 : Hp), ρt' = ρt → Ex (plus F' D) Hy H4 → Rel X.K P' (plus F' D) ρt' σb H4 → Rel X.K P' (plus F' D) (mend ρi ρt own) σ H4 ∧ own.all (plain (mend ρi ρt own)) = true ∧ H4 D = some (.lst us) := fun ρt' H4 et x4 R4 => by
      subst et
      have hls : σb.length = σ.length := by
        have := congrArg List.length (hw own ht)
        rwa [wipe_length, wipe_length, wipe_length] at this
      have hl2 : ρi.length = ρt'.length := by rw [Ri.len, R4.len, hls]
      refine ⟨(Ry.grow hDy aD).mend pi x4 R4 ?_, plain_mend hl2 pi, x4.keep D _ (.inr rfl) hDy⟩
      rw [hw own ht]
      exact wipe_wipe σ own
    have elt : ∀ (ρx : Env) (Hx : Hp), Ex (plus F' D) Hy Hx → Rel X.K P' (plus F' D) ρx σb Hx → (ev Γ c ρx).bind (fun (v, ρ3) => .ok (some v.toD, ρ3)) = Res.ok (o, ρt) →
        tD X.K (ev Γ c) σb Hx fun y H4 => ∃ acc_1, H4 D = some (.lst acc_1) ∧ acc_1.length < sizeLine ∧ (i + 1 ≤ xs.length ∧ ∃ ρi ai us, lcGo (lcF Γ t tt c) own (xs.drop (i + 1)) ρi ai = .ok (acc, ρ2) ∧ Ex F' H1 (upd H4 D (.lst (acc_1 ++ [y]))) ∧ Rel X.K P' F' ρi σ (upd H4 D (.lst (acc_1 ++ [y]))) ∧ own.all (plain ρi) = true ∧ (upd H4 D (.lst (acc_1 ++ [y]))) D = some (.lst us) ∧ DRs X.K (upd H4 D (.lst (acc_1 ++ [y]))) us ai ∧ ai.length ≤ i + 1 ∧ ¬ F' D ∧ ∀ j, mutS ρi j → σ[j]? ≠ some (some (.ref D))) := fun ρx Hx xx Rx ex => by
      obtain ⟨⟨v4, ρ4⟩, e4, e5⟩ := bind_ok.mp ex
      have e5 := Res.ok.inj e5
      cases e5
      refine ⟨P', plus F' D, ρx, v4, ρt, Rx, e4, fun w H4 x4 R4 d4 => ?_⟩
      obtain ⟨Rm, pm, hD4⟩ := fin ρt H4 rfl (xx.trans x4) R4
      have xs4 : Ex F' H4 (upd H4 D (.lst (us ++ [w]))) := Ex.set hD4 nD
      have lz := itd.len
      have lu := du.len
      have nown : ∀ j, mutS (mend ρi ρt own) j → σ[j]? ≠ some (some (.ref D)) := fun j m e => Rm.nf j D m e (.inr rfl)
      have Rm' : Rel X.K P' F' (mend ρi ρt own) σ H4 := Rm.shrink (fun _ f => .inl f) Ri.lkF
      refine ⟨us, hD4, by omega, hlt, mend ρi ρt own, ai ++ [v4.toD], us ++ [w], s2, ?_, ?_, pm, upd_same, ?_, by rw [List.length_append, List.length_singleton]; omega, nD, nown⟩
      · exact ((xc.trans (xy F')).trans ((xx.trans x4).weak fun _ f => .inl f)).trans xs4
      · exact Rm'.ex (Ex.set hD4 fun z => z.elim nD fun ⟨j, m, e⟩ => nown j m e)
      · have xa : Ex F' Hc H4 := (xy F').trans ((xx.trans x4).weak fun _ f => .inl f)
        exact (DRs.ex (xa.trans xs4) du).app (.one (DR.ex xs4 d4))
    cases tt with
    | non =>
      unfold tTs
      dsimp only
      unfold tYes
      dsimp only
      rw [if_pos rfl]
      exact elt ρb Hy (.refl Hy) Rb s1
    | som qe =>
      obtain ⟨b, ρq, q1, q2⟩ := bl_ok (x := ev Γ qe ρb) (g := fun b ρ2 => if b = true then (ev Γ c ρ2).bind fun (v, ρ3) => .ok (some v.toD, ρ3) else .ok (none, ρ2)) s1
      refine ⟨P', plus F' D, ρb, b, ρq, Rb, q1, fun H3 x3 R3 => ?_⟩
      cases b with
      | true =>
        rw [if_pos rfl] at q2 ⊢
        exact elt ρq H3 x3 R3 q2
      | false =>
        rw [if_neg Bool.false_ne_true] at q2 ⊢
        have q2 := Res.ok.inj q2
        cases q2
        obtain ⟨Rm, pm, hD3⟩ := fin ρt H3 rfl x3 R3
        have xa : Ex F' Hc H3 := (xy F').trans (x3.weak fun _ f => .inl f)
        exact ⟨hlt, mend ρi ρt own, ai, us, s2, xc.trans xa, Rm.shrink (fun _ f => .inl f) Ri.lkF, pm, hD3, DRs.ex xa du, by omega, nD, fun j m e => Rm.nf j D m e (.inr rfl)⟩
  · left
    have ei : i = xs.length := by omega
    subst ei
    rw [List.drop_length] at g
    unfold lcGo at g
    have g := Res.ok.inj g
    cases g
    obtain ⟨R3, hm⟩ := un ρ2 σ Hc ρ' Ri xc e3
    refine ⟨itd.stop Hc xc, k _ Hc (x1.trans (xc.weak hFF)) R3 ⟨D, us, rfl, hDc, du, fun f => nD (hFF D f), fun j m e => ?_⟩⟩
    rcases hm j D m e with z | z
    · exact nD z
    · exact aD j z e
theorem xok_blk (ok : XOk Γ T X) (s : Shared) (H : Hp) (scope : Scope) (C : Addr) (cl : List (Str × Addr)) (fp : List Addr) : XOk Γ (T.blk scope) (X.blk s H scope (compEnvC scope cl C X.env) fp) :=
  ⟨ok.N, by show relS scope X.env.scope = relS scope T.sc; rw [ok.sc], rfl, ok.nd, ok.calm, rfl, ok.room, fun x ge h => by
    have := ok.g x ge h
    cases ge <;> exact this⟩
theorem se_lc (ok : XOk Γ T X) {elt tg it : Expr} {ifs : List Expr} {scope : Scope} {own : List (Str × Nat)} {t : Tg} {i : It} {tt : Oe} {c : E} (hb : blkC T.N T.sc scope own = true) (ht : tgIn (own.map (·.2)) t = true)
    (hg : ∀ {X' : Cx}, XOk Γ (T.blk scope) X' → PG X' tg (gT X'.K t)) (hi : PI X tg it (tI X.K (evIt Γ i))) (hf : ∀ x, foldedSetIterable it X.env x = pure x)
    (htt : ∀ {X' : Cx}, XOk Γ (T.blk scope) X' → PTs X' ifs (tTs X'.K Γ tt)) (he : ∀ {X' : Cx}, XOk Γ (T.blk scope) X' → PE X' elt (tD X'.K (ev Γ c))) :
    SE X Γ (.ListComp elt [⟨tg, it, ifs, 0⟩] scope pos) (.lc t i (own.map (·.2)) tt c) := by
  refine se_plain (e := .ListComp elt [⟨tg, it, ifs, 0⟩] scope pos) (c := .lc t i (own.map (·.2)) tt c) ?_ (fun i z => by cases z) rfl (fun _ => rfl)
  have bo : BlkOk X.N X.env.scope scope own := by rw [ok.N, ok.sc]; exact blkOk_by hb
  exact (pe_lc ok.calm ok.nd hi bo (fun s H C cl fp => hg (xok_blk ok s H scope C cl fp)) (fun s H C cl fp => htt (xok_blk ok s H scope C cl fp)) (fun s H C cl fp => he (xok_blk ok s H scope C cl fp)) hf).imp fun σ H Q q => lc_reads ht q

theorem PlainIx.of {i : Expr} (h : ∀ l h p, i ≠ .Slice l h none p) : PlainIx i := fun o v => by
  cases i <;> first | rfl | skip
  rename_i l h' st p
  cases st with
  | none => exact absurd rfl (h l h' p)
  | some _ => rfl
/-- ALL EXPRESSIONS: where the tree is worth r, the text gives r -/
theorem se_all : ∀ (n : Nat) {T : Sg} {X : Cx} {e : Expr} {c : E}, XOk Γ T X → comp n T e = some c → SE X Γ e c
  | 0, _, _, _, _, _, h => by cases h
  | n + 1, T, X, e, c, ok, h => by
    have ih : ∀ (e : Expr) (c : E), comp n T e = some c → SE X Γ e c := fun e c h => se_all n ok h
    unfold comp at h
    split at h
    · obtain ⟨d, hd, rfl⟩ := Option.map_eq_some_iff.mp h
      exact se_k hd
    · split at h
      · rename_i hg
        cases h
        exact se_gc ok hg
      · obtain ⟨i, hi, rfl⟩ := Option.map_eq_some_iff.mp h
        exact se_v ok hi
    · split at h
      · rename_i hl
        obtain ⟨cs, hc, rfl⟩ := Option.map_eq_some_iff.mp h
        exact se_tup (sa_L ih hc).1 hl fun e => compL_len hc e
      · cases h
    · split at h
      · rename_i hl
        obtain ⟨cs, hc, rfl⟩ := Option.map_eq_some_iff.mp h
        exact se_lst (sa_L ih hc).1 hl fun e => compL_len hc e
      · cases h
    · unfold compBin at h
      split at h
      · rename_i h1 h2
        cases h
        exact se_bin (ih _ _ h1) (ih _ _ h2)
      · cases h
    · unfold compUn at h
      split at h
      · obtain ⟨c', hc, rfl⟩ := Option.map_eq_some_iff.mp h
        exact se_neg (ih _ _ hc)
      · obtain ⟨c', hc, rfl⟩ := Option.map_eq_some_iff.mp h
        exact se_not (ih _ _ hc)
      · cases h
    · rename_i op es p
      obtain ⟨h1, h2, h3⟩ := se_bool (pos := p) ih h
      cases es with
      | nil => cases h
      | cons a as =>
        cases as with
        | nil =>
          have hv := (ih _ _ h)
          refine ⟨h1, ?_, h2.pt, rfl⟩
          exact ⟨fun pins s σ H Q I q => BoolOp_one (hv.pk.run pins s σ H Q I q)⟩
        | cons b bs => exact ⟨h1, pk_E h1 (h3 (by simp)), h2.pt, rfl⟩
    · unfold compIf at h
      split at h
      · rename_i h1 h2 h3
        cases h
        exact se_ife (ih _ _ h1) (ih _ _ h2) (ih _ _ h3)
      · cases h
    · unfold compCmp at h
      split at h
      · split at h
        · cases h
        · rename_i hs
          split at h
          · rename_i h1 h2
            cases h
            exact se_cmp ok.room (by simpa using hs) (ih _ _ h1) (ih _ _ h2)
          · cases h
      · split at h
        · cases h
        · rename_i hs
          split at h
          · rename_i h1 h2 h3
            cases h
            exact se_chain ok.room (by simpa using hs) (ih _ _ h1) (ih _ _ h2) (ih _ _ h3)
          · cases h
      · cases h
    · unfold compSub at h
      split at h
      · split at h
        · rename_i h1 h2 h3
          cases h
          exact se_sl (ih _ _ h1) (compO_ok ih h2) (compO_ok ih h3)
        · cases h
      · rename_i st _
        split at h
        · rename_i hm
          obtain ⟨c', hc, rfl⟩ := Option.map_eq_some_iff.mp h
          unfold isM1 at hm
          split at hm
          · exact se_rev (ih _ _ hc)
          · cases hm
        · cases h
      · cases h
      · rename_i hn1 hn2 hn3
        split at h
        · rename_i h1 h2
          cases h
          exact se_ix (ih _ _ h1) (ih _ _ h2) (PlainIx.of fun l hh p z => hn1 l hh p z)
        · cases h
    · rename_i elt gens scope p
      split at h
      · rename_i tg it ifs as
        dsimp only at h
        split at h
        · rename_i hh
          obtain ⟨h0, hb⟩ := hh
          subst h0
          split at h
          · rename_i t i x h1 h2 h3
            split at h
            · rename_i hz
              obtain ⟨hi, hf⟩ := si_It ok ih h2 hz.2
              split at h
              · cases h
                exact se_lc ok hb hz.1 (fun ok' => (sg_T ok' _ h1).1) hi hf (fun _ => pts_nil) fun ok' => (se_all n ok' h3).pd
              · obtain ⟨q, hq, rfl⟩ := Option.map_eq_some_iff.mp h
                exact se_lc ok hb hz.1 (fun ok' => (sg_T ok' _ h1).1) hi hf (fun ok' => pts_one (se_all n ok' hq).pt) fun ok' => (se_all n ok' h3).pd
              · cases h
            · cases h
          · cases h
        · cases h
      · cases h
    · rename_i fe args kws p
      split at h
      · rename_i x q
        unfold compCall at h
        split at h
        · rename_i id ar hg
          split at h
          · rename_i hl
            obtain ⟨cs, hc, rfl⟩ := Option.map_eq_some_iff.mp h
            exact se_call ok ih hg hl hc
          · cases h
        · rename_i id ar hg
          split at h
          · split at h
            · rename_i hl
              split at h
              · rename_i h1 h2
                cases h
                exact se_calli ok ih hg hl h1 h2
              · cases h
            · cases h
          · cases h
        · rename_i hg
          exact se_bi ok ih hg h
        · cases h
      · split at h
        · rename_i hl
          exact se_meth ok ih hl h
        · cases h
      · cases h
    · cases h
end
end AW

set_option Elab.async false
set_option linter.all false
set_option maxRecDepth 100000
set_option maxHeartbeats 4000000
/-! Soundness: statements. -/
namespace AW
open PySem PySem.Spec PyProof.Rows L2

def SPost (K : PySem.W.Frag) (P : Pins) (F : Fr) (ρ' : Env) (H : Hp) (D : Ends) : Fl → Prop
  | .nx => ∀ σ' H', Ex F H H' → Rel K P F ρ' σ' H' → D.nx σ' H'
  | .rt r => ∀ v σ' H', Ex F H H' → Rel K P F ρ' σ' H' → VR K H' F ρ' σ' v r → D.rt v H'
  | .bk => ∀ σ' H', Ex F H H' → Rel K P F ρ' σ' H' → D.bk σ' H'
  | .ct => ∀ σ' H', Ex F H H' → Rel K P F ρ' σ' H' → D.ct σ' H'
def tS (K : PySem.W.Frag) (f : Env → Res (Fl × Env)) : TS := fun D σ H => ∃ P F ρ fl ρ', Rel K P F ρ σ H ∧ f ρ = .ok (fl, ρ') ∧ SPost K P F ρ' H D fl
theorem _root_.L2.PS.imp {X : Cx} {s : Stmt} {t t' : TS} (h : PS X s t) (w : ∀ D σ H, t' D σ H → t D σ H) : PS X s t' := ⟨fun pins s σ H D I q => h.run pins s σ H D I (w _ _ _ q)⟩
theorem _root_.L2.PSs.imp {X : Cx} {s : List Stmt} {t t' : TS} (h : PSs X s t) (w : ∀ D σ H, t' D σ H → t D σ H) : PSs X s t' := ⟨fun pins s σ H D I q => h.run pins s σ H D I (w _ _ _ q)⟩

/-- several values in hand -/
def VRs (K : PySem.W.Frag) (H : Hp) : Fr → Env → L2.St → List V → List Val → Prop
  | _, _, _, [], [] => True
  | F, ρ, σ, v :: vs, r :: rs => VR K H F ρ σ v r ∧ VRs K H (hold F v (.val r)) ρ σ vs rs
  | _, _, _, _, _ => False
def tM (K : PySem.W.Frag) (f : Env → Res (List Val × Env)) : TA := fun σ H Q => ∃ P F ρ rs ρ', Rel K P F ρ σ H ∧ f ρ = .ok (rs, ρ') ∧ ∀ vs H', Ex F H H' → Rel K P F ρ' σ H' → VRs K H' F ρ' σ vs rs → Q vs H'
section
variable {X : Cx} {Γ : Gam} {T : Sg} {pos : Pos} {W : Nat}
/-- a value in hand is still so when the heap has gone on and the frame's own things are fewer or frozen -/
theorem VR.later {K : PySem.W.Frag} {H H' : Hp} {F : Fr} {P : Pins} {ρ ρ' : Env} {σ : L2.St} {v : V} {r : Val} (h : VR K H F ρ σ v r) (x : Ex (hold F v (.val r)) H H') (R : Rel K P (hold F v (.val r)) ρ' σ H') : VR K H' F ρ' σ v r := by
  cases r with
  | d x' => exact DR.ex x h
  | own xs =>
    obtain ⟨a, vs, rfl, h1, h2, h3, h4⟩ := h
    exact ⟨a, vs, rfl, x.keep a _ (.inr rfl) h1, DRs.ex x h2, h3, fun i m e => R.nf i a m e (.inr rfl)⟩
theorem sm_L {f : Expr → Option E} (hf : ∀ e c, f e = some c → SE X Γ e c) : ∀ {es : List Expr} {cs : Es}, compL f es = some cs → PA X es (tM X.K (evm Γ cs)) ∧ ∀ e ∈ es, isStar e = false
  | [], _, h => by
    cases h
    refine ⟨⟨fun pos pins s σ H Q I q => ?_⟩, fun _ h => (nomatch h)⟩
    obtain ⟨P, F, ρ, ds, ρ', R, e, k⟩ := q
    cases e
    exact (pa_nil (X := X)).run pos pins s σ H Q I (k [] H (.refl H) R trivial)
  | e :: es, cs, h => by
    unfold compL at h
    split at h
    · rename_i a b h1 h2
      cases h
      have he := hf e a h1
      obtain ⟨hr, hs⟩ := sm_L hf h2
      refine ⟨⟨fun pos pins s σ H Q I q => ?_⟩, fun x hx => ?_⟩
      · obtain ⟨P, F, ρ, ds, ρ', R, e1, k⟩ := q
        refine (pa_cons he.pe hr (star_cons he.ns)).run pos pins s σ H Q I ?_
        obtain ⟨⟨v, ρ1⟩, e2, e3⟩ := bind_ok.mp e1
        obtain ⟨⟨ds', ρ2⟩, e4, e5⟩ := bind_ok.mp e3
        have e5 := Res.ok.inj e5
        cases e5
        refine ⟨P, F, ρ, v, ρ1, R, e2, fun w H1 x1 R1 d1 => ⟨P, hold F w (.val v), ρ1, ds', _, R1.held d1, e4, fun ws H2 x2 R2 d2 => ?_⟩⟩
        refine k _ _ (x1.trans (x2.weak (hold_le F w _))) (R2.shrink (hold_le F w _) R.lkF) ⟨d1.later x2 R2, d2⟩
      · rcases List.mem_cons.mp hx with rfl | hx
        · exact he.ns
        · exact hs x hx
    · cases h
theorem evm_len {f : Expr → Option E} : ∀ {es : List Expr} {cs : Es}, compL f es = some cs → ∀ {ρ : Env} {ds : List Val} {ρ' : Env}, evm Γ cs ρ = .ok (ds, ρ') → ds.length = es.length
  | [], _, h, ρ, ds, ρ', e => by cases h; cases e; rfl
  | e :: es, cs, h, ρ, ds, ρ', e1 => by
    unfold compL at h
    split at h
    · cases h
      rename_i a b h1 h2
      obtain ⟨⟨v, ρ1⟩, e2, e3⟩ := bind_ok.mp e1
      obtain ⟨⟨ds', ρ2⟩, e4, e5⟩ := bind_ok.mp e3
      have e5 := Res.ok.inj e5
      cases e5
      rw [List.length_cons, List.length_cons, evm_len h2 e4]
    · cases h
theorem VRs.len {K : PySem.W.Frag} {H : Hp} : ∀ {F : Fr} {ρ : Env} {σ : L2.St} {vs : List V} {rs : List Val}, VRs K H F ρ σ vs rs → vs.length = rs.length
  | _, _, _, [], [], _ => rfl
  | _, _, _, _ :: _, _ :: _, h => congrArg (· + 1) (VRs.len h.2)
  | _, _, _, [], _ :: _, h => h.elim
  | _, _, _, _ :: _, [], h => h.elim
theorem VR.fewer {K : PySem.W.Frag} {H : Hp} {F G : Fr} {ρ ρ' : Env} {σ σ' : L2.St} {v : V} {r : Val} (h : VR K H G ρ σ v r) (hFG : ∀ a, F a → G a) (f : ∀ j b, mutS ρ' j → σ'[j]? = some (some (.ref b)) → G b ∨ ∃ k, mutS ρ k ∧ σ[k]? = some (some (.ref b))) : VR K H F ρ' σ' v r := by
  cases r with
  | d x => exact h
  | own xs =>
    obtain ⟨a, vs, h1, h2, h3, h4, h5⟩ := h
    refine ⟨a, vs, h1, h2, h3, fun z => h4 (hFG a z), fun i m e => ?_⟩
    rcases f i a m e with z | ⟨k, mk, ek⟩
    · exact h4 z
    · exact h5 k mk ek
theorem VRs.fewer {K : PySem.W.Frag} {H : Hp} : ∀ {F G : Fr} {ρ ρ' : Env} {σ σ' : L2.St} {vs : List V} {rs : List Val}, VRs K H G ρ σ vs rs → (∀ a, F a → G a) → (∀ j b, mutS ρ' j → σ'[j]? = some (some (.ref b)) → G b ∨ ∃ k, mutS ρ k ∧ σ[k]? = some (some (.ref b))) → VRs K H F ρ' σ' vs rs
  | _, _, _, _, _, _, [], [], _, _, _ => trivial
  | _, _, _, _, _, _, [], _ :: _, h, _, _ => h.elim
  | _, _, _, _, _, _, _ :: _, [], h, _, _ => h.elim
  | F, G, ρ, ρ', σ, σ', v :: vs, r :: rs, h, hFG, f => by
    refine ⟨VR.fewer h.1 hFG f, VRs.fewer h.2 (fun a z => ?_) fun j b m e => ?_⟩
    · cases r with
      | d x => exact hFG a z
      | own xs => exact z.elim (fun z => .inl (hFG a z)) .inr
    · rcases f j b m e with z | z
      · exact .inl (hold_le G v _ b z)
      · exact .inr z
/-- one target, one value -/
theorem putT_ok (ok : XOk Γ T X) {n : Nat} {e : Expr} {t : Tg} (h : compTg n T e = some t) {pins : List (Addr × Obj)} {s : Shared} {σ : L2.St} {H : Hp} {v : V} {u : Value} {Q : L2.St → Hp → Prop} (I : Inv X pins σ H s) (ru : RelV v u)
    {P : Pins} {F : Fr} {ρ ρ' : Env} {r : Val} (R : Rel X.K P F ρ σ H) (d : VR X.K H F ρ σ v r) (e1 : putT t r ρ = .ok ρ') (k : ∀ σ', Rel X.K P F ρ' σ' H → (∀ j b, mutS ρ' j → σ'[j]? = some (some (.ref b)) → hold F v (.val r) b ∨ ∃ k, mutS ρ k ∧ σ[k]? = some (some (.ref b))) → Q σ' H) :
    wpAny (model X.prog X.w) X.A (assign e X.env u) (fun _ s' => ∃ σ' H', Inv X pins σ' H' s' ∧ Q σ' H') X.xe s := by
  cases r with
  | d x =>
    refine (sg_T ok n h).1.run pins s σ H v u Q I ru ⟨P, F, ρ, x, ρ', R, d, ?_, fun σ' R' _ fw => k σ' R' fun j b m e => .inr (fw j b m e)⟩
    cases t with
    | n i => exact e1
    | t ts => exact e1
  | own xs =>
    cases n with
    | zero => cases h
    | succ n =>
      unfold compTg at h
      split at h
      · obtain ⟨i, hi, rfl⟩ := Option.map_eq_some_iff.mp h
        obtain ⟨h1, h2, h3⟩ := tg_facts ok hi
        refine (pg_name ok.nd h1 h2 h3).run pins s σ H v u Q I ru ?_
        have e1 : put ρ i (.own xs) = .ok ρ' := e1
        refine k _ (R.put (lt_N I h1) e1 d) fun j b m e => ?_
        rw [put_is e1] at m
        rcases mutS_set (by rw [R.len]; exact lt_N I h1) m with ⟨rfl, _⟩ | ⟨hne, hm⟩
        · rw [List.getElem?_set_self (lt_N I h1)] at e
          exact .inl (.inr (Option.some.inj (Option.some.inj e)))
        · rw [List.getElem?_set_ne (Ne.symm hne)] at e
          exact .inr ⟨j, hm, e⟩
      · obtain ⟨ts, hts, rfl⟩ := Option.map_eq_some_iff.mp h
        cases e1
      · cases h
theorem putTs_ok (ok : XOk Γ T X) : ∀ {n : Nat} {es : List Expr} {ts : Tgs}, compTgs n T es = some ts → ∀ {pins : List (Addr × Obj)} {s : Shared} {σ : L2.St} {H : Hp} {vs : List V} {us : List Value} {Q : L2.St → Hp → Prop}, Inv X pins σ H s → Vals vs us →
    ∀ {P : Pins} {F : Fr} {ρ ρ' : Env} {rs : List Val}, Rel X.K P F ρ σ H → VRs X.K H F ρ σ vs rs → putTs ts rs ρ = .ok ρ' → (∀ σ', Rel X.K P F ρ' σ' H → Q σ' H) →
    wpAny (model X.prog X.w) X.A (assignInOrder ((assignEach es X.env).map (·.2)) us) (fun _ s' => ∃ σ' H', Inv X pins σ' H' s' ∧ Q σ' H') X.xe s
  | 0, _, _, h, _, _, _, _, _, _, _, _, _, _, _, _, _, _, _, _, _, _ => by cases h
  | n + 1, es, ts, h, pins, s, σ, H, vs, us, Q, I, rv, P, F, ρ, ρ', rs, R, d, e, k => by
    unfold compTgs at h
    split at h
    · cases h
      cases rs with
      | nil =>
        cases e
        cases vs with
        | nil => cases rv; exact assignInOrder_nil ⟨σ, H, I, k σ R⟩
        | cons _ _ => exact d.elim
      | cons _ _ => cases e
    · rename_i x r'
      split at h
      · rename_i a b ha hb
        cases h
        cases rs with
        | nil => cases e
        | cons r rs =>
          cases vs with
          | nil => exact d.elim
          | cons v vs =>
            cases rv with
            | cons r1 r2 =>
              obtain ⟨ρ1, e1, e2⟩ := bind_ok.mp (show (putT a r ρ).bind (fun ρ' => putTs b rs ρ') = .ok ρ' from e)
              rw [show (assignEach (x :: r') X.env).map (·.2) = assign x X.env :: (assignEach r' X.env).map (·.2) by rw [as_cons (sg_T ok n ha).2]; rfl]
              refine assignInOrder_cons (thn (putT_ok ok ha (Q := fun σ1 H1 => H1 = H ∧ Rel X.K P F ρ1 σ1 H ∧ VRs X.K H F ρ1 σ1 vs rs) I r1 R d.1 e1 fun σ1 R1 fw => ⟨rfl, R1, d.2.fewer (hold_le F v _) fw⟩) fun _ s1 ⟨σ1, H1, I1, eH, R1, d1⟩ => ?_)
              subst eH
              exact putTs_ok ok hb I1 r2 R1 d1 e2 k
      · cases h

/-! ### assignments -/
theorem sw_no {e : Expr} {tg : Option Expr} {l : Nat} {env : PySem.Env} (h : isComp e = false) : swapsWith e tg l env = pure false := by
  cases e <;> first | rfl | (unfold isComp at h; cases h)
theorem ss_asg (ok : XOk Γ T X) {x : Str} {i : Nat} {e : Expr} {c : E} {p : Pos} (hi : T.tg x = some i) (he : PE X e (tE X.K (ev Γ c))) (hs : swapsWith e (some (.Name x p)) pos.line X.env = pure false) : PS X (.Assign [.Name x p] e pos) (tS X.K (ex Γ W (.asg i c))) := by
  obtain ⟨h1, h2, h3⟩ := tg_facts ok hi
  have base := ps_set (pos := pos) ok.nd h1 h2 he hs h3
  refine ⟨fun pins s σ H D I q => base.run pins s σ H D I ?_⟩
  obtain ⟨P, F, ρ, fl, ρ', R, e1, k⟩ := q
  obtain ⟨⟨v, ρ1⟩, e2, e3⟩ := bind_ok.mp e1
  obtain ⟨ρ2, e4, e5⟩ := bind_ok.mp e3
  have e5 := Res.ok.inj e5
  cases e5
  refine ⟨P, F, ρ, v, ρ1, R, e2, fun w H1 x1 R1 d1 => k _ _ x1 (R1.put (lt_N I h1) e4 d1)⟩
theorem ss_lc (ok : XOk Γ T X) (hk : X.env.scope.kind = .function) {x : Str} {i : Nat} {p : Pos} (hi : T.tg x = some i) {elt tg it : Expr} {ifs : List Expr} {scope : Scope} {own : List (Str × Nat)} {t : Tg} {ci : It} {tt : Oe} {c : E} {lp : Pos} (hb : blkC T.N T.sc scope own = true) (ht : tgIn (own.map (·.2)) t = true)
    (hg : ∀ {X' : Cx}, XOk Γ (T.blk scope) X' → PG X' tg (gT X'.K t)) (hI : PI X tg it (tI X.K (evIt Γ ci))) (hf : ∀ x, foldedSetIterable it X.env x = pure x)
    (htt : ∀ {X' : Cx}, XOk Γ (T.blk scope) X' → PTs X' ifs (tTs X'.K Γ tt)) (he : ∀ {X' : Cx}, XOk Γ (T.blk scope) X' → PE X' elt (tD X'.K (ev Γ c))) :
    PS X (.Assign [.Name x p] (.ListComp elt [⟨tg, it, ifs, 0⟩] scope lp) pos) (tS X.K (ex Γ W (.asg i (.lc t ci (own.map (·.2)) tt c)))) := by
  obtain ⟨h1, h2, h3⟩ := tg_facts ok hi
  have bk : X.env.blockKind = .function := by unfold Env.blockKind; rw [hk]; rfl
  have sw : swapsWith (.ListComp elt [⟨tg, it, ifs, 0⟩] scope lp) (some (.Name x p)) pos.line X.env = pure (X.env.blockKind == .function && X.env.kindOf x == some .local && p.line == lp.line && !(scope.names.any fun (n, k) => n == x && (k == .local || k == .cell))) := rfl
  cases hB : (X.env.blockKind == .function && X.env.kindOf x == some .local && p.line == lp.line && !(scope.names.any fun (n, k) => n == x && (k == .local || k == .cell))) with
  | false =>
    rw [hB] at sw
    exact ss_asg ok hi (se_lc ok hb ht hg hI hf htt he).pe sw
  | true =>
    rw [hB] at sw
    simp only [Bool.and_eq_true] at hB
    have hyl : X.env.scope.names.lookup x = some .local := by
      have := hB.1.1.2
      exact eq_of_beq this
    have bo : BlkOk X.N X.env.scope scope own := by rw [ok.N, ok.sc]; exact blkOk_by hb
    have base := ps_setLc (g := gT X.K t) (tt := tTs X.K Γ tt) (te := tD X.K (ev Γ c)) (py := p) (spos := pos) (pos := lp) ok.calm ok.nd h1 hyl sw hI bo (fun s H C cl fp => hg (xok_blk ok s H scope C cl fp)) (fun s H C cl fp => htt (xok_blk ok s H scope C cl fp)) (fun s H C cl fp => he (xok_blk ok s H scope C cl fp)) hf
    refine ⟨fun pins s σ H D I q => base.run pins s σ H D I ?_⟩
    obtain ⟨P, F, ρ, fl, ρ', R, e1, k⟩ := q
    obtain ⟨⟨v, ρ1⟩, e2, e3⟩ := bind_ok.mp e1
    obtain ⟨ρ2, e4, e5⟩ := bind_ok.mp e3
    have e5 := Res.ok.inj e5
    cases e5
    exact lc_reads ht ⟨P, F, ρ, v, ρ1, R, e2, fun w H1 x1 R1 d1 => k _ _ x1 (R1.put (lt_N I h1) e4 d1)⟩
theorem ss_unp (ok : XOk Γ T X) {ts : List Expr} {tg : Tgs} {j : Nat} {p : Pos} {e : Expr} {c : E} (ht : compTgs 10 T ts = some tg) (he : SE X Γ e c) (hc : isComp e = false) (hn : ∀ vs k q, e ≠ .Tuple vs k q) : PS X (.Assign [.Tuple ts j p] e pos) (tS X.K (ex Γ W (.unp (.t tg) c))) := by
  obtain ⟨g1, g2⟩ := sg_Ts ok 10 ht
  have h1 : compTg 11 T (.Tuple ts j p) = some (.t tg) := by
    unfold compTg
    dsimp only
    rw [ht]; rfl
  have pg := (sg_T ok 11 h1).1
  have hw : swappedStores [.Tuple ts j p] e X.env = pure none := by
    cases e <;> first | rfl | exact absurd rfl (hn _ _ _)
  refine (ps_asg he.pd pg (by show swapsWith e (some (.Tuple ts j p)) pos.line X.env = pure false; exact sw_no hc) hw rfl).imp fun D σ H q => ?_
  obtain ⟨P, F, ρ, fl, ρ', R, e1, k⟩ := q
  obtain ⟨⟨v, ρ1⟩, e2, e3⟩ := bind_ok.mp e1
  obtain ⟨ρ2, e4, e5⟩ := bind_ok.mp e3
  have e5 := Res.ok.inj e5
  cases e5
  exact ⟨P, F, ρ, v, ρ1, R, e2, fun w H1 x1 R1 d1 => ⟨P, F, ρ1, _, _, R1, d1, e4, fun σ' R' _ _ => k _ _ x1 R'⟩⟩
theorem ss_setL (ok : XOk Γ T X) {x : Str} {i : Nat} {ix e : Expr} {ci c : E} {p q : Pos} (hi : T.ix x = some i) (hx : SE X Γ ix ci) (he : SE X Γ e c) (hc : isComp e = false) (hs : ∀ a b c d, ix ≠ .Slice a b c d) : PS X (.Assign [.Subscript (.Name x p) ix q] e pos) (tS X.K (ex Γ W (.setL i ci c))) := by
  obtain ⟨h1, h2, h3, h4⟩ := ix_facts ok hi
  have base : PE X (.Name x p) (tVar i) := pe_var h1 h2 h3 h4
  have ha : ∀ v, assign (.Subscript (.Name x p) ix q) X.env v = (do
      let ov ← eval (.Name x p) X.env |> holding [v]
      let iv ← holding [v, ov] (eval ix X.env)
      standAt q
      holding [v, ov, iv] (setItem ov iv v)
      release [v, ov, iv] []) := fun v => by
    cases ix <;> first | rfl | exact absurd rfl (hs _ _ _ _)
  refine (ps_asg he.pd (pg_sub base hx.pd set_list ha) (by show swapsWith e (some (.Subscript (.Name x p) ix q)) pos.line X.env = pure false; exact sw_no hc) rfl rfl).imp fun De σ H q => ?_
  obtain ⟨P, F, ρ, fl, ρ', R, e1, k⟩ := q
  obtain ⟨⟨v, ρ1⟩, e2, e3⟩ := bind_ok.mp e1
  have e3 : (if there ρ1 i = true then (ev Γ ci ρ1).bind fun (k, ρ2) => (asInt k).bind fun j => match getS ρ2 i with
    | some (.own xs) => match ixN xs.length j with
      | some n => .ok (.nx, setS ρ2 i (.own (xs.set n v.toD)))
      | none => .no
    | some (.io xs) => match ixN xs.length j with
      | some n => .ok (.nx, setS ρ2 i (.io (xs.set n v.toD)))
      | none => .no
    | _ => .no
    else .no) = Res.ok (fl, ρ') := e3
  by_cases th : there ρ1 i = true
  case neg => rw [if_neg th] at e3; cases e3
  rw [if_pos th] at e3
  obtain ⟨⟨kv, ρ2⟩, e4, e5⟩ := bind_ok.mp e3
  obtain ⟨j, e6, e7⟩ := bind_ok.mp e5
  have ek := asInt_ok e6
  try dsimp only at e7 ek
  subst ek
  clear e3 e5 e1
  refine ⟨P, F, ρ, v, ρ1, R, e2, fun w H1 x1 R1 d1 => ?_⟩
  have hv : ∃ u, σ[i]? = some (some u) := by
    unfold there at th
    cases q0 : getS ρ1 i with
    | none => rw [q0] at th; cases th
    | some s0 => obtain ⟨u, hu, _⟩ := R1.sl i s0 q0; exact ⟨u, hu⟩
  obtain ⟨u, hu⟩ := hv
  refine ⟨u, hu, P, F, ρ1, _, ρ2, R1, e4, fun w2 H2 x2 R2 d2 => ?_⟩
  have go : ∀ (s : Slot) (xs : List D), getS ρ2 i = some s → (s = .own xs ∨ s = .io xs) → ∀ n, ixN xs.length j = some n → fl = .nx → ρ' = setS ρ2 i (s.but (xs.set n v.toD)) →
      rSetL u w2 w H2 fun H3 => De.nx σ H3 := fun s xs q hs n hn e8 e9 => by
    subst e8 e9
    obtain ⟨z, k1, k2⟩ := R2.sl i s q
    rw [hu] at k1
    have ez : u = z := Option.some.inj (Option.some.inj k1)
    subst ez
    have k3 : ∃ a us, u = .ref a ∧ H2 a = some (.lst us) ∧ DRs X.K H2 us xs := by rcases hs with rfl | rfl <;> exact k2
    obtain ⟨a, us, rfl, k3, k4⟩ := k3
    have m : mutS ρ2 i := by
      rcases hs with rfl | rfl
      · exact .inl ⟨xs, q⟩
      · exact .inr ⟨xs, q⟩
    refine ⟨a, us, j, n, rfl, by cases d2; rfl, k3, by rw [k4.len]; exact hn, ?_⟩
    exact k _ _ (x1.trans (x2.trans (Ex.set k3 (R2.nf i a m hu)))) (R2.upd q hs hu (DRs.set (DR.ex x2 d1) n k4))
  split at e7
  · rename_i xs q
    split at e7
    · rename_i n hn
      have e7 := Res.ok.inj e7
      exact go _ xs q (.inl rfl) n hn (congrArg Prod.fst e7).symm (congrArg Prod.snd e7).symm
    · cases e7
  · rename_i xs q
    split at e7
    · rename_i n hn
      have e7 := Res.ok.inj e7
      exact go _ xs q (.inr rfl) n hn (congrArg Prod.fst e7).symm (congrArg Prod.snd e7).symm
    · cases e7
  · cases e7
end
end AW

set_option Elab.async false
set_option linter.all false
set_option maxRecDepth 100000
set_option maxHeartbeats 4000000
/-! Soundness: all statements; a def by its body. -/
namespace AW
open PySem PySem.Spec PyProof.Rows L2
theorem swap_is {T : Sg} {env : PySem.Env} (hk : env.scope.kind = .function) (sc : env.scope = T.sc) {ts vs : List Expr} {j k : Nat} {p q : Pos} {o : Option (List Str)} (h : swapDec T ts vs = some o) : swappedStores [.Tuple ts j p] (.Tuple vs k q) env = pure o := by
  have bk : env.blockKind = .function := by unfold Env.blockKind; rw [hk]; rfl
  unfold swapDec at h
  rw [← sc] at h
  unfold swappedStores
  dsimp only at h ⊢
  rw [bk]
  simp only [bne_self_eq_false, Bool.or_false, Env.kindOf]
  split at h
  · rename_i c; cases h; exact if_pos c
  rename_i c
  refine (if_neg c).trans ?_
  split at h
  · rename_i c; cases h
    exact if_pos c
  rename_i c
  refine (if_neg c).trans ?_
  split at h
  · rename_i c; cases h; exact if_pos c
  rename_i c
  refine (if_neg c).trans ?_
  split at h
  · rename_i c; cases h; exact if_pos c
  rename_i c
  refine (if_neg c).trans ?_
  split at h
  · cases h
  rename_i c
  refine (if_neg c).trans ?_
  cases h
  rfl
section
variable {X : Cx} {Γ : Gam} {T : Sg} {pos : Pos} {W : Nat}
theorem isLocal_at (ok : XOk Γ T X) {x : Str} (h : isLocal (T.kind x) = true) : X.env.scope.names.lookup x = some .local := by
  rw [ok.sc]
  unfold isLocal Sg.kind at h
  split at h
  · assumption
  · cases h
theorem compTgs_two {x y : Str} {px py : Pos} {tg : Tgs} (h : compTgs 10 T [.Name x px, .Name y py] = some tg) : ∃ i j, T.tg x = some i ∧ T.tg y = some j ∧ tg = .cons (.n i) (.cons (.n j) .nil) := by
  simp only [compTgs, compTg] at h
  cases h1 : T.tg x with
  | none => rw [h1] at h; cases h
  | some i =>
    cases h2 : T.tg y with
    | none => rw [h1, h2] at h; cases h
    | some j => rw [h1, h2] at h; cases h; exact ⟨i, j, rfl, rfl, rfl⟩
theorem compTgs_three {x y z : Str} {px py pz : Pos} {tg : Tgs} (h : compTgs 10 T [.Name x px, .Name y py, .Name z pz] = some tg) : ∃ i j k, T.tg x = some i ∧ T.tg y = some j ∧ T.tg z = some k ∧ tg = .cons (.n i) (.cons (.n j) (.cons (.n k) .nil)) := by
  simp only [compTgs, compTg] at h
  cases h1 : T.tg x with
  | none => rw [h1] at h; cases h
  | some i =>
    cases h2 : T.tg y with
    | none => rw [h1, h2] at h; cases h
    | some j =>
      cases h3 : T.tg z with
      | none => rw [h1, h2, h3] at h; cases h
      | some k => rw [h1, h2, h3] at h; cases h; exact ⟨i, j, k, rfl, rfl, rfl, rfl⟩
theorem tg_ne {x y : Str} {i j : Nat} (h1 : X.N[i]? = some x) (h2 : X.N[j]? = some y) (h : x ≠ y) : i ≠ j := fun e => by
  subst e
  rw [h1] at h2
  exact h (Option.some.inj h2)
/-- a name takes a value in hand, the others are still in hand -/
theorem put_one {K : PySem.W.Frag} {P : Pins} {F : Fr} {ρ ρ' : Env} {σ : L2.St} {H : Hp} {i : Nat} {v : V} {r : Val} {vs : List V} {rs : List Val} (hi : i < σ.length) (R : Rel K P F ρ σ H) (d : VRs K H F ρ σ (v :: vs) (r :: rs)) (e : put ρ i r = .ok ρ') :
    Rel K P F ρ' (σ.set i (some v)) H ∧ VRs K H F ρ' (σ.set i (some v)) vs rs := by
  refine ⟨R.put hi e d.1, d.2.fewer (hold_le F v _) fun j b m e2 => ?_⟩
  rw [put_is e] at m
  rcases mutS_set (by rw [R.len]; exact hi) m with ⟨rfl, hh⟩ | ⟨h1, h2⟩
  · rw [List.getElem?_set_self hi] at e2
    have ev := Option.some.inj (Option.some.inj e2)
    cases r with
    | d x => rcases hh with ⟨_, z⟩ | ⟨_, z⟩ <;> cases z
    | own xs => exact .inl (.inr ev)
  · rw [List.getElem?_set_ne (Ne.symm h1)] at e2
    exact .inr ⟨j, h2, e2⟩
theorem VRs.newAt {K : PySem.W.Frag} {H : Hp} {a : Addr} {o : HO} (ha : H a = none) : ∀ {F : Fr} {ρ : Env} {σ : L2.St} {ws : List V} {rs : List Val}, VRs K H F ρ σ ws rs → VRs K (upd H a o) F ρ σ ws rs
  | _, _, _, [], [], _ => trivial
  | _, _, _, _ :: _, [], h => h.elim
  | _, _, _, [], _ :: _, h => h.elim
  | F, ρ, σ, w :: ws, r :: rs, h => by
    refine ⟨?_, VRs.newAt ha h.2⟩
    cases r with
    | d x => exact DR.ex (F := F) (.new ha) h.1
    | own xs =>
      obtain ⟨b, vs, e, h1, h2, h3, h4⟩ := h.1
      exact ⟨b, vs, e, by rw [upd_ne (ne_of_none h1 ha)]; exact h1, DRs.ex (F := F) (.new ha) h2, h3, h4⟩
theorem ss_par (ok : XOk Γ T X) (hk : X.env.scope.kind = .function) {f : Expr → Option E} (hf : ∀ e c, f e = some c → SE X Γ e c) {ts vs : List Expr} {o : Option (List Str)} {tg : Tgs} {es : Es} {j k : Nat} {p q : Pos} (h1 : swapDec T ts vs = some o) (h2 : compTgs 10 T ts = some tg)
    (h3 : compL f vs = some es) (hl : vs.length = ts.length) (hn : ts.length ≤ 100) (hs : swapChk T o ts vs = true) : PS X (.Assign [.Tuple ts j p] (.Tuple vs k q) pos) (tS X.K (ex Γ W (.par tg es))) := by
  have sw := swap_is hk ok.sc h1 (j := j) (k := k) (p := p) (q := q)
  obtain ⟨pa, ns⟩ := sm_L hf h3
  cases o with
  | none =>
    have g : PG X (.Tuple ts j p) (fun v σ H Q => ∃ P F ρ ρ' a ws rs, v = .ref a ∧ H a = some (.tup ws) ∧ ws.length = ts.length ∧ Rel X.K P F ρ σ H ∧ VRs X.K H F ρ σ ws rs ∧ putTs tg rs ρ = .ok ρ' ∧ ∀ σ', Rel X.K P F ρ' σ' H → Q σ' H) := by
      refine ⟨fun pins s σ H v u Q I r h => ?_⟩
      obtain ⟨P, F, ρ, ρ', a, ws, rs, rfl, ha, hw, R, d, e, kk⟩ := h
      cases r
      obtain ⟨its, rv, ht, hz⟩ := I.tuple (SqT.of ha)
      refine assign_Tuple_tuple (I.ok.hd ok.calm) ht (by rw [as_len, ← hw, rv.length]; simp) (as_none (sg_Ts ok 10 h2).2) fun h' hx => ?_
      have I1 : Inv X pins σ H { s with heap := h' } := I.kept (t' := s.toks) fun b o e => hx b o (Nat.ne_of_lt (Heap.lt_size e)) e
      exact putTs_ok ok h2 I1 (by simpa using rv) R d e kk
    refine (ps_asg (pe_tup pa) g (by show swapsWith (.Tuple vs k q) (some (.Tuple ts j p)) pos.line X.env = pure false; rfl) sw rfl).imp fun De σ H q => ?_
    obtain ⟨P, F, ρ, fl, ρ', R, e1, kk⟩ := q
    obtain ⟨⟨rs, ρ1⟩, e2, e3⟩ := bind_ok.mp e1
    obtain ⟨ρ2, e4, e5⟩ := bind_ok.mp e3
    have e5 := Res.ok.inj e5
    cases e5
    have dl := evm_len h3 e2
    refine ⟨P, F, ρ, rs, ρ1, R, e2, fun ws H1 x1 R1 d1 => ⟨?_, fun a ha => ?_⟩⟩
    · have := VRs.len d1; have := sizeLine_eq; omega
    · refine ⟨P, F, ρ1, _, a, ws, rs, rfl, upd_same, by rw [VRs.len d1, dl, hl], R1.new ha, ?_, e4, fun σ' R' => kk _ _ (x1.trans (.new ha)) R'⟩
      exact VRs.newAt ha d1
  | some nm =>
    unfold swapChk at hs
    dsimp only at hs
    split at hs
    · rename_i x px y py a b
      simp only [Bool.and_eq_true, decide_eq_true_eq] at hs
      obtain ⟨⟨⟨rfl, nxy⟩, lx⟩, ly⟩ := hs
      obtain ⟨i, l, ti, tl, rfl⟩ := compTgs_two h2
      obtain ⟨i1, i2, i3⟩ := tg_facts ok ti
      obtain ⟨l1, l2, l3⟩ := tg_facts ok tl
      have base := ps_par (pos := pos) ok.calm ok.nd i1 l1 (tg_ne i1 l1 nxy) (isLocal_at ok lx) (isLocal_at ok ly) pa sw
      refine ⟨fun pins s σ H De I q => base.run pins s σ H De I ?_⟩
      obtain ⟨P, F, ρ, fl, ρ', R, e1, kk⟩ := q
      obtain ⟨⟨rs, ρ1⟩, e2, e3⟩ := bind_ok.mp e1
      obtain ⟨ρ2, e4, e5⟩ := bind_ok.mp e3
      have e5 := Res.ok.inj e5
      cases e5
      have dl := evm_len h3 e2
      have hli := lt_N I i1
      have hll := lt_N I l1
      match rs, dl with
      | [r1, r2], _ =>
        refine ⟨P, F, ρ, _, ρ1, R, e2, fun ws H1 x1 R1 d1 => ?_⟩
        match ws, d1 with
        | [w1, w2], d1 =>
          obtain ⟨ρa, f1, f2⟩ := bind_ok.mp (show (put ρ1 i r1).bind (fun ρ' => putTs (.cons (.n l) .nil) [r2] ρ') = .ok ρ' from e4)
          obtain ⟨ρb, f3, f4⟩ := bind_ok.mp (show (put ρa l r2).bind (fun ρ' => putTs .nil [] ρ') = .ok ρ' from f2)
          have f4 : Res.ok ρb = Res.ok ρ' := f4
          cases f4
          obtain ⟨Ra, da⟩ := put_one hli R1 d1 f1
          obtain ⟨Rb, db⟩ := put_one (by rw [List.length_set]; exact hll) Ra da f3
          exact ⟨w1, w2, rfl, kk _ _ x1 Rb⟩
    · rename_i x px y py z pz a b c
      simp only [Bool.and_eq_true, decide_eq_true_eq] at hs
      obtain ⟨⟨⟨⟨⟨⟨rfl, nxy⟩, nxz⟩, nyz⟩, lx⟩, ly⟩, lz⟩ := hs
      obtain ⟨i, l, m, ti, tl, tm, rfl⟩ := compTgs_three h2
      obtain ⟨i1, i2, i3⟩ := tg_facts ok ti
      obtain ⟨l1, l2, l3⟩ := tg_facts ok tl
      obtain ⟨m1, m2, m3⟩ := tg_facts ok tm
      have base := ps_par3 (pos := pos) ok.calm ok.nd i1 l1 m1 (tg_ne i1 l1 nxy) (tg_ne i1 m1 nxz) (tg_ne l1 m1 nyz) (isLocal_at ok lx) (isLocal_at ok ly) (isLocal_at ok lz) pa sw
      refine ⟨fun pins s σ H De I q => base.run pins s σ H De I ?_⟩
      obtain ⟨P, F, ρ, fl, ρ', R, e1, kk⟩ := q
      obtain ⟨⟨rs, ρ1⟩, e2, e3⟩ := bind_ok.mp e1
      obtain ⟨ρ2, e4, e5⟩ := bind_ok.mp e3
      have e5 := Res.ok.inj e5
      cases e5
      have dl := evm_len h3 e2
      have hli := lt_N I i1
      have hll := lt_N I l1
      have hlm := lt_N I m1
      match rs, dl with
      | [r1, r2, r3], _ =>
        refine ⟨P, F, ρ, _, ρ1, R, e2, fun ws H1 x1 R1 d1 => ?_⟩
        match ws, d1 with
        | [w1, w2, w3], d1 =>
          obtain ⟨ρa, f1, f2⟩ := bind_ok.mp (show (put ρ1 i r1).bind (fun ρ' => putTs (.cons (.n l) (.cons (.n m) .nil)) [r2, r3] ρ') = .ok ρ' from e4)
          obtain ⟨ρb, f3, f4⟩ := bind_ok.mp (show (put ρa l r2).bind (fun ρ' => putTs (.cons (.n m) .nil) [r3] ρ') = .ok ρ' from f2)
          obtain ⟨ρc, f5, f6⟩ := bind_ok.mp (show (put ρb m r3).bind (fun ρ' => putTs .nil [] ρ') = .ok ρ' from f4)
          have f6 : Res.ok ρc = Res.ok ρ' := f6
          cases f6
          obtain ⟨Ra, da⟩ := put_one hli R1 d1 f1
          obtain ⟨Rb, db⟩ := put_one (by rw [List.length_set]; exact hll) Ra da f3
          obtain ⟨Rc, dc⟩ := put_one (by rw [List.length_set, List.length_set]; exact hlm) Rb db f5
          exact ⟨w1, w2, w3, rfl, kk _ _ x1 Rc⟩
    · cases hs

/-! ### flow -/
theorem SPost.ex {K : PySem.W.Frag} {P : Pins} {F : Fr} {ρ' : Env} {H H' : Hp} {De : Ends} {fl : Fl} (x : Ex F H H') (h : SPost K P F ρ' H De fl) : SPost K P F ρ' H' De fl := by
  cases fl with
  | nx => exact fun σ1 H1 x1 R => h σ1 H1 (x.trans x1) R
  | rt r => exact fun v σ1 H1 x1 R d => h v σ1 H1 (x.trans x1) R d
  | bk => exact fun σ1 H1 x1 R => h σ1 H1 (x.trans x1) R
  | ct => exact fun σ1 H1 x1 R => h σ1 H1 (x.trans x1) R
theorem ss_next {f : Env → Res (Fl × Env)} (hf : ∀ ρ, f ρ = .ok (.nx, ρ)) {De : Ends} {σ : L2.St} {H : Hp} (q : tS X.K f De σ H) : De.nx σ H := by
  obtain ⟨P, F, ρ, fl, ρ', R, e, k⟩ := q
  rw [hf] at e
  have e := Res.ok.inj e
  cases e
  exact k _ _ (.refl H) R
theorem ss_ex {e : Expr} {c : E} (he : PE X e (tE X.K (ev Γ c))) (hc : isComp e = false) : PS X (.Expr e pos) (tS X.K (ex Γ W (.ex c))) := by
  refine (ps_expr he (sw_no hc)).imp fun De σ H q => ?_
  obtain ⟨P, F, ρ, fl, ρ', R, e1, k⟩ := q
  obtain ⟨⟨v, ρ1⟩, e2, e3⟩ := bind_ok.mp e1
  have e3 := Res.ok.inj e3
  cases e3
  exact ⟨P, F, ρ, v, _, R, e2, fun w H1 x1 R1 d1 => k _ _ x1 R1⟩
theorem ss_if {e : Expr} {c : E} {a b : List Stmt} {ca cb : Ss} (he : PT X e (tT X.K (ev Γ c))) (ha : PSs X a (tS X.K (exs Γ W ca))) (hb : PSs X b (tS X.K (exs Γ W cb))) : PS X (.If e a b pos) (tS X.K (ex Γ W (.iff c ca cb))) := by
  refine (ps_if he ha hb).imp fun De σ H q => ?_
  obtain ⟨P, F, ρ, fl, ρ', R, e1, k⟩ := q
  obtain ⟨t, ρ1, e2, e3⟩ := bl_ok (x := ev Γ c ρ) (g := fun t ρ1 => if t = true then exs Γ W ca ρ1 else exs Γ W cb ρ1) e1
  refine ⟨P, F, ρ, t, ρ1, R, e2, fun H1 x1 R1 => ?_⟩
  cases t with
  | true => rw [if_pos rfl] at e3 ⊢; exact ⟨P, F, ρ1, fl, ρ', R1, e3, k.ex x1⟩
  | false => rw [if_neg Bool.false_ne_true] at e3 ⊢; exact ⟨P, F, ρ1, fl, ρ', R1, e3, k.ex x1⟩
theorem ss_nil : PSs X [] (tS X.K (exs Γ W .nil)) := pss_nil.imp fun De σ H q => ss_next (fun _ => rfl) q
theorem ss_cons {s : Stmt} {r : List Stmt} {a : S} {b : Ss} (h1 : PS X s (tS X.K (ex Γ W a))) (h2 : PSs X r (tS X.K (exs Γ W b))) : PSs X (s :: r) (tS X.K (exs Γ W (.cons a b))) := by
  refine (pss_cons h1 h2).imp fun De σ H q => ?_
  obtain ⟨P, F, ρ, fl, ρ', R, e1, k⟩ := q
  obtain ⟨⟨f1, ρ1⟩, e2, e3⟩ := bind_ok.mp e1
  refine ⟨P, F, ρ, f1, ρ1, R, e2, ?_⟩
  cases f1 with
  | nx => exact fun σ1 H1 x1 R1 => ⟨P, F, ρ1, fl, ρ', R1, e3, k.ex x1⟩
  | rt v => have e3 := Res.ok.inj e3; cases e3; exact k
  | bk => have e3 := Res.ok.inj e3; cases e3; exact k
  | ct => have e3 := Res.ok.inj e3; cases e3; exact k
theorem ss_whl (ok : XOk Γ T X) {e : Expr} {c : E} {b : List Stmt} {cb : Ss} (he : PT X e (tT X.K (ev Γ c))) (hb : PSs X b (tS X.K (exs Γ W cb))) : PS X (.While e b [] pos) (tS X.K (ex Γ W (.whl c cb))) := by
  refine (ps_while (by rw [ok.nox]; exact PassesOwn.never) he hb).imp fun De σ H q => ?_
  obtain ⟨P, F, ρ, fl, ρ', R, e1, k⟩ := q
  refine ⟨fun m σi Hc => ∃ ρi, whlGo (ev Γ c) (exs Γ W cb) m ρi = .ok (fl, ρ') ∧ Ex F H Hc ∧ Rel X.K P F ρi σi Hc, ⟨W, ρ, e1, .refl H, R⟩, ?_⟩
  rintro m σi Hc ⟨ρi, e2, xc, Ri⟩
  cases m with
  | zero => cases e2
  | succ m =>
    unfold whlGo at e2
    split at e2
    · rename_i ρ1 e3
      refine ⟨P, F, ρi, true, ρ1, Ri, e3, fun H1 x1 R1 => ?_⟩
      dsimp only
      rw [if_pos rfl]
      refine ⟨fun σ2 H2 => ∃ ρ2, whlGo (ev Γ c) (exs Γ W cb) m ρ2 = .ok (fl, ρ') ∧ Ex F H H2 ∧ Rel X.K P F ρ2 σ2 H2, fun σ2 H2 h => ⟨m, Nat.lt_succ_self m, h⟩, ?_⟩
      split at e2
      · rename_i ρ2 e4
        exact ⟨P, F, ρ1, .nx, ρ2, R1, e4, fun σ2 H2 x2 R2 => ⟨ρ2, e2, xc.trans (x1.trans x2), R2⟩⟩
      · rename_i ρ2 e4
        exact ⟨P, F, ρ1, .ct, ρ2, R1, e4, fun σ2 H2 x2 R2 => ⟨ρ2, e2, xc.trans (x1.trans x2), R2⟩⟩
      · rename_i ρ2 e4
        have e2 := Res.ok.inj e2
        cases e2
        exact ⟨P, F, ρ1, .bk, _, R1, e4, fun σ2 H2 x2 R2 => k _ _ (xc.trans (x1.trans x2)) R2⟩
      · rename_i v ρ2 e4
        have e2 := Res.ok.inj e2
        cases e2
        exact ⟨P, F, ρ1, .rt v, _, R1, e4, fun w σ2 H2 x2 R2 d2 => k _ _ _ (xc.trans (x1.trans x2)) R2 d2⟩
      · cases e2
    · rename_i ρ1 e3
      have e2 := Res.ok.inj e2
      cases e2
      refine ⟨P, F, ρi, false, _, Ri, e3, fun H1 x1 R1 => ?_⟩
      dsimp only
      rw [if_neg Bool.false_ne_true]
      exact k _ _ (xc.trans x1) R1
    · cases e2
theorem ss_for (ok : XOk Γ T X) {tg it : Expr} {ci : It} {t : Tg} {b : List Stmt} {cb : Ss} (hg : PG X tg (gT X.K t)) (hI : PI X tg it (tI X.K (evIt Γ ci))) (hf : ∀ x, foldedSetIterable it X.env x = pure x) (hb : PSs X b (tS X.K (exs Γ W cb))) :
    PS X (.For tg it b [] pos) (tS X.K (ex Γ W (.for_ t ci cb))) := by
  refine (ps_for (by rw [ok.nox]; exact PassesOwn.never) ok.calm hI hg hb hf).imp fun De σ H q => ?_
  obtain ⟨P, F, ρ, fl, ρ', R, e, k⟩ := q
  have e : ((evIt Γ ci ρ).bind fun (xs, ρ1, lk) => (forGo (fun x ρ => (bindT t x ρ).bind fun ρ' => exs Γ W cb ρ') xs ρ1).bind fun (fl, ρ2) => (unlock lk ρ2).bind fun ρ3 => .ok (fl, ρ3)) = Res.ok (fl, ρ') := e
  obtain ⟨⟨xs, ρ1, lk⟩, e1, e⟩ := bind_ok.mp e
  obtain ⟨⟨fl2, ρ2⟩, e2, e⟩ := bind_ok.mp e
  obtain ⟨ρ3, e3, e⟩ := bind_ok.mp e
  have e := Res.ok.inj e
  cases e
  generalize hgo : (fun (x : D) (ρ : Env) => (bindT t x ρ).bind fun ρ' => exs Γ W cb ρ') = go at e2
  refine ⟨P, F, ρ, xs, ρ1, lk, R, e1, fun J H1 P' F' x1 hFF R1 itd un => ?_⟩
  refine ⟨fun i m σi Hc => m = xs.length - i ∧ i ≤ xs.length ∧ ∃ ρi, forGo go (xs.drop i) ρi = .ok (fl, ρ2) ∧ Ex F' H1 Hc ∧ Rel X.K P' F' ρi σi Hc, ⟨xs.length, by simp, Nat.zero_le _, ρ1, e2, .refl H1, R1⟩, ?_⟩
  rintro i m σi Hc ⟨rfl, hi, ρi, g, xc, Ri⟩
  by_cases hlt : i < xs.length
  · right
    refine ⟨itd.go i Hc xc hlt, fun σ2 H2 => i + 1 ≤ xs.length ∧ ∃ ρi, forGo go (xs.drop (i + 1)) ρi = .ok (fl, ρ2) ∧ Ex F' H1 H2 ∧ Rel X.K P' F' ρi σ2 H2, fun σ2 H2 h => ⟨xs.length - (i + 1), by omega, rfl, h⟩, fun v Hy y => ?_⟩
    have hx : xs[i]? = some xs[i] := List.getElem?_eq_getElem hlt
    obtain ⟨xy, dv⟩ := itd.yld i Hc v Hy xc y _ hx
    rw [List.drop_eq_getElem_cons hlt] at g
    have Ry : Rel X.K P' F' ρi σi Hy := Ri.ex (xy _)
    -- the turn by itself
    have turn : ∃ f1 ρt, go xs[i] ρi = .ok (f1, ρt) ∧ (match f1 with
        | .nx => forGo go (xs.drop (i + 1)) ρt = .ok (fl, ρ2)
        | .ct => forGo go (xs.drop (i + 1)) ρt = .ok (fl, ρ2)
        | .bk => fl = .nx ∧ ρt = ρ2
        | .rt v => fl = .rt v ∧ ρt = ρ2) := by
      unfold forGo at g
      split at g
      · rename_i ρt h; exact ⟨_, ρt, h, g⟩
      · rename_i ρt h; exact ⟨_, ρt, h, g⟩
      · rename_i ρt h
        have g := Res.ok.inj g
        cases g
        exact ⟨_, _, h, rfl, rfl⟩
      · rename_i v ρt h
        have g := Res.ok.inj g
        cases g
        exact ⟨_, _, h, rfl, rfl⟩
      · cases g
    obtain ⟨f1, ρt, s1, s2⟩ := turn
    rw [← hgo] at s1
    obtain ⟨ρb, b1, s1⟩ := bind_ok.mp s1
    refine ⟨P', F', ρi, _, ρb, Ry, dv, b1, fun σb Rb _ _ => ⟨P', F', ρb, f1, ρt, Rb, s1, ?_⟩⟩
    have xcy : Ex F' H1 Hy := xc.trans (xy F')
    cases f1 with
    | nx => exact fun σ2 H2 x2 R2 => ⟨hlt, ρt, s2, xcy.trans x2, R2⟩
    | ct => exact fun σ2 H2 x2 R2 => ⟨hlt, ρt, s2, xcy.trans x2, R2⟩
    | bk =>
      obtain ⟨rfl, rfl⟩ := s2
      exact fun σ2 H2 x2 R2 => k _ _ (x1.trans ((xcy.trans x2).weak hFF)) (un _ σ2 H2 _ R2 (xcy.trans x2) e3).1
    | rt v =>
      obtain ⟨rfl, rfl⟩ := s2
      intro w σ2 H2 x2 R2 d2
      obtain ⟨R3, hm⟩ := un _ σ2 H2 _ R2 (xcy.trans x2) e3
      refine k w _ _ (x1.trans ((xcy.trans x2).weak hFF)) R3 ?_
      cases v with
      | d x => exact d2
      | own ys =>
        obtain ⟨a, vs, h1, h2, h3, h4, h5⟩ := d2
        refine ⟨a, vs, h1, h2, h3, fun f => h4 (hFF a f), fun j mj ej => ?_⟩
        rcases hm j a mj ej with z | z
        · exact h4 z
        · exact h5 j z ej
  · left
    have ei : i = xs.length := by omega
    subst ei
    rw [List.drop_length] at g
    unfold forGo at g
    have g := Res.ok.inj g
    cases g
    exact ⟨itd.stop Hc xc, k _ _ (x1.trans (xc.weak hFF)) (un _ σi Hc _ Ri xc e3).1⟩
/-- an own list leaves its name -/
theorem Rel.drop {K : PySem.W.Frag} {P : Pins} {F : Fr} {ρ : Env} {σ : L2.St} {H : Hp} {i : Nat} {xs : List D} (R : Rel K P F ρ σ H) (q : getS ρ i = some (.own xs)) : Rel K P F (ρ.set i none) σ H := by
  have hi := getS_lt q
  have g : ∀ j, getS (ρ.set i none) j = if j = i then none else getS ρ j := fun j => getS_set ρ i j none hi
  have le : ∀ j s, getS (ρ.set i none) j = some s → getS ρ j = some s := fun j s h => by
    rw [g] at h
    by_cases e : j = i
    · rw [if_pos e] at h; cases h
    · rw [if_neg e] at h; exact h
  have mu : ∀ j, mutS (ρ.set i none) j → mutS ρ j := fun j m => by
    rcases m with ⟨ys, h⟩ | ⟨ys, h⟩
    · exact .inl ⟨ys, le j _ h⟩
    · exact .inr ⟨ys, le j _ h⟩
  refine ⟨by rw [List.length_set]; exact R.len, fun j s h => R.sl j s (le j s h), fun j k a mj mk => R.inj j k a (mu j mj) (mu k mk), fun j a m => R.nf j a (mu j m), R.fok, fun j ys h => R.lkS j ys (le j _ h), fun j ys h => R.ioS j ys (le j _ h), fun p hp => ?_, fun p hp => ?_⟩
  · obtain ⟨h1, ⟨ys, h2⟩, h3⟩ := R.pinL p hp
    refine ⟨h1, ⟨ys, ?_⟩, h3⟩
    rw [g, if_neg (fun z => by rw [z, q] at h2; cases h2)]
    exact h2
  · obtain ⟨h1, ys, h2⟩ := R.pinI p hp
    refine ⟨h1, ys, ?_⟩
    rw [g, if_neg (fun z => by rw [z, q] at h2; cases h2)]
    exact h2
theorem se_ret {e : Expr} {c : E} (he : SE X Γ e c) : PE X e (tE X.K (retV Γ c)) := by
  refine ⟨fun pins s σ H Q I q => ?_⟩
  obtain ⟨P, F, ρ, r, ρ', R, e1, k⟩ := q
  have plain : ev Γ c ρ = .ok (r, ρ') → wpAny (model X.prog X.w) X.A (eval e X.env) (EP X pins σ Q) X.xe s := fun e2 => he.pe.run pins s σ H Q I ⟨P, F, ρ, r, ρ', R, e2, k⟩
  unfold retV at e1
  split at e1
  · rename_i i
    split at e1
    · rename_i xs hq
      have e1 := Res.ok.inj e1
      cases e1
      refine he.pk.run pins s σ H Q I ⟨P, F, ρ, .var i, ρ, R, ?_, fun v H1 x1 R1 d1 => ?_⟩
      · show (if there ρ i = true then Res.ok (PVal.var i, ρ) else .no) = _
        rw [if_pos (by unfold there; rw [hq])]
      · obtain ⟨u, h1, a, us, h2, h3, h4⟩ := R1.sl i _ hq
        have d1 : σ[i]? = some (some v) := d1
        rw [d1] at h1
        have eu : v = u := Option.some.inj (Option.some.inj h1)
        subst eu
        have m : mutS ρ i := .inl ⟨xs, hq⟩
        refine k v H1 x1 (R1.drop hq) ⟨a, us, h2, h3, h4, R1.nf i a m (by rw [d1, h2]), fun j mj ej => ?_⟩
        have hi := getS_lt hq
        have g : getS (ρ.set i none) j = if j = i then none else getS ρ j := getS_set ρ i j none hi
        unfold mutS at mj
        rw [g] at mj
        by_cases ee : j = i
        · rw [if_pos ee] at mj; rcases mj with ⟨_, z⟩ | ⟨_, z⟩ <;> cases z
        · rw [if_neg ee] at mj
          exact ee (R1.inj j i a mj m ej (by rw [d1, h2]))
    · exact plain e1
  · exact plain e1
theorem ss_ret {e : Expr} {c : E} (he : SE X Γ e c) : PS X (.Return (some e) pos) (tS X.K (ex Γ W (.ret c))) := by
  refine (ps_ret (se_ret he)).imp fun De σ H q => ?_
  obtain ⟨P, F, ρ, fl, ρ', R, e1, k⟩ := q
  obtain ⟨⟨v, ρ1⟩, e2, e3⟩ := bind_ok.mp e1
  have e3 := Res.ok.inj e3
  cases e3
  exact ⟨P, F, ρ, v, _, R, e2, fun w H1 x1 R1 d1 => k w _ _ x1 R1 d1⟩
theorem ss_retN : PS X (.Return none pos) (tS X.K (ex Γ W (.ret (.k .non)))) := by
  refine ps_retN.imp fun De σ H q => ?_
  obtain ⟨P, F, ρ, fl, ρ', R, e1, k⟩ := q
  have e1 : Res.ok (Fl.rt (.d .non), ρ) = Res.ok (fl, ρ') := e1
  have e1 := Res.ok.inj e1
  cases e1
  exact k .non σ H (.refl H) R .non
end
end AW

set_option Elab.async false
set_option linter.all false
set_option maxRecDepth 100000
set_option maxHeartbeats 4000000
/-! Soundness: all statements; a def by its body. -/
namespace AW
open PySem PySem.Spec PyProof.Rows L2
section
variable {Γ : Gam} {W : Nat} {m : Nat}
theorem lc_of (n : Nat) {T : Sg} {X : Cx} {elt : Expr} {gens : List Comprehension} {scope : Scope} {lp : Pos} {c : E} (h : comp n T (.ListComp elt gens scope lp) = some c) : ∃ tg it ifs, gens = [⟨tg, it, ifs, 0⟩] := by
  cases n with
  | zero => cases h
  | succ n =>
    unfold comp at h
    dsimp only at h
    split at h
    · split at h
      · rename_i hh
        obtain ⟨h0, _⟩ := hh
        subst h0
        exact ⟨_, _, _, rfl⟩
      · cases h
    · cases h
theorem ss_lcAll (n : Nat) {T : Sg} {X : Cx} (ok : XOk Γ T X) (hk : X.env.scope.kind = .function) {x : Str} {i : Nat} {p pos : Pos} (hi : T.tg x = some i) {elt : Expr} {gens : List Comprehension} {scope : Scope} {lp : Pos} {c : E} (h : comp n T (.ListComp elt gens scope lp) = some c) :
    PS X (.Assign [.Name x p] (.ListComp elt gens scope lp) pos) (tS X.K (ex Γ W (.asg i c))) := by
  cases n with
  | zero => cases h
  | succ n =>
    have ih : ∀ (e : Expr) (c : E), comp n T e = some c → SE X Γ e c := fun e c h => se_all n ok h
    unfold comp at h
    dsimp only at h
    split at h
    · rename_i tg it ifs as
      split at h
      · rename_i hh
        obtain ⟨h0, hb⟩ := hh
        subst h0
        split at h
        · rename_i t ci x h1 h2 h3
          split at h
          · rename_i hz
            obtain ⟨hI, hf⟩ := si_It ok ih h2 hz.2
            split at h
            · cases h
              exact ss_lc ok hk hi hb hz.1 (fun ok' => (sg_T ok' _ h1).1) hI hf (fun _ => pts_nil) fun ok' => (se_all n ok' h3).pd
            · obtain ⟨q, hq, rfl⟩ := Option.map_eq_some_iff.mp h
              exact ss_lc ok hk hi hb hz.1 (fun ok' => (sg_T ok' _ h1).1) hI hf (fun ok' => pts_one (se_all n ok' hq).pt) fun ok' => (se_all n ok' h3).pd
            · cases h
          · cases h
        · cases h
      · cases h
    · cases h
theorem sw_asg {e : Expr} {x : Str} {p pos : Pos} {env : PySem.Env} (h : isComp e = false) : swapsWith e (some (.Name x p)) pos.line env = pure false := sw_no h
theorem ss_asgAll {T : Sg} {X : Cx} (ok : XOk Γ T X) (hk : X.env.scope.kind = .function) {t e : Expr} {pos : Pos} {c : S} (h : compAsg m T t e = some c) : PS X (.Assign [t] e pos) (tS X.K (ex Γ W c)) := by
  have ih : ∀ (e : Expr) (c : E), comp m T e = some c → SE X Γ e c := fun e c h => se_all m ok h
  unfold compAsg at h
  split at h
  · rename_i x p
    split at h
    · rename_i i c' h1 h2
      split at h
      · cases h
        exact ss_lcAll m ok hk h1 h2
      · split at h
        · cases h
        · rename_i hc
          cases h
          exact ss_asg ok h1 (ih _ _ h2).pe (sw_asg (by simpa using hc))
    · cases h
  · rename_i ts k p
    split at h
    · rename_i vs k2 p2
      split at h
      · rename_i o tg es h1 h2 h3
        split at h
        · rename_i hh
          cases h
          exact ss_par ok hk ih h1 h2 h3 hh.1 hh.2.1 hh.2.2
        · cases h
      · cases h
    · rename_i hn
      split at h
      · cases h
      · rename_i hc
        split at h
        · rename_i tg c' h1 h2
          cases h
          exact ss_unp ok h1 (ih _ _ h2) (by simpa using hc) fun vs k q z => hn vs k q z
        · cases h
  · rename_i o i q
    split at h
    · rename_i x p
      split at h
      · cases h
      · rename_i hs
        split at h
        · cases h
        · rename_i hc
          split at h
          · rename_i j k c' h1 h2 h3
            cases h
            exact ss_setL ok h1 (ih _ _ h2) (ih _ _ h3) (by simpa using hc) fun a b c d z => hs a b c d z
          · cases h
    · cases h
  · cases h
theorem ps_bad {X : Cx} {st : Stmt} : PS X st (tS X.K (ex Γ W .bad)) := ps_never.imp fun De σ H q => by
  obtain ⟨P, F, ρ, fl, ρ', R, e, k⟩ := q
  cases e
mutual
theorem ss_all : ∀ (n : Nat) {T : Sg} {X : Cx} {s : Stmt} {c : S}, XOk Γ T X → X.env.scope.kind = .function → compS m n T s = some c → PS X s (tS X.K (ex Γ W c))
  | 0, _, _, _, _, _, _, h => by unfold compS at h; cases h
  | n + 1, T, X, s, c, ok, hk, h => by
    have ih : ∀ (e : Expr) (c : E), comp m T e = some c → SE X Γ e c := fun e c h => se_all m ok h
    unfold compS at h
    split at h
    · split at h
      · obtain ⟨c', hc, rfl⟩ := Option.map_eq_some_iff.mp h
        exact ss_ret (ih _ _ hc)
      · cases h
        exact ss_retN
    · split at h
      · exact ss_asgAll ok hk h
      · cases h
    · rename_i e p
      split at h
      · rename_i hd
        cases h
        unfold isDoc at hd
        split at hd
        · exact ps_doc.imp fun De σ H q => ss_next (fun _ => rfl) q
        · cases hd
      · split at h
        · cases h
        · rename_i hc
          obtain ⟨c', hc', rfl⟩ := Option.map_eq_some_iff.mp h
          exact ss_ex (ih _ _ hc').pe (by simpa using hc)
    · split at h
      · rename_i h1 h2 h3
        cases h
        exact ss_if (ih _ _ h1).pt (sss_all n ok hk h2) (sss_all n ok hk h3)
      · cases h
    · split at h
      · split at h
        · rename_i h1 h2 h3
          split at h
          · rename_i hz
            cases h
            obtain ⟨hI, hf⟩ := si_It ok ih h2 hz
            exact ss_for ok (sg_T ok _ h1).1 hI hf (sss_all n ok hk h3)
          · cases h
        · cases h
      · cases h
    · split at h
      · split at h
        · rename_i h1 h2
          cases h
          exact ss_whl ok (ih _ _ h1).pt (sss_all n ok hk h2)
        · cases h
      · cases h
    · cases h
      exact ps_pass.imp fun De σ H q => ss_next (fun _ => rfl) q
    · cases h
      refine ps_break.imp fun De σ H q => ?_
      obtain ⟨P, F, ρ, fl, ρ', R, e, k⟩ := q
      have e := Res.ok.inj e
      cases e
      exact k _ _ (.refl H) R
    · cases h
      refine ps_continue.imp fun De σ H q => ?_
      obtain ⟨P, F, ρ, fl, ρ', R, e, k⟩ := q
      have e := Res.ok.inj e
      cases e
      exact k _ _ (.refl H) R
    · cases h
      exact ps_bad
    · cases h
theorem sss_all : ∀ (n : Nat) {T : Sg} {X : Cx} {s : List Stmt} {c : Ss}, XOk Γ T X → X.env.scope.kind = .function → compSs m n T s = some c → PSs X s (tS X.K (exs Γ W c))
  | 0, _, _, _, _, _, _, h => by unfold compSs at h; cases h
  | n + 1, T, X, s, c, ok, hk, h => by
    unfold compSs at h
    split at h
    · cases h
      exact ss_nil
    · split at h
      · rename_i h1 h2
        cases h
        exact ss_cons (ss_all n ok hk h1) (sss_all n ok hk h2)
      · cases h
end
end

/-! ### defs -/
section
variable {P : Program} {w : World} {K : PySem.W.Frag} {mg : Str → Option Value} {base : Heap}
/-- what a def knows of the module's names -/
def GKn (P : Program) (w : World) (K : PySem.W.Frag) (mg : Str → Option Value) (base : Heap) (k : Nat) (Γ : Gam) (x : Str) : GE → Prop
  | .f id ar => ∃ (fa : Addr) (fd : FuncData) (ps : List Str), mg x = some (.ref fa) ∧ PySem.W.keepIn K (.ref fa) = true ∧ FnOk P w K mg base CX0 k fa fd ps (spF K ar (Γ.f id)) ∧ Binds K fd ps []
  | .g id ar => ∃ (fa : Addr) (fd : FuncData) (ps : List Str), mg x = some (.ref fa) ∧ PySem.W.keepIn K (.ref fa) = true ∧ FnOk P w K mg base CX0 k fa fd ps (spG K ar (Γ.g id)) ∧ Binds K fd ps []
  | .c d => ∃ (v : V) (u : Value), mg x = some u ∧ RelV v u ∧ ∀ H, DR K H v d
  | .bi => mg x = none
theorem GKn.gok {k : Nat} {Γ : Gam} {x : Str} {ge : GE} {X : Cx} (h : GKn X.prog X.w X.K X.mg X.base k Γ x ge) (hr : Room k X.A) : GOk X Γ x ge := by
  cases ge with
  | f id ar => obtain ⟨fa, fd, ps, a, b, c, d⟩ := h; exact ⟨fa, fd, k, ps, a, b, c, d, hr⟩
  | g id ar => obtain ⟨fa, fd, ps, a, b, c, d⟩ := h; exact ⟨fa, fd, k, ps, a, b, c, d, hr⟩
  | c d => exact h
  | bi => exact h
theorem GKn.mono {j k : Nat} {Γ : Gam} {x : Str} {ge : GE} (h : GKn P w K mg base j Γ x ge) (hjk : j ≤ k) : GKn P w K mg base k Γ x ge := by
  cases ge with
  | f id ar => obtain ⟨fa, fd, ps, a, b, c, d⟩ := h; exact ⟨fa, fd, ps, a, b, c.mono hjk, d⟩
  | g id ar => obtain ⟨fa, fd, ps, a, b, c, d⟩ := h; exact ⟨fa, fd, ps, a, b, c.mono hjk, d⟩
  | c d => exact h
  | bi => exact h
def defSg (N : List Str) (st : Stmt) (G : List (Str × GE)) : Sg := ⟨N, defScope st, fun _ => true, G⟩
theorem getS_start (ds : List D) (k : Nat) {i : Nat} {s : Slot} (h : getS (ds.map (fun x => some (Slot.d x)) ++ List.replicate k none) i = some s) : ∃ x, ds[i]? = some x ∧ s = .d x := by
  unfold getS at h
  rw [List.getD_eq_getElem?_getD, List.getElem?_append] at h
  split at h
  · rename_i hl
    rw [List.getElem?_map] at h
    cases e : ds[i]? with
    | none => rw [e] at h; cases h
    | some x => rw [e] at h; have h : some (Slot.d x) = some s := h; cases h; exact ⟨x, rfl, rfl⟩
  · rw [List.getElem?_replicate] at h
    split at h <;> cases h
theorem DRs.at {K : PySem.W.Frag} {H : Hp} : ∀ {vs : List V} {ds : List D} {i : Nat} {x : D}, DRs K H vs ds → ds[i]? = some x → ∃ v, vs[i]? = some v ∧ DR K H v x
  | _, _, 0, _, .cons h _, e => by cases e; exact ⟨_, rfl, h⟩
  | _, _, i + 1, _, .cons _ r, e => DRs.at (i := i) r e
theorem fn_F {x qual : Str} {st : Stmt} {f : Addr} {fd : FuncData} {N ps : List Str} {k ar m n : Nat} {Γ : Gam} {G : List (Str × GE)} {b : Ss} {g : List D → Res Val} (F : Fun K x qual st f fd) (S : FnScope N ps (defScope st)) (har : ps.length = ar)
    (hc : compSs m n (defSg N st G) (defBody st) = some b) (hg : ∀ x ge, G.lookup x = some ge → GKn P w K mg base k Γ x ge) (hrun : ∀ ds r, ds.length = ar → g ds = .ok r → ∃ W, runF Γ W N.length b ds = .ok r) :
    FnOk P w K mg base CX0 (k + 1) f fd ps (spF K ar g) := by
  refine Fun.ok F S (fun vs H Q E h => ?_) fun cdv A outer s H vs Q E hr hsp => ?_
  · obtain ⟨_, _, _, h1, _⟩ := h
    rw [h1, har]
  · obtain ⟨Fr, ds, r, hl, hd, hF, hgr, hQ⟩ := hsp
    obtain ⟨W, hrun⟩ := hrun ds r (by rw [← hl]; exact hd.len.symm) hgr
    have hd0 : ds.length = vs.length := hd.len.symm
    let X := (cxOf CX0 P w K mg base N qual (defScope st) f cdv A outer s H E).nox
    have ok : XOk Γ (defSg N st G) X := ⟨rfl, rfl, rfl, S.nd, rfl, rfl, hr.mono (Nat.zero_le _), fun x ge h => (hg x ge h).gok hr⟩
    refine ⟨_, sss_all (W := W) n ok S.kind hc, ?_⟩
    have hpl : ps.length ≤ N.length := by have := congrArg List.length S.pre; rw [List.length_take] at this; omega
    have R : Rel K ⟨[], []⟩ Fr (ds.map (fun x => some (Slot.d x)) ++ List.replicate (N.length - ds.length) none) (L2.start N vs) H := by
      have nm : ∀ i, ¬ mutS (ds.map (fun x => some (Slot.d x)) ++ List.replicate (N.length - ds.length) none) i := fun i m => by
        rcases m with ⟨xs, h⟩ | ⟨xs, h⟩ <;> · obtain ⟨x, _, z⟩ := getS_start ds _ h; cases z
      refine ⟨by unfold L2.start; simp [hd0], fun i s h => ?_, fun i j a mi => absurd mi (nm i), fun i a mi => absurd mi (nm i), hF, fun i xs h => ?_, fun i xs h => ?_, fun p hp => (nomatch hp), fun p hp => (nomatch hp)⟩
      · obtain ⟨x, h1, rfl⟩ := getS_start ds _ h
        obtain ⟨v, h2, h3⟩ := DRs.at hd h1
        refine ⟨v, ?_, h3⟩
        unfold L2.start
        rw [List.getElem?_append_left (by rw [List.length_map]; exact (List.getElem?_eq_some_iff.mp h2).1), List.getElem?_map, h2]
        rfl
      · obtain ⟨x, _, z⟩ := getS_start ds _ h; cases z
      · obtain ⟨x, _, z⟩ := getS_start ds _ h; cases z
    unfold runF at hrun
    split at hrun
    · rename_i v ρ' e
      have hrun := Res.ok.inj hrun
      subst hrun
      refine ⟨_, Fr, _, _, ρ', R, e, fun u σ' H' x' R' d' => hQ u H' x' ?_⟩
      cases v with
      | d x => exact d'
      | own xs => obtain ⟨a, us, h1, h2, h3, h4, _⟩ := d'; exact ⟨a, us, h1, h2, h3, h4⟩
    · rename_i ρ' e
      have hrun := Res.ok.inj hrun
      subst hrun
      exact ⟨_, Fr, _, _, ρ', R, e, fun σ' H' x' R' => hQ .non H' x' .non⟩
    · cases hrun
theorem getS_startG (xs : List D) (ds : List D) (k : Nat) {i : Nat} {s : Slot} (h : getS (some (Slot.io xs) :: ds.map (fun x => some (Slot.d x)) ++ List.replicate k none) i = some s) : (i = 0 ∧ s = .io xs) ∨ ∃ j x, i = j + 1 ∧ ds[j]? = some x ∧ s = .d x := by
  cases i with
  | zero => left; have h : some (Slot.io xs) = some s := h; cases h; exact ⟨rfl, rfl⟩
  | succ j =>
    right
    obtain ⟨x, h1, h2⟩ := getS_start ds k (i := j) (s := s) h
    exact ⟨j, x, rfl, h1, h2⟩
theorem fn_G {x qual : Str} {st : Stmt} {f : Addr} {fd : FuncData} {N ps : List Str} {k ar m n : Nat} {Γ : Gam} {G : List (Str × GE)} {b : Ss} {g : List D → List D → Res (Val × List D)} (F : Fun K x qual st f fd) (S : FnScope N ps (defScope st)) (har : ps.length = ar + 1)
    (hc : compSs m n (defSg N st G) (defBody st) = some b) (hg : ∀ x ge, G.lookup x = some ge → GKn P w K mg base k Γ x ge) (hrun : ∀ xs ds r, ds.length = ar → g xs ds = .ok r → ∃ W, runG Γ W N.length b xs ds = .ok r) :
    FnOk P w K mg base CX0 (k + 1) f fd ps (spG K ar g) := by
  refine Fun.ok F S (fun vs H Q E h => ?_) fun cdv A outer s H vs Q E hr hsp => ?_
  · obtain ⟨_, _, _, ws, _, _, _, _, h1, h2, _⟩ := h
    rw [h1, har, List.length_cons, h2]
  · obtain ⟨Fr, a, us, ws, xs, ds, r, xs', rfl, hl, ha, hu, nF, hF, hd, hgr, hQ⟩ := hsp
    obtain ⟨W, hrun⟩ := hrun xs ds (r, xs') (by rw [← hl]; exact hd.len.symm) hgr
    have hd0 : ds.length = ws.length := hd.len.symm
    let X := (cxOf CX0 P w K mg base N qual (defScope st) f cdv A outer s H E).nox
    have ok : XOk Γ (defSg N st G) X := ⟨rfl, rfl, rfl, S.nd, rfl, rfl, hr.mono (Nat.zero_le _), fun x ge h => (hg x ge h).gok hr⟩
    refine ⟨_, sss_all (W := W) n ok S.kind hc, ?_⟩
    have hpl : ps.length ≤ N.length := by have := congrArg List.length S.pre; rw [List.length_take] at this; omega
    have st0 : (L2.start N (.ref a :: ws))[0]? = some (some (.ref a)) := rfl
    have R : Rel K ⟨[], [(0, a)]⟩ Fr (some (Slot.io xs) :: ds.map (fun x => some (Slot.d x)) ++ List.replicate (N.length - (ds.length + 1)) none) (L2.start N (.ref a :: ws)) H := by
      have nm : ∀ i, mutS (some (Slot.io xs) :: ds.map (fun x => some (Slot.d x)) ++ List.replicate (N.length - (ds.length + 1)) none) i → i = 0 := fun i m => by
        rcases m with ⟨ys, h⟩ | ⟨ys, h⟩ <;>
        · rcases getS_startG xs ds _ h with ⟨z, _⟩ | ⟨j, x, _, _, z⟩
          · exact z
          · cases z
      refine ⟨by unfold L2.start; simp [hd0], fun i s h => ?_, fun i j b mi mj _ _ => by rw [nm i mi, nm j mj], fun i b mi e => ?_, hF, fun i ys h => ?_, fun i ys h => ?_, fun p hp => (nomatch hp), fun p hp => ?_⟩
      · rcases getS_startG xs ds _ h with ⟨rfl, rfl⟩ | ⟨j, x, rfl, h1, rfl⟩
        · exact ⟨_, st0, a, us, rfl, ha, hu⟩
        · obtain ⟨v, h2, h3⟩ := DRs.at hd h1
          refine ⟨v, ?_, h3⟩
          unfold L2.start
          show ((ws.map some ++ _)[j]?) = _
          rw [List.getElem?_append_left (by rw [List.length_map]; exact (List.getElem?_eq_some_iff.mp h2).1), List.getElem?_map, h2]
          rfl
      · rw [nm i mi, st0] at e
        have e := vref e
        rw [← e]; exact nF
      · rcases getS_startG xs ds _ h with ⟨_, z⟩ | ⟨_, _, _, _, z⟩ <;> cases z
      · rcases getS_startG xs ds _ h with ⟨rfl, _⟩ | ⟨_, _, _, _, z⟩
        · exact ⟨a, List.mem_cons_self⟩
        · cases z
      · rcases List.mem_cons.mp hp with rfl | h
        · exact ⟨st0, xs, rfl⟩
        · cases h
    have fin : ∀ {ρ' : AW.Env} {σ' : L2.St} {H' : Hp} {ys : List D}, Rel K ⟨[], [(0, a)]⟩ Fr ρ' σ' H' → getS ρ' 0 = some (.io ys) → σ'[0]? = some (some (.ref a)) ∧ ∃ us', H' a = some (.lst us') ∧ DRs K H' us' ys := fun R' q => by
      obtain ⟨h1, _⟩ := R'.pinI (0, a) List.mem_cons_self
      obtain ⟨v, h2, b, us', h3, h4, h5⟩ := R'.sl 0 _ q
      have h1 : _ = _ := h1
      dsimp only at h1
      rw [h1] at h2
      have ev := Option.some.inj (Option.some.inj h2)
      subst h3
      cases ev
      exact ⟨h1, us', h4, h5⟩
    unfold runG at hrun
    split at hrun
    · rename_i v ρ' e
      split at hrun
      · rename_i ys q
        have hrun := Res.ok.inj hrun
        cases hrun
        refine ⟨_, Fr, _, _, ρ', R, e, fun u σ' H' x' R' d' => ?_⟩
        obtain ⟨q1, us', q2, q3⟩ := fin R' q
        refine hQ u H' us' x' q2 q3 ?_
        cases r with
        | d x => exact d'
        | own zs =>
          obtain ⟨b, us, h1, h2, h3, h4, h5⟩ := d'
          exact ⟨b, us, h1, h2, h3, fun z => z.elim h4 fun z => h5 0 (.inr ⟨_, q⟩) (by rw [q1, z])⟩
      · cases hrun
    · rename_i ρ' e
      split at hrun
      · rename_i ys q
        have hrun := Res.ok.inj hrun
        cases hrun
        refine ⟨_, Fr, _, _, ρ', R, e, fun σ' H' x' R' => ?_⟩
        obtain ⟨q1, us', q2, q3⟩ := fin R' q
        exact hQ .non H' us' x' q2 q3 .non
      · cases hrun
    · cases hrun
end
end AW

set_option Elab.async false
set_option linter.all false
set_option maxRecDepth 100000
set_option maxHeartbeats 4000000
/-! A program: a table of trees; what its defs are worth at a depth of calls. -/
namespace AW
open PySem PySem.Spec PyProof.Rows L2

abbrev Tab := Nat → Option (Nat × Ss)
/-- what the defs are worth when calls go at most so deep -/
def gam (T : Tab) (W : Nat) : Nat → Gam
  | 0 => ⟨fun _ _ => .no, fun _ _ _ => .no⟩
  | k + 1 => ⟨fun id ds => match T id with
      | some (n, b) => runF (gam T W k) W n b ds
      | none => .no,
    fun id xs ds => match T id with
      | some (n, b) => runG (gam T W k) W n b xs ds
      | none => .no⟩
section
variable {P : Program} {w : World} {K : PySem.W.Frag} {mg : Str → Option Value} {base : Heap} {T : Tab} {W : Nat} {G : List (Str × GE)}
/-- what must be known of a name that the defs read -/
def GFact (K : PySem.W.Frag) (mg : Str → Option Value) (T : Tab) (G : List (Str × GE)) (x : Str) : GE → Prop
  | .f id ar => ∃ (fa : Addr) (fd : FuncData) (st : Stmt) (N ps : List Str) (b : Ss) (m n : Nat), mg x = some (.ref fa) ∧ Fun K x x st fa fd ∧ FnScope N ps (defScope st) ∧ Binds K fd ps [] ∧ ps.length = ar ∧ compSs m n (defSg N st G) (defBody st) = some b ∧ T id = some (N.length, b)
  | .g id ar => ∃ (fa : Addr) (fd : FuncData) (st : Stmt) (N ps : List Str) (b : Ss) (m n : Nat), mg x = some (.ref fa) ∧ Fun K x x st fa fd ∧ FnScope N ps (defScope st) ∧ Binds K fd ps [] ∧ ps.length = ar + 1 ∧ compSs m n (defSg N st G) (defBody st) = some b ∧ T id = some (N.length, b)
  | .c d => ∃ (v : V) (u : Value), mg x = some u ∧ RelV v u ∧ ∀ H, DR K H v d
  | .bi => mg x = none
/-- a def whose promise is shown by hand -/
def HFact (P : Program) (w : World) (K : PySem.W.Frag) (mg : Str → Option Value) (base : Heap) (T : Tab) (W : Nat) (G : List (Str × GE)) (x : Str) : GE → Prop
  | .f id ar => ∃ (fa : Addr) (fd : FuncData) (ps : List Str), mg x = some (.ref fa) ∧ PySem.W.keepIn K (.ref fa) = true ∧ Binds K fd ps [] ∧
      ∀ k, (∀ x ge, G.lookup x = some ge → GKn P w K mg base k (gam T W k) x ge) → FnOk P w K mg base CX0 (k + 1) fa fd ps (spF K ar ((gam T W (k + 1)).f id))
  | _ => False
theorem prog_ok (h : ∀ x ge, G.lookup x = some ge → GFact K mg T G x ge ∨ HFact P w K mg base T W G x ge) : ∀ (k : Nat) (x : Str) (ge : GE), G.lookup x = some ge → GKn P w K mg base k (gam T W k) x ge
  | 0, x, ge, hx => by
    rcases h x ge hx with this | this
    case inr =>
      cases ge with
      | f id ar =>
        obtain ⟨fa, fd, ps, h1, h2, h3, _⟩ := this
        refine ⟨fa, fd, ps, h1, h2, ⟨fun vs H Q E z => ?_, fun A outer s H args us vs Q E _ _ _ _ z => ?_⟩, h3⟩
        · obtain ⟨_, _, _, _, _, _, z, _⟩ := z; cases z
        · obtain ⟨_, _, _, _, _, _, z, _⟩ := z; cases z
      | g id ar => exact False.elim this
      | c d => exact False.elim this
      | bi => exact False.elim this
    cases ge with
    | f id ar =>
      obtain ⟨fa, fd, st, N, ps, b, m, n, h1, h2, h3, h4, h5, h6, h7⟩ := this
      refine ⟨fa, fd, ps, h1, h2.kp, ⟨fun vs H Q E z => ?_, fun A outer s H args us vs Q E _ _ _ _ z => ?_⟩, h4⟩
      · obtain ⟨_, _, _, _, _, _, z, _⟩ := z; cases z
      · obtain ⟨_, _, _, _, _, _, z, _⟩ := z; cases z
    | g id ar =>
      obtain ⟨fa, fd, st, N, ps, b, m, n, h1, h2, h3, h4, h5, h6, h7⟩ := this
      refine ⟨fa, fd, ps, h1, h2.kp, ⟨fun vs H Q E z => ?_, fun A outer s H args us vs Q E _ _ _ _ z => ?_⟩, h4⟩
      · obtain ⟨_, _, _, _, _, _, _, _, _, _, _, _, _, _, _, z, _⟩ := z; cases z
      · obtain ⟨_, _, _, _, _, _, _, _, _, _, _, _, _, _, _, z, _⟩ := z; cases z
    | c d => exact this
    | bi => exact this
  | k + 1, x, ge, hx => by
    have ih := fun x ge hx => prog_ok h k x ge hx
    rcases h x ge hx with this | this
    case inr =>
      cases ge with
      | f id ar =>
        obtain ⟨fa, fd, ps, h1, h2, h3, h4⟩ := this
        exact ⟨fa, fd, ps, h1, h2, h4 k ih, h3⟩
      | g id ar => exact False.elim this
      | c d => exact False.elim this
      | bi => exact False.elim this
    cases ge with
    | f id ar =>
      obtain ⟨fa, fd, st, N, ps, b, m, n, h1, h2, h3, h4, h5, h6, h7⟩ := this
      refine ⟨fa, fd, ps, h1, h2.kp, fn_F h2 h3 h5 h6 ih fun ds r _ e => ⟨W, ?_⟩, h4⟩
      unfold gam at e
      dsimp only at e
      rw [h7] at e
      exact e
    | g id ar =>
      obtain ⟨fa, fd, st, N, ps, b, m, n, h1, h2, h3, h4, h5, h6, h7⟩ := this
      refine ⟨fa, fd, ps, h1, h2.kp, fn_G h2 h3 h5 h6 ih fun xs ds r _ e => ⟨W, ?_⟩, h4⟩
      unfold gam at e
      dsimp only at e
      rw [h7] at e
      exact e
    | c d => exact this
    | bi => exact this
/-- how a def's facts come -/
theorem GFact.ofF {x : Str} {st : Stmt} {fa : Addr} {fd : FuncData} {N ps : List Str} {id ar m n nl : Nat} {b : Ss} (h1 : mg x = some (.ref fa)) (h2 : Fun K x x st fa fd) (h3 : FnScope N ps (defScope st)) (h4 : Binds K fd ps []) (h5 : ps.length = ar)
    (h6 : compSs m n (defSg N st G) (defBody st) = some b) (h7 : T id = some (nl, b)) (h8 : N.length = nl) : GFact K mg T G x (.f id ar) := ⟨fa, fd, st, N, ps, b, m, n, h1, h2, h3, h4, h5, h6, by rw [h8]; exact h7⟩
theorem GFact.ofG {x : Str} {st : Stmt} {fa : Addr} {fd : FuncData} {N ps : List Str} {id ar m n nl : Nat} {b : Ss} (h1 : mg x = some (.ref fa)) (h2 : Fun K x x st fa fd) (h3 : FnScope N ps (defScope st)) (h4 : Binds K fd ps []) (h5 : ps.length = ar + 1)
    (h6 : compSs m n (defSg N st G) (defBody st) = some b) (h7 : T id = some (nl, b)) (h8 : N.length = nl) : GFact K mg T G x (.g id ar) := ⟨fa, fd, st, N, ps, b, m, n, h1, h2, h3, h4, h5, h6, by rw [h8]; exact h7⟩
/-- the names, one by one -/
theorem facts_nil {φ : Str → GE → Prop} : ∀ x ge, ([] : List (Str × GE)).lookup x = some ge → φ x ge := fun _ _ h => (nomatch h)
theorem facts_cons {φ : Str → GE → Prop} {y : Str} {g : GE} {r : List (Str × GE)} (h : φ y g) (t : ∀ x ge, r.lookup x = some ge → φ x ge) : ∀ x ge, ((y, g) :: r).lookup x = some ge → φ x ge := fun x ge e => by
  rw [List.lookup_cons] at e
  split at e
  · rename_i q
    cases e
    rw [eq_of_beq q]
    exact h
  · exact t x ge e
end
end AW

set_option Elab.async false
set_option linter.all false
set_option maxRecDepth 100000
set_option maxHeartbeats 4000000
/-! A list comprehension of three clauses: level by level. -/
namespace AW
open PySem PySem.Spec PyProof.Rows L2

abbrev NoE : Value → Shared → Prop := fun _ _ => False
section
variable {prog : Program} {w : World} {A : Around} {s : Shared} {el : Expr} {gens : List Comprehension} {scope : Scope} {cp : Pos} {d : Nat} {p : Pos} {t : Expr} {ifs : List Expr} {it acc : Value} {env : PySem.Env} {body : Sem Unit}
/-- the tests of a clause, as the machine asks them -/
abbrev testsOf (ifs : List Expr) (env : PySem.Env) : Sem Bool := forIn ifs true fun c r => if r = true then do let ok ← isTrue c env (eval c env); pure (ForInStep.yield ok) else pure (ForInStep.yield r)
theorem lvl_loop {R : Result → Shared → Prop} 
    (hT : compTurn (.ListComp el gens scope cp) d it acc env = (do
      standAt p
      match ← pyNext it with
      | none => pure (.done .next)
      | some v =>
        letOwnedTupleGo t it v
        assign t env v
        let mut ok := true
        for c in ifs do
          if ok then ok ← isTrue c env (eval c env)
        if ok then body
        again (.compLoop (.ListComp el gens scope cp) d it acc env)))
    (I : Nat → Shared → Prop) (done : Shared → Prop) (hR : ∀ s', done s' → R (.ok .next) s')
    (turn : ∀ n s, I n s → wpAny (model prog w) A (pyNext it) (fun r s1 => match r with
      | none => done s1
      | some v => wpAny (model prog w) A (letOwnedTupleGo t it v) (fun _ s2 => wpAny (model prog w) A (assign t env v) (fun _ s3 =>
          wpAny (model prog w) A (testsOf ifs env) (fun ok s4 => if ok = true then wpAny (model prog w) A body (fun _ s5 => ∃ m, m < n ∧ I m s5) NoE s4 else ∃ m, m < n ∧ I m s4) NoE s3) NoE s2) NoE s1) NoE s)
    (n : Nat) (h : I n s) : codeAny (model prog w) A (.compLoop (.ListComp el gens scope cp) d it acc env) R s := by
  refine codeAny_loop rfl I (fun n s hI => ?_) n h
  show wpAny _ A ((compTurn (.ListComp el gens scope cp) d it acc env).onRaise (fun x => do noteFrame x env; theTreesLotGoes x)) _ _ s
  refine wpAny_noted ?_
  rw [hT]
  refine wpAny_bind (wpAny_standAt (wpAny_bind (wpAny_mono (turn n s hI) (fun r s1 h1 => ?_) fun _ _ z => False.elim z)))
  cases r with
  | none => exact wpAny_pure (hR _ h1)
  | some v =>
    refine wpAny_bind (wpAny_mono h1 (fun _ s2 h2 => ?_) fun _ _ z => False.elim z)
    refine wpAny_bind (wpAny_mono h2 (fun _ s3 h3 => wpAny_bind (wpAny_mono h3 (fun ok s4 h4 => ?_) fun _ _ z => False.elim z)) fun _ _ z => False.elim z)
    cases ok with
    | false => exact wpAny_pure ⟨rfl, h4⟩
    | true => exact wpAny_bind (wpAny_mono h4 (fun _ s5 h5 => wpAny_pure ⟨rfl, h5⟩) fun _ _ z => False.elim z)
end

/-- what one turn's body is to reach: the heap behind it -/
abbrev TB := L2.St → Hp → (Hp → Prop) → Prop
/-- the last body: what is appended -/
def tApp (te : TE) (D : Addr) : TB := fun σ H Nx => te σ H fun y H7 => ∃ us, H7 D = some (.lst us) ∧ us.length < sizeLine ∧ Nx (upd H7 D (.lst (us ++ [y])))
/-- one clause's loop -/
def tTurns (J : L2.It) (g : TG) (tt : TT) (tb : TB) (vs : List Nat) (σ : L2.St) (W : Nat → Nat → Hp → Prop) (Done : Hp → Prop) : Prop := ∀ i m H, W i m H →
  (J.stop i H ∧ Done H) ∨ (J.go i H ∧ ∃ Nx : Hp → Prop, (∀ H', Nx H' → ∃ m', m' < m ∧ W (i + 1) m' H') ∧ ∀ x H', J.yld i H x H' → g x (wipe σ vs) H' fun σ2 H2 => wipe σ2 vs = wipe σ vs ∧ tt σ2 H2 fun b H3 => if b = true then tb σ2 H3 Nx else Nx H3)
def tLvl (wi : TI) (g : TG) (tt : TT) (tb : TB) (vs : List Nat) : TB := fun σ H Done => wi σ H fun J H4 => ∃ W : Nat → Nat → Hp → Prop, (∃ m, W 0 m H4) ∧ tTurns J g tt tb vs σ W Done
/-- slots that know what σ knew but for vs -/
def Kp (σ σ' : L2.St) (vs : List Nat) : Prop := σ'.length = σ.length ∧ ∀ (j : Nat) v, (wipe σ vs)[j]? = some (some v) → σ'[j]? = some (some v)
theorem Kp.refl (σ : L2.St) (vs : List Nat) : Kp σ σ vs := ⟨rfl, fun j v h => (wipe_some h).1⟩
theorem wipe_still {σ : L2.St} {i : Nat} : ∀ {vs : List Nat}, i ∉ vs → (wipe σ vs)[i]? = σ[i]?
  | [], _ => rfl
  | v :: vs, h => by
    rw [List.mem_cons, not_or] at h
    show ((wipe σ vs).set v none)[i]? = _
    rw [List.getElem?_set_ne (Ne.symm h.1)]
    exact wipe_still h.2
theorem Kp.wiped (σ : L2.St) {vs vs1 : List Nat} (hv : ∀ i ∈ vs1, i ∈ vs) : Kp σ (wipe σ vs1) vs := ⟨wipe_length σ vs1, fun j v h => by
  obtain ⟨h1, h2⟩ := wipe_some h
  rw [wipe_still fun z => h2 (hv j z)]
  exact h1⟩
/-- a turn's body -/
def BodyOk (Y : Cx) (body : Sem Unit) (tb : TB) (vs : List Nat) : Prop := ∀ (pins : List (Addr × Obj)) (s : Shared) (σ : L2.St) (H : Hp) (Nx : Hp → Prop), Inv Y pins σ H s → tb σ H Nx →
  wpAny (model Y.prog Y.w) Y.A body (fun _ s' => ∃ σ' H', Inv Y pins σ' H' s' ∧ Kp σ σ' vs ∧ Nx H') NoE s
section
variable {Y : Cx} {el elt t i1 : Expr} {gens : List Comprehension} {scope : Scope} {cp : Pos} {d : Nat} {p : Pos} {ifs : List Expr} {acc : Value} {body : Sem Unit} {g : TG} {tt : TT} {te : TE} {tb : TB} {vs : List Nat} {σ : L2.St} {H : Hp} {s : Shared} {pins : List (Addr × Obj)}
theorem app_body {D : Addr} (pe : PE Y elt te) (hx : Y.xe = NoE) : BodyOk Y (do let _ ← call (.builtin "list.append") [.ref D, ← eval elt Y.env]) (tApp te D) vs := fun pins s σ H Nx I h => by
  have pr := pe.run pins s σ H _ I h
  rw [hx] at pr
  refine wpAny_bind (wpAny_mono pr (fun z s1 ⟨y, H1, I1, r1, us, hD, hz, nx⟩ => wpAny_bind (app_ok (X := Y) I1 hD hz r1 fun s2 I2 => wpAny_pure ⟨σ, _, I2, .refl σ vs, nx⟩)) fun _ _ z => z)
/-- one level's loop, from its iterator on -/
theorem lvl_run {R : Result → Shared → Prop} {it : Addr} {fp : List Addr} {tn : Nat → Heap → Prop} {J : L2.It} {W : Nat → Nat → Hp → Prop} {Done : Hp → Prop} (hc : Y.calm = true) (hx : Y.xe = NoE)
    (hT : compTurn (.ListComp el gens scope cp) d (.ref it) acc Y.env = (do
      standAt p
      match ← pyNext (.ref it) with
      | none => pure (.done .next)
      | some v =>
        letOwnedTupleGo t (.ref it) v
        assign t Y.env v
        let mut ok := true
        for c in ifs do
          if ok then ok ← isTrue c Y.env (eval c Y.env)
        if ok then body
        again (.compLoop (.ListComp el gens scope cp) d (.ref it) acc Y.env)))
    (pg : PG Y t g) (pt : PTs Y ifs tt) (hb : BodyOk Y body tb vs) (I : Inv Y pins (wipe σ vs) H s) (T : Turn Y.prog Y.w Y.K t J fp it tn) (st : tn 0 s.heap) (f : ∀ b ∈ fp, FpOk Y pins H b)
    (w0 : ∃ m, W 0 m H) (turns : tTurns J g tt tb vs σ W Done) (hR : ∀ s', (∃ H', Inv Y pins (wipe σ vs) H' s' ∧ Done H') → R (.ok .next) s') : codeAny (model Y.prog Y.w) Y.A (.compLoop (.ListComp el gens scope cp) d (.ref it) acc Y.env) R s := by
  obtain ⟨m0, w0⟩ := w0
  have stat : ∀ {H' : Hp}, (∀ b ∈ fp, H' b = none) → ∀ b ∈ fp, FpOk Y pins H' b := fun hn b hb => ⟨hn b hb, (f b hb).2⟩
  refine lvl_loop hT (fun n s' => ∃ i H', Inv Y pins (wipe σ vs) H' s' ∧ tn i s'.heap ∧ (∀ b ∈ fp, H' b = none) ∧ W i n H') _ hR ?_ m0 ⟨0, H, I, st, fun b hb => (f b hb).1, w0⟩
  rintro n s5 ⟨i, H5, I5, st5, n5, w5⟩
  rcases turns i n H5 w5 with ⟨stop, dn⟩ | ⟨go, Nx, hNx, step⟩
  · refine thn (T.done Y rfl rfl rfl hc i pins s5 _ H5 NoE I5 (stat n5) st5 stop) fun r s6 ⟨hr, I6⟩ => ?_
    subst hr
    exact ⟨H5, I6, dn⟩
  · refine thn (T.item Y rfl rfl rfl hc i pins s5 _ H5 NoE I5 (stat n5) st5 go) fun r s6 ⟨u, hr, h6⟩ => ?_
    subst hr
    refine thn h6 fun _ s7 ⟨x, H7, I7, r7, y7, st7, n7⟩ => ?_
    have I7' := I7.pinned (stat n7) (T.obj _ _ st7)
    have ag := pg.run _ s7 _ H7 x u _ I7' r7 (step x H7 y7)
    rw [hx] at ag
    refine thn ag fun _ s8 ⟨σ8, H8, I8, hw8, q8⟩ => ?_
    have at8 := pt.run _ s8 σ8 H8 _ I8 q8
    rw [hx] at at8
    refine thn at8 fun b s9 ⟨H9, I9, q9⟩ => ?_
    have hl8 : (wipe σ vs).length = σ8.length := by rw [← hw8, wipe_length]
    have fin : ∀ {σ9 : L2.St} {s' : Shared} {H' : Hp}, Inv Y (pins ++ pinsAt fp s7.heap) σ9 H' s' → Kp σ8 σ9 vs → Nx H' → ∃ m, m < n ∧ ∃ i H', Inv Y pins (wipe σ vs) H' s' ∧ tn i s'.heap ∧ (∀ b ∈ fp, H' b = none) ∧ W i m H' := fun {σ9 s' H'} I' kp nx => by
      obtain ⟨m', hm, w'⟩ := hNx H' nx
      have pin' : ∀ b ∈ fp, ∀ o, s7.heap.get? b = some o → s'.heap.get? b = some o ∧ H' b = none := fun b hb o eo =>
        have z := I'.pin (b, o) (List.mem_append_right _ (List.mem_append_right _ (mem_pinsAt hb eo)))
        ⟨z.1, z.2.1⟩
      refine ⟨m', hm, i + 1, H', (I'.unpinned (pins := pins)).weak (hl8.trans kp.1.symm) (fun j v ev => kp.2 j v (by rw [hw8]; exact ev)), T.keep _ _ _ st7 fun b hb o eo => (pin' b hb o eo).1, fun b hb => ?_, w'⟩
      obtain ⟨o, eo, _⟩ := T.obj _ _ st7 b hb
      exact (pin' b hb o eo).2
    cases b with
    | false =>
      simp only [Bool.false_eq_true, if_false] at q9 ⊢
      exact fin I9 (.refl _ _) q9
    | true =>
      simp only [if_true] at q9 ⊢
      exact thn (hb _ s9 σ8 H9 Nx I9 q9) fun _ s10 ⟨σ10, H10, I10, kp, nx⟩ => fin I10 kp nx
end
end AW
namespace AW
open PySem PySem.Spec PyProof.Rows L2
section
variable {prog : Program} {w : World} {A : Around} {s : Shared} {el : Expr} {gens : List Comprehension} {scope : Scope} {cp : Pos} {d : Nat} {t i : Expr} {ifs : List Expr} {it acc : Value} {env : PySem.Env} {R : Result → Shared → Prop}
/-- a level's start: its loop, whether the iterator is asked for itself once more or not -/
theorem lvl_start (hg : (clausesOf (.ListComp el gens scope cp))[d]? = some ⟨t, i, ifs, 0⟩)
    (h0 : codeAny (model prog w) A (.compLoop (.ListComp el gens scope cp) d it acc env) R s)
    (h : wpAny (model prog w) A (pyIter it) (fun it' s' => codeAny (model prog w) A (.compLoop (.ListComp el gens scope cp) d it' acc env) R s') NoE s) :
    codeAny (model prog w) A (.compStart (.ListComp el gens scope cp) d it acc env) R s := by
  refine codeAny_of_tree ?_
  show wpAny _ A ((compStart (.ListComp el gens scope cp) d it acc env).onRaise (fun x => do noteFrame x env; standAt theWindowsPlace)) _ _ s
  refine wpAny_notedAt ?_
  unfold compStart
  rw [hg]
  show wpAny _ _ (ask >>= _) _ _ s
  refine wpAny_bind (wpAny_askSetting (wpAny_ite ?_))
  split
  · first
      | exact wpAny_bind (wpAny_pure (wpAny_pure ⟨rfl, h0⟩))
      | exact wpAny_pure ⟨rfl, h0⟩
  · refine wpAny_bind (wpAny_rule ?_)
    show wpAny _ _ (standAt i.pos >>= _) _ _ s
    exact wpAny_bind (wpAny_standAt (wpAny_bind (wpAny_mono h (fun it' s' h' => wpAny_pure ⟨rfl, h'⟩) fun _ _ z => False.elim z)))
end
section
variable {Y : Cx} {el elt t i1 : Expr} {gens : List Comprehension} {scope : Scope} {cp : Pos} {d : Nat} {p : Pos} {ifs : List Expr} {acc : Value} {body : Sem Unit} {g : TG} {tt : TT} {te : TE} {tb : TB} {vs vs0 : List Nat} {wi : TI}
/-- the body that is the next clause's loop -/
theorem next_body (hc : Y.calm = true) (hx : Y.xe = NoE) (hg : (clausesOf (.ListComp el gens scope cp))[d]? = some ⟨t, i1, ifs, 0⟩)
    (hs : ∀ x, foldedSetIterable i1 Y.env x = pure x)
    (hT : ∀ it, compTurn (.ListComp el gens scope cp) d it acc Y.env = (do
      standAt p
      match ← pyNext it with
      | none => pure (.done .next)
      | some v =>
        letOwnedTupleGo t it v
        assign t Y.env v
        let mut ok := true
        for c in ifs do
          if ok then ok ← isTrue c Y.env (eval c Y.env)
        if ok then body
        again (.compLoop (.ListComp el gens scope cp) d it acc Y.env)))
    (hv : ∀ i ∈ vs, i ∈ vs0) (hi : PI Y t i1 wi) (pg : PG Y t g) (pt : PTs Y ifs tt) (hb : BodyOk Y body tb vs) :
    BodyOk Y (do
      let x ← eval i1 Y.env
      standAt i1.pos
      let x ← foldedSetIterable i1 Y.env x
      let _ ← runOwn (.compStart (.ListComp el gens scope cp) d (← holding [x] (pyIter x)) acc Y.env) Y.env) (tLvl wi g tt tb vs) vs0 := fun pins s σ H Nx I h => by
  have pr := hi.run pins s σ H _ I h
  rw [hx] at pr
  refine wpAny_bind (wpAny_mono pr (fun x s1 h1 => ?_) fun _ _ z => z)
  refine wpAny_bind (wpAny_standAt (wpAny_bind (wpAny_of_eq (hs x) (wpAny_bind (wpAny_holding (wpAny_mono h1 (fun itv s2 h2 => ?_) fun _ _ z => z))))))
  obtain ⟨it, fp, tn, J, H2, rfl, I2, T, st, f, W, w0, turns⟩ := h2
  have loop : codeAny (model Y.prog Y.w) Y.A (.compLoop (.ListComp el gens scope cp) d (.ref it) acc Y.env) (fun r s' => match r with
      | .ok _ => ∃ σ' H', Inv Y pins σ' H' s' ∧ Kp σ σ' vs0 ∧ Nx H'
      | .error _ => False) s2 :=
    lvl_run hc hx (hT _) pg pt hb (I2.weak (wipe_length _ _) (fun j v ev => (wipe_some ev).1)) T st f w0 turns fun s' ⟨H', I', q⟩ => ⟨_, H', I', Kp.wiped σ hv, q⟩
  refine wpAny_bind (wpAny_runOwn ?_)
  rw [Around.mark_none]
  refine codeAny_mono (lvl_start hg loop (T.self Y.A 0 _ _ _ st loop)) fun r s' hr => ?_
  cases r with
  | ok f =>
    first
      | exact wpAny_pure hr
      | exact wpAny_bind (wpAny_pure (wpAny_pure hr))
  | error x => exact hr.elim
end
end AW
namespace AW
open PySem PySem.Spec PyProof.Rows L2
theorem turn3_0 (el t0 i0 t1 i1 t2 i2 : Expr) (scope : Scope) (cp : Pos) (it acc : Value) (env : PySem.Env) :
    compTurn (.ListComp el [⟨t0, i0, [], 0⟩, ⟨t1, i1, [], 0⟩, ⟨t2, i2, [], 0⟩] scope cp) 0 it acc env = (do
      standAt i0.pos
      match ← pyNext it with
      | none => pure (.done .next)
      | some v =>
        letOwnedTupleGo t0 it v
        assign t0 env v
        let mut ok := true
        for c in ([] : List Expr) do
          if ok then ok ← isTrue c env (eval c env)
        if ok then
          (do
            let x ← eval i1 env
            standAt i1.pos
            let x ← foldedSetIterable i1 env x
            let _ ← runOwn (.compStart (.ListComp el [⟨t0, i0, [], 0⟩, ⟨t1, i1, [], 0⟩, ⟨t2, i2, [], 0⟩] scope cp) 1 (← holding [x] (pyIter x)) acc env) env)
        again (.compLoop (.ListComp el [⟨t0, i0, [], 0⟩, ⟨t1, i1, [], 0⟩, ⟨t2, i2, [], 0⟩] scope cp) 0 it acc env)) := by
  have h : compTurn (.ListComp el [⟨t0, i0, [], 0⟩, ⟨t1, i1, [], 0⟩, ⟨t2, i2, [], 0⟩] scope cp) 0 it acc env = (do
      standAt i0.pos
      match ← pyNext it with
      | none => pure (.done .next)
      | some v =>
        letOwnedTupleGo t0 it v
        assign t0 env v
        let mut ok := true
        for c in ([] : List Expr) do
          if ok then ok ← isTrue c env (eval c env)
        if ok then
          let x ← eval i1 env
          standAt i1.pos
          let x ← foldedSetIterable i1 env x
          let _ ← runOwn (.compStart (.ListComp el [⟨t0, i0, [], 0⟩, ⟨t1, i1, [], 0⟩, ⟨t2, i2, [], 0⟩] scope cp) 1 (← holding [x] (pyIter x)) acc env) env
        again (.compLoop (.ListComp el [⟨t0, i0, [], 0⟩, ⟨t1, i1, [], 0⟩, ⟨t2, i2, [], 0⟩] scope cp) 0 it acc env)) := rfl
  rw [h]
  simp only [bind_assoc, pure_bind]
theorem turn3_1 (el t0 i0 t1 i1 t2 i2 : Expr) (scope : Scope) (cp : Pos) (it acc : Value) (env : PySem.Env) :
    compTurn (.ListComp el [⟨t0, i0, [], 0⟩, ⟨t1, i1, [], 0⟩, ⟨t2, i2, [], 0⟩] scope cp) 1 it acc env = (do
      standAt i1.pos
      match ← pyNext it with
      | none => pure (.done .next)
      | some v =>
        letOwnedTupleGo t1 it v
        assign t1 env v
        let mut ok := true
        for c in ([] : List Expr) do
          if ok then ok ← isTrue c env (eval c env)
        if ok then
          (do
            let x ← eval i2 env
            standAt i2.pos
            let x ← foldedSetIterable i2 env x
            let _ ← runOwn (.compStart (.ListComp el [⟨t0, i0, [], 0⟩, ⟨t1, i1, [], 0⟩, ⟨t2, i2, [], 0⟩] scope cp) 2 (← holding [x] (pyIter x)) acc env) env)
        again (.compLoop (.ListComp el [⟨t0, i0, [], 0⟩, ⟨t1, i1, [], 0⟩, ⟨t2, i2, [], 0⟩] scope cp) 1 it acc env)) := by
  have h : compTurn (.ListComp el [⟨t0, i0, [], 0⟩, ⟨t1, i1, [], 0⟩, ⟨t2, i2, [], 0⟩] scope cp) 1 it acc env = (do
      standAt i1.pos
      match ← pyNext it with
      | none => pure (.done .next)
      | some v =>
        letOwnedTupleGo t1 it v
        assign t1 env v
        let mut ok := true
        for c in ([] : List Expr) do
          if ok then ok ← isTrue c env (eval c env)
        if ok then
          let x ← eval i2 env
          standAt i2.pos
          let x ← foldedSetIterable i2 env x
          let _ ← runOwn (.compStart (.ListComp el [⟨t0, i0, [], 0⟩, ⟨t1, i1, [], 0⟩, ⟨t2, i2, [], 0⟩] scope cp) 2 (← holding [x] (pyIter x)) acc env) env
        again (.compLoop (.ListComp el [⟨t0, i0, [], 0⟩, ⟨t1, i1, [], 0⟩, ⟨t2, i2, [], 0⟩] scope cp) 1 it acc env)) := rfl
  rw [h]
  simp only [bind_assoc, pure_bind]
def tLc3 (wi0 : TI) (g0 : TG) (wi1 : TI) (g1 : TG) (wi2 : TI) (g2 : TG) (te : TE) (vs0 vs1 vs2 : List Nat) : TE := fun σ H Q => wi0 σ H fun J H1 => ∀ D, H1 D = none → ∃ W : Nat → Nat → Hp → Prop, (∃ m, W 0 m (upd H1 D (.lst []))) ∧
  tTurns J g0 tYes (tLvl wi1 g1 tYes (tLvl wi2 g2 tYes (tApp te D) vs2) vs1) vs0 σ W (Q (.ref D))
theorem pe_lc3 {X : Cx} {elt tg0 it0 tg1 it1 tg2 it2 : Expr} {scope : Scope} {own : List (Str × Nat)} {vs1 vs2 : List Nat} {pos : Pos} {wi0 wi1 wi2 : TI} {g0 g1 g2 : TG} {te : TE} (hc : X.calm = true) (hx : X.xe = NoE) (hN : X.N.Nodup) (ok : BlkOk X.N X.env.scope scope own)
    (hv1 : ∀ i ∈ vs1, i ∈ own.map (·.2)) (hv2 : ∀ i ∈ vs2, i ∈ vs1) (hi : PI X tg0 it0 wi0)
    (hg0 : ∀ (s : Shared) (H : Hp) (C : Addr) (cl : List (Str × Addr)) (fp : List Addr), PG (X.blk s H scope (compEnvC scope cl C X.env) fp) tg0 g0)
    (hi1 : ∀ (s : Shared) (H : Hp) (C : Addr) (cl : List (Str × Addr)) (fp : List Addr), PI (X.blk s H scope (compEnvC scope cl C X.env) fp) tg1 it1 wi1)
    (hg1 : ∀ (s : Shared) (H : Hp) (C : Addr) (cl : List (Str × Addr)) (fp : List Addr), PG (X.blk s H scope (compEnvC scope cl C X.env) fp) tg1 g1)
    (hi2 : ∀ (s : Shared) (H : Hp) (C : Addr) (cl : List (Str × Addr)) (fp : List Addr), PI (X.blk s H scope (compEnvC scope cl C X.env) fp) tg2 it2 wi2)
    (hg2 : ∀ (s : Shared) (H : Hp) (C : Addr) (cl : List (Str × Addr)) (fp : List Addr), PG (X.blk s H scope (compEnvC scope cl C X.env) fp) tg2 g2)
    (he : ∀ (s : Shared) (H : Hp) (C : Addr) (cl : List (Str × Addr)) (fp : List Addr), PE (X.blk s H scope (compEnvC scope cl C X.env) fp) elt te)
    (hs0 : ∀ env x, foldedSetIterable it0 env x = pure x) (hs1 : ∀ env x, foldedSetIterable it1 env x = pure x) (hs2 : ∀ env x, foldedSetIterable it2 env x = pure x) :
    PE X (.ListComp elt [⟨tg0, it0, [], 0⟩, ⟨tg1, it1, [], 0⟩, ⟨tg2, it2, [], 0⟩] scope pos) (tLc3 wi0 g0 wi1 g1 wi2 g2 te (own.map (·.2)) vs1 vs2) := by
  refine ⟨fun pins s σ H Q I h => ?_⟩
  have hfree : ∀ y ∈ scope.names, y.2 = .free → ∃ c, X.env.cells.lookup y.1 = some c := fun y hy ey => by
    rcases ok.free y hy ey with k | k
    · exact I.ok.has _ (.inl k)
    · exact I.ok.has _ (.inr k)
  rw [eval_ListComp]
  refine wpAny_comprehension_free (use := none) rfl (fun x => hs0 X.env x) (closure_ok hfree) ok.kind (fun y hy ey => by rw [ok.uniq y hy, ey])
    (thn (hi.run pins s σ H _ I h) fun xv s1 h1 => thn h1 fun itv s2 h2 => ?_)
  obtain ⟨it, fp, tn, J, H2, rfl, I2, T, st2, f2, q⟩ := h2
  refine wpAny_newObj_type (newEnv_comp ?_) (by show 0 ≤ sizeLine; decide)
  generalize hD : s2.heap.objs.size = D
  obtain ⟨W, w0, turns⟩ := q D (I2.hok.fresh (Nat.le_of_eq hD))
  -- the list that will be filled
  generalize hs3 : ({ s2 with heap := s2.heap.push { cls := .type "list", data := .seq ([] : List Value).toArray } } : Shared) = s3
  have p3 : s3.heap = s2.heap.push { cls := .type "list", data := .seq ([] : List Value).toArray } := by rw [← hs3]
  have I3 : Inv X pins σ (upd H2 D (.lst [])) s3 := by
    subst hs3
    refine I2.laid (t' := s2.toks) (fun b o eb => Heap.get?_push_of_some _ eb) (Nat.le_of_eq hD) ⟨Nat.zero_le _, [], 0, .nil, ?_⟩
    subst hD
    exact Heap.get?_push_size _ rfl
  have f3 : ∀ b ∈ fp, FpOk X pins (upd H2 D (.lst [])) b ∧ b < s3.heap.objs.size := fun b hb => by
    obtain ⟨o, eo, _⟩ := T.obj _ _ st2 b hb
    have hlt := Heap.lt_size eo
    rw [p3, Heap.size_push]
    refine ⟨⟨?_, (f2 b hb).2⟩, Nat.lt_succ_of_lt hlt⟩
    rw [upd_ne (by rw [← hD]; exact Nat.ne_of_lt hlt)]
    exact (f2 b hb).1
  have st3 : tn 0 s3.heap := T.keep _ _ _ st2 fun b _ o eb => by rw [p3]; exact Heap.get?_push_of_some _ eb
  have I4 := block_start I3 ok hN f3
  have pg0 := hg0 s3 (upd H2 D (.lst [])) s3.heap.objs.size (cellsFrom (s3.heap.objs.size + 1) scope.names (cloFrom X.env.cells scope.names [])) fp
  have pi1 := hi1 s3 (upd H2 D (.lst [])) s3.heap.objs.size (cellsFrom (s3.heap.objs.size + 1) scope.names (cloFrom X.env.cells scope.names [])) fp
  have pg1 := hg1 s3 (upd H2 D (.lst [])) s3.heap.objs.size (cellsFrom (s3.heap.objs.size + 1) scope.names (cloFrom X.env.cells scope.names [])) fp
  have pi2 := hi2 s3 (upd H2 D (.lst [])) s3.heap.objs.size (cellsFrom (s3.heap.objs.size + 1) scope.names (cloFrom X.env.cells scope.names [])) fp
  have pg2 := hg2 s3 (upd H2 D (.lst [])) s3.heap.objs.size (cellsFrom (s3.heap.objs.size + 1) scope.names (cloFrom X.env.cells scope.names [])) fp
  have pe := he s3 (upd H2 D (.lst [])) s3.heap.objs.size (cellsFrom (s3.heap.objs.size + 1) scope.names (cloFrom X.env.cells scope.names [])) fp
  show codeAny _ _ (.compStart (.ListComp elt [⟨tg0, it0, [], 0⟩, ⟨tg1, it1, [], 0⟩, ⟨tg2, it2, [], 0⟩] scope pos) 0 (.ref it) (.ref D) (compEnvC scope (cellsFrom (s3.heap.objs.size + 1) scope.names (cloFrom X.env.cells scope.names [])) s3.heap.objs.size X.env)) (compPost (model X.prog X.w) X.A X.xe none (EP X pins σ Q) (.ref D) s3.heap.objs.size) { s3 with heap := pushCells (s3.heap.push { cls := .type "dict", data := .dict #[] }) scope.names }
  generalize hce : compEnvC scope (cellsFrom (s3.heap.objs.size + 1) scope.names (cloFrom X.env.cells scope.names [])) s3.heap.objs.size X.env = ce at I4 pg0 pi1 pg1 pi2 pg2 pe ⊢
  have cL : ce.locals = s3.heap.objs.size := by subst hce; rfl
  generalize hH3 : upd H2 D (.lst []) = H3 at I3 I4 pg0 pi1 pg1 pi2 pg2 pe w0 f3
  generalize hs4 : ({ s3 with heap := pushCells (s3.heap.push { cls := .type "dict", data := .dict #[] }) scope.names } : Shared) = s4 at I4 ⊢
  have st4 : tn 0 s4.heap := T.keep _ _ _ st3 fun b _ o eb => by rw [← hs4]; exact pushCells_keeps _ _ _ _ (Heap.get?_push_of_some _ eb)
  have f4 : ∀ b ∈ fp, FpOk (X.blk s3 H3 scope ce fp) [] H3 b := fun b hb =>
    ⟨(f3 b hb).1.1, (I4.ok.exf b hb).1, I4.ok.exfs b hb, .inl hb, fun x c ec => (I4.ok.exf b hb).2 x c ec, fun p hp => absurd (show p ∈ ([] : List (Addr × Obj)) ++ [] from hp) (by simp)⟩
  have hxb : (X.blk s3 H3 scope ce fp).xe = NoE := rfl
  have b2 : BodyOk (X.blk s3 H3 scope ce fp) (do let _ ← call (.builtin "list.append") [.ref D, ← eval elt (X.blk s3 H3 scope ce fp).env]) (tApp te D) vs2 := app_body pe hxb
  have b1 := next_body (Y := X.blk s3 H3 scope ce fp) (el := elt) (gens := [⟨tg0, it0, [], 0⟩, ⟨tg1, it1, [], 0⟩, ⟨tg2, it2, [], 0⟩]) (scope := scope) (cp := pos) (d := 2) (acc := .ref D) hc hxb rfl (fun x => hs2 _ x) (fun it => rfl) hv2 pi2 pg2 (pts_nil) b2
  have b0 := next_body (Y := X.blk s3 H3 scope ce fp) (el := elt) (gens := [⟨tg0, it0, [], 0⟩, ⟨tg1, it1, [], 0⟩, ⟨tg2, it2, [], 0⟩]) (scope := scope) (cp := pos) (d := 1) (acc := .ref D) hc hxb rfl (fun x => hs1 _ x) (fun it => turn3_1 _ _ _ _ _ _ _ _ _ _ _ _) hv1 pi1 pg1 (pts_nil) b1
  have loop : codeAny (model X.prog X.w) X.A (.compLoop (.ListComp elt [⟨tg0, it0, [], 0⟩, ⟨tg1, it1, [], 0⟩, ⟨tg2, it2, [], 0⟩] scope pos) 0 (.ref it) (.ref D) ce) (compPost (model X.prog X.w) X.A X.xe none (EP X pins σ Q) (.ref D) s3.heap.objs.size) s4 := by
    refine lvl_run (Y := X.blk s3 H3 scope ce fp) hc hxb (turn3_0 _ _ _ _ _ _ _ _ _ _ _ _) pg0 pts_nil b0 I4 T st4 f4 w0 turns fun s6 ⟨H5, I6, qq⟩ => ?_
    have I7 : Inv X pins σ H5 s6 := I3.call' (ch := fp) I6.os I6.base I6.hok I6.bare fun b hb => ⟨(f3 b hb).1.2.2.2.1, (f3 b hb).1.2.1, (f3 b hb).1.2.2.2.2.1, (f3 b hb).1.2.2.2.2.2⟩
    have nC : H5 s3.heap.objs.size = none := by
      have z : H5 ce.locals = none := I6.free
      rwa [cL] at z
    obtain ⟨m, hn, _⟩ := I6.loc
    have hn : s6.heap.Ns ce.locals m := hn
    rw [cL] at hn
    refine ⟨m, hn, fun h'' sb => ?_⟩
    obtain ⟨k0, k1, k2, k3, k4, k5⟩ := I3.fpOk (Nat.le_refl _) nC
    exact ⟨.ref D, H5, I7.turned (t' := s6.toks) (fun b o hb eb => (sb.2 b hb).trans eb) k0 k1 k3 k4 k5, rfl, qq⟩
  exact codeAny_compStart_list loop (T.self X.A 0 _ _ _ st4 loop)
end AW

set_option Elab.async false
set_option linter.all false
set_option maxRecDepth 100000
set_option maxHeartbeats 4000000
/-! A def that gives all triples: a comprehension of three clauses over a range and two tuples of texts. -/
namespace AW
open PySem PySem.Spec PyProof.Rows L2
theorem flat_const {α β : Type} {f : α → List β} {c : Nat} : ∀ {l : List α}, (∀ a ∈ l, (f a).length = c) → (l.flatMap f).length = l.length * c
  | [], _ => by simp
  | a :: l, h => by
    rw [List.flatMap_cons, List.length_append, h a List.mem_cons_self, flat_const fun b hb => h b (List.mem_cons_of_mem _ hb), List.length_cons, Nat.add_mul]
    omega
def triples (n : Nat) (ws ls : List Str) : List D := (List.range n).flatMap fun (i : Nat) => ws.flatMap fun w => ls.map fun l => D.tup [.int i, .str w, .str l]
theorem take_succ_of {α : Type} {l : List α} {i : Nat} {x : α} (h : l[i]? = some x) : l.take (i + 1) = l.take i ++ [x] := by
  rw [List.take_add_one, h]
  rfl
/-- a written tuple of texts, whatever the heap -/
theorem tup_strs {K : PySem.W.Frag} {v : V} {ws : List Str} (h : ∀ H, DR K H v (.tup (ws.map D.str))) : ∃ a, v = .ref a ∧ ∀ H, ∃ xs, SqT K H a xs ∧ DRs K H xs (ws.map D.str) := by
  have h0 := h fun _ => none
  cases h0 with
  | tup q r =>
    rename_i a xs
    refine ⟨a, rfl, fun H => ?_⟩
    have h1 := h H
    cases h1 with
    | tup q r => exact ⟨_, q, r⟩
theorem DRs.strAt {K : PySem.W.Frag} {H : Hp} : ∀ {xs : List V} {ws : List Str} {i : Nat} {x : V}, DRs K H xs (ws.map D.str) → xs[i]? = some x → ∃ w, ws[i]? = some w ∧ x = .str w ∧ PyData.strOk w = true
  | _, [], _, _, .nil, e => by simp at e
  | _, w :: ws, 0, x, .cons h _, e => by
    simp only [List.getElem?_cons_zero, Option.some.injEq] at e
    subst e
    cases h
    exact ⟨w, rfl, rfl, by assumption⟩
  | _, w :: ws, i + 1, x, .cons _ r, e => by
    obtain ⟨w', h1, h2⟩ := DRs.strAt (i := i) r (by simpa using e)
    exact ⟨w', by simpa using h1, h2⟩
section
variable {P : Program} {w : World} {K : PySem.W.Frag} {mg : Str → Option Value} {base : Heap}
/-- what the new list at D holds -/
def Held (K : PySem.W.Frag) (F : Fr) (H0 : Hp) (D : Addr) (L : List AW.D) (H : Hp) : Prop := Ex F H0 H ∧ ∃ us, H D = some (.lst us) ∧ DRs K H us L
theorem Held.put {F : Fr} {H0 H : Hp} {D : Addr} {L : List AW.D} {k : Int} {a b : Str} {p : Addr} (h : Held K F H0 D L H) (nF : ¬ F D) (np : H p = none) (ha : PyData.strOk a = true) (hb : PyData.strOk b = true) :
    ∃ us, (upd H p (.tup [.int k, .str a, .str b])) D = some (.lst us) ∧ us.length = L.length ∧ Held K F H0 D (L ++ [.tup [.int k, .str a, .str b]]) (upd (upd H p (.tup [.int k, .str a, .str b])) D (.lst (us ++ [.ref p]))) := by
  obtain ⟨x, us, hD, hu⟩ := h
  have e1 : Ex F H (upd H p (.tup [.int k, .str a, .str b])) := .new np
  have hD1 : (upd H p (.tup [.int k, .str a, .str b])) D = some (.lst us) := by rw [upd_ne (ne_of_none hD np)]; exact hD
  have e2 : Ex F (upd H p (.tup [.int k, .str a, .str b])) (upd (upd H p (.tup [.int k, .str a, .str b])) D (.lst (us ++ [.ref p]))) := .set hD1 nF
  have hp : (upd H p (.tup [.int k, .str a, .str b])) p = some (.tup [.int k, .str a, .str b]) := upd_same
  refine ⟨us, hD1, hu.len, (x.trans e1).trans e2, _, upd_same, (DRs.ex (e1.trans e2) hu).app (.one ?_)⟩
  exact .tup (SqT.of (e2.tup _ _ hp)) (.cons (.int k) (.cons (.str a ha) (.one (.str b hb))))
/-- a written tuple that is walked -/
def wiT (K : PySem.W.Frag) (b : Addr) : TI := fun σ H R => tC (V.ref b) σ H fun x H1 => ∃ a, x = .ref a ∧ (((∃ xs, SqL K H1 a xs) ∧ R (Itl K a) H1) ∨ ((∃ xs, SqT K H1 a xs) ∧ R (Itt K a) H1))
abbrev N3 : List Str := ["skips", "after", "late"]
abbrev own3 : List (Str × Nat) := [("skips", 0), ("after", 1), ("late", 2)]
theorem fn_triples {x qual : Str} {st : Stmt} {f : Addr} {fd : FuncData} {k : Nat} {Γ : Gam} {G : List (Str × GE)} {scope : Scope} {n : Nat} {ws ls : List Str} {p1 p2 p3 p4 p5 p6 p7 p8 p9 p10 p11 p12 p13 p14 : Pos} {j1 j2 : Nat}
    (F : Fun K x qual st f fd) (S : FnScope N3 [] (defScope st))
    (hb : defBody st = [.Return (some (.ListComp (.Tuple [.Name "skips" p1, .Name "after" p2, .Name "late" p3] j1 p4) [⟨.Name "skips" p5, .Call (.Name "range" p6) [.Constant (.int n) j2 p7] [] p8, [], 0⟩, ⟨.Name "after" p9, .Name "AFTER" p10, [], 0⟩, ⟨.Name "late" p11, .Name "LATE" p12, [], 0⟩] scope p13)) p14])
    (hk : blkC N3 (defScope st) scope own3 = true) (hr0 : (defSg N3 st G).bi "range" = true)
    (i0 : ((defSg N3 st G).blk scope).ix "skips" = some 0) (i1 : ((defSg N3 st G).blk scope).ix "after" = some 1) (i2 : ((defSg N3 st G).blk scope).ix "late" = some 2)
    (t0 : ((defSg N3 st G).blk scope).tg "skips" = some 0) (t1 : ((defSg N3 st G).blk scope).tg "after" = some 1) (t2 : ((defSg N3 st G).blk scope).tg "late" = some 2)
    (g1 : ((defSg N3 st G).blk scope).gl "AFTER" = some (.c (.tup (ws.map D.str)))) (g2 : ((defSg N3 st G).blk scope).gl "LATE" = some (.c (.tup (ls.map D.str))))
    (hn : n ≤ 100) (hws : ws.length ≤ 100) (hls : ls.length ≤ 100)
    (hg : ∀ x ge, G.lookup x = some ge → GKn P w K mg base k Γ x ge) {g : List D → Res Val} (hgr : ∀ r, g [] = .ok r → r = .own (triples n ws ls)) :
    FnOk P w K mg base CX0 (k + 1) f fd [] (spF K 0 g) := by
  refine Fun.ok F S (fun vs H Q E h => ?_) fun cdv A outer s H vs Q E hr hsp => ?_
  · obtain ⟨_, _, _, h1, _⟩ := h
    rw [h1]; rfl
  · obtain ⟨Fr, ds, r, hl, hd, hF, hgv, hQ⟩ := hsp
    have hds : ds = [] := by have := hd.len; cases ds <;> simp_all
    have hvs : vs = [] := by cases vs <;> simp_all
    subst hds hvs
    have er := hgr r hgv
    subst er
    let X := (cxOf CX0 P w K mg base N3 qual (defScope st) f cdv A outer s H E).nox
    have ok : XOk Γ (defSg N3 st G) X := ⟨rfl, rfl, rfl, S.nd, rfl, rfl, hr.mono (Nat.zero_le _), fun x ge h => (hg x ge h).gok hr⟩
    have bo : BlkOk X.N X.env.scope scope own3 := blkOk_by hk
    obtain ⟨f1, f2, f3⟩ := bi_facts ok hr0
    have okb := fun (s : Shared) (H : Hp) (C : Addr) (cl : List (Str × Addr)) (fp : List Addr) => xok_blk ok s H scope C cl fp
    obtain ⟨vA, uA, mA, rA, cA⟩ := (gl_facts (okb s H 0 [] []) g1).2.1
    obtain ⟨vL, uL, mL, rL, cL⟩ := (gl_facts (okb s H 0 [] []) g2).2.1
    obtain ⟨aA, rfl, kA⟩ := tup_strs cA
    obtain ⟨aL, rfl, kL⟩ := tup_strs cL
    rw [hb]
    refine ⟨_, pss_one (ps_ret (pe_lc3 (own := own3) (vs1 := [1, 2]) (vs2 := [2]) (wi1 := wiT K aA) (wi2 := wiT K aL) rfl rfl S.nd bo (by decide) (by decide)
      (pi_range1 f1 f2 (pa_cons pe_int pa_nil))
      (fun s H C cl fp => by obtain ⟨h1, h2, h3⟩ := tg_facts (okb s H C cl fp) t0; exact pg_name S.nd h1 h2 h3)
      (fun s H C cl fp => pi_any (pe_glob (gl_facts (okb s H C cl fp) g1).1 mA rA))
      (fun s H C cl fp => by obtain ⟨h1, h2, h3⟩ := tg_facts (okb s H C cl fp) t1; exact pg_name S.nd h1 h2 h3)
      (fun s H C cl fp => pi_any (pe_glob (gl_facts (okb s H C cl fp) g2).1 mL rL))
      (fun s H C cl fp => by obtain ⟨h1, h2, h3⟩ := tg_facts (okb s H C cl fp) t2; exact pg_name S.nd h1 h2 h3)
      (fun s H C cl fp => pe_tup (pa_cons (by obtain ⟨h1, h2, h3, h4⟩ := ix_facts (okb s H C cl fp) i0; exact pe_var h1 h2 h3 h4)
        (pa_cons (by obtain ⟨h1, h2, h3, h4⟩ := ix_facts (okb s H C cl fp) i1; exact pe_var h1 h2 h3 h4) (pa_cons (by obtain ⟨h1, h2, h3, h4⟩ := ix_facts (okb s H C cl fp) i2; exact pe_var h1 h2 h3 h4) pa_nil))))
      (fun _ _ => rfl) (fun _ _ => rfl) (fun _ _ => rfl))), ?_⟩
    have hst : L2.start N3 [] = [none, none, none] := rfl
    show tLc3 _ _ _ _ _ _ _ _ _ _ (L2.start N3 []) H _
    rw [hst]
    refine ⟨n, rfl, by omega, by omega, fun D hD => ?_⟩
    have nF : ¬ Fr D := fun z => hF D z hD
    have sz := sizeLine_eq
    -- the three loops' invariants
    let r2 := fun (i : Nat) (w : Str) (l : Str) => AW.D.tup [.int i, .str w, .str l]
    let r1 := fun (i : Nat) (w : Str) => ls.map (r2 i w)
    let r0 := fun (i : Nat) => ws.flatMap (r1 i)
    have lr1 : ∀ i w, (r1 i w).length = ls.length := fun i w => List.length_map _
    have len0 : ∀ i, ((List.range i).flatMap r0).length = i * (ws.length * ls.length) := fun i => by
      rw [flat_const (c := ws.length * ls.length) fun a _ => flat_const fun b _ => lr1 a b, List.length_range]
    refine ⟨fun i m H' => m = n - i ∧ i ≤ n ∧ Held K Fr H D ((List.range i).flatMap r0) H', ⟨n, by omega, Nat.zero_le _, .new hD, [], upd_same, .nil⟩, ?_⟩
    rintro i m H1 ⟨rfl, hi, held⟩
    by_cases hlt : i < n
    · refine .inr ⟨by show i < (n : Int).toNat; omega, fun H' => Held K Fr H D ((List.range (i + 1)).flatMap r0) H', fun H' h' => ⟨n - (i + 1), by omega, rfl, by omega, h'⟩, fun v H' y => ?_⟩
      obtain ⟨rfl, rfl⟩ := y
      refine ⟨rfl, ?_⟩
      show tYes _ _ _
      unfold tYes
      dsimp only
      rw [if_pos rfl]
      refine ⟨aA, rfl, .inr ⟨let ⟨xs, q, _⟩ := kA _; ⟨xs, q⟩, ?_⟩⟩
      refine ⟨fun j m H' => m = ws.length - j ∧ j ≤ ws.length ∧ Held K Fr H D ((List.range i).flatMap r0 ++ (ws.take j).flatMap (r1 i)) H', ⟨ws.length, by omega, Nat.zero_le _, by simpa using held⟩, ?_⟩
      rintro j m H2 ⟨rfl, hj, held2⟩
      obtain ⟨xsA, qA, dA⟩ := kA H2
      have lA : xsA.length = ws.length := by rw [dA.len, List.length_map]
      by_cases hjl : j < ws.length
      · refine .inr ⟨⟨xsA, xsA[j]'(by omega), qA, List.getElem?_eq_getElem _⟩, fun H' => Held K Fr H D ((List.range i).flatMap r0 ++ (ws.take (j + 1)).flatMap (r1 i)) H', fun H' h' => ⟨ws.length - (j + 1), by omega, rfl, by omega, h'⟩, fun v H' y => ?_⟩
        obtain ⟨rfl, y⟩ := y
        obtain ⟨wj, hwj, rfl, okw⟩ := dA.strAt (y xsA qA)
        refine ⟨rfl, ?_⟩
        dsimp only
        rw [if_pos rfl]
        refine ⟨aL, rfl, .inr ⟨let ⟨xs, q, _⟩ := kL _; ⟨xs, q⟩, ?_⟩⟩
        refine ⟨fun l m H' => m = ls.length - l ∧ l ≤ ls.length ∧ Held K Fr H D ((List.range i).flatMap r0 ++ (ws.take j).flatMap (r1 i) ++ (ls.take l).map (r2 i wj)) H', ⟨ls.length, by omega, Nat.zero_le _, by simpa using held2⟩, ?_⟩
        rintro l m H3 ⟨rfl, hl3, held3⟩
        obtain ⟨xsL, qL, dL⟩ := kL H3
        have lL : xsL.length = ls.length := by rw [dL.len, List.length_map]
        by_cases hll : l < ls.length
        · refine .inr ⟨⟨xsL, xsL[l]'(by omega), qL, List.getElem?_eq_getElem _⟩, fun H' => Held K Fr H D ((List.range i).flatMap r0 ++ (ws.take j).flatMap (r1 i) ++ (ls.take (l + 1)).map (r2 i wj)) H', fun H' h' => ⟨ls.length - (l + 1), by omega, rfl, by omega, h'⟩, fun v H' y => ?_⟩
          obtain ⟨rfl, y⟩ := y
          obtain ⟨wl, hwl, rfl, okl⟩ := dL.strAt (y xsL qL)
          refine ⟨rfl, ?_⟩
          dsimp only
          rw [if_pos rfl]
          refine ⟨.int ((0 : Int) + i), rfl, .str wj, rfl, .str wl, rfl, by show 3 ≤ sizeLine; omega, fun p np => ?_⟩
          rw [Int.zero_add]
          obtain ⟨us, e1, e2, e3⟩ := held3.put (k := (i : Int)) (a := wj) (b := wl) nF np okw okl
          refine ⟨us, e1, ?_, ?_⟩
          · rw [e2]
            simp only [List.length_append, List.length_map, List.length_take, len0]
            have b1 : ((ws.take j).flatMap (r1 i)).length ≤ 100 * 100 := by
              have h1 : ((ws.take j).flatMap (r1 i)).length = (ws.take j).length * ls.length := flat_const fun b _ => lr1 i b
              rw [h1]
              exact Nat.mul_le_mul (by rw [List.length_take]; omega) hls
            have b2 : i * (ws.length * ls.length) ≤ 100 * (100 * 100) := Nat.mul_le_mul (by omega) (Nat.mul_le_mul hws hls)
            omega
          · rw [take_succ_of hwl, List.map_append, ← List.append_assoc]
            exact e3
        · refine .inl ⟨⟨xsL, qL, by omega⟩, ?_⟩
          have el : ls.take l = ls := List.take_of_length_le (by omega)
          rw [el] at held3
          rw [take_succ_of hwj, List.flatMap_append, ← List.append_assoc]
          simpa using held3
      · refine .inl ⟨⟨xsA, qA, by omega⟩, ?_⟩
        have el : ws.take j = ws := List.take_of_length_le (by omega)
        rw [el] at held2
        rw [List.range_succ, List.flatMap_append]
        simpa using held2
    · refine .inl ⟨by show (n : Int).toNat ≤ i; omega, ?_⟩
      have ei : i = n := by omega
      subst ei
      obtain ⟨x1, us, u1, u2⟩ := held
      exact hQ (.ref D) H1 x1 ⟨D, us, rfl, u1, u2, nF⟩
end
end AW

set_option Elab.async false
set_option linter.all false
set_option maxRecDepth 100000
set_option maxHeartbeats 4000000
/-! What the top has written, made into facts of the names. -/
namespace AW
open PySem PySem.Spec PyProof.Rows L2
/-- a def stands there -/
def DefIn (K : PySem.W.Frag) (x : Str) (st : Stmt) (f : Addr) : Prop := PySem.W.nsIn K mainGlobals x = some (some (.ref f)) ∧ (∃ (oc : Value) (od : Option Addr) (kV doc pm : Value) (an : Option Addr) (cdv ct : Value) (osl : Array (Option Value)),
  K.lookup f = some ⟨oc, od, .func (PySem.W.fnOf x x (defArgs st) (defBody st) (defScope st) .none kV doc pm an cdv ct), osl⟩ ∧ PySem.W.codeIn K cdv x = true) ∧ PySem.W.keepIn K (.ref f) = true
section
variable {K : PySem.W.Frag} {h : Heap} {mg : Str → Option Value} {x : Str} {st : Stmt} {f : Addr}
theorem DefIn.mk {oc : Value} {od an : Option Addr} {osl : Array (Option Value)} {kV doc pm cdv ct : Value} (a : PySem.W.nsIn K mainGlobals x = some (some (.ref f)))
    (l : K.lookup f = some ⟨oc, od, .func (PySem.W.fnOf x x (defArgs st) (defBody st) (defScope st) .none kV doc pm an cdv ct), osl⟩) (c : PySem.W.codeIn K cdv x = true) (k : PySem.W.keepIn K (.ref f) = true) : DefIn K x st f :=
  ⟨a, ⟨oc, od, kV, doc, pm, an, cdv, ct, osl, l, c⟩, k⟩
/-- how its arguments bind -/
def BindsSt (x : Str) (st : Stmt) (ps : List Str) : Prop := ∀ (kV doc pm : Value) (an : Option Addr) (cdv ct : Value) (us : List Value), us.length = ps.length → bindArgs (PySem.W.fnOf x x (defArgs st) (defBody st) (defScope st) .none kV doc pm an cdv ct) ⟨us, []⟩ = pure (ps.zip us)
theorem DefIn.fun (D : DefIn K x st f) : ∃ fd, Fun K x x st f fd := by
  obtain ⟨_, ⟨oc, od, kV, doc, pm, an, cdv, ct, osl, l, c⟩, k⟩ := D
  exact ⟨_, fun_mk l c k⟩
theorem DefIn.factF {T : Tab} {G : List (Str × GE)} {N ps : List Str} {id ar m n nl : Nat} {b : Ss} (D : DefIn K x st f) (X : K.In h) (H : h.Ns mainGlobals mg) (S : FnScope N ps (defScope st)) (B : BindsSt x st ps) (e : ps.length = ar)
    (c : compSs m n (defSg N st G) (defBody st) = some b) (t : T id = some (nl, b)) (q : N.length = nl) : GFact K mg T G x (.f id ar) := by
  obtain ⟨fd, F⟩ := D.fun
  exact .ofF (PySem.W.mg_of X H D.1) F S (F.binds B) e c t q
theorem DefIn.factG {T : Tab} {G : List (Str × GE)} {N ps : List Str} {id ar m n nl : Nat} {b : Ss} (D : DefIn K x st f) (X : K.In h) (H : h.Ns mainGlobals mg) (S : FnScope N ps (defScope st)) (B : BindsSt x st ps) (e : ps.length = ar + 1)
    (c : compSs m n (defSg N st G) (defBody st) = some b) (t : T id = some (nl, b)) (q : N.length = nl) : GFact K mg T G x (.g id ar) := by
  obtain ⟨fd, F⟩ := D.fun
  exact .ofG (PySem.W.mg_of X H D.1) F S (F.binds B) e c t q
/-! constants -/
theorem fact_int {T : Tab} {G : List (Str × GE)} {i : Int} {t : Tok} (X : K.In h) (H : h.Ns mainGlobals mg) (a : PySem.W.nsIn K mainGlobals x = some (some (.int i t))) : GFact K mg T G x (.c (.int i)) :=
  ⟨.int i, _, PySem.W.mg_of X H a, ⟨_, rfl⟩, fun _ => .int i⟩
theorem fact_str {T : Tab} {G : List (Str × GE)} {i : Str} {t : Tok} (X : K.In h) (H : h.Ns mainGlobals mg) (a : PySem.W.nsIn K mainGlobals x = some (some (.str i t))) (hs : PyData.strOk i = true) : GFact K mg T G x (.c (.str i)) :=
  ⟨.str i, _, PySem.W.mg_of X H a, ⟨_, rfl⟩, fun _ => .str i hs⟩
theorem fact_ref {T : Tab} {G : List (Str × GE)} {d : D} (X : K.In h) (H : h.Ns mainGlobals mg) (a : PySem.W.nsIn K mainGlobals x = some (some (.ref f))) (hd : ∀ H, DR K H (.ref f) d) : GFact K mg T G x (.c d) :=
  ⟨.ref f, _, PySem.W.mg_of X H a, rfl, hd⟩
theorem fact_bi {T : Tab} {G : List (Str × GE)} (X : K.In h) (H : h.Ns mainGlobals mg) (a : PySem.W.nsIn K mainGlobals x = some none) : GFact K mg T G x .bi := PySem.W.mg_none_of X H a
/-- a tuple that the top has written -/
theorem tup_in {od : Option Addr} {its : Array Value} {n : Nat} {sl : Array (Option Value)} {xs : List V} {ds : List D} (l : K.lookup f = some ⟨.type "tuple", od, .seq its n, sl⟩) (hz : its.size ≤ sizeLine) (hv : Vals xs its.toList) (hd : ∀ H, DRs K H xs ds) (H : Hp) : DR K H (.ref f) (.tup ds) :=
  .tup (.inr ⟨_, its, n, l, rfl, rfl, hz, hv⟩) (hd H)
theorem script_fz {H : Hp} {a : Addr} {ns : List Int} (hO : Only H) (hS : SqL K H a (ns.map V.int)) : FzA K H a (ns.map V.int) := by
  rcases hS with (hS | hS) | hS
  · rcases hO a with z | ⟨o, xs, z⟩
    · rw [z] at hS; cases hS
    · rw [z] at hS; cases hS
  · exact .inl hS
  · exact .inr hS
theorem DRs.intsR {H : Hp} : ∀ ns : List Int, DRs K H (ns.map V.int) (ns.map D.int)
  | [] => .nil
  | i :: r => .cons (.int i) (DRs.intsR r)
theorem law_sp {H : Hp} {a : Addr} {ns : List Int} {g : List D → Res Val} (hO : Only H) (hS : SqL K H a (ns.map V.int)) (hg : g [.arr (ns.map D.int)] = .ok (.d (.bl true))) (E : XK) : spF K 1 g [.ref a] H (fun v _ => v = .bl true) E :=
  ⟨fun _ => False, [.arr (ns.map D.int)], .d (.bl true), rfl, .one (.arr (script_fz hO hS) (.intsR ns)), fun _ z => False.elim z, hg, fun v H' _ d => by cases d; rfl⟩
end
end AW

set_option Elab.async false
set_option linter.all false
set_option maxRecDepth 100000
set_option maxHeartbeats 4000000
namespace AW
open PySem L2
def N_is_within : List Str := ["value", "low", "high"]
def b_is_within : Ss := (.cons (.ret (.and (.isi (.v 0) [.int]) (.and (.not (.isi (.v 0) [.bool])) (.chain .LtE .LtE (.v 1) (.v 0) (.v 2))))) .nil)
def N_is_row : List Str := ["value", "size"]
def b_is_row : Ss := (.cons (.ret (.and (.isi (.v 0) [.tuple]) (.cmp .Eq (.b1 .len (.v 0)) (.v 1)))) .nil)
def N_is_word : List Str := ["value", "words"]
def b_is_word : Ss := (.cons (.ret (.and (.isi (.v 0) [.str]) (.cmp .In (.v 0) (.v 1)))) .nil)
def N_is_span : List Str := ["value"]
def b_is_span : Ss := (.cons (.ret (.and (.call 2 (.cons (.v 0) (.cons (.k (.int (2))) .nil))) (.and (.call 1 (.cons (.ix (.v 0) (.k (.int (0)))) (.cons (.k (.int (1))) (.cons (.k (.int (3))) .nil)))) (.call 1 (.cons (.ix (.v 0) (.k (.int (1)))) (.cons (.ix (.v 0) (.k (.int (0)))) (.cons (.k (.int (3))) .nil))))))) .nil)
def N_is_house : List Str := ["value"]
def b_is_house : Ss := (.cons (.ret (.and (.call 2 (.cons (.v 0) (.cons (.k (.int (3))) .nil))) (.and (.call 1 (.cons (.ix (.v 0) (.k (.int (0)))) (.cons (.k (.int (1))) (.cons (.k (.int (3))) .nil)))) (.and (.call 4 (.cons (.ix (.v 0) (.k (.int (1)))) .nil)) (.call 4 (.cons (.ix (.v 0) (.k (.int (2)))) .nil)))))) .nil)
def N_is_rule : List Str := ["value"]
def b_is_rule : Ss := (.cons (.ret (.and (.call 2 (.cons (.v 0) (.cons (.k (.int (3))) .nil))) (.and (.call 1 (.cons (.ix (.v 0) (.k (.int (0)))) (.cons (.k (.int (0))) (.cons (.k (.int (2))) .nil)))) (.and (.call 3 (.cons (.ix (.v 0) (.k (.int (1)))) (.cons (.gc (.tup [(.str "last"), (.str "next"), (.str "same")])) .nil))) (.call 3 (.cons (.ix (.v 0) (.k (.int (2)))) (.cons (.gc (.tup [(.str "first"), (.str "stay")])) .nil))))))) .nil)
def N_is_plan : List Str := ["value"]
def b_is_plan : Ss := (.cons (.ret (.and (.call 2 (.cons (.v 0) (.cons (.k (.int (2))) .nil))) (.and (.call 5 (.cons (.ix (.v 0) (.k (.int (0)))) .nil)) (.call 6 (.cons (.ix (.v 0) (.k (.int (1)))) .nil))))) .nil)
def N_rules_of : List Str := ["skips", "after", "late"]
def b_rules_of : Ss := (.cons (.ret (.lst (.cons (.k (.tup [.int 0, .str "last", .str "first"])) (.cons (.k (.tup [.int 0, .str "last", .str "stay"])) (.cons (.k (.tup [.int 0, .str "next", .str "first"])) (.cons (.k (.tup [.int 0, .str "next", .str "stay"])) (.cons (.k (.tup [.int 0, .str "same", .str "first"])) (.cons (.k (.tup [.int 0, .str "same", .str "stay"])) (.cons (.k (.tup [.int 1, .str "last", .str "first"])) (.cons (.k (.tup [.int 1, .str "last", .str "stay"])) (.cons (.k (.tup [.int 1, .str "next", .str "first"])) (.cons (.k (.tup [.int 1, .str "next", .str "stay"])) (.cons (.k (.tup [.int 1, .str "same", .str "first"])) (.cons (.k (.tup [.int 1, .str "same", .str "stay"])) (.cons (.k (.tup [.int 2, .str "last", .str "first"])) (.cons (.k (.tup [.int 2, .str "last", .str "stay"])) (.cons (.k (.tup [.int 2, .str "next", .str "first"])) (.cons (.k (.tup [.int 2, .str "next", .str "stay"])) (.cons (.k (.tup [.int 2, .str "same", .str "first"])) (.cons (.k (.tup [.int 2, .str "same", .str "stay"])) .nil)))))))))))))))))))) .nil)
def N_all_rules : List Str := []
def b_all_rules : Ss := (.cons (.ret (.call 8 .nil)) .nil)
def N_look_at_plan : List Str := ["plan"]
def b_look_at_plan : Ss := (.cons (.iff (.not (.call 7 (.cons (.v 0) .nil))) (.cons .bad .nil) .nil) .nil)
def N_first_stand : List Str := ["plan"]
def b_first_stand : Ss := (.cons (.ex (.call 10 (.cons (.v 0) .nil))) (.cons (.ret (.gc (.tup [(.tup []), (.int (-1))]))) .nil))
def N_fits : List Str := ["plan", "value", "room", "away", "service", "skips", "after", "late", "one"]
def b_fits_1 : Ss := (.cons (.iff (.or (.not (.call 2 (.cons (.v 8) (.cons (.k (.int (3))) .nil)))) (.not (.call 1 (.cons (.ix (.v 8) (.k (.int (0)))) (.cons (.k (.int (0))) (.cons (.bin .Sub (.b1 .len (.ix (.v 1) (.k (.int (0))))) (.k (.int (1)))) .nil)))))) (.cons (.ret (.k (.bl false))) .nil) .nil) (.cons (.iff (.or (.not (.call 1 (.cons (.ix (.v 8) (.k (.int (1)))) (.cons (.k (.int (0))) (.cons (.ix (.v 3) (.k (.int (1)))) .nil))))) (.not (.call 1 (.cons (.ix (.v 8) (.k (.int (2)))) (.cons (.k (.int (0))) (.cons (.v 5) .nil)))))) (.cons (.ret (.k (.bl false))) .nil) .nil) .nil))
def e_fits_2 : E := (.ix (.v 8) (.k (.int (0))))
def b_fits : Ss := (.cons (.unp (.t (.cons (.t (.cons (.n 2) (.cons (.n 3) (.cons (.n 4) .nil)))) (.cons (.t (.cons (.n 5) (.cons (.n 6) (.cons (.n 7) .nil)))) .nil))) (.v 0)) (.cons (.iff (.or (.not (.call 2 (.cons (.v 1) (.cons (.k (.int (2))) .nil)))) (.not (.call 1 (.cons (.ix (.v 1) (.k (.int (1)))) (.cons (.gc (.int (-1))) (.cons (.bin .Sub (.ix (.v 4) (.k (.int (1)))) (.k (.int (1)))) .nil)))))) (.cons (.ret (.k (.bl false))) .nil) .nil) (.cons (.iff (.or (.not (.isi (.ix (.v 1) (.k (.int (0)))) [.tuple])) (.cmp .Gt (.b1 .len (.ix (.v 1) (.k (.int (0))))) (.v 2))) (.cons (.ret (.k (.bl false))) .nil) .nil) (.cons (.for_ (.n 8) (.e (.ix (.v 1) (.k (.int (0))))) b_fits_1) (.cons (.ret (.cmp .Eq (.b1 .sorted (.lc (.n 8) (.e (.ix (.v 1) (.k (.int (0))))) [8] .non e_fits_2)) (.b1 .lrange (.b1 .len (.ix (.v 1) (.k (.int (0)))))))) .nil)))))
def N_is_stand : List Str := ["plan", "value"]
def b_is_stand : Ss := (.cons (.ex (.call 10 (.cons (.v 0) .nil))) (.cons (.ret (.call 12 (.cons (.v 0) (.cons (.v 1) .nil)))) .nil))
def N__law_spring : List Str := ["script", "at", "cell", "mixed"]
def b__law_spring : Ss := (.cons (.asg 2 (.k (.int (7)))) (.cons (.iff (.cmp .Lt (.v 1) (.b1 .len (.v 0))) (.cons (.asg 2 (.b1 .abs (.ix (.v 0) (.v 1)))) .nil) .nil) (.cons (.asg 3 (.bin .Mod (.b1 .int (.bin .Add (.bin .Add (.bin .Mult (.v 2) (.k (.int (863)))) (.bin .Mult (.k (.int (524287))) (.v 1))) (.k (.int (1))))) (.k (.int (999999999989))))) (.cons (.ret (.lst (.cons (.ife (.cmp .GtE (.v 2) (.bin .Pow (.k (.int (10))) (.k (.int (18))))) (.v 2) (.k (.int (0)))) (.cons (.v 3) .nil)))) .nil))))
def N__law_pick : List Str := ["spring", "many", "digit"]
def b__law_pick : Ss := (.cons (.iff (.cmp .Gt (.ix (.v 0) (.k (.int (0)))) (.k (.int (0)))) (.cons (.asg 2 (.bin .Mod (.b1 .int (.ix (.v 0) (.k (.int (0))))) (.v 1))) (.cons (.setL 0 (.k (.int (0))) (.bin .FloorDiv (.ix (.v 0) (.k (.int (0)))) (.v 1))) (.cons (.ret (.v 2)) .nil))) .nil) (.cons (.setL 0 (.k (.int (1))) (.bin .Mod (.b1 .int (.bin .Add (.bin .Mult (.ix (.v 0) (.k (.int (1)))) (.k (.int (393555900739)))) (.k (.int (8191))))) (.k (.int (999999999989))))) (.cons (.ret (.bin .Mod (.b1 .int (.bin .FloorDiv (.ix (.v 0) (.k (.int (1)))) (.k (.int (4093))))) (.v 1))) .nil)))
def N__law_kind : List Str := ["value"]
def b__law_kind : Ss := (.cons (.iff (.or (.cmp .Is (.v 0) (.k .non)) (.isi (.v 0) [.bool])) (.cons (.ret (.ife (.cmp .Is (.v 0) (.k .non)) (.k (.int (0))) (.k (.int (1))))) .nil) .nil) (.cons (.iff (.isi (.v 0) [.list, .tuple]) (.cons (.ret (.ife (.isi (.v 0) [.list]) (.k (.int (2))) (.k (.int (3))))) .nil) .nil) (.cons (.ret (.ife (.isi (.v 0) [.int]) (.k (.int (4))) (.ife (.isi (.v 0) [.str]) (.k (.int (5))) (.k (.int (6)))))) .nil)))
def N__law_twins : List Str := ["one", "other", "a", "b"]
def t__law_twins_1 : Oe := (.som (.not (.call 17 (.cons (.v 2) (.cons (.v 3) .nil)))))
def e__law_twins_1 : E := (.k (.int (1)))
def b__law_twins : Ss := (.cons (.iff (.cmp .NotEq (.call 16 (.cons (.v 0) .nil)) (.call 16 (.cons (.v 1) .nil))) (.cons (.ret (.k (.bl false))) .nil) .nil) (.cons (.iff (.cmp .In (.call 16 (.cons (.v 0) .nil)) (.lst (.cons (.k (.int (2))) (.cons (.k (.int (3))) .nil)))) (.cons (.ret (.and (.cmp .Eq (.b1 .len (.v 0)) (.b1 .len (.v 1))) (.cmp .Eq (.lc (.t (.cons (.n 2) (.cons (.n 3) .nil))) (.zip (.v 0) (.v 1)) [2, 3] t__law_twins_1 e__law_twins_1) (.lst .nil)))) .nil) .nil) (.cons (.ret (.cmp .Eq (.v 0) (.v 1))) .nil)))
def N__law_span : List Str := ["spring", "low"]
def b__law_span : Ss := (.cons (.asg 1 (.bin .Add (.k (.int (1))) (.ix (.lst (.cons (.k (.int (0))) (.cons (.k (.int (0))) (.cons (.k (.int (1))) .nil)))) (.calli 15 0 (.cons (.k (.int (3))) .nil))))) (.cons (.ret (.tup (.cons (.v 1) (.cons (.b2 .min (.k (.int (3))) (.bin .Add (.v 1) (.ix (.lst (.cons (.k (.int (0))) (.cons (.k (.int (0))) (.cons (.k (.int (1))) .nil)))) (.calli 15 0 (.cons (.k (.int (3))) .nil))))) .nil)))) .nil))
def N__law_rule : List Str := ["spring", "word"]
def b__law_rule : Ss := (.cons (.asg 1 (.ix (.lst (.cons (.k (.str "same")) (.cons (.k (.str "next")) (.cons (.k (.str "last")) (.cons (.k (.str "last")) .nil))))) (.calli 15 0 (.cons (.k (.int (4))) .nil)))) (.cons (.ret (.tup (.cons (.ix (.lst (.cons (.k (.int (0))) (.cons (.k (.int (1))) (.cons (.k (.int (1))) (.cons (.k (.int (2))) .nil))))) (.calli 15 0 (.cons (.k (.int (4))) .nil))) (.cons (.v 1) (.cons (.ix (.lst (.cons (.k (.str "stay")) (.cons (.k (.str "first")) .nil))) (.calli 15 0 (.cons (.k (.int (2))) .nil))) .nil))))) .nil))
def N__law_house : List Str := ["spring", "room", "many"]
def b__law_house : Ss := (.cons (.asg 2 (.bin .Add (.k (.int (1))) (.ix (.lst (.cons (.k (.int (1))) (.cons (.calli 15 0 (.cons (.v 1) .nil)) (.cons (.bin .Sub (.v 1) (.k (.int (1)))) .nil)))) (.calli 15 0 (.cons (.k (.int (3))) .nil))))) (.cons (.iff (.cmp .Eq (.v 2) (.k (.int (3)))) (.cons (.ret (.tup (.cons (.k (.int (3))) (.cons (.tup (.cons (.k (.int (1))) (.cons (.bin .Add (.k (.int (1))) (.calli 15 0 (.cons (.k (.int (2))) .nil))) .nil))) (.cons (.tup (.cons (.k (.int (1))) (.cons (.bin .Add (.k (.int (1))) (.calli 15 0 (.cons (.k (.int (2))) .nil))) .nil))) .nil))))) .nil) .nil) (.cons (.ret (.tup (.cons (.v 2) (.cons (.calli 18 0 .nil) (.cons (.calli 18 0 .nil) .nil))))) .nil)))
def N__law_backs : List Str := ["plan", "queue", "low", "high", "rows", "number", "away", "skipped", "row"]
def e__law_backs_2 : E := (.bin .Add (.v 8) (.tup (.cons (.v 5) .nil)))
def b__law_backs_1 : Ss := (.cons (.iff (.cmp .GtE (.v 6) (.v 2)) (.cons (.asg 4 (.bin .Add (.bin .Mult (.v 4) (.b1 .int (.cmp .Lt (.v 6) (.v 3)))) (.lc (.n 8) (.e (.v 4)) [8] .non e__law_backs_2))) .nil) .nil) .nil)
def b__law_backs : Ss := (.cons (.unp (.t (.cons (.n 2) (.cons (.n 3) .nil))) (.ix (.ix (.v 0) (.k (.int (0)))) (.k (.int (1))))) (.cons (.asg 4 (.lst (.cons (.tup .nil) .nil))) (.cons (.for_ (.t (.cons (.n 5) (.cons (.n 6) (.cons (.n 7) .nil)))) (.e (.b1 .sorted (.v 1))) b__law_backs_1) (.cons (.ret (.v 4)) .nil))))
def N__law_waiting : List Str := ["plan", "queue", "choice", "back", "draw", "leave", "some", "number", "away", "skipped", "late", "one"]
def b__law_waiting_1 : Ss := (.cons (.iff (.cmp .In (.v 7) (.v 3)) (.cons (.asg 8 (.k (.int (0)))) .nil) (.cons (.iff (.cmp .Gt (.v 8) (.k (.int (0)))) (.cons (.asg 8 (.bin .Add (.v 8) (.k (.int (1))))) .nil) .nil) .nil)) (.cons (.ex (.app 6 (.tup (.cons (.v 7) (.cons (.v 8) (.cons (.v 9) .nil)))))) .nil))
def t__law_waiting_2 : Oe := (.som (.and (.cmp .In (.ix (.v 11) (.k (.int (0)))) (.v 3)) (.cmp .Gt (.ix (.v 11) (.k (.int (2)))) (.k (.int (0))))))
def e__law_waiting_2 : E := (.v 11)
def t__law_waiting_3 : Oe := (.som (.cmp .NotIn (.v 11) (.v 10)))
def e__law_waiting_3 : E := (.v 11)
def e__law_waiting_4 : E := (.ife (.cmp .Eq (.v 7) (.v 5)) (.tup (.cons (.v 7) (.cons (.k (.int (1))) (.cons (.v 9) .nil)))) (.tup (.cons (.v 7) (.cons (.v 8) (.cons (.v 9) .nil)))))
def b__law_waiting : Ss := (.cons (.unp (.t (.cons (.n 3) (.cons (.n 4) (.cons (.n 5) .nil)))) (.sl (.v 2) .non (.som (.k (.int (3)))))) (.cons (.asg 6 (.lst .nil)) (.cons (.for_ (.t (.cons (.n 7) (.cons (.n 8) (.cons (.n 9) .nil)))) (.e (.v 1)) b__law_waiting_1) (.cons (.iff (.cmp .Eq (.ix (.ix (.v 0) (.k (.int (1)))) (.k (.int (2)))) (.k (.str "first"))) (.cons (.asg 10 (.lc (.n 11) (.e (.b1 .sorted (.v 6))) [11] t__law_waiting_2 e__law_waiting_2)) (.cons (.asg 6 (.bin .Add (.v 10) (.lc (.n 11) (.e (.v 6)) [11] t__law_waiting_3 e__law_waiting_3))) .nil)) .nil) (.cons (.iff (.v 4) (.cons (.ex (.app 6 (.tup (.cons (.b1 .len (.v 6)) (.cons (.k (.int (0))) (.cons (.k (.int (0))) .nil)))))) .nil) .nil) (.cons (.ret (.lc (.t (.cons (.n 7) (.cons (.n 8) (.cons (.n 9) .nil)))) (.e (.v 6)) [7, 8, 9] .non e__law_waiting_4)) .nil))))))
def N__law_called : List Str := ["plan", "some", "skips", "after_so", "late", "number", "away", "skipped", "one", "rest", "at", "left", "other", "there", "many"]
def b__law_called_1 : Ss := (.cons (.ex (.app 11 (.tup (.cons (.ife (.cmp .Gt (.v 12) (.v 5)) (.bin .Sub (.v 12) (.k (.int (1)))) (.v 12)) (.cons (.v 13) (.cons (.v 14) .nil)))))) .nil)
def b__law_called : Ss := (.cons (.unp (.t (.cons (.n 2) (.cons (.n 3) (.cons (.n 4) .nil)))) (.ix (.v 0) (.k (.int (1))))) (.cons (.unp (.t (.cons (.n 5) (.cons (.n 6) (.cons (.n 7) .nil)))) (.ix (.v 1) (.k (.int (0))))) (.cons (.iff (.and (.cmp .Gt (.v 6) (.k (.int (0)))) (.cmp .Lt (.v 7) (.v 2))) (.cons (.par (.cons (.n 8) (.cons (.n 9) .nil)) (.cons (.tup (.cons (.v 5) (.cons (.v 6) (.cons (.bin .Add (.v 7) (.k (.int (1)))) .nil)))) (.cons (.sl (.v 1) (.som (.k (.int (1)))) .non) .nil))) (.cons (.asg 10 (.dget [("same", (0)), ("next", (1))] (.v 3) (.b1 .len (.v 9)))) (.cons (.ret (.tup (.cons (.bin .Add (.bin .Add (.sl (.v 9) .non (.som (.v 10))) (.lst (.cons (.v 8) .nil))) (.sl (.v 9) (.som (.v 10)) .non)) (.cons (.tup (.cons (.k (.str "skips")) (.cons (.v 5) .nil))) .nil)))) .nil))) .nil) (.cons (.asg 11 (.lst .nil)) (.cons (.for_ (.t (.cons (.n 12) (.cons (.n 13) (.cons (.n 14) .nil)))) (.e (.sl (.v 1) (.som (.k (.int (1)))) .non)) b__law_called_1) (.cons (.ret (.tup (.cons (.v 11) (.cons (.tup (.cons (.ife (.cmp .Gt (.v 6) (.k (.int (0)))) (.k (.str "lapses")) (.k (.str "serves"))) (.cons (.v 5) .nil))) .nil)))) .nil))))))
def N__law_tick : List Str := ["plan", "stand", "choice", "some", "call_so", "served", "left", "harms_so", "here", "number", "away", "skipped", "one"]
def r__law_tick_2 : Ss := (.cons (.asg 5 (.ife (.or (.ix (.v 2) (.k (.int (3)))) (.cmp .Lt (.v 5) (.k (.int (0))))) (.neg (.k (.int (1)))) (.bin .Add (.v 5) (.k (.int (1)))))) (.cons (.ret (.tup (.cons (.tup (.cons (.b1 .tuple (.v 6)) (.cons (.v 5) .nil))) (.cons (.v 4) (.cons (.b1 .sorted (.v 7)) .nil))))) .nil))
def t__law_tick_3 : Oe := (.som (.cmp .Eq (.ix (.v 12) (.k (.int (1)))) (.k (.int (0)))))
def e__law_tick_3 : E := (.v 12)
def r__law_tick_1 : Ss := (.cons (.iff (.and (.cmp .Eq (.b1 .len (.v 6)) (.ix (.ix (.v 0) (.k (.int (0)))) (.k (.int (0))))) (.cmp .Eq (.lc (.n 12) (.e (.v 6)) [12] t__law_tick_3 e__law_tick_3) (.lst .nil))) (.cons (.asg 7 (.bin .Add (.v 7) (.lst (.cons (.k (.str "shut")) .nil)))) .nil) .nil) r__law_tick_2)
def t__law_tick_4 : Oe := (.som (.cmp .Eq (.v 10) (.k (.int (0)))))
def e__law_tick_4 : E := (.v 9)
def t__law_tick_5 : Oe := (.som (.cmp .Lt (.v 9) (.ix (.v 4) (.k (.int (1))))))
def e__law_tick_5 : E := (.v 9)
def b__law_tick : Ss := (.cons (.par (.cons (.n 3) (.cons (.n 4) (.cons (.n 5) .nil))) (.cons (.call 22 (.cons (.v 0) (.cons (.b1 .list (.ix (.v 1) (.k (.int (0))))) (.cons (.v 2) .nil)))) (.cons (.tup .nil) (.cons (.ix (.v 1) (.k (.int (1)))) .nil)))) (.cons (.par (.cons (.n 6) (.cons (.n 7) .nil)) (.cons (.v 3) (.cons (.lst .nil) .nil))) (.cons (.iff (.and (.cmp .Lt (.v 5) (.k (.int (0)))) (.cmp .NotEq (.v 3) (.lst .nil))) (.cons (.unp (.t (.cons (.n 6) (.cons (.n 4) .nil))) (.call 23 (.cons (.v 0) (.cons (.v 3) .nil)))) (.cons (.asg 5 (.ife (.cmp .Eq (.ix (.v 4) (.k (.int (0)))) (.k (.str "serves"))) (.k (.int (0))) (.neg (.k (.int (1)))))) (.cons (.asg 8 (.lc (.t (.cons (.n 9) (.cons (.n 10) (.cons (.n 11) .nil)))) (.e (.v 3)) [9, 10, 11] t__law_tick_4 e__law_tick_4)) (.cons (.iff (.cmp .Eq (.ix (.v 4) (.k (.int (0)))) (.k (.str "serves"))) (.cons (.asg 7 (.bin .Mult (.lst (.cons (.k (.str "passed")) .nil)) (.b1 .int (.cmp .NotEq (.lc (.n 9) (.e (.v 8)) [9] t__law_tick_5 e__law_tick_5) (.lst .nil))))) .nil) (.cons (.asg 7 (.bin .Add (.bin .Mult (.lst (.cons (.k (.str "lapsed")) .nil)) (.b1 .int (.cmp .Eq (.ix (.v 4) (.k (.int (0)))) (.k (.str "lapses"))))) (.bin .Mult (.lst (.cons (.k (.str "void")) .nil)) (.b1 .int (.cmp .NotEq (.v 8) (.lst .nil)))))) .nil)) .nil)))) .nil) r__law_tick_1)))
def N__law_choices : List Str := ["plan", "stand", "found", "room", "away", "service", "back", "draw", "some", "leave", "taken", "one"]
def r__law_choices_4 : Ss := (.cons (.iff (.cmp .GtE (.v 10) (.ix (.v 5) (.k (.int (0))))) (.cons (.ex (.app 2 (.tup (.cons (.v 6) (.cons (.v 7) (.cons (.v 9) (.cons (.k (.bl true)) .nil))))))) .nil) .nil) .nil)
def b__law_choices_3 : Ss := (.cons (.asg 10 (.ix (.ix (.call 24 (.cons (.v 0) (.cons (.v 1) (.cons (.tup (.cons (.v 6) (.cons (.v 7) (.cons (.v 9) (.cons (.k (.bl false)) .nil))))) .nil)))) (.k (.int (0)))) (.k (.int (1))))) (.cons (.iff (.cmp .Lt (.v 10) (.ix (.v 5) (.k (.int (1))))) (.cons (.ex (.app 2 (.tup (.cons (.v 6) (.cons (.v 7) (.cons (.v 9) (.cons (.k (.bl false)) .nil))))))) .nil) .nil) r__law_choices_4))
def t__law_choices_5 : Oe := (.som (.cmp .Eq (.ix (.v 11) (.k (.int (1)))) (.k (.int (0)))))
def e__law_choices_5 : E := (.ix (.v 11) (.k (.int (0))))
def b__law_choices_2 : Ss := (.cons (.iff (.or (.not (.v 7)) (.cmp .Lt (.b1 .len (.ix (.v 1) (.k (.int (0))))) (.v 3))) (.cons (.asg 8 (.call 22 (.cons (.v 0) (.cons (.b1 .list (.ix (.v 1) (.k (.int (0))))) (.cons (.tup (.cons (.v 6) (.cons (.v 7) (.cons (.neg (.k (.int (1)))) .nil)))) .nil))))) (.cons (.for_ (.n 9) (.e (.bin .Add (.lst (.cons (.neg (.k (.int (1)))) .nil)) (.lc (.n 11) (.e (.v 8)) [11] t__law_choices_5 e__law_choices_5))) b__law_choices_3) .nil)) .nil) .nil)
def b__law_choices_1 : Ss := (.cons (.for_ (.n 7) (.e (.lst (.cons (.k (.bl false)) (.cons (.k (.bl true)) .nil)))) b__law_choices_2) .nil)
def b__law_choices : Ss := (.cons (.par (.cons (.n 2) (.cons (.t (.cons (.n 3) (.cons (.n 4) (.cons (.n 5) .nil)))) .nil)) (.cons (.lst .nil) (.cons (.ix (.v 0) (.k (.int (0)))) .nil))) (.cons (.for_ (.n 6) (.e (.call 21 (.cons (.v 0) (.cons (.ix (.v 1) (.k (.int (0)))) .nil)))) b__law_choices_1) (.cons (.ret (.b1 .sorted (.v 2))) .nil)))
def N__law_begin : List Str := []
def b__law_begin : Ss := (.cons (.ret (.tup (.cons (.tup .nil) (.cons (.neg (.k (.int (1)))) .nil)))) .nil)
def N__law_int : List Str := ["value", "low", "high"]
def b__law_int : Ss := (.cons (.ret (.and (.isi (.v 0) [.int]) (.and (.not (.isi (.v 0) [.bool])) (.chain .LtE .LtE (.v 1) (.v 0) (.v 2))))) .nil)
def N__law_made : List Str := ["value", "many"]
def b__law_made : Ss := (.cons (.ret (.and (.isi (.v 0) [.tuple]) (.cmp .Eq (.b1 .len (.v 0)) (.v 1)))) .nil)
def N__law_good_span : List Str := ["value"]
def b__law_good_span : Ss := (.cons (.ret (.and (.call 28 (.cons (.v 0) (.cons (.k (.int (2))) .nil))) (.and (.call 27 (.cons (.ix (.v 0) (.k (.int (0)))) (.cons (.k (.int (1))) (.cons (.k (.int (3))) .nil)))) (.call 27 (.cons (.ix (.v 0) (.k (.int (1)))) (.cons (.ix (.v 0) (.k (.int (0)))) (.cons (.k (.int (3))) .nil))))))) .nil)
def N__law_good_house : List Str := ["value"]
def b__law_good_house : Ss := (.cons (.ret (.and (.call 28 (.cons (.v 0) (.cons (.k (.int (3))) .nil))) (.and (.call 27 (.cons (.ix (.v 0) (.k (.int (0)))) (.cons (.k (.int (1))) (.cons (.k (.int (3))) .nil)))) (.and (.call 29 (.cons (.ix (.v 0) (.k (.int (1)))) .nil)) (.call 29 (.cons (.ix (.v 0) (.k (.int (2)))) .nil)))))) .nil)
def N__law_good_rule : List Str := ["value"]
def b__law_good_rule : Ss := (.cons (.iff (.or (.not (.call 28 (.cons (.v 0) (.cons (.k (.int (3))) .nil)))) (.not (.call 27 (.cons (.ix (.v 0) (.k (.int (0)))) (.cons (.k (.int (0))) (.cons (.k (.int (2))) .nil)))))) (.cons (.ret (.k (.bl false))) .nil) .nil) (.cons (.iff (.or (.not (.isi (.ix (.v 0) (.k (.int (1)))) [.str])) (.not (.isi (.ix (.v 0) (.k (.int (2)))) [.str]))) (.cons (.ret (.k (.bl false))) .nil) .nil) (.cons (.ret (.and (.cmp .In (.ix (.v 0) (.k (.int (1)))) (.lst (.cons (.k (.str "same")) (.cons (.k (.str "next")) (.cons (.k (.str "last")) .nil))))) (.cmp .In (.ix (.v 0) (.k (.int (2)))) (.lst (.cons (.k (.str "stay")) (.cons (.k (.str "first")) .nil)))))) .nil)))
def N__law_good_plan : List Str := ["value"]
def b__law_good_plan : Ss := (.cons (.ret (.and (.call 28 (.cons (.v 0) (.cons (.k (.int (2))) .nil))) (.and (.call 30 (.cons (.ix (.v 0) (.k (.int (0)))) .nil)) (.call 31 (.cons (.ix (.v 0) (.k (.int (1)))) .nil))))) .nil)
def N__law_good_stand : List Str := ["plan", "value", "room", "away", "service", "skips", "after_so", "late", "numbers", "one"]
def b__law_good_stand_1 : Ss := (.cons (.iff (.or (.not (.call 28 (.cons (.v 9) (.cons (.k (.int (3))) .nil)))) (.or (.not (.call 27 (.cons (.ix (.v 9) (.k (.int (0)))) (.cons (.k (.int (0))) (.cons (.v 2) .nil))))) (.cmp .In (.ix (.v 9) (.k (.int (0)))) (.v 8)))) (.cons (.ret (.k (.bl false))) .nil) .nil) (.cons (.iff (.or (.not (.call 27 (.cons (.ix (.v 9) (.k (.int (1)))) (.cons (.k (.int (0))) (.cons (.ix (.v 3) (.k (.int (1)))) .nil))))) (.not (.call 27 (.cons (.ix (.v 9) (.k (.int (2)))) (.cons (.k (.int (0))) (.cons (.v 5) .nil)))))) (.cons (.ret (.k (.bl false))) .nil) .nil) (.cons (.ex (.app 8 (.ix (.v 9) (.k (.int (0)))))) .nil)))
def b__law_good_stand : Ss := (.cons (.unp (.t (.cons (.t (.cons (.n 2) (.cons (.n 3) (.cons (.n 4) .nil)))) (.cons (.t (.cons (.n 5) (.cons (.n 6) (.cons (.n 7) .nil)))) .nil))) (.v 0)) (.cons (.iff (.or (.not (.call 28 (.cons (.v 1) (.cons (.k (.int (2))) .nil)))) (.or (.not (.call 27 (.cons (.ix (.v 1) (.k (.int (1)))) (.cons (.neg (.k (.int (1)))) (.cons (.bin .Sub (.ix (.v 4) (.k (.int (1)))) (.k (.int (1)))) .nil))))) (.not (.isi (.ix (.v 1) (.k (.int (0)))) [.tuple])))) (.cons (.ret (.k (.bl false))) .nil) .nil) (.cons (.iff (.cmp .Gt (.b1 .len (.ix (.v 1) (.k (.int (0))))) (.v 2)) (.cons (.ret (.k (.bl false))) .nil) .nil) (.cons (.asg 8 (.lst .nil)) (.cons (.for_ (.n 9) (.e (.ix (.v 1) (.k (.int (0))))) b__law_good_stand_1) (.cons (.ret (.or (.cmp .Eq (.v 8) (.lst .nil)) (.cmp .Lt (.b1 .max (.v 8)) (.b1 .len (.v 8))))) .nil))))))
def N__law_bent : List Str := ["spring", "value", "at", "way", "some"]
def b__law_bent : Ss := (.cons (.iff (.and (.isi (.v 1) [.tuple]) (.and (.cmp .NotEq (.v 1) (.tup .nil)) (.cmp .Gt (.calli 15 0 (.cons (.k (.int (6))) .nil)) (.k (.int (0)))))) (.cons (.par (.cons (.n 2) (.cons (.n 3) .nil)) (.cons (.calli 15 0 (.cons (.b1 .len (.v 1)) .nil)) (.cons (.calli 15 0 (.cons (.k (.int (8))) .nil)) .nil))) (.cons (.iff (.cmp .Eq (.v 3) (.k (.int (0)))) (.cons (.ret (.bin .Add (.sl (.v 1) .non (.som (.v 2))) (.sl (.v 1) (.som (.bin .Add (.v 2) (.k (.int (1))))) .non))) .nil) .nil) (.cons (.iff (.cmp .Eq (.v 3) (.k (.int (1)))) (.cons (.ret (.bin .Add (.bin .Add (.sl (.v 1) .non (.som (.v 2))) (.sl (.v 1) (.som (.v 2)) (.som (.bin .Add (.v 2) (.k (.int (1))))))) (.sl (.v 1) (.som (.v 2)) .non))) .nil) .nil) (.cons (.iff (.cmp .Eq (.v 3) (.k (.int (2)))) (.cons (.ret (.rev (.v 1))) .nil) .nil) (.cons (.ret (.bin .Add (.bin .Add (.sl (.v 1) .non (.som (.v 2))) (.tup (.cons (.calli 34 0 (.cons (.ix (.v 1) (.v 2)) .nil)) .nil))) (.sl (.v 1) (.som (.bin .Add (.v 2) (.k (.int (1))))) .non))) .nil))))) .nil) (.cons (.asg 4 (.lst (.cons (.k .non) (.cons (.k (.bl true)) (.cons (.k (.bl false)) (.cons (.k (.int (0))) (.cons (.k (.int (1))) (.cons (.k (.int (2))) (.cons (.k (.int (3))) (.cons (.k (.int (4))) (.cons (.neg (.k (.int (1)))) (.cons (.neg (.k (.int (2)))) (.cons (.bin .Pow (.k (.int (10))) (.k (.int (30)))) (.cons (.k (.str "")) (.cons (.k (.str "same")) (.cons (.k (.str "next")) (.cons (.k (.str "last")) (.cons (.k (.str "stay")) (.cons (.k (.str "first")) .nil))))))))))))))))))) (.cons (.asg 4 (.bin .Add (.v 4) (.lst (.cons (.tup .nil) (.cons (.lst .nil) (.cons (.tup (.cons (.k (.int (1))) (.cons (.k (.int (1))) .nil))) (.cons (.tup (.cons (.k (.int (1))) (.cons (.k (.int (3))) .nil))) (.cons (.tup (.cons (.k (.int (0))) (.cons (.k (.int (0))) (.cons (.k (.int (0))) .nil)))) (.cons (.tup (.cons (.k (.int (1))) (.cons (.k (.int (0))) (.cons (.k (.int (0))) .nil)))) (.cons (.tup (.cons (.k (.int (0))) (.cons (.k (.int (1))) (.cons (.k (.int (1))) .nil)))) (.cons (.tup (.cons (.tup (.cons (.k (.int (0))) (.cons (.k (.int (0))) (.cons (.k (.int (0))) .nil)))) .nil)) (.cons (.tup (.cons (.tup (.cons (.k (.int (0))) (.cons (.k (.int (1))) (.cons (.k (.int (0))) .nil)))) (.cons (.tup (.cons (.k (.int (1))) (.cons (.k (.int (1))) (.cons (.k (.int (0))) .nil)))) .nil))) .nil)))))))))))) (.cons (.ret (.ix (.v 4) (.calli 15 0 (.cons (.b1 .len (.v 4)) .nil)))) .nil))))
def N_look_at_stand : List Str := ["plan", "stand"]
def b_look_at_stand : Ss := (.cons (.iff (.not (.call 12 (.cons (.v 0) (.cons (.v 1) .nil)))) (.cons .bad .nil) .nil) .nil)
def N_backs_of : List Str := ["plan", "queue", "low", "high", "found", "number", "away", "skipped", "row"]
def e_backs_of_2 : E := (.bin .Add (.v 8) (.tup (.cons (.v 5) .nil)))
def e_backs_of_3 : E := (.bin .Add (.v 8) (.tup (.cons (.v 5) .nil)))
def b_backs_of_1 : Ss := (.cons (.iff (.cmp .Eq (.v 6) (.v 3)) (.cons (.asg 4 (.lc (.n 8) (.e (.v 4)) [8] .non e_backs_of_2)) .nil) (.cons (.iff (.cmp .GtE (.v 6) (.v 2)) (.cons (.asg 4 (.bin .Add (.v 4) (.lc (.n 8) (.e (.v 4)) [8] .non e_backs_of_3))) .nil) .nil) .nil)) .nil)
def b_backs_of : Ss := (.cons (.unp (.t (.cons (.n 2) (.cons (.n 3) .nil))) (.ix (.ix (.v 0) (.k (.int (0)))) (.k (.int (1))))) (.cons (.asg 4 (.lst (.cons (.tup .nil) .nil))) (.cons (.for_ (.t (.cons (.n 5) (.cons (.n 6) (.cons (.n 7) .nil)))) (.e (.b1 .sorted (.v 1))) b_backs_of_1) (.cons (.ret (.v 4)) .nil))))
def N_gathered : List Str := ["plan", "queue", "back", "draw", "late", "here", "ahead", "found", "number", "away", "skipped", "one"]
def e_gathered_1 : E := (.tup (.cons (.v 8) (.cons (.ife (.or (.cmp .In (.v 8) (.v 2)) (.cmp .Eq (.v 9) (.k (.int (0))))) (.k (.int (0))) (.bin .Add (.v 9) (.k (.int (1))))) (.cons (.v 10) .nil))))
def t_gathered_2 : Oe := (.som (.and (.cmp .In (.ix (.v 11) (.k (.int (0)))) (.v 2)) (.cmp .Gt (.ix (.v 11) (.k (.int (2)))) (.k (.int (0))))))
def e_gathered_2 : E := (.v 11)
def t_gathered_3 : Oe := (.som (.cmp .NotIn (.v 11) (.v 6)))
def e_gathered_3 : E := (.v 11)
def b_gathered : Ss := (.cons (.asg 4 (.ix (.ix (.v 0) (.k (.int (1)))) (.k (.int (2))))) (.cons (.asg 5 (.lc (.t (.cons (.n 8) (.cons (.n 9) (.cons (.n 10) .nil)))) (.e (.v 1)) [8, 9, 10] .non e_gathered_1)) (.cons (.asg 6 (.lst .nil)) (.cons (.iff (.cmp .Eq (.v 4) (.k (.str "first"))) (.cons (.asg 6 (.b1 .sorted (.lc (.n 11) (.e (.v 5)) [11] t_gathered_2 e_gathered_2))) .nil) .nil) (.cons (.asg 7 (.bin .Add (.v 6) (.lc (.n 11) (.e (.v 5)) [11] t_gathered_3 e_gathered_3))) (.cons (.ret (.bin .Add (.v 7) (.bin .Mult (.lst (.cons (.tup (.cons (.b1 .len (.v 7)) (.cons (.k (.int (0))) (.cons (.k (.int (0))) .nil)))) .nil)) (.b1 .int (.v 3))))) .nil))))))
def N_gone : List Str := ["queue", "leave", "number", "away", "skipped"]
def e_gone_1 : E := (.tup (.cons (.v 2) (.cons (.ife (.cmp .Eq (.v 2) (.v 1)) (.k (.int (1))) (.v 3)) (.cons (.v 4) .nil))))
def b_gone : Ss := (.cons (.ret (.lc (.t (.cons (.n 2) (.cons (.n 3) (.cons (.n 4) .nil)))) (.e (.v 0)) [2, 3, 4] .non e_gone_1)) .nil)
def N_without : List Str := ["queue", "number", "other", "away", "skipped"]
def t_without_1 : Oe := (.som (.cmp .NotEq (.v 2) (.v 1)))
def e_without_1 : E := (.tup (.cons (.bin .Sub (.v 2) (.b1 .int (.cmp .Gt (.v 2) (.v 1)))) (.cons (.v 3) (.cons (.v 4) .nil))))
def b_without : Ss := (.cons (.ret (.lc (.t (.cons (.n 2) (.cons (.n 3) (.cons (.n 4) .nil)))) (.e (.v 0)) [2, 3, 4] t_without_1 e_without_1)) .nil)
def N_called : List Str := ["plan", "queue", "skips", "after_so", "late", "number", "away", "skipped", "one", "rest"]
def b_called : Ss := (.cons (.unp (.t (.cons (.n 2) (.cons (.n 3) (.cons (.n 4) .nil)))) (.ix (.v 0) (.k (.int (1))))) (.cons (.unp (.t (.cons (.n 5) (.cons (.n 6) (.cons (.n 7) .nil)))) (.ix (.v 1) (.k (.int (0))))) (.cons (.iff (.cmp .Eq (.v 6) (.k (.int (0)))) (.cons (.ret (.tup (.cons (.call 39 (.cons (.v 1) (.cons (.v 5) .nil))) (.cons (.tup (.cons (.k (.str "serves")) (.cons (.v 5) .nil))) .nil)))) .nil) .nil) (.cons (.iff (.cmp .Gt (.bin .Add (.v 7) (.k (.int (1)))) (.v 2)) (.cons (.ret (.tup (.cons (.call 39 (.cons (.v 1) (.cons (.v 5) .nil))) (.cons (.tup (.cons (.k (.str "lapses")) (.cons (.v 5) .nil))) .nil)))) .nil) .nil) (.cons (.par (.cons (.n 8) (.cons (.n 9) .nil)) (.cons (.tup (.cons (.v 5) (.cons (.v 6) (.cons (.bin .Add (.v 7) (.k (.int (1)))) .nil)))) (.cons (.sl (.v 1) (.som (.k (.int (1)))) .non) .nil))) (.cons (.iff (.cmp .Eq (.v 3) (.k (.str "same"))) (.cons (.asg 9 (.bin .Add (.lst (.cons (.v 8) .nil)) (.v 9))) .nil) (.cons (.asg 9 (.ife (.cmp .Eq (.v 3) (.k (.str "next"))) (.bin .Add (.bin .Add (.sl (.v 9) .non (.som (.k (.int (1))))) (.lst (.cons (.v 8) .nil))) (.sl (.v 9) (.som (.k (.int (1)))) .non)) (.bin .Add (.v 9) (.lst (.cons (.v 8) .nil))))) .nil)) (.cons (.ret (.tup (.cons (.v 9) (.cons (.tup (.cons (.k (.str "skips")) (.cons (.v 5) .nil))) .nil)))) .nil)))))))
def N_harms_of : List Str := ["plan", "waiting", "call_so", "queue", "found", "there", "one", "number"]
def t_harms_of_1 : Oe := (.som (.cmp .Eq (.ix (.v 6) (.k (.int (1)))) (.k (.int (0)))))
def e_harms_of_1 : E := (.ix (.v 6) (.k (.int (0))))
def e_harms_of_2 : E := (.cmp .Lt (.v 7) (.ix (.v 2) (.k (.int (1)))))
def e_harms_of_3 : E := (.cmp .Gt (.ix (.v 6) (.k (.int (1)))) (.k (.int (0))))
def b_harms_of : Ss := (.cons (.asg 4 (.lst .nil)) (.cons (.asg 5 (.lc (.n 6) (.e (.v 1)) [6] t_harms_of_1 e_harms_of_1)) (.cons (.iff (.and (.cmp .NotEq (.v 2) (.tup .nil)) (.cmp .Eq (.ix (.v 2) (.k (.int (0)))) (.k (.str "lapses")))) (.cons (.asg 4 (.bin .Add (.v 4) (.lst (.cons (.k (.str "lapsed")) .nil)))) .nil) .nil) (.cons (.iff (.and (.cmp .NotEq (.v 2) (.tup .nil)) (.and (.cmp .Eq (.ix (.v 2) (.k (.int (0)))) (.k (.str "serves"))) (.b1 .any (.lc (.n 7) (.e (.v 5)) [7] .non e_harms_of_2)))) (.cons (.asg 4 (.bin .Add (.v 4) (.lst (.cons (.k (.str "passed")) .nil)))) .nil) .nil) (.cons (.iff (.and (.cmp .Eq (.b1 .len (.v 3)) (.ix (.ix (.v 0) (.k (.int (0)))) (.k (.int (0))))) (.b1 .all (.lc (.n 6) (.e (.v 3)) [6] .non e_harms_of_3))) (.cons (.asg 4 (.bin .Add (.v 4) (.lst (.cons (.k (.str "shut")) .nil)))) .nil) .nil) (.cons (.iff (.and (.cmp .NotEq (.v 2) (.tup .nil)) (.and (.cmp .NotEq (.ix (.v 2) (.k (.int (0)))) (.k (.str "serves"))) (.cmp .NotEq (.v 5) (.lst .nil)))) (.cons (.asg 4 (.bin .Add (.v 4) (.lst (.cons (.k (.str "void")) .nil)))) .nil) .nil) (.cons (.ret (.v 4)) .nil)))))))
def N_passed : List Str := ["plan", "stand", "choice", "back", "draw", "leave", "ends", "waiting", "queue", "served", "call_so", "later"]
def b_passed : Ss := (.cons (.unp (.t (.cons (.n 3) (.cons (.n 4) (.cons (.n 5) (.cons (.n 6) .nil))))) (.v 2)) (.cons (.asg 7 (.call 38 (.cons (.call 37 (.cons (.v 0) (.cons (.ix (.v 1) (.k (.int (0)))) (.cons (.v 3) (.cons (.v 4) .nil))))) (.cons (.v 5) .nil)))) (.cons (.par (.cons (.n 8) (.cons (.n 9) (.cons (.n 10) .nil))) (.cons (.v 7) (.cons (.ix (.v 1) (.k (.int (1)))) (.cons (.tup .nil) .nil)))) (.cons (.iff (.and (.cmp .Eq (.v 9) (.gc (.int (-1)))) (.cmp .NotEq (.v 7) (.lst .nil))) (.cons (.unp (.t (.cons (.n 8) (.cons (.n 10) .nil))) (.call 40 (.cons (.v 0) (.cons (.v 7) .nil)))) (.cons (.asg 9 (.ife (.cmp .Eq (.ix (.v 10) (.k (.int (0)))) (.k (.str "serves"))) (.k (.int (0))) (.gc (.int (-1))))) .nil)) .nil) (.cons (.asg 11 (.ife (.or (.cmp .Eq (.v 9) (.gc (.int (-1)))) (.v 6)) (.gc (.int (-1))) (.bin .Add (.v 9) (.k (.int (1)))))) (.cons (.ret (.tup (.cons (.tup (.cons (.b1 .tuple (.v 8)) (.cons (.v 11) .nil))) (.cons (.v 10) (.cons (.call 41 (.cons (.v 0) (.cons (.v 7) (.cons (.v 10) (.cons (.v 8) .nil))))) .nil))))) .nil))))))
def N_ends_of : List Str := ["plan", "stand", "back", "draw", "leave", "low", "high", "served"]
def b_ends_of : Ss := (.cons (.unp (.t (.cons (.n 5) (.cons (.n 6) .nil))) (.ix (.ix (.v 0) (.k (.int (0)))) (.k (.int (2))))) (.cons (.asg 7 (.ix (.ix (.call 42 (.cons (.v 0) (.cons (.v 1) (.cons (.tup (.cons (.v 2) (.cons (.v 3) (.cons (.v 4) (.cons (.k (.bl false)) .nil))))) .nil)))) (.k (.int (0)))) (.k (.int (1))))) (.cons (.iff (.cmp .Eq (.v 7) (.gc (.int (-1)))) (.cons (.ret (.lst (.cons (.k (.bl false)) .nil))) .nil) .nil) (.cons (.ret (.bin .Add (.bin .Mult (.lst (.cons (.k (.bl false)) .nil)) (.b1 .int (.cmp .Lt (.v 7) (.v 6)))) (.bin .Mult (.lst (.cons (.k (.bl true)) .nil)) (.b1 .int (.cmp .GtE (.v 7) (.v 5)))))) .nil))))
def N_choices_of : List Str := ["plan", "stand", "found", "back", "draw", "queue", "leave", "number", "away", "skipped", "ends"]
def e_choices_of_4 : E := (.tup (.cons (.v 3) (.cons (.v 4) (.cons (.v 6) (.cons (.v 10) .nil)))))
def b_choices_of_3 : Ss := (.cons (.asg 2 (.bin .Add (.v 2) (.lc (.n 10) (.e (.call 43 (.cons (.v 0) (.cons (.v 1) (.cons (.v 3) (.cons (.v 4) (.cons (.v 6) .nil))))))) [10] .non e_choices_of_4))) .nil)
def t_choices_of_5 : Oe := (.som (.cmp .Eq (.v 8) (.k (.int (0)))))
def e_choices_of_5 : E := (.v 7)
def b_choices_of_2 : Ss := (.cons (.asg 5 (.call 37 (.cons (.v 0) (.cons (.ix (.v 1) (.k (.int (0)))) (.cons (.v 3) (.cons (.v 4) .nil)))))) (.cons (.for_ (.n 6) (.e (.bin .Add (.lst (.cons (.neg (.k (.int (1)))) .nil)) (.lc (.t (.cons (.n 7) (.cons (.n 8) (.cons (.n 9) .nil)))) (.e (.v 5)) [7, 8, 9] t_choices_of_5 e_choices_of_5))) b_choices_of_3) .nil))
def b_choices_of_1 : Ss := (.cons (.for_ (.n 4) (.e (.sl (.lst (.cons (.k (.bl false)) (.cons (.k (.bl true)) .nil))) .non (.som (.bin .Add (.k (.int (1))) (.b1 .int (.cmp .Lt (.b1 .len (.ix (.v 1) (.k (.int (0))))) (.ix (.ix (.v 0) (.k (.int (0)))) (.k (.int (0)))))))))) b_choices_of_2) .nil)
def b_choices_of : Ss := (.cons (.asg 2 (.lst .nil)) (.cons (.for_ (.n 3) (.e (.call 36 (.cons (.v 0) (.cons (.ix (.v 1) (.k (.int (0)))) .nil)))) b_choices_of_1) (.cons (.ret (.b1 .sorted (.v 2))) .nil)))
def N_is_number : List Str := ["value"]
def b_is_number : Ss := (.cons (.ret (.and (.isi (.v 0) [.int]) (.not (.isi (.v 0) [.bool])))) .nil)
def N_is_like : List Str := ["value", "some", "number"]
def e_is_like_1 : E := (.call 45 (.cons (.v 2) .nil))
def b_is_like : Ss := (.cons (.iff (.or (.not (.isi (.v 0) [.tuple])) (.or (.cmp .NotEq (.b1 .len (.v 0)) (.k (.int (4)))) (.not (.isi (.ix (.v 0) (.k (.int (0)))) [.tuple])))) (.cons (.ret (.k (.bl false))) .nil) .nil) (.cons (.iff (.or (.not (.b1 .all (.lc (.n 2) (.e (.ix (.v 0) (.k (.int (0))))) [2] .non e_is_like_1))) (.not (.call 45 (.cons (.ix (.v 0) (.k (.int (2)))) .nil)))) (.cons (.ret (.k (.bl false))) .nil) .nil) (.cons (.ret (.and (.isi (.ix (.v 0) (.k (.int (1)))) [.bool]) (.and (.isi (.ix (.v 0) (.k (.int (3)))) [.bool]) (.cmp .In (.v 0) (.v 1))))) .nil)))
def N_stands_of : List Str := ["plan", "stand", "choices", "found", "choice"]
def b_stands_of_1 : Ss := (.cons (.iff (.not (.call 46 (.cons (.v 4) (.cons (.call 44 (.cons (.v 0) (.cons (.ix (.v 3) (.neg (.k (.int (1))))) .nil))) .nil)))) (.cons (.ret (.v 3)) .nil) .nil) (.cons (.ex (.app 3 (.ix (.call 42 (.cons (.v 0) (.cons (.ix (.v 3) (.neg (.k (.int (1))))) (.cons (.v 4) .nil)))) (.k (.int (0)))))) .nil))
def b_stands_of : Ss := (.cons (.asg 3 (.lst (.cons (.v 1) .nil))) (.cons (.for_ (.n 4) (.e (.v 2)) b_stands_of_1) (.cons (.ret (.v 3)) .nil)))
def N_fits_run : List Str := ["plan", "value"]
def b_fits_run : Ss := (.cons (.iff (.or (.not (.isi (.v 1) [.tuple])) (.cmp .Gt (.b1 .len (.v 1)) (.gc (.int (60))))) (.cons (.ret (.k (.bl false))) .nil) .nil) (.cons (.ret (.cmp .Eq (.b1 .len (.call 47 (.cons (.v 0) (.cons (.gc (.tup [(.tup []), (.int (-1))])) (.cons (.v 1) .nil))))) (.bin .Add (.b1 .len (.v 1)) (.k (.int (1)))))) .nil))
def N_looked_at : List Str := ["plan", "stand", "choice"]
def b_looked_at : Ss := (.cons (.ex (.call 10 (.cons (.v 0) .nil))) (.cons (.ex (.call 35 (.cons (.v 0) (.cons (.v 1) .nil)))) (.cons (.iff (.not (.call 46 (.cons (.v 2) (.cons (.call 44 (.cons (.v 0) (.cons (.v 1) .nil))) .nil)))) (.cons .bad .nil) .nil) (.cons (.ret (.call 42 (.cons (.v 0) (.cons (.v 1) (.cons (.v 2) .nil))))) .nil))))
def N_choices_at : List Str := ["plan", "stand"]
def b_choices_at : Ss := (.cons (.ex (.call 10 (.cons (.v 0) .nil))) (.cons (.ex (.call 35 (.cons (.v 0) (.cons (.v 1) .nil)))) (.cons (.ret (.call 44 (.cons (.v 0) (.cons (.v 1) .nil)))) .nil)))
def N_after : List Str := ["plan", "stand", "choice"]
def b_after : Ss := (.cons (.ret (.ix (.call 49 (.cons (.v 0) (.cons (.v 1) (.cons (.v 2) .nil)))) (.k (.int (0))))) .nil)
def N_call : List Str := ["plan", "stand", "choice"]
def b_call : Ss := (.cons (.ret (.ix (.call 49 (.cons (.v 0) (.cons (.v 1) (.cons (.v 2) .nil)))) (.k (.int (1))))) .nil)
def N_tick_harms : List Str := ["plan", "stand", "choice"]
def b_tick_harms : Ss := (.cons (.ret (.ix (.call 49 (.cons (.v 0) (.cons (.v 1) (.cons (.v 2) .nil)))) (.k (.int (2))))) .nil)
def N_is_run : List Str := ["plan", "value"]
def b_is_run : Ss := (.cons (.ex (.call 10 (.cons (.v 0) .nil))) (.cons (.ret (.call 48 (.cons (.v 0) (.cons (.v 1) .nil)))) .nil))
def N_stand_behind : List Str := ["plan", "run"]
def b_stand_behind : Ss := (.cons (.ex (.call 10 (.cons (.v 0) .nil))) (.cons (.iff (.not (.call 48 (.cons (.v 0) (.cons (.v 1) .nil)))) (.cons .bad .nil) .nil) (.cons (.ret (.ix (.call 47 (.cons (.v 0) (.cons (.gc (.tup [(.tup []), (.int (-1))])) (.cons (.v 1) .nil)))) (.neg (.k (.int (1)))))) .nil)))
def N__law_any_stand : List Str := ["spring", "plan", "room", "away", "service", "skips", "after_so", "late", "numbers", "queue", "number", "gone_so"]
def b__law_any_stand_1 : Ss := (.cons (.asg 10 (.popA 8 (.calli 15 0 (.cons (.b1 .len (.v 8)) .nil)))) (.cons (.asg 11 (.ix (.lst (.cons (.k (.int (0))) (.cons (.calli 15 0 (.cons (.bin .Add (.ix (.v 3) (.k (.int (1)))) (.k (.int (1)))) .nil)) .nil))) (.calli 15 0 (.cons (.k (.int (2))) .nil)))) (.cons (.ex (.app 9 (.tup (.cons (.v 10) (.cons (.v 11) (.cons (.calli 15 0 (.cons (.bin .Add (.v 5) (.k (.int (1)))) .nil)) .nil)))))) .nil)))
def b__law_any_stand : Ss := (.cons (.unp (.t (.cons (.t (.cons (.n 2) (.cons (.n 3) (.cons (.n 4) .nil)))) (.cons (.t (.cons (.n 5) (.cons (.n 6) (.cons (.n 7) .nil)))) .nil))) (.v 1)) (.cons (.par (.cons (.n 8) (.cons (.n 9) .nil)) (.cons (.b1 .lrange (.calli 15 0 (.cons (.bin .Add (.v 2) (.k (.int (1)))) .nil))) (.cons (.lst .nil) .nil))) (.cons (.whl (.cmp .NotEq (.v 8) (.lst .nil)) b__law_any_stand_1) (.cons (.ret (.tup (.cons (.b1 .tuple (.v 9)) (.cons (.ix (.lst (.cons (.neg (.k (.int (1)))) (.cons (.bin .Sub (.calli 15 0 (.cons (.bin .Add (.ix (.v 4) (.k (.int (1)))) (.k (.int (1)))) .nil)) (.k (.int (1)))) .nil))) (.calli 15 0 (.cons (.k (.int (2))) .nil))) .nil)))) .nil))))
def N_law201 : List Str := ["script", "at", "spring", "plan", "turn", "some", "one", "told", "stand", "rows", "due", "skips", "word"]
def e_law201_2 : E := (.calli 34 2 (.cons (.v 3) .nil))
def e_law201_3 : E := (.calli 34 2 (.cons (.ix (.v 3) (.k (.int (0)))) .nil))
def e_law201_4 : E := (.calli 34 2 (.cons (.ix (.v 3) (.k (.int (1)))) .nil))
def b_law201_5 : Ss := (.cons (.asg 7 (.lst (.cons (.call 7 (.cons (.v 6) .nil)) (.cons (.call 5 (.cons (.v 6) .nil)) (.cons (.call 6 (.cons (.v 6) .nil)) .nil))))) (.cons (.iff (.not (.call 17 (.cons (.v 7) (.cons (.lst (.cons (.call 32 (.cons (.v 6) .nil)) (.cons (.call 30 (.cons (.v 6) .nil)) (.cons (.call 31 (.cons (.v 6) .nil)) .nil)))) .nil)))) (.cons (.ret (.k (.bl false))) .nil) .nil) .nil))
def b_law201_6 : Ss := (.cons (.asg 9 (.call 25 (.cons (.v 3) (.cons (.v 8) .nil)))) (.cons (.asg 8 (.ix (.call 24 (.cons (.v 3) (.cons (.v 8) (.cons (.ix (.v 9) (.calli 15 2 (.cons (.b1 .len (.v 9)) .nil))) .nil)))) (.k (.int (0))))) .nil))
def e_law201_7 : E := (.calli 34 2 (.cons (.v 8) .nil))
def t_law201_8 : Oe := (.som (.not (.call 17 (.cons (.call 13 (.cons (.v 3) (.cons (.v 6) .nil))) (.cons (.call 33 (.cons (.v 3) (.cons (.v 6) .nil))) .nil)))))
def e_law201_8 : E := (.k (.int (1)))
def b_law201_1 : Ss := (.cons (.asg 2 (.call 14 (.cons (.v 0) (.cons (.v 1) .nil)))) (.cons (.asg 3 (.tup (.cons (.calli 20 2 (.cons (.k (.int (3))) .nil)) (.cons (.calli 19 2 .nil) .nil)))) (.cons (.iff (.not (.call 32 (.cons (.v 3) .nil))) (.cons (.ret (.k (.bl false))) .nil) .nil) (.cons (.asg 5 (.bin .Add (.lst (.cons (.v 3) (.cons (.b1 .list (.v 3)) (.cons (.ix (.v 3) (.k (.int (0)))) (.cons (.ix (.v 3) (.k (.int (1)))) .nil))))) (.lc (.n 4) (.rng (.k (.int (25)))) [4] .non e_law201_2))) (.cons (.asg 5 (.bin .Add (.v 5) (.lc (.n 4) (.rng (.k (.int (12)))) [4] .non e_law201_3))) (.cons (.asg 5 (.bin .Add (.v 5) (.lc (.n 4) (.rng (.k (.int (12)))) [4] .non e_law201_4))) (.cons (.for_ (.n 6) (.e (.v 5)) b_law201_5) (.cons (.asg 8 (.call 26 .nil)) (.cons (.iff (.not (.call 17 (.cons (.call 11 (.cons (.v 3) .nil)) (.cons (.v 8) .nil)))) (.cons (.ret (.k (.bl false))) .nil) .nil) (.cons (.for_ (.n 4) (.rng (.calli 15 2 (.cons (.k (.int (12))) .nil))) b_law201_6) (.cons (.asg 5 (.bin .Add (.lst (.cons (.v 8) (.cons (.b1 .list (.v 8)) .nil))) (.lc (.n 4) (.rng (.k (.int (40)))) [4] .non e_law201_7))) (.cons (.iff (.cmp .NotEq (.lc (.n 6) (.e (.v 5)) [6] t_law201_8 e_law201_8) (.lst .nil)) (.cons (.ret (.k (.bl false))) .nil) .nil) .nil))))))))))))
def b_law201_10 : Ss := (.cons (.asg 10 (.bin .Add (.v 10) (.lst (.cons (.tup (.cons (.v 11) (.cons (.v 12) (.cons (.k (.str "first")) .nil)))) (.cons (.tup (.cons (.v 11) (.cons (.v 12) (.cons (.k (.str "stay")) .nil)))) .nil))))) .nil)
def b_law201_9 : Ss := (.cons (.for_ (.n 12) (.e (.lst (.cons (.k (.str "last")) (.cons (.k (.str "next")) (.cons (.k (.str "same")) .nil))))) b_law201_10) .nil)
def b_law201 : Ss := (.cons (.for_ (.n 1) (.rng (.bin .Add (.b2 .min (.b1 .len (.v 0)) (.k (.int (8)))) (.k (.int (1))))) b_law201_1) (.cons (.asg 10 (.lst .nil)) (.cons (.for_ (.n 11) (.e (.lst (.cons (.k (.int (0))) (.cons (.k (.int (1))) (.cons (.k (.int (2))) .nil))))) b_law201_9) (.cons (.ret (.call 17 (.cons (.call 9 .nil) (.cons (.v 10) .nil)))) .nil))))
def N_law202 : List Str := ["script", "at", "spring", "plan", "past", "stand", "most", "turn", "rows", "busy", "rows_so", "choice", "there", "call_so", "harms_so", "told", "odds", "odd", "good", "row"]
def t_law202_3 : Oe := (.som (.or (.ix (.v 19) (.k (.int (1)))) (.cmp .GtE (.ix (.v 19) (.k (.int (2)))) (.k (.int (0))))))
def e_law202_3 : E := (.v 19)
def b_law202_2 : Ss := (.cons (.asg 8 (.call 25 (.cons (.v 3) (.cons (.v 5) .nil)))) (.cons (.asg 9 (.lc (.n 19) (.e (.v 8)) [19] t_law202_3 e_law202_3)) (.cons (.asg 10 (.ife (.and (.cmp .NotEq (.v 9) (.lst .nil)) (.cmp .Gt (.calli 15 2 (.cons (.k (.int (3))) .nil)) (.k (.int (0))))) (.v 9) (.v 8))) (.cons (.asg 11 (.ix (.v 10) (.calli 15 2 (.cons (.b1 .len (.v 10)) .nil)))) (.cons (.unp (.t (.cons (.n 12) (.cons (.n 13) (.cons (.n 14) .nil)))) (.call 24 (.cons (.v 3) (.cons (.v 5) (.cons (.v 11) .nil))))) (.cons (.asg 15 (.lst (.cons (.call 50 (.cons (.v 3) (.cons (.v 5) .nil))) (.cons (.call 51 (.cons (.v 3) (.cons (.v 5) (.cons (.v 11) .nil)))) .nil)))) (.cons (.iff (.not (.call 17 (.cons (.v 15) (.cons (.lst (.cons (.v 8) (.cons (.v 12) .nil))) .nil)))) (.cons (.ret (.k (.bl false))) .nil) .nil) (.cons (.iff (.not (.call 17 (.cons (.lst (.cons (.call 52 (.cons (.v 3) (.cons (.v 5) (.cons (.v 11) .nil)))) (.cons (.call 53 (.cons (.v 3) (.cons (.v 5) (.cons (.v 11) .nil)))) .nil))) (.cons (.lst (.cons (.v 13) (.cons (.v 14) .nil))) .nil)))) (.cons (.ret (.k (.bl false))) .nil) .nil) (.cons (.par (.cons (.n 4) (.cons (.n 5) .nil)) (.cons (.bin .Add (.v 4) (.tup (.cons (.v 11) .nil))) (.cons (.v 12) .nil))) .nil)))))))))
def t_law202_5 : Oe := (.som (.call 17 (.cons (.v 19) (.cons (.v 17) .nil))))
def e_law202_5 : E := (.v 19)
def b_law202_4 : Ss := (.cons (.asg 18 (.cmp .NotEq (.lc (.n 19) (.e (.call 25 (.cons (.v 3) (.cons (.v 5) .nil)))) [19] t_law202_5 e_law202_5) (.lst .nil))) (.cons (.iff (.not (.call 17 (.cons (.call 54 (.cons (.v 3) (.cons (.bin .Add (.v 4) (.tup (.cons (.v 17) .nil))) .nil))) (.cons (.and (.v 18) (.cmp .Lt (.b1 .len (.v 4)) (.k (.int (60))))) .nil)))) (.cons (.ret (.k (.bl false))) .nil) .nil) .nil))
def b_law202_1 : Ss := (.cons (.asg 2 (.call 14 (.cons (.v 0) (.cons (.v 1) .nil)))) (.cons (.par (.cons (.n 3) (.cons (.n 4) .nil)) (.cons (.tup (.cons (.calli 20 2 (.cons (.k (.int (3))) .nil)) (.cons (.calli 19 2 .nil) .nil))) (.cons (.tup .nil) .nil))) (.cons (.par (.cons (.n 5) (.cons (.n 6) .nil)) (.cons (.call 26 .nil) (.cons (.ix (.lst (.cons (.k (.int (6))) (.cons (.k (.int (25))) (.cons (.k (.int (60))) .nil)))) (.calli 15 2 (.cons (.k (.int (3))) .nil))) .nil))) (.cons (.for_ (.n 7) (.rng (.calli 15 2 (.cons (.bin .Add (.v 6) (.k (.int (1)))) .nil))) b_law202_2) (.cons (.iff (.not (.call 17 (.cons (.lst (.cons (.call 54 (.cons (.v 3) (.cons (.v 4) .nil))) (.cons (.call 55 (.cons (.v 3) (.cons (.v 4) .nil))) .nil))) (.cons (.lst (.cons (.k (.bl true)) (.cons (.v 5) .nil))) .nil)))) (.cons (.ret (.k (.bl false))) .nil) .nil) (.cons (.asg 16 (.lst (.cons (.tup (.cons (.tup .nil) (.cons (.k (.bl false)) (.cons (.neg (.k (.int (1)))) (.cons (.k (.bl false)) .nil))))) (.cons (.tup (.cons (.tup .nil) (.cons (.k (.bl true)) (.cons (.k (.int (0))) (.cons (.k (.bl false)) .nil))))) (.cons (.tup (.cons (.tup (.cons (.k (.int (0))) .nil)) (.cons (.k (.bl false)) (.cons (.neg (.k (.int (1)))) (.cons (.k (.bl true)) .nil))))) (.cons (.tup (.cons (.tup .nil) (.cons (.k (.int (0))) (.cons (.neg (.k (.int (1)))) (.cons (.k (.bl false)) .nil))))) (.cons (.bin .Mult (.tup (.cons (.tup .nil) .nil)) (.k (.int (4)))) .nil))))))) (.cons (.for_ (.n 17) (.e (.bin .Add (.v 16) (.lst (.cons (.lst (.cons (.tup .nil) (.cons (.k (.bl false)) (.cons (.neg (.k (.int (1)))) (.cons (.k (.bl false)) .nil))))) (.cons (.tup (.cons (.tup .nil) (.cons (.k (.bl true)) (.cons (.neg (.k (.int (1)))) (.cons (.k (.bl true)) .nil))))) (.cons (.tup (.cons (.tup (.cons (.k (.bl false)) .nil)) (.cons (.k (.bl false)) (.cons (.neg (.k (.int (1)))) (.cons (.k (.bl false)) .nil))))) (.cons (.k .non) (.cons (.tup .nil) .nil)))))))) b_law202_4) .nil)))))))
def b_law202 : Ss := (.cons (.for_ (.n 1) (.rng (.bin .Add (.b2 .min (.b1 .len (.v 0)) (.k (.int (8)))) (.k (.int (1))))) b_law202_1) (.cons (.ret (.k (.bl true))) .nil))
def N_law203 : List Str := ["script", "at", "spring", "plan", "turn", "stand", "rows", "choice", "told"]
def b_law203_3 : Ss := (.cons (.asg 8 (.tup (.cons (.call 51 (.cons (.v 3) (.cons (.v 5) (.cons (.v 7) .nil)))) (.cons (.call 52 (.cons (.v 3) (.cons (.v 5) (.cons (.v 7) .nil)))) (.cons (.call 53 (.cons (.v 3) (.cons (.v 5) (.cons (.v 7) .nil)))) .nil))))) (.cons (.iff (.not (.call 17 (.cons (.v 8) (.cons (.call 24 (.cons (.v 3) (.cons (.v 5) (.cons (.v 7) .nil)))) .nil)))) (.cons (.ret (.k (.bl false))) .nil) .nil) .nil))
def b_law203_2 : Ss := (.cons (.asg 5 (.calli 56 2 (.cons (.v 3) .nil))) (.cons (.asg 6 (.call 25 (.cons (.v 3) (.cons (.v 5) .nil)))) (.cons (.iff (.not (.call 17 (.cons (.lst (.cons (.call 13 (.cons (.v 3) (.cons (.v 5) .nil))) (.cons (.call 50 (.cons (.v 3) (.cons (.v 5) .nil))) .nil))) (.cons (.lst (.cons (.k (.bl true)) (.cons (.v 6) .nil))) .nil)))) (.cons (.ret (.k (.bl false))) .nil) .nil) (.cons (.for_ (.n 7) (.e (.v 6)) b_law203_3) .nil))))
def b_law203_1 : Ss := (.cons (.asg 2 (.call 14 (.cons (.v 0) (.cons (.v 1) .nil)))) (.cons (.asg 3 (.tup (.cons (.calli 20 2 (.cons (.k (.int (3))) .nil)) (.cons (.calli 19 2 .nil) .nil)))) (.cons (.for_ (.n 4) (.rng (.k (.int (10)))) b_law203_2) .nil)))
def b_law203 : Ss := (.cons (.for_ (.n 1) (.rng (.bin .Add (.b2 .min (.b1 .len (.v 0)) (.k (.int (6)))) (.k (.int (1))))) b_law203_1) (.cons (.ret (.k (.bl true))) .nil))
def TT : Tab := fun i => match i with
  | 1 => some (3, b_is_within)
  | 2 => some (2, b_is_row)
  | 3 => some (2, b_is_word)
  | 4 => some (1, b_is_span)
  | 5 => some (1, b_is_house)
  | 6 => some (1, b_is_rule)
  | 7 => some (1, b_is_plan)
  | 8 => some (3, b_rules_of)
  | 9 => some (0, b_all_rules)
  | 10 => some (1, b_look_at_plan)
  | 11 => some (1, b_first_stand)
  | 12 => some (9, b_fits)
  | 13 => some (2, b_is_stand)
  | 14 => some (4, b__law_spring)
  | 15 => some (3, b__law_pick)
  | 16 => some (1, b__law_kind)
  | 17 => some (4, b__law_twins)
  | 18 => some (2, b__law_span)
  | 19 => some (2, b__law_rule)
  | 20 => some (3, b__law_house)
  | 21 => some (9, b__law_backs)
  | 22 => some (12, b__law_waiting)
  | 23 => some (15, b__law_called)
  | 24 => some (13, b__law_tick)
  | 25 => some (12, b__law_choices)
  | 26 => some (0, b__law_begin)
  | 27 => some (3, b__law_int)
  | 28 => some (2, b__law_made)
  | 29 => some (1, b__law_good_span)
  | 30 => some (1, b__law_good_house)
  | 31 => some (1, b__law_good_rule)
  | 32 => some (1, b__law_good_plan)
  | 33 => some (10, b__law_good_stand)
  | 34 => some (5, b__law_bent)
  | 35 => some (2, b_look_at_stand)
  | 36 => some (9, b_backs_of)
  | 37 => some (12, b_gathered)
  | 38 => some (5, b_gone)
  | 39 => some (5, b_without)
  | 40 => some (10, b_called)
  | 41 => some (8, b_harms_of)
  | 42 => some (12, b_passed)
  | 43 => some (8, b_ends_of)
  | 44 => some (11, b_choices_of)
  | 45 => some (1, b_is_number)
  | 46 => some (3, b_is_like)
  | 47 => some (5, b_stands_of)
  | 48 => some (2, b_fits_run)
  | 49 => some (3, b_looked_at)
  | 50 => some (2, b_choices_at)
  | 51 => some (3, b_after)
  | 52 => some (3, b_call)
  | 53 => some (3, b_tick_harms)
  | 54 => some (2, b_is_run)
  | 55 => some (2, b_stand_behind)
  | 56 => some (12, b__law_any_stand)
  | 201 => some (13, b_law201)
  | 202 => some (20, b_law202)
  | 203 => some (9, b_law203)
  | _ => none
abbrev Gm (W k : Nat) : Gam := gam TT W k
theorem u_is_within (W k : Nat) (ds : List D) : (Gm W (k + 1)).f 1 ds = runF (Gm W k) W 3 b_is_within ds := rfl
theorem u_is_row (W k : Nat) (ds : List D) : (Gm W (k + 1)).f 2 ds = runF (Gm W k) W 2 b_is_row ds := rfl
theorem u_is_word (W k : Nat) (ds : List D) : (Gm W (k + 1)).f 3 ds = runF (Gm W k) W 2 b_is_word ds := rfl
theorem u_is_span (W k : Nat) (ds : List D) : (Gm W (k + 1)).f 4 ds = runF (Gm W k) W 1 b_is_span ds := rfl
theorem u_is_house (W k : Nat) (ds : List D) : (Gm W (k + 1)).f 5 ds = runF (Gm W k) W 1 b_is_house ds := rfl
theorem u_is_rule (W k : Nat) (ds : List D) : (Gm W (k + 1)).f 6 ds = runF (Gm W k) W 1 b_is_rule ds := rfl
theorem u_is_plan (W k : Nat) (ds : List D) : (Gm W (k + 1)).f 7 ds = runF (Gm W k) W 1 b_is_plan ds := rfl
theorem u_rules_of (W k : Nat) (ds : List D) : (Gm W (k + 1)).f 8 ds = runF (Gm W k) W 3 b_rules_of ds := rfl
theorem u_all_rules (W k : Nat) (ds : List D) : (Gm W (k + 1)).f 9 ds = runF (Gm W k) W 0 b_all_rules ds := rfl
theorem u_look_at_plan (W k : Nat) (ds : List D) : (Gm W (k + 1)).f 10 ds = runF (Gm W k) W 1 b_look_at_plan ds := rfl
theorem u_first_stand (W k : Nat) (ds : List D) : (Gm W (k + 1)).f 11 ds = runF (Gm W k) W 1 b_first_stand ds := rfl
theorem u_fits (W k : Nat) (ds : List D) : (Gm W (k + 1)).f 12 ds = runF (Gm W k) W 9 b_fits ds := rfl
theorem u_is_stand (W k : Nat) (ds : List D) : (Gm W (k + 1)).f 13 ds = runF (Gm W k) W 2 b_is_stand ds := rfl
theorem u__law_spring (W k : Nat) (ds : List D) : (Gm W (k + 1)).f 14 ds = runF (Gm W k) W 4 b__law_spring ds := rfl
theorem u__law_pick (W k : Nat) (xs ds : List D) : (Gm W (k + 1)).g 15 xs ds = runG (Gm W k) W 3 b__law_pick xs ds := rfl
theorem u__law_kind (W k : Nat) (ds : List D) : (Gm W (k + 1)).f 16 ds = runF (Gm W k) W 1 b__law_kind ds := rfl
theorem u__law_twins (W k : Nat) (ds : List D) : (Gm W (k + 1)).f 17 ds = runF (Gm W k) W 4 b__law_twins ds := rfl
theorem u__law_span (W k : Nat) (xs ds : List D) : (Gm W (k + 1)).g 18 xs ds = runG (Gm W k) W 2 b__law_span xs ds := rfl
theorem u__law_rule (W k : Nat) (xs ds : List D) : (Gm W (k + 1)).g 19 xs ds = runG (Gm W k) W 2 b__law_rule xs ds := rfl
theorem u__law_house (W k : Nat) (xs ds : List D) : (Gm W (k + 1)).g 20 xs ds = runG (Gm W k) W 3 b__law_house xs ds := rfl
theorem u__law_backs (W k : Nat) (ds : List D) : (Gm W (k + 1)).f 21 ds = runF (Gm W k) W 9 b__law_backs ds := rfl
theorem u__law_waiting (W k : Nat) (ds : List D) : (Gm W (k + 1)).f 22 ds = runF (Gm W k) W 12 b__law_waiting ds := rfl
theorem u__law_called (W k : Nat) (ds : List D) : (Gm W (k + 1)).f 23 ds = runF (Gm W k) W 15 b__law_called ds := rfl
theorem u__law_tick (W k : Nat) (ds : List D) : (Gm W (k + 1)).f 24 ds = runF (Gm W k) W 13 b__law_tick ds := rfl
theorem u__law_choices (W k : Nat) (ds : List D) : (Gm W (k + 1)).f 25 ds = runF (Gm W k) W 12 b__law_choices ds := rfl
theorem u__law_begin (W k : Nat) (ds : List D) : (Gm W (k + 1)).f 26 ds = runF (Gm W k) W 0 b__law_begin ds := rfl
theorem u__law_int (W k : Nat) (ds : List D) : (Gm W (k + 1)).f 27 ds = runF (Gm W k) W 3 b__law_int ds := rfl
theorem u__law_made (W k : Nat) (ds : List D) : (Gm W (k + 1)).f 28 ds = runF (Gm W k) W 2 b__law_made ds := rfl
theorem u__law_good_span (W k : Nat) (ds : List D) : (Gm W (k + 1)).f 29 ds = runF (Gm W k) W 1 b__law_good_span ds := rfl
theorem u__law_good_house (W k : Nat) (ds : List D) : (Gm W (k + 1)).f 30 ds = runF (Gm W k) W 1 b__law_good_house ds := rfl
theorem u__law_good_rule (W k : Nat) (ds : List D) : (Gm W (k + 1)).f 31 ds = runF (Gm W k) W 1 b__law_good_rule ds := rfl
theorem u__law_good_plan (W k : Nat) (ds : List D) : (Gm W (k + 1)).f 32 ds = runF (Gm W k) W 1 b__law_good_plan ds := rfl
theorem u__law_good_stand (W k : Nat) (ds : List D) : (Gm W (k + 1)).f 33 ds = runF (Gm W k) W 10 b__law_good_stand ds := rfl
theorem u__law_bent (W k : Nat) (xs ds : List D) : (Gm W (k + 1)).g 34 xs ds = runG (Gm W k) W 5 b__law_bent xs ds := rfl
theorem u_look_at_stand (W k : Nat) (ds : List D) : (Gm W (k + 1)).f 35 ds = runF (Gm W k) W 2 b_look_at_stand ds := rfl
theorem u_backs_of (W k : Nat) (ds : List D) : (Gm W (k + 1)).f 36 ds = runF (Gm W k) W 9 b_backs_of ds := rfl
theorem u_gathered (W k : Nat) (ds : List D) : (Gm W (k + 1)).f 37 ds = runF (Gm W k) W 12 b_gathered ds := rfl
theorem u_gone (W k : Nat) (ds : List D) : (Gm W (k + 1)).f 38 ds = runF (Gm W k) W 5 b_gone ds := rfl
theorem u_without (W k : Nat) (ds : List D) : (Gm W (k + 1)).f 39 ds = runF (Gm W k) W 5 b_without ds := rfl
theorem u_called (W k : Nat) (ds : List D) : (Gm W (k + 1)).f 40 ds = runF (Gm W k) W 10 b_called ds := rfl
theorem u_harms_of (W k : Nat) (ds : List D) : (Gm W (k + 1)).f 41 ds = runF (Gm W k) W 8 b_harms_of ds := rfl
theorem u_passed (W k : Nat) (ds : List D) : (Gm W (k + 1)).f 42 ds = runF (Gm W k) W 12 b_passed ds := rfl
theorem u_ends_of (W k : Nat) (ds : List D) : (Gm W (k + 1)).f 43 ds = runF (Gm W k) W 8 b_ends_of ds := rfl
theorem u_choices_of (W k : Nat) (ds : List D) : (Gm W (k + 1)).f 44 ds = runF (Gm W k) W 11 b_choices_of ds := rfl
theorem u_is_number (W k : Nat) (ds : List D) : (Gm W (k + 1)).f 45 ds = runF (Gm W k) W 1 b_is_number ds := rfl
theorem u_is_like (W k : Nat) (ds : List D) : (Gm W (k + 1)).f 46 ds = runF (Gm W k) W 3 b_is_like ds := rfl
theorem u_stands_of (W k : Nat) (ds : List D) : (Gm W (k + 1)).f 47 ds = runF (Gm W k) W 5 b_stands_of ds := rfl
theorem u_fits_run (W k : Nat) (ds : List D) : (Gm W (k + 1)).f 48 ds = runF (Gm W k) W 2 b_fits_run ds := rfl
theorem u_looked_at (W k : Nat) (ds : List D) : (Gm W (k + 1)).f 49 ds = runF (Gm W k) W 3 b_looked_at ds := rfl
theorem u_choices_at (W k : Nat) (ds : List D) : (Gm W (k + 1)).f 50 ds = runF (Gm W k) W 2 b_choices_at ds := rfl
theorem u_after (W k : Nat) (ds : List D) : (Gm W (k + 1)).f 51 ds = runF (Gm W k) W 3 b_after ds := rfl
theorem u_call (W k : Nat) (ds : List D) : (Gm W (k + 1)).f 52 ds = runF (Gm W k) W 3 b_call ds := rfl
theorem u_tick_harms (W k : Nat) (ds : List D) : (Gm W (k + 1)).f 53 ds = runF (Gm W k) W 3 b_tick_harms ds := rfl
theorem u_is_run (W k : Nat) (ds : List D) : (Gm W (k + 1)).f 54 ds = runF (Gm W k) W 2 b_is_run ds := rfl
theorem u_stand_behind (W k : Nat) (ds : List D) : (Gm W (k + 1)).f 55 ds = runF (Gm W k) W 2 b_stand_behind ds := rfl
theorem u__law_any_stand (W k : Nat) (xs ds : List D) : (Gm W (k + 1)).g 56 xs ds = runG (Gm W k) W 12 b__law_any_stand xs ds := rfl
theorem u_law201 (W k : Nat) (ds : List D) : (Gm W (k + 1)).f 201 ds = runF (Gm W k) W 13 b_law201 ds := rfl
theorem u_law202 (W k : Nat) (ds : List D) : (Gm W (k + 1)).f 202 ds = runF (Gm W k) W 20 b_law202 ds := rfl
theorem u_law203 (W k : Nat) (ds : List D) : (Gm W (k + 1)).f 203 ds = runF (Gm W k) W 9 b_law203 ds := rfl
end AW

set_option Elab.async false
set_option linter.all false
set_option maxRecDepth 100000
set_option maxHeartbeats 4000000
namespace AW
open PySem L2
/-! how the trees are worked out -/
theorem bk_ok {α β : Type} (a : α) (f : α → Res β) : (Res.ok a).bind f = f a := (rfl)
theorem bk_no {α β : Type} (f : α → Res β) : (Res.no).bind f = .no := (rfl)
theorem bk_ite {α β : Type} (c : Prop) [Decidable c] (x y : Res α) (f : α → Res β) : (if c then x else y).bind f = if c then x.bind f else y.bind f := by split <;> rfl
theorem and_m (c : Prop) [Decidable c] (x : Bool) (ρ : Env) : (if c then Res.ok (Val.d (D.bl x), ρ) else Res.ok (Val.d (D.bl false), ρ)) = Res.ok (Val.d (D.bl (decide c && x)), ρ) := by
  by_cases h : c <;> simp [h]
theorem or_m (c : Prop) [Decidable c] (x : Bool) (ρ : Env) : (if c then Res.ok (Val.d (D.bl true), ρ) else Res.ok (Val.d (D.bl x), ρ)) = Res.ok (Val.d (D.bl (decide c || x)), ρ) := by
  by_cases h : c <;> simp [h]
theorem oo_some {α : Type} (a : α) : ofO (some a) = .ok a := (rfl)
theorem oo_none {α : Type} : ofO (none : Option α) = .no := (rfl)
theorem oo_ite {α : Type} (c : Prop) [Decidable c] (x y : Option α) : ofO (if c then x else y) = if c then ofO x else ofO y := by split <;> rfl
def finF : Res (Fl × Env) → Res Val
  | .ok (.rt v, _) => .ok v
  | .ok (.nx, _) => .ok (.d .non)
  | _ => .no
def finG : Res (Fl × Env) → Res (Val × List D)
  | .ok (.rt v, ρ) => match getS ρ 0 with
    | some (.io xs) => .ok (v, xs)
    | _ => .no
  | .ok (.nx, ρ) => match getS ρ 0 with
    | some (.io xs) => .ok (.d .non, xs)
    | _ => .no
  | _ => .no
theorem runF_is (Γ : Gam) (W n : Nat) (b : Ss) (ds : List D) : runF Γ W n b ds = finF (exs Γ W b (ds.map (fun x => some (.d x)) ++ List.replicate (n - ds.length) none)) := by
  unfold runF finF
  rfl
theorem runG_is (Γ : Gam) (W n : Nat) (b : Ss) (xs ds : List D) : runG Γ W n b xs ds = finG (exs Γ W b (some (.io xs) :: ds.map (fun x => some (.d x)) ++ List.replicate (n - (ds.length + 1)) none)) := by
  unfold runG finG
  rfl
theorem ff_rt (v : Val) (ρ : Env) : finF (.ok (.rt v, ρ)) = .ok v := (rfl)
theorem ff_nx (ρ : Env) : finF (.ok (.nx, ρ)) = .ok (.d .non) := (rfl)
theorem ff_ite (c : Prop) [Decidable c] (x y : Res (Fl × Env)) : finF (if c then x else y) = if c then finF x else finF y := by split <;> rfl
theorem fg_rt (v : Val) (xs : List D) (ρ : Env) : finG (.ok (.rt v, some (.io xs) :: ρ)) = .ok (v, xs) := (rfl)
theorem fg_nx (xs : List D) (ρ : Env) : finG (.ok (.nx, some (.io xs) :: ρ)) = .ok (.d .non, xs) := (rfl)
theorem fg_ite (c : Prop) [Decidable c] (x y : Res (Fl × Env)) : finG (if c then x else y) = if c then finG x else finG y := by split <;> rfl
def pkf : Res (Val × Env) → Res (PVal × Env)
  | .ok (v, ρ') => .ok (.val v, ρ')
  | .exc c p => .exc c p
  | .no => .no
/-- what is not a name is read -/
def isV : E → Bool
  | .v _ => true
  | _ => false
theorem peek_v (i : Nat) (f : Env → Res (Val × Env)) (ρ : Env) : peek (.v i) f ρ = if there ρ i then .ok (.var i, ρ) else .no := (rfl)
theorem peek_e (e : E) (f : Env → Res (Val × Env)) (ρ : Env) (h : isV e = false) : peek e f ρ = pkf (f ρ) := by
  cases e <;> first | rfl | (cases h)
theorem pe_k {d f ρ} : peek (.k d) f ρ = pkf (f ρ) := (rfl)
theorem pe_gc {d f ρ} : peek (.gc d) f ρ = pkf (f ρ) := (rfl)
theorem pe_tup {es f ρ} : peek (.tup es) f ρ = pkf (f ρ) := (rfl)
theorem pe_lst {es f ρ} : peek (.lst es) f ρ = pkf (f ρ) := (rfl)
theorem pe_bin {op a b f ρ} : peek (.bin op a b) f ρ = pkf (f ρ) := (rfl)
theorem pe_neg {a f ρ} : peek (.neg a) f ρ = pkf (f ρ) := (rfl)
theorem pe_not {a f ρ} : peek (.not a) f ρ = pkf (f ρ) := (rfl)
theorem pe_and {a b f ρ} : peek (.and a b) f ρ = pkf (f ρ) := (rfl)
theorem pe_or {a b f ρ} : peek (.or a b) f ρ = pkf (f ρ) := (rfl)
theorem pe_cmp {op a b f ρ} : peek (.cmp op a b) f ρ = pkf (f ρ) := (rfl)
theorem pe_chain {op op2 a b c f ρ} : peek (.chain op op2 a b c) f ρ = pkf (f ρ) := (rfl)
theorem pe_ife {t a b f ρ} : peek (.ife t a b) f ρ = pkf (f ρ) := (rfl)
theorem pe_call {g as f ρ} : peek (.call g as) f ρ = pkf (f ρ) := (rfl)
theorem pe_calli {g i as f ρ} : peek (.calli g i as) f ρ = pkf (f ρ) := (rfl)
theorem pe_b1 {b a f ρ} : peek (.b1 b a) f ρ = pkf (f ρ) := (rfl)
theorem pe_b2 {b a c f ρ} : peek (.b2 b a c) f ρ = pkf (f ρ) := (rfl)
theorem pe_isi {a ts f ρ} : peek (.isi a ts) f ρ = pkf (f ρ) := (rfl)
theorem pe_ix {o i f ρ} : peek (.ix o i) f ρ = pkf (f ρ) := (rfl)
theorem pe_sl {o lo hi f ρ} : peek (.sl o lo hi) f ρ = pkf (f ρ) := (rfl)
theorem pe_lc {tg it own tt el f ρ} : peek (.lc tg it own tt el) f ρ = pkf (f ρ) := (rfl)
theorem pe_app {i e f ρ} : peek (.app i e) f ρ = pkf (f ρ) := (rfl)
theorem pe_pop {i f ρ} : peek (.pop i) f ρ = pkf (f ρ) := (rfl)
theorem pe_popA {i e f ρ} : peek (.popA i e) f ρ = pkf (f ρ) := (rfl)
theorem pe_rev {a f ρ} : peek (.rev a) f ρ = pkf (f ρ) := (rfl)
theorem pe_dget {kvs a b f ρ} : peek (.dget kvs a b) f ρ = pkf (f ρ) := (rfl)
theorem pk_ok (v : Val) (ρ : Env) : pkf (.ok (v, ρ)) = .ok (.val v, ρ) := (rfl)
theorem pk_ite (c : Prop) [Decidable c] (x y : Res (Val × Env)) : pkf (if c then x else y) = if c then pkf x else pkf y := by split <;> rfl
/-- a place that may be stored to -/
def plS : Option Slot → Bool
  | some (.lk _) => false
  | some (.io _) => false
  | _ => true
theorem put_pl {ρ : Env} {i : Nat} {v : Val} (h : plS (getS ρ i) = true) : put ρ i v = .ok (setS ρ i v.slot) := by
  unfold put
  split <;> first | rfl | (rename_i e; rw [e] at h; cases h)
theorem plS_none : plS none = true := (rfl)
theorem plS_d (x : D) : plS (some (.d x)) = true := (rfl)
theorem plS_own (xs : List D) : plS (some (.own xs)) = true := (rfl)
theorem bi1_int_i (i : Int) : bi1 .int (.int i) = some (.d (.int i)) := (rfl)
theorem bi1_int_b (c : Bool) : bi1 .int (.bl c) = some (.d (.int (if c then 1 else 0))) := (rfl)
theorem bi1_list_t (xs : List D) : bi1 .list (.tup xs) = some (.own xs) := (rfl)
theorem bi1_list_l (xs : List D) : bi1 .list (.lst xs) = some (.own xs) := (rfl)
theorem bi1_tup_t (xs : List D) : bi1 .tuple (.tup xs) = some (.d (.tup xs)) := (rfl)
theorem bi1_tup_l (xs : List D) : bi1 .tuple (.lst xs) = some (.d (.tup xs)) := (rfl)
theorem bi1_len_l (xs : List D) : bi1 .len (.lst xs) = some (.d (.int xs.length)) := (rfl)
theorem bi1_len_t (xs : List D) : bi1 .len (.tup xs) = some (.d (.int xs.length)) := (rfl)
theorem bi1_len_a (xs : List D) : bi1 .len (.arr xs) = some (.d (.int xs.length)) := (rfl)
theorem b_addi (i j : Int) : binD .Add (.int i) (.int j) = some (.d (.int (i + j))) := (rfl)
theorem b_subi (i j : Int) : binD .Sub (.int i) (.int j) = some (.d (.int (i - j))) := (rfl)
theorem b_addl {xs ys : List D} (h : xs.length + ys.length ≤ lim) : binD .Add (.lst xs) (.lst ys) = some (.own (xs ++ ys)) := if_pos h
theorem b_addt {xs ys : List D} (h : xs.length + ys.length ≤ lim) : binD .Add (.tup xs) (.tup ys) = some (.d (.tup (xs ++ ys))) := if_pos h
theorem b_mul1 {xs : List D} (h : xs.length ≤ lim) : binD .Mult (.lst xs) (.int 1) = some (.own xs) := by
  show (if -(2 ^ 62) ≤ (1 : Int) ∧ (1 : Int) < 2 ^ 62 ∧ xs.length * (1 : Int).toNat ≤ lim then some (Val.own (List.replicate (1 : Int).toNat xs).flatten) else none) = _
  rw [if_pos ⟨by decide, by decide, by simpa using h⟩]
  simp
theorem b_mul0 (xs : List D) : binD .Mult (.lst xs) (.int 0) = some (.own []) := by
  show (if -(2 ^ 62) ≤ (0 : Int) ∧ (0 : Int) < 2 ^ 62 ∧ xs.length * (0 : Int).toNat ≤ lim then some (Val.own (List.replicate (0 : Int).toNat xs).flatten) else none) = _
  rw [if_pos ⟨by decide, by decide, by simp⟩]
  simp
theorem sl_tail (x : D) (r : List D) : slD (.lst (x :: r)) (some 1) none = some (.own r) := by
  unfold slD cutD HT.sIx
  simp
theorem sl_take (xs : List D) (i : Nat) : slD (.lst xs) none (some (i : Int)) = some (.own (xs.take i)) := by
  unfold slD cutD HT.sIx
  have : ¬ ((i : Int) < 0) := by omega
  simp [this, List.take_eq_take_iff]
theorem sl_drop (xs : List D) (i : Nat) : slD (.lst xs) (some (i : Int)) none = some (.own (xs.drop i)) := by
  unfold slD cutD HT.sIx
  have : ¬ ((i : Int) < 0) := by omega
  simp [this]
  by_cases h : i ≤ xs.length
  · rw [Nat.min_eq_left h]
    exact List.take_of_length_le (by rw [List.length_drop]; omega)
  · rw [Nat.min_eq_right (by omega), List.drop_length, List.drop_eq_nil_of_le (by omega)]
    simp
theorem c_lti (i j : Int) : cmpD .Lt (.int i) (.int j) = some (decide (i < j)) := (rfl)
theorem c_lei (i j : Int) : cmpD .LtE (.int i) (.int j) = some (decide (i ≤ j)) := (rfl)
theorem c_gti (i j : Int) : cmpD .Gt (.int i) (.int j) = some (decide (j < i)) := (rfl)
theorem c_gei (i j : Int) : cmpD .GtE (.int i) (.int j) = some (decide (j ≤ i)) := (rfl)
theorem c_eqi (i j : Int) : cmpD .Eq (.int i) (.int j) = some (decide (i = j)) := (rfl)
theorem c_nei (i j : Int) : cmpD .NotEq (.int i) (.int j) = some (!decide (i = j)) := (rfl)
theorem c_eqs (i j : Str) : cmpD .Eq (.str i) (.str j) = some (decide (i = j)) := (rfl)
theorem c_nes (i j : Str) : cmpD .NotEq (.str i) (.str j) = some (!decide (i = j)) := (rfl)
theorem c_in (x y : D) : cmpD .In x y = inD x y := (rfl)
theorem c_nin (x y : D) : cmpD .NotIn x y = (inD x y).map (!·) := (rfl)
-- EQS
theorem v_k {Γ : Gam} {d ρ} : ev Γ (.k d) ρ = .ok (.d d, ρ) := (rfl)
theorem v_gc {Γ : Gam} {d ρ} : ev Γ (.gc d) ρ = .ok (.d d, ρ) := (rfl)
theorem v_v {Γ : Gam} {i ρ} : ev Γ (.v i) ρ = rd ρ i := (rfl)
theorem v_tup {Γ : Gam} {es ρ} : ev Γ (.tup es) ρ = (evs Γ es ρ).bind fun (ds, ρ1) => .ok (.d (.tup ds), ρ1) := (rfl)
theorem v_lst {Γ : Gam} {es ρ} : ev Γ (.lst es) ρ = (evs Γ es ρ).bind fun (ds, ρ1) => .ok (.own ds, ρ1) := (rfl)
theorem v_bin {Γ : Gam} {op a b ρ} : ev Γ (.bin op a b) ρ = (peek a (ev Γ a) ρ).bind fun (p, ρ1) => (peek b (ev Γ b) ρ1).bind fun (q, ρ2) =>
      (view ρ2 p).bind fun x => (view ρ2 q).bind fun y => (ofO (binD op x y)).bind fun r => .ok (r, ρ2) := (rfl)
theorem v_neg {Γ : Gam} {a ρ} : ev Γ (.neg a) ρ = (ev Γ a ρ).bind fun (v, ρ1) => (asInt v).bind fun i => .ok (.d (.int (-i)), ρ1) := (rfl)
theorem v_not {Γ : Gam} {a ρ} : ev Γ (.not a) ρ = (ev Γ a ρ).bind fun (v, ρ1) => (asBl v).bind fun c => .ok (.d (.bl (!c)), ρ1) := (rfl)
theorem v_and {Γ : Gam} {a b ρ} : ev Γ (.and a b) ρ = (ev Γ a ρ).bind fun (v, ρ1) => (asBl v).bind fun c => if c = true then ev Γ b ρ1 else .ok (.d (.bl false), ρ1) := (rfl)
theorem v_or {Γ : Gam} {a b ρ} : ev Γ (.or a b) ρ = (ev Γ a ρ).bind fun (v, ρ1) => (asBl v).bind fun c => if c = true then .ok (.d (.bl true), ρ1) else ev Γ b ρ1 := (rfl)
theorem v_cmp {Γ : Gam} {op a b ρ} : ev Γ (.cmp op a b) ρ = (peek a (ev Γ a) ρ).bind fun (p, ρ1) => (peek b (ev Γ b) ρ1).bind fun (q, ρ2) =>
      (view ρ2 p).bind fun x => (view ρ2 q).bind fun y => (ofO (cmpD op x y)).bind fun r => .ok (.d (.bl r), ρ2) := (rfl)
theorem v_chain {Γ : Gam} {op op2 a b c ρ} : ev Γ (.chain op op2 a b c) ρ = (ev Γ a ρ).bind fun (v, ρ1) => (ev Γ b ρ1).bind fun (u, ρ2) => (ofO (cmpD op v.toD u.toD)).bind fun r =>
      if r = true then (ev Γ c ρ2).bind fun (w, ρ3) => (ofO (cmpD op2 u.toD w.toD)).bind fun r2 => .ok (.d (.bl r2), ρ3) else .ok (.d (.bl false), ρ2) := (rfl)
theorem v_ife {Γ : Gam} {t a b ρ} : ev Γ (.ife t a b) ρ = (ev Γ t ρ).bind fun (v, ρ1) => (asBl v).bind fun c => if c = true then ev Γ a ρ1 else ev Γ b ρ1 := (rfl)
theorem v_call {Γ : Gam} {f as ρ} : ev Γ (.call f as) ρ = (evs Γ as ρ).bind fun (ds, ρ1) => (Γ.f f ds).bind fun r => .ok (r, ρ1) := (rfl)
theorem v_calli {Γ : Gam} {f i as ρ} : ev Γ (.calli f i as) ρ = if there ρ i = true then (evs Γ as ρ).bind fun (ds, ρ1) => match getS ρ1 i with
    | some (.own xs) => (Γ.g f xs ds).bind fun (r, xs') => .ok (r, setS ρ1 i (.own xs'))
    | some (.io xs) => (Γ.g f xs ds).bind fun (r, xs') => .ok (r, setS ρ1 i (.io xs'))
    | _ => .no
    else .no := (rfl)
theorem v_b1 {Γ : Gam} {b a ρ} : ev Γ (.b1 b a) ρ = (peek a (ev Γ a) ρ).bind fun (p, ρ1) => (view ρ1 p).bind fun x => (ofO (bi1 b x)).bind fun r => .ok (r, ρ1) := (rfl)
theorem v_b2 {Γ : Gam} {b a c ρ} : ev Γ (.b2 b a c) ρ = (ev Γ a ρ).bind fun (v, ρ1) => (ev Γ c ρ1).bind fun (u, ρ2) => (ofO (bi2 b v.toD u.toD)).bind fun r => .ok (r, ρ2) := (rfl)
theorem v_isi {Γ : Gam} {a ts ρ} : ev Γ (.isi a ts) ρ = (ev Γ a ρ).bind fun (v, ρ1) => .ok (.d (.bl (isiD ts v.toD)), ρ1) := (rfl)
theorem v_ix {Γ : Gam} {o i ρ} : ev Γ (.ix o i) ρ = (peek o (ev Γ o) ρ).bind fun (p, ρ1) => (ev Γ i ρ1).bind fun (v, ρ2) => (view ρ2 p).bind fun x => (ofO (ixD x v.toD)).bind fun r => .ok (.d r, ρ2) := (rfl)
theorem v_sl {Γ : Gam} {o lo hi ρ} : ev Γ (.sl o lo hi) ρ = (peek o (ev Γ o) ρ).bind fun (p, ρ1) => (evo Γ lo ρ1).bind fun (l, ρ2) => (evo Γ hi ρ2).bind fun (h, ρ3) => (view ρ3 p).bind fun x => (ofO (slD x l h)).bind fun r => .ok (r, ρ3) := (rfl)
theorem v_lc {Γ : Gam} {tg it own tt elt ρ} : ev Γ (.lc tg it own tt elt) ρ = (evIt Γ it ρ).bind fun (xs, ρ1, lk) => if own.all (plain ρ1) = true then (lcGo (lcF Γ tg tt elt) own xs ρ1 []).bind fun (acc, ρ2) => (unlock lk ρ2).bind fun ρ3 => .ok (.own acc, ρ3) else .no := by cases tt <;> rfl
theorem v_app {Γ : Gam} {i e ρ} : ev Γ (.app i e) ρ = if isOwn ρ i = true then (ev Γ e ρ).bind fun (v, ρ1) => match getS ρ1 i with
    | some (.own xs) => if xs.length < lim then .ok (.d .non, setS ρ1 i (.own (xs ++ [v.toD]))) else .no
    | _ => .no
    else .no := (rfl)
theorem v_pop {Γ : Gam} {i ρ} : ev Γ (.pop i) ρ = match getS ρ i with
    | some (.own xs) => match xs.getLast? with
      | some x => .ok (.d x, setS ρ i (.own xs.dropLast))
      | none => .no
    | _ => .no := (rfl)
theorem v_popA {Γ : Gam} {i e ρ} : ev Γ (.popA i e) ρ = if isOwn ρ i = true then (ev Γ e ρ).bind fun (v, ρ1) => (asInt v).bind fun j => match getS ρ1 i with
    | some (.own xs) => match ixN xs.length j with
      | some k => match xs[k]? with
        | some x => if xs.length ≤ lim then .ok (.d x, setS ρ1 i (.own (xs.eraseIdx k))) else .no
        | none => .no
      | none => .no
    | _ => .no
    else .no := (rfl)
theorem v_rev {Γ : Gam} {a ρ} : ev Γ (.rev a) ρ = (ev Γ a ρ).bind fun (v, ρ1) => match v with
    | .d (.tup xs) => .ok (.d (.tup xs.reverse), ρ1)
    | _ => .no := (rfl)
theorem v_dget {Γ : Gam} {kvs a b ρ} : ev Γ (.dget kvs a b) ρ = (ev Γ a ρ).bind fun (v, ρ1) => (ev Γ b ρ1).bind fun (u, ρ2) => match v with
    | .d (.str x) => match kvs.lookup x with
      | some i => .ok (.d (.int i), ρ2)
      | none => .ok (.d u.toD, ρ2)
    | _ => .no := (rfl)
theorem s_asg {Γ : Gam} {W : Nat} {i e ρ} : ex Γ W (.asg i e) ρ = (ev Γ e ρ).bind fun (v, ρ1) => (put ρ1 i v).bind fun ρ2 => .ok (.nx, ρ2) := (rfl)
theorem s_unp {Γ : Gam} {W : Nat} {tg e ρ} : ex Γ W (.unp tg e) ρ = (ev Γ e ρ).bind fun (v, ρ1) => (bindT tg v.toD ρ1).bind fun ρ2 => .ok (.nx, ρ2) := (rfl)
theorem s_par {Γ : Gam} {W : Nat} {ts es ρ} : ex Γ W (.par ts es) ρ = (evm Γ es ρ).bind fun (vs, ρ1) => (putTs ts vs ρ1).bind fun ρ2 => .ok (.nx, ρ2) := (rfl)
theorem s_setL {Γ : Gam} {W : Nat} {i ix e ρ} : ex Γ W (.setL i ix e) ρ = (ev Γ e ρ).bind fun (v, ρ1) => if there ρ1 i = true then (ev Γ ix ρ1).bind fun (k, ρ2) => (asInt k).bind fun j => match getS ρ2 i with
    | some (.own xs) => match ixN xs.length j with
      | some n => .ok (.nx, setS ρ2 i (.own (xs.set n v.toD)))
      | none => .no
    | some (.io xs) => match ixN xs.length j with
      | some n => .ok (.nx, setS ρ2 i (.io (xs.set n v.toD)))
      | none => .no
    | _ => .no
    else .no := (rfl)
theorem s_ex {Γ : Gam} {W : Nat} {e ρ} : ex Γ W (.ex e) ρ = (ev Γ e ρ).bind fun (_, ρ1) => .ok (.nx, ρ1) := (rfl)
theorem s_iff {Γ : Gam} {W : Nat} {t a b ρ} : ex Γ W (.iff t a b) ρ = (ev Γ t ρ).bind fun (v, ρ1) => (asBl v).bind fun c => if c = true then exs Γ W a ρ1 else exs Γ W b ρ1 := (rfl)
def fF (Γ : Gam) (W : Nat) (tg : Tg) (b : Ss) (x : D) (ρ : Env) : Res (Fl × Env) := (bindT tg x ρ).bind fun ρ' => exs Γ W b ρ'
theorem s_for_ {Γ : Gam} {W : Nat} {tg it b ρ} : ex Γ W (.for_ tg it b) ρ = (evIt Γ it ρ).bind fun (xs, ρ1, lk) => (forGo (fF Γ W tg b) xs ρ1).bind fun (fl, ρ2) => (unlock lk ρ2).bind fun ρ3 => .ok (fl, ρ3) := (rfl)
theorem s_whl {Γ : Gam} {W : Nat} {t b ρ} : ex Γ W (.whl t b) ρ = whlGo (ev Γ t) (exs Γ W b) W ρ := (rfl)
theorem s_ret {Γ : Gam} {W : Nat} {e ρ} : ex Γ W (.ret e) ρ = (retV Γ e ρ).bind fun (v, ρ1) => .ok (.rt v, ρ1) := (rfl)
theorem s_pass {Γ : Gam} {W : Nat} {ρ} : ex Γ W (.pass) ρ = .ok (.nx, ρ) := (rfl)
theorem s_brk {Γ : Gam} {W : Nat} {ρ} : ex Γ W (.brk) ρ = .ok (.bk, ρ) := (rfl)
theorem s_cont {Γ : Gam} {W : Nat} {ρ} : ex Γ W (.cont) ρ = .ok (.ct, ρ) := (rfl)
theorem s_bad {Γ : Gam} {W : Nat} {ρ} : ex Γ W (.bad) ρ = .no := (rfl)
-- END EQS
end AW

set_option Elab.async false
set_option linter.all false
set_option maxRecDepth 100000
set_option maxHeartbeats 4000000
namespace AW
open PySem L2
/-! the checks of the program and of the law, at any data -/
def withinB (x : D) (lo hi : Int) : Bool := match x with
  | .int i => decide (lo ≤ i) && decide (i ≤ hi)
  | _ => false
def rowB (x : D) (n : Nat) : Bool := match x with
  | .tup xs => decide (xs.length = n)
  | _ => false
theorem within_int {x : D} {lo hi : Int} (h : withinB x lo hi = true) : ∃ i, x = .int i ∧ lo ≤ i ∧ i ≤ hi := by
  unfold withinB at h
  split at h
  · rename_i i; simp at h; exact ⟨i, rfl, h⟩
  · cases h
variable {W : Nat}
theorem f_within (k : Nat) (x : D) (lo hi : Int) : (Gm W (k + 1)).f 1 [x, .int lo, .int hi] = .ok (.d (.bl (withinB x lo hi))) := by
  rw [u_is_within]
  cases x <;> simp [and_m, or_m, ↓runF_is, ↓runG_is, ↓bk_ok, ↓bk_no, bk_ite, oo_some, oo_none, oo_ite, ff_rt, ff_nx, ff_ite, fg_rt, fg_nx, fg_ite, ↓peek_v, ↓pe_k, ↓pe_gc, ↓pe_tup, ↓pe_lst, ↓pe_bin, ↓pe_neg, ↓pe_not, ↓pe_and, ↓pe_or, ↓pe_cmp, ↓pe_chain, ↓pe_ife, ↓pe_call, ↓pe_calli, ↓pe_b1, ↓pe_b2, ↓pe_isi, ↓pe_ix, ↓pe_sl, ↓pe_lc, ↓pe_app, ↓pe_pop, ↓pe_popA, ↓pe_rev, ↓pe_dget, pk_ok, pk_ite, ↓exs, ↓retV, ↓v_k, ↓v_gc, ↓v_v, ↓v_tup, ↓v_lst, ↓v_bin, ↓v_neg, ↓v_not, ↓v_and, ↓v_or, ↓v_cmp, ↓v_chain, ↓v_ife, ↓v_call, ↓v_calli, ↓v_b1, ↓v_b2, ↓v_isi, ↓v_ix, ↓v_sl, ↓v_lc, ↓v_app, ↓v_pop, ↓v_popA, ↓v_rev, ↓v_dget, ↓s_asg, ↓s_unp, ↓s_par, ↓s_setL, ↓s_ex, ↓s_iff, ↓s_for_, ↓s_whl, ↓s_ret, ↓s_pass, ↓s_brk, ↓s_cont, ↓s_bad, ↓evs, ↓evm, ↓evo, ↓evIt, ↓view, rd, getS, setS, there, ↓put_pl, plS_none, plS_d, plS_own, ↓putT, ↓putTs, ↓bindT, ↓bindTs, asInt, asBl, Val.toD, Val.slot, binD, cmpD, eqD, bi1, bi2, isiD, isiT, ixD, atI, ixN, slD, lock, unlock, items?, isOwn, isNon, b_is_within, withinB]
theorem f_int (k : Nat) (x : D) (lo hi : Int) : (Gm W (k + 1)).f 27 [x, .int lo, .int hi] = .ok (.d (.bl (withinB x lo hi))) := by
  rw [u__law_int]
  cases x <;> simp [and_m, or_m, ↓runF_is, ↓runG_is, ↓bk_ok, ↓bk_no, bk_ite, oo_some, oo_none, oo_ite, ff_rt, ff_nx, ff_ite, fg_rt, fg_nx, fg_ite, ↓peek_v, ↓pe_k, ↓pe_gc, ↓pe_tup, ↓pe_lst, ↓pe_bin, ↓pe_neg, ↓pe_not, ↓pe_and, ↓pe_or, ↓pe_cmp, ↓pe_chain, ↓pe_ife, ↓pe_call, ↓pe_calli, ↓pe_b1, ↓pe_b2, ↓pe_isi, ↓pe_ix, ↓pe_sl, ↓pe_lc, ↓pe_app, ↓pe_pop, ↓pe_popA, ↓pe_rev, ↓pe_dget, pk_ok, pk_ite, ↓exs, ↓retV, ↓v_k, ↓v_gc, ↓v_v, ↓v_tup, ↓v_lst, ↓v_bin, ↓v_neg, ↓v_not, ↓v_and, ↓v_or, ↓v_cmp, ↓v_chain, ↓v_ife, ↓v_call, ↓v_calli, ↓v_b1, ↓v_b2, ↓v_isi, ↓v_ix, ↓v_sl, ↓v_lc, ↓v_app, ↓v_pop, ↓v_popA, ↓v_rev, ↓v_dget, ↓s_asg, ↓s_unp, ↓s_par, ↓s_setL, ↓s_ex, ↓s_iff, ↓s_for_, ↓s_whl, ↓s_ret, ↓s_pass, ↓s_brk, ↓s_cont, ↓s_bad, ↓evs, ↓evm, ↓evo, ↓evIt, ↓view, rd, getS, setS, there, ↓put_pl, plS_none, plS_d, plS_own, ↓putT, ↓putTs, ↓bindT, ↓bindTs, asInt, asBl, Val.toD, Val.slot, binD, cmpD, eqD, bi1, bi2, isiD, isiT, ixD, atI, ixN, slD, lock, unlock, items?, isOwn, isNon, b__law_int, withinB]
theorem f_row (k : Nat) (x : D) (n : Nat) : (Gm W (k + 1)).f 2 [x, .int n] = .ok (.d (.bl (rowB x n))) := by
  rw [u_is_row]
  cases x <;> simp [and_m, or_m, ↓runF_is, ↓runG_is, ↓bk_ok, ↓bk_no, bk_ite, oo_some, oo_none, oo_ite, ff_rt, ff_nx, ff_ite, fg_rt, fg_nx, fg_ite, ↓peek_v, ↓pe_k, ↓pe_gc, ↓pe_tup, ↓pe_lst, ↓pe_bin, ↓pe_neg, ↓pe_not, ↓pe_and, ↓pe_or, ↓pe_cmp, ↓pe_chain, ↓pe_ife, ↓pe_call, ↓pe_calli, ↓pe_b1, ↓pe_b2, ↓pe_isi, ↓pe_ix, ↓pe_sl, ↓pe_lc, ↓pe_app, ↓pe_pop, ↓pe_popA, ↓pe_rev, ↓pe_dget, pk_ok, pk_ite, ↓exs, ↓retV, ↓v_k, ↓v_gc, ↓v_v, ↓v_tup, ↓v_lst, ↓v_bin, ↓v_neg, ↓v_not, ↓v_and, ↓v_or, ↓v_cmp, ↓v_chain, ↓v_ife, ↓v_call, ↓v_calli, ↓v_b1, ↓v_b2, ↓v_isi, ↓v_ix, ↓v_sl, ↓v_lc, ↓v_app, ↓v_pop, ↓v_popA, ↓v_rev, ↓v_dget, ↓s_asg, ↓s_unp, ↓s_par, ↓s_setL, ↓s_ex, ↓s_iff, ↓s_for_, ↓s_whl, ↓s_ret, ↓s_pass, ↓s_brk, ↓s_cont, ↓s_bad, ↓evs, ↓evm, ↓evo, ↓evIt, ↓view, rd, getS, setS, there, ↓put_pl, plS_none, plS_d, plS_own, ↓putT, ↓putTs, ↓bindT, ↓bindTs, asInt, asBl, Val.toD, Val.slot, binD, cmpD, eqD, bi1, bi2, isiD, isiT, ixD, atI, ixN, slD, lock, unlock, items?, isOwn, isNon, b_is_row, rowB]
  omega
theorem f_made (k : Nat) (x : D) (n : Nat) : (Gm W (k + 1)).f 28 [x, .int n] = .ok (.d (.bl (rowB x n))) := by
  rw [u__law_made]
  cases x <;> simp [and_m, or_m, ↓runF_is, ↓runG_is, ↓bk_ok, ↓bk_no, bk_ite, oo_some, oo_none, oo_ite, ff_rt, ff_nx, ff_ite, fg_rt, fg_nx, fg_ite, ↓peek_v, ↓pe_k, ↓pe_gc, ↓pe_tup, ↓pe_lst, ↓pe_bin, ↓pe_neg, ↓pe_not, ↓pe_and, ↓pe_or, ↓pe_cmp, ↓pe_chain, ↓pe_ife, ↓pe_call, ↓pe_calli, ↓pe_b1, ↓pe_b2, ↓pe_isi, ↓pe_ix, ↓pe_sl, ↓pe_lc, ↓pe_app, ↓pe_pop, ↓pe_popA, ↓pe_rev, ↓pe_dget, pk_ok, pk_ite, ↓exs, ↓retV, ↓v_k, ↓v_gc, ↓v_v, ↓v_tup, ↓v_lst, ↓v_bin, ↓v_neg, ↓v_not, ↓v_and, ↓v_or, ↓v_cmp, ↓v_chain, ↓v_ife, ↓v_call, ↓v_calli, ↓v_b1, ↓v_b2, ↓v_isi, ↓v_ix, ↓v_sl, ↓v_lc, ↓v_app, ↓v_pop, ↓v_popA, ↓v_rev, ↓v_dget, ↓s_asg, ↓s_unp, ↓s_par, ↓s_setL, ↓s_ex, ↓s_iff, ↓s_for_, ↓s_whl, ↓s_ret, ↓s_pass, ↓s_brk, ↓s_cont, ↓s_bad, ↓evs, ↓evm, ↓evo, ↓evIt, ↓view, rd, getS, setS, there, ↓put_pl, plS_none, plS_d, plS_own, ↓putT, ↓putTs, ↓bindT, ↓bindTs, asInt, asBl, Val.toD, Val.slot, binD, cmpD, eqD, bi1, bi2, isiD, isiT, ixD, atI, ixN, slD, lock, unlock, items?, isOwn, isNon, b__law_made, rowB]
  omega
theorem row2 {x : D} (h : rowB x 2 = true) : ∃ a b, x = .tup [a, b] := by
  unfold rowB at h
  split at h
  · rename_i xs
    match xs, h with
    | [a, b], _ => exact ⟨a, b, rfl⟩
    | [], h => simp at h
    | [_], h => simp at h
    | _ :: _ :: _ :: _, h => simp at h
  · cases h
theorem row3 {x : D} (h : rowB x 3 = true) : ∃ a b c, x = .tup [a, b, c] := by
  unfold rowB at h
  split at h
  · rename_i xs
    match xs, h with
    | [a, b, c], _ => exact ⟨a, b, c, rfl⟩
    | [], h => simp at h
    | [_], h => simp at h
    | [_, _], h => simp at h
    | _ :: _ :: _ :: _ :: _, h => simp at h
  · cases h
def spanB (x : D) : Bool := match x with
  | .tup [a, b] => match a with
    | .int i => withinB a 1 3 && withinB b i 3
    | _ => false
  | _ => false
theorem span_no {x : D} (h : rowB x 2 = false) : spanB x = false := by
  unfold spanB
  split
  · simp [rowB] at h
  · rfl
theorem f_span (k : Nat) (x : D) : (Gm W (k + 2)).f 4 [x] = .ok (.d (.bl (spanB x))) := by
  rw [u_is_span]
  have e1 : (Gm W (k + 1)).f 2 [x, .int 2] = _ := f_row (W := W) k x 2
  have e2 := fun y lo hi => f_within (W := W) k y lo hi
  cases hr : rowB x 2 with
  | false => rw [span_no hr]; rw [hr] at e1; simp [and_m, or_m, ↓runF_is, ↓runG_is, ↓bk_ok, ↓bk_no, bk_ite, oo_some, oo_none, oo_ite, ff_rt, ff_nx, ff_ite, fg_rt, fg_nx, fg_ite, ↓peek_v, ↓pe_k, ↓pe_gc, ↓pe_tup, ↓pe_lst, ↓pe_bin, ↓pe_neg, ↓pe_not, ↓pe_and, ↓pe_or, ↓pe_cmp, ↓pe_chain, ↓pe_ife, ↓pe_call, ↓pe_calli, ↓pe_b1, ↓pe_b2, ↓pe_isi, ↓pe_ix, ↓pe_sl, ↓pe_lc, ↓pe_app, ↓pe_pop, ↓pe_popA, ↓pe_rev, ↓pe_dget, pk_ok, pk_ite, ↓exs, ↓retV, ↓v_k, ↓v_gc, ↓v_v, ↓v_tup, ↓v_lst, ↓v_bin, ↓v_neg, ↓v_not, ↓v_and, ↓v_or, ↓v_cmp, ↓v_chain, ↓v_ife, ↓v_call, ↓v_calli, ↓v_b1, ↓v_b2, ↓v_isi, ↓v_ix, ↓v_sl, ↓v_lc, ↓v_app, ↓v_pop, ↓v_popA, ↓v_rev, ↓v_dget, ↓s_asg, ↓s_unp, ↓s_par, ↓s_setL, ↓s_ex, ↓s_iff, ↓s_for_, ↓s_whl, ↓s_ret, ↓s_pass, ↓s_brk, ↓s_cont, ↓s_bad, ↓evs, ↓evm, ↓evo, ↓evIt, ↓view, rd, getS, setS, there, ↓put_pl, plS_none, plS_d, plS_own, ↓putT, ↓putTs, ↓bindT, ↓bindTs, asInt, asBl, Val.toD, Val.slot, binD, cmpD, eqD, bi1, bi2, isiD, isiT, ixD, atI, ixN, slD, lock, unlock, items?, isOwn, isNon, b_is_span, e1]
  | true =>
    obtain ⟨a, b, rfl⟩ := row2 hr
    rw [hr] at e1
    cases hw : withinB a 1 3 with
    | false =>
      have : spanB (.tup [a, b]) = false := by cases a <;> first | rfl | (show (withinB _ 1 3 && _) = false; rw [hw]; rfl)
      simp [and_m, or_m, ↓runF_is, ↓runG_is, ↓bk_ok, ↓bk_no, bk_ite, oo_some, oo_none, oo_ite, ff_rt, ff_nx, ff_ite, fg_rt, fg_nx, fg_ite, ↓peek_v, ↓pe_k, ↓pe_gc, ↓pe_tup, ↓pe_lst, ↓pe_bin, ↓pe_neg, ↓pe_not, ↓pe_and, ↓pe_or, ↓pe_cmp, ↓pe_chain, ↓pe_ife, ↓pe_call, ↓pe_calli, ↓pe_b1, ↓pe_b2, ↓pe_isi, ↓pe_ix, ↓pe_sl, ↓pe_lc, ↓pe_app, ↓pe_pop, ↓pe_popA, ↓pe_rev, ↓pe_dget, pk_ok, pk_ite, ↓exs, ↓retV, ↓v_k, ↓v_gc, ↓v_v, ↓v_tup, ↓v_lst, ↓v_bin, ↓v_neg, ↓v_not, ↓v_and, ↓v_or, ↓v_cmp, ↓v_chain, ↓v_ife, ↓v_call, ↓v_calli, ↓v_b1, ↓v_b2, ↓v_isi, ↓v_ix, ↓v_sl, ↓v_lc, ↓v_app, ↓v_pop, ↓v_popA, ↓v_rev, ↓v_dget, ↓s_asg, ↓s_unp, ↓s_par, ↓s_setL, ↓s_ex, ↓s_iff, ↓s_for_, ↓s_whl, ↓s_ret, ↓s_pass, ↓s_brk, ↓s_cont, ↓s_bad, ↓evs, ↓evm, ↓evo, ↓evIt, ↓view, rd, getS, setS, there, ↓put_pl, plS_none, plS_d, plS_own, ↓putT, ↓putTs, ↓bindT, ↓bindTs, asInt, asBl, Val.toD, Val.slot, binD, cmpD, eqD, bi1, bi2, isiD, isiT, ixD, atI, ixN, slD, lock, unlock, items?, isOwn, isNon, b_is_span, e1, e2, hw, this]
    | true =>
      obtain ⟨i, rfl, _⟩ := within_int hw
      simp [and_m, or_m, ↓runF_is, ↓runG_is, ↓bk_ok, ↓bk_no, bk_ite, oo_some, oo_none, oo_ite, ff_rt, ff_nx, ff_ite, fg_rt, fg_nx, fg_ite, ↓peek_v, ↓pe_k, ↓pe_gc, ↓pe_tup, ↓pe_lst, ↓pe_bin, ↓pe_neg, ↓pe_not, ↓pe_and, ↓pe_or, ↓pe_cmp, ↓pe_chain, ↓pe_ife, ↓pe_call, ↓pe_calli, ↓pe_b1, ↓pe_b2, ↓pe_isi, ↓pe_ix, ↓pe_sl, ↓pe_lc, ↓pe_app, ↓pe_pop, ↓pe_popA, ↓pe_rev, ↓pe_dget, pk_ok, pk_ite, ↓exs, ↓retV, ↓v_k, ↓v_gc, ↓v_v, ↓v_tup, ↓v_lst, ↓v_bin, ↓v_neg, ↓v_not, ↓v_and, ↓v_or, ↓v_cmp, ↓v_chain, ↓v_ife, ↓v_call, ↓v_calli, ↓v_b1, ↓v_b2, ↓v_isi, ↓v_ix, ↓v_sl, ↓v_lc, ↓v_app, ↓v_pop, ↓v_popA, ↓v_rev, ↓v_dget, ↓s_asg, ↓s_unp, ↓s_par, ↓s_setL, ↓s_ex, ↓s_iff, ↓s_for_, ↓s_whl, ↓s_ret, ↓s_pass, ↓s_brk, ↓s_cont, ↓s_bad, ↓evs, ↓evm, ↓evo, ↓evIt, ↓view, rd, getS, setS, there, ↓put_pl, plS_none, plS_d, plS_own, ↓putT, ↓putTs, ↓bindT, ↓bindTs, asInt, asBl, Val.toD, Val.slot, binD, cmpD, eqD, bi1, bi2, isiD, isiT, ixD, atI, ixN, slD, lock, unlock, items?, isOwn, isNon, b_is_span, e1, e2, hw, spanB]
theorem f_gspan (k : Nat) (x : D) : (Gm W (k + 2)).f 29 [x] = .ok (.d (.bl (spanB x))) := by
  rw [u__law_good_span]
  have e1 : (Gm W (k + 1)).f 28 [x, .int 2] = _ := f_made (W := W) k x 2
  have e2 := fun y lo hi => f_int (W := W) k y lo hi
  cases hr : rowB x 2 with
  | false => rw [span_no hr]; rw [hr] at e1; simp [and_m, or_m, ↓runF_is, ↓runG_is, ↓bk_ok, ↓bk_no, bk_ite, oo_some, oo_none, oo_ite, ff_rt, ff_nx, ff_ite, fg_rt, fg_nx, fg_ite, ↓peek_v, ↓pe_k, ↓pe_gc, ↓pe_tup, ↓pe_lst, ↓pe_bin, ↓pe_neg, ↓pe_not, ↓pe_and, ↓pe_or, ↓pe_cmp, ↓pe_chain, ↓pe_ife, ↓pe_call, ↓pe_calli, ↓pe_b1, ↓pe_b2, ↓pe_isi, ↓pe_ix, ↓pe_sl, ↓pe_lc, ↓pe_app, ↓pe_pop, ↓pe_popA, ↓pe_rev, ↓pe_dget, pk_ok, pk_ite, ↓exs, ↓retV, ↓v_k, ↓v_gc, ↓v_v, ↓v_tup, ↓v_lst, ↓v_bin, ↓v_neg, ↓v_not, ↓v_and, ↓v_or, ↓v_cmp, ↓v_chain, ↓v_ife, ↓v_call, ↓v_calli, ↓v_b1, ↓v_b2, ↓v_isi, ↓v_ix, ↓v_sl, ↓v_lc, ↓v_app, ↓v_pop, ↓v_popA, ↓v_rev, ↓v_dget, ↓s_asg, ↓s_unp, ↓s_par, ↓s_setL, ↓s_ex, ↓s_iff, ↓s_for_, ↓s_whl, ↓s_ret, ↓s_pass, ↓s_brk, ↓s_cont, ↓s_bad, ↓evs, ↓evm, ↓evo, ↓evIt, ↓view, rd, getS, setS, there, ↓put_pl, plS_none, plS_d, plS_own, ↓putT, ↓putTs, ↓bindT, ↓bindTs, asInt, asBl, Val.toD, Val.slot, binD, cmpD, eqD, bi1, bi2, isiD, isiT, ixD, atI, ixN, slD, lock, unlock, items?, isOwn, isNon, b__law_good_span, e1]
  | true =>
    obtain ⟨a, b, rfl⟩ := row2 hr
    rw [hr] at e1
    cases hw : withinB a 1 3 with
    | false =>
      have : spanB (.tup [a, b]) = false := by cases a <;> first | rfl | (show (withinB _ 1 3 && _) = false; rw [hw]; rfl)
      simp [and_m, or_m, ↓runF_is, ↓runG_is, ↓bk_ok, ↓bk_no, bk_ite, oo_some, oo_none, oo_ite, ff_rt, ff_nx, ff_ite, fg_rt, fg_nx, fg_ite, ↓peek_v, ↓pe_k, ↓pe_gc, ↓pe_tup, ↓pe_lst, ↓pe_bin, ↓pe_neg, ↓pe_not, ↓pe_and, ↓pe_or, ↓pe_cmp, ↓pe_chain, ↓pe_ife, ↓pe_call, ↓pe_calli, ↓pe_b1, ↓pe_b2, ↓pe_isi, ↓pe_ix, ↓pe_sl, ↓pe_lc, ↓pe_app, ↓pe_pop, ↓pe_popA, ↓pe_rev, ↓pe_dget, pk_ok, pk_ite, ↓exs, ↓retV, ↓v_k, ↓v_gc, ↓v_v, ↓v_tup, ↓v_lst, ↓v_bin, ↓v_neg, ↓v_not, ↓v_and, ↓v_or, ↓v_cmp, ↓v_chain, ↓v_ife, ↓v_call, ↓v_calli, ↓v_b1, ↓v_b2, ↓v_isi, ↓v_ix, ↓v_sl, ↓v_lc, ↓v_app, ↓v_pop, ↓v_popA, ↓v_rev, ↓v_dget, ↓s_asg, ↓s_unp, ↓s_par, ↓s_setL, ↓s_ex, ↓s_iff, ↓s_for_, ↓s_whl, ↓s_ret, ↓s_pass, ↓s_brk, ↓s_cont, ↓s_bad, ↓evs, ↓evm, ↓evo, ↓evIt, ↓view, rd, getS, setS, there, ↓put_pl, plS_none, plS_d, plS_own, ↓putT, ↓putTs, ↓bindT, ↓bindTs, asInt, asBl, Val.toD, Val.slot, binD, cmpD, eqD, bi1, bi2, isiD, isiT, ixD, atI, ixN, slD, lock, unlock, items?, isOwn, isNon, b__law_good_span, e1, e2, hw, this]
    | true =>
      obtain ⟨i, rfl, _⟩ := within_int hw
      simp [and_m, or_m, ↓runF_is, ↓runG_is, ↓bk_ok, ↓bk_no, bk_ite, oo_some, oo_none, oo_ite, ff_rt, ff_nx, ff_ite, fg_rt, fg_nx, fg_ite, ↓peek_v, ↓pe_k, ↓pe_gc, ↓pe_tup, ↓pe_lst, ↓pe_bin, ↓pe_neg, ↓pe_not, ↓pe_and, ↓pe_or, ↓pe_cmp, ↓pe_chain, ↓pe_ife, ↓pe_call, ↓pe_calli, ↓pe_b1, ↓pe_b2, ↓pe_isi, ↓pe_ix, ↓pe_sl, ↓pe_lc, ↓pe_app, ↓pe_pop, ↓pe_popA, ↓pe_rev, ↓pe_dget, pk_ok, pk_ite, ↓exs, ↓retV, ↓v_k, ↓v_gc, ↓v_v, ↓v_tup, ↓v_lst, ↓v_bin, ↓v_neg, ↓v_not, ↓v_and, ↓v_or, ↓v_cmp, ↓v_chain, ↓v_ife, ↓v_call, ↓v_calli, ↓v_b1, ↓v_b2, ↓v_isi, ↓v_ix, ↓v_sl, ↓v_lc, ↓v_app, ↓v_pop, ↓v_popA, ↓v_rev, ↓v_dget, ↓s_asg, ↓s_unp, ↓s_par, ↓s_setL, ↓s_ex, ↓s_iff, ↓s_for_, ↓s_whl, ↓s_ret, ↓s_pass, ↓s_brk, ↓s_cont, ↓s_bad, ↓evs, ↓evm, ↓evo, ↓evIt, ↓view, rd, getS, setS, there, ↓put_pl, plS_none, plS_d, plS_own, ↓putT, ↓putTs, ↓bindT, ↓bindTs, asInt, asBl, Val.toD, Val.slot, binD, cmpD, eqD, bi1, bi2, isiD, isiT, ixD, atI, ixN, slD, lock, unlock, items?, isOwn, isNon, b__law_good_span, e1, e2, hw, spanB]
def houseB (x : D) : Bool := match x with
  | .tup [a, b, c] => withinB a 1 3 && (spanB b && spanB c)
  | _ => false
theorem house_no {x : D} (h : rowB x 3 = false) : houseB x = false := by
  unfold houseB
  split
  · simp [rowB] at h
  · rfl
theorem f_house (k : Nat) (x : D) : (Gm W (k + 3)).f 5 [x] = .ok (.d (.bl (houseB x))) := by
  rw [u_is_house]
  have e1 : (Gm W (k + 2)).f 2 [x, .int 3] = _ := f_row (W := W) (k + 1) x 3
  have e2 := fun y lo hi => f_within (W := W) (k + 1) y lo hi
  have e3 := fun y => f_span (W := W) k y
  cases hr : rowB x 3 with
  | false => rw [house_no hr]; rw [hr] at e1; simp [and_m, or_m, ↓runF_is, ↓runG_is, ↓bk_ok, ↓bk_no, bk_ite, oo_some, oo_none, oo_ite, ff_rt, ff_nx, ff_ite, fg_rt, fg_nx, fg_ite, ↓peek_v, ↓pe_k, ↓pe_gc, ↓pe_tup, ↓pe_lst, ↓pe_bin, ↓pe_neg, ↓pe_not, ↓pe_and, ↓pe_or, ↓pe_cmp, ↓pe_chain, ↓pe_ife, ↓pe_call, ↓pe_calli, ↓pe_b1, ↓pe_b2, ↓pe_isi, ↓pe_ix, ↓pe_sl, ↓pe_lc, ↓pe_app, ↓pe_pop, ↓pe_popA, ↓pe_rev, ↓pe_dget, pk_ok, pk_ite, ↓exs, ↓retV, ↓v_k, ↓v_gc, ↓v_v, ↓v_tup, ↓v_lst, ↓v_bin, ↓v_neg, ↓v_not, ↓v_and, ↓v_or, ↓v_cmp, ↓v_chain, ↓v_ife, ↓v_call, ↓v_calli, ↓v_b1, ↓v_b2, ↓v_isi, ↓v_ix, ↓v_sl, ↓v_lc, ↓v_app, ↓v_pop, ↓v_popA, ↓v_rev, ↓v_dget, ↓s_asg, ↓s_unp, ↓s_par, ↓s_setL, ↓s_ex, ↓s_iff, ↓s_for_, ↓s_whl, ↓s_ret, ↓s_pass, ↓s_brk, ↓s_cont, ↓s_bad, ↓evs, ↓evm, ↓evo, ↓evIt, ↓view, rd, getS, setS, there, ↓put_pl, plS_none, plS_d, plS_own, ↓putT, ↓putTs, ↓bindT, ↓bindTs, asInt, asBl, Val.toD, Val.slot, binD, cmpD, eqD, bi1, bi2, isiD, isiT, ixD, atI, ixN, slD, lock, unlock, items?, isOwn, isNon, b_is_house, e1]
  | true =>
    obtain ⟨a, b, c, rfl⟩ := row3 hr
    rw [hr] at e1
    simp [and_m, or_m, ↓runF_is, ↓runG_is, ↓bk_ok, ↓bk_no, bk_ite, oo_some, oo_none, oo_ite, ff_rt, ff_nx, ff_ite, fg_rt, fg_nx, fg_ite, ↓peek_v, ↓pe_k, ↓pe_gc, ↓pe_tup, ↓pe_lst, ↓pe_bin, ↓pe_neg, ↓pe_not, ↓pe_and, ↓pe_or, ↓pe_cmp, ↓pe_chain, ↓pe_ife, ↓pe_call, ↓pe_calli, ↓pe_b1, ↓pe_b2, ↓pe_isi, ↓pe_ix, ↓pe_sl, ↓pe_lc, ↓pe_app, ↓pe_pop, ↓pe_popA, ↓pe_rev, ↓pe_dget, pk_ok, pk_ite, ↓exs, ↓retV, ↓v_k, ↓v_gc, ↓v_v, ↓v_tup, ↓v_lst, ↓v_bin, ↓v_neg, ↓v_not, ↓v_and, ↓v_or, ↓v_cmp, ↓v_chain, ↓v_ife, ↓v_call, ↓v_calli, ↓v_b1, ↓v_b2, ↓v_isi, ↓v_ix, ↓v_sl, ↓v_lc, ↓v_app, ↓v_pop, ↓v_popA, ↓v_rev, ↓v_dget, ↓s_asg, ↓s_unp, ↓s_par, ↓s_setL, ↓s_ex, ↓s_iff, ↓s_for_, ↓s_whl, ↓s_ret, ↓s_pass, ↓s_brk, ↓s_cont, ↓s_bad, ↓evs, ↓evm, ↓evo, ↓evIt, ↓view, rd, getS, setS, there, ↓put_pl, plS_none, plS_d, plS_own, ↓putT, ↓putTs, ↓bindT, ↓bindTs, asInt, asBl, Val.toD, Val.slot, binD, cmpD, eqD, bi1, bi2, isiD, isiT, ixD, atI, ixN, slD, lock, unlock, items?, isOwn, isNon, b_is_house, houseB, e1, e2, e3]
theorem f_ghouse (k : Nat) (x : D) : (Gm W (k + 3)).f 30 [x] = .ok (.d (.bl (houseB x))) := by
  rw [u__law_good_house]
  have e1 : (Gm W (k + 2)).f 28 [x, .int 3] = _ := f_made (W := W) (k + 1) x 3
  have e2 := fun y lo hi => f_int (W := W) (k + 1) y lo hi
  have e3 := fun y => f_gspan (W := W) k y
  cases hr : rowB x 3 with
  | false => rw [house_no hr]; rw [hr] at e1; simp [and_m, or_m, ↓runF_is, ↓runG_is, ↓bk_ok, ↓bk_no, bk_ite, oo_some, oo_none, oo_ite, ff_rt, ff_nx, ff_ite, fg_rt, fg_nx, fg_ite, ↓peek_v, ↓pe_k, ↓pe_gc, ↓pe_tup, ↓pe_lst, ↓pe_bin, ↓pe_neg, ↓pe_not, ↓pe_and, ↓pe_or, ↓pe_cmp, ↓pe_chain, ↓pe_ife, ↓pe_call, ↓pe_calli, ↓pe_b1, ↓pe_b2, ↓pe_isi, ↓pe_ix, ↓pe_sl, ↓pe_lc, ↓pe_app, ↓pe_pop, ↓pe_popA, ↓pe_rev, ↓pe_dget, pk_ok, pk_ite, ↓exs, ↓retV, ↓v_k, ↓v_gc, ↓v_v, ↓v_tup, ↓v_lst, ↓v_bin, ↓v_neg, ↓v_not, ↓v_and, ↓v_or, ↓v_cmp, ↓v_chain, ↓v_ife, ↓v_call, ↓v_calli, ↓v_b1, ↓v_b2, ↓v_isi, ↓v_ix, ↓v_sl, ↓v_lc, ↓v_app, ↓v_pop, ↓v_popA, ↓v_rev, ↓v_dget, ↓s_asg, ↓s_unp, ↓s_par, ↓s_setL, ↓s_ex, ↓s_iff, ↓s_for_, ↓s_whl, ↓s_ret, ↓s_pass, ↓s_brk, ↓s_cont, ↓s_bad, ↓evs, ↓evm, ↓evo, ↓evIt, ↓view, rd, getS, setS, there, ↓put_pl, plS_none, plS_d, plS_own, ↓putT, ↓putTs, ↓bindT, ↓bindTs, asInt, asBl, Val.toD, Val.slot, binD, cmpD, eqD, bi1, bi2, isiD, isiT, ixD, atI, ixN, slD, lock, unlock, items?, isOwn, isNon, b__law_good_house, e1]
  | true =>
    obtain ⟨a, b, c, rfl⟩ := row3 hr
    rw [hr] at e1
    simp [and_m, or_m, ↓runF_is, ↓runG_is, ↓bk_ok, ↓bk_no, bk_ite, oo_some, oo_none, oo_ite, ff_rt, ff_nx, ff_ite, fg_rt, fg_nx, fg_ite, ↓peek_v, ↓pe_k, ↓pe_gc, ↓pe_tup, ↓pe_lst, ↓pe_bin, ↓pe_neg, ↓pe_not, ↓pe_and, ↓pe_or, ↓pe_cmp, ↓pe_chain, ↓pe_ife, ↓pe_call, ↓pe_calli, ↓pe_b1, ↓pe_b2, ↓pe_isi, ↓pe_ix, ↓pe_sl, ↓pe_lc, ↓pe_app, ↓pe_pop, ↓pe_popA, ↓pe_rev, ↓pe_dget, pk_ok, pk_ite, ↓exs, ↓retV, ↓v_k, ↓v_gc, ↓v_v, ↓v_tup, ↓v_lst, ↓v_bin, ↓v_neg, ↓v_not, ↓v_and, ↓v_or, ↓v_cmp, ↓v_chain, ↓v_ife, ↓v_call, ↓v_calli, ↓v_b1, ↓v_b2, ↓v_isi, ↓v_ix, ↓v_sl, ↓v_lc, ↓v_app, ↓v_pop, ↓v_popA, ↓v_rev, ↓v_dget, ↓s_asg, ↓s_unp, ↓s_par, ↓s_setL, ↓s_ex, ↓s_iff, ↓s_for_, ↓s_whl, ↓s_ret, ↓s_pass, ↓s_brk, ↓s_cont, ↓s_bad, ↓evs, ↓evm, ↓evo, ↓evIt, ↓view, rd, getS, setS, there, ↓put_pl, plS_none, plS_d, plS_own, ↓putT, ↓putTs, ↓bindT, ↓bindTs, asInt, asBl, Val.toD, Val.slot, binD, cmpD, eqD, bi1, bi2, isiD, isiT, ixD, atI, ixN, slD, lock, unlock, items?, isOwn, isNon, b__law_good_house, houseB, e1, e2, e3]
def strIn (x : D) (ws : List Str) : Bool := match x with
  | .str s => ws.any fun w => w == s
  | _ => false
def afters : List Str := ["last", "next", "same"]
def lates : List Str := ["first", "stay"]
def ruleB (x : D) : Bool := match x with
  | .tup [a, b, c] => withinB a 0 2 && (strIn b afters && strIn c lates)
  | _ => false
theorem rule_no {x : D} (h : rowB x 3 = false) : ruleB x = false := by
  unfold ruleB
  split
  · simp [rowB] at h
  · rfl
theorem f_word (k : Nat) (x : D) (ws : List Str) : (Gm W (k + 1)).f 3 [x, .tup (ws.map D.str)] = .ok (.d (.bl (strIn x ws))) := by
  rw [u_is_word]
  cases x <;> simp [and_m, or_m, ↓runF_is, ↓runG_is, ↓bk_ok, ↓bk_no, bk_ite, oo_some, oo_none, oo_ite, ff_rt, ff_nx, ff_ite, fg_rt, fg_nx, fg_ite, ↓peek_v, ↓pe_k, ↓pe_gc, ↓pe_tup, ↓pe_lst, ↓pe_bin, ↓pe_neg, ↓pe_not, ↓pe_and, ↓pe_or, ↓pe_cmp, ↓pe_chain, ↓pe_ife, ↓pe_call, ↓pe_calli, ↓pe_b1, ↓pe_b2, ↓pe_isi, ↓pe_ix, ↓pe_sl, ↓pe_lc, ↓pe_app, ↓pe_pop, ↓pe_popA, ↓pe_rev, ↓pe_dget, pk_ok, pk_ite, ↓exs, ↓retV, ↓v_k, ↓v_gc, ↓v_v, ↓v_tup, ↓v_lst, ↓v_bin, ↓v_neg, ↓v_not, ↓v_and, ↓v_or, ↓v_cmp, ↓v_chain, ↓v_ife, ↓v_call, ↓v_calli, ↓v_b1, ↓v_b2, ↓v_isi, ↓v_ix, ↓v_sl, ↓v_lc, ↓v_app, ↓v_pop, ↓v_popA, ↓v_rev, ↓v_dget, ↓s_asg, ↓s_unp, ↓s_par, ↓s_setL, ↓s_ex, ↓s_iff, ↓s_for_, ↓s_whl, ↓s_ret, ↓s_pass, ↓s_brk, ↓s_cont, ↓s_bad, ↓evs, ↓evm, ↓evo, ↓evIt, ↓view, rd, getS, setS, there, ↓put_pl, plS_none, plS_d, plS_own, ↓putT, ↓putTs, ↓bindT, ↓bindTs, asInt, asBl, Val.toD, Val.slot, binD, cmpD, eqD, bi1, bi2, isiD, isiT, ixD, atI, ixN, slD, lock, unlock, items?, isOwn, isNon, b_is_word, strIn, inD, flat]
  rw [Bool.eq_iff_iff]
  simp [D.eqv]
theorem f_rule (k : Nat) (x : D) : (Gm W (k + 2)).f 6 [x] = .ok (.d (.bl (ruleB x))) := by
  rw [u_is_rule]
  have e1 : (Gm W (k + 1)).f 2 [x, .int 3] = _ := f_row (W := W) k x 3
  have e2 := fun y lo hi => f_within (W := W) k y lo hi
  have e3 : ∀ y, (Gm W (k + 1)).f 3 [y, .tup [.str "last", .str "next", .str "same"]] = _ := fun y => f_word (W := W) k y afters
  have e4 : ∀ y, (Gm W (k + 1)).f 3 [y, .tup [.str "first", .str "stay"]] = _ := fun y => f_word (W := W) k y lates
  cases hr : rowB x 3 with
  | false => rw [rule_no hr]; rw [hr] at e1; simp [and_m, or_m, ↓runF_is, ↓runG_is, ↓bk_ok, ↓bk_no, bk_ite, oo_some, oo_none, oo_ite, ff_rt, ff_nx, ff_ite, fg_rt, fg_nx, fg_ite, ↓peek_v, ↓pe_k, ↓pe_gc, ↓pe_tup, ↓pe_lst, ↓pe_bin, ↓pe_neg, ↓pe_not, ↓pe_and, ↓pe_or, ↓pe_cmp, ↓pe_chain, ↓pe_ife, ↓pe_call, ↓pe_calli, ↓pe_b1, ↓pe_b2, ↓pe_isi, ↓pe_ix, ↓pe_sl, ↓pe_lc, ↓pe_app, ↓pe_pop, ↓pe_popA, ↓pe_rev, ↓pe_dget, pk_ok, pk_ite, ↓exs, ↓retV, ↓v_k, ↓v_gc, ↓v_v, ↓v_tup, ↓v_lst, ↓v_bin, ↓v_neg, ↓v_not, ↓v_and, ↓v_or, ↓v_cmp, ↓v_chain, ↓v_ife, ↓v_call, ↓v_calli, ↓v_b1, ↓v_b2, ↓v_isi, ↓v_ix, ↓v_sl, ↓v_lc, ↓v_app, ↓v_pop, ↓v_popA, ↓v_rev, ↓v_dget, ↓s_asg, ↓s_unp, ↓s_par, ↓s_setL, ↓s_ex, ↓s_iff, ↓s_for_, ↓s_whl, ↓s_ret, ↓s_pass, ↓s_brk, ↓s_cont, ↓s_bad, ↓evs, ↓evm, ↓evo, ↓evIt, ↓view, rd, getS, setS, there, ↓put_pl, plS_none, plS_d, plS_own, ↓putT, ↓putTs, ↓bindT, ↓bindTs, asInt, asBl, Val.toD, Val.slot, binD, cmpD, eqD, bi1, bi2, isiD, isiT, ixD, atI, ixN, slD, lock, unlock, items?, isOwn, isNon, b_is_rule, e1]
  | true =>
    obtain ⟨a, b, c, rfl⟩ := row3 hr
    rw [hr] at e1
    simp [and_m, or_m, ↓runF_is, ↓runG_is, ↓bk_ok, ↓bk_no, bk_ite, oo_some, oo_none, oo_ite, ff_rt, ff_nx, ff_ite, fg_rt, fg_nx, fg_ite, ↓peek_v, ↓pe_k, ↓pe_gc, ↓pe_tup, ↓pe_lst, ↓pe_bin, ↓pe_neg, ↓pe_not, ↓pe_and, ↓pe_or, ↓pe_cmp, ↓pe_chain, ↓pe_ife, ↓pe_call, ↓pe_calli, ↓pe_b1, ↓pe_b2, ↓pe_isi, ↓pe_ix, ↓pe_sl, ↓pe_lc, ↓pe_app, ↓pe_pop, ↓pe_popA, ↓pe_rev, ↓pe_dget, pk_ok, pk_ite, ↓exs, ↓retV, ↓v_k, ↓v_gc, ↓v_v, ↓v_tup, ↓v_lst, ↓v_bin, ↓v_neg, ↓v_not, ↓v_and, ↓v_or, ↓v_cmp, ↓v_chain, ↓v_ife, ↓v_call, ↓v_calli, ↓v_b1, ↓v_b2, ↓v_isi, ↓v_ix, ↓v_sl, ↓v_lc, ↓v_app, ↓v_pop, ↓v_popA, ↓v_rev, ↓v_dget, ↓s_asg, ↓s_unp, ↓s_par, ↓s_setL, ↓s_ex, ↓s_iff, ↓s_for_, ↓s_whl, ↓s_ret, ↓s_pass, ↓s_brk, ↓s_cont, ↓s_bad, ↓evs, ↓evm, ↓evo, ↓evIt, ↓view, rd, getS, setS, there, ↓put_pl, plS_none, plS_d, plS_own, ↓putT, ↓putTs, ↓bindT, ↓bindTs, asInt, asBl, Val.toD, Val.slot, binD, cmpD, eqD, bi1, bi2, isiD, isiT, ixD, atI, ixN, slD, lock, unlock, items?, isOwn, isNon, b_is_rule, ruleB, e1, e2, e3, e4]
theorem deps_strs : ∀ ws : List Str, D.deps (ws.map D.str) = 0
  | [] => rfl
  | w :: r => by simp only [List.map_cons, D.deps, D.dep]; rw [deps_strs r]; rfl
theorem inD_str (x : Str) (ws : List Str) : inD (.str x) (.lst (ws.map D.str)) = some (ws.any fun w => w == x) := by
  unfold inD
  dsimp only
  rw [deps_strs, if_pos ⟨by simp only [D.dep]; omega, by omega⟩, List.any_map]
  congr 2
theorem f_grule (k : Nat) (x : D) : (Gm W (k + 2)).f 31 [x] = .ok (.d (.bl (ruleB x))) := by
  rw [u__law_good_rule]
  have e1 : (Gm W (k + 1)).f 28 [x, .int 3] = _ := f_made (W := W) k x 3
  have e2 := fun y lo hi => f_int (W := W) k y lo hi
  cases hr : rowB x 3 with
  | false => rw [rule_no hr]; rw [hr] at e1; simp [and_m, or_m, ↓runF_is, ↓runG_is, ↓bk_ok, ↓bk_no, bk_ite, oo_some, oo_none, oo_ite, ff_rt, ff_nx, ff_ite, fg_rt, fg_nx, fg_ite, ↓peek_v, ↓pe_k, ↓pe_gc, ↓pe_tup, ↓pe_lst, ↓pe_bin, ↓pe_neg, ↓pe_not, ↓pe_and, ↓pe_or, ↓pe_cmp, ↓pe_chain, ↓pe_ife, ↓pe_call, ↓pe_calli, ↓pe_b1, ↓pe_b2, ↓pe_isi, ↓pe_ix, ↓pe_sl, ↓pe_lc, ↓pe_app, ↓pe_pop, ↓pe_popA, ↓pe_rev, ↓pe_dget, pk_ok, pk_ite, ↓exs, ↓retV, ↓v_k, ↓v_gc, ↓v_v, ↓v_tup, ↓v_lst, ↓v_bin, ↓v_neg, ↓v_not, ↓v_and, ↓v_or, ↓v_cmp, ↓v_chain, ↓v_ife, ↓v_call, ↓v_calli, ↓v_b1, ↓v_b2, ↓v_isi, ↓v_ix, ↓v_sl, ↓v_lc, ↓v_app, ↓v_pop, ↓v_popA, ↓v_rev, ↓v_dget, ↓s_asg, ↓s_unp, ↓s_par, ↓s_setL, ↓s_ex, ↓s_iff, ↓s_for_, ↓s_whl, ↓s_ret, ↓s_pass, ↓s_brk, ↓s_cont, ↓s_bad, ↓evs, ↓evm, ↓evo, ↓evIt, ↓view, rd, getS, setS, there, ↓put_pl, plS_none, plS_d, plS_own, ↓putT, ↓putTs, ↓bindT, ↓bindTs, asInt, asBl, Val.toD, Val.slot, binD, cmpD, eqD, bi1, bi2, isiD, isiT, ixD, atI, ixN, slD, lock, unlock, items?, isOwn, isNon, b__law_good_rule, e1]
  | true =>
    obtain ⟨a, b, c, rfl⟩ := row3 hr
    rw [hr] at e1
    cases hw : withinB a 0 2 with
    | false => simp [and_m, or_m, ↓runF_is, ↓runG_is, ↓bk_ok, ↓bk_no, bk_ite, oo_some, oo_none, oo_ite, ff_rt, ff_nx, ff_ite, fg_rt, fg_nx, fg_ite, ↓peek_v, ↓pe_k, ↓pe_gc, ↓pe_tup, ↓pe_lst, ↓pe_bin, ↓pe_neg, ↓pe_not, ↓pe_and, ↓pe_or, ↓pe_cmp, ↓pe_chain, ↓pe_ife, ↓pe_call, ↓pe_calli, ↓pe_b1, ↓pe_b2, ↓pe_isi, ↓pe_ix, ↓pe_sl, ↓pe_lc, ↓pe_app, ↓pe_pop, ↓pe_popA, ↓pe_rev, ↓pe_dget, pk_ok, pk_ite, ↓exs, ↓retV, ↓v_k, ↓v_gc, ↓v_v, ↓v_tup, ↓v_lst, ↓v_bin, ↓v_neg, ↓v_not, ↓v_and, ↓v_or, ↓v_cmp, ↓v_chain, ↓v_ife, ↓v_call, ↓v_calli, ↓v_b1, ↓v_b2, ↓v_isi, ↓v_ix, ↓v_sl, ↓v_lc, ↓v_app, ↓v_pop, ↓v_popA, ↓v_rev, ↓v_dget, ↓s_asg, ↓s_unp, ↓s_par, ↓s_setL, ↓s_ex, ↓s_iff, ↓s_for_, ↓s_whl, ↓s_ret, ↓s_pass, ↓s_brk, ↓s_cont, ↓s_bad, ↓evs, ↓evm, ↓evo, ↓evIt, ↓view, rd, getS, setS, there, ↓put_pl, plS_none, plS_d, plS_own, ↓putT, ↓putTs, ↓bindT, ↓bindTs, asInt, asBl, Val.toD, Val.slot, binD, cmpD, eqD, bi1, bi2, isiD, isiT, ixD, atI, ixN, slD, lock, unlock, items?, isOwn, isNon, b__law_good_rule, ruleB, e1, e2, hw]
    | true =>
      cases b <;> first | (simp [and_m, or_m, ↓runF_is, ↓runG_is, ↓bk_ok, ↓bk_no, bk_ite, oo_some, oo_none, oo_ite, ff_rt, ff_nx, ff_ite, fg_rt, fg_nx, fg_ite, ↓peek_v, ↓pe_k, ↓pe_gc, ↓pe_tup, ↓pe_lst, ↓pe_bin, ↓pe_neg, ↓pe_not, ↓pe_and, ↓pe_or, ↓pe_cmp, ↓pe_chain, ↓pe_ife, ↓pe_call, ↓pe_calli, ↓pe_b1, ↓pe_b2, ↓pe_isi, ↓pe_ix, ↓pe_sl, ↓pe_lc, ↓pe_app, ↓pe_pop, ↓pe_popA, ↓pe_rev, ↓pe_dget, pk_ok, pk_ite, ↓exs, ↓retV, ↓v_k, ↓v_gc, ↓v_v, ↓v_tup, ↓v_lst, ↓v_bin, ↓v_neg, ↓v_not, ↓v_and, ↓v_or, ↓v_cmp, ↓v_chain, ↓v_ife, ↓v_call, ↓v_calli, ↓v_b1, ↓v_b2, ↓v_isi, ↓v_ix, ↓v_sl, ↓v_lc, ↓v_app, ↓v_pop, ↓v_popA, ↓v_rev, ↓v_dget, ↓s_asg, ↓s_unp, ↓s_par, ↓s_setL, ↓s_ex, ↓s_iff, ↓s_for_, ↓s_whl, ↓s_ret, ↓s_pass, ↓s_brk, ↓s_cont, ↓s_bad, ↓evs, ↓evm, ↓evo, ↓evIt, ↓view, rd, getS, setS, there, ↓put_pl, plS_none, plS_d, plS_own, ↓putT, ↓putTs, ↓bindT, ↓bindTs, asInt, asBl, Val.toD, Val.slot, binD, cmpD, eqD, bi1, bi2, isiD, isiT, ixD, atI, ixN, slD, lock, unlock, items?, isOwn, isNon, b__law_good_rule, ruleB, e1, e2, hw, strIn]; done) | skip
      cases c <;> first | (simp [and_m, or_m, ↓runF_is, ↓runG_is, ↓bk_ok, ↓bk_no, bk_ite, oo_some, oo_none, oo_ite, ff_rt, ff_nx, ff_ite, fg_rt, fg_nx, fg_ite, ↓peek_v, ↓pe_k, ↓pe_gc, ↓pe_tup, ↓pe_lst, ↓pe_bin, ↓pe_neg, ↓pe_not, ↓pe_and, ↓pe_or, ↓pe_cmp, ↓pe_chain, ↓pe_ife, ↓pe_call, ↓pe_calli, ↓pe_b1, ↓pe_b2, ↓pe_isi, ↓pe_ix, ↓pe_sl, ↓pe_lc, ↓pe_app, ↓pe_pop, ↓pe_popA, ↓pe_rev, ↓pe_dget, pk_ok, pk_ite, ↓exs, ↓retV, ↓v_k, ↓v_gc, ↓v_v, ↓v_tup, ↓v_lst, ↓v_bin, ↓v_neg, ↓v_not, ↓v_and, ↓v_or, ↓v_cmp, ↓v_chain, ↓v_ife, ↓v_call, ↓v_calli, ↓v_b1, ↓v_b2, ↓v_isi, ↓v_ix, ↓v_sl, ↓v_lc, ↓v_app, ↓v_pop, ↓v_popA, ↓v_rev, ↓v_dget, ↓s_asg, ↓s_unp, ↓s_par, ↓s_setL, ↓s_ex, ↓s_iff, ↓s_for_, ↓s_whl, ↓s_ret, ↓s_pass, ↓s_brk, ↓s_cont, ↓s_bad, ↓evs, ↓evm, ↓evo, ↓evIt, ↓view, rd, getS, setS, there, ↓put_pl, plS_none, plS_d, plS_own, ↓putT, ↓putTs, ↓bindT, ↓bindTs, asInt, asBl, Val.toD, Val.slot, binD, cmpD, eqD, bi1, bi2, isiD, isiT, ixD, atI, ixN, slD, lock, unlock, items?, isOwn, isNon, b__law_good_rule, ruleB, e1, e2, hw, strIn]; done) | skip
      rename_i x y
      have e5 : inD (.str x) (.lst [.str "same", .str "next", .str "last"]) = _ := inD_str x ["same", "next", "last"]
      have e6 : inD (.str y) (.lst [.str "stay", .str "first"]) = _ := inD_str y ["stay", "first"]
      simp only [List.any_cons, List.any_nil, Bool.or_false] at e5 e6
      simp only [ruleB, hw, strIn, afters, lates, List.any_cons, List.any_nil, Bool.or_false, Bool.true_and]
      have n1 : ∀ a b c : Bool, (c || (b || a)) = (a || (b || c)) := by decide
      have n2 : ∀ a b : Bool, (b || a) = (a || b) := by decide
      rw [n1, n2 (_ == y)]
      simp [and_m, or_m, ↓runF_is, ↓runG_is, ↓bk_ok, ↓bk_no, bk_ite, oo_some, oo_none, oo_ite, ff_rt, ff_nx, ff_ite, fg_rt, fg_nx, fg_ite, ↓peek_v, ↓pe_k, ↓pe_gc, ↓pe_tup, ↓pe_lst, ↓pe_bin, ↓pe_neg, ↓pe_not, ↓pe_and, ↓pe_or, ↓pe_cmp, ↓pe_chain, ↓pe_ife, ↓pe_call, ↓pe_calli, ↓pe_b1, ↓pe_b2, ↓pe_isi, ↓pe_ix, ↓pe_sl, ↓pe_lc, ↓pe_app, ↓pe_pop, ↓pe_popA, ↓pe_rev, ↓pe_dget, pk_ok, pk_ite, ↓exs, ↓retV, ↓v_k, ↓v_gc, ↓v_v, ↓v_tup, ↓v_lst, ↓v_bin, ↓v_neg, ↓v_not, ↓v_and, ↓v_or, ↓v_cmp, ↓v_chain, ↓v_ife, ↓v_call, ↓v_calli, ↓v_b1, ↓v_b2, ↓v_isi, ↓v_ix, ↓v_sl, ↓v_lc, ↓v_app, ↓v_pop, ↓v_popA, ↓v_rev, ↓v_dget, ↓s_asg, ↓s_unp, ↓s_par, ↓s_setL, ↓s_ex, ↓s_iff, ↓s_for_, ↓s_whl, ↓s_ret, ↓s_pass, ↓s_brk, ↓s_cont, ↓s_bad, ↓evs, ↓evm, ↓evo, ↓evIt, ↓view, rd, getS, setS, there, ↓put_pl, plS_none, plS_d, plS_own, ↓putT, ↓putTs, ↓bindT, ↓bindTs, asInt, asBl, Val.toD, Val.slot, binD, cmpD, eqD, bi1, bi2, isiD, isiT, ixD, atI, ixN, slD, lock, unlock, items?, isOwn, isNon, b__law_good_rule, e1, e2, hw, e5, e6]
      have bd : ∀ a b : Str, (a == b) = decide (a = b) := fun a b => by rw [Bool.eq_iff_iff]; simp
      simp [bd]
def planB (x : D) : Bool := match x with
  | .tup [a, b] => houseB a && ruleB b
  | _ => false
theorem plan_no {x : D} (h : rowB x 2 = false) : planB x = false := by
  unfold planB
  split
  · simp [rowB] at h
  · rfl
theorem f_plan (k : Nat) (x : D) : (Gm W (k + 4)).f 7 [x] = .ok (.d (.bl (planB x))) := by
  rw [u_is_plan]
  have e1 : (Gm W (k + 3)).f 2 [x, .int 2] = _ := f_row (W := W) (k + 2) x 2
  have e2 := fun y => f_house (W := W) k y
  have e3 := fun y => f_rule (W := W) (k + 1) y
  cases hr : rowB x 2 with
  | false => rw [plan_no hr]; rw [hr] at e1; simp [and_m, or_m, ↓runF_is, ↓runG_is, ↓bk_ok, ↓bk_no, bk_ite, oo_some, oo_none, oo_ite, ff_rt, ff_nx, ff_ite, fg_rt, fg_nx, fg_ite, ↓peek_v, ↓pe_k, ↓pe_gc, ↓pe_tup, ↓pe_lst, ↓pe_bin, ↓pe_neg, ↓pe_not, ↓pe_and, ↓pe_or, ↓pe_cmp, ↓pe_chain, ↓pe_ife, ↓pe_call, ↓pe_calli, ↓pe_b1, ↓pe_b2, ↓pe_isi, ↓pe_ix, ↓pe_sl, ↓pe_lc, ↓pe_app, ↓pe_pop, ↓pe_popA, ↓pe_rev, ↓pe_dget, pk_ok, pk_ite, ↓exs, ↓retV, ↓v_k, ↓v_gc, ↓v_v, ↓v_tup, ↓v_lst, ↓v_bin, ↓v_neg, ↓v_not, ↓v_and, ↓v_or, ↓v_cmp, ↓v_chain, ↓v_ife, ↓v_call, ↓v_calli, ↓v_b1, ↓v_b2, ↓v_isi, ↓v_ix, ↓v_sl, ↓v_lc, ↓v_app, ↓v_pop, ↓v_popA, ↓v_rev, ↓v_dget, ↓s_asg, ↓s_unp, ↓s_par, ↓s_setL, ↓s_ex, ↓s_iff, ↓s_for_, ↓s_whl, ↓s_ret, ↓s_pass, ↓s_brk, ↓s_cont, ↓s_bad, ↓evs, ↓evm, ↓evo, ↓evIt, ↓view, rd, getS, setS, there, ↓put_pl, plS_none, plS_d, plS_own, ↓putT, ↓putTs, ↓bindT, ↓bindTs, asInt, asBl, Val.toD, Val.slot, binD, cmpD, eqD, bi1, bi2, isiD, isiT, ixD, atI, ixN, slD, lock, unlock, items?, isOwn, isNon, b_is_plan, e1]
  | true =>
    obtain ⟨a, b, rfl⟩ := row2 hr
    rw [hr] at e1
    simp [and_m, or_m, ↓runF_is, ↓runG_is, ↓bk_ok, ↓bk_no, bk_ite, oo_some, oo_none, oo_ite, ff_rt, ff_nx, ff_ite, fg_rt, fg_nx, fg_ite, ↓peek_v, ↓pe_k, ↓pe_gc, ↓pe_tup, ↓pe_lst, ↓pe_bin, ↓pe_neg, ↓pe_not, ↓pe_and, ↓pe_or, ↓pe_cmp, ↓pe_chain, ↓pe_ife, ↓pe_call, ↓pe_calli, ↓pe_b1, ↓pe_b2, ↓pe_isi, ↓pe_ix, ↓pe_sl, ↓pe_lc, ↓pe_app, ↓pe_pop, ↓pe_popA, ↓pe_rev, ↓pe_dget, pk_ok, pk_ite, ↓exs, ↓retV, ↓v_k, ↓v_gc, ↓v_v, ↓v_tup, ↓v_lst, ↓v_bin, ↓v_neg, ↓v_not, ↓v_and, ↓v_or, ↓v_cmp, ↓v_chain, ↓v_ife, ↓v_call, ↓v_calli, ↓v_b1, ↓v_b2, ↓v_isi, ↓v_ix, ↓v_sl, ↓v_lc, ↓v_app, ↓v_pop, ↓v_popA, ↓v_rev, ↓v_dget, ↓s_asg, ↓s_unp, ↓s_par, ↓s_setL, ↓s_ex, ↓s_iff, ↓s_for_, ↓s_whl, ↓s_ret, ↓s_pass, ↓s_brk, ↓s_cont, ↓s_bad, ↓evs, ↓evm, ↓evo, ↓evIt, ↓view, rd, getS, setS, there, ↓put_pl, plS_none, plS_d, plS_own, ↓putT, ↓putTs, ↓bindT, ↓bindTs, asInt, asBl, Val.toD, Val.slot, binD, cmpD, eqD, bi1, bi2, isiD, isiT, ixD, atI, ixN, slD, lock, unlock, items?, isOwn, isNon, b_is_plan, planB, e1, e2, e3]
theorem f_gplan (k : Nat) (x : D) : (Gm W (k + 4)).f 32 [x] = .ok (.d (.bl (planB x))) := by
  rw [u__law_good_plan]
  have e1 : (Gm W (k + 3)).f 28 [x, .int 2] = _ := f_made (W := W) (k + 2) x 2
  have e2 := fun y => f_ghouse (W := W) k y
  have e3 := fun y => f_grule (W := W) (k + 1) y
  cases hr : rowB x 2 with
  | false => rw [plan_no hr]; rw [hr] at e1; simp [and_m, or_m, ↓runF_is, ↓runG_is, ↓bk_ok, ↓bk_no, bk_ite, oo_some, oo_none, oo_ite, ff_rt, ff_nx, ff_ite, fg_rt, fg_nx, fg_ite, ↓peek_v, ↓pe_k, ↓pe_gc, ↓pe_tup, ↓pe_lst, ↓pe_bin, ↓pe_neg, ↓pe_not, ↓pe_and, ↓pe_or, ↓pe_cmp, ↓pe_chain, ↓pe_ife, ↓pe_call, ↓pe_calli, ↓pe_b1, ↓pe_b2, ↓pe_isi, ↓pe_ix, ↓pe_sl, ↓pe_lc, ↓pe_app, ↓pe_pop, ↓pe_popA, ↓pe_rev, ↓pe_dget, pk_ok, pk_ite, ↓exs, ↓retV, ↓v_k, ↓v_gc, ↓v_v, ↓v_tup, ↓v_lst, ↓v_bin, ↓v_neg, ↓v_not, ↓v_and, ↓v_or, ↓v_cmp, ↓v_chain, ↓v_ife, ↓v_call, ↓v_calli, ↓v_b1, ↓v_b2, ↓v_isi, ↓v_ix, ↓v_sl, ↓v_lc, ↓v_app, ↓v_pop, ↓v_popA, ↓v_rev, ↓v_dget, ↓s_asg, ↓s_unp, ↓s_par, ↓s_setL, ↓s_ex, ↓s_iff, ↓s_for_, ↓s_whl, ↓s_ret, ↓s_pass, ↓s_brk, ↓s_cont, ↓s_bad, ↓evs, ↓evm, ↓evo, ↓evIt, ↓view, rd, getS, setS, there, ↓put_pl, plS_none, plS_d, plS_own, ↓putT, ↓putTs, ↓bindT, ↓bindTs, asInt, asBl, Val.toD, Val.slot, binD, cmpD, eqD, bi1, bi2, isiD, isiT, ixD, atI, ixN, slD, lock, unlock, items?, isOwn, isNon, b__law_good_plan, e1]
  | true =>
    obtain ⟨a, b, rfl⟩ := row2 hr
    rw [hr] at e1
    simp [and_m, or_m, ↓runF_is, ↓runG_is, ↓bk_ok, ↓bk_no, bk_ite, oo_some, oo_none, oo_ite, ff_rt, ff_nx, ff_ite, fg_rt, fg_nx, fg_ite, ↓peek_v, ↓pe_k, ↓pe_gc, ↓pe_tup, ↓pe_lst, ↓pe_bin, ↓pe_neg, ↓pe_not, ↓pe_and, ↓pe_or, ↓pe_cmp, ↓pe_chain, ↓pe_ife, ↓pe_call, ↓pe_calli, ↓pe_b1, ↓pe_b2, ↓pe_isi, ↓pe_ix, ↓pe_sl, ↓pe_lc, ↓pe_app, ↓pe_pop, ↓pe_popA, ↓pe_rev, ↓pe_dget, pk_ok, pk_ite, ↓exs, ↓retV, ↓v_k, ↓v_gc, ↓v_v, ↓v_tup, ↓v_lst, ↓v_bin, ↓v_neg, ↓v_not, ↓v_and, ↓v_or, ↓v_cmp, ↓v_chain, ↓v_ife, ↓v_call, ↓v_calli, ↓v_b1, ↓v_b2, ↓v_isi, ↓v_ix, ↓v_sl, ↓v_lc, ↓v_app, ↓v_pop, ↓v_popA, ↓v_rev, ↓v_dget, ↓s_asg, ↓s_unp, ↓s_par, ↓s_setL, ↓s_ex, ↓s_iff, ↓s_for_, ↓s_whl, ↓s_ret, ↓s_pass, ↓s_brk, ↓s_cont, ↓s_bad, ↓evs, ↓evm, ↓evo, ↓evIt, ↓view, rd, getS, setS, there, ↓put_pl, plS_none, plS_d, plS_own, ↓putT, ↓putTs, ↓bindT, ↓bindTs, asInt, asBl, Val.toD, Val.slot, binD, cmpD, eqD, bi1, bi2, isiD, isiT, ixD, atI, ixN, slD, lock, unlock, items?, isOwn, isNon, b__law_good_plan, planB, e1, e2, e3]
end AW

set_option Elab.async false
set_option linter.all false
set_option maxRecDepth 100000
set_option maxHeartbeats 4000000
namespace AW
open PySem L2
/-! the law's spring -/
variable {W : Nat}
/-- a spring's state -/
def spr (p : Int × Int) : List D := [.int p.1, .int p.2]
def pickS (p : Int × Int) (m : Int) : Int × Int := if 0 < p.1 then (p.1.fdiv m, p.2) else (p.1, (p.2 * 393555900739 + 8191).fmod 999999999989)
def pickR (p : Int × Int) (m : Int) : Int := if 0 < p.1 then p.1.fmod m else (((p.2 * 393555900739 + 8191).fmod 999999999989).fdiv 4093).fmod m
theorem pick_lo {p : Int × Int} {m : Int} (h : 0 < m) : 0 ≤ pickR p m ∧ pickR p m < m := by
  unfold pickR
  split
  · exact ⟨Int.fmod_nonneg_of_pos _ h, Int.fmod_lt_of_pos _ h⟩
  · exact ⟨Int.fmod_nonneg_of_pos _ h, Int.fmod_lt_of_pos _ h⟩
theorem f_pick (k : Nat) (p : Int × Int) (m : Int) (h : 0 < m) (h2 : m < 1000) : (Gm W (k + 1)).g 15 (spr p) [.int m] = .ok (.d (.int (pickR p m)), spr (pickS p m)) := by
  obtain ⟨a, b⟩ := p
  have hm : m ≠ 0 := by omega
  have hn : m.natAbs < 1073741824 := by omega
  rw [u__law_pick]
  by_cases ha : 0 < a <;> simp [and_m, or_m, ↓runF_is, ↓runG_is, ↓bk_ok, ↓bk_no, bk_ite, oo_some, oo_none, oo_ite, ff_rt, ff_nx, ff_ite, fg_rt, fg_nx, fg_ite, ↓peek_v, ↓pe_k, ↓pe_gc, ↓pe_tup, ↓pe_lst, ↓pe_bin, ↓pe_neg, ↓pe_not, ↓pe_and, ↓pe_or, ↓pe_cmp, ↓pe_chain, ↓pe_ife, ↓pe_call, ↓pe_calli, ↓pe_b1, ↓pe_b2, ↓pe_isi, ↓pe_ix, ↓pe_sl, ↓pe_lc, ↓pe_app, ↓pe_pop, ↓pe_popA, ↓pe_rev, ↓pe_dget, pk_ok, pk_ite, ↓exs, ↓retV, ↓v_k, ↓v_gc, ↓v_v, ↓v_tup, ↓v_lst, ↓v_bin, ↓v_neg, ↓v_not, ↓v_and, ↓v_or, ↓v_cmp, ↓v_chain, ↓v_ife, ↓v_call, ↓v_calli, ↓v_b1, ↓v_b2, ↓v_isi, ↓v_ix, ↓v_sl, ↓v_lc, ↓v_app, ↓v_pop, ↓v_popA, ↓v_rev, ↓v_dget, ↓s_asg, ↓s_unp, ↓s_par, ↓s_setL, ↓s_ex, ↓s_iff, ↓s_for_, ↓s_whl, ↓s_ret, ↓s_pass, ↓s_brk, ↓s_cont, ↓s_bad, ↓evs, ↓evm, ↓evo, ↓evIt, ↓view, rd, getS, setS, there, ↓put_pl, plS_none, plS_d, plS_own, ↓putT, ↓putTs, ↓bindT, ↓bindTs, asInt, asBl, Val.toD, Val.slot, binD, cmpD, eqD, bi1, bi2, isiD, isiT, ixD, atI, ixN, slD, lock, unlock, items?, isOwn, isNon, b__law_pick, spr, ha, hm, hn, pickR, pickS]
theorem pick_cases {p : Int × Int} {m : Nat} (h : 0 < m) : ∃ j : Nat, j < m ∧ pickR p m = j := by
  obtain ⟨a, b⟩ := pick_lo (p := p) (m := m) (by omega)
  exact ⟨(pickR p m).toNat, by omega, by omega⟩
def pick3 (p : Int × Int) : Int := if pickR p 3 = 2 then 1 else 0
theorem at3 (p : Int × Int) : atI [D.int 0, .int 0, .int 1] (pickR p 3) = some (.int (pick3 p)) := by
  obtain ⟨j, hj, e⟩ := pick_cases (p := p) (m := 3) (by omega)
  have e : pickR p 3 = j := e
  unfold pick3
  rw [e]
  match j, hj with
  | 0, _ => rfl
  | 1, _ => rfl
  | 2, _ => rfl
def spanV (p : Int × Int) : D := .tup [.int (1 + pick3 p), .int (if 1 + pick3 p + pick3 (pickS p 3) < 3 then 1 + pick3 p + pick3 (pickS p 3) else 3)]
def spanS (p : Int × Int) : Int × Int := pickS (pickS p 3) 3
theorem f_lspan (k : Nat) (p : Int × Int) : (Gm W (k + 2)).g 18 (spr p) [] = .ok (.d (spanV p), spr (spanS p)) := by
  rw [u__law_span]
  have e1 : ∀ p, (Gm W (k + 1)).g 15 (spr p) [.int 3] = _ := fun p => f_pick (W := W) k p 3 (by omega) (by omega)
  have e2 : ∀ p, ixD (.lst [D.int 0, .int 0, .int 1]) (.int (pickR p 3)) = some (.int (pick3 p)) := at3
  simp [and_m, or_m, ↓runF_is, ↓runG_is, ↓bk_ok, ↓bk_no, bk_ite, oo_some, oo_none, oo_ite, ff_rt, ff_nx, ff_ite, fg_rt, fg_nx, fg_ite, ↓peek_v, ↓pe_k, ↓pe_gc, ↓pe_tup, ↓pe_lst, ↓pe_bin, ↓pe_neg, ↓pe_not, ↓pe_and, ↓pe_or, ↓pe_cmp, ↓pe_chain, ↓pe_ife, ↓pe_call, ↓pe_calli, ↓pe_b1, ↓pe_b2, ↓pe_isi, ↓pe_ix, ↓pe_sl, ↓pe_lc, ↓pe_app, ↓pe_pop, ↓pe_popA, ↓pe_rev, ↓pe_dget, pk_ok, pk_ite, ↓exs, ↓retV, ↓v_k, ↓v_gc, ↓v_v, ↓v_tup, ↓v_lst, ↓v_bin, ↓v_neg, ↓v_not, ↓v_and, ↓v_or, ↓v_cmp, ↓v_chain, ↓v_ife, ↓v_call, ↓v_calli, ↓v_b1, ↓v_b2, ↓v_isi, ↓v_ix, ↓v_sl, ↓v_lc, ↓v_app, ↓v_pop, ↓v_popA, ↓v_rev, ↓v_dget, ↓s_asg, ↓s_unp, ↓s_par, ↓s_setL, ↓s_ex, ↓s_iff, ↓s_for_, ↓s_whl, ↓s_ret, ↓s_pass, ↓s_brk, ↓s_cont, ↓s_bad, ↓evs, ↓evm, ↓evo, ↓evIt, ↓view, rd, getS, setS, there, ↓put_pl, plS_none, plS_d, plS_own, ↓putT, ↓putTs, ↓bindT, ↓bindTs, asInt, asBl, Val.toD, Val.slot, binD, cmpD, eqD, bi1, bi2, isiD, isiT, slD, lock, unlock, items?, isOwn, isNon, b__law_span, e1, e2, spanV, spanS]
end AW

set_option Elab.async false
set_option linter.all false
set_option maxRecDepth 100000
set_option maxHeartbeats 4000000
namespace AW
open PySem L2
variable {W : Nat}
/-- the j-th of some -/
def sel (xs : List D) (j : Int) : D := (xs[j.toNat]?).getD .non
theorem at_sel {xs : List D} {p : Int × Int} {m : Nat} (h : xs.length = m) (h0 : 0 < m) : ixD (.lst xs) (.int (pickR p m)) = some (sel xs (pickR p m)) := by
  obtain ⟨j, hj, e⟩ := pick_cases (p := p) (m := m) h0
  unfold ixD
  dsimp only
  rw [e]
  unfold atI ixN sel
  rw [if_pos (by omega), if_pos (by omega)]
  have : xs[j]? = some xs[j] := List.getElem?_eq_getElem (by omega)
  simp [this]
theorem sel_int {xs : List Int} {j : Int} (h0 : 0 ≤ j) (h : j < xs.length) : ∃ i ∈ xs, sel (xs.map D.int) j = .int i := by
  have hj : j.toNat < xs.length := by omega
  refine ⟨xs[j.toNat], List.getElem_mem hj, ?_⟩
  unfold sel
  rw [List.getElem?_map, List.getElem?_eq_getElem hj]
  rfl
theorem sel_str {xs : List Str} {j : Int} (h0 : 0 ≤ j) (h : j < xs.length) : ∃ i ∈ xs, sel (xs.map D.str) j = .str i := by
  have hj : j.toNat < xs.length := by omega
  refine ⟨xs[j.toNat], List.getElem_mem hj, ?_⟩
  unfold sel
  rw [List.getElem?_map, List.getElem?_eq_getElem hj]
  rfl
/-! a rule, a house, drawn -/
def ruleV (p : Int × Int) : D := .tup [sel [.int 0, .int 1, .int 1, .int 2] (pickR (pickS p 4) 4), sel [.str "same", .str "next", .str "last", .str "last"] (pickR p 4), sel [.str "stay", .str "first"] (pickR (pickS (pickS p 4) 4) 2)]
def ruleS (p : Int × Int) : Int × Int := pickS (pickS (pickS p 4) 4) 2
theorem f_lrule (k : Nat) (p : Int × Int) : (Gm W (k + 2)).g 19 (spr p) [] = .ok (.d (ruleV p), spr (ruleS p)) := by
  rw [u__law_rule]
  have e1 : ∀ p, (Gm W (k + 1)).g 15 (spr p) [.int 4] = _ := fun p => f_pick (W := W) k p 4 (by omega) (by omega)
  have e2 : ∀ p, (Gm W (k + 1)).g 15 (spr p) [.int 2] = _ := fun p => f_pick (W := W) k p 2 (by omega) (by omega)
  have e3 : ∀ p (xs : List D), xs.length = 4 → ixD (.lst xs) (.int (pickR p 4)) = some (sel xs (pickR p 4)) := fun p xs h => at_sel (m := 4) h (by decide)
  have e4 : ∀ p (xs : List D), xs.length = 2 → ixD (.lst xs) (.int (pickR p 2)) = some (sel xs (pickR p 2)) := fun p xs h => at_sel (m := 2) h (by decide)
  simp [and_m, or_m, ↓runF_is, ↓runG_is, ↓bk_ok, ↓bk_no, bk_ite, oo_some, oo_none, oo_ite, ff_rt, ff_nx, ff_ite, fg_rt, fg_nx, fg_ite, ↓peek_v, ↓pe_k, ↓pe_gc, ↓pe_tup, ↓pe_lst, ↓pe_bin, ↓pe_neg, ↓pe_not, ↓pe_and, ↓pe_or, ↓pe_cmp, ↓pe_chain, ↓pe_ife, ↓pe_call, ↓pe_calli, ↓pe_b1, ↓pe_b2, ↓pe_isi, ↓pe_ix, ↓pe_sl, ↓pe_lc, ↓pe_app, ↓pe_pop, ↓pe_popA, ↓pe_rev, ↓pe_dget, pk_ok, pk_ite, ↓exs, ↓retV, ↓v_k, ↓v_gc, ↓v_v, ↓v_tup, ↓v_lst, ↓v_bin, ↓v_neg, ↓v_not, ↓v_and, ↓v_or, ↓v_cmp, ↓v_chain, ↓v_ife, ↓v_call, ↓v_calli, ↓v_b1, ↓v_b2, ↓v_isi, ↓v_ix, ↓v_sl, ↓v_lc, ↓v_app, ↓v_pop, ↓v_popA, ↓v_rev, ↓v_dget, ↓s_asg, ↓s_unp, ↓s_par, ↓s_setL, ↓s_ex, ↓s_iff, ↓s_for_, ↓s_whl, ↓s_ret, ↓s_pass, ↓s_brk, ↓s_cont, ↓s_bad, ↓evs, ↓evm, ↓evo, ↓evIt, ↓view, rd, getS, setS, there, ↓put_pl, plS_none, plS_d, plS_own, ↓putT, ↓putTs, ↓bindT, ↓bindTs, asInt, asBl, Val.toD, Val.slot, binD, cmpD, eqD, bi1, bi2, isiD, isiT, slD, lock, unlock, items?, isOwn, isNon, b__law_rule, e1, e2, e3, e4, ruleV, ruleS]
theorem rule_ok (p : Int × Int) : ruleB (ruleV p) = true := by
  obtain ⟨a1, a2⟩ := pick_lo (p := pickS p 4) (m := 4) (by omega)
  obtain ⟨b1, b2⟩ := pick_lo (p := p) (m := 4) (by omega)
  obtain ⟨c1, c2⟩ := pick_lo (p := pickS (pickS p 4) 4) (m := 2) (by omega)
  obtain ⟨i, hi, e1⟩ := sel_int (xs := [0, 1, 1, 2]) a1 a2
  obtain ⟨x, hx, e2⟩ := sel_str (xs := ["same", "next", "last", "last"]) b1 b2
  obtain ⟨y, hy, e3⟩ := sel_str (xs := ["stay", "first"]) c1 c2
  unfold ruleV
  simp only [List.map_cons, List.map_nil] at e1 e2 e3
  rw [e1, e2, e3]
  simp only [List.mem_cons, List.mem_singleton, List.not_mem_nil, or_false] at hi hx hy
  have w : withinB (.int i) 0 2 = true := by unfold withinB; simp; omega
  have s1 : strIn (.str x) afters = true := by rcases hx with rfl | rfl | rfl | rfl <;> decide +kernel
  have s2 : strIn (.str y) lates = true := by rcases hy with rfl | rfl <;> decide +kernel
  show (withinB (.int i) 0 2 && (strIn (.str x) afters && strIn (.str y) lates)) = true
  rw [w, s1, s2]
  rfl
theorem pick3_01 (p : Int × Int) : 0 ≤ pick3 p ∧ pick3 p ≤ 1 := by unfold pick3; split <;> omega
theorem span_ok (p : Int × Int) : spanB (spanV p) = true := by
  have h1 := pick3_01 p
  have h2 := pick3_01 (pickS p 3)
  unfold spanV spanB
  simp only [withinB]
  split <;> simp <;> omega
def many (r : Int) (p : Int × Int) : Int := 1 + (if pickR (pickS p r) 3 = 0 then 1 else if pickR (pickS p r) 3 = 1 then pickR p r else r - 1)
theorem many_lo {r : Int} (p : Int × Int) (h : 1 ≤ r) (h3 : r ≤ 3) : 1 ≤ many r p ∧ many r p ≤ 3 := by
  have := pick_lo (p := p) (m := r) (by omega)
  unfold many
  split
  · omega
  · split <;> omega
theorem atm (r : Int) (p : Int × Int) : ixD (.lst [.int 1, .int (pickR p r), .int (r - 1)]) (.int (pickR (pickS p r) 3)) = some (.int (many r p - 1)) := by
  obtain ⟨j, hj, e⟩ := pick_cases (p := pickS p r) (m := 3) (by omega)
  have e : pickR (pickS p r) 3 = j := e
  unfold many
  rw [e]
  match j, hj with
  | 0, _ => simp [ixD, atI, ixN]
  | 1, _ => simp [ixD, atI, ixN]; omega
  | 2, _ => simp [ixD, atI, ixN]; omega
def houseV (r : Int) (p : Int × Int) : D := if many r p = 3 then .tup [.int 3, .tup [.int 1, .int (1 + pickR (pickS (pickS p r) 3) 2)], .tup [.int 1, .int (1 + pickR (pickS (pickS (pickS p r) 3) 2) 2)]]
  else .tup [.int (many r p), spanV (pickS (pickS p r) 3), spanV (spanS (pickS (pickS p r) 3))]
def houseS (r : Int) (p : Int × Int) : Int × Int := if many r p = 3 then pickS (pickS (pickS (pickS p r) 3) 2) 2 else spanS (spanS (pickS (pickS p r) 3))
theorem f_lhouse (k : Nat) (r : Int) (p : Int × Int) (h : 1 ≤ r) (h3 : r ≤ 3) : (Gm W (k + 3)).g 20 (spr p) [.int r] = .ok (.d (houseV r p), spr (houseS r p)) := by
  rw [u__law_house]
  have e0 : ∀ p, (Gm W (k + 2)).g 15 (spr p) [.int r] = _ := fun p => f_pick (W := W) (k + 1) p r (by omega) (by omega)
  have e1 : ∀ p, (Gm W (k + 2)).g 15 (spr p) [.int 3] = _ := fun p => f_pick (W := W) (k + 1) p 3 (by omega) (by omega)
  have e2 : ∀ p, (Gm W (k + 2)).g 15 (spr p) [.int 2] = _ := fun p => f_pick (W := W) (k + 1) p 2 (by omega) (by omega)
  have e3 : ∀ p, (Gm W (k + 2)).g 18 (spr p) [] = _ := fun p => f_lspan (W := W) k p
  have e4 := atm r p
  have em : 1 + (many r p - 1) = many r p := by omega
  by_cases hm : many r p = 3
  · have em' : (1 : Int) + (3 - 1) = 3 := by decide
    simp [and_m, or_m, ↓runF_is, ↓runG_is, ↓bk_ok, ↓bk_no, bk_ite, oo_some, oo_none, oo_ite, ff_rt, ff_nx, ff_ite, fg_rt, fg_nx, fg_ite, ↓peek_v, ↓pe_k, ↓pe_gc, ↓pe_tup, ↓pe_lst, ↓pe_bin, ↓pe_neg, ↓pe_not, ↓pe_and, ↓pe_or, ↓pe_cmp, ↓pe_chain, ↓pe_ife, ↓pe_call, ↓pe_calli, ↓pe_b1, ↓pe_b2, ↓pe_isi, ↓pe_ix, ↓pe_sl, ↓pe_lc, ↓pe_app, ↓pe_pop, ↓pe_popA, ↓pe_rev, ↓pe_dget, pk_ok, pk_ite, ↓exs, ↓retV, ↓v_k, ↓v_gc, ↓v_v, ↓v_tup, ↓v_lst, ↓v_bin, ↓v_neg, ↓v_not, ↓v_and, ↓v_or, ↓v_cmp, ↓v_chain, ↓v_ife, ↓v_call, ↓v_calli, ↓v_b1, ↓v_b2, ↓v_isi, ↓v_ix, ↓v_sl, ↓v_lc, ↓v_app, ↓v_pop, ↓v_popA, ↓v_rev, ↓v_dget, ↓s_asg, ↓s_unp, ↓s_par, ↓s_setL, ↓s_ex, ↓s_iff, ↓s_for_, ↓s_whl, ↓s_ret, ↓s_pass, ↓s_brk, ↓s_cont, ↓s_bad, ↓evs, ↓evm, ↓evo, ↓evIt, ↓view, rd, getS, setS, there, ↓put_pl, plS_none, plS_d, plS_own, ↓putT, ↓putTs, ↓bindT, ↓bindTs, asInt, asBl, Val.toD, Val.slot, binD, cmpD, eqD, bi1, bi2, isiD, isiT, slD, lock, unlock, items?, isOwn, isNon, b__law_house, e0, e1, e2, e3, e4, em, hm, houseV, houseS]
  · simp [and_m, or_m, ↓runF_is, ↓runG_is, ↓bk_ok, ↓bk_no, bk_ite, oo_some, oo_none, oo_ite, ff_rt, ff_nx, ff_ite, fg_rt, fg_nx, fg_ite, ↓peek_v, ↓pe_k, ↓pe_gc, ↓pe_tup, ↓pe_lst, ↓pe_bin, ↓pe_neg, ↓pe_not, ↓pe_and, ↓pe_or, ↓pe_cmp, ↓pe_chain, ↓pe_ife, ↓pe_call, ↓pe_calli, ↓pe_b1, ↓pe_b2, ↓pe_isi, ↓pe_ix, ↓pe_sl, ↓pe_lc, ↓pe_app, ↓pe_pop, ↓pe_popA, ↓pe_rev, ↓pe_dget, pk_ok, pk_ite, ↓exs, ↓retV, ↓v_k, ↓v_gc, ↓v_v, ↓v_tup, ↓v_lst, ↓v_bin, ↓v_neg, ↓v_not, ↓v_and, ↓v_or, ↓v_cmp, ↓v_chain, ↓v_ife, ↓v_call, ↓v_calli, ↓v_b1, ↓v_b2, ↓v_isi, ↓v_ix, ↓v_sl, ↓v_lc, ↓v_app, ↓v_pop, ↓v_popA, ↓v_rev, ↓v_dget, ↓s_asg, ↓s_unp, ↓s_par, ↓s_setL, ↓s_ex, ↓s_iff, ↓s_for_, ↓s_whl, ↓s_ret, ↓s_pass, ↓s_brk, ↓s_cont, ↓s_bad, ↓evs, ↓evm, ↓evo, ↓evIt, ↓view, rd, getS, setS, there, ↓put_pl, plS_none, plS_d, plS_own, ↓putT, ↓putTs, ↓bindT, ↓bindTs, asInt, asBl, Val.toD, Val.slot, binD, cmpD, eqD, bi1, bi2, isiD, isiT, slD, lock, unlock, items?, isOwn, isNon, b__law_house, e0, e1, e2, e3, e4, em, hm, houseV, houseS]
theorem house_ok {r : Int} (p : Int × Int) (h : 1 ≤ r) (h3 : r ≤ 3) : houseB (houseV r p) = true := by
  have hm := many_lo p h h3
  unfold houseV
  split
  · have h1 := pick_lo (p := pickS (pickS p r) 3) (m := 2) (by omega)
    have h2 := pick_lo (p := pickS (pickS (pickS p r) 3) 2) (m := 2) (by omega)
    unfold houseB spanB
    simp only [withinB]
    simp
    omega
  · show (withinB (.int (many r p)) 1 3 && (spanB (spanV _) && spanB (spanV _))) = true
    rw [span_ok, span_ok]
    simp only [withinB]
    simp
    omega
end AW

set_option Elab.async false
set_option linter.all false
set_option maxRecDepth 100000
set_option maxHeartbeats 4000000
namespace AW
open PySem L2
/-! the law's ticks -/
variable {W : Nat}
theorem lcGo_pure {f : D → Env → Res (Option D × Env)} {own : List Nat} {ρ : Env} {g : D → Option D} : ∀ {xs : List D} {acc : List D}, (∀ x ∈ xs, ∃ ρx, f x (wiped ρ own) = .ok (g x, ρx) ∧ mend ρ ρx own = ρ) → lcGo f own xs ρ acc = .ok (acc ++ xs.filterMap g, ρ)
  | [], acc, _ => by unfold lcGo; simp
  | x :: r, acc, h => by
    obtain ⟨ρx, h1, h2⟩ := h x List.mem_cons_self
    unfold lcGo
    rw [h1]
    cases e : g x with
    | none =>
      dsimp only
      rw [h2, lcGo_pure fun y hy => h y (List.mem_cons_of_mem _ hy), List.filterMap_cons, e]
    | some y =>
      dsimp only
      rw [h2, lcGo_pure fun y hy => h y (List.mem_cons_of_mem _ hy), List.filterMap_cons, e]
      simp
structure Pl where
  room : Int
  al : Int
  ah : Int
  sl : Int
  sh : Int
  skips : Int
  after : Str
  late : Str
def Pl.d (P : Pl) : D := .tup [.tup [.int P.room, .tup [.int P.al, .int P.ah], .tup [.int P.sl, .int P.sh]], .tup [.int P.skips, .str P.after, .str P.late]]
structure Man where
  n : Int
  a : Int
  s : Int
  deriving DecidableEq
def Man.d (m : Man) : D := .tup [.int m.n, .int m.a, .int m.s]
def rowD (r : List Int) : D := .tup (r.map D.int)
theorem Man.ofd {x : D} (h : ∃ m : Man, x = m.d) : ∃ n a s, x = .tup [.int n, .int a, .int s] := by
  obtain ⟨m, rfl⟩ := h
  exact ⟨_, _, _, rfl⟩
/-! backs -/
def backStep (low high : Int) (rows : List (List Int)) (m : Man) : List (List Int) := if low ≤ m.a then (if m.a < high then rows else []) ++ rows.map (· ++ [m.n]) else rows
theorem back_lc (Γ : Gam) (rows : List (List Int)) (ρ : Env) (a b c d : Option Slot) (n : Int) (e f : Option Slot) (h : ∀ r ∈ rows, r.length ≤ 1000) :
    lcGo (lcF Γ (.n 8) .non e__law_backs_2) [8] (rows.map rowD) [a, b, c, d, some (.lk (rows.map rowD)), some (.d (.int n)), e, f, none] [] = .ok ((rows.map (· ++ [n])).map rowD, [a, b, c, d, some (.lk (rows.map rowD)), some (.d (.int n)), e, f, none]) := by
  refine (lcGo_pure (g := fun x => match x with | .tup xs => some (.tup (xs ++ [.int n])) | _ => none) fun x hx => ?_).trans ?_
  · obtain ⟨r, hr, rfl⟩ := List.mem_map.mp hx
    have := h r hr
    have hl : r.length + 1 ≤ lim := by have : lim = 16000000 := rfl; omega
    refine ⟨[a, b, c, d, some (.lk (rows.map rowD)), some (.d (.int n)), e, f, some (.d (rowD r))], ?_, by simp [mend, getS]⟩
    unfold lcF
    simp [and_m, or_m, ↓runF_is, ↓runG_is, ↓bk_ok, ↓bk_no, bk_ite, oo_some, oo_none, oo_ite, ff_rt, ff_nx, ff_ite, fg_rt, fg_nx, fg_ite, ↓peek_v, ↓pe_k, ↓pe_gc, ↓pe_tup, ↓pe_lst, ↓pe_bin, ↓pe_neg, ↓pe_not, ↓pe_and, ↓pe_or, ↓pe_cmp, ↓pe_chain, ↓pe_ife, ↓pe_call, ↓pe_calli, ↓pe_b1, ↓pe_b2, ↓pe_isi, ↓pe_ix, ↓pe_sl, ↓pe_lc, ↓pe_app, ↓pe_pop, ↓pe_popA, ↓pe_rev, ↓pe_dget, pk_ok, pk_ite, ↓exs, ↓retV, ↓v_k, ↓v_gc, ↓v_v, ↓v_tup, ↓v_lst, ↓v_bin, ↓v_neg, ↓v_not, ↓v_and, ↓v_or, ↓v_cmp, ↓v_chain, ↓v_ife, ↓v_call, ↓v_calli, ↓v_b1, ↓v_b2, ↓v_isi, ↓v_ix, ↓v_sl, ↓v_lc, ↓v_app, ↓v_pop, ↓v_popA, ↓v_rev, ↓v_dget, ↓s_asg, ↓s_unp, ↓s_par, ↓s_setL, ↓s_ex, ↓s_iff, ↓s_for_, ↓s_whl, ↓s_ret, ↓s_pass, ↓s_brk, ↓s_cont, ↓s_bad, ↓evs, ↓evm, ↓evo, ↓evIt, ↓view, rd, getS, setS, there, ↓put_pl, plS_none, plS_d, plS_own, ↓putT, ↓putTs, ↓bindT, ↓bindTs, asInt, asBl, Val.toD, Val.slot, binD, cmpD, eqD, bi1, bi2, isiD, isiT, ixD, atI, ixN, slD, lock, unlock, items?, isOwn, isNon, e__law_backs_2, rowD, wiped, hl]
  · rw [List.nil_append]
    congr 2
    rw [List.map_map, List.filterMap_map]
    clear h
    induction rows with
    | nil => rfl
    | cons r rs ih => simp only [List.filterMap_cons, List.map_cons, Function.comp, rowD]; rw [ih]; simp [rowD]
theorem back_turn (Γ : Gam) (rows : List (List Int)) (m : Man) (p q x y z : Option Slot) (low high : Int) (hx : plS x = true) (hy : plS y = true) (hz : plS z = true) (h : ∀ r ∈ rows, r.length ≤ 1000) (hl : rows.length ≤ 1000000) :
    fF Γ W (.t (.cons (.n 5) (.cons (.n 6) (.cons (.n 7) .nil)))) b__law_backs_1 m.d [p, q, some (.d (.int low)), some (.d (.int high)), some (.own (rows.map rowD)), x, y, z, none] =
      .ok (.nx, [p, q, some (.d (.int low)), some (.d (.int high)), some (.own ((backStep low high rows m).map rowD)), some (.d (.int m.n)), some (.d (.int m.a)), some (.d (.int m.s)), none]) := by
  have e1 : ∀ a b c d e f, lcGo (lcF Γ (.n 8) .non e__law_backs_2) [8] (rows.map rowD) [a, b, c, d, some (.lk (rows.map rowD)), some (.d (.int m.n)), e, f, none] [] = _ := fun a b c d e f => back_lc Γ rows [] a b c d m.n e f h
  have lm : lim = 16000000 := rfl
  unfold fF
  by_cases h1 : low ≤ m.a
  · by_cases h2 : m.a < high
    · have l1 : rows.length ≤ lim := by omega
      have l2 : rows.length + rows.length ≤ lim := by omega
      simp [and_m, or_m, ↓runF_is, ↓runG_is, ↓bk_ok, ↓bk_no, bk_ite, oo_some, oo_none, oo_ite, ff_rt, ff_nx, ff_ite, fg_rt, fg_nx, fg_ite, ↓peek_v, ↓pe_k, ↓pe_gc, ↓pe_tup, ↓pe_lst, ↓pe_bin, ↓pe_neg, ↓pe_not, ↓pe_and, ↓pe_or, ↓pe_cmp, ↓pe_chain, ↓pe_ife, ↓pe_call, ↓pe_calli, ↓pe_b1, ↓pe_b2, ↓pe_isi, ↓pe_ix, ↓pe_sl, ↓pe_lc, ↓pe_app, ↓pe_pop, ↓pe_popA, ↓pe_rev, ↓pe_dget, pk_ok, pk_ite, ↓exs, ↓retV, ↓v_k, ↓v_gc, ↓v_v, ↓v_tup, ↓v_lst, ↓v_bin, ↓v_neg, ↓v_not, ↓v_and, ↓v_or, ↓v_cmp, ↓v_chain, ↓v_ife, ↓v_call, ↓v_calli, ↓v_b1, ↓v_b2, ↓v_isi, ↓v_ix, ↓v_sl, ↓v_lc, ↓v_app, ↓v_pop, ↓v_popA, ↓v_rev, ↓v_dget, ↓s_asg, ↓s_unp, ↓s_par, ↓s_setL, ↓s_ex, ↓s_iff, ↓s_for_, ↓s_whl, ↓s_ret, ↓s_pass, ↓s_brk, ↓s_cont, ↓s_bad, ↓evs, ↓evm, ↓evo, ↓evIt, ↓view, rd, getS, setS, there, ↓put_pl, plS_none, plS_d, plS_own, ↓putT, ↓putTs, ↓bindT, ↓bindTs, asInt, asBl, Val.toD, Val.slot, binD, cmpD, eqD, bi1, bi2, isiD, isiT, ixD, atI, ixN, slD, lock, unlock, items?, isOwn, isNon, hx, hy, hz, b__law_backs_1, Man.d, h1, h2, ↓e1, plain, backStep, l1, l2]
    · have l1 : rows.length ≤ lim := by omega
      simp [and_m, or_m, ↓runF_is, ↓runG_is, ↓bk_ok, ↓bk_no, bk_ite, oo_some, oo_none, oo_ite, ff_rt, ff_nx, ff_ite, fg_rt, fg_nx, fg_ite, ↓peek_v, ↓pe_k, ↓pe_gc, ↓pe_tup, ↓pe_lst, ↓pe_bin, ↓pe_neg, ↓pe_not, ↓pe_and, ↓pe_or, ↓pe_cmp, ↓pe_chain, ↓pe_ife, ↓pe_call, ↓pe_calli, ↓pe_b1, ↓pe_b2, ↓pe_isi, ↓pe_ix, ↓pe_sl, ↓pe_lc, ↓pe_app, ↓pe_pop, ↓pe_popA, ↓pe_rev, ↓pe_dget, pk_ok, pk_ite, ↓exs, ↓retV, ↓v_k, ↓v_gc, ↓v_v, ↓v_tup, ↓v_lst, ↓v_bin, ↓v_neg, ↓v_not, ↓v_and, ↓v_or, ↓v_cmp, ↓v_chain, ↓v_ife, ↓v_call, ↓v_calli, ↓v_b1, ↓v_b2, ↓v_isi, ↓v_ix, ↓v_sl, ↓v_lc, ↓v_app, ↓v_pop, ↓v_popA, ↓v_rev, ↓v_dget, ↓s_asg, ↓s_unp, ↓s_par, ↓s_setL, ↓s_ex, ↓s_iff, ↓s_for_, ↓s_whl, ↓s_ret, ↓s_pass, ↓s_brk, ↓s_cont, ↓s_bad, ↓evs, ↓evm, ↓evo, ↓evIt, ↓view, rd, getS, setS, there, ↓put_pl, plS_none, plS_d, plS_own, ↓putT, ↓putTs, ↓bindT, ↓bindTs, asInt, asBl, Val.toD, Val.slot, binD, cmpD, eqD, bi1, bi2, isiD, isiT, ixD, atI, ixN, slD, lock, unlock, items?, isOwn, isNon, hx, hy, hz, b__law_backs_1, Man.d, h1, h2, ↓e1, plain, backStep, l1]
  · simp [and_m, or_m, ↓runF_is, ↓runG_is, ↓bk_ok, ↓bk_no, bk_ite, oo_some, oo_none, oo_ite, ff_rt, ff_nx, ff_ite, fg_rt, fg_nx, fg_ite, ↓peek_v, ↓pe_k, ↓pe_gc, ↓pe_tup, ↓pe_lst, ↓pe_bin, ↓pe_neg, ↓pe_not, ↓pe_and, ↓pe_or, ↓pe_cmp, ↓pe_chain, ↓pe_ife, ↓pe_call, ↓pe_calli, ↓pe_b1, ↓pe_b2, ↓pe_isi, ↓pe_ix, ↓pe_sl, ↓pe_lc, ↓pe_app, ↓pe_pop, ↓pe_popA, ↓pe_rev, ↓pe_dget, pk_ok, pk_ite, ↓exs, ↓retV, ↓v_k, ↓v_gc, ↓v_v, ↓v_tup, ↓v_lst, ↓v_bin, ↓v_neg, ↓v_not, ↓v_and, ↓v_or, ↓v_cmp, ↓v_chain, ↓v_ife, ↓v_call, ↓v_calli, ↓v_b1, ↓v_b2, ↓v_isi, ↓v_ix, ↓v_sl, ↓v_lc, ↓v_app, ↓v_pop, ↓v_popA, ↓v_rev, ↓v_dget, ↓s_asg, ↓s_unp, ↓s_par, ↓s_setL, ↓s_ex, ↓s_iff, ↓s_for_, ↓s_whl, ↓s_ret, ↓s_pass, ↓s_brk, ↓s_cont, ↓s_bad, ↓evs, ↓evm, ↓evo, ↓evIt, ↓view, rd, getS, setS, there, ↓put_pl, plS_none, plS_d, plS_own, ↓putT, ↓putTs, ↓bindT, ↓bindTs, asInt, asBl, Val.toD, Val.slot, binD, cmpD, eqD, bi1, bi2, isiD, isiT, ixD, atI, ixN, slD, lock, unlock, items?, isOwn, isNon, hx, hy, hz, b__law_backs_1, Man.d, h1, backStep]
theorem backStep_len (low high : Int) (rows : List (List Int)) (m : Man) : (backStep low high rows m).length ≤ 2 * rows.length := by
  unfold backStep
  split
  · split <;> simp <;> omega
  · omega
theorem backStep_row {low high : Int} {rows : List (List Int)} {m : Man} {n : Nat} (h : ∀ r ∈ rows, r.length ≤ n) : ∀ r ∈ backStep low high rows m, r.length ≤ n + 1 := by
  intro r hr
  unfold backStep at hr
  split at hr
  · rcases List.mem_append.mp hr with hr | hr
    · split at hr
      · have := h r hr; omega
      · cases hr
    · obtain ⟨r', h', rfl⟩ := List.mem_map.mp hr
      have := h r' h'
      simp; omega
  · have := h r hr; omega
theorem back_loop (Γ : Gam) (p q : Option Slot) (low high : Int) : ∀ (ms : List Man) (rows : List (List Int)) (n : Nat) (x y z : Option Slot), plS x = true → plS y = true → plS z = true → (∀ r ∈ rows, r.length ≤ n) → n + ms.length ≤ 1000 → rows.length * 2 ^ ms.length ≤ 1000000 →
    ∃ x' y' z', forGo (fF Γ W (.t (.cons (.n 5) (.cons (.n 6) (.cons (.n 7) .nil)))) b__law_backs_1) (ms.map Man.d) [p, q, some (.d (.int low)), some (.d (.int high)), some (.own (rows.map rowD)), x, y, z, none] =
      .ok (.nx, [p, q, some (.d (.int low)), some (.d (.int high)), some (.own ((ms.foldl (backStep low high) rows).map rowD)), x', y', z', none])
  | [], rows, n, x, y, z, _, _, _, _, _, _ => ⟨x, y, z, by unfold forGo; rfl⟩
  | m :: ms, rows, n, x, y, z, hx, hy, hz, h, hn, hl => by
    have l1 := backStep_len low high rows m
    have p1 : 0 < 2 ^ ms.length := Nat.pos_of_ne_zero (by simp)
    rw [List.length_cons, Nat.pow_succ] at hl
    rw [List.length_cons] at hn
    have l2 : rows.length ≤ 1000000 := by
      have : rows.length * 1 ≤ rows.length * (2 ^ ms.length * 2) := Nat.mul_le_mul_left _ (by omega)
      omega
    have l3 : (backStep low high rows m).length * 2 ^ ms.length ≤ 1000000 := by
      have := Nat.mul_le_mul_right (2 ^ ms.length) l1
      rw [Nat.mul_comm 2, Nat.mul_assoc, Nat.mul_comm 2] at this
      omega
    obtain ⟨x', y', z', e⟩ := back_loop Γ p q low high ms (backStep low high rows m) (n + 1) (some (.d (.int m.n))) (some (.d (.int m.a))) (some (.d (.int m.s))) rfl rfl rfl (backStep_row h) (by omega) l3
    refine ⟨x', y', z', ?_⟩
    rw [List.map_cons]
    unfold forGo
    rw [back_turn Γ rows m p q x y z low high hx hy hz (fun r hr => by have := h r hr; omega) l2]
    exact e
end AW

set_option Elab.async false
set_option linter.all false
set_option maxRecDepth 100000
set_option maxHeartbeats 4000000
namespace AW
open PySem L2
variable {W : Nat}
def sortM (ms : List Man) : List Man := ms.mergeSort (PySem.W.dataLe false fun m => m.d.py)
theorem sortM_d (ms : List Man) : sortD (ms.map Man.d) = (sortM ms).map Man.d := by
  unfold sortD sortM
  exact (PySem.W.sort_maps (f := Man.d) (fun a _ b _ => rfl)).symm
theorem sortM_len (ms : List Man) : (sortM ms).length = ms.length := List.length_mergeSort _
theorem sortM_perm (ms : List Man) : (sortM ms).Perm ms := List.mergeSort_perm _ _
theorem deps_men : ∀ ms : List Man, D.deps (ms.map Man.d) ≤ 1
  | [] => by simp [D.deps]
  | m :: r => by
    have := deps_men r
    simp only [List.map_cons, D.deps, Man.d, D.dep]
    omega
theorem sortable_men (ms : List Man) (h : ms.length ≤ 1000) : sortable (ms.map Man.d) = true := by
  unfold sortable
  have l : lim = 16000000 := rfl
  have d := deps_men ms
  simp only [Bool.and_eq_true, Bool.or_eq_true, decide_eq_true_eq, List.length_map]
  refine ⟨⟨⟨by omega, by omega⟩, ?_⟩, .inl ?_⟩
  · rw [List.all_eq_true]
    intro x hx
    rw [List.all_eq_true]
    intro y hy
    obtain ⟨m, _, rfl⟩ := List.mem_map.mp hx
    obtain ⟨m', _, rfl⟩ := List.mem_map.mp hy
    simp [Man.d, D.py, D.pys, PySem.W.alike, PySem.W.alikeAll]
  · rw [List.all_eq_true]
    intro x hx
    obtain ⟨m, _, rfl⟩ := List.mem_map.mp hx
    rfl
theorem sorted_men_t (ms : List Man) (h : ms.length ≤ 1000) : bi1 .sorted (.tup (ms.map Man.d)) = some (.own ((sortM ms).map Man.d)) := by
  unfold bi1
  dsimp only
  rw [if_pos (sortable_men ms h), sortM_d]
theorem sorted_men_l (ms : List Man) (h : ms.length ≤ 1000) : bi1 .sorted (.lst (ms.map Man.d)) = some (.own ((sortM ms).map Man.d)) := by
  unfold bi1
  dsimp only
  rw [if_pos (sortable_men ms h), sortM_d]
/-- which sets of men can come back -/
def backsT (P : Pl) (ms : List Man) : List (List Int) := (sortM ms).foldl (backStep P.al P.ah) [[]]
theorem f_backs (k : Nat) (P : Pl) (ms : List Man) (h : ms.length ≤ 12) : (Gm W (k + 1)).f 21 [P.d, .tup (ms.map Man.d)] = .ok (.own ((backsT P ms).map rowD)) := by
  rw [u__law_backs]
  obtain ⟨x', y', z', e1⟩ := back_loop (W := W) (Gm W k) (some (.d P.d)) (some (.d (.tup (ms.map Man.d)))) P.al P.ah (sortM ms) [[]] 0 none none none rfl rfl rfl (by simp) (by rw [sortM_len]; omega) (by
    rw [sortM_len]
    have : 2 ^ ms.length ≤ 2 ^ 12 := Nat.pow_le_pow_right (by omega) h
    simp; omega)
  have e2 := sorted_men_t ms (by omega)
  have e3 : ([[]] : List (List Int)).map rowD = [.tup []] := rfl
  rw [e3] at e1
  simp only [Pl.d] at e1
  simp [and_m, or_m, ↓runF_is, ↓runG_is, ↓bk_ok, ↓bk_no, bk_ite, oo_some, oo_none, oo_ite, ff_rt, ff_nx, ff_ite, fg_rt, fg_nx, fg_ite, ↓peek_v, ↓pe_k, ↓pe_gc, ↓pe_tup, ↓pe_lst, ↓pe_bin, ↓pe_neg, ↓pe_not, ↓pe_and, ↓pe_or, ↓pe_cmp, ↓pe_chain, ↓pe_ife, ↓pe_call, ↓pe_calli, ↓pe_b1, ↓pe_b2, ↓pe_isi, ↓pe_ix, ↓pe_sl, ↓pe_lc, ↓pe_app, ↓pe_pop, ↓pe_popA, ↓pe_rev, ↓pe_dget, pk_ok, pk_ite, ↓exs, ↓retV, ↓v_k, ↓v_gc, ↓v_v, ↓v_tup, ↓v_lst, ↓v_bin, ↓v_neg, ↓v_not, ↓v_and, ↓v_or, ↓v_cmp, ↓v_chain, ↓v_ife, ↓v_call, ↓v_calli, ↓v_b1, ↓v_b2, ↓v_isi, ↓v_ix, ↓v_sl, ↓v_lc, ↓v_app, ↓v_pop, ↓v_popA, ↓v_rev, ↓v_dget, ↓s_asg, ↓s_unp, ↓s_par, ↓s_setL, ↓s_ex, ↓s_iff, ↓s_for_, ↓s_whl, ↓s_ret, ↓s_pass, ↓s_brk, ↓s_cont, ↓s_bad, ↓evs, ↓evm, ↓evo, ↓evIt, ↓view, rd, getS, setS, there, ↓put_pl, plS_none, plS_d, plS_own, ↓putT, ↓putTs, ↓bindT, ↓bindTs, asInt, asBl, Val.toD, Val.slot, binD, cmpD, eqD,  bi2, isiD, isiT, ixD, atI, ixN, slD, lock, unlock, items?, isOwn, isNon, bi1_len_l, bi1_len_t, bi1_len_a, bi1_int_i, bi1_int_b, bi1_list_t, bi1_list_l, bi1_tup_t, bi1_tup_l, b__law_backs, Pl.d, ↓e1, ↓e2, backsT]
end AW

set_option Elab.async false
set_option linter.all false
set_option maxRecDepth 100000
set_option maxHeartbeats 4000000
namespace AW
open PySem L2
variable {W : Nat}
theorem flat_ints : ∀ r : List Int, (r.map D.int).all flat = true
  | [] => rfl
  | i :: r => by simp [flat]
theorem in_row (n : Int) (back : List Int) : inD (.int n) (rowD back) = some (decide (n ∈ back)) := by
  unfold inD rowD
  dsimp only
  rw [flat_ints, if_pos ⟨rfl, rfl⟩, List.any_map]
  congr 1
  rw [Bool.eq_iff_iff]
  simp [D.eqv]
theorem man_eqv (a b : Man) : D.eqv a.d b.d = decide (a = b) := by
  obtain ⟨a1, a2, a3⟩ := a
  obtain ⟨b1, b2, b3⟩ := b
  rw [Bool.eq_iff_iff]
  simp [Man.d, D.eqv, D.eqvs]
theorem in_men (m : Man) (ms : List Man) : inD m.d (.lst (ms.map Man.d)) = some (decide (m ∈ ms)) := by
  unfold inD
  dsimp only
  have d := deps_men ms
  rw [if_pos ⟨by simp [Man.d, D.dep, D.deps], by omega⟩, List.any_map]
  congr 1
  rw [Bool.eq_iff_iff]
  simp [man_eqv]
def waitA (back : List Int) (m : Man) : Man := ⟨m.n, if m.n ∈ back then 0 else if 0 < m.a then m.a + 1 else m.a, m.s⟩
theorem wait_turn (Γ : Gam) (m : Man) (some0 : List Man) (back : List Int) (p q c dr lv x y z la on : Option Slot) (hx : plS x = true) (hy : plS y = true) (hz : plS z = true) (hl : some0.length < 1000) :
    fF Γ W (.t (.cons (.n 7) (.cons (.n 8) (.cons (.n 9) .nil)))) b__law_waiting_1 m.d [p, q, c, some (.d (rowD back)), dr, lv, some (.own (some0.map Man.d)), x, y, z, la, on] =
      .ok (.nx, [p, q, c, some (.d (rowD back)), dr, lv, some (.own ((some0 ++ [waitA back m]).map Man.d)), some (.d (.int m.n)), some (.d (.int (waitA back m).a)), some (.d (.int m.s)), la, on]) := by
  have e1 := in_row m.n back
  have lm : lim = 16000000 := rfl
  have l1 : some0.length < lim := by omega
  unfold fF
  by_cases h1 : m.n ∈ back
  · simp [and_m, or_m, ↓runF_is, ↓runG_is, ↓bk_ok, ↓bk_no, bk_ite, oo_some, oo_none, oo_ite, ff_rt, ff_nx, ff_ite, fg_rt, fg_nx, fg_ite, ↓peek_v, ↓pe_k, ↓pe_gc, ↓pe_tup, ↓pe_lst, ↓pe_bin, ↓pe_neg, ↓pe_not, ↓pe_and, ↓pe_or, ↓pe_cmp, ↓pe_chain, ↓pe_ife, ↓pe_call, ↓pe_calli, ↓pe_b1, ↓pe_b2, ↓pe_isi, ↓pe_ix, ↓pe_sl, ↓pe_lc, ↓pe_app, ↓pe_pop, ↓pe_popA, ↓pe_rev, ↓pe_dget, pk_ok, pk_ite, ↓exs, ↓retV, ↓v_k, ↓v_gc, ↓v_v, ↓v_tup, ↓v_lst, ↓v_bin, ↓v_neg, ↓v_not, ↓v_and, ↓v_or, ↓v_cmp, ↓v_chain, ↓v_ife, ↓v_call, ↓v_calli, ↓v_b1, ↓v_b2, ↓v_isi, ↓v_ix, ↓v_sl, ↓v_lc, ↓v_app, ↓v_pop, ↓v_popA, ↓v_rev, ↓v_dget, ↓s_asg, ↓s_unp, ↓s_par, ↓s_setL, ↓s_ex, ↓s_iff, ↓s_for_, ↓s_whl, ↓s_ret, ↓s_pass, ↓s_brk, ↓s_cont, ↓s_bad, ↓evs, ↓evm, ↓evo, ↓evIt, ↓view, rd, getS, setS, there, ↓put_pl, plS_none, plS_d, plS_own, ↓putT, ↓putTs, ↓bindT, ↓bindTs, asInt, asBl, Val.toD, Val.slot, binD, cmpD, eqD,  bi2, isiD, isiT, ixD, atI, ixN, slD, lock, unlock, items?, isOwn, isNon, bi1_len_l, bi1_len_t, bi1_len_a, bi1_int_i, bi1_int_b, bi1_list_t, bi1_list_l, bi1_tup_t, bi1_tup_l, hx, hy, hz, b__law_waiting_1, Man.d, ↓e1, h1, waitA, l1]
  · by_cases h2 : 0 < m.a
    · simp [and_m, or_m, ↓runF_is, ↓runG_is, ↓bk_ok, ↓bk_no, bk_ite, oo_some, oo_none, oo_ite, ff_rt, ff_nx, ff_ite, fg_rt, fg_nx, fg_ite, ↓peek_v, ↓pe_k, ↓pe_gc, ↓pe_tup, ↓pe_lst, ↓pe_bin, ↓pe_neg, ↓pe_not, ↓pe_and, ↓pe_or, ↓pe_cmp, ↓pe_chain, ↓pe_ife, ↓pe_call, ↓pe_calli, ↓pe_b1, ↓pe_b2, ↓pe_isi, ↓pe_ix, ↓pe_sl, ↓pe_lc, ↓pe_app, ↓pe_pop, ↓pe_popA, ↓pe_rev, ↓pe_dget, pk_ok, pk_ite, ↓exs, ↓retV, ↓v_k, ↓v_gc, ↓v_v, ↓v_tup, ↓v_lst, ↓v_bin, ↓v_neg, ↓v_not, ↓v_and, ↓v_or, ↓v_cmp, ↓v_chain, ↓v_ife, ↓v_call, ↓v_calli, ↓v_b1, ↓v_b2, ↓v_isi, ↓v_ix, ↓v_sl, ↓v_lc, ↓v_app, ↓v_pop, ↓v_popA, ↓v_rev, ↓v_dget, ↓s_asg, ↓s_unp, ↓s_par, ↓s_setL, ↓s_ex, ↓s_iff, ↓s_for_, ↓s_whl, ↓s_ret, ↓s_pass, ↓s_brk, ↓s_cont, ↓s_bad, ↓evs, ↓evm, ↓evo, ↓evIt, ↓view, rd, getS, setS, there, ↓put_pl, plS_none, plS_d, plS_own, ↓putT, ↓putTs, ↓bindT, ↓bindTs, asInt, asBl, Val.toD, Val.slot, binD, cmpD, eqD,  bi2, isiD, isiT, ixD, atI, ixN, slD, lock, unlock, items?, isOwn, isNon, bi1_len_l, bi1_len_t, bi1_len_a, bi1_int_i, bi1_int_b, bi1_list_t, bi1_list_l, bi1_tup_t, bi1_tup_l, hx, hy, hz, b__law_waiting_1, Man.d, ↓e1, h1, h2, waitA, l1]
    · simp [and_m, or_m, ↓runF_is, ↓runG_is, ↓bk_ok, ↓bk_no, bk_ite, oo_some, oo_none, oo_ite, ff_rt, ff_nx, ff_ite, fg_rt, fg_nx, fg_ite, ↓peek_v, ↓pe_k, ↓pe_gc, ↓pe_tup, ↓pe_lst, ↓pe_bin, ↓pe_neg, ↓pe_not, ↓pe_and, ↓pe_or, ↓pe_cmp, ↓pe_chain, ↓pe_ife, ↓pe_call, ↓pe_calli, ↓pe_b1, ↓pe_b2, ↓pe_isi, ↓pe_ix, ↓pe_sl, ↓pe_lc, ↓pe_app, ↓pe_pop, ↓pe_popA, ↓pe_rev, ↓pe_dget, pk_ok, pk_ite, ↓exs, ↓retV, ↓v_k, ↓v_gc, ↓v_v, ↓v_tup, ↓v_lst, ↓v_bin, ↓v_neg, ↓v_not, ↓v_and, ↓v_or, ↓v_cmp, ↓v_chain, ↓v_ife, ↓v_call, ↓v_calli, ↓v_b1, ↓v_b2, ↓v_isi, ↓v_ix, ↓v_sl, ↓v_lc, ↓v_app, ↓v_pop, ↓v_popA, ↓v_rev, ↓v_dget, ↓s_asg, ↓s_unp, ↓s_par, ↓s_setL, ↓s_ex, ↓s_iff, ↓s_for_, ↓s_whl, ↓s_ret, ↓s_pass, ↓s_brk, ↓s_cont, ↓s_bad, ↓evs, ↓evm, ↓evo, ↓evIt, ↓view, rd, getS, setS, there, ↓put_pl, plS_none, plS_d, plS_own, ↓putT, ↓putTs, ↓bindT, ↓bindTs, asInt, asBl, Val.toD, Val.slot, binD, cmpD, eqD,  bi2, isiD, isiT, ixD, atI, ixN, slD, lock, unlock, items?, isOwn, isNon, bi1_len_l, bi1_len_t, bi1_len_a, bi1_int_i, bi1_int_b, bi1_list_t, bi1_list_l, bi1_tup_t, bi1_tup_l, hx, hy, hz, b__law_waiting_1, Man.d, ↓e1, h1, h2, waitA, l1]
/-- a place with data, or none -/
def pnS : Option Slot → Bool
  | some (.d _) => true
  | none => true
  | _ => false
theorem plain_is (ρ : Env) (i : Nat) : plain ρ i = pnS (getS ρ i) := by
  unfold plain pnS
  split <;> simp_all
theorem pnS_none : pnS none = true := rfl
theorem pnS_d (x : D) : pnS (some (.d x)) = true := rfl
theorem pn_pl {x : Option Slot} (h : pnS x = true) : plS x = true := by
  unfold pnS at h
  split at h <;> first | rfl | cases h
theorem lcGo_typed {α : Type} {enc : α → D} {f : D → Env → Res (Option D × Env)} {own : List Nat} {ρ : Env} {g : α → Option D} : ∀ {xs : List α} {acc : List D}, (∀ x ∈ xs, ∃ ρx, f (enc x) (wiped ρ own) = .ok (g x, ρx) ∧ mend ρ ρx own = ρ) → lcGo f own (xs.map enc) ρ acc = .ok (acc ++ xs.filterMap g, ρ)
  | [], acc, _ => by unfold lcGo; simp
  | x :: r, acc, h => by
    obtain ⟨ρx, h1, h2⟩ := h x List.mem_cons_self
    rw [List.map_cons]
    unfold lcGo
    rw [h1]
    cases e : g x with
    | none =>
      dsimp only
      rw [h2, lcGo_typed fun y hy => h y (List.mem_cons_of_mem _ hy), List.filterMap_cons, e]
    | some y =>
      dsimp only
      rw [h2, lcGo_typed fun y hy => h y (List.mem_cons_of_mem _ hy), List.filterMap_cons, e]
      simp
theorem fm_if {α β : Type} (enc : α → β) (p : α → Bool) : ∀ xs : List α, xs.filterMap (fun x => if p x = true then some (enc x) else none) = (xs.filter p).map enc
  | [] => rfl
  | x :: r => by
    rw [List.filterMap_cons, List.filter_cons]
    cases e : p x <;> simp [e, fm_if enc p r]
theorem fm_map {α β : Type} (f : α → β) (xs : List α) : xs.filterMap (fun x => some (f x)) = xs.map f := by
  induction xs with
  | nil => rfl
  | cons x r ih => rw [List.filterMap_cons, ih]; rfl
theorem wait_loop (Γ : Gam) (back : List Int) (p q c dr lv la on : Option Slot) : ∀ (ms some0 : List Man) (x y z : Option Slot), pnS x = true → pnS y = true → pnS z = true → some0.length + ms.length ≤ 1000 →
    ∃ x' y' z', pnS x' = true ∧ pnS y' = true ∧ pnS z' = true ∧ forGo (fF Γ W (.t (.cons (.n 7) (.cons (.n 8) (.cons (.n 9) .nil)))) b__law_waiting_1) (ms.map Man.d) [p, q, c, some (.d (rowD back)), dr, lv, some (.own (some0.map Man.d)), x, y, z, la, on] =
      .ok (.nx, [p, q, c, some (.d (rowD back)), dr, lv, some (.own ((some0 ++ ms.map (waitA back)).map Man.d)), x', y', z', la, on])
  | [], some0, x, y, z, hx, hy, hz, _ => ⟨x, y, z, hx, hy, hz, by unfold forGo; simp⟩
  | m :: ms, some0, x, y, z, hx, hy, hz, hl => by
    rw [List.length_cons] at hl
    obtain ⟨x', y', z', h1, h2, h3, e⟩ := wait_loop Γ back p q c dr lv la on ms (some0 ++ [waitA back m]) (some (.d (.int m.n))) (some (.d (.int (waitA back m).a))) (some (.d (.int m.s))) rfl rfl rfl (by rw [List.length_append]; simp; omega)
    refine ⟨x', y', z', h1, h2, h3, ?_⟩
    rw [List.map_cons]
    unfold forGo
    rw [wait_turn Γ m some0 back p q c dr lv x y z la on (pn_pl hx) (pn_pl hy) (pn_pl hz) (by omega)]
    dsimp only
    rw [e]
    simp
def isLate (back : List Int) (m : Man) : Bool := decide (m.n ∈ back) && decide (0 < m.s)
theorem wait_lc2 (Γ : Gam) (ms : List Man) (back : List Int) (p q c dr lv sm x y z la on : Option Slot) :
    lcGo (lcF Γ (.n 11) t__law_waiting_2 e__law_waiting_2) [11] (ms.map Man.d) [p, q, c, some (.d (rowD back)), dr, lv, sm, x, y, z, la, on] [] =
      .ok ((ms.filter (isLate back)).map Man.d, [p, q, c, some (.d (rowD back)), dr, lv, sm, x, y, z, la, on]) := by
  refine (lcGo_typed (g := fun m => if isLate back m = true then some m.d else none) fun m hm => ⟨[p, q, c, some (.d (rowD back)), dr, lv, sm, x, y, z, la, some (.d m.d)], ?_, by simp [mend, getS]⟩).trans ?_
  · have e1 := in_row m.n back
    unfold lcF t__law_waiting_2
    by_cases h1 : m.n ∈ back <;> by_cases h2 : 0 < m.s <;> simp [and_m, or_m, ↓runF_is, ↓runG_is, ↓bk_ok, ↓bk_no, bk_ite, oo_some, oo_none, oo_ite, ff_rt, ff_nx, ff_ite, fg_rt, fg_nx, fg_ite, ↓peek_v, ↓pe_k, ↓pe_gc, ↓pe_tup, ↓pe_lst, ↓pe_bin, ↓pe_neg, ↓pe_not, ↓pe_and, ↓pe_or, ↓pe_cmp, ↓pe_chain, ↓pe_ife, ↓pe_call, ↓pe_calli, ↓pe_b1, ↓pe_b2, ↓pe_isi, ↓pe_ix, ↓pe_sl, ↓pe_lc, ↓pe_app, ↓pe_pop, ↓pe_popA, ↓pe_rev, ↓pe_dget, pk_ok, pk_ite, ↓exs, ↓retV, ↓v_k, ↓v_gc, ↓v_v, ↓v_tup, ↓v_lst, ↓v_bin, ↓v_neg, ↓v_not, ↓v_and, ↓v_or, ↓v_cmp, ↓v_chain, ↓v_ife, ↓v_call, ↓v_calli, ↓v_b1, ↓v_b2, ↓v_isi, ↓v_ix, ↓v_sl, ↓v_lc, ↓v_app, ↓v_pop, ↓v_popA, ↓v_rev, ↓v_dget, ↓s_asg, ↓s_unp, ↓s_par, ↓s_setL, ↓s_ex, ↓s_iff, ↓s_for_, ↓s_whl, ↓s_ret, ↓s_pass, ↓s_brk, ↓s_cont, ↓s_bad, ↓evs, ↓evm, ↓evo, ↓evIt, ↓view, rd, getS, setS, there, ↓put_pl, plS_none, plS_d, plS_own, ↓putT, ↓putTs, ↓bindT, ↓bindTs, asInt, asBl, Val.toD, Val.slot, binD, cmpD, eqD,  bi2, isiD, isiT, ixD, atI, ixN, slD, lock, unlock, items?, isOwn, isNon, bi1_len_l, bi1_len_t, bi1_len_a, bi1_int_i, bi1_int_b, bi1_list_t, bi1_list_l, bi1_tup_t, bi1_tup_l, Man.d, ↓e1, e__law_waiting_2, wiped, isLate, h1, h2]
  · rw [fm_if, List.nil_append]
theorem wait_lc3 (Γ : Gam) (ms late : List Man) (p q c bk dr lv sm x y z on : Option Slot) :
    lcGo (lcF Γ (.n 11) t__law_waiting_3 e__law_waiting_3) [11] (ms.map Man.d) [p, q, c, bk, dr, lv, sm, x, y, z, some (.own (late.map Man.d)), on] [] =
      .ok ((ms.filter fun m => decide (m ∉ late)).map Man.d, [p, q, c, bk, dr, lv, sm, x, y, z, some (.own (late.map Man.d)), on]) := by
  refine (lcGo_typed (g := fun m => if decide (m ∉ late) = true then some m.d else none) fun m hm => ⟨[p, q, c, bk, dr, lv, sm, x, y, z, some (.own (late.map Man.d)), some (.d m.d)], ?_, by simp [mend, getS]⟩).trans ?_
  · have e1 := in_men m late
    unfold lcF t__law_waiting_3
    by_cases h1 : m ∈ late <;> simp [and_m, or_m, ↓runF_is, ↓runG_is, ↓bk_ok, ↓bk_no, bk_ite, oo_some, oo_none, oo_ite, ff_rt, ff_nx, ff_ite, fg_rt, fg_nx, fg_ite, ↓peek_v, ↓pe_k, ↓pe_gc, ↓pe_tup, ↓pe_lst, ↓pe_bin, ↓pe_neg, ↓pe_not, ↓pe_and, ↓pe_or, ↓pe_cmp, ↓pe_chain, ↓pe_ife, ↓pe_call, ↓pe_calli, ↓pe_b1, ↓pe_b2, ↓pe_isi, ↓pe_ix, ↓pe_sl, ↓pe_lc, ↓pe_app, ↓pe_pop, ↓pe_popA, ↓pe_rev, ↓pe_dget, pk_ok, pk_ite, ↓exs, ↓retV, ↓v_k, ↓v_gc, ↓v_v, ↓v_tup, ↓v_lst, ↓v_bin, ↓v_neg, ↓v_not, ↓v_and, ↓v_or, ↓v_cmp, ↓v_chain, ↓v_ife, ↓v_call, ↓v_calli, ↓v_b1, ↓v_b2, ↓v_isi, ↓v_ix, ↓v_sl, ↓v_lc, ↓v_app, ↓v_pop, ↓v_popA, ↓v_rev, ↓v_dget, ↓s_asg, ↓s_unp, ↓s_par, ↓s_setL, ↓s_ex, ↓s_iff, ↓s_for_, ↓s_whl, ↓s_ret, ↓s_pass, ↓s_brk, ↓s_cont, ↓s_bad, ↓evs, ↓evm, ↓evo, ↓evIt, ↓view, rd, getS, setS, there, ↓put_pl, plS_none, plS_d, plS_own, ↓putT, ↓putTs, ↓bindT, ↓bindTs, asInt, asBl, Val.toD, Val.slot, binD, cmpD, eqD,  bi2, isiD, isiT, ixD, atI, ixN, slD, lock, unlock, items?, isOwn, isNon, bi1_len_l, bi1_len_t, bi1_len_a, bi1_int_i, bi1_int_b, bi1_list_t, bi1_list_l, bi1_tup_t, bi1_tup_l, ↓e1, e__law_waiting_3, wiped, h1]
  · rw [fm_if, List.nil_append]
def leaveA (leave : Int) (m : Man) : Man := if m.n = leave then ⟨m.n, 1, m.s⟩ else m
theorem wait_lc4 (Γ : Gam) (ms : List Man) (leave : Int) (p q c bk dr sm x y z la on : Option Slot) :
    lcGo (lcF Γ (.t (.cons (.n 7) (.cons (.n 8) (.cons (.n 9) .nil)))) .non e__law_waiting_4) [7, 8, 9] (ms.map Man.d) [p, q, c, bk, dr, some (.d (.int leave)), sm, x, y, z, la, on] [] =
      .ok ((ms.map (leaveA leave)).map Man.d, [p, q, c, bk, dr, some (.d (.int leave)), sm, x, y, z, la, on]) := by
  refine (lcGo_typed (g := fun m => some (leaveA leave m).d) fun m hm => ⟨[p, q, c, bk, dr, some (.d (.int leave)), sm, some (.d (.int m.n)), some (.d (.int m.a)), some (.d (.int m.s)), la, on], ?_, by simp [mend, getS]⟩).trans ?_
  · unfold lcF
    by_cases h1 : m.n = leave <;> simp [and_m, or_m, ↓runF_is, ↓runG_is, ↓bk_ok, ↓bk_no, bk_ite, oo_some, oo_none, oo_ite, ff_rt, ff_nx, ff_ite, fg_rt, fg_nx, fg_ite, ↓peek_v, ↓pe_k, ↓pe_gc, ↓pe_tup, ↓pe_lst, ↓pe_bin, ↓pe_neg, ↓pe_not, ↓pe_and, ↓pe_or, ↓pe_cmp, ↓pe_chain, ↓pe_ife, ↓pe_call, ↓pe_calli, ↓pe_b1, ↓pe_b2, ↓pe_isi, ↓pe_ix, ↓pe_sl, ↓pe_lc, ↓pe_app, ↓pe_pop, ↓pe_popA, ↓pe_rev, ↓pe_dget, pk_ok, pk_ite, ↓exs, ↓retV, ↓v_k, ↓v_gc, ↓v_v, ↓v_tup, ↓v_lst, ↓v_bin, ↓v_neg, ↓v_not, ↓v_and, ↓v_or, ↓v_cmp, ↓v_chain, ↓v_ife, ↓v_call, ↓v_calli, ↓v_b1, ↓v_b2, ↓v_isi, ↓v_ix, ↓v_sl, ↓v_lc, ↓v_app, ↓v_pop, ↓v_popA, ↓v_rev, ↓v_dget, ↓s_asg, ↓s_unp, ↓s_par, ↓s_setL, ↓s_ex, ↓s_iff, ↓s_for_, ↓s_whl, ↓s_ret, ↓s_pass, ↓s_brk, ↓s_cont, ↓s_bad, ↓evs, ↓evm, ↓evo, ↓evIt, ↓view, rd, getS, setS, there, ↓put_pl, plS_none, plS_d, plS_own, ↓putT, ↓putTs, ↓bindT, ↓bindTs, asInt, asBl, Val.toD, Val.slot, binD, cmpD, eqD,  bi2, isiD, isiT, ixD, atI, ixN, slD, lock, unlock, items?, isOwn, isNon, bi1_len_l, bi1_len_t, bi1_len_a, bi1_int_i, bi1_int_b, bi1_list_t, bi1_list_l, bi1_tup_t, bi1_tup_l, Man.d, e__law_waiting_4, wiped, leaveA, h1]
  · rw [fm_map, List.nil_append, List.map_map]; rfl
end AW

set_option Elab.async false
set_option linter.all false
set_option maxRecDepth 100000
set_option maxHeartbeats 4000000
namespace AW
open PySem L2
variable {W : Nat}
theorem sl_three (a b c : D) (rest : List D) : slD (.tup (a :: b :: c :: rest)) none (some 3) = some (.d (.tup [a, b, c])) := by
  unfold slD cutD HT.sIx
  simp
def lateT (back : List Int) (ms : List Man) : List Man := (sortM ms).filter (isLate back)
def firstT (back : List Int) (ms : List Man) : List Man := lateT back ms ++ ms.filter fun m => decide (m ∉ lateT back ms)
def waitT (P : Pl) (ms : List Man) (back : List Int) (draw : Bool) (leave : Int) : List Man :=
  let s1 := ms.map (waitA back)
  let s2 := if P.late = "first" then firstT back s1 else s1
  let s3 := if draw = true then s2 ++ [⟨s2.length, 0, 0⟩] else s2
  s3.map (leaveA leave)
theorem firstT_len (back : List Int) (ms : List Man) : (firstT back ms).length ≤ ms.length + ms.length := by
  unfold firstT lateT
  rw [List.length_append]
  have h1 := List.length_filter_le (isLate back) (sortM ms)
  have h2 := List.length_filter_le (fun m => decide (m ∉ (sortM ms).filter (isLate back))) ms
  rw [sortM_len] at h1
  omega
theorem f_waiting (k : Nat) (P : Pl) (ms : List Man) (back : List Int) (draw : Bool) (leave : Int) (rest : List D) (h : ms.length ≤ 100) :
    (Gm W (k + 1)).f 22 [P.d, .lst (ms.map Man.d), .tup (rowD back :: .bl draw :: .int leave :: rest)] = .ok (.own ((waitT P ms back draw leave).map Man.d)) := by
  rw [u__law_waiting]
  have lm : lim = 16000000 := rfl
  have e0 := sl_three (rowD back) (.bl draw) (.int leave) rest
  obtain ⟨x, y, z, hx, hy, hz, e1⟩ := wait_loop (W := W) (Gm W k) back (some (.d P.d)) (some (.d (.lst (ms.map Man.d)))) (some (.d (.tup (rowD back :: .bl draw :: .int leave :: rest)))) (some (.d (.bl draw))) (some (.d (.int leave))) none none ms [] none none none rfl rfl rfl (by simp; omega)
  rw [List.nil_append] at e1
  simp only [List.map_nil] at e1
  have e2 := sorted_men_l (ms.map (waitA back)) (by rw [List.length_map]; omega)
  have e3 := fun p q c dr lv sm x y z la on => wait_lc2 (Gm W k) (sortM (ms.map (waitA back))) back p q c dr lv sm x y z la on
  have e4 := fun p q c bk dr lv sm x y z on => wait_lc3 (Gm W k) (ms.map (waitA back)) (lateT back (ms.map (waitA back))) p q c bk dr lv sm x y z on
  have e5 := fun (l : List Man) p q c bk dr sm x y z la on => wait_lc4 (Gm W k) l leave p q c bk dr sm x y z la on
  have fl := firstT_len back (ms.map (waitA back))
  rw [List.length_map] at fl
  generalize hq : ms.map (waitA back) = s1 at *
  have ls : s1.length = ms.length := by rw [← hq, List.length_map]
  simp only [Pl.d] at e1
  by_cases hf : P.late = "first"
  · have hF : firstT back s1 = lateT back s1 ++ s1.filter (fun m => decide (m ∉ lateT back s1)) := rfl
    have hL : (sortM s1).filter (isLate back) = lateT back s1 := rfl
    rw [hL] at e3
    generalize lateT back s1 = L at *
    generalize s1.filter (fun m => decide (m ∉ L)) = R at *
    rw [hF, List.length_append] at fl
    have l2 : L.length + R.length ≤ lim := by omega
    rw [hf] at e1
    cases draw
    · have e5' := e5 (L ++ R)
      rw [List.map_append] at e5'
      simp [and_m, or_m, ↓runF_is, ↓runG_is, ↓bk_ok, ↓bk_no, bk_ite, oo_some, oo_none, oo_ite, ff_rt, ff_nx, ff_ite, fg_rt, fg_nx, fg_ite, ↓peek_v, ↓pe_k, ↓pe_gc, ↓pe_tup, ↓pe_lst, ↓pe_bin, ↓pe_neg, ↓pe_not, ↓pe_and, ↓pe_or, ↓pe_cmp, ↓pe_chain, ↓pe_ife, ↓pe_call, ↓pe_calli, ↓pe_b1, ↓pe_b2, ↓pe_isi, ↓pe_ix, ↓pe_sl, ↓pe_lc, ↓pe_app, ↓pe_pop, ↓pe_popA, ↓pe_rev, ↓pe_dget, pk_ok, pk_ite, ↓exs, ↓retV, ↓v_k, ↓v_gc, ↓v_v, ↓v_tup, ↓v_lst, ↓v_bin, ↓v_neg, ↓v_not, ↓v_and, ↓v_or, ↓v_cmp, ↓v_chain, ↓v_ife, ↓v_call, ↓v_calli, ↓v_b1, ↓v_b2, ↓v_isi, ↓v_ix, ↓v_sl, ↓v_lc, ↓v_app, ↓v_pop, ↓v_popA, ↓v_rev, ↓v_dget, ↓s_asg, ↓s_unp, ↓s_par, ↓s_setL, ↓s_ex, ↓s_iff, ↓s_for_, ↓s_whl, ↓s_ret, ↓s_pass, ↓s_brk, ↓s_cont, ↓s_bad, ↓evs, ↓evm, ↓evo, ↓evIt, ↓view, rd, getS, setS, there, ↓put_pl, plS_none, plS_d, plS_own, ↓putT, ↓putTs, ↓bindT, ↓bindTs, asInt, asBl, Val.toD, Val.slot, binD, cmpD, eqD,  bi2, isiD, isiT, ixD, atI, ixN,  lock, unlock, items?, isOwn, isNon, bi1_len_l, bi1_len_t, bi1_len_a, bi1_int_i, bi1_int_b, bi1_list_t, bi1_list_l, bi1_tup_t, bi1_tup_l, b__law_waiting, Pl.d, ↓e0, ↓e1, ↓e2, ↓e3, ↓e4, hf, plain_is, hx, hy, hz, pnS_none, pnS_d, ↓e5', waitT, hq, l2, hF]
    · have e5' := e5 (L ++ R ++ [⟨(L ++ R).length, 0, 0⟩])
      have l3 : L.length + R.length < lim := by omega
      simp only [List.map_append, List.map_cons, List.map_nil, Man.d, List.length_append, Int.natCast_add, List.append_assoc] at e5'
      simp [and_m, or_m, ↓runF_is, ↓runG_is, ↓bk_ok, ↓bk_no, bk_ite, oo_some, oo_none, oo_ite, ff_rt, ff_nx, ff_ite, fg_rt, fg_nx, fg_ite, ↓peek_v, ↓pe_k, ↓pe_gc, ↓pe_tup, ↓pe_lst, ↓pe_bin, ↓pe_neg, ↓pe_not, ↓pe_and, ↓pe_or, ↓pe_cmp, ↓pe_chain, ↓pe_ife, ↓pe_call, ↓pe_calli, ↓pe_b1, ↓pe_b2, ↓pe_isi, ↓pe_ix, ↓pe_sl, ↓pe_lc, ↓pe_app, ↓pe_pop, ↓pe_popA, ↓pe_rev, ↓pe_dget, pk_ok, pk_ite, ↓exs, ↓retV, ↓v_k, ↓v_gc, ↓v_v, ↓v_tup, ↓v_lst, ↓v_bin, ↓v_neg, ↓v_not, ↓v_and, ↓v_or, ↓v_cmp, ↓v_chain, ↓v_ife, ↓v_call, ↓v_calli, ↓v_b1, ↓v_b2, ↓v_isi, ↓v_ix, ↓v_sl, ↓v_lc, ↓v_app, ↓v_pop, ↓v_popA, ↓v_rev, ↓v_dget, ↓s_asg, ↓s_unp, ↓s_par, ↓s_setL, ↓s_ex, ↓s_iff, ↓s_for_, ↓s_whl, ↓s_ret, ↓s_pass, ↓s_brk, ↓s_cont, ↓s_bad, ↓evs, ↓evm, ↓evo, ↓evIt, ↓view, rd, getS, setS, there, ↓put_pl, plS_none, plS_d, plS_own, ↓putT, ↓putTs, ↓bindT, ↓bindTs, asInt, asBl, Val.toD, Val.slot, binD, cmpD, eqD,  bi2, isiD, isiT, ixD, atI, ixN,  lock, unlock, items?, isOwn, isNon, bi1_len_l, bi1_len_t, bi1_len_a, bi1_int_i, bi1_int_b, bi1_list_t, bi1_list_l, bi1_tup_t, bi1_tup_l, b__law_waiting, Pl.d, ↓e0, ↓e1, ↓e2, ↓e3, ↓e4, hf, plain_is, hx, hy, hz, pnS_none, pnS_d, waitT, hq, l2, l3, hF, ↓e5', Man.d]
  · cases draw
    · have e5' := e5 s1
      simp [and_m, or_m, ↓runF_is, ↓runG_is, ↓bk_ok, ↓bk_no, bk_ite, oo_some, oo_none, oo_ite, ff_rt, ff_nx, ff_ite, fg_rt, fg_nx, fg_ite, ↓peek_v, ↓pe_k, ↓pe_gc, ↓pe_tup, ↓pe_lst, ↓pe_bin, ↓pe_neg, ↓pe_not, ↓pe_and, ↓pe_or, ↓pe_cmp, ↓pe_chain, ↓pe_ife, ↓pe_call, ↓pe_calli, ↓pe_b1, ↓pe_b2, ↓pe_isi, ↓pe_ix, ↓pe_sl, ↓pe_lc, ↓pe_app, ↓pe_pop, ↓pe_popA, ↓pe_rev, ↓pe_dget, pk_ok, pk_ite, ↓exs, ↓retV, ↓v_k, ↓v_gc, ↓v_v, ↓v_tup, ↓v_lst, ↓v_bin, ↓v_neg, ↓v_not, ↓v_and, ↓v_or, ↓v_cmp, ↓v_chain, ↓v_ife, ↓v_call, ↓v_calli, ↓v_b1, ↓v_b2, ↓v_isi, ↓v_ix, ↓v_sl, ↓v_lc, ↓v_app, ↓v_pop, ↓v_popA, ↓v_rev, ↓v_dget, ↓s_asg, ↓s_unp, ↓s_par, ↓s_setL, ↓s_ex, ↓s_iff, ↓s_for_, ↓s_whl, ↓s_ret, ↓s_pass, ↓s_brk, ↓s_cont, ↓s_bad, ↓evs, ↓evm, ↓evo, ↓evIt, ↓view, rd, getS, setS, there, ↓put_pl, plS_none, plS_d, plS_own, ↓putT, ↓putTs, ↓bindT, ↓bindTs, asInt, asBl, Val.toD, Val.slot, binD, cmpD, eqD,  bi2, isiD, isiT, ixD, atI, ixN,  lock, unlock, items?, isOwn, isNon, bi1_len_l, bi1_len_t, bi1_len_a, bi1_int_i, bi1_int_b, bi1_list_t, bi1_list_l, bi1_tup_t, bi1_tup_l, b__law_waiting, Pl.d, ↓e0, ↓e1, hf, plain_is, hx, hy, hz, pnS_none, pnS_d, ↓e5', waitT, hq]
    · have e5' := e5 (s1 ++ [⟨s1.length, 0, 0⟩])
      have l1 : s1.length < lim := by omega
      simp [Man.d] at e5'
      simp [and_m, or_m, ↓runF_is, ↓runG_is, ↓bk_ok, ↓bk_no, bk_ite, oo_some, oo_none, oo_ite, ff_rt, ff_nx, ff_ite, fg_rt, fg_nx, fg_ite, ↓peek_v, ↓pe_k, ↓pe_gc, ↓pe_tup, ↓pe_lst, ↓pe_bin, ↓pe_neg, ↓pe_not, ↓pe_and, ↓pe_or, ↓pe_cmp, ↓pe_chain, ↓pe_ife, ↓pe_call, ↓pe_calli, ↓pe_b1, ↓pe_b2, ↓pe_isi, ↓pe_ix, ↓pe_sl, ↓pe_lc, ↓pe_app, ↓pe_pop, ↓pe_popA, ↓pe_rev, ↓pe_dget, pk_ok, pk_ite, ↓exs, ↓retV, ↓v_k, ↓v_gc, ↓v_v, ↓v_tup, ↓v_lst, ↓v_bin, ↓v_neg, ↓v_not, ↓v_and, ↓v_or, ↓v_cmp, ↓v_chain, ↓v_ife, ↓v_call, ↓v_calli, ↓v_b1, ↓v_b2, ↓v_isi, ↓v_ix, ↓v_sl, ↓v_lc, ↓v_app, ↓v_pop, ↓v_popA, ↓v_rev, ↓v_dget, ↓s_asg, ↓s_unp, ↓s_par, ↓s_setL, ↓s_ex, ↓s_iff, ↓s_for_, ↓s_whl, ↓s_ret, ↓s_pass, ↓s_brk, ↓s_cont, ↓s_bad, ↓evs, ↓evm, ↓evo, ↓evIt, ↓view, rd, getS, setS, there, ↓put_pl, plS_none, plS_d, plS_own, ↓putT, ↓putTs, ↓bindT, ↓bindTs, asInt, asBl, Val.toD, Val.slot, binD, cmpD, eqD,  bi2, isiD, isiT, ixD, atI, ixN,  lock, unlock, items?, isOwn, isNon, bi1_len_l, bi1_len_t, bi1_len_a, bi1_int_i, bi1_int_b, bi1_list_t, bi1_list_l, bi1_tup_t, bi1_tup_l, b__law_waiting, Pl.d, ↓e0, ↓e1, hf, plain_is, hx, hy, hz, pnS_none, pnS_d, ↓e5', waitT, hq, l1, Man.d]
end AW

set_option Elab.async false
set_option linter.all false
set_option maxRecDepth 100000
set_option maxHeartbeats 4000000
namespace AW
open PySem L2
variable {W : Nat}
def shiftA (n : Int) (m : Man) : Man := ⟨if n < m.n then m.n - 1 else m.n, m.a, m.s⟩
theorem called_turn (Γ : Gam) (m : Man) (left : List Man) (n : Int) (s0 s1 s2 s3 s4 s6 s7 s8 s9 s10 x y z : Option Slot) (hx : plS x = true) (hy : plS y = true) (hz : plS z = true) (hl : left.length < 1000) :
    fF Γ W (.t (.cons (.n 12) (.cons (.n 13) (.cons (.n 14) .nil)))) b__law_called_1 m.d [s0, s1, s2, s3, s4, some (.d (.int n)), s6, s7, s8, s9, s10, some (.own (left.map Man.d)), x, y, z] =
      .ok (.nx, [s0, s1, s2, s3, s4, some (.d (.int n)), s6, s7, s8, s9, s10, some (.own ((left ++ [shiftA n m]).map Man.d)), some (.d (.int m.n)), some (.d (.int m.a)), some (.d (.int m.s))]) := by
  have lm : lim = 16000000 := rfl
  have l1 : left.length < lim := by omega
  unfold fF
  by_cases h1 : n < m.n <;> simp [and_m, or_m, ↓runF_is, ↓runG_is, ↓bk_ok, ↓bk_no, bk_ite, oo_some, oo_none, oo_ite, ff_rt, ff_nx, ff_ite, fg_rt, fg_nx, fg_ite, ↓peek_v, ↓pe_k, ↓pe_gc, ↓pe_tup, ↓pe_lst, ↓pe_bin, ↓pe_neg, ↓pe_not, ↓pe_and, ↓pe_or, ↓pe_cmp, ↓pe_chain, ↓pe_ife, ↓pe_call, ↓pe_calli, ↓pe_b1, ↓pe_b2, ↓pe_isi, ↓pe_ix, ↓pe_sl, ↓pe_lc, ↓pe_app, ↓pe_pop, ↓pe_popA, ↓pe_rev, ↓pe_dget, pk_ok, pk_ite, ↓exs, ↓retV, ↓v_k, ↓v_gc, ↓v_v, ↓v_tup, ↓v_lst, ↓v_bin, ↓v_neg, ↓v_not, ↓v_and, ↓v_or, ↓v_cmp, ↓v_chain, ↓v_ife, ↓v_call, ↓v_calli, ↓v_b1, ↓v_b2, ↓v_isi, ↓v_ix, ↓v_sl, ↓v_lc, ↓v_app, ↓v_pop, ↓v_popA, ↓v_rev, ↓v_dget, ↓s_asg, ↓s_unp, ↓s_par, ↓s_setL, ↓s_ex, ↓s_iff, ↓s_for_, ↓s_whl, ↓s_ret, ↓s_pass, ↓s_brk, ↓s_cont, ↓s_bad, ↓evs, ↓evm, ↓evo, ↓evIt, ↓view, rd, getS, setS, there, ↓put_pl, plS_none, plS_d, plS_own, ↓putT, ↓putTs, ↓bindT, ↓bindTs, asInt, asBl, Val.toD, Val.slot, b_addi, b_subi, cmpD, eqD,  bi2, isiD, isiT, ixD, atI, ixN,  lock, unlock, items?, isOwn, isNon, bi1_len_l, bi1_len_t, bi1_len_a, bi1_int_i, bi1_int_b, bi1_list_t, bi1_list_l, bi1_tup_t, bi1_tup_l, hx, hy, hz, b__law_called_1, Man.d, h1, shiftA, l1]
theorem called_loop (Γ : Gam) (n : Int) (s0 s1 s2 s3 s4 s6 s7 s8 s9 s10 : Option Slot) : ∀ (ms left : List Man) (x y z : Option Slot), plS x = true → plS y = true → plS z = true → left.length + ms.length ≤ 1000 →
    ∃ x' y' z', forGo (fF Γ W (.t (.cons (.n 12) (.cons (.n 13) (.cons (.n 14) .nil)))) b__law_called_1) (ms.map Man.d) [s0, s1, s2, s3, s4, some (.d (.int n)), s6, s7, s8, s9, s10, some (.own (left.map Man.d)), x, y, z] =
      .ok (.nx, [s0, s1, s2, s3, s4, some (.d (.int n)), s6, s7, s8, s9, s10, some (.own ((left ++ ms.map (shiftA n)).map Man.d)), x', y', z'])
  | [], left, x, y, z, _, _, _, _ => ⟨x, y, z, by unfold forGo; simp⟩
  | m :: ms, left, x, y, z, hx, hy, hz, hl => by
    rw [List.length_cons] at hl
    obtain ⟨x', y', z', e⟩ := called_loop Γ n s0 s1 s2 s3 s4 s6 s7 s8 s9 s10 ms (left ++ [shiftA n m]) (some (.d (.int m.n))) (some (.d (.int m.a))) (some (.d (.int m.s))) rfl rfl rfl (by rw [List.length_append]; simp; omega)
    refine ⟨x', y', z', ?_⟩
    rw [List.map_cons]
    unfold forGo
    rw [called_turn Γ m left n s0 s1 s2 s3 s4 s6 s7 s8 s9 s10 x y z hx hy hz (by omega)]
    dsimp only
    rw [e]
    simp
def atT (P : Pl) (n : Nat) : Nat := if P.after = "same" then 0 else if P.after = "next" then 1 else n
def skipsB (P : Pl) (m : Man) : Bool := decide (0 < m.a) && decide (m.s < P.skips)
def leftT (P : Pl) (m : Man) (r : List Man) : List Man := if skipsB P m = true then r.take (atT P r.length) ++ [⟨m.n, m.a, m.s + 1⟩] ++ r.drop (atT P r.length) else r.map (shiftA m.n)
def wordT (P : Pl) (m : Man) : Str := if skipsB P m = true then "skips" else if 0 < m.a then "lapses" else "serves"
theorem f_called (k : Nat) (P : Pl) (m : Man) (r : List Man) (h : r.length ≤ 900) :
    (Gm W (k + 1)).f 23 [P.d, .lst ((m :: r).map Man.d)] = .ok (.d (.tup [.lst ((leftT P m r).map Man.d), .tup [.str (wordT P m), .int m.n]])) := by
  rw [u__law_called]
  have lm : lim = 16000000 := rfl
  by_cases hs : skipsB P m = true
  · have hs' := hs
    unfold skipsB at hs'
    simp only [Bool.and_eq_true, decide_eq_true_eq] at hs'
    obtain ⟨h1, h2⟩ := hs'
    have e1 := sl_tail m.d (r.map Man.d)
    have e2 := sl_take (r.map Man.d) (atT P r.length)
    have e3 := sl_drop (r.map Man.d) (atT P r.length)
    rw [← List.map_take] at e2
    rw [← List.map_drop] at e3
    have l1 : (r.take (atT P r.length)).length ≤ r.length := by rw [List.length_take]; omega
    have l2 : (r.drop (atT P r.length)).length ≤ r.length := by rw [List.length_drop]; omega
    have hat : ∀ A B, r.take (atT P r.length) = A → r.drop (atT P r.length) = B → leftT P m r = A ++ [⟨m.n, m.a, m.s + 1⟩] ++ B := fun A B ha hb => by unfold leftT; rw [if_pos hs, ha, hb]
    have hl := hat _ _ rfl rfl
    rw [hl]
    clear hat hl
    generalize r.take (atT P r.length) = A at *
    generalize r.drop (atT P r.length) = B at *
    have e4 : binD .Add (.lst (A.map Man.d)) (.lst [Man.d ⟨m.n, m.a, m.s + 1⟩]) = _ := b_addl (by simp; omega)
    have e5 : binD .Add (.lst (A.map Man.d ++ [Man.d ⟨m.n, m.a, m.s + 1⟩])) (.lst (B.map Man.d)) = _ := b_addl (by simp; omega)
    have hw : wordT P m = "skips" := if_pos hs
    rw [hw]
    simp only [Man.d] at e1 e4 e5
    unfold atT at e2 e3
    by_cases a1 : P.after = "same"
    · rw [if_pos a1] at e2 e3
      have e2' : slD (.lst (r.map Man.d)) none (some 0) = _ := e2
      have e3' : slD (.lst (r.map Man.d)) (some 0) none = _ := e3
      simp [and_m, or_m, ↓runF_is, ↓runG_is, ↓bk_ok, ↓bk_no, bk_ite, oo_some, oo_none, oo_ite, ff_rt, ff_nx, ff_ite, fg_rt, fg_nx, fg_ite, ↓peek_v, ↓pe_k, ↓pe_gc, ↓pe_tup, ↓pe_lst, ↓pe_bin, ↓pe_neg, ↓pe_not, ↓pe_and, ↓pe_or, ↓pe_cmp, ↓pe_chain, ↓pe_ife, ↓pe_call, ↓pe_calli, ↓pe_b1, ↓pe_b2, ↓pe_isi, ↓pe_ix, ↓pe_sl, ↓pe_lc, ↓pe_app, ↓pe_pop, ↓pe_popA, ↓pe_rev, ↓pe_dget, pk_ok, pk_ite, ↓exs, ↓retV, ↓v_k, ↓v_gc, ↓v_v, ↓v_tup, ↓v_lst, ↓v_bin, ↓v_neg, ↓v_not, ↓v_and, ↓v_or, ↓v_cmp, ↓v_chain, ↓v_ife, ↓v_call, ↓v_calli, ↓v_b1, ↓v_b2, ↓v_isi, ↓v_ix, ↓v_sl, ↓v_lc, ↓v_app, ↓v_pop, ↓v_popA, ↓v_rev, ↓v_dget, ↓s_asg, ↓s_unp, ↓s_par, ↓s_setL, ↓s_ex, ↓s_iff, ↓s_for_, ↓s_whl, ↓s_ret, ↓s_pass, ↓s_brk, ↓s_cont, ↓s_bad, ↓evs, ↓evm, ↓evo, ↓evIt, ↓view, rd, getS, setS, there, ↓put_pl, plS_none, plS_d, plS_own, ↓putT, ↓putTs, ↓bindT, ↓bindTs, asInt, asBl, Val.toD, Val.slot, b_addi, b_subi, cmpD, eqD,  bi2, isiD, isiT, ixD, atI, ixN,  lock, unlock, items?, isOwn, isNon, bi1_len_l, bi1_len_t, bi1_len_a, bi1_int_i, bi1_int_b, bi1_list_t, bi1_list_l, bi1_tup_t, bi1_tup_l, b__law_called, Pl.d, Man.d, h1, h2, ↓e1, ↓e4, ↓e5, a1, List.lookup, ↓e2', ↓e3']
    · rw [if_neg a1] at e2 e3
      have a1' : (P.after == ("same" : Str)) = false := by simpa using a1
      by_cases a2 : P.after = "next"
      · rw [if_pos a2] at e2 e3
        have e2' : slD (.lst (r.map Man.d)) none (some 1) = _ := e2
        have e3' : slD (.lst (r.map Man.d)) (some 1) none = _ := e3
        have n12 : (Str.ofString "next" == Str.ofString "same") = false := by decide +kernel
        simp [and_m, or_m, ↓runF_is, ↓runG_is, ↓bk_ok, ↓bk_no, bk_ite, oo_some, oo_none, oo_ite, ff_rt, ff_nx, ff_ite, fg_rt, fg_nx, fg_ite, ↓peek_v, ↓pe_k, ↓pe_gc, ↓pe_tup, ↓pe_lst, ↓pe_bin, ↓pe_neg, ↓pe_not, ↓pe_and, ↓pe_or, ↓pe_cmp, ↓pe_chain, ↓pe_ife, ↓pe_call, ↓pe_calli, ↓pe_b1, ↓pe_b2, ↓pe_isi, ↓pe_ix, ↓pe_sl, ↓pe_lc, ↓pe_app, ↓pe_pop, ↓pe_popA, ↓pe_rev, ↓pe_dget, pk_ok, pk_ite, ↓exs, ↓retV, ↓v_k, ↓v_gc, ↓v_v, ↓v_tup, ↓v_lst, ↓v_bin, ↓v_neg, ↓v_not, ↓v_and, ↓v_or, ↓v_cmp, ↓v_chain, ↓v_ife, ↓v_call, ↓v_calli, ↓v_b1, ↓v_b2, ↓v_isi, ↓v_ix, ↓v_sl, ↓v_lc, ↓v_app, ↓v_pop, ↓v_popA, ↓v_rev, ↓v_dget, ↓s_asg, ↓s_unp, ↓s_par, ↓s_setL, ↓s_ex, ↓s_iff, ↓s_for_, ↓s_whl, ↓s_ret, ↓s_pass, ↓s_brk, ↓s_cont, ↓s_bad, ↓evs, ↓evm, ↓evo, ↓evIt, ↓view, rd, getS, setS, there, ↓put_pl, plS_none, plS_d, plS_own, ↓putT, ↓putTs, ↓bindT, ↓bindTs, asInt, asBl, Val.toD, Val.slot, b_addi, b_subi, cmpD, eqD,  bi2, isiD, isiT, ixD, atI, ixN,  lock, unlock, items?, isOwn, isNon, bi1_len_l, bi1_len_t, bi1_len_a, bi1_int_i, bi1_int_b, bi1_list_t, bi1_list_l, bi1_tup_t, bi1_tup_l, b__law_called, Pl.d, Man.d, h1, h2, ↓e1, ↓e4, ↓e5, a2, List.lookup, ↓e2', ↓e3', n12]
      · rw [if_neg a2] at e2 e3
        have a2' : (P.after == ("next" : Str)) = false := by simpa using a2
        simp [and_m, or_m, ↓runF_is, ↓runG_is, ↓bk_ok, ↓bk_no, bk_ite, oo_some, oo_none, oo_ite, ff_rt, ff_nx, ff_ite, fg_rt, fg_nx, fg_ite, ↓peek_v, ↓pe_k, ↓pe_gc, ↓pe_tup, ↓pe_lst, ↓pe_bin, ↓pe_neg, ↓pe_not, ↓pe_and, ↓pe_or, ↓pe_cmp, ↓pe_chain, ↓pe_ife, ↓pe_call, ↓pe_calli, ↓pe_b1, ↓pe_b2, ↓pe_isi, ↓pe_ix, ↓pe_sl, ↓pe_lc, ↓pe_app, ↓pe_pop, ↓pe_popA, ↓pe_rev, ↓pe_dget, pk_ok, pk_ite, ↓exs, ↓retV, ↓v_k, ↓v_gc, ↓v_v, ↓v_tup, ↓v_lst, ↓v_bin, ↓v_neg, ↓v_not, ↓v_and, ↓v_or, ↓v_cmp, ↓v_chain, ↓v_ife, ↓v_call, ↓v_calli, ↓v_b1, ↓v_b2, ↓v_isi, ↓v_ix, ↓v_sl, ↓v_lc, ↓v_app, ↓v_pop, ↓v_popA, ↓v_rev, ↓v_dget, ↓s_asg, ↓s_unp, ↓s_par, ↓s_setL, ↓s_ex, ↓s_iff, ↓s_for_, ↓s_whl, ↓s_ret, ↓s_pass, ↓s_brk, ↓s_cont, ↓s_bad, ↓evs, ↓evm, ↓evo, ↓evIt, ↓view, rd, getS, setS, there, ↓put_pl, plS_none, plS_d, plS_own, ↓putT, ↓putTs, ↓bindT, ↓bindTs, asInt, asBl, Val.toD, Val.slot, b_addi, b_subi, cmpD, eqD,  bi2, isiD, isiT, ixD, atI, ixN,  lock, unlock, items?, isOwn, isNon, bi1_len_l, bi1_len_t, bi1_len_a, bi1_int_i, bi1_int_b, bi1_list_t, bi1_list_l, bi1_tup_t, bi1_tup_l, b__law_called, Pl.d, Man.d, h1, h2, ↓e1, ↓e4, ↓e5, a1', a2', List.lookup, ↓e2, ↓e3]
  · have hw : wordT P m = if 0 < m.a then ("lapses" : Str) else "serves" := if_neg hs
    have hl : leftT P m r = r.map (shiftA m.n) := if_neg hs
    rw [hw, hl]
    have hs' : ¬ (0 < m.a ∧ m.s < P.skips) := by simpa [skipsB] using hs
    have e1 := sl_tail m.d (r.map Man.d)
    simp only [Man.d] at e1
    have lp := fun s2 s3 s4 s6 s7 => called_loop (W := W) (Gm W k) m.n (some (.d P.d)) (some (.d (.lst ((m :: r).map Man.d)))) s2 s3 s4 s6 s7 none none none r [] none none none rfl rfl rfl (by simp; omega)
    obtain ⟨x, y, z, e2⟩ := lp (some (.d (.int P.skips))) (some (.d (.str P.after))) (some (.d (.str P.late))) (some (.d (.int m.a))) (some (.d (.int m.s)))
    simp only [List.map_nil, List.nil_append, List.map_cons, Pl.d, Man.d] at e2
    by_cases h1 : 0 < m.a
    · have h2 : ¬ m.s < P.skips := fun z => hs' ⟨h1, z⟩
      simp [and_m, or_m, ↓runF_is, ↓runG_is, ↓bk_ok, ↓bk_no, bk_ite, oo_some, oo_none, oo_ite, ff_rt, ff_nx, ff_ite, fg_rt, fg_nx, fg_ite, ↓peek_v, ↓pe_k, ↓pe_gc, ↓pe_tup, ↓pe_lst, ↓pe_bin, ↓pe_neg, ↓pe_not, ↓pe_and, ↓pe_or, ↓pe_cmp, ↓pe_chain, ↓pe_ife, ↓pe_call, ↓pe_calli, ↓pe_b1, ↓pe_b2, ↓pe_isi, ↓pe_ix, ↓pe_sl, ↓pe_lc, ↓pe_app, ↓pe_pop, ↓pe_popA, ↓pe_rev, ↓pe_dget, pk_ok, pk_ite, ↓exs, ↓retV, ↓v_k, ↓v_gc, ↓v_v, ↓v_tup, ↓v_lst, ↓v_bin, ↓v_neg, ↓v_not, ↓v_and, ↓v_or, ↓v_cmp, ↓v_chain, ↓v_ife, ↓v_call, ↓v_calli, ↓v_b1, ↓v_b2, ↓v_isi, ↓v_ix, ↓v_sl, ↓v_lc, ↓v_app, ↓v_pop, ↓v_popA, ↓v_rev, ↓v_dget, ↓s_asg, ↓s_unp, ↓s_par, ↓s_setL, ↓s_ex, ↓s_iff, ↓s_for_, ↓s_whl, ↓s_ret, ↓s_pass, ↓s_brk, ↓s_cont, ↓s_bad, ↓evs, ↓evm, ↓evo, ↓evIt, ↓view, rd, getS, setS, there, ↓put_pl, plS_none, plS_d, plS_own, ↓putT, ↓putTs, ↓bindT, ↓bindTs, asInt, asBl, Val.toD, Val.slot, b_addi, b_subi, cmpD, eqD,  bi2, isiD, isiT, ixD, atI, ixN,  lock, unlock, items?, isOwn, isNon, bi1_len_l, bi1_len_t, bi1_len_a, bi1_int_i, bi1_int_b, bi1_list_t, bi1_list_l, bi1_tup_t, bi1_tup_l, b__law_called, Pl.d, Man.d, h1, h2, ↓e1, ↓e2]
    · simp [and_m, or_m, ↓runF_is, ↓runG_is, ↓bk_ok, ↓bk_no, bk_ite, oo_some, oo_none, oo_ite, ff_rt, ff_nx, ff_ite, fg_rt, fg_nx, fg_ite, ↓peek_v, ↓pe_k, ↓pe_gc, ↓pe_tup, ↓pe_lst, ↓pe_bin, ↓pe_neg, ↓pe_not, ↓pe_and, ↓pe_or, ↓pe_cmp, ↓pe_chain, ↓pe_ife, ↓pe_call, ↓pe_calli, ↓pe_b1, ↓pe_b2, ↓pe_isi, ↓pe_ix, ↓pe_sl, ↓pe_lc, ↓pe_app, ↓pe_pop, ↓pe_popA, ↓pe_rev, ↓pe_dget, pk_ok, pk_ite, ↓exs, ↓retV, ↓v_k, ↓v_gc, ↓v_v, ↓v_tup, ↓v_lst, ↓v_bin, ↓v_neg, ↓v_not, ↓v_and, ↓v_or, ↓v_cmp, ↓v_chain, ↓v_ife, ↓v_call, ↓v_calli, ↓v_b1, ↓v_b2, ↓v_isi, ↓v_ix, ↓v_sl, ↓v_lc, ↓v_app, ↓v_pop, ↓v_popA, ↓v_rev, ↓v_dget, ↓s_asg, ↓s_unp, ↓s_par, ↓s_setL, ↓s_ex, ↓s_iff, ↓s_for_, ↓s_whl, ↓s_ret, ↓s_pass, ↓s_brk, ↓s_cont, ↓s_bad, ↓evs, ↓evm, ↓evo, ↓evIt, ↓view, rd, getS, setS, there, ↓put_pl, plS_none, plS_d, plS_own, ↓putT, ↓putTs, ↓bindT, ↓bindTs, asInt, asBl, Val.toD, Val.slot, b_addi, b_subi, cmpD, eqD,  bi2, isiD, isiT, ixD, atI, ixN,  lock, unlock, items?, isOwn, isNon, bi1_len_l, bi1_len_t, bi1_len_a, bi1_int_i, bi1_int_b, bi1_list_t, bi1_list_l, bi1_tup_t, bi1_tup_l, b__law_called, Pl.d, Man.d, h1, ↓e1, ↓e2]
end AW

set_option Elab.async false
set_option linter.all false
set_option maxRecDepth 100000
set_option maxHeartbeats 4000000
namespace AW
open PySem L2
variable {W : Nat}
theorem eq_nil {xs : List D} (h : D.deps xs ≤ 59) : cmpD .Eq (.lst xs) (.lst []) = some xs.isEmpty := by
  show (if (D.lst xs).dep ≤ 60 ∧ (D.lst []).dep ≤ 60 then some (D.eqv (.lst xs) (.lst [])) else none) = _
  rw [if_pos ⟨by simp only [D.dep]; omega, by simp [D.dep, D.deps]⟩]
  cases xs <;> simp [D.eqv, D.eqvs]
theorem ne_nil {xs : List D} (h : D.deps xs ≤ 59) : cmpD .NotEq (.lst xs) (.lst []) = some !xs.isEmpty := by
  show (cmpD .Eq (.lst xs) (.lst [])).map (!·) = _
  rw [eq_nil h]
  rfl
theorem empty_map {α β : Type} (f : α → β) (xs : List α) : (xs.map f).isEmpty = xs.isEmpty := by cases xs <;> rfl
theorem deps_ints : ∀ xs : List Int, D.deps (xs.map D.int) = 0
  | [] => rfl
  | _ :: r => by simp only [List.map_cons, D.deps, D.dep]; rw [deps_ints r]; rfl
theorem eq_nil_men (ms : List Man) : cmpD .Eq (.lst (ms.map Man.d)) (.lst []) = some ms.isEmpty := by
  rw [eq_nil (by have := deps_men ms; omega), empty_map]
theorem ne_nil_men (ms : List Man) : cmpD .NotEq (.lst (ms.map Man.d)) (.lst []) = some !ms.isEmpty := by
  rw [ne_nil (by have := deps_men ms; omega), empty_map]
theorem ne_nil_ints (ns : List Int) : cmpD .NotEq (.lst (ns.map D.int)) (.lst []) = some !ns.isEmpty := by
  rw [ne_nil (by rw [deps_ints]; omega), empty_map]
def sortS (hs : List Str) : List Str := hs.mergeSort (PySem.W.dataLe false fun s => (D.str s).py)
theorem sortS_d (hs : List Str) : sortD (hs.map D.str) = (sortS hs).map D.str := by
  unfold sortD sortS
  exact (PySem.W.sort_maps (f := D.str) (fun a _ b _ => rfl)).symm
theorem sorted_strs (hs : List Str) (h : hs.length ≤ 1000) : bi1 .sorted (.lst (hs.map D.str)) = some (.own ((sortS hs).map D.str)) := by
  unfold bi1
  dsimp only
  have l : lim = 16000000 := rfl
  have : sortable (hs.map D.str) = true := by
    unfold sortable
    simp only [Bool.and_eq_true, Bool.or_eq_true, decide_eq_true_eq, List.length_map]
    refine ⟨⟨⟨by omega, by rw [deps_strs]; omega⟩, ?_⟩, .inr ?_⟩
    · rw [List.all_eq_true]
      intro x hx
      rw [List.all_eq_true]
      intro y hy
      obtain ⟨m, _, rfl⟩ := List.mem_map.mp hx
      obtain ⟨m', _, rfl⟩ := List.mem_map.mp hy
      simp [D.py, PySem.W.alike]
    · rw [List.all_eq_true]
      intro x hx
      obtain ⟨m, _, rfl⟩ := List.mem_map.mp hx
      rfl
  rw [if_pos this, sortS_d]
def servedT (done : Bool) (served : Int) : Int := if (done || decide (served < 0)) = true then -1 else served + 1
theorem tick_r2 (Γ : Gam) (cb cd cl call : D) (done : Bool) (served : Int) (left : List Man) (hs : List Str) (s0 s1 s3 s8 s9 s10 s11 s12 : Option Slot) (h : hs.length ≤ 1000) :
    finF (exs Γ W r__law_tick_2 [s0, s1, some (.d (.tup [cb, cd, cl, .bl done])), s3, some (.d call), some (.d (.int served)), some (.d (.lst (left.map Man.d))), some (.own (hs.map D.str)), s8, s9, s10, s11, s12]) =
      .ok (.d (.tup [.tup [.tup (left.map Man.d), .int (servedT done served)], call, .lst ((sortS hs).map D.str)])) := by
  have e1 := sorted_strs hs h
  cases done <;> by_cases h1 : served < 0 <;> simp [and_m, or_m, ↓runF_is, ↓runG_is, ↓bk_ok, ↓bk_no, bk_ite, oo_some, oo_none, oo_ite, ff_rt, ff_nx, ff_ite, fg_rt, fg_nx, fg_ite, ↓peek_v, ↓pe_k, ↓pe_gc, ↓pe_tup, ↓pe_lst, ↓pe_bin, ↓pe_neg, ↓pe_not, ↓pe_and, ↓pe_or, ↓pe_cmp, ↓pe_chain, ↓pe_ife, ↓pe_call, ↓pe_calli, ↓pe_b1, ↓pe_b2, ↓pe_isi, ↓pe_ix, ↓pe_sl, ↓pe_lc, ↓pe_app, ↓pe_pop, ↓pe_popA, ↓pe_rev, ↓pe_dget, pk_ok, pk_ite, ↓exs, ↓retV, ↓v_k, ↓v_gc, ↓v_v, ↓v_tup, ↓v_lst, ↓v_bin, ↓v_neg, ↓v_not, ↓v_and, ↓v_or, ↓v_cmp, ↓v_chain, ↓v_ife, ↓v_call, ↓v_calli, ↓v_b1, ↓v_b2, ↓v_isi, ↓v_ix, ↓v_sl, ↓v_lc, ↓v_app, ↓v_pop, ↓v_popA, ↓v_rev, ↓v_dget, ↓s_asg, ↓s_unp, ↓s_par, ↓s_setL, ↓s_ex, ↓s_iff, ↓s_for_, ↓s_whl, ↓s_ret, ↓s_pass, ↓s_brk, ↓s_cont, ↓s_bad, ↓evs, ↓evm, ↓evo, ↓evIt, ↓view, rd, getS, setS, there, ↓put_pl, plS_none, plS_d, plS_own, ↓putT, ↓putTs, ↓bindT, ↓bindTs, asInt, asBl, Val.toD, Val.slot, b_addi, b_subi, c_lti, c_lei, c_gti, c_gei, c_eqi, c_nei, c_eqs, c_nes, c_in, c_nin, eqD,  bi2, isiD, isiT, ixD, atI, ixN,  lock, unlock, items?, isOwn, isNon, bi1_len_l, bi1_len_t, bi1_len_a, bi1_int_i, bi1_int_b, bi1_list_t, bi1_list_l, bi1_tup_t, bi1_tup_l, r__law_tick_2, ↓e1, h1, servedT]
theorem tick_lc3 (Γ : Gam) (ms : List Man) (s0 s1 s2 s3 s4 s5 s6 s7 s8 s9 s10 s11 s12 : Option Slot) :
    lcGo (lcF Γ (.n 12) t__law_tick_3 e__law_tick_3) [12] (ms.map Man.d) [s0, s1, s2, s3, s4, s5, s6, s7, s8, s9, s10, s11, s12] [] =
      .ok ((ms.filter fun m => decide (m.a = 0)).map Man.d, [s0, s1, s2, s3, s4, s5, s6, s7, s8, s9, s10, s11, s12]) := by
  refine (lcGo_typed (g := fun m => if decide (m.a = 0) = true then some m.d else none) fun m hm => ⟨[s0, s1, s2, s3, s4, s5, s6, s7, s8, s9, s10, s11, some (.d m.d)], ?_, by simp [mend, getS]⟩).trans ?_
  · unfold lcF t__law_tick_3
    by_cases h1 : m.a = 0 <;> simp [and_m, or_m, ↓runF_is, ↓runG_is, ↓bk_ok, ↓bk_no, bk_ite, oo_some, oo_none, oo_ite, ff_rt, ff_nx, ff_ite, fg_rt, fg_nx, fg_ite, ↓peek_v, ↓pe_k, ↓pe_gc, ↓pe_tup, ↓pe_lst, ↓pe_bin, ↓pe_neg, ↓pe_not, ↓pe_and, ↓pe_or, ↓pe_cmp, ↓pe_chain, ↓pe_ife, ↓pe_call, ↓pe_calli, ↓pe_b1, ↓pe_b2, ↓pe_isi, ↓pe_ix, ↓pe_sl, ↓pe_lc, ↓pe_app, ↓pe_pop, ↓pe_popA, ↓pe_rev, ↓pe_dget, pk_ok, pk_ite, ↓exs, ↓retV, ↓v_k, ↓v_gc, ↓v_v, ↓v_tup, ↓v_lst, ↓v_bin, ↓v_neg, ↓v_not, ↓v_and, ↓v_or, ↓v_cmp, ↓v_chain, ↓v_ife, ↓v_call, ↓v_calli, ↓v_b1, ↓v_b2, ↓v_isi, ↓v_ix, ↓v_sl, ↓v_lc, ↓v_app, ↓v_pop, ↓v_popA, ↓v_rev, ↓v_dget, ↓s_asg, ↓s_unp, ↓s_par, ↓s_setL, ↓s_ex, ↓s_iff, ↓s_for_, ↓s_whl, ↓s_ret, ↓s_pass, ↓s_brk, ↓s_cont, ↓s_bad, ↓evs, ↓evm, ↓evo, ↓evIt, ↓view, rd, getS, setS, there, ↓put_pl, plS_none, plS_d, plS_own, ↓putT, ↓putTs, ↓bindT, ↓bindTs, asInt, asBl, Val.toD, Val.slot, b_addi, b_subi, c_lti, c_lei, c_gti, c_gei, c_eqi, c_nei, c_eqs, c_nes, c_in, c_nin, eqD,  bi2, isiD, isiT, ixD, atI, ixN,  lock, unlock, items?, isOwn, isNon, bi1_len_l, bi1_len_t, bi1_len_a, bi1_int_i, bi1_int_b, bi1_list_t, bi1_list_l, bi1_tup_t, bi1_tup_l, Man.d, e__law_tick_3, wiped, h1]
  · rw [fm_if, List.nil_append]
theorem tick_lc4 (Γ : Gam) (ms : List Man) (s0 s1 s2 s3 s4 s5 s6 s7 s8 s9 s10 s11 s12 : Option Slot) :
    lcGo (lcF Γ (.t (.cons (.n 9) (.cons (.n 10) (.cons (.n 11) .nil)))) t__law_tick_4 e__law_tick_4) [9, 10, 11] (ms.map Man.d) [s0, s1, s2, s3, s4, s5, s6, s7, s8, s9, s10, s11, s12] [] =
      .ok (((ms.filter fun m => decide (m.a = 0)).map (·.n)).map D.int, [s0, s1, s2, s3, s4, s5, s6, s7, s8, s9, s10, s11, s12]) := by
  refine (lcGo_typed (g := fun m => if decide (m.a = 0) = true then some (.int m.n) else none) fun m hm => ⟨[s0, s1, s2, s3, s4, s5, s6, s7, s8, some (.d (.int m.n)), some (.d (.int m.a)), some (.d (.int m.s)), s12], ?_, by simp [mend, getS]⟩).trans ?_
  · unfold lcF t__law_tick_4
    by_cases h1 : m.a = 0 <;> simp [and_m, or_m, ↓runF_is, ↓runG_is, ↓bk_ok, ↓bk_no, bk_ite, oo_some, oo_none, oo_ite, ff_rt, ff_nx, ff_ite, fg_rt, fg_nx, fg_ite, ↓peek_v, ↓pe_k, ↓pe_gc, ↓pe_tup, ↓pe_lst, ↓pe_bin, ↓pe_neg, ↓pe_not, ↓pe_and, ↓pe_or, ↓pe_cmp, ↓pe_chain, ↓pe_ife, ↓pe_call, ↓pe_calli, ↓pe_b1, ↓pe_b2, ↓pe_isi, ↓pe_ix, ↓pe_sl, ↓pe_lc, ↓pe_app, ↓pe_pop, ↓pe_popA, ↓pe_rev, ↓pe_dget, pk_ok, pk_ite, ↓exs, ↓retV, ↓v_k, ↓v_gc, ↓v_v, ↓v_tup, ↓v_lst, ↓v_bin, ↓v_neg, ↓v_not, ↓v_and, ↓v_or, ↓v_cmp, ↓v_chain, ↓v_ife, ↓v_call, ↓v_calli, ↓v_b1, ↓v_b2, ↓v_isi, ↓v_ix, ↓v_sl, ↓v_lc, ↓v_app, ↓v_pop, ↓v_popA, ↓v_rev, ↓v_dget, ↓s_asg, ↓s_unp, ↓s_par, ↓s_setL, ↓s_ex, ↓s_iff, ↓s_for_, ↓s_whl, ↓s_ret, ↓s_pass, ↓s_brk, ↓s_cont, ↓s_bad, ↓evs, ↓evm, ↓evo, ↓evIt, ↓view, rd, getS, setS, there, ↓put_pl, plS_none, plS_d, plS_own, ↓putT, ↓putTs, ↓bindT, ↓bindTs, asInt, asBl, Val.toD, Val.slot, b_addi, b_subi, c_lti, c_lei, c_gti, c_gei, c_eqi, c_nei, c_eqs, c_nes, c_in, c_nin, eqD,  bi2, isiD, isiT, ixD, atI, ixN,  lock, unlock, items?, isOwn, isNon, bi1_len_l, bi1_len_t, bi1_len_a, bi1_int_i, bi1_int_b, bi1_list_t, bi1_list_l, bi1_tup_t, bi1_tup_l, Man.d, e__law_tick_4, wiped, h1]
  · rw [fm_if (enc := fun m : Man => D.int m.n), List.nil_append, List.map_map]; rfl
theorem tick_lc5 (Γ : Gam) (ns : List Int) (w : D) (n : Int) (s0 s1 s2 s3 s5 s6 s7 s8 s9 s10 s11 s12 : Option Slot) :
    lcGo (lcF Γ (.n 9) t__law_tick_5 e__law_tick_5) [9] (ns.map D.int) [s0, s1, s2, s3, some (.d (.tup [w, .int n])), s5, s6, s7, s8, s9, s10, s11, s12] [] =
      .ok ((ns.filter fun i => decide (i < n)).map D.int, [s0, s1, s2, s3, some (.d (.tup [w, .int n])), s5, s6, s7, s8, s9, s10, s11, s12]) := by
  refine (lcGo_typed (g := fun i => if decide (i < n) = true then some (.int i) else none) fun i hi => ⟨[s0, s1, s2, s3, some (.d (.tup [w, .int n])), s5, s6, s7, s8, some (.d (.int i)), s10, s11, s12], ?_, by simp [mend, getS]⟩).trans ?_
  · unfold lcF t__law_tick_5
    by_cases h1 : i < n <;> simp [and_m, or_m, ↓runF_is, ↓runG_is, ↓bk_ok, ↓bk_no, bk_ite, oo_some, oo_none, oo_ite, ff_rt, ff_nx, ff_ite, fg_rt, fg_nx, fg_ite, ↓peek_v, ↓pe_k, ↓pe_gc, ↓pe_tup, ↓pe_lst, ↓pe_bin, ↓pe_neg, ↓pe_not, ↓pe_and, ↓pe_or, ↓pe_cmp, ↓pe_chain, ↓pe_ife, ↓pe_call, ↓pe_calli, ↓pe_b1, ↓pe_b2, ↓pe_isi, ↓pe_ix, ↓pe_sl, ↓pe_lc, ↓pe_app, ↓pe_pop, ↓pe_popA, ↓pe_rev, ↓pe_dget, pk_ok, pk_ite, ↓exs, ↓retV, ↓v_k, ↓v_gc, ↓v_v, ↓v_tup, ↓v_lst, ↓v_bin, ↓v_neg, ↓v_not, ↓v_and, ↓v_or, ↓v_cmp, ↓v_chain, ↓v_ife, ↓v_call, ↓v_calli, ↓v_b1, ↓v_b2, ↓v_isi, ↓v_ix, ↓v_sl, ↓v_lc, ↓v_app, ↓v_pop, ↓v_popA, ↓v_rev, ↓v_dget, ↓s_asg, ↓s_unp, ↓s_par, ↓s_setL, ↓s_ex, ↓s_iff, ↓s_for_, ↓s_whl, ↓s_ret, ↓s_pass, ↓s_brk, ↓s_cont, ↓s_bad, ↓evs, ↓evm, ↓evo, ↓evIt, ↓view, rd, getS, setS, there, ↓put_pl, plS_none, plS_d, plS_own, ↓putT, ↓putTs, ↓bindT, ↓bindTs, asInt, asBl, Val.toD, Val.slot, b_addi, b_subi, c_lti, c_lei, c_gti, c_gei, c_eqi, c_nei, c_eqs, c_nes, c_in, c_nin, eqD,  bi2, isiD, isiT, ixD, atI, ixN,  lock, unlock, items?, isOwn, isNon, bi1_len_l, bi1_len_t, bi1_len_a, bi1_int_i, bi1_int_b, bi1_list_t, bi1_list_l, bi1_tup_t, bi1_tup_l, e__law_tick_5, wiped, h1]
  · rw [fm_if, List.nil_append]
def shutB (P : Pl) (left : List Man) : Bool := decide ((left.length : Int) = P.room) && (left.filter fun m => decide (m.a = 0)).isEmpty
theorem tick_r1 (Γ : Gam) (P : Pl) (cb cd cl call : D) (done : Bool) (served : Int) (left : List Man) (hs : List Str) (s1 s3 s8 s9 s10 s11 s12 : Option Slot) (h : hs.length ≤ 900) (hp : pnS s12 = true) :
    finF (exs Γ W r__law_tick_1 [some (.d P.d), s1, some (.d (.tup [cb, cd, cl, .bl done])), s3, some (.d call), some (.d (.int served)), some (.d (.lst (left.map Man.d))), some (.own (hs.map D.str)), s8, s9, s10, s11, s12]) =
      .ok (.d (.tup [.tup [.tup (left.map Man.d), .int (servedT done served)], call, .lst ((sortS (if shutB P left = true then hs ++ [("shut" : Str)] else hs)).map D.str)])) := by
  have e1 := fun s0 s1 s2 s3 s4 s5 s6 s7 s8 s9 s10 s11 s12 => tick_lc3 Γ left s0 s1 s2 s3 s4 s5 s6 s7 s8 s9 s10 s11 s12
  have e2 := eq_nil_men (left.filter fun m => decide (m.a = 0))
  have e3 := fun hs s0 s1 s3 s8 h => tick_r2 (W := W) Γ cb cd cl call done served left hs s0 s1 s3 s8 s9 s10 s11 s12 h
  have lm : lim = 16000000 := rfl
  by_cases h1 : (left.length : Int) = P.room
  · cases hE : (left.filter fun m => decide (m.a = 0)).isEmpty
    · rw [hE] at e2
      have hsh : shutB P left = false := by unfold shutB; rw [hE]; simp
      have e3' := fun s0 s1 s3 s8 => e3 hs s0 s1 s3 s8 (by omega)
      simp [and_m, or_m, ↓runF_is, ↓runG_is, ↓bk_ok, ↓bk_no, bk_ite, oo_some, oo_none, oo_ite, ff_rt, ff_nx, ff_ite, fg_rt, fg_nx, fg_ite, ↓peek_v, ↓pe_k, ↓pe_gc, ↓pe_tup, ↓pe_lst, ↓pe_bin, ↓pe_neg, ↓pe_not, ↓pe_and, ↓pe_or, ↓pe_cmp, ↓pe_chain, ↓pe_ife, ↓pe_call, ↓pe_calli, ↓pe_b1, ↓pe_b2, ↓pe_isi, ↓pe_ix, ↓pe_sl, ↓pe_lc, ↓pe_app, ↓pe_pop, ↓pe_popA, ↓pe_rev, ↓pe_dget, pk_ok, pk_ite, ↓exs, ↓retV, ↓v_k, ↓v_gc, ↓v_v, ↓v_tup, ↓v_lst, ↓v_bin, ↓v_neg, ↓v_not, ↓v_and, ↓v_or, ↓v_cmp, ↓v_chain, ↓v_ife, ↓v_call, ↓v_calli, ↓v_b1, ↓v_b2, ↓v_isi, ↓v_ix, ↓v_sl, ↓v_lc, ↓v_app, ↓v_pop, ↓v_popA, ↓v_rev, ↓v_dget, ↓s_asg, ↓s_unp, ↓s_par, ↓s_setL, ↓s_ex, ↓s_iff, ↓s_for_, ↓s_whl, ↓s_ret, ↓s_pass, ↓s_brk, ↓s_cont, ↓s_bad, ↓evs, ↓evm, ↓evo, ↓evIt, ↓view, rd, getS, setS, there, ↓put_pl, plS_none, plS_d, plS_own, ↓putT, ↓putTs, ↓bindT, ↓bindTs, asInt, asBl, Val.toD, Val.slot, b_addi, b_subi, c_lti, c_lei, c_gti, c_gei, c_eqi, c_nei, c_eqs, c_nes, c_in, c_nin, eqD,  bi2, isiD, isiT, ixD, atI, ixN,  lock, unlock, items?, isOwn, isNon, bi1_len_l, bi1_len_t, bi1_len_a, bi1_int_i, bi1_int_b, bi1_list_t, bi1_list_l, bi1_tup_t, bi1_tup_l, r__law_tick_1, Pl.d, h1, plain_is, hp, ↓e1, ↓e2, ↓e3', hsh]
    · rw [hE] at e2
      have hsh : shutB P left = true := by unfold shutB; rw [hE, h1]; simp
      have e3' := fun s0 s1 s3 s8 => e3 (hs ++ [("shut" : Str)]) s0 s1 s3 s8 (by simp; omega)
      have l1 : binD .Add (.lst (hs.map D.str)) (.lst [.str "shut"]) = _ := b_addl (by simp; omega)
      simp only [List.map_append, List.map_cons, List.map_nil] at e3'
      simp [and_m, or_m, ↓runF_is, ↓runG_is, ↓bk_ok, ↓bk_no, bk_ite, oo_some, oo_none, oo_ite, ff_rt, ff_nx, ff_ite, fg_rt, fg_nx, fg_ite, ↓peek_v, ↓pe_k, ↓pe_gc, ↓pe_tup, ↓pe_lst, ↓pe_bin, ↓pe_neg, ↓pe_not, ↓pe_and, ↓pe_or, ↓pe_cmp, ↓pe_chain, ↓pe_ife, ↓pe_call, ↓pe_calli, ↓pe_b1, ↓pe_b2, ↓pe_isi, ↓pe_ix, ↓pe_sl, ↓pe_lc, ↓pe_app, ↓pe_pop, ↓pe_popA, ↓pe_rev, ↓pe_dget, pk_ok, pk_ite, ↓exs, ↓retV, ↓v_k, ↓v_gc, ↓v_v, ↓v_tup, ↓v_lst, ↓v_bin, ↓v_neg, ↓v_not, ↓v_and, ↓v_or, ↓v_cmp, ↓v_chain, ↓v_ife, ↓v_call, ↓v_calli, ↓v_b1, ↓v_b2, ↓v_isi, ↓v_ix, ↓v_sl, ↓v_lc, ↓v_app, ↓v_pop, ↓v_popA, ↓v_rev, ↓v_dget, ↓s_asg, ↓s_unp, ↓s_par, ↓s_setL, ↓s_ex, ↓s_iff, ↓s_for_, ↓s_whl, ↓s_ret, ↓s_pass, ↓s_brk, ↓s_cont, ↓s_bad, ↓evs, ↓evm, ↓evo, ↓evIt, ↓view, rd, getS, setS, there, ↓put_pl, plS_none, plS_d, plS_own, ↓putT, ↓putTs, ↓bindT, ↓bindTs, asInt, asBl, Val.toD, Val.slot, b_addi, b_subi, c_lti, c_lei, c_gti, c_gei, c_eqi, c_nei, c_eqs, c_nes, c_in, c_nin, eqD,  bi2, isiD, isiT, ixD, atI, ixN,  lock, unlock, items?, isOwn, isNon, bi1_len_l, bi1_len_t, bi1_len_a, bi1_int_i, bi1_int_b, bi1_list_t, bi1_list_l, bi1_tup_t, bi1_tup_l, r__law_tick_1, Pl.d, h1, plain_is, hp, ↓e1, ↓e2, ↓e3', hsh, ↓l1]
  · have hsh : shutB P left = false := by unfold shutB; simp [h1]
    have e3' := fun s0 s1 s3 s8 => e3 hs s0 s1 s3 s8 (by omega)
    simp [and_m, or_m, ↓runF_is, ↓runG_is, ↓bk_ok, ↓bk_no, bk_ite, oo_some, oo_none, oo_ite, ff_rt, ff_nx, ff_ite, fg_rt, fg_nx, fg_ite, ↓peek_v, ↓pe_k, ↓pe_gc, ↓pe_tup, ↓pe_lst, ↓pe_bin, ↓pe_neg, ↓pe_not, ↓pe_and, ↓pe_or, ↓pe_cmp, ↓pe_chain, ↓pe_ife, ↓pe_call, ↓pe_calli, ↓pe_b1, ↓pe_b2, ↓pe_isi, ↓pe_ix, ↓pe_sl, ↓pe_lc, ↓pe_app, ↓pe_pop, ↓pe_popA, ↓pe_rev, ↓pe_dget, pk_ok, pk_ite, ↓exs, ↓retV, ↓v_k, ↓v_gc, ↓v_v, ↓v_tup, ↓v_lst, ↓v_bin, ↓v_neg, ↓v_not, ↓v_and, ↓v_or, ↓v_cmp, ↓v_chain, ↓v_ife, ↓v_call, ↓v_calli, ↓v_b1, ↓v_b2, ↓v_isi, ↓v_ix, ↓v_sl, ↓v_lc, ↓v_app, ↓v_pop, ↓v_popA, ↓v_rev, ↓v_dget, ↓s_asg, ↓s_unp, ↓s_par, ↓s_setL, ↓s_ex, ↓s_iff, ↓s_for_, ↓s_whl, ↓s_ret, ↓s_pass, ↓s_brk, ↓s_cont, ↓s_bad, ↓evs, ↓evm, ↓evo, ↓evIt, ↓view, rd, getS, setS, there, ↓put_pl, plS_none, plS_d, plS_own, ↓putT, ↓putTs, ↓bindT, ↓bindTs, asInt, asBl, Val.toD, Val.slot, b_addi, b_subi, c_lti, c_lei, c_gti, c_gei, c_eqi, c_nei, c_eqs, c_nes, c_in, c_nin, eqD,  bi2, isiD, isiT, ixD, atI, ixN,  lock, unlock, items?, isOwn, isNon, bi1_len_l, bi1_len_t, bi1_len_a, bi1_int_i, bi1_int_b, bi1_list_t, bi1_list_l, bi1_tup_t, bi1_tup_l, r__law_tick_1, Pl.d, h1, ↓e3', hsh]
end AW

set_option Elab.async false
set_option linter.all false
set_option maxRecDepth 100000
set_option maxHeartbeats 4000000
namespace AW
open PySem L2
variable {W : Nat}
theorem waitT_len (P : Pl) (ms : List Man) (back : List Int) (draw : Bool) (leave : Int) : (waitT P ms back draw leave).length ≤ 2 * ms.length + 1 := by
  unfold waitT
  have h := firstT_len back (ms.map (waitA back))
  rw [List.length_map] at h
  simp only [List.length_map]
  split <;> split <;> simp <;> omega
structure Tk where
  left : List Man
  served : Int
  call : D
  hs : List Str
def Tk.stand (t : Tk) : D := .tup [.tup (t.left.map Man.d), .int t.served]
def Tk.d (t : Tk) : D := .tup [t.stand, t.call, .lst ((sortS t.hs).map D.str)]
def hereT (S : List Man) : List Int := (S.filter fun m => decide (m.a = 0)).map (·.n)
def harmT (P : Pl) (m : Man) (r : List Man) : List Str :=
  if wordT P m = "serves" then (if ((hereT (m :: r)).filter fun i => decide (i < m.n)).isEmpty = true then [] else [("passed" : Str)])
  else (if wordT P m = "lapses" then [("lapsed" : Str)] else []) ++ (if (hereT (m :: r)).isEmpty = true then [] else [("void" : Str)])
def tickT (P : Pl) (ms : List Man) (served : Int) (back : List Int) (draw : Bool) (leave : Int) (done : Bool) : Tk :=
  match (if served < 0 then waitT P ms back draw leave else []) with
  | [] =>
    let S := waitT P ms back draw leave
    ⟨S, servedT done served, .tup [], if shutB P S = true then [("shut" : Str)] else []⟩
  | m :: r => ⟨leftT P m r, servedT done (if wordT P m = "serves" then 0 else -1), .tup [.str (wordT P m), .int m.n], if shutB P (leftT P m r) = true then harmT P m r ++ [("shut" : Str)] else harmT P m r⟩
theorem word_cases (P : Pl) (m : Man) : wordT P m = "serves" ∨ wordT P m = "lapses" ∨ wordT P m = "skips" := by
  unfold wordT
  split
  · exact .inr (.inr rfl)
  · split
    · exact .inr (.inl rfl)
    · exact .inl rfl
theorem f_tick (k : Nat) (P : Pl) (ms : List Man) (served : Int) (back : List Int) (draw : Bool) (leave : Int) (done : Bool) (h : ms.length ≤ 100) :
    (Gm W (k + 2)).f 24 [P.d, .tup [.tup (ms.map Man.d), .int served], .tup [rowD back, .bl draw, .int leave, .bl done]] = .ok (.d (tickT P ms served back draw leave done).d) := by
  rw [u__law_tick]
  have e1 := f_waiting (W := W) k P ms back draw leave [.bl done] h
  have hl := waitT_len P ms back draw leave
  have en := ne_nil_men (waitT P ms back draw leave)
  have e2 := fun call served left hs s1 s3 s8 s9 s10 s11 s12 h hp => tick_r1 (W := W) (Gm W (k + 1)) P (rowD back) (.bl draw) (.int leave) call done served left hs s1 s3 s8 s9 s10 s11 s12 h hp
  unfold tickT
  generalize waitT P ms back draw leave = S at *
  by_cases h1 : served < 0
  · rw [if_pos h1]
    cases S with
    | nil =>
      have e2' := fun s1 s3 s8 s9 s10 s11 => e2 (.tup []) served [] [] s1 s3 s8 s9 s10 s11 none (by simp) rfl
      simp only [List.map_nil, List.nil_append] at e2' e1 en
      simp [and_m, or_m, ↓runF_is, ↓runG_is, ↓bk_ok, ↓bk_no, bk_ite, oo_some, oo_none, oo_ite, ff_rt, ff_nx, ff_ite, fg_rt, fg_nx, fg_ite, ↓peek_v, ↓pe_k, ↓pe_gc, ↓pe_tup, ↓pe_lst, ↓pe_bin, ↓pe_neg, ↓pe_not, ↓pe_and, ↓pe_or, ↓pe_cmp, ↓pe_chain, ↓pe_ife, ↓pe_call, ↓pe_calli, ↓pe_b1, ↓pe_b2, ↓pe_isi, ↓pe_ix, ↓pe_sl, ↓pe_lc, ↓pe_app, ↓pe_pop, ↓pe_popA, ↓pe_rev, ↓pe_dget, pk_ok, pk_ite, ↓exs, ↓retV, ↓v_k, ↓v_gc, ↓v_v, ↓v_tup, ↓v_lst, ↓v_bin, ↓v_neg, ↓v_not, ↓v_and, ↓v_or, ↓v_cmp, ↓v_chain, ↓v_ife, ↓v_call, ↓v_calli, ↓v_b1, ↓v_b2, ↓v_isi, ↓v_ix, ↓v_sl, ↓v_lc, ↓v_app, ↓v_pop, ↓v_popA, ↓v_rev, ↓v_dget, ↓s_asg, ↓s_unp, ↓s_par, ↓s_setL, ↓s_ex, ↓s_iff, ↓s_for_, ↓s_whl, ↓s_ret, ↓s_pass, ↓s_brk, ↓s_cont, ↓s_bad, ↓evs, ↓evm, ↓evo, ↓evIt, ↓view, rd, getS, setS, there, ↓put_pl, plS_none, plS_d, plS_own, ↓putT, ↓putTs, ↓bindT, ↓bindTs, asInt, asBl, Val.toD, Val.slot, b_addi, b_subi, c_lti, c_lei, c_gti, c_gei, c_eqi, c_nei, c_eqs, c_nes, c_in, c_nin, eqD,  bi2, isiD, isiT, ixD, atI, ixN,  lock, unlock, items?, isOwn, isNon, bi1_len_l, bi1_len_t, bi1_len_a, bi1_int_i, bi1_int_b, bi1_list_t, bi1_list_l, bi1_tup_t, bi1_tup_l, b__law_tick, h1, ↓e1, ↓en, ↓e2', Tk.d, Tk.stand]
    | cons m r =>
      rw [List.length_cons] at hl
      have e3 := f_called (W := W) k P m r (by omega)
      have e4 : ∀ s0 s1 s2 s3 s4 s5 s6 s7 s8 s9 s10 s11 s12, lcGo (lcF (Gm W (k + 1)) (.t (.cons (.n 9) (.cons (.n 10) (.cons (.n 11) .nil)))) t__law_tick_4 e__law_tick_4) [9, 10, 11] ((m :: r).map Man.d) [s0, s1, s2, s3, s4, s5, s6, s7, s8, s9, s10, s11, s12] [] = .ok ((hereT (m :: r)).map D.int, [s0, s1, s2, s3, s4, s5, s6, s7, s8, s9, s10, s11, s12]) :=
        fun s0 s1 s2 s3 s4 s5 s6 s7 s8 s9 s10 s11 s12 => tick_lc4 (Gm W (k + 1)) (m :: r) s0 s1 s2 s3 s4 s5 s6 s7 s8 s9 s10 s11 s12
      have e2' := fun served hs s1 s3 s8 s9 s10 s11 h => e2 (.tup [.str (wordT P m), .int m.n]) served (leftT P m r) hs s1 s3 s8 s9 s10 s11 none h rfl
      have w1 := word_cases P m
      have hh : harmT P m r = if wordT P m = "serves" then (if ((hereT (m :: r)).filter fun i => decide (i < m.n)).isEmpty = true then [] else [("passed" : Str)])
        else (if wordT P m = "lapses" then [("lapsed" : Str)] else []) ++ (if (hereT (m :: r)).isEmpty = true then [] else [("void" : Str)]) := rfl
      simp only [List.map_cons] at e1 e3 e4 en
      dsimp only
      rw [hh]
      clear hh e2
      generalize hereT (m :: r) = H at *
      generalize wordT P m = w at *
      generalize leftT P m r = L at *
      have e5 := fun s0 s1 s2 s3 s5 s6 s7 s8 s9 s10 s11 s12 => tick_lc5 (Gm W (k + 1)) H (.str w) m.n s0 s1 s2 s3 s5 s6 s7 s8 s9 s10 s11 s12
      have e6 := ne_nil_ints (H.filter fun i => decide (i < m.n))
      have e7 := ne_nil_ints H
      generalize (H.filter fun i => decide (i < m.n)) = Fl at *
      have q1 : binD .Mult (.lst [.str "passed"]) (.int 1) = _ := b_mul1 (by decide)
      have q2 : binD .Mult (.lst [.str "lapsed"]) (.int 1) = _ := b_mul1 (by decide)
      have q3 : binD .Mult (.lst [.str "void"]) (.int 1) = _ := b_mul1 (by decide)
      have q4 : binD .Add (.lst [.str "lapsed"]) (.lst [.str "void"]) = _ := b_addl (by decide)
      have q5 : binD .Add (.lst []) (.lst [.str "void"]) = _ := b_addl (by decide)
      have q6 : binD .Add (.lst [.str "lapsed"]) (.lst []) = _ := b_addl (by decide)
      have q7 : binD .Add (.lst []) (.lst []) = _ := b_addl (by decide)
      have n1 : ¬ Str.ofString "lapses" = Str.ofString "serves" := by decide +kernel
      have n2 : ¬ Str.ofString "skips" = Str.ofString "serves" := by decide +kernel
      have n3 : ¬ Str.ofString "skips" = Str.ofString "lapses" := by decide +kernel
      rcases w1 with rfl | rfl | rfl
      · cases hF : Fl.isEmpty <;> rw [hF] at e6
        · have e8 := fun s1 s3 s8 s9 s10 s11 => e2' 0 ["passed"] s1 s3 s8 s9 s10 s11 (by simp)
          simp only [List.map_cons, List.map_nil] at e8
          simp [and_m, or_m, ↓runF_is, ↓runG_is, ↓bk_ok, ↓bk_no, bk_ite, oo_some, oo_none, oo_ite, ff_rt, ff_nx, ff_ite, fg_rt, fg_nx, fg_ite, ↓peek_v, ↓pe_k, ↓pe_gc, ↓pe_tup, ↓pe_lst, ↓pe_bin, ↓pe_neg, ↓pe_not, ↓pe_and, ↓pe_or, ↓pe_cmp, ↓pe_chain, ↓pe_ife, ↓pe_call, ↓pe_calli, ↓pe_b1, ↓pe_b2, ↓pe_isi, ↓pe_ix, ↓pe_sl, ↓pe_lc, ↓pe_app, ↓pe_pop, ↓pe_popA, ↓pe_rev, ↓pe_dget, pk_ok, pk_ite, ↓exs, ↓retV, ↓v_k, ↓v_gc, ↓v_v, ↓v_tup, ↓v_lst, ↓v_bin, ↓v_neg, ↓v_not, ↓v_and, ↓v_or, ↓v_cmp, ↓v_chain, ↓v_ife, ↓v_call, ↓v_calli, ↓v_b1, ↓v_b2, ↓v_isi, ↓v_ix, ↓v_sl, ↓v_lc, ↓v_app, ↓v_pop, ↓v_popA, ↓v_rev, ↓v_dget, ↓s_asg, ↓s_unp, ↓s_par, ↓s_setL, ↓s_ex, ↓s_iff, ↓s_for_, ↓s_whl, ↓s_ret, ↓s_pass, ↓s_brk, ↓s_cont, ↓s_bad, ↓evs, ↓evm, ↓evo, ↓evIt, ↓view, rd, getS, setS, there, ↓put_pl, plS_none, plS_d, plS_own, ↓putT, ↓putTs, ↓bindT, ↓bindTs, asInt, asBl, Val.toD, Val.slot, b_addi, b_subi, c_lti, c_lei, c_gti, c_gei, c_eqi, c_nei, c_eqs, c_nes, c_in, c_nin, eqD,  bi2, isiD, isiT, ixD, atI, ixN,  lock, unlock, items?, isOwn, isNon, bi1_len_l, bi1_len_t, bi1_len_a, bi1_int_i, bi1_int_b, bi1_list_t, bi1_list_l, bi1_tup_t, bi1_tup_l, b__law_tick, h1, ↓e1, ↓en, ↓e3, ↓e4, ↓e5, ↓e6, ↓q1, plain_is, pnS_none, pnS_d, ↓e8, Tk.d, Tk.stand]
        · have e8 := fun s1 s3 s8 s9 s10 s11 => e2' 0 [] s1 s3 s8 s9 s10 s11 (by simp)
          simp only [List.map_nil, List.nil_append] at e8
          simp [and_m, or_m, ↓runF_is, ↓runG_is, ↓bk_ok, ↓bk_no, bk_ite, oo_some, oo_none, oo_ite, ff_rt, ff_nx, ff_ite, fg_rt, fg_nx, fg_ite, ↓peek_v, ↓pe_k, ↓pe_gc, ↓pe_tup, ↓pe_lst, ↓pe_bin, ↓pe_neg, ↓pe_not, ↓pe_and, ↓pe_or, ↓pe_cmp, ↓pe_chain, ↓pe_ife, ↓pe_call, ↓pe_calli, ↓pe_b1, ↓pe_b2, ↓pe_isi, ↓pe_ix, ↓pe_sl, ↓pe_lc, ↓pe_app, ↓pe_pop, ↓pe_popA, ↓pe_rev, ↓pe_dget, pk_ok, pk_ite, ↓exs, ↓retV, ↓v_k, ↓v_gc, ↓v_v, ↓v_tup, ↓v_lst, ↓v_bin, ↓v_neg, ↓v_not, ↓v_and, ↓v_or, ↓v_cmp, ↓v_chain, ↓v_ife, ↓v_call, ↓v_calli, ↓v_b1, ↓v_b2, ↓v_isi, ↓v_ix, ↓v_sl, ↓v_lc, ↓v_app, ↓v_pop, ↓v_popA, ↓v_rev, ↓v_dget, ↓s_asg, ↓s_unp, ↓s_par, ↓s_setL, ↓s_ex, ↓s_iff, ↓s_for_, ↓s_whl, ↓s_ret, ↓s_pass, ↓s_brk, ↓s_cont, ↓s_bad, ↓evs, ↓evm, ↓evo, ↓evIt, ↓view, rd, getS, setS, there, ↓put_pl, plS_none, plS_d, plS_own, ↓putT, ↓putTs, ↓bindT, ↓bindTs, asInt, asBl, Val.toD, Val.slot, b_addi, b_subi, c_lti, c_lei, c_gti, c_gei, c_eqi, c_nei, c_eqs, c_nes, c_in, c_nin, eqD,  bi2, isiD, isiT, ixD, atI, ixN,  lock, unlock, items?, isOwn, isNon, bi1_len_l, bi1_len_t, bi1_len_a, bi1_int_i, bi1_int_b, bi1_list_t, bi1_list_l, bi1_tup_t, bi1_tup_l, b__law_tick, h1, ↓e1, ↓en, ↓e3, ↓e4, ↓e5, ↓e6, b_mul0, plain_is, pnS_none, pnS_d, ↓e8, Tk.d, Tk.stand]
      · cases hF : H.isEmpty <;> rw [hF] at e7
        · have e8 := fun s1 s3 s8 s9 s10 s11 => e2' (-1) ["lapsed", "void"] s1 s3 s8 s9 s10 s11 (by simp)
          simp only [List.map_cons, List.map_nil] at e8
          simp [and_m, or_m, ↓runF_is, ↓runG_is, ↓bk_ok, ↓bk_no, bk_ite, oo_some, oo_none, oo_ite, ff_rt, ff_nx, ff_ite, fg_rt, fg_nx, fg_ite, ↓peek_v, ↓pe_k, ↓pe_gc, ↓pe_tup, ↓pe_lst, ↓pe_bin, ↓pe_neg, ↓pe_not, ↓pe_and, ↓pe_or, ↓pe_cmp, ↓pe_chain, ↓pe_ife, ↓pe_call, ↓pe_calli, ↓pe_b1, ↓pe_b2, ↓pe_isi, ↓pe_ix, ↓pe_sl, ↓pe_lc, ↓pe_app, ↓pe_pop, ↓pe_popA, ↓pe_rev, ↓pe_dget, pk_ok, pk_ite, ↓exs, ↓retV, ↓v_k, ↓v_gc, ↓v_v, ↓v_tup, ↓v_lst, ↓v_bin, ↓v_neg, ↓v_not, ↓v_and, ↓v_or, ↓v_cmp, ↓v_chain, ↓v_ife, ↓v_call, ↓v_calli, ↓v_b1, ↓v_b2, ↓v_isi, ↓v_ix, ↓v_sl, ↓v_lc, ↓v_app, ↓v_pop, ↓v_popA, ↓v_rev, ↓v_dget, ↓s_asg, ↓s_unp, ↓s_par, ↓s_setL, ↓s_ex, ↓s_iff, ↓s_for_, ↓s_whl, ↓s_ret, ↓s_pass, ↓s_brk, ↓s_cont, ↓s_bad, ↓evs, ↓evm, ↓evo, ↓evIt, ↓view, rd, getS, setS, there, ↓put_pl, plS_none, plS_d, plS_own, ↓putT, ↓putTs, ↓bindT, ↓bindTs, asInt, asBl, Val.toD, Val.slot, b_addi, b_subi, c_lti, c_lei, c_gti, c_gei, c_eqi, c_nei, c_eqs, c_nes, c_in, c_nin, eqD,  bi2, isiD, isiT, ixD, atI, ixN,  lock, unlock, items?, isOwn, isNon, bi1_len_l, bi1_len_t, bi1_len_a, bi1_int_i, bi1_int_b, bi1_list_t, bi1_list_l, bi1_tup_t, bi1_tup_l, b__law_tick, h1, ↓e1, ↓en, ↓e3, ↓e4, ↓e7, ↓q2, ↓q3, ↓q4, plain_is, pnS_none, pnS_d, ↓e8, Tk.d, Tk.stand, n1]
        · have e8 := fun s1 s3 s8 s9 s10 s11 => e2' (-1) ["lapsed"] s1 s3 s8 s9 s10 s11 (by simp)
          simp only [List.map_cons, List.map_nil] at e8
          simp [and_m, or_m, ↓runF_is, ↓runG_is, ↓bk_ok, ↓bk_no, bk_ite, oo_some, oo_none, oo_ite, ff_rt, ff_nx, ff_ite, fg_rt, fg_nx, fg_ite, ↓peek_v, ↓pe_k, ↓pe_gc, ↓pe_tup, ↓pe_lst, ↓pe_bin, ↓pe_neg, ↓pe_not, ↓pe_and, ↓pe_or, ↓pe_cmp, ↓pe_chain, ↓pe_ife, ↓pe_call, ↓pe_calli, ↓pe_b1, ↓pe_b2, ↓pe_isi, ↓pe_ix, ↓pe_sl, ↓pe_lc, ↓pe_app, ↓pe_pop, ↓pe_popA, ↓pe_rev, ↓pe_dget, pk_ok, pk_ite, ↓exs, ↓retV, ↓v_k, ↓v_gc, ↓v_v, ↓v_tup, ↓v_lst, ↓v_bin, ↓v_neg, ↓v_not, ↓v_and, ↓v_or, ↓v_cmp, ↓v_chain, ↓v_ife, ↓v_call, ↓v_calli, ↓v_b1, ↓v_b2, ↓v_isi, ↓v_ix, ↓v_sl, ↓v_lc, ↓v_app, ↓v_pop, ↓v_popA, ↓v_rev, ↓v_dget, ↓s_asg, ↓s_unp, ↓s_par, ↓s_setL, ↓s_ex, ↓s_iff, ↓s_for_, ↓s_whl, ↓s_ret, ↓s_pass, ↓s_brk, ↓s_cont, ↓s_bad, ↓evs, ↓evm, ↓evo, ↓evIt, ↓view, rd, getS, setS, there, ↓put_pl, plS_none, plS_d, plS_own, ↓putT, ↓putTs, ↓bindT, ↓bindTs, asInt, asBl, Val.toD, Val.slot, b_addi, b_subi, c_lti, c_lei, c_gti, c_gei, c_eqi, c_nei, c_eqs, c_nes, c_in, c_nin, eqD,  bi2, isiD, isiT, ixD, atI, ixN,  lock, unlock, items?, isOwn, isNon, bi1_len_l, bi1_len_t, bi1_len_a, bi1_int_i, bi1_int_b, bi1_list_t, bi1_list_l, bi1_tup_t, bi1_tup_l, b__law_tick, h1, ↓e1, ↓en, ↓e3, ↓e4, ↓e7, ↓q2, ↓q6, b_mul0, plain_is, pnS_none, pnS_d, ↓e8, Tk.d, Tk.stand, n1]
      · cases hF : H.isEmpty <;> rw [hF] at e7
        · have e8 := fun s1 s3 s8 s9 s10 s11 => e2' (-1) ["void"] s1 s3 s8 s9 s10 s11 (by simp)
          simp only [List.map_cons, List.map_nil] at e8
          simp [and_m, or_m, ↓runF_is, ↓runG_is, ↓bk_ok, ↓bk_no, bk_ite, oo_some, oo_none, oo_ite, ff_rt, ff_nx, ff_ite, fg_rt, fg_nx, fg_ite, ↓peek_v, ↓pe_k, ↓pe_gc, ↓pe_tup, ↓pe_lst, ↓pe_bin, ↓pe_neg, ↓pe_not, ↓pe_and, ↓pe_or, ↓pe_cmp, ↓pe_chain, ↓pe_ife, ↓pe_call, ↓pe_calli, ↓pe_b1, ↓pe_b2, ↓pe_isi, ↓pe_ix, ↓pe_sl, ↓pe_lc, ↓pe_app, ↓pe_pop, ↓pe_popA, ↓pe_rev, ↓pe_dget, pk_ok, pk_ite, ↓exs, ↓retV, ↓v_k, ↓v_gc, ↓v_v, ↓v_tup, ↓v_lst, ↓v_bin, ↓v_neg, ↓v_not, ↓v_and, ↓v_or, ↓v_cmp, ↓v_chain, ↓v_ife, ↓v_call, ↓v_calli, ↓v_b1, ↓v_b2, ↓v_isi, ↓v_ix, ↓v_sl, ↓v_lc, ↓v_app, ↓v_pop, ↓v_popA, ↓v_rev, ↓v_dget, ↓s_asg, ↓s_unp, ↓s_par, ↓s_setL, ↓s_ex, ↓s_iff, ↓s_for_, ↓s_whl, ↓s_ret, ↓s_pass, ↓s_brk, ↓s_cont, ↓s_bad, ↓evs, ↓evm, ↓evo, ↓evIt, ↓view, rd, getS, setS, there, ↓put_pl, plS_none, plS_d, plS_own, ↓putT, ↓putTs, ↓bindT, ↓bindTs, asInt, asBl, Val.toD, Val.slot, b_addi, b_subi, c_lti, c_lei, c_gti, c_gei, c_eqi, c_nei, c_eqs, c_nes, c_in, c_nin, eqD,  bi2, isiD, isiT, ixD, atI, ixN,  lock, unlock, items?, isOwn, isNon, bi1_len_l, bi1_len_t, bi1_len_a, bi1_int_i, bi1_int_b, bi1_list_t, bi1_list_l, bi1_tup_t, bi1_tup_l, b__law_tick, h1, ↓e1, ↓en, ↓e3, ↓e4, ↓e7, ↓q3, ↓q5, b_mul0, plain_is, pnS_none, pnS_d, ↓e8, Tk.d, Tk.stand, n2, n3]
        · have e8 := fun s1 s3 s8 s9 s10 s11 => e2' (-1) [] s1 s3 s8 s9 s10 s11 (by simp)
          simp only [List.map_nil, List.nil_append] at e8
          simp [and_m, or_m, ↓runF_is, ↓runG_is, ↓bk_ok, ↓bk_no, bk_ite, oo_some, oo_none, oo_ite, ff_rt, ff_nx, ff_ite, fg_rt, fg_nx, fg_ite, ↓peek_v, ↓pe_k, ↓pe_gc, ↓pe_tup, ↓pe_lst, ↓pe_bin, ↓pe_neg, ↓pe_not, ↓pe_and, ↓pe_or, ↓pe_cmp, ↓pe_chain, ↓pe_ife, ↓pe_call, ↓pe_calli, ↓pe_b1, ↓pe_b2, ↓pe_isi, ↓pe_ix, ↓pe_sl, ↓pe_lc, ↓pe_app, ↓pe_pop, ↓pe_popA, ↓pe_rev, ↓pe_dget, pk_ok, pk_ite, ↓exs, ↓retV, ↓v_k, ↓v_gc, ↓v_v, ↓v_tup, ↓v_lst, ↓v_bin, ↓v_neg, ↓v_not, ↓v_and, ↓v_or, ↓v_cmp, ↓v_chain, ↓v_ife, ↓v_call, ↓v_calli, ↓v_b1, ↓v_b2, ↓v_isi, ↓v_ix, ↓v_sl, ↓v_lc, ↓v_app, ↓v_pop, ↓v_popA, ↓v_rev, ↓v_dget, ↓s_asg, ↓s_unp, ↓s_par, ↓s_setL, ↓s_ex, ↓s_iff, ↓s_for_, ↓s_whl, ↓s_ret, ↓s_pass, ↓s_brk, ↓s_cont, ↓s_bad, ↓evs, ↓evm, ↓evo, ↓evIt, ↓view, rd, getS, setS, there, ↓put_pl, plS_none, plS_d, plS_own, ↓putT, ↓putTs, ↓bindT, ↓bindTs, asInt, asBl, Val.toD, Val.slot, b_addi, b_subi, c_lti, c_lei, c_gti, c_gei, c_eqi, c_nei, c_eqs, c_nes, c_in, c_nin, eqD,  bi2, isiD, isiT, ixD, atI, ixN,  lock, unlock, items?, isOwn, isNon, bi1_len_l, bi1_len_t, bi1_len_a, bi1_int_i, bi1_int_b, bi1_list_t, bi1_list_l, bi1_tup_t, bi1_tup_l, b__law_tick, h1, ↓e1, ↓en, ↓e3, ↓e4, ↓e7, ↓q7, b_mul0, plain_is, pnS_none, pnS_d, ↓e8, Tk.d, Tk.stand, n2, n3]
  · rw [if_neg h1]
    have e2' := fun s1 s3 s8 s9 s10 s11 => e2 (.tup []) served S [] s1 s3 s8 s9 s10 s11 none (by simp) rfl
    simp only [List.map_nil, List.nil_append] at e2'
    simp [and_m, or_m, ↓runF_is, ↓runG_is, ↓bk_ok, ↓bk_no, bk_ite, oo_some, oo_none, oo_ite, ff_rt, ff_nx, ff_ite, fg_rt, fg_nx, fg_ite, ↓peek_v, ↓pe_k, ↓pe_gc, ↓pe_tup, ↓pe_lst, ↓pe_bin, ↓pe_neg, ↓pe_not, ↓pe_and, ↓pe_or, ↓pe_cmp, ↓pe_chain, ↓pe_ife, ↓pe_call, ↓pe_calli, ↓pe_b1, ↓pe_b2, ↓pe_isi, ↓pe_ix, ↓pe_sl, ↓pe_lc, ↓pe_app, ↓pe_pop, ↓pe_popA, ↓pe_rev, ↓pe_dget, pk_ok, pk_ite, ↓exs, ↓retV, ↓v_k, ↓v_gc, ↓v_v, ↓v_tup, ↓v_lst, ↓v_bin, ↓v_neg, ↓v_not, ↓v_and, ↓v_or, ↓v_cmp, ↓v_chain, ↓v_ife, ↓v_call, ↓v_calli, ↓v_b1, ↓v_b2, ↓v_isi, ↓v_ix, ↓v_sl, ↓v_lc, ↓v_app, ↓v_pop, ↓v_popA, ↓v_rev, ↓v_dget, ↓s_asg, ↓s_unp, ↓s_par, ↓s_setL, ↓s_ex, ↓s_iff, ↓s_for_, ↓s_whl, ↓s_ret, ↓s_pass, ↓s_brk, ↓s_cont, ↓s_bad, ↓evs, ↓evm, ↓evo, ↓evIt, ↓view, rd, getS, setS, there, ↓put_pl, plS_none, plS_d, plS_own, ↓putT, ↓putTs, ↓bindT, ↓bindTs, asInt, asBl, Val.toD, Val.slot, b_addi, b_subi, c_lti, c_lei, c_gti, c_gei, c_eqi, c_nei, c_eqs, c_nes, c_in, c_nin, eqD,  bi2, isiD, isiT, ixD, atI, ixN,  lock, unlock, items?, isOwn, isNon, bi1_len_l, bi1_len_t, bi1_len_a, bi1_int_i, bi1_int_b, bi1_list_t, bi1_list_l, bi1_tup_t, bi1_tup_l, b__law_tick, h1, ↓e1, ↓e2', Tk.d, Tk.stand]
end AW

set_option Elab.async false
set_option linter.all false
set_option maxRecDepth 100000
set_option maxHeartbeats 4000000
namespace AW
open PySem L2
variable {W : Nat}
structure Ch where
  b : List Int
  dr : Bool
  lv : Int
  dn : Bool
def Ch.d (c : Ch) : D := .tup [rowD c.b, .bl c.dr, .int c.lv, .bl c.dn]
def standD (ms : List Man) (served : Int) : D := .tup [.tup (ms.map Man.d), .int served]
def takenT (P : Pl) (ms : List Man) (served : Int) (b : List Int) (dr : Bool) (lv : Int) : Int := (tickT P ms served b dr lv false).served
def chA (P : Pl) (ms : List Man) (served : Int) (b : List Int) (dr : Bool) (lv : Int) : List Ch :=
  (if takenT P ms served b dr lv < P.sh then [⟨b, dr, lv, false⟩] else []) ++ (if P.sl ≤ takenT P ms served b dr lv then [⟨b, dr, lv, true⟩] else [])
def leavesT (P : Pl) (ms : List Man) (b : List Int) (dr : Bool) : List Int := -1 :: ((waitT P ms b dr (-1)).filter fun m => decide (m.a = 0)).map (·.n)
def chB (P : Pl) (ms : List Man) (served : Int) (b : List Int) (dr : Bool) : List Ch := if dr = false ∨ (ms.length : Int) < P.room then (leavesT P ms b dr).flatMap (chA P ms served b dr) else []
def chC (P : Pl) (ms : List Man) (served : Int) (b : List Int) : List Ch := chB P ms served b false ++ chB P ms served b true
def foundT (P : Pl) (ms : List Man) (served : Int) : List Ch := (backsT P ms).flatMap (chC P ms served)
theorem chA_len (P : Pl) (ms : List Man) (served : Int) (b : List Int) (dr : Bool) (lv : Int) : (chA P ms served b dr lv).length ≤ 2 := by
  unfold chA
  split <;> split <;> simp
theorem turn3 (k : Nat) (P : Pl) (ms : List Man) (served : Int) (b : List Int) (dr : Bool) (lv : Int) (found : List Ch) (s3 s4 s8 s9 s10 s11 : Option Slot) (h : ms.length ≤ 100) (h9 : plS s9 = true) (h10 : plS s10 = true) (hf : found.length ≤ 1000000) :
    fF (Gm W (k + 2)) W (.n 9) b__law_choices_3 (.int lv) [some (.d P.d), some (.d (standD ms served)), some (.own (found.map Ch.d)), s3, s4, some (.d (.tup [.int P.sl, .int P.sh])), some (.d (rowD b)), some (.d (.bl dr)), s8, s9, s10, s11] =
      .ok (.nx, [some (.d P.d), some (.d (standD ms served)), some (.own ((found ++ chA P ms served b dr lv).map Ch.d)), s3, s4, some (.d (.tup [.int P.sl, .int P.sh])), some (.d (rowD b)), some (.d (.bl dr)), s8, some (.d (.int lv)), some (.d (.int (takenT P ms served b dr lv))), s11]) := by
  have e1 : (Gm W (k + 2)).f 24 [P.d, standD ms served, .tup [rowD b, .bl dr, .int lv, .bl false]] = _ := f_tick (W := W) k P ms served b dr lv false h
  have lm : lim = 16000000 := rfl
  have l1 : found.length < lim := by omega
  have l2 : found.length + 1 < lim := by omega
  unfold fF
  simp only [Tk.d, Tk.stand] at e1
  have et : (tickT P ms served b dr lv false).served = takenT P ms served b dr lv := rfl
  rw [et] at e1
  unfold chA
  by_cases h1 : takenT P ms served b dr lv < P.sh <;> by_cases h2 : P.sl ≤ takenT P ms served b dr lv <;> simp [and_m, or_m, ↓runF_is, ↓runG_is, ↓bk_ok, ↓bk_no, bk_ite, oo_some, oo_none, oo_ite, ff_rt, ff_nx, ff_ite, fg_rt, fg_nx, fg_ite, ↓peek_v, ↓pe_k, ↓pe_gc, ↓pe_tup, ↓pe_lst, ↓pe_bin, ↓pe_neg, ↓pe_not, ↓pe_and, ↓pe_or, ↓pe_cmp, ↓pe_chain, ↓pe_ife, ↓pe_call, ↓pe_calli, ↓pe_b1, ↓pe_b2, ↓pe_isi, ↓pe_ix, ↓pe_sl, ↓pe_lc, ↓pe_app, ↓pe_pop, ↓pe_popA, ↓pe_rev, ↓pe_dget, pk_ok, pk_ite, ↓exs, ↓retV, ↓v_k, ↓v_gc, ↓v_v, ↓v_tup, ↓v_lst, ↓v_bin, ↓v_neg, ↓v_not, ↓v_and, ↓v_or, ↓v_cmp, ↓v_chain, ↓v_ife, ↓v_call, ↓v_calli, ↓v_b1, ↓v_b2, ↓v_isi, ↓v_ix, ↓v_sl, ↓v_lc, ↓v_app, ↓v_pop, ↓v_popA, ↓v_rev, ↓v_dget, ↓s_asg, ↓s_unp, ↓s_par, ↓s_setL, ↓s_ex, ↓s_iff, ↓s_for_, ↓s_whl, ↓s_ret, ↓s_pass, ↓s_brk, ↓s_cont, ↓s_bad, ↓evs, ↓evm, ↓evo, ↓evIt, ↓view, rd, getS, setS, there, ↓put_pl, plS_none, plS_d, plS_own, ↓putT, ↓putTs, ↓bindT, ↓bindTs, asInt, asBl, Val.toD, Val.slot, b_addi, b_subi, c_lti, c_lei, c_gti, c_gei, c_eqi, c_nei, c_eqs, c_nes, c_in, c_nin, eqD,  bi2, isiD, isiT, ixD, atI, ixN,  lock, unlock, items?, isOwn, isNon, bi1_len_l, bi1_len_t, bi1_len_a, bi1_int_i, bi1_int_b, bi1_list_t, bi1_list_l, bi1_tup_t, bi1_tup_l, b__law_choices_3, r__law_choices_4, h9, h10, ↓e1, h1, h2, l1, l2, Ch.d]
theorem loop3 (k : Nat) (P : Pl) (ms : List Man) (served : Int) (b : List Int) (dr : Bool) (s3 s4 s8 s11 : Option Slot) (h : ms.length ≤ 100) : ∀ (lvs : List Int) (found : List Ch) (s9 s10 : Option Slot), plS s9 = true → plS s10 = true → found.length + 2 * lvs.length ≤ 1000000 →
    ∃ x9 x10, plS x9 = true ∧ plS x10 = true ∧ forGo (fF (Gm W (k + 2)) W (.n 9) b__law_choices_3) (lvs.map D.int) [some (.d P.d), some (.d (standD ms served)), some (.own (found.map Ch.d)), s3, s4, some (.d (.tup [.int P.sl, .int P.sh])), some (.d (rowD b)), some (.d (.bl dr)), s8, s9, s10, s11] =
      .ok (.nx, [some (.d P.d), some (.d (standD ms served)), some (.own ((found ++ lvs.flatMap (chA P ms served b dr)).map Ch.d)), s3, s4, some (.d (.tup [.int P.sl, .int P.sh])), some (.d (rowD b)), some (.d (.bl dr)), s8, x9, x10, s11])
  | [], found, s9, s10, h9, h10, _ => ⟨s9, s10, h9, h10, by unfold forGo; simp⟩
  | lv :: lvs, found, s9, s10, h9, h10, hl => by
    rw [List.length_cons] at hl
    have hc := chA_len P ms served b dr lv
    obtain ⟨x9, x10, p9, p10, e⟩ := loop3 k P ms served b dr s3 s4 s8 s11 h lvs (found ++ chA P ms served b dr lv) (some (.d (.int lv))) (some (.d (.int (takenT P ms served b dr lv)))) rfl rfl (by rw [List.length_append]; omega)
    refine ⟨x9, x10, p9, p10, ?_⟩
    rw [List.map_cons]
    unfold forGo
    rw [turn3 k P ms served b dr lv found s3 s4 s8 s9 s10 s11 h h9 h10 (by omega)]
    dsimp only
    rw [e]
    simp
theorem choice_lc5 (Γ : Gam) (ms : List Man) (s0 s1 s2 s3 s4 s5 s6 s7 s8 s9 s10 s11 : Option Slot) :
    lcGo (lcF Γ (.n 11) t__law_choices_5 e__law_choices_5) [11] (ms.map Man.d) [s0, s1, s2, s3, s4, s5, s6, s7, s8, s9, s10, s11] [] =
      .ok (((ms.filter fun m => decide (m.a = 0)).map (·.n)).map D.int, [s0, s1, s2, s3, s4, s5, s6, s7, s8, s9, s10, s11]) := by
  refine (lcGo_typed (g := fun m => if decide (m.a = 0) = true then some (.int m.n) else none) fun m hm => ⟨[s0, s1, s2, s3, s4, s5, s6, s7, s8, s9, s10, some (.d m.d)], ?_, by simp [mend, getS]⟩).trans ?_
  · unfold lcF t__law_choices_5
    by_cases h1 : m.a = 0 <;> simp [and_m, or_m, ↓runF_is, ↓runG_is, ↓bk_ok, ↓bk_no, bk_ite, oo_some, oo_none, oo_ite, ff_rt, ff_nx, ff_ite, fg_rt, fg_nx, fg_ite, ↓peek_v, ↓pe_k, ↓pe_gc, ↓pe_tup, ↓pe_lst, ↓pe_bin, ↓pe_neg, ↓pe_not, ↓pe_and, ↓pe_or, ↓pe_cmp, ↓pe_chain, ↓pe_ife, ↓pe_call, ↓pe_calli, ↓pe_b1, ↓pe_b2, ↓pe_isi, ↓pe_ix, ↓pe_sl, ↓pe_lc, ↓pe_app, ↓pe_pop, ↓pe_popA, ↓pe_rev, ↓pe_dget, pk_ok, pk_ite, ↓exs, ↓retV, ↓v_k, ↓v_gc, ↓v_v, ↓v_tup, ↓v_lst, ↓v_bin, ↓v_neg, ↓v_not, ↓v_and, ↓v_or, ↓v_cmp, ↓v_chain, ↓v_ife, ↓v_call, ↓v_calli, ↓v_b1, ↓v_b2, ↓v_isi, ↓v_ix, ↓v_sl, ↓v_lc, ↓v_app, ↓v_pop, ↓v_popA, ↓v_rev, ↓v_dget, ↓s_asg, ↓s_unp, ↓s_par, ↓s_setL, ↓s_ex, ↓s_iff, ↓s_for_, ↓s_whl, ↓s_ret, ↓s_pass, ↓s_brk, ↓s_cont, ↓s_bad, ↓evs, ↓evm, ↓evo, ↓evIt, ↓view, rd, getS, setS, there, ↓put_pl, plS_none, plS_d, plS_own, ↓putT, ↓putTs, ↓bindT, ↓bindTs, asInt, asBl, Val.toD, Val.slot, b_addi, b_subi, c_lti, c_lei, c_gti, c_gei, c_eqi, c_nei, c_eqs, c_nes, c_in, c_nin, eqD,  bi2, isiD, isiT, ixD, atI, ixN,  lock, unlock, items?, isOwn, isNon, bi1_len_l, bi1_len_t, bi1_len_a, bi1_int_i, bi1_int_b, bi1_list_t, bi1_list_l, bi1_tup_t, bi1_tup_l, Man.d, e__law_choices_5, wiped, h1]
  · rw [fm_if (enc := fun m : Man => D.int m.n), List.nil_append, List.map_map]; rfl
end AW

set_option Elab.async false
set_option linter.all false
set_option maxRecDepth 100000
set_option maxHeartbeats 4000000
namespace AW
open PySem L2
variable {W : Nat}
theorem leavesT_len (P : Pl) (ms : List Man) (b : List Int) (dr : Bool) : (leavesT P ms b dr).length ≤ 2 * ms.length + 2 := by
  unfold leavesT
  have h := waitT_len P ms b dr (-1)
  have h2 := List.length_filter_le (fun m : Man => decide (m.a = 0)) (waitT P ms b dr (-1))
  simp only [List.length_cons, List.length_map]
  omega
theorem flat_len {α β : Type} {f : α → List β} {n : Nat} (h : ∀ a, (f a).length ≤ n) : ∀ xs : List α, (xs.flatMap f).length ≤ n * xs.length
  | [] => by simp
  | x :: r => by
    rw [List.flatMap_cons, List.length_append, List.length_cons, Nat.mul_succ]
    have := flat_len h r
    have := h x
    omega
theorem chB_len (P : Pl) (ms : List Man) (served : Int) (b : List Int) (dr : Bool) : (chB P ms served b dr).length ≤ 4 * ms.length + 4 := by
  unfold chB
  split
  · have := flat_len (chA_len P ms served b dr) (leavesT P ms b dr)
    have := leavesT_len P ms b dr
    omega
  · simp
theorem chC_len (P : Pl) (ms : List Man) (served : Int) (b : List Int) : (chC P ms served b).length ≤ 8 * ms.length + 8 := by
  unfold chC
  have := chB_len P ms served b false
  have := chB_len P ms served b true
  rw [List.length_append]
  omega
theorem turn2 (k : Nat) (P : Pl) (ms : List Man) (served : Int) (b : List Int) (dr : Bool) (found : List Ch) (s4 s7 s8 s9 s10 s11 : Option Slot) (h : ms.length ≤ 100) (h7 : plS s7 = true) (h8 : plS s8 = true) (h9 : plS s9 = true) (h10 : plS s10 = true) (h11 : pnS s11 = true) (hf : found.length ≤ 500000) :
    ∃ x8 x9 x10, plS x8 = true ∧ plS x9 = true ∧ plS x10 = true ∧ fF (Gm W (k + 2)) W (.n 7) b__law_choices_2 (.bl dr) [some (.d P.d), some (.d (standD ms served)), some (.own (found.map Ch.d)), some (.d (.int P.room)), s4, some (.d (.tup [.int P.sl, .int P.sh])), some (.d (rowD b)), s7, s8, s9, s10, s11] =
      .ok (.nx, [some (.d P.d), some (.d (standD ms served)), some (.own ((found ++ chB P ms served b dr).map Ch.d)), some (.d (.int P.room)), s4, some (.d (.tup [.int P.sl, .int P.sh])), some (.d (rowD b)), some (.d (.bl dr)), x8, x9, x10, s11]) := by
  have e1 := f_waiting (W := W) (k + 1) P ms b dr (-1) [] h
  have wl := waitT_len P ms b dr (-1)
  have ll := leavesT_len P ms b dr
  by_cases hc : dr = false ∨ (ms.length : Int) < P.room
  · have e2 := fun s0 s1 s2 s3 s4 s5 s6 s7 s8 s9 s10 s11 => choice_lc5 (Gm W (k + 2)) (waitT P ms b dr (-1)) s0 s1 s2 s3 s4 s5 s6 s7 s8 s9 s10 s11
    have hB : chB P ms served b dr = (leavesT P ms b dr).flatMap (chA P ms served b dr) := if_pos hc
    obtain ⟨x9, x10, p9, p10, e3⟩ := loop3 (W := W) k P ms served b dr (some (.d (.int P.room))) s4 (some (.own ((waitT P ms b dr (-1)).map Man.d))) s11 h (leavesT P ms b dr) found s9 s10 h9 h10 (by omega)
    rw [hB]
    have hL : (leavesT P ms b dr).map D.int = .int (-1) :: (((waitT P ms b dr (-1)).filter fun m => decide (m.a = 0)).map (·.n)).map D.int := rfl
    rw [hL] at e3
    have h2 := List.length_filter_le (fun m : Man => decide (m.a = 0)) (waitT P ms b dr (-1))
    have e4 : binD .Add (.lst [.int (-1)]) (.lst ((((waitT P ms b dr (-1)).filter fun m => decide (m.a = 0)).map (·.n)).map D.int)) = _ := b_addl (by
      have lm : lim = 16000000 := rfl
      simp only [List.length_cons, List.length_nil, List.length_map]
      omega)
    generalize ((waitT P ms b dr (-1)).filter fun m => decide (m.a = 0)).map (·.n) = N at *
    generalize (leavesT P ms b dr).flatMap (chA P ms served b dr) = C at *
    generalize waitT P ms b dr (-1) = S at *
    refine ⟨some (.own (S.map Man.d)), x9, x10, rfl, p9, p10, ?_⟩
    unfold fF
    simp only [standD, Pl.d] at e1 e3
    cases dr
    · simp [and_m, or_m, ↓runF_is, ↓runG_is, ↓bk_ok, ↓bk_no, bk_ite, oo_some, oo_none, oo_ite, ff_rt, ff_nx, ff_ite, fg_rt, fg_nx, fg_ite, ↓peek_v, ↓pe_k, ↓pe_gc, ↓pe_tup, ↓pe_lst, ↓pe_bin, ↓pe_neg, ↓pe_not, ↓pe_and, ↓pe_or, ↓pe_cmp, ↓pe_chain, ↓pe_ife, ↓pe_call, ↓pe_calli, ↓pe_b1, ↓pe_b2, ↓pe_isi, ↓pe_ix, ↓pe_sl, ↓pe_lc, ↓pe_app, ↓pe_pop, ↓pe_popA, ↓pe_rev, ↓pe_dget, pk_ok, pk_ite, ↓exs, ↓retV, ↓v_k, ↓v_gc, ↓v_v, ↓v_tup, ↓v_lst, ↓v_bin, ↓v_neg, ↓v_not, ↓v_and, ↓v_or, ↓v_cmp, ↓v_chain, ↓v_ife, ↓v_call, ↓v_calli, ↓v_b1, ↓v_b2, ↓v_isi, ↓v_ix, ↓v_sl, ↓v_lc, ↓v_app, ↓v_pop, ↓v_popA, ↓v_rev, ↓v_dget, ↓s_asg, ↓s_unp, ↓s_par, ↓s_setL, ↓s_ex, ↓s_iff, ↓s_for_, ↓s_whl, ↓s_ret, ↓s_pass, ↓s_brk, ↓s_cont, ↓s_bad, ↓evs, ↓evm, ↓evo, ↓evIt, ↓view, rd, getS, setS, there, ↓put_pl, plS_none, plS_d, plS_own, ↓putT, ↓putTs, ↓bindT, ↓bindTs, asInt, asBl, Val.toD, Val.slot, b_addi, b_subi, c_lti, c_lei, c_gti, c_gei, c_eqi, c_nei, c_eqs, c_nes, c_in, c_nin, eqD,  bi2, isiD, isiT, ixD, atI, ixN,  lock, unlock, items?, isOwn, isNon, bi1_len_l, bi1_len_t, bi1_len_a, bi1_int_i, bi1_int_b, bi1_list_t, bi1_list_l, bi1_tup_t, bi1_tup_l, b__law_choices_2, standD, Pl.d, h7, h8, h9, h10, plain_is, h11, ↓e1, ↓e2, ↓e4, ↓e3]
    · have hc' : (ms.length : Int) < P.room := by simpa using hc
      simp [and_m, or_m, ↓runF_is, ↓runG_is, ↓bk_ok, ↓bk_no, bk_ite, oo_some, oo_none, oo_ite, ff_rt, ff_nx, ff_ite, fg_rt, fg_nx, fg_ite, ↓peek_v, ↓pe_k, ↓pe_gc, ↓pe_tup, ↓pe_lst, ↓pe_bin, ↓pe_neg, ↓pe_not, ↓pe_and, ↓pe_or, ↓pe_cmp, ↓pe_chain, ↓pe_ife, ↓pe_call, ↓pe_calli, ↓pe_b1, ↓pe_b2, ↓pe_isi, ↓pe_ix, ↓pe_sl, ↓pe_lc, ↓pe_app, ↓pe_pop, ↓pe_popA, ↓pe_rev, ↓pe_dget, pk_ok, pk_ite, ↓exs, ↓retV, ↓v_k, ↓v_gc, ↓v_v, ↓v_tup, ↓v_lst, ↓v_bin, ↓v_neg, ↓v_not, ↓v_and, ↓v_or, ↓v_cmp, ↓v_chain, ↓v_ife, ↓v_call, ↓v_calli, ↓v_b1, ↓v_b2, ↓v_isi, ↓v_ix, ↓v_sl, ↓v_lc, ↓v_app, ↓v_pop, ↓v_popA, ↓v_rev, ↓v_dget, ↓s_asg, ↓s_unp, ↓s_par, ↓s_setL, ↓s_ex, ↓s_iff, ↓s_for_, ↓s_whl, ↓s_ret, ↓s_pass, ↓s_brk, ↓s_cont, ↓s_bad, ↓evs, ↓evm, ↓evo, ↓evIt, ↓view, rd, getS, setS, there, ↓put_pl, plS_none, plS_d, plS_own, ↓putT, ↓putTs, ↓bindT, ↓bindTs, asInt, asBl, Val.toD, Val.slot, b_addi, b_subi, c_lti, c_lei, c_gti, c_gei, c_eqi, c_nei, c_eqs, c_nes, c_in, c_nin, eqD,  bi2, isiD, isiT, ixD, atI, ixN,  lock, unlock, items?, isOwn, isNon, bi1_len_l, bi1_len_t, bi1_len_a, bi1_int_i, bi1_int_b, bi1_list_t, bi1_list_l, bi1_tup_t, bi1_tup_l, b__law_choices_2, standD, Pl.d, h7, h8, h9, h10, plain_is, h11, ↓e1, ↓e2, ↓e4, ↓e3, hc']
  · have hB : chB P ms served b dr = [] := if_neg hc
    rw [hB]
    have hd : dr = true := by cases dr <;> simp_all
    subst hd
    have hc' : ¬ (ms.length : Int) < P.room := by simpa using hc
    refine ⟨s8, s9, s10, h8, h9, h10, ?_⟩
    unfold fF
    simp [and_m, or_m, ↓runF_is, ↓runG_is, ↓bk_ok, ↓bk_no, bk_ite, oo_some, oo_none, oo_ite, ff_rt, ff_nx, ff_ite, fg_rt, fg_nx, fg_ite, ↓peek_v, ↓pe_k, ↓pe_gc, ↓pe_tup, ↓pe_lst, ↓pe_bin, ↓pe_neg, ↓pe_not, ↓pe_and, ↓pe_or, ↓pe_cmp, ↓pe_chain, ↓pe_ife, ↓pe_call, ↓pe_calli, ↓pe_b1, ↓pe_b2, ↓pe_isi, ↓pe_ix, ↓pe_sl, ↓pe_lc, ↓pe_app, ↓pe_pop, ↓pe_popA, ↓pe_rev, ↓pe_dget, pk_ok, pk_ite, ↓exs, ↓retV, ↓v_k, ↓v_gc, ↓v_v, ↓v_tup, ↓v_lst, ↓v_bin, ↓v_neg, ↓v_not, ↓v_and, ↓v_or, ↓v_cmp, ↓v_chain, ↓v_ife, ↓v_call, ↓v_calli, ↓v_b1, ↓v_b2, ↓v_isi, ↓v_ix, ↓v_sl, ↓v_lc, ↓v_app, ↓v_pop, ↓v_popA, ↓v_rev, ↓v_dget, ↓s_asg, ↓s_unp, ↓s_par, ↓s_setL, ↓s_ex, ↓s_iff, ↓s_for_, ↓s_whl, ↓s_ret, ↓s_pass, ↓s_brk, ↓s_cont, ↓s_bad, ↓evs, ↓evm, ↓evo, ↓evIt, ↓view, rd, getS, setS, there, ↓put_pl, plS_none, plS_d, plS_own, ↓putT, ↓putTs, ↓bindT, ↓bindTs, asInt, asBl, Val.toD, Val.slot, b_addi, b_subi, c_lti, c_lei, c_gti, c_gei, c_eqi, c_nei, c_eqs, c_nes, c_in, c_nin, eqD,  bi2, isiD, isiT, ixD, atI, ixN,  lock, unlock, items?, isOwn, isNon, bi1_len_l, bi1_len_t, bi1_len_a, bi1_int_i, bi1_int_b, bi1_list_t, bi1_list_l, bi1_tup_t, bi1_tup_l, b__law_choices_2, standD, h7, hc']
end AW

set_option Elab.async false
set_option linter.all false
set_option maxRecDepth 100000
set_option maxHeartbeats 4000000
namespace AW
open PySem L2
variable {W : Nat}
theorem turn1 (k : Nat) (P : Pl) (ms : List Man) (served : Int) (b : List Int) (found : List Ch) (s4 s6 s7 s8 s9 s10 s11 : Option Slot) (h : ms.length ≤ 100) (h6 : plS s6 = true) (h7 : plS s7 = true) (h8 : plS s8 = true) (h9 : plS s9 = true) (h10 : plS s10 = true) (h11 : pnS s11 = true) (hf : found.length ≤ 490000) :
    ∃ x7 x8 x9 x10, plS x7 = true ∧ plS x8 = true ∧ plS x9 = true ∧ plS x10 = true ∧ fF (Gm W (k + 2)) W (.n 6) b__law_choices_1 (rowD b) [some (.d P.d), some (.d (standD ms served)), some (.own (found.map Ch.d)), some (.d (.int P.room)), s4, some (.d (.tup [.int P.sl, .int P.sh])), s6, s7, s8, s9, s10, s11] =
      .ok (.nx, [some (.d P.d), some (.d (standD ms served)), some (.own ((found ++ chC P ms served b).map Ch.d)), some (.d (.int P.room)), s4, some (.d (.tup [.int P.sl, .int P.sh])), some (.d (rowD b)), x7, x8, x9, x10, s11]) := by
  have cl := chB_len P ms served b false
  obtain ⟨y8, y9, y10, q8, q9, q10, e1⟩ := turn2 (W := W) k P ms served b false found s4 s7 s8 s9 s10 s11 h h7 h8 h9 h10 h11 (by omega)
  obtain ⟨x8, x9, x10, p8, p9, p10, e2⟩ := turn2 (W := W) k P ms served b true (found ++ chB P ms served b false) s4 (some (.d (.bl false))) y8 y9 y10 s11 h rfl q8 q9 q10 h11 (by rw [List.length_append]; omega)
  refine ⟨some (.d (.bl true)), x8, x9, x10, rfl, p8, p9, p10, ?_⟩
  have e3 : forGo (fF (Gm W (k + 2)) W (.n 7) b__law_choices_2) [.bl false, .bl true] [some (.d P.d), some (.d (standD ms served)), some (.own (found.map Ch.d)), some (.d (.int P.room)), s4, some (.d (.tup [.int P.sl, .int P.sh])), some (.d (rowD b)), s7, s8, s9, s10, s11] =
      .ok (.nx, [some (.d P.d), some (.d (standD ms served)), some (.own ((found ++ chC P ms served b).map Ch.d)), some (.d (.int P.room)), s4, some (.d (.tup [.int P.sl, .int P.sh])), some (.d (rowD b)), some (.d (.bl true)), x8, x9, x10, s11]) := by
    unfold forGo
    rw [e1]
    dsimp only
    unfold forGo
    rw [e2]
    dsimp only
    unfold forGo
    rw [List.append_assoc]
    rfl
  conv => lhs; unfold fF
  simp [and_m, or_m, ↓runF_is, ↓runG_is, ↓bk_ok, ↓bk_no, bk_ite, oo_some, oo_none, oo_ite, ff_rt, ff_nx, ff_ite, fg_rt, fg_nx, fg_ite, ↓peek_v, ↓pe_k, ↓pe_gc, ↓pe_tup, ↓pe_lst, ↓pe_bin, ↓pe_neg, ↓pe_not, ↓pe_and, ↓pe_or, ↓pe_cmp, ↓pe_chain, ↓pe_ife, ↓pe_call, ↓pe_calli, ↓pe_b1, ↓pe_b2, ↓pe_isi, ↓pe_ix, ↓pe_sl, ↓pe_lc, ↓pe_app, ↓pe_pop, ↓pe_popA, ↓pe_rev, ↓pe_dget, pk_ok, pk_ite, ↓exs, ↓retV, ↓v_k, ↓v_gc, ↓v_v, ↓v_tup, ↓v_lst, ↓v_bin, ↓v_neg, ↓v_not, ↓v_and, ↓v_or, ↓v_cmp, ↓v_chain, ↓v_ife, ↓v_call, ↓v_calli, ↓v_b1, ↓v_b2, ↓v_isi, ↓v_ix, ↓v_sl, ↓v_lc, ↓v_app, ↓v_pop, ↓v_popA, ↓v_rev, ↓v_dget, ↓s_asg, ↓s_unp, ↓s_par, ↓s_setL, ↓s_ex, ↓s_iff, ↓s_for_, ↓s_whl, ↓s_ret, ↓s_pass, ↓s_brk, ↓s_cont, ↓s_bad, ↓evs, ↓evm, ↓evo, ↓evIt, ↓view, rd, getS, setS, there, ↓put_pl, plS_none, plS_d, plS_own, ↓putT, ↓putTs, ↓bindT, ↓bindTs, asInt, asBl, Val.toD, Val.slot, b_addi, b_subi, c_lti, c_lei, c_gti, c_gei, c_eqi, c_nei, c_eqs, c_nes, c_in, c_nin, eqD,  bi2, isiD, isiT, ixD, atI, ixN,  lock, unlock, items?, isOwn, isNon, bi1_len_l, bi1_len_t, bi1_len_a, bi1_int_i, bi1_int_b, bi1_list_t, bi1_list_l, bi1_tup_t, bi1_tup_l, b__law_choices_1, h6, ↓e3]
theorem loop1 (k : Nat) (P : Pl) (ms : List Man) (served : Int) (s4 s11 : Option Slot) (h : ms.length ≤ 12) (h11 : pnS s11 = true) : ∀ (bs : List (List Int)) (found : List Ch) (s6 s7 s8 s9 s10 : Option Slot), plS s6 = true → plS s7 = true → plS s8 = true → plS s9 = true → plS s10 = true → found.length + 104 * bs.length ≤ 490000 →
    ∃ x6 x7 x8 x9 x10, forGo (fF (Gm W (k + 2)) W (.n 6) b__law_choices_1) (bs.map rowD) [some (.d P.d), some (.d (standD ms served)), some (.own (found.map Ch.d)), some (.d (.int P.room)), s4, some (.d (.tup [.int P.sl, .int P.sh])), s6, s7, s8, s9, s10, s11] =
      .ok (.nx, [some (.d P.d), some (.d (standD ms served)), some (.own ((found ++ bs.flatMap (chC P ms served)).map Ch.d)), some (.d (.int P.room)), s4, some (.d (.tup [.int P.sl, .int P.sh])), x6, x7, x8, x9, x10, s11])
  | [], found, s6, s7, s8, s9, s10, _, _, _, _, _, _ => ⟨s6, s7, s8, s9, s10, by unfold forGo; simp⟩
  | b :: bs, found, s6, s7, s8, s9, s10, h6, h7, h8, h9, h10, hl => by
    rw [List.length_cons] at hl
    have hc := chC_len P ms served b
    obtain ⟨y7, y8, y9, y10, q7, q8, q9, q10, e1⟩ := turn1 (W := W) k P ms served b found s4 s6 s7 s8 s9 s10 s11 (by omega) h6 h7 h8 h9 h10 h11 (by omega)
    obtain ⟨x6, x7, x8, x9, x10, e⟩ := loop1 k P ms served s4 s11 h h11 bs (found ++ chC P ms served b) (some (.d (rowD b))) y7 y8 y9 y10 rfl q7 q8 q9 q10 (by rw [List.length_append]; omega)
    refine ⟨x6, x7, x8, x9, x10, ?_⟩
    rw [List.map_cons]
    unfold forGo
    rw [e1]
    dsimp only
    rw [e]
    simp
theorem fold_len (low high : Int) : ∀ (ms : List Man) (rows : List (List Int)), (ms.foldl (backStep low high) rows).length ≤ rows.length * 2 ^ ms.length
  | [], rows => by simp
  | m :: ms, rows => by
    rw [List.foldl_cons, List.length_cons, Nat.pow_succ]
    have h1 := fold_len low high ms (backStep low high rows m)
    have h2 := Nat.mul_le_mul_right (2 ^ ms.length) (backStep_len low high rows m)
    have : 2 * rows.length * 2 ^ ms.length = rows.length * (2 ^ ms.length * 2) := by rw [Nat.mul_comm 2, Nat.mul_assoc, Nat.mul_comm 2]
    omega
theorem backsT_len (P : Pl) (ms : List Man) : (backsT P ms).length ≤ 2 ^ ms.length := by
  unfold backsT
  have := fold_len P.al P.ah (sortM ms) [[]]
  rw [sortM_len] at this
  simpa using this
def sortC (cs : List Ch) : List Ch := cs.mergeSort (PySem.W.dataLe false fun c => c.d.py)
theorem sortC_d (cs : List Ch) : sortD (cs.map Ch.d) = (sortC cs).map Ch.d := by
  unfold sortD sortC
  exact (PySem.W.sort_maps (f := Ch.d) (fun a _ b _ => rfl)).symm
theorem sortC_perm (cs : List Ch) : (sortC cs).Perm cs := List.mergeSort_perm _ _
theorem pys_ints (r : List Int) : D.pys (r.map D.int) = r.map PyData.int := by
  induction r with
  | nil => rfl
  | cons i r ih => simp only [List.map_cons, D.pys, D.py]; rw [ih]
theorem deps_chs : ∀ cs : List Ch, D.deps (cs.map Ch.d) ≤ 2
  | [] => by simp [D.deps]
  | c :: r => by
    have := deps_chs r
    have h := deps_ints c.b
    simp only [List.map_cons, D.deps, Ch.d, rowD, D.dep]
    omega
theorem sorted_chs (cs : List Ch) (h : cs.length ≤ 1000000) : bi1 .sorted (.lst (cs.map Ch.d)) = some (.own ((sortC cs).map Ch.d)) := by
  unfold bi1
  dsimp only
  have l : lim = 16000000 := rfl
  have d := deps_chs cs
  have : sortable (cs.map Ch.d) = true := by
    unfold sortable
    simp only [Bool.and_eq_true, Bool.or_eq_true, decide_eq_true_eq, List.length_map]
    refine ⟨⟨⟨by omega, by omega⟩, ?_⟩, .inl ?_⟩
    · rw [List.all_eq_true]
      intro x hx
      rw [List.all_eq_true]
      intro y hy
      obtain ⟨m, _, rfl⟩ := List.mem_map.mp hx
      obtain ⟨m', _, rfl⟩ := List.mem_map.mp hy
      simp [Ch.d, rowD, D.py, D.pys, PySem.W.alike, PySem.W.alikeAll, pys_ints, PySem.W.alike_ints]
    · rw [List.all_eq_true]
      intro x hx
      obtain ⟨m, _, rfl⟩ := List.mem_map.mp hx
      rfl
  rw [if_pos this, sortC_d]
theorem f_choices (k : Nat) (P : Pl) (ms : List Man) (served : Int) (h : ms.length ≤ 12) :
    (Gm W (k + 3)).f 25 [P.d, standD ms served] = .ok (.own ((sortC (foundT P ms served)).map Ch.d)) := by
  rw [u__law_choices]
  have e1 := f_backs (W := W) (k + 1) P ms h
  have bl := backsT_len P ms
  have b2 : 2 ^ ms.length ≤ 2 ^ 12 := Nat.pow_le_pow_right (by omega) h
  have fl := flat_len (n := 104) (f := chC P ms served) (fun b => by have := chC_len P ms served b; omega) (backsT P ms)
  obtain ⟨x6, x7, x8, x9, x10, e2⟩ := loop1 (W := W) k P ms served (some (.d (.tup [.int P.al, .int P.ah]))) none h rfl (backsT P ms) [] none none none none none rfl rfl rfl rfl rfl (by simp; omega)
  have e3 := sorted_chs (foundT P ms served) (by unfold foundT; omega)
  rw [List.nil_append] at e2
  have hF : (backsT P ms).flatMap (chC P ms served) = foundT P ms served := rfl
  rw [hF] at e2
  simp only [standD, Pl.d, List.map_nil] at e1 e2
  simp [and_m, or_m, ↓runF_is, ↓runG_is, ↓bk_ok, ↓bk_no, bk_ite, oo_some, oo_none, oo_ite, ff_rt, ff_nx, ff_ite, fg_rt, fg_nx, fg_ite, ↓peek_v, ↓pe_k, ↓pe_gc, ↓pe_tup, ↓pe_lst, ↓pe_bin, ↓pe_neg, ↓pe_not, ↓pe_and, ↓pe_or, ↓pe_cmp, ↓pe_chain, ↓pe_ife, ↓pe_call, ↓pe_calli, ↓pe_b1, ↓pe_b2, ↓pe_isi, ↓pe_ix, ↓pe_sl, ↓pe_lc, ↓pe_app, ↓pe_pop, ↓pe_popA, ↓pe_rev, ↓pe_dget, pk_ok, pk_ite, ↓exs, ↓retV, ↓v_k, ↓v_gc, ↓v_v, ↓v_tup, ↓v_lst, ↓v_bin, ↓v_neg, ↓v_not, ↓v_and, ↓v_or, ↓v_cmp, ↓v_chain, ↓v_ife, ↓v_call, ↓v_calli, ↓v_b1, ↓v_b2, ↓v_isi, ↓v_ix, ↓v_sl, ↓v_lc, ↓v_app, ↓v_pop, ↓v_popA, ↓v_rev, ↓v_dget, ↓s_asg, ↓s_unp, ↓s_par, ↓s_setL, ↓s_ex, ↓s_iff, ↓s_for_, ↓s_whl, ↓s_ret, ↓s_pass, ↓s_brk, ↓s_cont, ↓s_bad, ↓evs, ↓evm, ↓evo, ↓evIt, ↓view, rd, getS, setS, there, ↓put_pl, plS_none, plS_d, plS_own, ↓putT, ↓putTs, ↓bindT, ↓bindTs, asInt, asBl, Val.toD, Val.slot, b_addi, b_subi, c_lti, c_lei, c_gti, c_gei, c_eqi, c_nei, c_eqs, c_nes, c_in, c_nin, eqD,  bi2, isiD, isiT, ixD, atI, ixN,  lock, unlock, items?, isOwn, isNon, bi1_len_l, bi1_len_t, bi1_len_a, bi1_int_i, bi1_int_b, bi1_list_t, bi1_list_l, bi1_tup_t, bi1_tup_l, b__law_choices, standD, Pl.d, ↓e1, ↓e2, ↓e3]
end AW

set_option Elab.async false
set_option linter.all false
set_option maxRecDepth 100000
set_option maxHeartbeats 4000000
namespace AW
open PySem L2
variable {W : Nat}
/-! what fits: the program -/
def oneB (P : Pl) (hi : Int) (x : D) : Bool := match x with
  | .tup [a, b, c] => withinB a 0 hi && (withinB b 0 P.ah && withinB c 0 P.skips)
  | _ => false
theorem one_no {P : Pl} {hi : Int} {x : D} (h : rowB x 3 = false) : oneB P hi x = false := by
  unfold oneB
  split
  · simp [rowB] at h
  · rfl
theorem fits_turn (k : Nat) (P : Pl) (os : List D) (v one : D) (s6 s7 s8 : Option Slot) (h8 : plS s8 = true) :
    fF (Gm W (k + 1)) W (.n 8) b_fits_1 one [some (.d P.d), some (.d (.tup [.tup os, v])), some (.d (.int P.room)), some (.d (.tup [.int P.al, .int P.ah])), some (.d (.tup [.int P.sl, .int P.sh])), some (.d (.int P.skips)), s6, s7, s8] =
      .ok (if oneB P (os.length - 1) one = true then .nx else .rt (.d (.bl false)), [some (.d P.d), some (.d (.tup [.tup os, v])), some (.d (.int P.room)), some (.d (.tup [.int P.al, .int P.ah])), some (.d (.tup [.int P.sl, .int P.sh])), some (.d (.int P.skips)), s6, s7, some (.d one)]) := by
  have e1 : (Gm W (k + 1)).f 2 [one, .int 3] = _ := f_row (W := W) k one 3
  have e2 := fun y lo hi => f_within (W := W) k y lo hi
  unfold fF
  cases hr : rowB one 3 with
  | false =>
    rw [one_no hr]; rw [hr] at e1
    simp [and_m, or_m, ↓runF_is, ↓runG_is, ↓bk_ok, ↓bk_no, bk_ite, oo_some, oo_none, oo_ite, ff_rt, ff_nx, ff_ite, fg_rt, fg_nx, fg_ite, ↓peek_v, ↓pe_k, ↓pe_gc, ↓pe_tup, ↓pe_lst, ↓pe_bin, ↓pe_neg, ↓pe_not, ↓pe_and, ↓pe_or, ↓pe_cmp, ↓pe_chain, ↓pe_ife, ↓pe_call, ↓pe_calli, ↓pe_b1, ↓pe_b2, ↓pe_isi, ↓pe_ix, ↓pe_sl, ↓pe_lc, ↓pe_app, ↓pe_pop, ↓pe_popA, ↓pe_rev, ↓pe_dget, pk_ok, pk_ite, ↓exs, ↓retV, ↓v_k, ↓v_gc, ↓v_v, ↓v_tup, ↓v_lst, ↓v_bin, ↓v_neg, ↓v_not, ↓v_and, ↓v_or, ↓v_cmp, ↓v_chain, ↓v_ife, ↓v_call, ↓v_calli, ↓v_b1, ↓v_b2, ↓v_isi, ↓v_ix, ↓v_sl, ↓v_lc, ↓v_app, ↓v_pop, ↓v_popA, ↓v_rev, ↓v_dget, ↓s_asg, ↓s_unp, ↓s_par, ↓s_setL, ↓s_ex, ↓s_iff, ↓s_for_, ↓s_whl, ↓s_ret, ↓s_pass, ↓s_brk, ↓s_cont, ↓s_bad, ↓evs, ↓evm, ↓evo, ↓evIt, ↓view, rd, getS, setS, there, ↓put_pl, plS_none, plS_d, plS_own, ↓putT, ↓putTs, ↓bindT, ↓bindTs, asInt, asBl, Val.toD, Val.slot, b_addi, b_subi, c_lti, c_lei, c_gti, c_gei, c_eqi, c_nei, c_eqs, c_nes, c_in, c_nin, eqD,  bi2, isiD, isiT, ixD, atI, ixN,  lock, unlock, items?, isOwn, isNon, bi1_len_l, bi1_len_t, bi1_len_a, bi1_int_i, bi1_int_b, bi1_list_t, bi1_list_l, bi1_tup_t, bi1_tup_l, b_fits_1, h8, ↓e1]
  | true =>
    obtain ⟨a, b, c, rfl⟩ := row3 hr
    rw [hr] at e1
    cases h1 : withinB a 0 (os.length - 1) <;> cases h2 : withinB b 0 P.ah <;> cases h3 : withinB c 0 P.skips <;> simp [and_m, or_m, ↓runF_is, ↓runG_is, ↓bk_ok, ↓bk_no, bk_ite, oo_some, oo_none, oo_ite, ff_rt, ff_nx, ff_ite, fg_rt, fg_nx, fg_ite, ↓peek_v, ↓pe_k, ↓pe_gc, ↓pe_tup, ↓pe_lst, ↓pe_bin, ↓pe_neg, ↓pe_not, ↓pe_and, ↓pe_or, ↓pe_cmp, ↓pe_chain, ↓pe_ife, ↓pe_call, ↓pe_calli, ↓pe_b1, ↓pe_b2, ↓pe_isi, ↓pe_ix, ↓pe_sl, ↓pe_lc, ↓pe_app, ↓pe_pop, ↓pe_popA, ↓pe_rev, ↓pe_dget, pk_ok, pk_ite, ↓exs, ↓retV, ↓v_k, ↓v_gc, ↓v_v, ↓v_tup, ↓v_lst, ↓v_bin, ↓v_neg, ↓v_not, ↓v_and, ↓v_or, ↓v_cmp, ↓v_chain, ↓v_ife, ↓v_call, ↓v_calli, ↓v_b1, ↓v_b2, ↓v_isi, ↓v_ix, ↓v_sl, ↓v_lc, ↓v_app, ↓v_pop, ↓v_popA, ↓v_rev, ↓v_dget, ↓s_asg, ↓s_unp, ↓s_par, ↓s_setL, ↓s_ex, ↓s_iff, ↓s_for_, ↓s_whl, ↓s_ret, ↓s_pass, ↓s_brk, ↓s_cont, ↓s_bad, ↓evs, ↓evm, ↓evo, ↓evIt, ↓view, rd, getS, setS, there, ↓put_pl, plS_none, plS_d, plS_own, ↓putT, ↓putTs, ↓bindT, ↓bindTs, asInt, asBl, Val.toD, Val.slot, b_addi, b_subi, c_lti, c_lei, c_gti, c_gei, c_eqi, c_nei, c_eqs, c_nes, c_in, c_nin, eqD,  bi2, isiD, isiT, ixD, atI, ixN,  lock, unlock, items?, isOwn, isNon, bi1_len_l, bi1_len_t, bi1_len_a, bi1_int_i, bi1_int_b, bi1_list_t, bi1_list_l, bi1_tup_t, bi1_tup_l, b_fits_1, h8, ↓e1, ↓e2, oneB, h1, h2, h3]
theorem fits_loop (k : Nat) (P : Pl) (os : List D) (v : D) (s6 s7 : Option Slot) : ∀ (l : List D) (s8 : Option Slot), pnS s8 = true →
    ∃ x8, pnS x8 = true ∧ forGo (fF (Gm W (k + 1)) W (.n 8) b_fits_1) l [some (.d P.d), some (.d (.tup [.tup os, v])), some (.d (.int P.room)), some (.d (.tup [.int P.al, .int P.ah])), some (.d (.tup [.int P.sl, .int P.sh])), some (.d (.int P.skips)), s6, s7, s8] =
      .ok (if l.all (oneB P (os.length - 1)) = true then .nx else .rt (.d (.bl false)), [some (.d P.d), some (.d (.tup [.tup os, v])), some (.d (.int P.room)), some (.d (.tup [.int P.al, .int P.ah])), some (.d (.tup [.int P.sl, .int P.sh])), some (.d (.int P.skips)), s6, s7, x8])
  | [], s8, h8 => ⟨s8, h8, by unfold forGo; simp⟩
  | one :: l, s8, h8 => by
    obtain ⟨x8, p8, e⟩ := fits_loop k P os v s6 s7 l (some (.d one)) rfl
    have t := fits_turn (W := W) k P os v one s6 s7 s8 (pn_pl h8)
    cases h : oneB P (os.length - 1) one with
    | true =>
      refine ⟨x8, p8, ?_⟩
      unfold forGo
      rw [t, h, if_pos rfl]
      dsimp only
      rw [e, List.all_cons, h, Bool.true_and]
    | false =>
      refine ⟨some (.d one), rfl, ?_⟩
      unfold forGo
      rw [t, h, if_neg (by decide)]
      dsimp only
      rw [List.all_cons, h, Bool.false_and, if_neg (by decide)]
theorem ones_men {P : Pl} {hi : Int} : ∀ {os : List D}, os.all (oneB P hi) = true → ∃ ms : List Man, os = ms.map Man.d ∧ ∀ m ∈ ms, 0 ≤ m.n ∧ m.n ≤ hi
  | [], _ => ⟨[], rfl, fun _ h => (nomatch h)⟩
  | x :: r, h => by
    rw [List.all_cons, Bool.and_eq_true] at h
    obtain ⟨ms, e, hm⟩ := ones_men h.2
    have h1 := h.1
    unfold oneB at h1
    split at h1
    · rename_i a b c
      simp only [Bool.and_eq_true] at h1
      obtain ⟨i, rfl, i1, i2⟩ := within_int h1.1
      obtain ⟨j, rfl, _⟩ := within_int h1.2.1
      obtain ⟨l, rfl, _⟩ := within_int h1.2.2
      refine ⟨⟨i, j, l⟩ :: ms, by rw [e]; rfl, fun m hm' => ?_⟩
      rcases List.mem_cons.mp hm' with rfl | hm'
      · exact ⟨i1, i2⟩
      · exact hm m hm'
    · cases h1
theorem fits_lc (Γ : Gam) (ms : List Man) (s0 s1 s2 s3 s4 s5 s6 s7 s8 : Option Slot) :
    lcGo (lcF Γ (.n 8) .non e_fits_2) [8] (ms.map Man.d) [s0, s1, s2, s3, s4, s5, s6, s7, s8] [] = .ok ((ms.map (·.n)).map D.int, [s0, s1, s2, s3, s4, s5, s6, s7, s8]) := by
  refine (lcGo_typed (g := fun m : Man => some (.int m.n)) fun m hm => ⟨[s0, s1, s2, s3, s4, s5, s6, s7, some (.d m.d)], ?_, by simp [mend, getS]⟩).trans ?_
  · unfold lcF
    simp [and_m, or_m, ↓runF_is, ↓runG_is, ↓bk_ok, ↓bk_no, bk_ite, oo_some, oo_none, oo_ite, ff_rt, ff_nx, ff_ite, fg_rt, fg_nx, fg_ite, ↓peek_v, ↓pe_k, ↓pe_gc, ↓pe_tup, ↓pe_lst, ↓pe_bin, ↓pe_neg, ↓pe_not, ↓pe_and, ↓pe_or, ↓pe_cmp, ↓pe_chain, ↓pe_ife, ↓pe_call, ↓pe_calli, ↓pe_b1, ↓pe_b2, ↓pe_isi, ↓pe_ix, ↓pe_sl, ↓pe_lc, ↓pe_app, ↓pe_pop, ↓pe_popA, ↓pe_rev, ↓pe_dget, pk_ok, pk_ite, ↓exs, ↓retV, ↓v_k, ↓v_gc, ↓v_v, ↓v_tup, ↓v_lst, ↓v_bin, ↓v_neg, ↓v_not, ↓v_and, ↓v_or, ↓v_cmp, ↓v_chain, ↓v_ife, ↓v_call, ↓v_calli, ↓v_b1, ↓v_b2, ↓v_isi, ↓v_ix, ↓v_sl, ↓v_lc, ↓v_app, ↓v_pop, ↓v_popA, ↓v_rev, ↓v_dget, ↓s_asg, ↓s_unp, ↓s_par, ↓s_setL, ↓s_ex, ↓s_iff, ↓s_for_, ↓s_whl, ↓s_ret, ↓s_pass, ↓s_brk, ↓s_cont, ↓s_bad, ↓evs, ↓evm, ↓evo, ↓evIt, ↓view, rd, getS, setS, there, ↓put_pl, plS_none, plS_d, plS_own, ↓putT, ↓putTs, ↓bindT, ↓bindTs, asInt, asBl, Val.toD, Val.slot, b_addi, b_subi, c_lti, c_lei, c_gti, c_gei, c_eqi, c_nei, c_eqs, c_nes, c_in, c_nin, eqD,  bi2, isiD, isiT, ixD, atI, ixN,  lock, unlock, items?, isOwn, isNon, bi1_len_l, bi1_len_t, bi1_len_a, bi1_int_i, bi1_int_b, bi1_list_t, bi1_list_l, bi1_tup_t, bi1_tup_l, Man.d, e_fits_2, wiped]
  · rw [fm_map, List.nil_append, List.map_map]; rfl
def sortI (ns : List Int) : List Int := ns.mergeSort (PySem.W.dataLe false fun s => (D.int s).py)
theorem sortI_d (hs : List Int) : sortD (hs.map D.int) = (sortI hs).map D.int := by
  unfold sortD sortI
  exact (PySem.W.sort_maps (f := D.int) (fun a _ b _ => rfl)).symm
theorem sorted_ints_l (hs : List Int) (h : hs.length ≤ 1000) : bi1 .sorted (.lst (hs.map D.int)) = some (.own ((sortI hs).map D.int)) := by
  unfold bi1
  dsimp only
  have l : lim = 16000000 := rfl
  have : sortable (hs.map D.int) = true := by
    unfold sortable
    simp only [Bool.and_eq_true, Bool.or_eq_true, decide_eq_true_eq, List.length_map]
    refine ⟨⟨⟨by omega, by rw [deps_ints]; omega⟩, ?_⟩, .inr ?_⟩
    · rw [List.all_eq_true]
      intro x hx
      rw [List.all_eq_true]
      intro y hy
      obtain ⟨m, _, rfl⟩ := List.mem_map.mp hx
      obtain ⟨m', _, rfl⟩ := List.mem_map.mp hy
      simp [D.py, PySem.W.alike]
    · rw [List.all_eq_true]
      intro x hx
      obtain ⟨m, _, rfl⟩ := List.mem_map.mp hx
      rfl
  rw [if_pos this, sortI_d]
theorem eqvs_ints : ∀ xs ys : List Int, D.eqvs (xs.map D.int) (ys.map D.int) = decide (xs = ys)
  | [], [] => by simp [D.eqvs]
  | [], _ :: _ => by simp [D.eqvs]
  | _ :: _, [] => by simp [D.eqvs]
  | x :: xs, y :: ys => by
    simp only [List.map_cons, D.eqvs, D.eqv]
    rw [eqvs_ints xs ys, Bool.eq_iff_iff]
    simp
theorem eq_ints (xs ys : List Int) : cmpD .Eq (.lst (xs.map D.int)) (.lst (ys.map D.int)) = some (decide (xs = ys)) := by
  show (if (D.lst _).dep ≤ 60 ∧ (D.lst _).dep ≤ 60 then some (D.eqv (.lst _) (.lst _)) else none) = _
  rw [if_pos ⟨by simp only [D.dep]; rw [deps_ints]; omega, by simp only [D.dep]; rw [deps_ints]; omega⟩]
  simp only [D.eqv]
  rw [eqvs_ints]
def rangeI (n : Nat) : List Int := (List.range n).map fun (i : Nat) => (i : Int)
theorem lrange_n (n : Nat) (h : n ≤ 1000000) : bi1 .lrange (.int n) = some (.own ((rangeI n).map D.int)) := by
  show (if -1000000 ≤ (n : Int) ∧ (n : Int) ≤ 1000000 then some (Val.own ((List.range (n : Int).toNat).map fun (i : Nat) => D.int i)) else none) = _
  rw [if_pos ⟨by omega, by omega⟩]
  unfold rangeI
  rw [List.map_map]
  rfl
def numsB (ns : List Int) : Bool := decide (sortI ns = rangeI ns.length)
def menOf (os : List D) : List Int := os.map fun x => match x with
  | .tup (.int i :: _) => i
  | _ => 0
theorem menOf_d (ms : List Man) : menOf (ms.map Man.d) = ms.map (·.n) := by
  unfold menOf
  rw [List.map_map]
  rfl
def fitsB (P : Pl) (x : D) : Bool := match x with
  | .tup [.tup os, v] => withinB v (-1) (P.sh - 1) && (decide ((os.length : Int) ≤ P.room) && (os.all (oneB P (os.length - 1)) && numsB (menOf os)))
  | _ => false
end AW

set_option Elab.async false
set_option linter.all false
set_option maxRecDepth 100000
set_option maxHeartbeats 4000000
namespace AW
open PySem L2
variable {W : Nat}
theorem fits_no {P : Pl} {x : D} (h : rowB x 2 = false) : fitsB P x = false := by
  unfold fitsB
  split
  · simp [rowB] at h
  · rfl
theorem f_fits (k : Nat) (P : Pl) (x : D) (hR : P.room ≤ 900) : (Gm W (k + 2)).f 12 [P.d, x] = .ok (.d (.bl (fitsB P x))) := by
  rw [u_fits]
  have e1 : (Gm W (k + 1)).f 2 [x, .int 2] = _ := f_row (W := W) k x 2
  have e2 := fun y lo hi => f_within (W := W) k y lo hi
  cases hr : rowB x 2 with
  | false => rw [fits_no hr]; rw [hr] at e1; simp [and_m, or_m, ↓runF_is, ↓runG_is, ↓bk_ok, ↓bk_no, bk_ite, oo_some, oo_none, oo_ite, ff_rt, ff_nx, ff_ite, fg_rt, fg_nx, fg_ite, ↓peek_v, ↓pe_k, ↓pe_gc, ↓pe_tup, ↓pe_lst, ↓pe_bin, ↓pe_neg, ↓pe_not, ↓pe_and, ↓pe_or, ↓pe_cmp, ↓pe_chain, ↓pe_ife, ↓pe_call, ↓pe_calli, ↓pe_b1, ↓pe_b2, ↓pe_isi, ↓pe_ix, ↓pe_sl, ↓pe_lc, ↓pe_app, ↓pe_pop, ↓pe_popA, ↓pe_rev, ↓pe_dget, pk_ok, pk_ite, ↓exs, ↓retV, ↓v_k, ↓v_gc, ↓v_v, ↓v_tup, ↓v_lst, ↓v_bin, ↓v_neg, ↓v_not, ↓v_and, ↓v_or, ↓v_cmp, ↓v_chain, ↓v_ife, ↓v_call, ↓v_calli, ↓v_b1, ↓v_b2, ↓v_isi, ↓v_ix, ↓v_sl, ↓v_lc, ↓v_app, ↓v_pop, ↓v_popA, ↓v_rev, ↓v_dget, ↓s_asg, ↓s_unp, ↓s_par, ↓s_setL, ↓s_ex, ↓s_iff, ↓s_for_, ↓s_whl, ↓s_ret, ↓s_pass, ↓s_brk, ↓s_cont, ↓s_bad, ↓evs, ↓evm, ↓evo, ↓evIt, ↓view, rd, getS, setS, there, ↓put_pl, plS_none, plS_d, plS_own, ↓putT, ↓putTs, ↓bindT, ↓bindTs, asInt, asBl, Val.toD, Val.slot, b_addi, b_subi, c_lti, c_lei, c_gti, c_gei, c_eqi, c_nei, c_eqs, c_nes, c_in, c_nin, eqD,  bi2, isiD, isiT, ixD, atI, ixN,  lock, unlock, items?, isOwn, isNon, bi1_len_l, bi1_len_t, bi1_len_a, bi1_int_i, bi1_int_b, bi1_list_t, bi1_list_l, bi1_tup_t, bi1_tup_l, b_fits, Pl.d, ↓e1]
  | true =>
    obtain ⟨s, v, rfl⟩ := row2 hr
    rw [hr] at e1
    cases hw : withinB v (-1) (P.sh - 1) with
    | false =>
      have : fitsB P (.tup [s, v]) = false := by
        cases s <;> first | rfl | (show (withinB v (-1) (P.sh - 1) && _) = false; rw [hw]; rfl)
      rw [this]
      simp [and_m, or_m, ↓runF_is, ↓runG_is, ↓bk_ok, ↓bk_no, bk_ite, oo_some, oo_none, oo_ite, ff_rt, ff_nx, ff_ite, fg_rt, fg_nx, fg_ite, ↓peek_v, ↓pe_k, ↓pe_gc, ↓pe_tup, ↓pe_lst, ↓pe_bin, ↓pe_neg, ↓pe_not, ↓pe_and, ↓pe_or, ↓pe_cmp, ↓pe_chain, ↓pe_ife, ↓pe_call, ↓pe_calli, ↓pe_b1, ↓pe_b2, ↓pe_isi, ↓pe_ix, ↓pe_sl, ↓pe_lc, ↓pe_app, ↓pe_pop, ↓pe_popA, ↓pe_rev, ↓pe_dget, pk_ok, pk_ite, ↓exs, ↓retV, ↓v_k, ↓v_gc, ↓v_v, ↓v_tup, ↓v_lst, ↓v_bin, ↓v_neg, ↓v_not, ↓v_and, ↓v_or, ↓v_cmp, ↓v_chain, ↓v_ife, ↓v_call, ↓v_calli, ↓v_b1, ↓v_b2, ↓v_isi, ↓v_ix, ↓v_sl, ↓v_lc, ↓v_app, ↓v_pop, ↓v_popA, ↓v_rev, ↓v_dget, ↓s_asg, ↓s_unp, ↓s_par, ↓s_setL, ↓s_ex, ↓s_iff, ↓s_for_, ↓s_whl, ↓s_ret, ↓s_pass, ↓s_brk, ↓s_cont, ↓s_bad, ↓evs, ↓evm, ↓evo, ↓evIt, ↓view, rd, getS, setS, there, ↓put_pl, plS_none, plS_d, plS_own, ↓putT, ↓putTs, ↓bindT, ↓bindTs, asInt, asBl, Val.toD, Val.slot, b_addi, b_subi, c_lti, c_lei, c_gti, c_gei, c_eqi, c_nei, c_eqs, c_nes, c_in, c_nin, eqD,  bi2, isiD, isiT, ixD, atI, ixN,  lock, unlock, items?, isOwn, isNon, bi1_len_l, bi1_len_t, bi1_len_a, bi1_int_i, bi1_int_b, bi1_list_t, bi1_list_l, bi1_tup_t, bi1_tup_l, b_fits, Pl.d, ↓e1, ↓e2, hw]
    | true =>
      by_cases ht : ∃ os, s = .tup os
      · obtain ⟨os, rfl⟩ := ht
        have hF : fitsB P (.tup [.tup os, v]) = (withinB v (-1) (P.sh - 1) && (decide ((os.length : Int) ≤ P.room) && (os.all (oneB P (os.length - 1)) && numsB (menOf os)))) := rfl
        rw [hF, hw]
        by_cases hl : (os.length : Int) ≤ P.room
        · have hl' : ¬ P.room < os.length := by omega
          obtain ⟨x8, p8, e3⟩ := fits_loop (W := W) k P os v (some (.d (.str P.after))) (some (.d (.str P.late))) os none rfl
          cases ha : os.all (oneB P (os.length - 1)) with
          | false =>
            rw [ha, if_neg (by decide)] at e3
            simp only [Pl.d] at e3
            simp [and_m, or_m, ↓runF_is, ↓runG_is, ↓bk_ok, ↓bk_no, bk_ite, oo_some, oo_none, oo_ite, ff_rt, ff_nx, ff_ite, fg_rt, fg_nx, fg_ite, ↓peek_v, ↓pe_k, ↓pe_gc, ↓pe_tup, ↓pe_lst, ↓pe_bin, ↓pe_neg, ↓pe_not, ↓pe_and, ↓pe_or, ↓pe_cmp, ↓pe_chain, ↓pe_ife, ↓pe_call, ↓pe_calli, ↓pe_b1, ↓pe_b2, ↓pe_isi, ↓pe_ix, ↓pe_sl, ↓pe_lc, ↓pe_app, ↓pe_pop, ↓pe_popA, ↓pe_rev, ↓pe_dget, pk_ok, pk_ite, ↓exs, ↓retV, ↓v_k, ↓v_gc, ↓v_v, ↓v_tup, ↓v_lst, ↓v_bin, ↓v_neg, ↓v_not, ↓v_and, ↓v_or, ↓v_cmp, ↓v_chain, ↓v_ife, ↓v_call, ↓v_calli, ↓v_b1, ↓v_b2, ↓v_isi, ↓v_ix, ↓v_sl, ↓v_lc, ↓v_app, ↓v_pop, ↓v_popA, ↓v_rev, ↓v_dget, ↓s_asg, ↓s_unp, ↓s_par, ↓s_setL, ↓s_ex, ↓s_iff, ↓s_for_, ↓s_whl, ↓s_ret, ↓s_pass, ↓s_brk, ↓s_cont, ↓s_bad, ↓evs, ↓evm, ↓evo, ↓evIt, ↓view, rd, getS, setS, there, ↓put_pl, plS_none, plS_d, plS_own, ↓putT, ↓putTs, ↓bindT, ↓bindTs, asInt, asBl, Val.toD, Val.slot, b_addi, b_subi, c_lti, c_lei, c_gti, c_gei, c_eqi, c_nei, c_eqs, c_nes, c_in, c_nin, eqD,  bi2, isiD, isiT, ixD, atI, ixN,  lock, unlock, items?, isOwn, isNon, bi1_len_l, bi1_len_t, bi1_len_a, bi1_int_i, bi1_int_b, bi1_list_t, bi1_list_l, bi1_tup_t, bi1_tup_l, b_fits, Pl.d, ↓e1, ↓e2, hw, hl, hl', ↓e3]
          | true =>
            rw [ha, if_pos rfl] at e3
            simp only [Pl.d] at e3
            obtain ⟨ms, rfl, _⟩ := ones_men ha
            rw [menOf_d]
            rw [List.length_map] at hl hl'
            have e4 := fun s0 s1 s2 s3 s4 s5 s6 s7 s8 => fits_lc (Gm W (k + 1)) ms s0 s1 s2 s3 s4 s5 s6 s7 s8
            have e5 := sorted_ints_l (ms.map (·.n)) (by rw [List.length_map]; omega)
            have e6 := lrange_n ms.length (by omega)
            have e7 := eq_ints (sortI (ms.map (·.n))) (rangeI ms.length)
            have hn : numsB (ms.map (·.n)) = decide (sortI (ms.map (·.n)) = rangeI ms.length) := by unfold numsB; rw [List.length_map]
            rw [hn]
            generalize ms.map (·.n) = ns at *
            generalize sortI ns = sn at *
            generalize rangeI ms.length = rn at *
            simp [and_m, or_m, ↓runF_is, ↓runG_is, ↓bk_ok, ↓bk_no, bk_ite, oo_some, oo_none, oo_ite, ff_rt, ff_nx, ff_ite, fg_rt, fg_nx, fg_ite, ↓peek_v, ↓pe_k, ↓pe_gc, ↓pe_tup, ↓pe_lst, ↓pe_bin, ↓pe_neg, ↓pe_not, ↓pe_and, ↓pe_or, ↓pe_cmp, ↓pe_chain, ↓pe_ife, ↓pe_call, ↓pe_calli, ↓pe_b1, ↓pe_b2, ↓pe_isi, ↓pe_ix, ↓pe_sl, ↓pe_lc, ↓pe_app, ↓pe_pop, ↓pe_popA, ↓pe_rev, ↓pe_dget, pk_ok, pk_ite, ↓exs, ↓retV, ↓v_k, ↓v_gc, ↓v_v, ↓v_tup, ↓v_lst, ↓v_bin, ↓v_neg, ↓v_not, ↓v_and, ↓v_or, ↓v_cmp, ↓v_chain, ↓v_ife, ↓v_call, ↓v_calli, ↓v_b1, ↓v_b2, ↓v_isi, ↓v_ix, ↓v_sl, ↓v_lc, ↓v_app, ↓v_pop, ↓v_popA, ↓v_rev, ↓v_dget, ↓s_asg, ↓s_unp, ↓s_par, ↓s_setL, ↓s_ex, ↓s_iff, ↓s_for_, ↓s_whl, ↓s_ret, ↓s_pass, ↓s_brk, ↓s_cont, ↓s_bad, ↓evs, ↓evm, ↓evo, ↓evIt, ↓view, rd, getS, setS, there, ↓put_pl, plS_none, plS_d, plS_own, ↓putT, ↓putTs, ↓bindT, ↓bindTs, asInt, asBl, Val.toD, Val.slot, b_addi, b_subi, c_lti, c_lei, c_gti, c_gei, c_eqi, c_nei, c_eqs, c_nes, c_in, c_nin, eqD,  bi2, isiD, isiT, ixD, atI, ixN,  lock, unlock, items?, isOwn, isNon, bi1_len_l, bi1_len_t, bi1_len_a, bi1_int_i, bi1_int_b, bi1_list_t, bi1_list_l, bi1_tup_t, bi1_tup_l, b_fits, Pl.d, ↓e1, ↓e2, hw, hl, hl', ↓e3, plain_is, p8, ↓e4, ↓e5, ↓e6, ↓e7]
        · have hl' : P.room < os.length := by omega
          simp [and_m, or_m, ↓runF_is, ↓runG_is, ↓bk_ok, ↓bk_no, bk_ite, oo_some, oo_none, oo_ite, ff_rt, ff_nx, ff_ite, fg_rt, fg_nx, fg_ite, ↓peek_v, ↓pe_k, ↓pe_gc, ↓pe_tup, ↓pe_lst, ↓pe_bin, ↓pe_neg, ↓pe_not, ↓pe_and, ↓pe_or, ↓pe_cmp, ↓pe_chain, ↓pe_ife, ↓pe_call, ↓pe_calli, ↓pe_b1, ↓pe_b2, ↓pe_isi, ↓pe_ix, ↓pe_sl, ↓pe_lc, ↓pe_app, ↓pe_pop, ↓pe_popA, ↓pe_rev, ↓pe_dget, pk_ok, pk_ite, ↓exs, ↓retV, ↓v_k, ↓v_gc, ↓v_v, ↓v_tup, ↓v_lst, ↓v_bin, ↓v_neg, ↓v_not, ↓v_and, ↓v_or, ↓v_cmp, ↓v_chain, ↓v_ife, ↓v_call, ↓v_calli, ↓v_b1, ↓v_b2, ↓v_isi, ↓v_ix, ↓v_sl, ↓v_lc, ↓v_app, ↓v_pop, ↓v_popA, ↓v_rev, ↓v_dget, ↓s_asg, ↓s_unp, ↓s_par, ↓s_setL, ↓s_ex, ↓s_iff, ↓s_for_, ↓s_whl, ↓s_ret, ↓s_pass, ↓s_brk, ↓s_cont, ↓s_bad, ↓evs, ↓evm, ↓evo, ↓evIt, ↓view, rd, getS, setS, there, ↓put_pl, plS_none, plS_d, plS_own, ↓putT, ↓putTs, ↓bindT, ↓bindTs, asInt, asBl, Val.toD, Val.slot, b_addi, b_subi, c_lti, c_lei, c_gti, c_gei, c_eqi, c_nei, c_eqs, c_nes, c_in, c_nin, eqD,  bi2, isiD, isiT, ixD, atI, ixN,  lock, unlock, items?, isOwn, isNon, bi1_len_l, bi1_len_t, bi1_len_a, bi1_int_i, bi1_int_b, bi1_list_t, bi1_list_l, bi1_tup_t, bi1_tup_l, b_fits, Pl.d, ↓e1, ↓e2, hw, hl, hl']
      · have : fitsB P (.tup [s, v]) = false := by
          cases s <;> first | rfl | exact absurd ⟨_, rfl⟩ ht
        rw [this]
        cases s <;> first | exact absurd ⟨_, rfl⟩ ht | simp [and_m, or_m, ↓runF_is, ↓runG_is, ↓bk_ok, ↓bk_no, bk_ite, oo_some, oo_none, oo_ite, ff_rt, ff_nx, ff_ite, fg_rt, fg_nx, fg_ite, ↓peek_v, ↓pe_k, ↓pe_gc, ↓pe_tup, ↓pe_lst, ↓pe_bin, ↓pe_neg, ↓pe_not, ↓pe_and, ↓pe_or, ↓pe_cmp, ↓pe_chain, ↓pe_ife, ↓pe_call, ↓pe_calli, ↓pe_b1, ↓pe_b2, ↓pe_isi, ↓pe_ix, ↓pe_sl, ↓pe_lc, ↓pe_app, ↓pe_pop, ↓pe_popA, ↓pe_rev, ↓pe_dget, pk_ok, pk_ite, ↓exs, ↓retV, ↓v_k, ↓v_gc, ↓v_v, ↓v_tup, ↓v_lst, ↓v_bin, ↓v_neg, ↓v_not, ↓v_and, ↓v_or, ↓v_cmp, ↓v_chain, ↓v_ife, ↓v_call, ↓v_calli, ↓v_b1, ↓v_b2, ↓v_isi, ↓v_ix, ↓v_sl, ↓v_lc, ↓v_app, ↓v_pop, ↓v_popA, ↓v_rev, ↓v_dget, ↓s_asg, ↓s_unp, ↓s_par, ↓s_setL, ↓s_ex, ↓s_iff, ↓s_for_, ↓s_whl, ↓s_ret, ↓s_pass, ↓s_brk, ↓s_cont, ↓s_bad, ↓evs, ↓evm, ↓evo, ↓evIt, ↓view, rd, getS, setS, there, ↓put_pl, plS_none, plS_d, plS_own, ↓putT, ↓putTs, ↓bindT, ↓bindTs, asInt, asBl, Val.toD, Val.slot, b_addi, b_subi, c_lti, c_lei, c_gti, c_gei, c_eqi, c_nei, c_eqs, c_nes, c_in, c_nin, eqD,  bi2, isiD, isiT, ixD, atI, ixN,  lock, unlock, items?, isOwn, isNon, bi1_len_l, bi1_len_t, bi1_len_a, bi1_int_i, bi1_int_b, bi1_list_t, bi1_list_l, bi1_tup_t, bi1_tup_l, b_fits, Pl.d, ↓e1, ↓e2, hw]
end AW

set_option Elab.async false
set_option linter.all false
set_option maxRecDepth 100000
set_option maxHeartbeats 4000000
namespace AW
open PySem L2
variable {W : Nat}
theorem in_ints (i : Int) (ns : List Int) : inD (.int i) (.lst (ns.map D.int)) = some (decide (i ∈ ns)) := by
  unfold inD
  dsimp only
  rw [deps_ints, if_pos ⟨by simp [D.dep], by omega⟩, List.any_map]
  congr 1
  rw [Bool.eq_iff_iff]
  simp [D.eqv]
def numOf (x : D) : Int := match x with
  | .tup (.int i :: _) => i
  | _ => 0
theorem menOf_is (os : List D) : menOf os = os.map numOf := rfl
def goodOne (P : Pl) (ns : List Int) (x : D) : Bool := oneB P P.room x && decide (numOf x ∉ ns)
theorem good_turn (k : Nat) (P : Pl) (one : D) (ns : List Int) (s1 s6 s7 s9 : Option Slot) (h9 : plS s9 = true) (hl : ns.length ≤ 1000) :
    fF (Gm W (k + 1)) W (.n 9) b__law_good_stand_1 one [some (.d P.d), s1, some (.d (.int P.room)), some (.d (.tup [.int P.al, .int P.ah])), some (.d (.tup [.int P.sl, .int P.sh])), some (.d (.int P.skips)), s6, s7, some (.own (ns.map D.int)), s9] =
      .ok (if goodOne P ns one = true then .nx else .rt (.d (.bl false)), [some (.d P.d), s1, some (.d (.int P.room)), some (.d (.tup [.int P.al, .int P.ah])), some (.d (.tup [.int P.sl, .int P.sh])), some (.d (.int P.skips)), s6, s7, some (.own ((if goodOne P ns one = true then ns ++ [numOf one] else ns).map D.int)), some (.d one)]) := by
  have e1 : (Gm W (k + 1)).f 28 [one, .int 3] = _ := f_made (W := W) k one 3
  have e2 := fun y lo hi => f_int (W := W) k y lo hi
  have lm : lim = 16000000 := rfl
  have l1 : ns.length < lim := by omega
  unfold fF goodOne
  cases hr : rowB one 3 with
  | false =>
    rw [one_no hr]; rw [hr] at e1
    simp [and_m, or_m, ↓runF_is, ↓runG_is, ↓bk_ok, ↓bk_no, bk_ite, oo_some, oo_none, oo_ite, ff_rt, ff_nx, ff_ite, fg_rt, fg_nx, fg_ite, ↓peek_v, ↓pe_k, ↓pe_gc, ↓pe_tup, ↓pe_lst, ↓pe_bin, ↓pe_neg, ↓pe_not, ↓pe_and, ↓pe_or, ↓pe_cmp, ↓pe_chain, ↓pe_ife, ↓pe_call, ↓pe_calli, ↓pe_b1, ↓pe_b2, ↓pe_isi, ↓pe_ix, ↓pe_sl, ↓pe_lc, ↓pe_app, ↓pe_pop, ↓pe_popA, ↓pe_rev, ↓pe_dget, pk_ok, pk_ite, ↓exs, ↓retV, ↓v_k, ↓v_gc, ↓v_v, ↓v_tup, ↓v_lst, ↓v_bin, ↓v_neg, ↓v_not, ↓v_and, ↓v_or, ↓v_cmp, ↓v_chain, ↓v_ife, ↓v_call, ↓v_calli, ↓v_b1, ↓v_b2, ↓v_isi, ↓v_ix, ↓v_sl, ↓v_lc, ↓v_app, ↓v_pop, ↓v_popA, ↓v_rev, ↓v_dget, ↓s_asg, ↓s_unp, ↓s_par, ↓s_setL, ↓s_ex, ↓s_iff, ↓s_for_, ↓s_whl, ↓s_ret, ↓s_pass, ↓s_brk, ↓s_cont, ↓s_bad, ↓evs, ↓evm, ↓evo, ↓evIt, ↓view, rd, getS, setS, there, ↓put_pl, plS_none, plS_d, plS_own, ↓putT, ↓putTs, ↓bindT, ↓bindTs, asInt, asBl, Val.toD, Val.slot, b_addi, b_subi, c_lti, c_lei, c_gti, c_gei, c_eqi, c_nei, c_eqs, c_nes, c_in, c_nin, eqD,  bi2, isiD, isiT, ixD, atI, ixN,  lock, unlock, items?, isOwn, isNon, bi1_len_l, bi1_len_t, bi1_len_a, bi1_int_i, bi1_int_b, bi1_list_t, bi1_list_l, bi1_tup_t, bi1_tup_l, b__law_good_stand_1, h9, ↓e1]
  | true =>
    obtain ⟨a, b, c, rfl⟩ := row3 hr
    rw [hr] at e1
    cases h1 : withinB a 0 P.room with
    | false => simp [and_m, or_m, ↓runF_is, ↓runG_is, ↓bk_ok, ↓bk_no, bk_ite, oo_some, oo_none, oo_ite, ff_rt, ff_nx, ff_ite, fg_rt, fg_nx, fg_ite, ↓peek_v, ↓pe_k, ↓pe_gc, ↓pe_tup, ↓pe_lst, ↓pe_bin, ↓pe_neg, ↓pe_not, ↓pe_and, ↓pe_or, ↓pe_cmp, ↓pe_chain, ↓pe_ife, ↓pe_call, ↓pe_calli, ↓pe_b1, ↓pe_b2, ↓pe_isi, ↓pe_ix, ↓pe_sl, ↓pe_lc, ↓pe_app, ↓pe_pop, ↓pe_popA, ↓pe_rev, ↓pe_dget, pk_ok, pk_ite, ↓exs, ↓retV, ↓v_k, ↓v_gc, ↓v_v, ↓v_tup, ↓v_lst, ↓v_bin, ↓v_neg, ↓v_not, ↓v_and, ↓v_or, ↓v_cmp, ↓v_chain, ↓v_ife, ↓v_call, ↓v_calli, ↓v_b1, ↓v_b2, ↓v_isi, ↓v_ix, ↓v_sl, ↓v_lc, ↓v_app, ↓v_pop, ↓v_popA, ↓v_rev, ↓v_dget, ↓s_asg, ↓s_unp, ↓s_par, ↓s_setL, ↓s_ex, ↓s_iff, ↓s_for_, ↓s_whl, ↓s_ret, ↓s_pass, ↓s_brk, ↓s_cont, ↓s_bad, ↓evs, ↓evm, ↓evo, ↓evIt, ↓view, rd, getS, setS, there, ↓put_pl, plS_none, plS_d, plS_own, ↓putT, ↓putTs, ↓bindT, ↓bindTs, asInt, asBl, Val.toD, Val.slot, b_addi, b_subi, c_lti, c_lei, c_gti, c_gei, c_eqi, c_nei, c_eqs, c_nes, c_in, c_nin, eqD,  bi2, isiD, isiT, ixD, atI, ixN,  lock, unlock, items?, isOwn, isNon, bi1_len_l, bi1_len_t, bi1_len_a, bi1_int_i, bi1_int_b, bi1_list_t, bi1_list_l, bi1_tup_t, bi1_tup_l, b__law_good_stand_1, h9, ↓e1, ↓e2, oneB, h1]
    | true =>
      obtain ⟨i, rfl, _⟩ := within_int h1
      have e3 := in_ints i ns
      by_cases hi : i ∈ ns
      · simp [and_m, or_m, ↓runF_is, ↓runG_is, ↓bk_ok, ↓bk_no, bk_ite, oo_some, oo_none, oo_ite, ff_rt, ff_nx, ff_ite, fg_rt, fg_nx, fg_ite, ↓peek_v, ↓pe_k, ↓pe_gc, ↓pe_tup, ↓pe_lst, ↓pe_bin, ↓pe_neg, ↓pe_not, ↓pe_and, ↓pe_or, ↓pe_cmp, ↓pe_chain, ↓pe_ife, ↓pe_call, ↓pe_calli, ↓pe_b1, ↓pe_b2, ↓pe_isi, ↓pe_ix, ↓pe_sl, ↓pe_lc, ↓pe_app, ↓pe_pop, ↓pe_popA, ↓pe_rev, ↓pe_dget, pk_ok, pk_ite, ↓exs, ↓retV, ↓v_k, ↓v_gc, ↓v_v, ↓v_tup, ↓v_lst, ↓v_bin, ↓v_neg, ↓v_not, ↓v_and, ↓v_or, ↓v_cmp, ↓v_chain, ↓v_ife, ↓v_call, ↓v_calli, ↓v_b1, ↓v_b2, ↓v_isi, ↓v_ix, ↓v_sl, ↓v_lc, ↓v_app, ↓v_pop, ↓v_popA, ↓v_rev, ↓v_dget, ↓s_asg, ↓s_unp, ↓s_par, ↓s_setL, ↓s_ex, ↓s_iff, ↓s_for_, ↓s_whl, ↓s_ret, ↓s_pass, ↓s_brk, ↓s_cont, ↓s_bad, ↓evs, ↓evm, ↓evo, ↓evIt, ↓view, rd, getS, setS, there, ↓put_pl, plS_none, plS_d, plS_own, ↓putT, ↓putTs, ↓bindT, ↓bindTs, asInt, asBl, Val.toD, Val.slot, b_addi, b_subi, c_lti, c_lei, c_gti, c_gei, c_eqi, c_nei, c_eqs, c_nes, c_in, c_nin, eqD,  bi2, isiD, isiT, ixD, atI, ixN,  lock, unlock, items?, isOwn, isNon, bi1_len_l, bi1_len_t, bi1_len_a, bi1_int_i, bi1_int_b, bi1_list_t, bi1_list_l, bi1_tup_t, bi1_tup_l, b__law_good_stand_1, h9, ↓e1, ↓e2, oneB, h1, ↓e3, hi, numOf]
      · cases h2 : withinB b 0 P.ah <;> cases h3 : withinB c 0 P.skips <;> simp [and_m, or_m, ↓runF_is, ↓runG_is, ↓bk_ok, ↓bk_no, bk_ite, oo_some, oo_none, oo_ite, ff_rt, ff_nx, ff_ite, fg_rt, fg_nx, fg_ite, ↓peek_v, ↓pe_k, ↓pe_gc, ↓pe_tup, ↓pe_lst, ↓pe_bin, ↓pe_neg, ↓pe_not, ↓pe_and, ↓pe_or, ↓pe_cmp, ↓pe_chain, ↓pe_ife, ↓pe_call, ↓pe_calli, ↓pe_b1, ↓pe_b2, ↓pe_isi, ↓pe_ix, ↓pe_sl, ↓pe_lc, ↓pe_app, ↓pe_pop, ↓pe_popA, ↓pe_rev, ↓pe_dget, pk_ok, pk_ite, ↓exs, ↓retV, ↓v_k, ↓v_gc, ↓v_v, ↓v_tup, ↓v_lst, ↓v_bin, ↓v_neg, ↓v_not, ↓v_and, ↓v_or, ↓v_cmp, ↓v_chain, ↓v_ife, ↓v_call, ↓v_calli, ↓v_b1, ↓v_b2, ↓v_isi, ↓v_ix, ↓v_sl, ↓v_lc, ↓v_app, ↓v_pop, ↓v_popA, ↓v_rev, ↓v_dget, ↓s_asg, ↓s_unp, ↓s_par, ↓s_setL, ↓s_ex, ↓s_iff, ↓s_for_, ↓s_whl, ↓s_ret, ↓s_pass, ↓s_brk, ↓s_cont, ↓s_bad, ↓evs, ↓evm, ↓evo, ↓evIt, ↓view, rd, getS, setS, there, ↓put_pl, plS_none, plS_d, plS_own, ↓putT, ↓putTs, ↓bindT, ↓bindTs, asInt, asBl, Val.toD, Val.slot, b_addi, b_subi, c_lti, c_lei, c_gti, c_gei, c_eqi, c_nei, c_eqs, c_nes, c_in, c_nin, eqD,  bi2, isiD, isiT, ixD, atI, ixN,  lock, unlock, items?, isOwn, isNon, bi1_len_l, bi1_len_t, bi1_len_a, bi1_int_i, bi1_int_b, bi1_list_t, bi1_list_l, bi1_tup_t, bi1_tup_l, b__law_good_stand_1, h9, ↓e1, ↓e2, oneB, h1, h2, h3, ↓e3, hi, numOf, l1]
/-- the law's numbers, if all are good -/
def goodAll (P : Pl) : List Int → List D → Option (List Int)
  | ns, [] => some ns
  | ns, x :: r => if goodOne P ns x = true then goodAll P (ns ++ [numOf x]) r else none
theorem good_loop (k : Nat) (P : Pl) (s1 s6 s7 : Option Slot) : ∀ (l : List D) (ns : List Int) (s9 : Option Slot), plS s9 = true → ns.length + l.length ≤ 1000 →
    ∃ ns' x9, forGo (fF (Gm W (k + 1)) W (.n 9) b__law_good_stand_1) l [some (.d P.d), s1, some (.d (.int P.room)), some (.d (.tup [.int P.al, .int P.ah])), some (.d (.tup [.int P.sl, .int P.sh])), some (.d (.int P.skips)), s6, s7, some (.own (ns.map D.int)), s9] =
      .ok (if (goodAll P ns l).isSome = true then .nx else .rt (.d (.bl false)), [some (.d P.d), s1, some (.d (.int P.room)), some (.d (.tup [.int P.al, .int P.ah])), some (.d (.tup [.int P.sl, .int P.sh])), some (.d (.int P.skips)), s6, s7, some (.own (ns'.map D.int)), x9]) ∧ (∀ m, goodAll P ns l = some m → ns' = m)
  | [], ns, s9, h9, _ => ⟨ns, s9, by unfold forGo goodAll; simp, fun m h => by unfold goodAll at h; cases h; rfl⟩
  | one :: l, ns, s9, h9, hl => by
    rw [List.length_cons] at hl
    have t := good_turn (W := W) k P one ns s1 s6 s7 s9 h9 (by omega)
    cases h : goodOne P ns one with
    | true =>
      obtain ⟨ns', x9, e, hm⟩ := good_loop k P s1 s6 s7 l (ns ++ [numOf one]) (some (.d one)) rfl (by simp; omega)
      refine ⟨ns', x9, ?_, fun m hm' => hm m (by unfold goodAll at hm'; rw [h, if_pos rfl] at hm'; exact hm')⟩
      unfold forGo goodAll
      rw [t, h, if_pos rfl, if_pos rfl, if_pos rfl]
      exact e
    | false =>
      refine ⟨ns, some (.d one), ?_, fun m hm' => by unfold goodAll at hm'; rw [h, if_neg (by decide)] at hm'; cases hm'⟩
      unfold forGo goodAll
      rw [t, h]
      rfl
def maxI (ns : List Int) : Int := match ns with
  | [] => 0
  | n :: r => r.foldl (fun a b => if b > a then b else a) n
theorem ints_is : ∀ ns : List Int, ints? (ns.map D.int) = some ns
  | [] => rfl
  | n :: r => by simp only [List.map_cons, ints?]; rw [ints_is r]; rfl
theorem max_ints (ns : List Int) (h : ns ≠ []) : bi1 .max (.lst (ns.map D.int)) = some (.d (.int (maxI ns))) := by
  show ((ints? (ns.map D.int)).bind fun ns => match ns with
      | [] => none
      | n :: r => some (Val.d (.int (r.foldl (fun a b => if b > a then b else a) n)))) = _
  rw [ints_is]
  cases ns with
  | nil => exact absurd rfl h
  | cons n r => rfl
theorem eq_nil_ints (ns : List Int) : cmpD .Eq (.lst (ns.map D.int)) (.lst []) = some ns.isEmpty := by
  rw [eq_nil (by rw [deps_ints]; omega), empty_map]
def goodS (P : Pl) (x : D) : Bool := match x with
  | .tup [.tup os, v] => withinB v (-1) (P.sh - 1) && (decide ((os.length : Int) ≤ P.room) && match goodAll P [] os with
    | some ns => ns.isEmpty || decide (maxI ns < ns.length)
    | none => false)
  | _ => false
theorem goodS_no {P : Pl} {x : D} (h : rowB x 2 = false) : goodS P x = false := by
  unfold goodS
  split
  · simp [rowB] at h
  · rfl
theorem f_good (k : Nat) (P : Pl) (x : D) (hR : P.room ≤ 900) : (Gm W (k + 2)).f 33 [P.d, x] = .ok (.d (.bl (goodS P x))) := by
  rw [u__law_good_stand]
  have e1 : (Gm W (k + 1)).f 28 [x, .int 2] = _ := f_made (W := W) k x 2
  have e2 := fun y lo hi => f_int (W := W) k y lo hi
  cases hr : rowB x 2 with
  | false => rw [goodS_no hr]; rw [hr] at e1; simp [and_m, or_m, ↓runF_is, ↓runG_is, ↓bk_ok, ↓bk_no, bk_ite, oo_some, oo_none, oo_ite, ff_rt, ff_nx, ff_ite, fg_rt, fg_nx, fg_ite, ↓peek_v, ↓pe_k, ↓pe_gc, ↓pe_tup, ↓pe_lst, ↓pe_bin, ↓pe_neg, ↓pe_not, ↓pe_and, ↓pe_or, ↓pe_cmp, ↓pe_chain, ↓pe_ife, ↓pe_call, ↓pe_calli, ↓pe_b1, ↓pe_b2, ↓pe_isi, ↓pe_ix, ↓pe_sl, ↓pe_lc, ↓pe_app, ↓pe_pop, ↓pe_popA, ↓pe_rev, ↓pe_dget, pk_ok, pk_ite, ↓exs, ↓retV, ↓v_k, ↓v_gc, ↓v_v, ↓v_tup, ↓v_lst, ↓v_bin, ↓v_neg, ↓v_not, ↓v_and, ↓v_or, ↓v_cmp, ↓v_chain, ↓v_ife, ↓v_call, ↓v_calli, ↓v_b1, ↓v_b2, ↓v_isi, ↓v_ix, ↓v_sl, ↓v_lc, ↓v_app, ↓v_pop, ↓v_popA, ↓v_rev, ↓v_dget, ↓s_asg, ↓s_unp, ↓s_par, ↓s_setL, ↓s_ex, ↓s_iff, ↓s_for_, ↓s_whl, ↓s_ret, ↓s_pass, ↓s_brk, ↓s_cont, ↓s_bad, ↓evs, ↓evm, ↓evo, ↓evIt, ↓view, rd, getS, setS, there, ↓put_pl, plS_none, plS_d, plS_own, ↓putT, ↓putTs, ↓bindT, ↓bindTs, asInt, asBl, Val.toD, Val.slot, b_addi, b_subi, c_lti, c_lei, c_gti, c_gei, c_eqi, c_nei, c_eqs, c_nes, c_in, c_nin, eqD,  bi2, isiD, isiT, ixD, atI, ixN,  lock, unlock, items?, isOwn, isNon, bi1_len_l, bi1_len_t, bi1_len_a, bi1_int_i, bi1_int_b, bi1_list_t, bi1_list_l, bi1_tup_t, bi1_tup_l, b__law_good_stand, Pl.d, ↓e1]
  | true =>
    obtain ⟨s, v, rfl⟩ := row2 hr
    rw [hr] at e1
    cases hw : withinB v (-1) (P.sh - 1) with
    | false =>
      have : goodS P (.tup [s, v]) = false := by
        cases s <;> first | rfl | (show (withinB v (-1) (P.sh - 1) && _) = false; rw [hw]; rfl)
      rw [this]
      simp [and_m, or_m, ↓runF_is, ↓runG_is, ↓bk_ok, ↓bk_no, bk_ite, oo_some, oo_none, oo_ite, ff_rt, ff_nx, ff_ite, fg_rt, fg_nx, fg_ite, ↓peek_v, ↓pe_k, ↓pe_gc, ↓pe_tup, ↓pe_lst, ↓pe_bin, ↓pe_neg, ↓pe_not, ↓pe_and, ↓pe_or, ↓pe_cmp, ↓pe_chain, ↓pe_ife, ↓pe_call, ↓pe_calli, ↓pe_b1, ↓pe_b2, ↓pe_isi, ↓pe_ix, ↓pe_sl, ↓pe_lc, ↓pe_app, ↓pe_pop, ↓pe_popA, ↓pe_rev, ↓pe_dget, pk_ok, pk_ite, ↓exs, ↓retV, ↓v_k, ↓v_gc, ↓v_v, ↓v_tup, ↓v_lst, ↓v_bin, ↓v_neg, ↓v_not, ↓v_and, ↓v_or, ↓v_cmp, ↓v_chain, ↓v_ife, ↓v_call, ↓v_calli, ↓v_b1, ↓v_b2, ↓v_isi, ↓v_ix, ↓v_sl, ↓v_lc, ↓v_app, ↓v_pop, ↓v_popA, ↓v_rev, ↓v_dget, ↓s_asg, ↓s_unp, ↓s_par, ↓s_setL, ↓s_ex, ↓s_iff, ↓s_for_, ↓s_whl, ↓s_ret, ↓s_pass, ↓s_brk, ↓s_cont, ↓s_bad, ↓evs, ↓evm, ↓evo, ↓evIt, ↓view, rd, getS, setS, there, ↓put_pl, plS_none, plS_d, plS_own, ↓putT, ↓putTs, ↓bindT, ↓bindTs, asInt, asBl, Val.toD, Val.slot, b_addi, b_subi, c_lti, c_lei, c_gti, c_gei, c_eqi, c_nei, c_eqs, c_nes, c_in, c_nin, eqD,  bi2, isiD, isiT, ixD, atI, ixN,  lock, unlock, items?, isOwn, isNon, bi1_len_l, bi1_len_t, bi1_len_a, bi1_int_i, bi1_int_b, bi1_list_t, bi1_list_l, bi1_tup_t, bi1_tup_l, b__law_good_stand, Pl.d, ↓e1, ↓e2, hw]
    | true =>
      by_cases ht : ∃ os, s = .tup os
      · obtain ⟨os, rfl⟩ := ht
        have hF : goodS P (.tup [.tup os, v]) = (withinB v (-1) (P.sh - 1) && (decide ((os.length : Int) ≤ P.room) && match goodAll P [] os with
          | some ns => ns.isEmpty || decide (maxI ns < ns.length)
          | none => false)) := rfl
        rw [hF, hw]
        by_cases hl : (os.length : Int) ≤ P.room
        · have hl' : ¬ P.room < os.length := by omega
          obtain ⟨ns', x9, e3, hm⟩ := good_loop (W := W) k P (some (.d (.tup [.tup os, v]))) (some (.d (.str P.after))) (some (.d (.str P.late))) os [] none rfl (by simp; omega)
          simp only [List.map_nil, Pl.d] at e3
          cases ha : goodAll P [] os with
          | none =>
            rw [ha] at e3
            simp at e3
            simp [and_m, or_m, ↓runF_is, ↓runG_is, ↓bk_ok, ↓bk_no, bk_ite, oo_some, oo_none, oo_ite, ff_rt, ff_nx, ff_ite, fg_rt, fg_nx, fg_ite, ↓peek_v, ↓pe_k, ↓pe_gc, ↓pe_tup, ↓pe_lst, ↓pe_bin, ↓pe_neg, ↓pe_not, ↓pe_and, ↓pe_or, ↓pe_cmp, ↓pe_chain, ↓pe_ife, ↓pe_call, ↓pe_calli, ↓pe_b1, ↓pe_b2, ↓pe_isi, ↓pe_ix, ↓pe_sl, ↓pe_lc, ↓pe_app, ↓pe_pop, ↓pe_popA, ↓pe_rev, ↓pe_dget, pk_ok, pk_ite, ↓exs, ↓retV, ↓v_k, ↓v_gc, ↓v_v, ↓v_tup, ↓v_lst, ↓v_bin, ↓v_neg, ↓v_not, ↓v_and, ↓v_or, ↓v_cmp, ↓v_chain, ↓v_ife, ↓v_call, ↓v_calli, ↓v_b1, ↓v_b2, ↓v_isi, ↓v_ix, ↓v_sl, ↓v_lc, ↓v_app, ↓v_pop, ↓v_popA, ↓v_rev, ↓v_dget, ↓s_asg, ↓s_unp, ↓s_par, ↓s_setL, ↓s_ex, ↓s_iff, ↓s_for_, ↓s_whl, ↓s_ret, ↓s_pass, ↓s_brk, ↓s_cont, ↓s_bad, ↓evs, ↓evm, ↓evo, ↓evIt, ↓view, rd, getS, setS, there, ↓put_pl, plS_none, plS_d, plS_own, ↓putT, ↓putTs, ↓bindT, ↓bindTs, asInt, asBl, Val.toD, Val.slot, b_addi, b_subi, c_lti, c_lei, c_gti, c_gei, c_eqi, c_nei, c_eqs, c_nes, c_in, c_nin, eqD,  bi2, isiD, isiT, ixD, atI, ixN,  lock, unlock, items?, isOwn, isNon, bi1_len_l, bi1_len_t, bi1_len_a, bi1_int_i, bi1_int_b, bi1_list_t, bi1_list_l, bi1_tup_t, bi1_tup_l, b__law_good_stand, Pl.d, ↓e1, ↓e2, hw, hl, hl', ↓e3]
          | some ns =>
            rw [ha] at e3
            simp at e3
            have := hm ns ha
            subst this
            have e4 := eq_nil_ints ns'
            cases hE : ns'.isEmpty with
            | true =>
              rw [hE] at e4
              simp [and_m, or_m, ↓runF_is, ↓runG_is, ↓bk_ok, ↓bk_no, bk_ite, oo_some, oo_none, oo_ite, ff_rt, ff_nx, ff_ite, fg_rt, fg_nx, fg_ite, ↓peek_v, ↓pe_k, ↓pe_gc, ↓pe_tup, ↓pe_lst, ↓pe_bin, ↓pe_neg, ↓pe_not, ↓pe_and, ↓pe_or, ↓pe_cmp, ↓pe_chain, ↓pe_ife, ↓pe_call, ↓pe_calli, ↓pe_b1, ↓pe_b2, ↓pe_isi, ↓pe_ix, ↓pe_sl, ↓pe_lc, ↓pe_app, ↓pe_pop, ↓pe_popA, ↓pe_rev, ↓pe_dget, pk_ok, pk_ite, ↓exs, ↓retV, ↓v_k, ↓v_gc, ↓v_v, ↓v_tup, ↓v_lst, ↓v_bin, ↓v_neg, ↓v_not, ↓v_and, ↓v_or, ↓v_cmp, ↓v_chain, ↓v_ife, ↓v_call, ↓v_calli, ↓v_b1, ↓v_b2, ↓v_isi, ↓v_ix, ↓v_sl, ↓v_lc, ↓v_app, ↓v_pop, ↓v_popA, ↓v_rev, ↓v_dget, ↓s_asg, ↓s_unp, ↓s_par, ↓s_setL, ↓s_ex, ↓s_iff, ↓s_for_, ↓s_whl, ↓s_ret, ↓s_pass, ↓s_brk, ↓s_cont, ↓s_bad, ↓evs, ↓evm, ↓evo, ↓evIt, ↓view, rd, getS, setS, there, ↓put_pl, plS_none, plS_d, plS_own, ↓putT, ↓putTs, ↓bindT, ↓bindTs, asInt, asBl, Val.toD, Val.slot, b_addi, b_subi, c_lti, c_lei, c_gti, c_gei, c_eqi, c_nei, c_eqs, c_nes, c_in, c_nin, eqD,  bi2, isiD, isiT, ixD, atI, ixN,  lock, unlock, items?, isOwn, isNon, bi1_len_l, bi1_len_t, bi1_len_a, bi1_int_i, bi1_int_b, bi1_list_t, bi1_list_l, bi1_tup_t, bi1_tup_l, b__law_good_stand, Pl.d, ↓e1, ↓e2, hw, hl, hl', ↓e3, ↓e4, hE]
            | false =>
              rw [hE] at e4
              have e5 := max_ints ns' (by intro z; subst z; cases hE)
              simp [and_m, or_m, ↓runF_is, ↓runG_is, ↓bk_ok, ↓bk_no, bk_ite, oo_some, oo_none, oo_ite, ff_rt, ff_nx, ff_ite, fg_rt, fg_nx, fg_ite, ↓peek_v, ↓pe_k, ↓pe_gc, ↓pe_tup, ↓pe_lst, ↓pe_bin, ↓pe_neg, ↓pe_not, ↓pe_and, ↓pe_or, ↓pe_cmp, ↓pe_chain, ↓pe_ife, ↓pe_call, ↓pe_calli, ↓pe_b1, ↓pe_b2, ↓pe_isi, ↓pe_ix, ↓pe_sl, ↓pe_lc, ↓pe_app, ↓pe_pop, ↓pe_popA, ↓pe_rev, ↓pe_dget, pk_ok, pk_ite, ↓exs, ↓retV, ↓v_k, ↓v_gc, ↓v_v, ↓v_tup, ↓v_lst, ↓v_bin, ↓v_neg, ↓v_not, ↓v_and, ↓v_or, ↓v_cmp, ↓v_chain, ↓v_ife, ↓v_call, ↓v_calli, ↓v_b1, ↓v_b2, ↓v_isi, ↓v_ix, ↓v_sl, ↓v_lc, ↓v_app, ↓v_pop, ↓v_popA, ↓v_rev, ↓v_dget, ↓s_asg, ↓s_unp, ↓s_par, ↓s_setL, ↓s_ex, ↓s_iff, ↓s_for_, ↓s_whl, ↓s_ret, ↓s_pass, ↓s_brk, ↓s_cont, ↓s_bad, ↓evs, ↓evm, ↓evo, ↓evIt, ↓view, rd, getS, setS, there, ↓put_pl, plS_none, plS_d, plS_own, ↓putT, ↓putTs, ↓bindT, ↓bindTs, asInt, asBl, Val.toD, Val.slot, b_addi, b_subi, c_lti, c_lei, c_gti, c_gei, c_eqi, c_nei, c_eqs, c_nes, c_in, c_nin, eqD,  bi2, isiD, isiT, ixD, atI, ixN,  lock, unlock, items?, isOwn, isNon, bi1_len_l, bi1_len_t, bi1_len_a, bi1_int_i, bi1_int_b, bi1_list_t, bi1_list_l, bi1_tup_t, bi1_tup_l, b__law_good_stand, Pl.d, ↓e1, ↓e2, hw, hl, hl', ↓e3, ↓e4, ↓e5, hE]
        · have hl' : P.room < os.length := by omega
          simp [and_m, or_m, ↓runF_is, ↓runG_is, ↓bk_ok, ↓bk_no, bk_ite, oo_some, oo_none, oo_ite, ff_rt, ff_nx, ff_ite, fg_rt, fg_nx, fg_ite, ↓peek_v, ↓pe_k, ↓pe_gc, ↓pe_tup, ↓pe_lst, ↓pe_bin, ↓pe_neg, ↓pe_not, ↓pe_and, ↓pe_or, ↓pe_cmp, ↓pe_chain, ↓pe_ife, ↓pe_call, ↓pe_calli, ↓pe_b1, ↓pe_b2, ↓pe_isi, ↓pe_ix, ↓pe_sl, ↓pe_lc, ↓pe_app, ↓pe_pop, ↓pe_popA, ↓pe_rev, ↓pe_dget, pk_ok, pk_ite, ↓exs, ↓retV, ↓v_k, ↓v_gc, ↓v_v, ↓v_tup, ↓v_lst, ↓v_bin, ↓v_neg, ↓v_not, ↓v_and, ↓v_or, ↓v_cmp, ↓v_chain, ↓v_ife, ↓v_call, ↓v_calli, ↓v_b1, ↓v_b2, ↓v_isi, ↓v_ix, ↓v_sl, ↓v_lc, ↓v_app, ↓v_pop, ↓v_popA, ↓v_rev, ↓v_dget, ↓s_asg, ↓s_unp, ↓s_par, ↓s_setL, ↓s_ex, ↓s_iff, ↓s_for_, ↓s_whl, ↓s_ret, ↓s_pass, ↓s_brk, ↓s_cont, ↓s_bad, ↓evs, ↓evm, ↓evo, ↓evIt, ↓view, rd, getS, setS, there, ↓put_pl, plS_none, plS_d, plS_own, ↓putT, ↓putTs, ↓bindT, ↓bindTs, asInt, asBl, Val.toD, Val.slot, b_addi, b_subi, c_lti, c_lei, c_gti, c_gei, c_eqi, c_nei, c_eqs, c_nes, c_in, c_nin, eqD,  bi2, isiD, isiT, ixD, atI, ixN,  lock, unlock, items?, isOwn, isNon, bi1_len_l, bi1_len_t, bi1_len_a, bi1_int_i, bi1_int_b, bi1_list_t, bi1_list_l, bi1_tup_t, bi1_tup_l, b__law_good_stand, Pl.d, ↓e1, ↓e2, hw, hl, hl']
      · have : goodS P (.tup [s, v]) = false := by
          cases s <;> first | rfl | exact absurd ⟨_, rfl⟩ ht
        rw [this]
        cases s <;> first | exact absurd ⟨_, rfl⟩ ht | simp [and_m, or_m, ↓runF_is, ↓runG_is, ↓bk_ok, ↓bk_no, bk_ite, oo_some, oo_none, oo_ite, ff_rt, ff_nx, ff_ite, fg_rt, fg_nx, fg_ite, ↓peek_v, ↓pe_k, ↓pe_gc, ↓pe_tup, ↓pe_lst, ↓pe_bin, ↓pe_neg, ↓pe_not, ↓pe_and, ↓pe_or, ↓pe_cmp, ↓pe_chain, ↓pe_ife, ↓pe_call, ↓pe_calli, ↓pe_b1, ↓pe_b2, ↓pe_isi, ↓pe_ix, ↓pe_sl, ↓pe_lc, ↓pe_app, ↓pe_pop, ↓pe_popA, ↓pe_rev, ↓pe_dget, pk_ok, pk_ite, ↓exs, ↓retV, ↓v_k, ↓v_gc, ↓v_v, ↓v_tup, ↓v_lst, ↓v_bin, ↓v_neg, ↓v_not, ↓v_and, ↓v_or, ↓v_cmp, ↓v_chain, ↓v_ife, ↓v_call, ↓v_calli, ↓v_b1, ↓v_b2, ↓v_isi, ↓v_ix, ↓v_sl, ↓v_lc, ↓v_app, ↓v_pop, ↓v_popA, ↓v_rev, ↓v_dget, ↓s_asg, ↓s_unp, ↓s_par, ↓s_setL, ↓s_ex, ↓s_iff, ↓s_for_, ↓s_whl, ↓s_ret, ↓s_pass, ↓s_brk, ↓s_cont, ↓s_bad, ↓evs, ↓evm, ↓evo, ↓evIt, ↓view, rd, getS, setS, there, ↓put_pl, plS_none, plS_d, plS_own, ↓putT, ↓putTs, ↓bindT, ↓bindTs, asInt, asBl, Val.toD, Val.slot, b_addi, b_subi, c_lti, c_lei, c_gti, c_gei, c_eqi, c_nei, c_eqs, c_nes, c_in, c_nin, eqD,  bi2, isiD, isiT, ixD, atI, ixN,  lock, unlock, items?, isOwn, isNon, bi1_len_l, bi1_len_t, bi1_len_a, bi1_int_i, bi1_int_b, bi1_list_t, bi1_list_l, bi1_tup_t, bi1_tup_l, b__law_good_stand, Pl.d, ↓e1, ↓e2, hw]
end AW

set_option Elab.async false
set_option linter.all false
set_option maxRecDepth 100000
set_option maxHeartbeats 4000000
namespace AW
open PySem L2
/-! the program's and the law's good stand are one -/
theorem goodAll_is (P : Pl) : ∀ (os : List D) (ns : List Int), ns.Nodup → goodAll P ns os = if os.all (oneB P P.room) = true ∧ (ns ++ os.map numOf).Nodup then some (ns ++ os.map numOf) else none
  | [], ns, h => by unfold goodAll; simp [h]
  | x :: r, ns, h => by
    unfold goodAll goodOne
    cases h1 : oneB P P.room x with
    | false => simp [h1]
    | true =>
      by_cases h2 : numOf x ∈ ns
      · have : ¬ (ns ++ (x :: r).map numOf).Nodup := fun hn => by
          rw [List.map_cons, List.nodup_append] at hn
          exact hn.2.2 _ h2 _ List.mem_cons_self rfl
        rw [if_neg (by simp [h2]), if_neg fun z => this z.2]
      · have hn : (ns ++ [numOf x]).Nodup := by
          rw [List.nodup_append]
          refine ⟨h, by simp, fun a ha b hb e => ?_⟩
          rw [List.mem_singleton] at hb
          subst hb e
          exact h2 ha
        rw [if_pos (by simp [h2]), goodAll_is P r _ hn]
        simp [h1, List.append_assoc]
theorem foldmax : ∀ (r : List Int) (n b : Int), r.foldl (fun a b => if b > a then b else a) n < b ↔ n < b ∧ ∀ i ∈ r, i < b
  | [], n, b => by simp
  | x :: r, n, b => by
    rw [List.foldl_cons, foldmax r]
    constructor
    · intro ⟨h1, h2⟩
      have : n < b ∧ x < b := by split at h1 <;> omega
      exact ⟨this.1, fun i hi => (List.mem_cons.mp hi).elim (fun e => by rw [e]; exact this.2) (h2 i)⟩
    · intro ⟨h1, h2⟩
      have := h2 x List.mem_cons_self
      exact ⟨by split <;> omega, fun i hi => h2 i (List.mem_cons_of_mem _ hi)⟩
theorem maxI_lt (ns : List Int) (h : ns ≠ []) (b : Int) : maxI ns < b ↔ ∀ i ∈ ns, i < b := by
  cases ns with
  | nil => exact absurd rfl h
  | cons n r =>
    show r.foldl (fun a b => if b > a then b else a) n < b ↔ _
    rw [foldmax]
    simp
theorem nodup_perm : ∀ {ns m : List Int}, ns.Nodup → (∀ i ∈ ns, i ∈ m) → ns.length = m.length → ns.Perm m
  | [], [], _, _, _ => List.Perm.refl _
  | [], _ :: _, _, _, h => by cases h
  | x :: r, m, hn, hs, hl => by
    have hx := hs x List.mem_cons_self
    have hn' := List.nodup_cons.mp hn
    have e := List.length_erase_of_mem hx
    have := nodup_perm (ns := r) (m := m.erase x) hn'.2 (fun i hi => (List.mem_erase_of_ne (fun (e : i = x) => hn'.1 (by rw [← e]; exact hi))).mpr (hs i (List.mem_cons_of_mem _ hi))) (by rw [List.length_cons] at hl; omega)
    exact (List.Perm.cons x this).trans (List.perm_cons_erase hx).symm
theorem sortI_perm (ns : List Int) : (sortI ns).Perm ns := List.mergeSort_perm _ _
theorem sortI_sorted (ns : List Int) : (sortI ns).Pairwise (· ≤ ·) := by
  unfold sortI
  have e : (PySem.W.dataLe false fun s : Int => (D.int s).py) = fun a b => decide (a ≤ b) := PySem.W.dataLe_int (fun i : Int => i)
  rw [e]
  have := List.pairwise_mergeSort (le := fun a b : Int => decide (a ≤ b)) (fun a b c h1 h2 => by simp at *; omega) (fun a b => by simp; omega) ns
  exact this.imp fun h => by simpa using h
theorem range_sorted (n : Nat) : (rangeI n).Pairwise (· < ·) := by
  unfold rangeI
  refine List.pairwise_map.mpr ?_
  exact List.pairwise_lt_range.imp fun h => by omega
theorem sorted_perm_eq : ∀ {a b : List Int}, a.Perm b → a.Pairwise (· ≤ ·) → b.Pairwise (· ≤ ·) → a = b := fun h h1 h2 => h.eq_of_pairwise (fun x y _ _ a b => by omega) h1 h2
/-- numbers below their count, none twice: they are 0, 1, .. -/
theorem nums_is (ns : List Int) (h : ∀ i ∈ ns, 0 ≤ i ∧ i < ns.length) : numsB ns = decide ns.Nodup := by
  unfold numsB
  rw [decide_eq_decide]
  constructor
  · intro e
    have h1 : (rangeI ns.length).Nodup := (range_sorted _).imp fun h => by omega
    rw [← e] at h1
    exact (sortI_perm ns).nodup_iff.mp h1
  · intro hn
    refine sorted_perm_eq ((sortI_perm ns).trans ?_) (sortI_sorted ns) ((range_sorted _).imp fun h => by omega)
    have sub : ns ⊆ rangeI ns.length := fun i hi => by
      obtain ⟨a, b⟩ := h i hi
      unfold rangeI
      exact List.mem_map.mpr ⟨i.toNat, List.mem_range.mpr (by omega), by omega⟩
    have len : (rangeI ns.length).length = ns.length := by unfold rangeI; simp
    exact nodup_perm hn sub len.symm
theorem one_mono {P : Pl} {a b : Int} {x : D} (h : oneB P a x = true) (hb : numOf x ≤ b) : oneB P b x = true := by
  unfold oneB at *
  split at h
  · rename_i p q r
    simp only [Bool.and_eq_true] at h ⊢
    obtain ⟨i, rfl, i1, i2⟩ := within_int h.1
    have hb : i ≤ b := hb
    exact ⟨by unfold withinB; simp; omega, h.2⟩
  · cases h
theorem one_num {P : Pl} {a : Int} {x : D} (h : oneB P a x = true) : 0 ≤ numOf x ∧ numOf x ≤ a := by
  unfold oneB at h
  split at h
  · simp only [Bool.and_eq_true] at h
    obtain ⟨i, rfl, i1, i2⟩ := within_int h.1
    exact ⟨i1, i2⟩
  · cases h
theorem good_core (P : Pl) (os : List D) (hl : (os.length : Int) ≤ P.room) : (match goodAll P [] os with
    | some ns => ns.isEmpty || decide (maxI ns < ns.length)
    | none => false) = (os.all (oneB P (os.length - 1)) && numsB (menOf os)) := by
  rw [goodAll_is P os [] List.nodup_nil]
  simp only [List.nil_append]
  rw [menOf_is]
  by_cases hB : os.all (oneB P (os.length - 1)) = true
  · have hA : os.all (oneB P P.room) = true := List.all_eq_true.mpr fun y hy => by
      have h1 := List.all_eq_true.mp hB y hy
      have := one_num h1
      exact one_mono h1 (by omega)
    have hn : ∀ i ∈ os.map numOf, 0 ≤ i ∧ i < (os.map numOf).length := fun i hi => by
      obtain ⟨y, hy, rfl⟩ := List.mem_map.mp hi
      have := one_num (List.all_eq_true.mp hB y hy)
      rw [List.length_map]
      omega
    rw [hB, nums_is _ hn]
    by_cases hd : (os.map numOf).Nodup
    · rw [if_pos ⟨hA, hd⟩]
      simp only [hd, decide_true, Bool.true_and]
      cases hE : (os.map numOf).isEmpty with
      | true => rfl
      | false =>
        have := (maxI_lt (os.map numOf) (by intro z; rw [z] at hE; cases hE) (os.map numOf).length).mpr fun i hi => (hn i hi).2
        rw [decide_eq_true this]
        rfl
    · rw [if_neg fun z => hd z.2, decide_eq_false hd]
      rfl
  · have hB' : os.all (oneB P (os.length - 1)) = false := by simpa using hB
    rw [hB']
    by_cases hA : os.all (oneB P P.room) = true ∧ (os.map numOf).Nodup
    · rw [if_pos hA]
      simp only [Bool.false_and]
      cases hE : (os.map numOf).isEmpty with
      | true =>
        have : os = [] := by cases os <;> simp_all
        subst this
        simp at hB
      | false =>
        have hmx : ¬ maxI (os.map numOf) < (os.map numOf).length := fun z => by
          have hz := (maxI_lt (os.map numOf) (by intro z; rw [z] at hE; cases hE) _).mp z
          refine hB (List.all_eq_true.mpr fun y hy => ?_)
          have h1 := hz _ (List.mem_map.mpr ⟨y, hy, rfl⟩)
          rw [List.length_map] at h1
          exact one_mono (List.all_eq_true.mp hA.1 y hy) (by omega)
        rw [decide_eq_false hmx]
        rfl
    · rw [if_neg hA]
      rfl
theorem good_fits (P : Pl) (x : D) : goodS P x = fitsB P x := by
  by_cases hx : ∃ os v, x = .tup [.tup os, v]
  · obtain ⟨os, v, rfl⟩ := hx
    show (withinB v (-1) (P.sh - 1) && (decide ((os.length : Int) ≤ P.room) && match goodAll P [] os with
      | some ns => ns.isEmpty || decide (maxI ns < ns.length)
      | none => false)) = (withinB v (-1) (P.sh - 1) && (decide ((os.length : Int) ≤ P.room) && (os.all (oneB P (os.length - 1)) && numsB (menOf os))))
    by_cases hl : (os.length : Int) ≤ P.room
    · rw [good_core P os hl]
    · rw [decide_eq_false hl]
      simp
  · have h1 : goodS P x = false := by
      unfold goodS
      split
      · exact absurd ⟨_, _, rfl⟩ hx
      · rfl
    have h2 : fitsB P x = false := by
      unfold fitsB
      split
      · exact absurd ⟨_, _, rfl⟩ hx
      · rfl
    rw [h1, h2]
end AW

set_option Elab.async false
set_option linter.all false
set_option maxRecDepth 100000
set_option maxHeartbeats 4000000
namespace AW
open PySem L2
variable {W : Nat}
def cellT (ns : List Int) (at' : Nat) : Int := match ns[at']? with
  | some i => if i < 0 then -i else i
  | none => 7
def sprT (ns : List Int) (at' : Nat) : Int × Int := (if 10 ^ 18 ≤ cellT ns at' then cellT ns at' else 0, (cellT ns at' * 863 + 524287 * at' + 1).fmod 999999999989)
theorem f_spring (k : Nat) (ns : List Int) (a : Nat) : (Gm W (k + 1)).f 14 [.arr (ns.map D.int), .int a] = .ok (.own (spr (sprT ns a))) := by
  rw [u__law_spring]
  by_cases h : a < ns.length
  · have h' : (a : Int) < ns.length := by omega
    have e1 : ixD (.arr (ns.map D.int)) (.int a) = some (.int ns[a]) := by
      unfold ixD atI ixN
      simp [h']
    have ec : cellT ns a = if ns[a] < 0 then -ns[a] else ns[a] := by unfold cellT; rw [List.getElem?_eq_getElem h]
    unfold sprT
    rw [ec]
    generalize hc : (if ns[a] < 0 then -ns[a] else ns[a]) = c
    by_cases h2 : (1000000000000000000 : Int) ≤ c <;> simp [and_m, or_m, ↓runF_is, ↓runG_is, ↓bk_ok, ↓bk_no, bk_ite, oo_some, oo_none, oo_ite, ff_rt, ff_nx, ff_ite, fg_rt, fg_nx, fg_ite, ↓peek_v, ↓pe_k, ↓pe_gc, ↓pe_tup, ↓pe_lst, ↓pe_bin, ↓pe_neg, ↓pe_not, ↓pe_and, ↓pe_or, ↓pe_cmp, ↓pe_chain, ↓pe_ife, ↓pe_call, ↓pe_calli, ↓pe_b1, ↓pe_b2, ↓pe_isi, ↓pe_ix, ↓pe_sl, ↓pe_lc, ↓pe_app, ↓pe_pop, ↓pe_popA, ↓pe_rev, ↓pe_dget, pk_ok, pk_ite, ↓exs, ↓retV, ↓v_k, ↓v_gc, ↓v_v, ↓v_tup, ↓v_lst, ↓v_bin, ↓v_neg, ↓v_not, ↓v_and, ↓v_or, ↓v_cmp, ↓v_chain, ↓v_ife, ↓v_call, ↓v_calli, ↓v_b1, ↓v_b2, ↓v_isi, ↓v_ix, ↓v_sl, ↓v_lc, ↓v_app, ↓v_pop, ↓v_popA, ↓v_rev, ↓v_dget, ↓s_asg, ↓s_unp, ↓s_par, ↓s_setL, ↓s_ex, ↓s_iff, ↓s_for_, ↓s_whl, ↓s_ret, ↓s_pass, ↓s_brk, ↓s_cont, ↓s_bad, ↓evs, ↓evm, ↓evo, ↓evIt, ↓view, rd, getS, setS, there, ↓put_pl, plS_none, plS_d, plS_own, ↓putT, ↓putTs, ↓bindT, ↓bindTs, asInt, asBl, Val.toD, Val.slot, binD, cmpD, eqD, bi1, bi2, isiD, isiT, slD, lock, unlock, items?, isOwn, isNon, b__law_spring, h', ↓e1, hc, h2, spr]
  · have h' : ¬ (a : Int) < ns.length := by omega
    have ec : cellT ns a = 7 := by unfold cellT; rw [List.getElem?_eq_none (by omega)]
    unfold sprT
    rw [ec]
    simp [and_m, or_m, ↓runF_is, ↓runG_is, ↓bk_ok, ↓bk_no, bk_ite, oo_some, oo_none, oo_ite, ff_rt, ff_nx, ff_ite, fg_rt, fg_nx, fg_ite, ↓peek_v, ↓pe_k, ↓pe_gc, ↓pe_tup, ↓pe_lst, ↓pe_bin, ↓pe_neg, ↓pe_not, ↓pe_and, ↓pe_or, ↓pe_cmp, ↓pe_chain, ↓pe_ife, ↓pe_call, ↓pe_calli, ↓pe_b1, ↓pe_b2, ↓pe_isi, ↓pe_ix, ↓pe_sl, ↓pe_lc, ↓pe_app, ↓pe_pop, ↓pe_popA, ↓pe_rev, ↓pe_dget, pk_ok, pk_ite, ↓exs, ↓retV, ↓v_k, ↓v_gc, ↓v_v, ↓v_tup, ↓v_lst, ↓v_bin, ↓v_neg, ↓v_not, ↓v_and, ↓v_or, ↓v_cmp, ↓v_chain, ↓v_ife, ↓v_call, ↓v_calli, ↓v_b1, ↓v_b2, ↓v_isi, ↓v_ix, ↓v_sl, ↓v_lc, ↓v_app, ↓v_pop, ↓v_popA, ↓v_rev, ↓v_dget, ↓s_asg, ↓s_unp, ↓s_par, ↓s_setL, ↓s_ex, ↓s_iff, ↓s_for_, ↓s_whl, ↓s_ret, ↓s_pass, ↓s_brk, ↓s_cont, ↓s_bad, ↓evs, ↓evm, ↓evo, ↓evIt, ↓view, rd, getS, setS, there, ↓put_pl, plS_none, plS_d, plS_own, ↓putT, ↓putTs, ↓bindT, ↓bindTs, asInt, asBl, Val.toD, Val.slot, binD, cmpD, eqD, bi1, bi2, isiD, isiT, slD, lock, unlock, items?, isOwn, isNon, b__law_spring, h', spr]
theorem f_look (k : Nat) (x : D) (h : planB x = true) : (Gm W (k + 5)).f 10 [x] = .ok (.d .non) := by
  rw [u_look_at_plan]
  have e1 := f_plan (W := W) k x
  rw [h] at e1
  simp [and_m, or_m, ↓runF_is, ↓runG_is, ↓bk_ok, ↓bk_no, bk_ite, oo_some, oo_none, oo_ite, ff_rt, ff_nx, ff_ite, fg_rt, fg_nx, fg_ite, ↓peek_v, ↓pe_k, ↓pe_gc, ↓pe_tup, ↓pe_lst, ↓pe_bin, ↓pe_neg, ↓pe_not, ↓pe_and, ↓pe_or, ↓pe_cmp, ↓pe_chain, ↓pe_ife, ↓pe_call, ↓pe_calli, ↓pe_b1, ↓pe_b2, ↓pe_isi, ↓pe_ix, ↓pe_sl, ↓pe_lc, ↓pe_app, ↓pe_pop, ↓pe_popA, ↓pe_rev, ↓pe_dget, pk_ok, pk_ite, ↓exs, ↓retV, ↓v_k, ↓v_gc, ↓v_v, ↓v_tup, ↓v_lst, ↓v_bin, ↓v_neg, ↓v_not, ↓v_and, ↓v_or, ↓v_cmp, ↓v_chain, ↓v_ife, ↓v_call, ↓v_calli, ↓v_b1, ↓v_b2, ↓v_isi, ↓v_ix, ↓v_sl, ↓v_lc, ↓v_app, ↓v_pop, ↓v_popA, ↓v_rev, ↓v_dget, ↓s_asg, ↓s_unp, ↓s_par, ↓s_setL, ↓s_ex, ↓s_iff, ↓s_for_, ↓s_whl, ↓s_ret, ↓s_pass, ↓s_brk, ↓s_cont, ↓s_bad, ↓evs, ↓evm, ↓evo, ↓evIt, ↓view, rd, getS, setS, there, ↓put_pl, plS_none, plS_d, plS_own, ↓putT, ↓putTs, ↓bindT, ↓bindTs, asInt, asBl, Val.toD, Val.slot, b_addi, b_subi, c_lti, c_lei, c_gti, c_gei, c_eqi, c_nei, c_eqs, c_nes, c_in, c_nin, eqD,  bi2, isiD, isiT, ixD, atI, ixN,  lock, unlock, items?, isOwn, isNon, bi1_len_l, bi1_len_t, bi1_len_a, bi1_int_i, bi1_int_b, bi1_list_t, bi1_list_l, bi1_tup_t, bi1_tup_l, b_look_at_plan, ↓e1]
theorem f_first (k : Nat) (x : D) (h : planB x = true) : (Gm W (k + 6)).f 11 [x] = .ok (.d (.tup [.tup [], .int (-1)])) := by
  rw [u_first_stand]
  have e1 := f_look (W := W) k x h
  simp [and_m, or_m, ↓runF_is, ↓runG_is, ↓bk_ok, ↓bk_no, bk_ite, oo_some, oo_none, oo_ite, ff_rt, ff_nx, ff_ite, fg_rt, fg_nx, fg_ite, ↓peek_v, ↓pe_k, ↓pe_gc, ↓pe_tup, ↓pe_lst, ↓pe_bin, ↓pe_neg, ↓pe_not, ↓pe_and, ↓pe_or, ↓pe_cmp, ↓pe_chain, ↓pe_ife, ↓pe_call, ↓pe_calli, ↓pe_b1, ↓pe_b2, ↓pe_isi, ↓pe_ix, ↓pe_sl, ↓pe_lc, ↓pe_app, ↓pe_pop, ↓pe_popA, ↓pe_rev, ↓pe_dget, pk_ok, pk_ite, ↓exs, ↓retV, ↓v_k, ↓v_gc, ↓v_v, ↓v_tup, ↓v_lst, ↓v_bin, ↓v_neg, ↓v_not, ↓v_and, ↓v_or, ↓v_cmp, ↓v_chain, ↓v_ife, ↓v_call, ↓v_calli, ↓v_b1, ↓v_b2, ↓v_isi, ↓v_ix, ↓v_sl, ↓v_lc, ↓v_app, ↓v_pop, ↓v_popA, ↓v_rev, ↓v_dget, ↓s_asg, ↓s_unp, ↓s_par, ↓s_setL, ↓s_ex, ↓s_iff, ↓s_for_, ↓s_whl, ↓s_ret, ↓s_pass, ↓s_brk, ↓s_cont, ↓s_bad, ↓evs, ↓evm, ↓evo, ↓evIt, ↓view, rd, getS, setS, there, ↓put_pl, plS_none, plS_d, plS_own, ↓putT, ↓putTs, ↓bindT, ↓bindTs, asInt, asBl, Val.toD, Val.slot, b_addi, b_subi, c_lti, c_lei, c_gti, c_gei, c_eqi, c_nei, c_eqs, c_nes, c_in, c_nin, eqD,  bi2, isiD, isiT, ixD, atI, ixN,  lock, unlock, items?, isOwn, isNon, bi1_len_l, bi1_len_t, bi1_len_a, bi1_int_i, bi1_int_b, bi1_list_t, bi1_list_l, bi1_tup_t, bi1_tup_l, b_first_stand, ↓e1]
theorem f_begin (k : Nat) : (Gm W (k + 1)).f 26 [] = .ok (.d (.tup [.tup [], .int (-1)])) := by
  rw [u__law_begin]
  simp [and_m, or_m, ↓runF_is, ↓runG_is, ↓bk_ok, ↓bk_no, bk_ite, oo_some, oo_none, oo_ite, ff_rt, ff_nx, ff_ite, fg_rt, fg_nx, fg_ite, ↓peek_v, ↓pe_k, ↓pe_gc, ↓pe_tup, ↓pe_lst, ↓pe_bin, ↓pe_neg, ↓pe_not, ↓pe_and, ↓pe_or, ↓pe_cmp, ↓pe_chain, ↓pe_ife, ↓pe_call, ↓pe_calli, ↓pe_b1, ↓pe_b2, ↓pe_isi, ↓pe_ix, ↓pe_sl, ↓pe_lc, ↓pe_app, ↓pe_pop, ↓pe_popA, ↓pe_rev, ↓pe_dget, pk_ok, pk_ite, ↓exs, ↓retV, ↓v_k, ↓v_gc, ↓v_v, ↓v_tup, ↓v_lst, ↓v_bin, ↓v_neg, ↓v_not, ↓v_and, ↓v_or, ↓v_cmp, ↓v_chain, ↓v_ife, ↓v_call, ↓v_calli, ↓v_b1, ↓v_b2, ↓v_isi, ↓v_ix, ↓v_sl, ↓v_lc, ↓v_app, ↓v_pop, ↓v_popA, ↓v_rev, ↓v_dget, ↓s_asg, ↓s_unp, ↓s_par, ↓s_setL, ↓s_ex, ↓s_iff, ↓s_for_, ↓s_whl, ↓s_ret, ↓s_pass, ↓s_brk, ↓s_cont, ↓s_bad, ↓evs, ↓evm, ↓evo, ↓evIt, ↓view, rd, getS, setS, there, ↓put_pl, plS_none, plS_d, plS_own, ↓putT, ↓putTs, ↓bindT, ↓bindTs, asInt, asBl, Val.toD, Val.slot, b_addi, b_subi, c_lti, c_lei, c_gti, c_gei, c_eqi, c_nei, c_eqs, c_nes, c_in, c_nin, eqD,  bi2, isiD, isiT, ixD, atI, ixN,  lock, unlock, items?, isOwn, isNon, bi1_len_l, bi1_len_t, bi1_len_a, bi1_int_i, bi1_int_b, bi1_list_t, bi1_list_l, bi1_tup_t, bi1_tup_l, b__law_begin]
theorem f_isstand (k : Nat) (P : Pl) (x : D) (h : planB P.d = true) (hR : P.room ≤ 900) : (Gm W (k + 6)).f 13 [P.d, x] = .ok (.d (.bl (fitsB P x))) := by
  rw [u_is_stand]
  have e1 := f_look (W := W) k P.d h
  have e2 := f_fits (W := W) (k + 3) P x hR
  simp [and_m, or_m, ↓runF_is, ↓runG_is, ↓bk_ok, ↓bk_no, bk_ite, oo_some, oo_none, oo_ite, ff_rt, ff_nx, ff_ite, fg_rt, fg_nx, fg_ite, ↓peek_v, ↓pe_k, ↓pe_gc, ↓pe_tup, ↓pe_lst, ↓pe_bin, ↓pe_neg, ↓pe_not, ↓pe_and, ↓pe_or, ↓pe_cmp, ↓pe_chain, ↓pe_ife, ↓pe_call, ↓pe_calli, ↓pe_b1, ↓pe_b2, ↓pe_isi, ↓pe_ix, ↓pe_sl, ↓pe_lc, ↓pe_app, ↓pe_pop, ↓pe_popA, ↓pe_rev, ↓pe_dget, pk_ok, pk_ite, ↓exs, ↓retV, ↓v_k, ↓v_gc, ↓v_v, ↓v_tup, ↓v_lst, ↓v_bin, ↓v_neg, ↓v_not, ↓v_and, ↓v_or, ↓v_cmp, ↓v_chain, ↓v_ife, ↓v_call, ↓v_calli, ↓v_b1, ↓v_b2, ↓v_isi, ↓v_ix, ↓v_sl, ↓v_lc, ↓v_app, ↓v_pop, ↓v_popA, ↓v_rev, ↓v_dget, ↓s_asg, ↓s_unp, ↓s_par, ↓s_setL, ↓s_ex, ↓s_iff, ↓s_for_, ↓s_whl, ↓s_ret, ↓s_pass, ↓s_brk, ↓s_cont, ↓s_bad, ↓evs, ↓evm, ↓evo, ↓evIt, ↓view, rd, getS, setS, there, ↓put_pl, plS_none, plS_d, plS_own, ↓putT, ↓putTs, ↓bindT, ↓bindTs, asInt, asBl, Val.toD, Val.slot, b_addi, b_subi, c_lti, c_lei, c_gti, c_gei, c_eqi, c_nei, c_eqs, c_nes, c_in, c_nin, eqD,  bi2, isiD, isiT, ixD, atI, ixN,  lock, unlock, items?, isOwn, isNon, bi1_len_l, bi1_len_t, bi1_len_a, bi1_int_i, bi1_int_b, bi1_list_t, bi1_list_l, bi1_tup_t, bi1_tup_l, b_is_stand, ↓e1, ↓e2]
def kindD : D → Int
  | .non => 0
  | .bl _ => 1
  | .lst _ => 2
  | .arr _ => 2
  | .tup _ => 3
  | .int _ => 4
  | .str _ => 5
theorem f_kind (k : Nat) (x : D) : (Gm W (k + 1)).f 16 [x] = .ok (.d (.int (kindD x))) := by
  rw [u__law_kind]
  cases x <;> simp [and_m, or_m, ↓runF_is, ↓runG_is, ↓bk_ok, ↓bk_no, bk_ite, oo_some, oo_none, oo_ite, ff_rt, ff_nx, ff_ite, fg_rt, fg_nx, fg_ite, ↓peek_v, ↓pe_k, ↓pe_gc, ↓pe_tup, ↓pe_lst, ↓pe_bin, ↓pe_neg, ↓pe_not, ↓pe_and, ↓pe_or, ↓pe_cmp, ↓pe_chain, ↓pe_ife, ↓pe_call, ↓pe_calli, ↓pe_b1, ↓pe_b2, ↓pe_isi, ↓pe_ix, ↓pe_sl, ↓pe_lc, ↓pe_app, ↓pe_pop, ↓pe_popA, ↓pe_rev, ↓pe_dget, pk_ok, pk_ite, ↓exs, ↓retV, ↓v_k, ↓v_gc, ↓v_v, ↓v_tup, ↓v_lst, ↓v_bin, ↓v_neg, ↓v_not, ↓v_and, ↓v_or, ↓v_cmp, ↓v_chain, ↓v_ife, ↓v_call, ↓v_calli, ↓v_b1, ↓v_b2, ↓v_isi, ↓v_ix, ↓v_sl, ↓v_lc, ↓v_app, ↓v_pop, ↓v_popA, ↓v_rev, ↓v_dget, ↓s_asg, ↓s_unp, ↓s_par, ↓s_setL, ↓s_ex, ↓s_iff, ↓s_for_, ↓s_whl, ↓s_ret, ↓s_pass, ↓s_brk, ↓s_cont, ↓s_bad, ↓evs, ↓evm, ↓evo, ↓evIt, ↓view, rd, getS, setS, there, ↓put_pl, plS_none, plS_d, plS_own, ↓putT, ↓putTs, ↓bindT, ↓bindTs, asInt, asBl, Val.toD, Val.slot, binD, cmpD, eqD, bi1, bi2, isiD, isiT, ixD, atI, ixN, slD, lock, unlock, items?, isOwn, isNon, b__law_kind, kindD]
end AW

set_option Elab.async false
set_option linter.all false
set_option maxRecDepth 100000
set_option maxHeartbeats 4000000
namespace AW
open PySem L2
variable {W : Nat}
mutual
def noArr : D → Bool
  | .arr _ => false
  | .tup xs => noArrs xs
  | .lst xs => noArrs xs
  | _ => true
def noArrs : List D → Bool
  | [] => true
  | x :: r => noArr x && noArrs r
end
theorem noArrs_mem {xs : List D} (h : noArrs xs = true) : ∀ x ∈ xs, noArr x = true := by
  induction xs with
  | nil => exact fun _ h => nomatch h
  | cons y r ih =>
    simp only [noArrs, Bool.and_eq_true] at h
    intro x hx
    rcases List.mem_cons.mp hx with rfl | hx
    · exact h.1
    · exact ih h.2 x hx
theorem dep_mem {xs : List D} : ∀ x ∈ xs, x.dep ≤ D.deps xs := by
  induction xs with
  | nil => exact fun _ h => nomatch h
  | cons y r ih =>
    intro x hx
    simp only [D.deps]
    rcases List.mem_cons.mp hx with rfl | hx
    · omega
    · have := ih x hx; omega
theorem zip_self {xs : List D} : ∀ p ∈ xs.zip xs, p.1 = p.2 ∧ p.1 ∈ xs := by
  induction xs with
  | nil => exact fun _ h => nomatch h
  | cons y r ih =>
    intro p hp
    rcases List.mem_cons.mp hp with rfl | hp
    · exact ⟨rfl, List.mem_cons_self⟩
    · exact ⟨(ih p hp).1, List.mem_cons_of_mem _ (ih p hp).2⟩
theorem fm_none {α β : Type} (xs : List α) : xs.filterMap (fun _ => (none : Option β)) = [] := by
  induction xs with
  | nil => rfl
  | cons x r ih => rw [List.filterMap_cons, ih]
theorem twins_lc (Γ : Gam) (xs : List D) (s0 s1 s2 s3 : Option Slot) (h : ∀ x ∈ xs, Γ.f 17 [x, x] = .ok (.d (.bl true))) :
    lcGo (lcF Γ (.t (.cons (.n 2) (.cons (.n 3) .nil))) t__law_twins_1 e__law_twins_1) [2, 3] ((xs.zip xs).map fun p => .tup [p.1, p.2]) [s0, s1, s2, s3] [] = .ok ([], [s0, s1, s2, s3]) := by
  refine (lcGo_typed (g := fun _ => none) fun p hp => ⟨[s0, s1, some (.d p.1), some (.d p.2)], ?_, by simp [mend, getS]⟩).trans ?_
  · obtain ⟨e, hm⟩ := zip_self p hp
    have e1 := h _ hm
    rw [← e]
    unfold lcF t__law_twins_1
    simp [and_m, or_m, ↓runF_is, ↓runG_is, ↓bk_ok, ↓bk_no, bk_ite, oo_some, oo_none, oo_ite, ff_rt, ff_nx, ff_ite, fg_rt, fg_nx, fg_ite, ↓peek_v, ↓pe_k, ↓pe_gc, ↓pe_tup, ↓pe_lst, ↓pe_bin, ↓pe_neg, ↓pe_not, ↓pe_and, ↓pe_or, ↓pe_cmp, ↓pe_chain, ↓pe_ife, ↓pe_call, ↓pe_calli, ↓pe_b1, ↓pe_b2, ↓pe_isi, ↓pe_ix, ↓pe_sl, ↓pe_lc, ↓pe_app, ↓pe_pop, ↓pe_popA, ↓pe_rev, ↓pe_dget, pk_ok, pk_ite, ↓exs, ↓retV, ↓v_k, ↓v_gc, ↓v_v, ↓v_tup, ↓v_lst, ↓v_bin, ↓v_neg, ↓v_not, ↓v_and, ↓v_or, ↓v_cmp, ↓v_chain, ↓v_ife, ↓v_call, ↓v_calli, ↓v_b1, ↓v_b2, ↓v_isi, ↓v_ix, ↓v_sl, ↓v_lc, ↓v_app, ↓v_pop, ↓v_popA, ↓v_rev, ↓v_dget, ↓s_asg, ↓s_unp, ↓s_par, ↓s_setL, ↓s_ex, ↓s_iff, ↓s_for_, ↓s_whl, ↓s_ret, ↓s_pass, ↓s_brk, ↓s_cont, ↓s_bad, ↓evs, ↓evm, ↓evo, ↓evIt, ↓view, rd, getS, setS, there, ↓put_pl, plS_none, plS_d, plS_own, ↓putT, ↓putTs, ↓bindT, ↓bindTs, asInt, asBl, Val.toD, Val.slot, b_addi, b_subi, c_lti, c_lei, c_gti, c_gei, c_eqi, c_nei, c_eqs, c_nes, c_in, c_nin, eqD,  bi2, isiD, isiT, ixD, atI, ixN,  lock, unlock, items?, isOwn, isNon, bi1_len_l, bi1_len_t, bi1_len_a, bi1_int_i, bi1_int_b, bi1_list_t, bi1_list_l, bi1_tup_t, bi1_tup_l, ↓e1, wiped]
  · rw [fm_none, List.nil_append]
theorem f_twins (k : Nat) : ∀ (n : Nat) (x : D), x.dep ≤ n → n ≤ 60 → noArr x = true → (Gm W (k + n + 2)).f 17 [x, x] = .ok (.d (.bl true)) := by
  intro n
  induction n with
  | zero =>
    intro x hd hn ha
    rw [u__law_twins]
    have e1 := f_kind (W := W) k x
    cases x <;> first | (simp [D.dep] at hd; done) | skip
    all_goals
      simp only [kindD] at e1
      first
        | (have e2 : inD (.int 0) (.lst [.int 2, .int 3]) = some false := in_ints 0 [2, 3]
           have e3 : cmpD .Eq .non .non = some true := rfl
           simp [and_m, or_m, ↓runF_is, ↓runG_is, ↓bk_ok, ↓bk_no, bk_ite, oo_some, oo_none, oo_ite, ff_rt, ff_nx, ff_ite, fg_rt, fg_nx, fg_ite, ↓peek_v, ↓pe_k, ↓pe_gc, ↓pe_tup, ↓pe_lst, ↓pe_bin, ↓pe_neg, ↓pe_not, ↓pe_and, ↓pe_or, ↓pe_cmp, ↓pe_chain, ↓pe_ife, ↓pe_call, ↓pe_calli, ↓pe_b1, ↓pe_b2, ↓pe_isi, ↓pe_ix, ↓pe_sl, ↓pe_lc, ↓pe_app, ↓pe_pop, ↓pe_popA, ↓pe_rev, ↓pe_dget, pk_ok, pk_ite, ↓exs, ↓retV, ↓v_k, ↓v_gc, ↓v_v, ↓v_tup, ↓v_lst, ↓v_bin, ↓v_neg, ↓v_not, ↓v_and, ↓v_or, ↓v_cmp, ↓v_chain, ↓v_ife, ↓v_call, ↓v_calli, ↓v_b1, ↓v_b2, ↓v_isi, ↓v_ix, ↓v_sl, ↓v_lc, ↓v_app, ↓v_pop, ↓v_popA, ↓v_rev, ↓v_dget, ↓s_asg, ↓s_unp, ↓s_par, ↓s_setL, ↓s_ex, ↓s_iff, ↓s_for_, ↓s_whl, ↓s_ret, ↓s_pass, ↓s_brk, ↓s_cont, ↓s_bad, ↓evs, ↓evm, ↓evo, ↓evIt, ↓view, rd, getS, setS, there, ↓put_pl, plS_none, plS_d, plS_own, ↓putT, ↓putTs, ↓bindT, ↓bindTs, asInt, asBl, Val.toD, Val.slot, b_addi, b_subi, c_lti, c_lei, c_gti, c_gei, c_eqi, c_nei, c_eqs, c_nes, c_in, c_nin, eqD,  bi2, isiD, isiT, ixD, atI, ixN,  lock, unlock, items?, isOwn, isNon, bi1_len_l, bi1_len_t, bi1_len_a, bi1_int_i, bi1_int_b, bi1_list_t, bi1_list_l, bi1_tup_t, bi1_tup_l, b__law_twins, ↓e1, ↓e2, ↓e3]; done)
        | (have e2 : inD (.int 1) (.lst [.int 2, .int 3]) = some false := in_ints 1 [2, 3]
           rename_i b
           have e3 : cmpD .Eq (.bl b) (.bl b) = some true := by cases b <;> rfl
           simp [and_m, or_m, ↓runF_is, ↓runG_is, ↓bk_ok, ↓bk_no, bk_ite, oo_some, oo_none, oo_ite, ff_rt, ff_nx, ff_ite, fg_rt, fg_nx, fg_ite, ↓peek_v, ↓pe_k, ↓pe_gc, ↓pe_tup, ↓pe_lst, ↓pe_bin, ↓pe_neg, ↓pe_not, ↓pe_and, ↓pe_or, ↓pe_cmp, ↓pe_chain, ↓pe_ife, ↓pe_call, ↓pe_calli, ↓pe_b1, ↓pe_b2, ↓pe_isi, ↓pe_ix, ↓pe_sl, ↓pe_lc, ↓pe_app, ↓pe_pop, ↓pe_popA, ↓pe_rev, ↓pe_dget, pk_ok, pk_ite, ↓exs, ↓retV, ↓v_k, ↓v_gc, ↓v_v, ↓v_tup, ↓v_lst, ↓v_bin, ↓v_neg, ↓v_not, ↓v_and, ↓v_or, ↓v_cmp, ↓v_chain, ↓v_ife, ↓v_call, ↓v_calli, ↓v_b1, ↓v_b2, ↓v_isi, ↓v_ix, ↓v_sl, ↓v_lc, ↓v_app, ↓v_pop, ↓v_popA, ↓v_rev, ↓v_dget, ↓s_asg, ↓s_unp, ↓s_par, ↓s_setL, ↓s_ex, ↓s_iff, ↓s_for_, ↓s_whl, ↓s_ret, ↓s_pass, ↓s_brk, ↓s_cont, ↓s_bad, ↓evs, ↓evm, ↓evo, ↓evIt, ↓view, rd, getS, setS, there, ↓put_pl, plS_none, plS_d, plS_own, ↓putT, ↓putTs, ↓bindT, ↓bindTs, asInt, asBl, Val.toD, Val.slot, b_addi, b_subi, c_lti, c_lei, c_gti, c_gei, c_eqi, c_nei, c_eqs, c_nes, c_in, c_nin, eqD,  bi2, isiD, isiT, ixD, atI, ixN,  lock, unlock, items?, isOwn, isNon, bi1_len_l, bi1_len_t, bi1_len_a, bi1_int_i, bi1_int_b, bi1_list_t, bi1_list_l, bi1_tup_t, bi1_tup_l, b__law_twins, ↓e1, ↓e2, ↓e3]; done)
        | (have e2 : inD (.int 4) (.lst [.int 2, .int 3]) = some false := in_ints 4 [2, 3]
           simp [and_m, or_m, ↓runF_is, ↓runG_is, ↓bk_ok, ↓bk_no, bk_ite, oo_some, oo_none, oo_ite, ff_rt, ff_nx, ff_ite, fg_rt, fg_nx, fg_ite, ↓peek_v, ↓pe_k, ↓pe_gc, ↓pe_tup, ↓pe_lst, ↓pe_bin, ↓pe_neg, ↓pe_not, ↓pe_and, ↓pe_or, ↓pe_cmp, ↓pe_chain, ↓pe_ife, ↓pe_call, ↓pe_calli, ↓pe_b1, ↓pe_b2, ↓pe_isi, ↓pe_ix, ↓pe_sl, ↓pe_lc, ↓pe_app, ↓pe_pop, ↓pe_popA, ↓pe_rev, ↓pe_dget, pk_ok, pk_ite, ↓exs, ↓retV, ↓v_k, ↓v_gc, ↓v_v, ↓v_tup, ↓v_lst, ↓v_bin, ↓v_neg, ↓v_not, ↓v_and, ↓v_or, ↓v_cmp, ↓v_chain, ↓v_ife, ↓v_call, ↓v_calli, ↓v_b1, ↓v_b2, ↓v_isi, ↓v_ix, ↓v_sl, ↓v_lc, ↓v_app, ↓v_pop, ↓v_popA, ↓v_rev, ↓v_dget, ↓s_asg, ↓s_unp, ↓s_par, ↓s_setL, ↓s_ex, ↓s_iff, ↓s_for_, ↓s_whl, ↓s_ret, ↓s_pass, ↓s_brk, ↓s_cont, ↓s_bad, ↓evs, ↓evm, ↓evo, ↓evIt, ↓view, rd, getS, setS, there, ↓put_pl, plS_none, plS_d, plS_own, ↓putT, ↓putTs, ↓bindT, ↓bindTs, asInt, asBl, Val.toD, Val.slot, b_addi, b_subi, c_lti, c_lei, c_gti, c_gei, c_eqi, c_nei, c_eqs, c_nes, c_in, c_nin, eqD,  bi2, isiD, isiT, ixD, atI, ixN,  lock, unlock, items?, isOwn, isNon, bi1_len_l, bi1_len_t, bi1_len_a, bi1_int_i, bi1_int_b, bi1_list_t, bi1_list_l, bi1_tup_t, bi1_tup_l, b__law_twins, ↓e1, ↓e2]; done)
        | (have e2 : inD (.int 5) (.lst [.int 2, .int 3]) = some false := in_ints 5 [2, 3]
           simp [and_m, or_m, ↓runF_is, ↓runG_is, ↓bk_ok, ↓bk_no, bk_ite, oo_some, oo_none, oo_ite, ff_rt, ff_nx, ff_ite, fg_rt, fg_nx, fg_ite, ↓peek_v, ↓pe_k, ↓pe_gc, ↓pe_tup, ↓pe_lst, ↓pe_bin, ↓pe_neg, ↓pe_not, ↓pe_and, ↓pe_or, ↓pe_cmp, ↓pe_chain, ↓pe_ife, ↓pe_call, ↓pe_calli, ↓pe_b1, ↓pe_b2, ↓pe_isi, ↓pe_ix, ↓pe_sl, ↓pe_lc, ↓pe_app, ↓pe_pop, ↓pe_popA, ↓pe_rev, ↓pe_dget, pk_ok, pk_ite, ↓exs, ↓retV, ↓v_k, ↓v_gc, ↓v_v, ↓v_tup, ↓v_lst, ↓v_bin, ↓v_neg, ↓v_not, ↓v_and, ↓v_or, ↓v_cmp, ↓v_chain, ↓v_ife, ↓v_call, ↓v_calli, ↓v_b1, ↓v_b2, ↓v_isi, ↓v_ix, ↓v_sl, ↓v_lc, ↓v_app, ↓v_pop, ↓v_popA, ↓v_rev, ↓v_dget, ↓s_asg, ↓s_unp, ↓s_par, ↓s_setL, ↓s_ex, ↓s_iff, ↓s_for_, ↓s_whl, ↓s_ret, ↓s_pass, ↓s_brk, ↓s_cont, ↓s_bad, ↓evs, ↓evm, ↓evo, ↓evIt, ↓view, rd, getS, setS, there, ↓put_pl, plS_none, plS_d, plS_own, ↓putT, ↓putTs, ↓bindT, ↓bindTs, asInt, asBl, Val.toD, Val.slot, b_addi, b_subi, c_lti, c_lei, c_gti, c_gei, c_eqi, c_nei, c_eqs, c_nes, c_in, c_nin, eqD,  bi2, isiD, isiT, ixD, atI, ixN,  lock, unlock, items?, isOwn, isNon, bi1_len_l, bi1_len_t, bi1_len_a, bi1_int_i, bi1_int_b, bi1_list_t, bi1_list_l, bi1_tup_t, bi1_tup_l, b__law_twins, ↓e1, ↓e2]; done)
  | succ n ih =>
    intro x hd hn ha
    rw [u__law_twins]
    have e1 : (Gm W (k + (n + 1) + 1)).f 16 [x] = _ := f_kind (W := W) (k + (n + 1)) x
    have e4 : cmpD .Eq (.lst []) (.lst []) = some true := eq_nil (by simp [D.deps])
    cases x
    case tup xs =>
      simp only [kindD] at e1
      simp only [D.dep] at hd
      simp only [noArr] at ha
      have e2 : inD (.int 3) (.lst [.int 2, .int 3]) = some true := in_ints 3 [2, 3]
      have e3 := fun s0 s1 s2 s3 => twins_lc (Gm W (k + (n + 1) + 1)) xs s0 s1 s2 s3 fun y hy => ih y (by have := dep_mem y hy; omega) (by omega) (noArrs_mem ha y hy)
      simp [and_m, or_m, ↓runF_is, ↓runG_is, ↓bk_ok, ↓bk_no, bk_ite, oo_some, oo_none, oo_ite, ff_rt, ff_nx, ff_ite, fg_rt, fg_nx, fg_ite, ↓peek_v, ↓pe_k, ↓pe_gc, ↓pe_tup, ↓pe_lst, ↓pe_bin, ↓pe_neg, ↓pe_not, ↓pe_and, ↓pe_or, ↓pe_cmp, ↓pe_chain, ↓pe_ife, ↓pe_call, ↓pe_calli, ↓pe_b1, ↓pe_b2, ↓pe_isi, ↓pe_ix, ↓pe_sl, ↓pe_lc, ↓pe_app, ↓pe_pop, ↓pe_popA, ↓pe_rev, ↓pe_dget, pk_ok, pk_ite, ↓exs, ↓retV, ↓v_k, ↓v_gc, ↓v_v, ↓v_tup, ↓v_lst, ↓v_bin, ↓v_neg, ↓v_not, ↓v_and, ↓v_or, ↓v_cmp, ↓v_chain, ↓v_ife, ↓v_call, ↓v_calli, ↓v_b1, ↓v_b2, ↓v_isi, ↓v_ix, ↓v_sl, ↓v_lc, ↓v_app, ↓v_pop, ↓v_popA, ↓v_rev, ↓v_dget, ↓s_asg, ↓s_unp, ↓s_par, ↓s_setL, ↓s_ex, ↓s_iff, ↓s_for_, ↓s_whl, ↓s_ret, ↓s_pass, ↓s_brk, ↓s_cont, ↓s_bad, ↓evs, ↓evm, ↓evo, ↓evIt, ↓view, rd, getS, setS, there, ↓put_pl, plS_none, plS_d, plS_own, ↓putT, ↓putTs, ↓bindT, ↓bindTs, asInt, asBl, Val.toD, Val.slot, b_addi, b_subi, c_lti, c_lei, c_gti, c_gei, c_eqi, c_nei, c_eqs, c_nes, c_in, c_nin, eqD,  bi2, isiD, isiT, ixD, atI, ixN,  lock, unlock, items?, isOwn, isNon, bi1_len_l, bi1_len_t, bi1_len_a, bi1_int_i, bi1_int_b, bi1_list_t, bi1_list_l, bi1_tup_t, bi1_tup_l, b__law_twins, ↓e1, ↓e2, plain_is, pnS_none, ↓e3, ↓e4]
    case lst xs =>
      simp only [kindD] at e1
      simp only [D.dep] at hd
      simp only [noArr] at ha
      have e2 : inD (.int 2) (.lst [.int 2, .int 3]) = some true := in_ints 2 [2, 3]
      have e3 := fun s0 s1 s2 s3 => twins_lc (Gm W (k + (n + 1) + 1)) xs s0 s1 s2 s3 fun y hy => ih y (by have := dep_mem y hy; omega) (by omega) (noArrs_mem ha y hy)
      simp [and_m, or_m, ↓runF_is, ↓runG_is, ↓bk_ok, ↓bk_no, bk_ite, oo_some, oo_none, oo_ite, ff_rt, ff_nx, ff_ite, fg_rt, fg_nx, fg_ite, ↓peek_v, ↓pe_k, ↓pe_gc, ↓pe_tup, ↓pe_lst, ↓pe_bin, ↓pe_neg, ↓pe_not, ↓pe_and, ↓pe_or, ↓pe_cmp, ↓pe_chain, ↓pe_ife, ↓pe_call, ↓pe_calli, ↓pe_b1, ↓pe_b2, ↓pe_isi, ↓pe_ix, ↓pe_sl, ↓pe_lc, ↓pe_app, ↓pe_pop, ↓pe_popA, ↓pe_rev, ↓pe_dget, pk_ok, pk_ite, ↓exs, ↓retV, ↓v_k, ↓v_gc, ↓v_v, ↓v_tup, ↓v_lst, ↓v_bin, ↓v_neg, ↓v_not, ↓v_and, ↓v_or, ↓v_cmp, ↓v_chain, ↓v_ife, ↓v_call, ↓v_calli, ↓v_b1, ↓v_b2, ↓v_isi, ↓v_ix, ↓v_sl, ↓v_lc, ↓v_app, ↓v_pop, ↓v_popA, ↓v_rev, ↓v_dget, ↓s_asg, ↓s_unp, ↓s_par, ↓s_setL, ↓s_ex, ↓s_iff, ↓s_for_, ↓s_whl, ↓s_ret, ↓s_pass, ↓s_brk, ↓s_cont, ↓s_bad, ↓evs, ↓evm, ↓evo, ↓evIt, ↓view, rd, getS, setS, there, ↓put_pl, plS_none, plS_d, plS_own, ↓putT, ↓putTs, ↓bindT, ↓bindTs, asInt, asBl, Val.toD, Val.slot, b_addi, b_subi, c_lti, c_lei, c_gti, c_gei, c_eqi, c_nei, c_eqs, c_nes, c_in, c_nin, eqD,  bi2, isiD, isiT, ixD, atI, ixN,  lock, unlock, items?, isOwn, isNon, bi1_len_l, bi1_len_t, bi1_len_a, bi1_int_i, bi1_int_b, bi1_list_t, bi1_list_l, bi1_tup_t, bi1_tup_l, b__law_twins, ↓e1, ↓e2, plain_is, pnS_none, ↓e3, ↓e4]
    case arr xs => simp [noArr] at ha
    all_goals
      simp only [kindD] at e1
      first
        | (have e2 : inD (.int 0) (.lst [.int 2, .int 3]) = some false := in_ints 0 [2, 3]
           have e3 : cmpD .Eq .non .non = some true := rfl
           simp [and_m, or_m, ↓runF_is, ↓runG_is, ↓bk_ok, ↓bk_no, bk_ite, oo_some, oo_none, oo_ite, ff_rt, ff_nx, ff_ite, fg_rt, fg_nx, fg_ite, ↓peek_v, ↓pe_k, ↓pe_gc, ↓pe_tup, ↓pe_lst, ↓pe_bin, ↓pe_neg, ↓pe_not, ↓pe_and, ↓pe_or, ↓pe_cmp, ↓pe_chain, ↓pe_ife, ↓pe_call, ↓pe_calli, ↓pe_b1, ↓pe_b2, ↓pe_isi, ↓pe_ix, ↓pe_sl, ↓pe_lc, ↓pe_app, ↓pe_pop, ↓pe_popA, ↓pe_rev, ↓pe_dget, pk_ok, pk_ite, ↓exs, ↓retV, ↓v_k, ↓v_gc, ↓v_v, ↓v_tup, ↓v_lst, ↓v_bin, ↓v_neg, ↓v_not, ↓v_and, ↓v_or, ↓v_cmp, ↓v_chain, ↓v_ife, ↓v_call, ↓v_calli, ↓v_b1, ↓v_b2, ↓v_isi, ↓v_ix, ↓v_sl, ↓v_lc, ↓v_app, ↓v_pop, ↓v_popA, ↓v_rev, ↓v_dget, ↓s_asg, ↓s_unp, ↓s_par, ↓s_setL, ↓s_ex, ↓s_iff, ↓s_for_, ↓s_whl, ↓s_ret, ↓s_pass, ↓s_brk, ↓s_cont, ↓s_bad, ↓evs, ↓evm, ↓evo, ↓evIt, ↓view, rd, getS, setS, there, ↓put_pl, plS_none, plS_d, plS_own, ↓putT, ↓putTs, ↓bindT, ↓bindTs, asInt, asBl, Val.toD, Val.slot, b_addi, b_subi, c_lti, c_lei, c_gti, c_gei, c_eqi, c_nei, c_eqs, c_nes, c_in, c_nin, eqD,  bi2, isiD, isiT, ixD, atI, ixN,  lock, unlock, items?, isOwn, isNon, bi1_len_l, bi1_len_t, bi1_len_a, bi1_int_i, bi1_int_b, bi1_list_t, bi1_list_l, bi1_tup_t, bi1_tup_l, b__law_twins, ↓e1, ↓e2, ↓e3]; done)
        | (have e2 : inD (.int 1) (.lst [.int 2, .int 3]) = some false := in_ints 1 [2, 3]
           rename_i b
           have e3 : cmpD .Eq (.bl b) (.bl b) = some true := by cases b <;> rfl
           simp [and_m, or_m, ↓runF_is, ↓runG_is, ↓bk_ok, ↓bk_no, bk_ite, oo_some, oo_none, oo_ite, ff_rt, ff_nx, ff_ite, fg_rt, fg_nx, fg_ite, ↓peek_v, ↓pe_k, ↓pe_gc, ↓pe_tup, ↓pe_lst, ↓pe_bin, ↓pe_neg, ↓pe_not, ↓pe_and, ↓pe_or, ↓pe_cmp, ↓pe_chain, ↓pe_ife, ↓pe_call, ↓pe_calli, ↓pe_b1, ↓pe_b2, ↓pe_isi, ↓pe_ix, ↓pe_sl, ↓pe_lc, ↓pe_app, ↓pe_pop, ↓pe_popA, ↓pe_rev, ↓pe_dget, pk_ok, pk_ite, ↓exs, ↓retV, ↓v_k, ↓v_gc, ↓v_v, ↓v_tup, ↓v_lst, ↓v_bin, ↓v_neg, ↓v_not, ↓v_and, ↓v_or, ↓v_cmp, ↓v_chain, ↓v_ife, ↓v_call, ↓v_calli, ↓v_b1, ↓v_b2, ↓v_isi, ↓v_ix, ↓v_sl, ↓v_lc, ↓v_app, ↓v_pop, ↓v_popA, ↓v_rev, ↓v_dget, ↓s_asg, ↓s_unp, ↓s_par, ↓s_setL, ↓s_ex, ↓s_iff, ↓s_for_, ↓s_whl, ↓s_ret, ↓s_pass, ↓s_brk, ↓s_cont, ↓s_bad, ↓evs, ↓evm, ↓evo, ↓evIt, ↓view, rd, getS, setS, there, ↓put_pl, plS_none, plS_d, plS_own, ↓putT, ↓putTs, ↓bindT, ↓bindTs, asInt, asBl, Val.toD, Val.slot, b_addi, b_subi, c_lti, c_lei, c_gti, c_gei, c_eqi, c_nei, c_eqs, c_nes, c_in, c_nin, eqD,  bi2, isiD, isiT, ixD, atI, ixN,  lock, unlock, items?, isOwn, isNon, bi1_len_l, bi1_len_t, bi1_len_a, bi1_int_i, bi1_int_b, bi1_list_t, bi1_list_l, bi1_tup_t, bi1_tup_l, b__law_twins, ↓e1, ↓e2, ↓e3]; done)
        | (have e2 : inD (.int 4) (.lst [.int 2, .int 3]) = some false := in_ints 4 [2, 3]
           simp [and_m, or_m, ↓runF_is, ↓runG_is, ↓bk_ok, ↓bk_no, bk_ite, oo_some, oo_none, oo_ite, ff_rt, ff_nx, ff_ite, fg_rt, fg_nx, fg_ite, ↓peek_v, ↓pe_k, ↓pe_gc, ↓pe_tup, ↓pe_lst, ↓pe_bin, ↓pe_neg, ↓pe_not, ↓pe_and, ↓pe_or, ↓pe_cmp, ↓pe_chain, ↓pe_ife, ↓pe_call, ↓pe_calli, ↓pe_b1, ↓pe_b2, ↓pe_isi, ↓pe_ix, ↓pe_sl, ↓pe_lc, ↓pe_app, ↓pe_pop, ↓pe_popA, ↓pe_rev, ↓pe_dget, pk_ok, pk_ite, ↓exs, ↓retV, ↓v_k, ↓v_gc, ↓v_v, ↓v_tup, ↓v_lst, ↓v_bin, ↓v_neg, ↓v_not, ↓v_and, ↓v_or, ↓v_cmp, ↓v_chain, ↓v_ife, ↓v_call, ↓v_calli, ↓v_b1, ↓v_b2, ↓v_isi, ↓v_ix, ↓v_sl, ↓v_lc, ↓v_app, ↓v_pop, ↓v_popA, ↓v_rev, ↓v_dget, ↓s_asg, ↓s_unp, ↓s_par, ↓s_setL, ↓s_ex, ↓s_iff, ↓s_for_, ↓s_whl, ↓s_ret, ↓s_pass, ↓s_brk, ↓s_cont, ↓s_bad, ↓evs, ↓evm, ↓evo, ↓evIt, ↓view, rd, getS, setS, there, ↓put_pl, plS_none, plS_d, plS_own, ↓putT, ↓putTs, ↓bindT, ↓bindTs, asInt, asBl, Val.toD, Val.slot, b_addi, b_subi, c_lti, c_lei, c_gti, c_gei, c_eqi, c_nei, c_eqs, c_nes, c_in, c_nin, eqD,  bi2, isiD, isiT, ixD, atI, ixN,  lock, unlock, items?, isOwn, isNon, bi1_len_l, bi1_len_t, bi1_len_a, bi1_int_i, bi1_int_b, bi1_list_t, bi1_list_l, bi1_tup_t, bi1_tup_l, b__law_twins, ↓e1, ↓e2]; done)
        | (have e2 : inD (.int 5) (.lst [.int 2, .int 3]) = some false := in_ints 5 [2, 3]
           simp [and_m, or_m, ↓runF_is, ↓runG_is, ↓bk_ok, ↓bk_no, bk_ite, oo_some, oo_none, oo_ite, ff_rt, ff_nx, ff_ite, fg_rt, fg_nx, fg_ite, ↓peek_v, ↓pe_k, ↓pe_gc, ↓pe_tup, ↓pe_lst, ↓pe_bin, ↓pe_neg, ↓pe_not, ↓pe_and, ↓pe_or, ↓pe_cmp, ↓pe_chain, ↓pe_ife, ↓pe_call, ↓pe_calli, ↓pe_b1, ↓pe_b2, ↓pe_isi, ↓pe_ix, ↓pe_sl, ↓pe_lc, ↓pe_app, ↓pe_pop, ↓pe_popA, ↓pe_rev, ↓pe_dget, pk_ok, pk_ite, ↓exs, ↓retV, ↓v_k, ↓v_gc, ↓v_v, ↓v_tup, ↓v_lst, ↓v_bin, ↓v_neg, ↓v_not, ↓v_and, ↓v_or, ↓v_cmp, ↓v_chain, ↓v_ife, ↓v_call, ↓v_calli, ↓v_b1, ↓v_b2, ↓v_isi, ↓v_ix, ↓v_sl, ↓v_lc, ↓v_app, ↓v_pop, ↓v_popA, ↓v_rev, ↓v_dget, ↓s_asg, ↓s_unp, ↓s_par, ↓s_setL, ↓s_ex, ↓s_iff, ↓s_for_, ↓s_whl, ↓s_ret, ↓s_pass, ↓s_brk, ↓s_cont, ↓s_bad, ↓evs, ↓evm, ↓evo, ↓evIt, ↓view, rd, getS, setS, there, ↓put_pl, plS_none, plS_d, plS_own, ↓putT, ↓putTs, ↓bindT, ↓bindTs, asInt, asBl, Val.toD, Val.slot, b_addi, b_subi, c_lti, c_lei, c_gti, c_gei, c_eqi, c_nei, c_eqs, c_nes, c_in, c_nin, eqD,  bi2, isiD, isiT, ixD, atI, ixN,  lock, unlock, items?, isOwn, isNon, bi1_len_l, bi1_len_t, bi1_len_a, bi1_int_i, bi1_int_b, bi1_list_t, bi1_list_l, bi1_tup_t, bi1_tup_l, b__law_twins, ↓e1, ↓e2]; done)
end AW

set_option Elab.async false
set_option linter.all false
set_option maxRecDepth 100000
set_option maxHeartbeats 4000000
namespace AW
open PySem L2
variable {W : Nat}
theorem slt (xs : List D) (a b : Option Int) : slD (.tup xs) a b = some (.d (.tup (cutD xs a b))) := rfl
theorem cut_len (xs : List D) (a b : Option Int) : (cutD xs a b).length ≤ xs.length := by
  unfold cutD
  rw [List.length_take, List.length_drop]
  omega
theorem ne_nil_t {xs : List D} (h : D.deps xs ≤ 59) : cmpD .NotEq (.tup xs) (.tup []) = some !xs.isEmpty := by
  show (if (D.tup xs).dep ≤ 60 ∧ (D.tup []).dep ≤ 60 then some (D.eqv (.tup xs) (.tup [])) else none).map (!·) = _
  rw [if_pos ⟨by simp only [D.dep]; omega, by simp [D.dep, D.deps]⟩]
  cases xs <;> simp [D.eqv, D.eqvs]
theorem at_sel_t {xs : List D} {p : Int × Int} (h0 : 0 < xs.length) : ∃ x ∈ xs, ixD (.tup xs) (.int (pickR p xs.length)) = some x := by
  obtain ⟨j, hj, e⟩ := pick_cases (p := p) (m := xs.length) h0
  refine ⟨xs[j], List.getElem_mem hj, ?_⟩
  unfold ixD
  dsimp only
  rw [e]
  unfold atI ixN
  rw [if_pos (by omega), if_pos (by omega)]
  simp
mutual
/-- no long tuples -/
def smallD : D → Bool
  | .tup xs => decide (xs.length ≤ 100) && smallDs xs
  | _ => true
def smallDs : List D → Bool
  | [] => true
  | x :: r => smallD x && smallDs r
end
theorem small_mem {xs : List D} (h : smallDs xs = true) : ∀ x ∈ xs, smallD x = true := by
  induction xs with
  | nil => exact fun _ h => nomatch h
  | cons y r ih =>
    simp only [smallDs, Bool.and_eq_true] at h
    intro x hx
    rcases List.mem_cons.mp hx with rfl | hx
    · exact h.1
    · exact ih h.2 x hx
def bentL : List D := [.non, .bl true, .bl false, .int 0, .int 1, .int 2, .int 3, .int 4, .int (-1), .int (-2), .int (10 ^ 30), .str "", .str "same", .str "next", .str "last", .str "stay", .str "first",
  .tup [], .lst [], .tup [.int 1, .int 1], .tup [.int 1, .int 3], .tup [.int 0, .int 0, .int 0], .tup [.int 1, .int 0, .int 0], .tup [.int 0, .int 1, .int 1], .tup [.tup [.int 0, .int 0, .int 0]], .tup [.tup [.int 0, .int 1, .int 0], .tup [.int 1, .int 1, .int 0]]]
theorem bent_flat (k : Nat) (p : Int × Int) (d : D) (h : ∀ xs, d ≠ .tup xs) : ∃ r q, (Gm W (k + 2)).g 34 (spr p) [d] = .ok (.d r, spr q) := by
  have e1 : (Gm W (k + 1)).g 15 (spr p) [.int 26] = _ := f_pick (W := W) k p 26 (by omega) (by omega)
  have e2 : ixD (.lst bentL) (.int (pickR p 26)) = some (sel bentL (pickR p 26)) := at_sel (m := 26) rfl (by decide)
  refine ⟨sel bentL (pickR p 26), pickS p 26, ?_⟩
  rw [u__law_bent]
  generalize sel bentL (pickR p 26) = z at *
  simp only [bentL] at e2
  have e3 : (10 : Int) ^ 30 = 1000000000000000000000000000000 := by decide
  rw [e3] at e2
  cases d <;> first | exact absurd rfl (h _) | skip
  all_goals simp [and_m, or_m, ↓runF_is, ↓runG_is, ↓bk_ok, ↓bk_no, bk_ite, oo_some, oo_none, oo_ite, ff_rt, ff_nx, ff_ite, fg_rt, fg_nx, fg_ite, ↓peek_v, ↓pe_k, ↓pe_gc, ↓pe_tup, ↓pe_lst, ↓pe_bin, ↓pe_neg, ↓pe_not, ↓pe_and, ↓pe_or, ↓pe_cmp, ↓pe_chain, ↓pe_ife, ↓pe_call, ↓pe_calli, ↓pe_b1, ↓pe_b2, ↓pe_isi, ↓pe_ix, ↓pe_sl, ↓pe_lc, ↓pe_app, ↓pe_pop, ↓pe_popA, ↓pe_rev, ↓pe_dget, pk_ok, pk_ite, ↓exs, ↓retV, ↓v_k, ↓v_gc, ↓v_v, ↓v_tup, ↓v_lst, ↓v_bin, ↓v_neg, ↓v_not, ↓v_and, ↓v_or, ↓v_cmp, ↓v_chain, ↓v_ife, ↓v_call, ↓v_calli, ↓v_b1, ↓v_b2, ↓v_isi, ↓v_ix, ↓v_sl, ↓v_lc, ↓v_app, ↓v_pop, ↓v_popA, ↓v_rev, ↓v_dget, ↓s_asg, ↓s_unp, ↓s_par, ↓s_setL, ↓s_ex, ↓s_iff, ↓s_for_, ↓s_whl, ↓s_ret, ↓s_pass, ↓s_brk, ↓s_cont, ↓s_bad, ↓evs, ↓evm, ↓evo, ↓evIt, ↓view, rd, getS, setS, there, ↓put_pl, plS_none, plS_d, plS_own, ↓putT, ↓putTs, ↓bindT, ↓bindTs, asInt, asBl, Val.toD, Val.slot, binD, cmpD, eqD, bi1, bi2, isiD, isiT, slD, lock, unlock, items?, isOwn, isNon, b__law_bent, ↓e1, ↓e2, lim]
end AW

set_option Elab.async false
set_option linter.all false
set_option maxRecDepth 100000
set_option maxHeartbeats 4000000
namespace AW
open PySem L2
variable {W : Nat}
theorem q_pow : binD .Pow (.int 10) (.int 30) = some (.d (.int 1000000000000000000000000000000)) := by simp [binD]
theorem q_bent : binD .Add (.lst [.non, .bl true, .bl false, .int 0, .int 1, .int 2, .int 3, .int 4, .int (-1), .int (-2), .int 1000000000000000000000000000000, .str "", .str "same", .str "next", .str "last", .str "stay", .str "first"])
    (.lst [.tup [], .lst [], .tup [.int 1, .int 1], .tup [.int 1, .int 3], .tup [.int 0, .int 0, .int 0], .tup [.int 1, .int 0, .int 0], .tup [.int 0, .int 1, .int 1], .tup [.tup [.int 0, .int 0, .int 0]], .tup [.tup [.int 0, .int 1, .int 0], .tup [.int 1, .int 1, .int 0]]]) =
    some (.own bentL) := b_addl (by decide)
theorem f_bent (k : Nat) : ∀ (n : Nat) (d : D) (p : Int × Int), d.dep ≤ n → n ≤ 50 → smallD d = true → ∃ r q, (Gm W (k + n + 2)).g 34 (spr p) [d] = .ok (.d r, spr q) := by
  intro n
  induction n with
  | zero =>
    intro d p hd _ _
    refine bent_flat k p d fun xs e => ?_
    subst e
    simp [D.dep] at hd
  | succ n ih =>
    intro d p hd hn hs
    by_cases ht : ∃ xs, d = .tup xs
    · obtain ⟨xs, rfl⟩ := ht
      simp only [D.dep] at hd
      simp only [smallD, Bool.and_eq_true, decide_eq_true_eq] at hs
      obtain ⟨hl, hs⟩ := hs
      have e0 := ne_nil_t (xs := xs) (by omega)
      have pk : ∀ p (m : Nat), 0 < m → m < 1000 → (Gm W (k + (n + 1) + 1)).g 15 (spr p) [.int m] = .ok (.d (.int (pickR p m)), spr (pickS p m)) := fun p m h1 h2 => f_pick (W := W) (k + (n + 1)) p m (by omega) (by omega)
      have e26 : ∀ p, (Gm W (k + (n + 1) + 1)).g 15 (spr p) [.int 26] = _ := fun p => pk p 26 (by omega) (by omega)
      have e6 : ∀ p, (Gm W (k + (n + 1) + 1)).g 15 (spr p) [.int 6] = _ := fun p => pk p 6 (by omega) (by omega)
      have e8 : ∀ p, (Gm W (k + (n + 1) + 1)).g 15 (spr p) [.int 8] = _ := fun p => pk p 8 (by omega) (by omega)
      have eb : ∀ p, ixD (.lst bentL) (.int (pickR p 26)) = some (sel bentL (pickR p 26)) := fun p => at_sel (m := 26) rfl (by decide)
      have lm : lim = 16000000 := rfl
      cases hE : xs.isEmpty with
      | true =>
        rw [hE] at e0
        refine ⟨sel bentL (pickR p 26), pickS p 26, ?_⟩
        rw [u__law_bent]
        have lb : (bentL.length : Int) = 26 := rfl
        simp [and_m, or_m, ↓runF_is, ↓runG_is, ↓bk_ok, ↓bk_no, bk_ite, oo_some, oo_none, oo_ite, ff_rt, ff_nx, ff_ite, fg_rt, fg_nx, fg_ite, ↓peek_v, ↓pe_k, ↓pe_gc, ↓pe_tup, ↓pe_lst, ↓pe_bin, ↓pe_neg, ↓pe_not, ↓pe_and, ↓pe_or, ↓pe_cmp, ↓pe_chain, ↓pe_ife, ↓pe_call, ↓pe_calli, ↓pe_b1, ↓pe_b2, ↓pe_isi, ↓pe_ix, ↓pe_sl, ↓pe_lc, ↓pe_app, ↓pe_pop, ↓pe_popA, ↓pe_rev, ↓pe_dget, pk_ok, pk_ite, ↓exs, ↓retV, ↓v_k, ↓v_gc, ↓v_v, ↓v_tup, ↓v_lst, ↓v_bin, ↓v_neg, ↓v_not, ↓v_and, ↓v_or, ↓v_cmp, ↓v_chain, ↓v_ife, ↓v_call, ↓v_calli, ↓v_b1, ↓v_b2, ↓v_isi, ↓v_ix, ↓v_sl, ↓v_lc, ↓v_app, ↓v_pop, ↓v_popA, ↓v_rev, ↓v_dget, ↓s_asg, ↓s_unp, ↓s_par, ↓s_setL, ↓s_ex, ↓s_iff, ↓s_for_, ↓s_whl, ↓s_ret, ↓s_pass, ↓s_brk, ↓s_cont, ↓s_bad, ↓evs, ↓evm, ↓evo, ↓evIt, ↓view, rd, getS, setS, there, ↓put_pl, plS_none, plS_d, plS_own, ↓putT, ↓putTs, ↓bindT, ↓bindTs, asInt, asBl, Val.toD, Val.slot, b_addi, b_subi, c_lti, c_lei, c_gti, c_gei, c_eqi, c_nei, c_eqs, c_nes, c_in, c_nin, eqD,  bi2, isiD, isiT,   lock, unlock, items?, isOwn, isNon, bi1_len_l, bi1_len_t, bi1_len_a, bi1_int_i, bi1_int_b, bi1_list_t, bi1_list_l, bi1_tup_t, bi1_tup_l, b__law_bent, ↓e0, ↓q_pow, ↓q_bent, lb, ↓e26, ↓eb]
      | false =>
        rw [hE] at e0
        have hpos : 0 < xs.length := by cases xs <;> simp_all
        have el : ∀ p, (Gm W (k + (n + 1) + 1)).g 15 (spr p) [.int (xs.length : Int)] = _ := fun p => pk p xs.length hpos (by omega)
        by_cases h6 : 0 < pickR p 6
        · have ec : ∀ a b, (cutD xs a b).length ≤ xs.length := cut_len xs
          have ea : ∀ a b c d, binD .Add (.tup (cutD xs a b)) (.tup (cutD xs c d)) = some (.d (.tup (cutD xs a b ++ cutD xs c d))) := fun a b c d => b_addt (by have := ec a b; have := ec c d; omega)
          have ea2 : ∀ a b c d e f, binD .Add (.tup (cutD xs a b ++ cutD xs c d)) (.tup (cutD xs e f)) = some (.d (.tup (cutD xs a b ++ cutD xs c d ++ cutD xs e f))) := fun a b c d e f => b_addt (by have := ec a b; have := ec c d; have := ec e f; rw [List.length_append]; omega)
          by_cases w0 : pickR (pickS (pickS p 6) xs.length) 8 = 0
          · refine ⟨.tup (cutD xs none (some (pickR (pickS p 6) xs.length)) ++ cutD xs (some (pickR (pickS p 6) xs.length + 1)) none), pickS (pickS (pickS p 6) xs.length) 8, ?_⟩
            rw [u__law_bent]
            simp [and_m, or_m, ↓runF_is, ↓runG_is, ↓bk_ok, ↓bk_no, bk_ite, oo_some, oo_none, oo_ite, ff_rt, ff_nx, ff_ite, fg_rt, fg_nx, fg_ite, ↓peek_v, ↓pe_k, ↓pe_gc, ↓pe_tup, ↓pe_lst, ↓pe_bin, ↓pe_neg, ↓pe_not, ↓pe_and, ↓pe_or, ↓pe_cmp, ↓pe_chain, ↓pe_ife, ↓pe_call, ↓pe_calli, ↓pe_b1, ↓pe_b2, ↓pe_isi, ↓pe_ix, ↓pe_sl, ↓pe_lc, ↓pe_app, ↓pe_pop, ↓pe_popA, ↓pe_rev, ↓pe_dget, pk_ok, pk_ite, ↓exs, ↓retV, ↓v_k, ↓v_gc, ↓v_v, ↓v_tup, ↓v_lst, ↓v_bin, ↓v_neg, ↓v_not, ↓v_and, ↓v_or, ↓v_cmp, ↓v_chain, ↓v_ife, ↓v_call, ↓v_calli, ↓v_b1, ↓v_b2, ↓v_isi, ↓v_ix, ↓v_sl, ↓v_lc, ↓v_app, ↓v_pop, ↓v_popA, ↓v_rev, ↓v_dget, ↓s_asg, ↓s_unp, ↓s_par, ↓s_setL, ↓s_ex, ↓s_iff, ↓s_for_, ↓s_whl, ↓s_ret, ↓s_pass, ↓s_brk, ↓s_cont, ↓s_bad, ↓evs, ↓evm, ↓evo, ↓evIt, ↓view, rd, getS, setS, there, ↓put_pl, plS_none, plS_d, plS_own, ↓putT, ↓putTs, ↓bindT, ↓bindTs, asInt, asBl, Val.toD, Val.slot, b_addi, b_subi, c_lti, c_lei, c_gti, c_gei, c_eqi, c_nei, c_eqs, c_nes, c_in, c_nin, eqD,  bi2, isiD, isiT,   lock, unlock, items?, isOwn, isNon, bi1_len_l, bi1_len_t, bi1_len_a, bi1_int_i, bi1_int_b, bi1_list_t, bi1_list_l, bi1_tup_t, bi1_tup_l, b__law_bent, ↓e0, ↓e6, h6, ↓el, ↓e8, w0, slt, ↓ea]
          · by_cases w1 : pickR (pickS (pickS p 6) xs.length) 8 = 1
            · refine ⟨.tup (cutD xs none (some (pickR (pickS p 6) xs.length)) ++ cutD xs (some (pickR (pickS p 6) xs.length)) (some (pickR (pickS p 6) xs.length + 1)) ++ cutD xs (some (pickR (pickS p 6) xs.length)) none), pickS (pickS (pickS p 6) xs.length) 8, ?_⟩
              rw [u__law_bent]
              simp only [List.append_assoc] at ea2
              simp [and_m, or_m, ↓runF_is, ↓runG_is, ↓bk_ok, ↓bk_no, bk_ite, oo_some, oo_none, oo_ite, ff_rt, ff_nx, ff_ite, fg_rt, fg_nx, fg_ite, ↓peek_v, ↓pe_k, ↓pe_gc, ↓pe_tup, ↓pe_lst, ↓pe_bin, ↓pe_neg, ↓pe_not, ↓pe_and, ↓pe_or, ↓pe_cmp, ↓pe_chain, ↓pe_ife, ↓pe_call, ↓pe_calli, ↓pe_b1, ↓pe_b2, ↓pe_isi, ↓pe_ix, ↓pe_sl, ↓pe_lc, ↓pe_app, ↓pe_pop, ↓pe_popA, ↓pe_rev, ↓pe_dget, pk_ok, pk_ite, ↓exs, ↓retV, ↓v_k, ↓v_gc, ↓v_v, ↓v_tup, ↓v_lst, ↓v_bin, ↓v_neg, ↓v_not, ↓v_and, ↓v_or, ↓v_cmp, ↓v_chain, ↓v_ife, ↓v_call, ↓v_calli, ↓v_b1, ↓v_b2, ↓v_isi, ↓v_ix, ↓v_sl, ↓v_lc, ↓v_app, ↓v_pop, ↓v_popA, ↓v_rev, ↓v_dget, ↓s_asg, ↓s_unp, ↓s_par, ↓s_setL, ↓s_ex, ↓s_iff, ↓s_for_, ↓s_whl, ↓s_ret, ↓s_pass, ↓s_brk, ↓s_cont, ↓s_bad, ↓evs, ↓evm, ↓evo, ↓evIt, ↓view, rd, getS, setS, there, ↓put_pl, plS_none, plS_d, plS_own, ↓putT, ↓putTs, ↓bindT, ↓bindTs, asInt, asBl, Val.toD, Val.slot, b_addi, b_subi, c_lti, c_lei, c_gti, c_gei, c_eqi, c_nei, c_eqs, c_nes, c_in, c_nin, eqD,  bi2, isiD, isiT,   lock, unlock, items?, isOwn, isNon, bi1_len_l, bi1_len_t, bi1_len_a, bi1_int_i, bi1_int_b, bi1_list_t, bi1_list_l, bi1_tup_t, bi1_tup_l, b__law_bent, ↓e0, ↓e6, h6, ↓el, ↓e8, w1, slt, ↓ea, ↓ea2]
            · by_cases w2 : pickR (pickS (pickS p 6) xs.length) 8 = 2
              · refine ⟨.tup xs.reverse, pickS (pickS (pickS p 6) xs.length) 8, ?_⟩
                rw [u__law_bent]
                simp [and_m, or_m, ↓runF_is, ↓runG_is, ↓bk_ok, ↓bk_no, bk_ite, oo_some, oo_none, oo_ite, ff_rt, ff_nx, ff_ite, fg_rt, fg_nx, fg_ite, ↓peek_v, ↓pe_k, ↓pe_gc, ↓pe_tup, ↓pe_lst, ↓pe_bin, ↓pe_neg, ↓pe_not, ↓pe_and, ↓pe_or, ↓pe_cmp, ↓pe_chain, ↓pe_ife, ↓pe_call, ↓pe_calli, ↓pe_b1, ↓pe_b2, ↓pe_isi, ↓pe_ix, ↓pe_sl, ↓pe_lc, ↓pe_app, ↓pe_pop, ↓pe_popA, ↓pe_rev, ↓pe_dget, pk_ok, pk_ite, ↓exs, ↓retV, ↓v_k, ↓v_gc, ↓v_v, ↓v_tup, ↓v_lst, ↓v_bin, ↓v_neg, ↓v_not, ↓v_and, ↓v_or, ↓v_cmp, ↓v_chain, ↓v_ife, ↓v_call, ↓v_calli, ↓v_b1, ↓v_b2, ↓v_isi, ↓v_ix, ↓v_sl, ↓v_lc, ↓v_app, ↓v_pop, ↓v_popA, ↓v_rev, ↓v_dget, ↓s_asg, ↓s_unp, ↓s_par, ↓s_setL, ↓s_ex, ↓s_iff, ↓s_for_, ↓s_whl, ↓s_ret, ↓s_pass, ↓s_brk, ↓s_cont, ↓s_bad, ↓evs, ↓evm, ↓evo, ↓evIt, ↓view, rd, getS, setS, there, ↓put_pl, plS_none, plS_d, plS_own, ↓putT, ↓putTs, ↓bindT, ↓bindTs, asInt, asBl, Val.toD, Val.slot, b_addi, b_subi, c_lti, c_lei, c_gti, c_gei, c_eqi, c_nei, c_eqs, c_nes, c_in, c_nin, eqD,  bi2, isiD, isiT,   lock, unlock, items?, isOwn, isNon, bi1_len_l, bi1_len_t, bi1_len_a, bi1_int_i, bi1_int_b, bi1_list_t, bi1_list_l, bi1_tup_t, bi1_tup_l, b__law_bent, ↓e0, ↓e6, h6, ↓el, ↓e8, w2]
              · obtain ⟨x, hx, ex⟩ := at_sel_t (p := pickS p 6) hpos
                obtain ⟨r, q, eq⟩ := ih x (pickS (pickS (pickS p 6) xs.length) 8) (by have := dep_mem x hx; omega) (by omega) (small_mem hs x hx)
                have eq' : (Gm W (k + (n + 1) + 1)).g 34 (spr (pickS (pickS (pickS p 6) xs.length) 8)) [x] = _ := eq
                have ea3 : ∀ a b, binD .Add (.tup (cutD xs a b)) (.tup [r]) = some (.d (.tup (cutD xs a b ++ [r]))) := fun a b => b_addt (by have := ec a b; simp; omega)
                have ea4 : ∀ a b e f, binD .Add (.tup (cutD xs a b ++ [r])) (.tup (cutD xs e f)) = some (.d (.tup (cutD xs a b ++ [r] ++ cutD xs e f))) := fun a b e f => b_addt (by have := ec a b; have := ec e f; simp; omega)
                refine ⟨.tup (cutD xs none (some (pickR (pickS p 6) xs.length)) ++ [r] ++ cutD xs (some (pickR (pickS p 6) xs.length + 1)) none), q, ?_⟩
                rw [u__law_bent]
                simp [and_m, or_m, ↓runF_is, ↓runG_is, ↓bk_ok, ↓bk_no, bk_ite, oo_some, oo_none, oo_ite, ff_rt, ff_nx, ff_ite, fg_rt, fg_nx, fg_ite, ↓peek_v, ↓pe_k, ↓pe_gc, ↓pe_tup, ↓pe_lst, ↓pe_bin, ↓pe_neg, ↓pe_not, ↓pe_and, ↓pe_or, ↓pe_cmp, ↓pe_chain, ↓pe_ife, ↓pe_call, ↓pe_calli, ↓pe_b1, ↓pe_b2, ↓pe_isi, ↓pe_ix, ↓pe_sl, ↓pe_lc, ↓pe_app, ↓pe_pop, ↓pe_popA, ↓pe_rev, ↓pe_dget, pk_ok, pk_ite, ↓exs, ↓retV, ↓v_k, ↓v_gc, ↓v_v, ↓v_tup, ↓v_lst, ↓v_bin, ↓v_neg, ↓v_not, ↓v_and, ↓v_or, ↓v_cmp, ↓v_chain, ↓v_ife, ↓v_call, ↓v_calli, ↓v_b1, ↓v_b2, ↓v_isi, ↓v_ix, ↓v_sl, ↓v_lc, ↓v_app, ↓v_pop, ↓v_popA, ↓v_rev, ↓v_dget, ↓s_asg, ↓s_unp, ↓s_par, ↓s_setL, ↓s_ex, ↓s_iff, ↓s_for_, ↓s_whl, ↓s_ret, ↓s_pass, ↓s_brk, ↓s_cont, ↓s_bad, ↓evs, ↓evm, ↓evo, ↓evIt, ↓view, rd, getS, setS, there, ↓put_pl, plS_none, plS_d, plS_own, ↓putT, ↓putTs, ↓bindT, ↓bindTs, asInt, asBl, Val.toD, Val.slot, b_addi, b_subi, c_lti, c_lei, c_gti, c_gei, c_eqi, c_nei, c_eqs, c_nes, c_in, c_nin, eqD,  bi2, isiD, isiT,   lock, unlock, items?, isOwn, isNon, bi1_len_l, bi1_len_t, bi1_len_a, bi1_int_i, bi1_int_b, bi1_list_t, bi1_list_l, bi1_tup_t, bi1_tup_l, b__law_bent, ↓e0, ↓e6, h6, ↓el, ↓e8, w0, w1, w2, slt, ↓ex, ↓eq', ↓ea3, ↓ea4]
        · refine ⟨sel bentL (pickR (pickS p 6) 26), pickS (pickS p 6) 26, ?_⟩
          rw [u__law_bent]
          have lb : (bentL.length : Int) = 26 := rfl
          simp [and_m, or_m, ↓runF_is, ↓runG_is, ↓bk_ok, ↓bk_no, bk_ite, oo_some, oo_none, oo_ite, ff_rt, ff_nx, ff_ite, fg_rt, fg_nx, fg_ite, ↓peek_v, ↓pe_k, ↓pe_gc, ↓pe_tup, ↓pe_lst, ↓pe_bin, ↓pe_neg, ↓pe_not, ↓pe_and, ↓pe_or, ↓pe_cmp, ↓pe_chain, ↓pe_ife, ↓pe_call, ↓pe_calli, ↓pe_b1, ↓pe_b2, ↓pe_isi, ↓pe_ix, ↓pe_sl, ↓pe_lc, ↓pe_app, ↓pe_pop, ↓pe_popA, ↓pe_rev, ↓pe_dget, pk_ok, pk_ite, ↓exs, ↓retV, ↓v_k, ↓v_gc, ↓v_v, ↓v_tup, ↓v_lst, ↓v_bin, ↓v_neg, ↓v_not, ↓v_and, ↓v_or, ↓v_cmp, ↓v_chain, ↓v_ife, ↓v_call, ↓v_calli, ↓v_b1, ↓v_b2, ↓v_isi, ↓v_ix, ↓v_sl, ↓v_lc, ↓v_app, ↓v_pop, ↓v_popA, ↓v_rev, ↓v_dget, ↓s_asg, ↓s_unp, ↓s_par, ↓s_setL, ↓s_ex, ↓s_iff, ↓s_for_, ↓s_whl, ↓s_ret, ↓s_pass, ↓s_brk, ↓s_cont, ↓s_bad, ↓evs, ↓evm, ↓evo, ↓evIt, ↓view, rd, getS, setS, there, ↓put_pl, plS_none, plS_d, plS_own, ↓putT, ↓putTs, ↓bindT, ↓bindTs, asInt, asBl, Val.toD, Val.slot, b_addi, b_subi, c_lti, c_lei, c_gti, c_gei, c_eqi, c_nei, c_eqs, c_nes, c_in, c_nin, eqD,  bi2, isiD, isiT,   lock, unlock, items?, isOwn, isNon, bi1_len_l, bi1_len_t, bi1_len_a, bi1_int_i, bi1_int_b, bi1_list_t, bi1_list_l, bi1_tup_t, bi1_tup_l, b__law_bent, ↓e0, ↓e6, h6, ↓q_pow, ↓q_bent, lb, ↓e26, ↓eb]
    · exact bent_flat (k + (n + 1)) p d fun xs e => ht ⟨xs, e⟩
end AW

set_option Elab.async false
set_option linter.all false
set_option maxRecDepth 100000
set_option maxHeartbeats 4000000
namespace AW
open PySem L2
variable {W : Nat}
/-! stands stay small, and something can always be chosen -/
theorem filter_two {α : Type} (p : α → Bool) : ∀ xs : List α, (xs.filter p).length + (xs.filter fun x => !p x).length = xs.length
  | [] => rfl
  | x :: r => by
    have := filter_two p r
    rw [List.filter_cons, List.filter_cons]
    cases h : p x <;> simp <;> omega
theorem firstT_same (back : List Int) (ms : List Man) : (firstT back ms).length = ms.length := by
  unfold firstT
  rw [List.length_append]
  have h1 : (lateT back ms).length = (ms.filter (isLate back)).length := ((sortM_perm ms).filter _).length_eq
  have h2 : (ms.filter fun m => decide (m ∉ lateT back ms)) = ms.filter fun m => !isLate back m := by
    refine List.filter_congr fun m hm => ?_
    have : m ∈ lateT back ms ↔ isLate back m = true := by
      unfold lateT
      rw [List.mem_filter, (sortM_perm ms).mem_iff]
      exact ⟨fun z => z.2, fun z => ⟨hm, z⟩⟩
    cases h : isLate back m <;> simp [this, h]
  rw [h1, h2]
  exact filter_two _ ms
theorem waitT_same (P : Pl) (ms : List Man) (back : List Int) (draw : Bool) (leave : Int) : (waitT P ms back draw leave).length = ms.length + (if draw = true then 1 else 0) := by
  unfold waitT
  simp only [List.length_map]
  have h := firstT_same back (ms.map (waitA back))
  rw [List.length_map] at h
  by_cases hf : P.late = "first" <;> cases draw <;> simp [hf, h]
theorem leftT_len (P : Pl) (m : Man) (r : List Man) : (leftT P m r).length ≤ r.length + 1 := by
  unfold leftT
  split
  · simp only [List.length_append, List.length_take, List.length_drop, List.length_cons, List.length_nil]
    omega
  · rw [List.length_map]; omega
theorem tickT_len (P : Pl) (ms : List Man) (served : Int) (back : List Int) (draw : Bool) (leave : Int) (done : Bool) : (tickT P ms served back draw leave done).left.length ≤ ms.length + (if draw = true then 1 else 0) := by
  have h := waitT_same P ms back draw leave
  unfold tickT
  by_cases h1 : served < 0
  · rw [if_pos h1]
    generalize waitT P ms back draw leave = S at *
    cases S with
    | nil => simp
    | cons m r =>
      have := leftT_len P m r
      simp only [List.length_cons] at h
      show (leftT P m r).length ≤ _
      omega
  · rw [if_neg h1]
    show (waitT P ms back draw leave).length ≤ _
    omega
theorem foldl_ne (low high : Int) : ∀ (ms : List Man) (rows : List (List Int)), rows ≠ [] → ms.foldl (backStep low high) rows ≠ []
  | [], _, h => h
  | m :: ms, rows, h => by
    rw [List.foldl_cons]
    refine foldl_ne low high ms _ ?_
    unfold backStep
    split
    · cases rows with
      | nil => exact absurd rfl h
      | cons x r => simp
    · exact h
theorem found_ne (P : Pl) (ms : List Man) (served : Int) (h : P.sl ≤ P.sh) : foundT P ms served ≠ [] := by
  have hb : backsT P ms ≠ [] := foldl_ne _ _ _ _ (by simp)
  obtain ⟨b, r, e⟩ : ∃ b r, backsT P ms = b :: r := by
    cases e : backsT P ms with
    | nil => exact absurd e hb
    | cons b r => exact ⟨b, r, rfl⟩
  unfold foundT
  rw [e, List.flatMap_cons]
  have hA : ∀ lv, chA P ms served b false lv ≠ [] := fun lv => by
    unfold chA
    by_cases h1 : takenT P ms served b false lv < P.sh
    · rw [if_pos h1]; simp
    · rw [if_neg h1, if_pos (by omega)]; simp
  have hB : chB P ms served b false ≠ [] := by
    unfold chB
    rw [if_pos (.inl rfl)]
    unfold leavesT
    rw [List.flatMap_cons]
    intro z
    exact hA (-1) (List.append_eq_nil_iff.mp z).1
  unfold chC
  intro z
  exact hB (List.append_eq_nil_iff.mp (List.append_eq_nil_iff.mp z).1).1
/-- what is chosen with a draw has room for it -/
theorem found_room (P : Pl) (ms : List Man) (served : Int) (c : Ch) (h : c ∈ foundT P ms served) : c.dr = false ∨ (ms.length : Int) < P.room := by
  unfold foundT at h
  obtain ⟨b, _, h⟩ := List.mem_flatMap.mp h
  unfold chC at h
  have hb : ∀ dr, c ∈ chB P ms served b dr → c.dr = false ∨ (ms.length : Int) < P.room := fun dr h => by
    unfold chB at h
    split at h
    · rename_i hc
      obtain ⟨lv, _, h⟩ := List.mem_flatMap.mp h
      have : c.dr = dr := by
        unfold chA at h
        rcases List.mem_append.mp h with h | h <;>
        · split at h
          · rw [List.mem_singleton] at h; rw [h]
          · cases h
      rw [this]
      exact hc
    · cases h
  rcases List.mem_append.mp h with h | h
  · exact hb _ h
  · exact hb _ h
end AW

set_option Elab.async false
set_option linter.all false
set_option maxRecDepth 100000
set_option maxHeartbeats 4000000
namespace AW
open PySem L2
variable {W : Nat}
/-! the law of k01: its loops, at depth 70 -/
theorem at_sel_o {α : Type} (f : α → D) {xs : List α} {p : Int × Int} (h0 : 0 < xs.length) : ∃ x ∈ xs, ixD (.lst (xs.map f)) (.int (pickR p xs.length)) = some (f x) := by
  obtain ⟨j, hj, e⟩ := pick_cases (p := p) (m := xs.length) h0
  refine ⟨xs[j], List.getElem_mem hj, ?_⟩
  unfold ixD
  dsimp only
  rw [e]
  unfold atI ixN
  rw [if_pos (by omega), if_pos (by rw [List.length_map]; omega)]
  simp [hj]
theorem turn_6 (P : Pl) (ms : List Man) (served : Int) (p : Int × Int) (x : D) (s0 s1 s4 s5 s6 s7 s9 s10 s11 s12 : Option Slot) (h4 : plS s4 = true) (h9 : plS s9 = true) (hR : P.room ≤ 3) (hm : (ms.length : Int) ≤ P.room) (hs : P.sl ≤ P.sh) :
    ∃ ms' served' p' x9, plS x9 = true ∧ (ms'.length : Int) ≤ P.room ∧ fF (Gm W 70) W (.n 4) b_law201_6 x [s0, s1, some (.own (spr p)), some (.d P.d), s4, s5, s6, s7, some (.d (standD ms served)), s9, s10, s11, s12] =
      .ok (.nx, [s0, s1, some (.own (spr p')), some (.d P.d), some (.d x), s5, s6, s7, some (.d (standD ms' served')), x9, s10, s11, s12]) := by
  have hl : ms.length ≤ 3 := by omega
  have e1 : (Gm W 70).f 25 [P.d, standD ms served] = _ := f_choices (W := W) 67 P ms served (by omega)
  have lC : (sortC (foundT P ms served)).length = (foundT P ms served).length := (sortC_perm _).length_eq
  have lB := backsT_len P ms
  have b2 : 2 ^ ms.length ≤ 2 ^ 3 := Nat.pow_le_pow_right (by omega) hl
  have fl : (foundT P ms served).length ≤ 32 * (backsT P ms).length := flat_len (n := 32) (f := chC P ms served) (fun b => by have := chC_len P ms served b; omega) (backsT P ms)
  have ne := found_ne P ms served hs
  have pos : 0 < (sortC (foundT P ms served)).length := by rw [lC]; exact List.length_pos_iff.mpr ne
  have e2 : (Gm W 70).g 15 (spr p) [.int ((sortC (foundT P ms served)).length : Int)] = _ := f_pick (W := W) 69 p _ (by omega) (by omega)
  obtain ⟨c, hc, e3⟩ := at_sel_o Ch.d (p := p) pos
  have hc' := found_room P ms served c ((sortC_perm _).mem_iff.mp hc)
  have e4 : (Gm W 70).f 24 [P.d, standD ms served, c.d] = _ := f_tick (W := W) 68 P ms served c.b c.dr c.lv c.dn (by omega)
  have tl := tickT_len P ms served c.b c.dr c.lv c.dn
  generalize tickT P ms served c.b c.dr c.lv c.dn = T at *
  refine ⟨T.left, T.served, pickS p (sortC (foundT P ms served)).length, some (.own ((sortC (foundT P ms served)).map Ch.d)), rfl, ?_, ?_⟩
  · rcases hc' with h | h
    · rw [h] at tl; simp at tl; omega
    · split at tl <;> omega
  · generalize sortC (foundT P ms served) = C at *
    simp only [Tk.d, Tk.stand] at e4
    have es : standD T.left T.served = .tup [.tup (T.left.map Man.d), .int T.served] := rfl
    rw [es]
    generalize standD ms served = S at *
    have e5 : ∀ a b c, ixD (.tup [a, b, c]) (.int 0) = some a := fun a b c => rfl
    unfold fF
    simp [and_m, or_m, ↓runF_is, ↓runG_is, ↓bk_ok, ↓bk_no, bk_ite, oo_some, oo_none, oo_ite, ff_rt, ff_nx, ff_ite, fg_rt, fg_nx, fg_ite, ↓peek_v, ↓pe_k, ↓pe_gc, ↓pe_tup, ↓pe_lst, ↓pe_bin, ↓pe_neg, ↓pe_not, ↓pe_and, ↓pe_or, ↓pe_cmp, ↓pe_chain, ↓pe_ife, ↓pe_call, ↓pe_calli, ↓pe_b1, ↓pe_b2, ↓pe_isi, ↓pe_ix, ↓pe_sl, ↓pe_lc, ↓pe_app, ↓pe_pop, ↓pe_popA, ↓pe_rev, ↓pe_dget, pk_ok, pk_ite, ↓exs, ↓retV, ↓v_k, ↓v_gc, ↓v_v, ↓v_tup, ↓v_lst, ↓v_bin, ↓v_neg, ↓v_not, ↓v_and, ↓v_or, ↓v_cmp, ↓v_chain, ↓v_ife, ↓v_call, ↓v_calli, ↓v_b1, ↓v_b2, ↓v_isi, ↓v_ix, ↓v_sl, ↓v_lc, ↓v_app, ↓v_pop, ↓v_popA, ↓v_rev, ↓v_dget, ↓s_asg, ↓s_unp, ↓s_par, ↓s_setL, ↓s_ex, ↓s_iff, ↓s_for_, ↓s_whl, ↓s_ret, ↓s_pass, ↓s_brk, ↓s_cont, ↓s_bad, ↓evs, ↓evm, ↓evo, ↓evIt, ↓view, rd, getS, setS, there, ↓put_pl, plS_none, plS_d, plS_own, ↓putT, ↓putTs, ↓bindT, ↓bindTs, asInt, asBl, Val.toD, Val.slot, b_addi, b_subi, c_lti, c_lei, c_gti, c_gei, c_eqi, c_nei, c_eqs, c_nes, c_in, c_nin, eqD,  bi2, isiD, isiT,   lock, unlock, items?, isOwn, isNon, bi1_len_l, bi1_len_t, bi1_len_a, bi1_int_i, bi1_int_b, bi1_list_t, bi1_list_l, bi1_tup_t, bi1_tup_l, b_law201_6, h4, h9, ↓e1, ↓e2, ↓e3, ↓e4, e5]
end AW

set_option Elab.async false
set_option linter.all false
set_option maxRecDepth 100000
set_option maxHeartbeats 4000000
namespace AW
open PySem L2
variable {W : Nat}
theorem loop_6 (P : Pl) (s0 s1 s5 s6 s7 s10 s11 s12 : Option Slot) (hR : P.room ≤ 3) (hs : P.sl ≤ P.sh) : ∀ (l : List D) (ms : List Man) (served : Int) (p : Int × Int) (s4 s9 : Option Slot), pnS s4 = true → plS s9 = true → (ms.length : Int) ≤ P.room →
    ∃ ms' served' p' x4 x9, pnS x4 = true ∧ plS x9 = true ∧ (ms'.length : Int) ≤ P.room ∧ forGo (fF (Gm W 70) W (.n 4) b_law201_6) l [s0, s1, some (.own (spr p)), some (.d P.d), s4, s5, s6, s7, some (.d (standD ms served)), s9, s10, s11, s12] =
      .ok (.nx, [s0, s1, some (.own (spr p')), some (.d P.d), x4, s5, s6, s7, some (.d (standD ms' served')), x9, s10, s11, s12])
  | [], ms, served, p, s4, s9, h4, h9, hm => ⟨ms, served, p, s4, s9, h4, h9, hm, by unfold forGo; rfl⟩
  | x :: l, ms, served, p, s4, s9, h4, h9, hm => by
    obtain ⟨ms1, sv1, p1, y9, q9, hm1, e1⟩ := turn_6 (W := W) P ms served p x s0 s1 s4 s5 s6 s7 s9 s10 s11 s12 (pn_pl h4) h9 hR hm hs
    obtain ⟨ms', sv', p', x4, x9, k4, k9, hm', e⟩ := loop_6 P s0 s1 s5 s6 s7 s10 s11 s12 hR hs l ms1 sv1 p1 (some (.d x)) y9 rfl q9 hm1
    refine ⟨ms', sv', p', x4, x9, k4, k9, hm', ?_⟩
    unfold forGo
    rw [e1]
    exact e
theorem turn_5 (x : D) (s0 s1 s2 s3 s4 s5 s6 s7 s8 s9 s10 s11 s12 : Option Slot) (h6 : plS s6 = true) (h7 : plS s7 = true) :
    ∃ x7, plS x7 = true ∧ fF (Gm W 70) W (.n 6) b_law201_5 x [s0, s1, s2, s3, s4, s5, s6, s7, s8, s9, s10, s11, s12] = .ok (.nx, [s0, s1, s2, s3, s4, s5, some (.d x), x7, s8, s9, s10, s11, s12]) := by
  have e1 : (Gm W 70).f 7 [x] = _ := f_plan (W := W) 66 x
  have e2 : (Gm W 70).f 5 [x] = _ := f_house (W := W) 67 x
  have e3 : (Gm W 70).f 6 [x] = _ := f_rule (W := W) 68 x
  have e4 : (Gm W 70).f 32 [x] = _ := f_gplan (W := W) 66 x
  have e5 : (Gm W 70).f 30 [x] = _ := f_ghouse (W := W) 67 x
  have e6 : (Gm W 70).f 31 [x] = _ := f_grule (W := W) 68 x
  have e7 : (Gm W 70).f 17 [.lst [.bl (planB x), .bl (houseB x), .bl (ruleB x)], .lst [.bl (planB x), .bl (houseB x), .bl (ruleB x)]] = _ := f_twins (W := W) 67 1 _ (by simp [D.dep, D.deps]) (by omega) rfl
  generalize planB x = a at *
  generalize houseB x = b at *
  generalize ruleB x = c at *
  refine ⟨some (.d (.lst [.bl a, .bl b, .bl c])), rfl, ?_⟩
  unfold fF
  simp [and_m, or_m, ↓runF_is, ↓runG_is, ↓bk_ok, ↓bk_no, bk_ite, oo_some, oo_none, oo_ite, ff_rt, ff_nx, ff_ite, fg_rt, fg_nx, fg_ite, ↓peek_v, ↓pe_k, ↓pe_gc, ↓pe_tup, ↓pe_lst, ↓pe_bin, ↓pe_neg, ↓pe_not, ↓pe_and, ↓pe_or, ↓pe_cmp, ↓pe_chain, ↓pe_ife, ↓pe_call, ↓pe_calli, ↓pe_b1, ↓pe_b2, ↓pe_isi, ↓pe_ix, ↓pe_sl, ↓pe_lc, ↓pe_app, ↓pe_pop, ↓pe_popA, ↓pe_rev, ↓pe_dget, pk_ok, pk_ite, ↓exs, ↓retV, ↓v_k, ↓v_gc, ↓v_v, ↓v_tup, ↓v_lst, ↓v_bin, ↓v_neg, ↓v_not, ↓v_and, ↓v_or, ↓v_cmp, ↓v_chain, ↓v_ife, ↓v_call, ↓v_calli, ↓v_b1, ↓v_b2, ↓v_isi, ↓v_ix, ↓v_sl, ↓v_lc, ↓v_app, ↓v_pop, ↓v_popA, ↓v_rev, ↓v_dget, ↓s_asg, ↓s_unp, ↓s_par, ↓s_setL, ↓s_ex, ↓s_iff, ↓s_for_, ↓s_whl, ↓s_ret, ↓s_pass, ↓s_brk, ↓s_cont, ↓s_bad, ↓evs, ↓evm, ↓evo, ↓evIt, ↓view, rd, getS, setS, there, ↓put_pl, plS_none, plS_d, plS_own, ↓putT, ↓putTs, ↓bindT, ↓bindTs, asInt, asBl, Val.toD, Val.slot, b_addi, b_subi, c_lti, c_lei, c_gti, c_gei, c_eqi, c_nei, c_eqs, c_nes, c_in, c_nin, eqD,  bi2, isiD, isiT,   lock, unlock, items?, isOwn, isNon, bi1_len_l, bi1_len_t, bi1_len_a, bi1_int_i, bi1_int_b, bi1_list_t, bi1_list_l, bi1_tup_t, bi1_tup_l, b_law201_5, h6, h7, ↓e1, ↓e2, ↓e3, ↓e4, ↓e5, ↓e6, ↓e7]
theorem loop_5 (s0 s1 s2 s3 s4 s5 s8 s9 s10 s11 s12 : Option Slot) : ∀ (l : List D) (s6 s7 : Option Slot), pnS s6 = true → plS s7 = true →
    ∃ x6 x7, pnS x6 = true ∧ plS x7 = true ∧ forGo (fF (Gm W 70) W (.n 6) b_law201_5) l [s0, s1, s2, s3, s4, s5, s6, s7, s8, s9, s10, s11, s12] = .ok (.nx, [s0, s1, s2, s3, s4, s5, x6, x7, s8, s9, s10, s11, s12])
  | [], s6, s7, h6, h7 => ⟨s6, s7, h6, h7, by unfold forGo; rfl⟩
  | x :: l, s6, s7, h6, h7 => by
    obtain ⟨y7, q7, e1⟩ := turn_5 (W := W) x s0 s1 s2 s3 s4 s5 s6 s7 s8 s9 s10 s11 s12 (pn_pl h6) h7
    obtain ⟨x6, x7, k6, k7, e⟩ := loop_5 s0 s1 s2 s3 s4 s5 s8 s9 s10 s11 s12 l (some (.d x)) y7 rfl q7
    refine ⟨x6, x7, k6, k7, ?_⟩
    unfold forGo
    rw [e1]
    exact e
/-! many bent ones: a comprehension that goes on drawing from the spring -/
theorem bent_go (f : D → Env → Res (Option D × Env)) (s0 s1 s3 s5 s6 s7 s8 s9 s10 s11 s12 : Option Slot) (h : ∀ (x : D) (p : Int × Int), ∃ r q, f x [s0, s1, some (.own (spr p)), s3, none, s5, s6, s7, s8, s9, s10, s11, s12] = .ok (some r, [s0, s1, some (.own (spr q)), s3, some (.d x), s5, s6, s7, s8, s9, s10, s11, s12])) :
    ∀ (l : List D) (acc : List D) (p : Int × Int) (s4 : Option Slot), ∃ rs q, rs.length = l.length ∧ lcGo f [4] l [s0, s1, some (.own (spr p)), s3, s4, s5, s6, s7, s8, s9, s10, s11, s12] acc = .ok (acc ++ rs, [s0, s1, some (.own (spr q)), s3, s4, s5, s6, s7, s8, s9, s10, s11, s12])
  | [], acc, p, s4 => ⟨[], p, rfl, by unfold lcGo; simp⟩
  | x :: l, acc, p, s4 => by
    obtain ⟨r, q1, e1⟩ := h x p
    obtain ⟨rs, q, hl, e⟩ := bent_go f s0 s1 s3 s5 s6 s7 s8 s9 s10 s11 s12 h l (acc ++ [r]) q1 s4
    refine ⟨r :: rs, q, by simp [hl], ?_⟩
    unfold lcGo
    have e1' : f x (wiped [s0, s1, some (.own (spr p)), s3, s4, s5, s6, s7, s8, s9, s10, s11, s12] [4]) = _ := e1
    rw [e1']
    dsimp only
    have em : mend [s0, s1, some (.own (spr p)), s3, s4, s5, s6, s7, s8, s9, s10, s11, s12] [s0, s1, some (.own (spr q1)), s3, some (.d x), s5, s6, s7, s8, s9, s10, s11, s12] [4] = [s0, s1, some (.own (spr q1)), s3, s4, s5, s6, s7, s8, s9, s10, s11, s12] := by simp [mend, getS]
    rw [em, e]
    simp
end AW

set_option Elab.async false
set_option linter.all false
set_option maxRecDepth 100000
set_option maxHeartbeats 4000000
namespace AW
open PySem L2
variable {W : Nat}
theorem span_shape {x : D} (h : spanB x = true) : ∃ a b : Int, x = .tup [.int a, .int b] ∧ a ≤ b := by
  unfold spanB at h
  split at h
  · rename_i a b
    split at h
    · simp only [Bool.and_eq_true] at h
      obtain ⟨j, rfl, h1, _⟩ := within_int h.2
      exact ⟨_, j, rfl, h1⟩
    · cases h
  · cases h
theorem house_shape {x : D} (h : houseB x = true) : ∃ r al ah sl sh : Int, x = .tup [.int r, .tup [.int al, .int ah], .tup [.int sl, .int sh]] ∧ (1 ≤ r ∧ r ≤ 3) ∧ sl ≤ sh := by
  unfold houseB at h
  split at h
  · simp only [Bool.and_eq_true] at h
    obtain ⟨r, rfl, h0, h1⟩ := within_int h.1
    obtain ⟨al, ah, rfl, _⟩ := span_shape h.2.1
    obtain ⟨sl, sh, rfl, h2⟩ := span_shape h.2.2
    exact ⟨r, al, ah, sl, sh, rfl, ⟨h0, h1⟩, h2⟩
  · cases h
theorem strIn_str {x : D} {ws : List Str} (h : strIn x ws = true) : ∃ s, x = .str s := by
  unfold strIn at h
  split at h
  · exact ⟨_, rfl⟩
  · cases h
theorem rule_shape {x : D} (h : ruleB x = true) : ∃ (k : Int) (a l : Str), x = .tup [.int k, .str a, .str l] := by
  unfold ruleB at h
  split at h
  · simp only [Bool.and_eq_true] at h
    obtain ⟨k, rfl, _⟩ := within_int h.1
    obtain ⟨a, rfl⟩ := strIn_str h.2.1
    obtain ⟨l, rfl⟩ := strIn_str h.2.2
    exact ⟨k, a, l, rfl⟩
  · cases h
theorem plan_shape {a b : D} (h1 : houseB a = true) (h2 : ruleB b = true) : ∃ P : Pl, .tup [a, b] = P.d ∧ (1 ≤ P.room ∧ P.room ≤ 3) ∧ P.sl ≤ P.sh ∧ planB P.d = true := by
  obtain ⟨r, al, ah, sl, sh, rfl, h3, h4⟩ := house_shape h1
  obtain ⟨k, w, l, rfl⟩ := rule_shape h2
  exact ⟨⟨r, al, ah, sl, sh, k, w, l⟩, rfl, h3, h4, by show (houseB _ && ruleB _) = true; rw [h1, h2]; rfl⟩
theorem pl_small (P : Pl) : smallD P.d = true ∧ P.d.dep ≤ 5 := by
  constructor
  · simp [Pl.d, smallD, smallDs]
  · simp [Pl.d, D.dep, D.deps]
theorem men_small : ∀ ms : List Man, smallDs (ms.map Man.d) = true
  | [] => rfl
  | m :: r => by simp [smallDs, smallD, Man.d, men_small r]
theorem stand_small (ms : List Man) (served : Int) (h : ms.length ≤ 100) : smallD (standD ms served) = true ∧ (standD ms served).dep ≤ 5 := by
  have := deps_men ms
  constructor
  · simp [standD, smallD, smallDs, men_small, h]
  · simp only [standD, D.dep, D.deps]
    omega
theorem bent2 (P : Pl) (s0 s1 s5 s6 s7 s8 s9 s10 s11 s12 : Option Slot) (x : D) (p : Int × Int) : ∃ r q, lcF (Gm W 70) (.n 4) .non e_law201_2 x [s0, s1, some (.own (spr p)), some (.d P.d), none, s5, s6, s7, s8, s9, s10, s11, s12] = .ok (some r, [s0, s1, some (.own (spr q)), some (.d P.d), some (.d x), s5, s6, s7, s8, s9, s10, s11, s12]) := by
  obtain ⟨r, q, e⟩ := f_bent (W := W) 63 5 P.d p (pl_small P).2 (by omega) (pl_small P).1
  have e' : (Gm W 70).g 34 (spr p) [P.d] = _ := e
  refine ⟨r, q, ?_⟩
  unfold lcF
  simp [and_m, or_m, ↓runF_is, ↓runG_is, ↓bk_ok, ↓bk_no, bk_ite, oo_some, oo_none, oo_ite, ff_rt, ff_nx, ff_ite, fg_rt, fg_nx, fg_ite, ↓peek_v, ↓pe_k, ↓pe_gc, ↓pe_tup, ↓pe_lst, ↓pe_bin, ↓pe_neg, ↓pe_not, ↓pe_and, ↓pe_or, ↓pe_cmp, ↓pe_chain, ↓pe_ife, ↓pe_call, ↓pe_calli, ↓pe_b1, ↓pe_b2, ↓pe_isi, ↓pe_ix, ↓pe_sl, ↓pe_lc, ↓pe_app, ↓pe_pop, ↓pe_popA, ↓pe_rev, ↓pe_dget, pk_ok, pk_ite, ↓exs, ↓retV, ↓v_k, ↓v_gc, ↓v_v, ↓v_tup, ↓v_lst, ↓v_bin, ↓v_neg, ↓v_not, ↓v_and, ↓v_or, ↓v_cmp, ↓v_chain, ↓v_ife, ↓v_call, ↓v_calli, ↓v_b1, ↓v_b2, ↓v_isi, ↓v_ix, ↓v_sl, ↓v_lc, ↓v_app, ↓v_pop, ↓v_popA, ↓v_rev, ↓v_dget, ↓s_asg, ↓s_unp, ↓s_par, ↓s_setL, ↓s_ex, ↓s_iff, ↓s_for_, ↓s_whl, ↓s_ret, ↓s_pass, ↓s_brk, ↓s_cont, ↓s_bad, ↓evs, ↓evm, ↓evo, ↓evIt, ↓view, rd, getS, setS, there, ↓put_pl, plS_none, plS_d, plS_own, ↓putT, ↓putTs, ↓bindT, ↓bindTs, asInt, asBl, Val.toD, Val.slot, b_addi, b_subi, c_lti, c_lei, c_gti, c_gei, c_eqi, c_nei, c_eqs, c_nes, c_in, c_nin, eqD,  bi2, isiD, isiT,   lock, unlock, items?, isOwn, isNon, bi1_len_l, bi1_len_t, bi1_len_a, bi1_int_i, bi1_int_b, bi1_list_t, bi1_list_l, bi1_tup_t, bi1_tup_l, e_law201_2, ↓e']
theorem bent3 (P : Pl) (a b : D) (hd : P.d = .tup [a, b]) (s0 s1 s5 s6 s7 s8 s9 s10 s11 s12 : Option Slot) (x : D) (p : Int × Int) : ∃ r q, lcF (Gm W 70) (.n 4) .non e_law201_3 x [s0, s1, some (.own (spr p)), some (.d P.d), none, s5, s6, s7, s8, s9, s10, s11, s12] = .ok (some r, [s0, s1, some (.own (spr q)), some (.d P.d), some (.d x), s5, s6, s7, s8, s9, s10, s11, s12]) := by
  have hs := pl_small P
  rw [hd] at hs ⊢
  simp only [smallD, smallDs, D.dep, D.deps, Bool.and_eq_true] at hs
  obtain ⟨r, q, e⟩ := f_bent (W := W) 63 5 a p (by omega) (by omega) hs.1.2.1
  have e' : (Gm W 70).g 34 (spr p) [a] = _ := e
  have e5 : ∀ a b, ixD (.tup [a, b]) (.int 0) = some a := fun a b => rfl
  refine ⟨r, q, ?_⟩
  unfold lcF
  simp [and_m, or_m, ↓runF_is, ↓runG_is, ↓bk_ok, ↓bk_no, bk_ite, oo_some, oo_none, oo_ite, ff_rt, ff_nx, ff_ite, fg_rt, fg_nx, fg_ite, ↓peek_v, ↓pe_k, ↓pe_gc, ↓pe_tup, ↓pe_lst, ↓pe_bin, ↓pe_neg, ↓pe_not, ↓pe_and, ↓pe_or, ↓pe_cmp, ↓pe_chain, ↓pe_ife, ↓pe_call, ↓pe_calli, ↓pe_b1, ↓pe_b2, ↓pe_isi, ↓pe_ix, ↓pe_sl, ↓pe_lc, ↓pe_app, ↓pe_pop, ↓pe_popA, ↓pe_rev, ↓pe_dget, pk_ok, pk_ite, ↓exs, ↓retV, ↓v_k, ↓v_gc, ↓v_v, ↓v_tup, ↓v_lst, ↓v_bin, ↓v_neg, ↓v_not, ↓v_and, ↓v_or, ↓v_cmp, ↓v_chain, ↓v_ife, ↓v_call, ↓v_calli, ↓v_b1, ↓v_b2, ↓v_isi, ↓v_ix, ↓v_sl, ↓v_lc, ↓v_app, ↓v_pop, ↓v_popA, ↓v_rev, ↓v_dget, ↓s_asg, ↓s_unp, ↓s_par, ↓s_setL, ↓s_ex, ↓s_iff, ↓s_for_, ↓s_whl, ↓s_ret, ↓s_pass, ↓s_brk, ↓s_cont, ↓s_bad, ↓evs, ↓evm, ↓evo, ↓evIt, ↓view, rd, getS, setS, there, ↓put_pl, plS_none, plS_d, plS_own, ↓putT, ↓putTs, ↓bindT, ↓bindTs, asInt, asBl, Val.toD, Val.slot, b_addi, b_subi, c_lti, c_lei, c_gti, c_gei, c_eqi, c_nei, c_eqs, c_nes, c_in, c_nin, eqD,  bi2, isiD, isiT,   lock, unlock, items?, isOwn, isNon, bi1_len_l, bi1_len_t, bi1_len_a, bi1_int_i, bi1_int_b, bi1_list_t, bi1_list_l, bi1_tup_t, bi1_tup_l, e_law201_3, ↓e', e5]
theorem bent4 (P : Pl) (a b : D) (hd : P.d = .tup [a, b]) (s0 s1 s5 s6 s7 s8 s9 s10 s11 s12 : Option Slot) (x : D) (p : Int × Int) : ∃ r q, lcF (Gm W 70) (.n 4) .non e_law201_4 x [s0, s1, some (.own (spr p)), some (.d P.d), none, s5, s6, s7, s8, s9, s10, s11, s12] = .ok (some r, [s0, s1, some (.own (spr q)), some (.d P.d), some (.d x), s5, s6, s7, s8, s9, s10, s11, s12]) := by
  have hs := pl_small P
  rw [hd] at hs ⊢
  simp only [smallD, smallDs, D.dep, D.deps, Bool.and_eq_true] at hs
  obtain ⟨r, q, e⟩ := f_bent (W := W) 63 5 b p (by omega) (by omega) hs.1.2.2.1
  have e' : (Gm W 70).g 34 (spr p) [b] = _ := e
  have e5 : ∀ a b, ixD (.tup [a, b]) (.int 1) = some b := fun a b => rfl
  refine ⟨r, q, ?_⟩
  unfold lcF
  simp [and_m, or_m, ↓runF_is, ↓runG_is, ↓bk_ok, ↓bk_no, bk_ite, oo_some, oo_none, oo_ite, ff_rt, ff_nx, ff_ite, fg_rt, fg_nx, fg_ite, ↓peek_v, ↓pe_k, ↓pe_gc, ↓pe_tup, ↓pe_lst, ↓pe_bin, ↓pe_neg, ↓pe_not, ↓pe_and, ↓pe_or, ↓pe_cmp, ↓pe_chain, ↓pe_ife, ↓pe_call, ↓pe_calli, ↓pe_b1, ↓pe_b2, ↓pe_isi, ↓pe_ix, ↓pe_sl, ↓pe_lc, ↓pe_app, ↓pe_pop, ↓pe_popA, ↓pe_rev, ↓pe_dget, pk_ok, pk_ite, ↓exs, ↓retV, ↓v_k, ↓v_gc, ↓v_v, ↓v_tup, ↓v_lst, ↓v_bin, ↓v_neg, ↓v_not, ↓v_and, ↓v_or, ↓v_cmp, ↓v_chain, ↓v_ife, ↓v_call, ↓v_calli, ↓v_b1, ↓v_b2, ↓v_isi, ↓v_ix, ↓v_sl, ↓v_lc, ↓v_app, ↓v_pop, ↓v_popA, ↓v_rev, ↓v_dget, ↓s_asg, ↓s_unp, ↓s_par, ↓s_setL, ↓s_ex, ↓s_iff, ↓s_for_, ↓s_whl, ↓s_ret, ↓s_pass, ↓s_brk, ↓s_cont, ↓s_bad, ↓evs, ↓evm, ↓evo, ↓evIt, ↓view, rd, getS, setS, there, ↓put_pl, plS_none, plS_d, plS_own, ↓putT, ↓putTs, ↓bindT, ↓bindTs, asInt, asBl, Val.toD, Val.slot, b_addi, b_subi, c_lti, c_lei, c_gti, c_gei, c_eqi, c_nei, c_eqs, c_nes, c_in, c_nin, eqD,  bi2, isiD, isiT,   lock, unlock, items?, isOwn, isNon, bi1_len_l, bi1_len_t, bi1_len_a, bi1_int_i, bi1_int_b, bi1_list_t, bi1_list_l, bi1_tup_t, bi1_tup_l, e_law201_4, ↓e', e5]
theorem bent7 (S : D) (h1 : smallD S = true) (h2 : S.dep ≤ 5) (s0 s1 s3 s5 s6 s7 s9 s10 s11 s12 : Option Slot) (x : D) (p : Int × Int) : ∃ r q, lcF (Gm W 70) (.n 4) .non e_law201_7 x [s0, s1, some (.own (spr p)), s3, none, s5, s6, s7, some (.d S), s9, s10, s11, s12] = .ok (some r, [s0, s1, some (.own (spr q)), s3, some (.d x), s5, s6, s7, some (.d S), s9, s10, s11, s12]) := by
  obtain ⟨r, q, e⟩ := f_bent (W := W) 63 5 S p h2 (by omega) h1
  have e' : (Gm W 70).g 34 (spr p) [S] = _ := e
  refine ⟨r, q, ?_⟩
  unfold lcF
  simp [and_m, or_m, ↓runF_is, ↓runG_is, ↓bk_ok, ↓bk_no, bk_ite, oo_some, oo_none, oo_ite, ff_rt, ff_nx, ff_ite, fg_rt, fg_nx, fg_ite, ↓peek_v, ↓pe_k, ↓pe_gc, ↓pe_tup, ↓pe_lst, ↓pe_bin, ↓pe_neg, ↓pe_not, ↓pe_and, ↓pe_or, ↓pe_cmp, ↓pe_chain, ↓pe_ife, ↓pe_call, ↓pe_calli, ↓pe_b1, ↓pe_b2, ↓pe_isi, ↓pe_ix, ↓pe_sl, ↓pe_lc, ↓pe_app, ↓pe_pop, ↓pe_popA, ↓pe_rev, ↓pe_dget, pk_ok, pk_ite, ↓exs, ↓retV, ↓v_k, ↓v_gc, ↓v_v, ↓v_tup, ↓v_lst, ↓v_bin, ↓v_neg, ↓v_not, ↓v_and, ↓v_or, ↓v_cmp, ↓v_chain, ↓v_ife, ↓v_call, ↓v_calli, ↓v_b1, ↓v_b2, ↓v_isi, ↓v_ix, ↓v_sl, ↓v_lc, ↓v_app, ↓v_pop, ↓v_popA, ↓v_rev, ↓v_dget, ↓s_asg, ↓s_unp, ↓s_par, ↓s_setL, ↓s_ex, ↓s_iff, ↓s_for_, ↓s_whl, ↓s_ret, ↓s_pass, ↓s_brk, ↓s_cont, ↓s_bad, ↓evs, ↓evm, ↓evo, ↓evIt, ↓view, rd, getS, setS, there, ↓put_pl, plS_none, plS_d, plS_own, ↓putT, ↓putTs, ↓bindT, ↓bindTs, asInt, asBl, Val.toD, Val.slot, b_addi, b_subi, c_lti, c_lei, c_gti, c_gei, c_eqi, c_nei, c_eqs, c_nes, c_in, c_nin, eqD,  bi2, isiD, isiT,   lock, unlock, items?, isOwn, isNon, bi1_len_l, bi1_len_t, bi1_len_a, bi1_int_i, bi1_int_b, bi1_list_t, bi1_list_l, bi1_tup_t, bi1_tup_l, e_law201_7, ↓e']
theorem lc_8 (P : Pl) (hp : planB P.d = true) (hR : P.room ≤ 3) (l : List D) (s0 s1 s2 s4 s5 s6 s7 s8 s9 s10 s11 s12 : Option Slot) :
    lcGo (lcF (Gm W 70) (.n 6) t_law201_8 e_law201_8) [6] l [s0, s1, s2, some (.d P.d), s4, s5, s6, s7, s8, s9, s10, s11, s12] [] = .ok ([], [s0, s1, s2, some (.d P.d), s4, s5, s6, s7, s8, s9, s10, s11, s12]) := by
  refine (lcGo_pure (g := fun _ => none) fun x hx => ⟨[s0, s1, s2, some (.d P.d), s4, s5, some (.d x), s7, s8, s9, s10, s11, s12], ?_, by simp [mend, getS]⟩).trans ?_
  · have e1 : (Gm W 70).f 13 [P.d, x] = _ := f_isstand (W := W) 64 P x hp (by omega)
    have e2 : (Gm W 70).f 33 [P.d, x] = _ := f_good (W := W) 68 P x (by omega)
    rw [good_fits] at e2
    have e3 : (Gm W 70).f 17 [.bl (fitsB P x), .bl (fitsB P x)] = _ := f_twins (W := W) 68 0 _ (by simp [D.dep]) (by omega) rfl
    unfold lcF t_law201_8
    simp [and_m, or_m, ↓runF_is, ↓runG_is, ↓bk_ok, ↓bk_no, bk_ite, oo_some, oo_none, oo_ite, ff_rt, ff_nx, ff_ite, fg_rt, fg_nx, fg_ite, ↓peek_v, ↓pe_k, ↓pe_gc, ↓pe_tup, ↓pe_lst, ↓pe_bin, ↓pe_neg, ↓pe_not, ↓pe_and, ↓pe_or, ↓pe_cmp, ↓pe_chain, ↓pe_ife, ↓pe_call, ↓pe_calli, ↓pe_b1, ↓pe_b2, ↓pe_isi, ↓pe_ix, ↓pe_sl, ↓pe_lc, ↓pe_app, ↓pe_pop, ↓pe_popA, ↓pe_rev, ↓pe_dget, pk_ok, pk_ite, ↓exs, ↓retV, ↓v_k, ↓v_gc, ↓v_v, ↓v_tup, ↓v_lst, ↓v_bin, ↓v_neg, ↓v_not, ↓v_and, ↓v_or, ↓v_cmp, ↓v_chain, ↓v_ife, ↓v_call, ↓v_calli, ↓v_b1, ↓v_b2, ↓v_isi, ↓v_ix, ↓v_sl, ↓v_lc, ↓v_app, ↓v_pop, ↓v_popA, ↓v_rev, ↓v_dget, ↓s_asg, ↓s_unp, ↓s_par, ↓s_setL, ↓s_ex, ↓s_iff, ↓s_for_, ↓s_whl, ↓s_ret, ↓s_pass, ↓s_brk, ↓s_cont, ↓s_bad, ↓evs, ↓evm, ↓evo, ↓evIt, ↓view, rd, getS, setS, there, ↓put_pl, plS_none, plS_d, plS_own, ↓putT, ↓putTs, ↓bindT, ↓bindTs, asInt, asBl, Val.toD, Val.slot, b_addi, b_subi, c_lti, c_lei, c_gti, c_gei, c_eqi, c_nei, c_eqs, c_nes, c_in, c_nin, eqD,  bi2, isiD, isiT,   lock, unlock, items?, isOwn, isNon, bi1_len_l, bi1_len_t, bi1_len_a, bi1_int_i, bi1_int_b, bi1_list_t, bi1_list_l, bi1_tup_t, bi1_tup_l, wiped, ↓e1, ↓e2, ↓e3]
  · rw [fm_none, List.nil_append]
end AW

set_option Elab.async false
set_option linter.all false
set_option maxRecDepth 100000
set_option maxHeartbeats 4000000
namespace AW
open PySem L2
variable {W : Nat}
theorem turn_1 (ns : List Int) (a : Nat) (s1 s2 s3 s4 s5 s6 s7 s8 s9 s10 s11 s12 : Option Slot) (h1 : plS s1 = true) (h2 : plS s2 = true) (h3 : plS s3 = true) (h4 : pnS s4 = true) (h5 : plS s5 = true) (h6 : pnS s6 = true) (h7 : plS s7 = true) (h8 : plS s8 = true) (h9 : plS s9 = true) :
    ∃ x2 x3 x4 x5 x6 x7 x8 x9, plS x2 = true ∧ plS x3 = true ∧ pnS x4 = true ∧ plS x5 = true ∧ pnS x6 = true ∧ plS x7 = true ∧ plS x8 = true ∧ plS x9 = true ∧
      fF (Gm W 70) W (.n 1) b_law201_1 (.int a) [some (.d (.arr (ns.map D.int))), s1, s2, s3, s4, s5, s6, s7, s8, s9, s10, s11, s12] =
        .ok (.nx, [some (.d (.arr (ns.map D.int))), some (.d (.int a)), x2, x3, x4, x5, x6, x7, x8, x9, s10, s11, s12]) := by
  have lm : lim = 16000000 := rfl
  have e1 : (Gm W 70).f 14 [.arr (ns.map D.int), .int a] = _ := f_spring (W := W) 69 ns a
  generalize hp0 : sprT ns a = p0 at *
  have e2 : (Gm W 70).g 20 (spr p0) [.int 3] = _ := f_lhouse (W := W) 67 3 p0 (by omega) (by omega)
  have e3 : (Gm W 70).g 19 (spr (houseS 3 p0)) [] = _ := f_lrule (W := W) 68 (houseS 3 p0)
  have ho := house_ok (r := 3) p0 (by omega) (by omega)
  have ro := rule_ok (houseS 3 p0)
  obtain ⟨P, hP, ⟨hR0, hR⟩, hS, hpl⟩ := plan_shape ho ro
  generalize houseV 3 p0 = hv at *
  generalize ruleV (houseS 3 p0) = rv at *
  generalize ruleS (houseS 3 p0) = p1 at *
  generalize houseS 3 p0 = ph at *
  have e4 : (Gm W 70).f 32 [P.d] = _ := f_gplan (W := W) 66 P.d
  rw [hpl] at e4
  have eA : (some (Slot.d (.arr (ns.map D.int)))) = some (Slot.d (.arr (ns.map D.int))) := rfl
  obtain ⟨r2, p2, l2, g2⟩ := bent_go (lcF (Gm W 70) (.n 4) .non e_law201_2) (some (.d (.arr (ns.map D.int)))) (some (.d (.int a))) (some (.d P.d)) s5 s6 s7 s8 s9 s10 s11 s12 (fun x p => bent2 P _ _ _ _ _ _ _ _ _ _ x p) ((List.range 25).map fun (i : Nat) => D.int i) [] p1 s4
  obtain ⟨r3, p3, l3, g3⟩ := bent_go (lcF (Gm W 70) (.n 4) .non e_law201_3) (some (.d (.arr (ns.map D.int)))) (some (.d (.int a))) (some (.d P.d)) (some (.own ([P.d, .lst [hv, rv], hv, rv] ++ r2))) s6 s7 s8 s9 s10 s11 s12 (fun x p => bent3 P hv rv hP.symm _ _ _ _ _ _ _ _ _ _ x p) ((List.range 12).map fun (i : Nat) => D.int i) [] p2 s4
  obtain ⟨r4, p4, l4, g4⟩ := bent_go (lcF (Gm W 70) (.n 4) .non e_law201_4) (some (.d (.arr (ns.map D.int)))) (some (.d (.int a))) (some (.d P.d)) (some (.own ([P.d, .lst [hv, rv], hv, rv] ++ r2 ++ r3))) s6 s7 s8 s9 s10 s11 s12 (fun x p => bent4 P hv rv hP.symm _ _ _ _ _ _ _ _ _ _ x p) ((List.range 12).map fun (i : Nat) => D.int i) [] p3 s4
  rw [List.nil_append] at g2 g3 g4
  rw [List.length_map, List.length_range] at l2 l3 l4
  have a2 : binD .Add (.lst [P.d, .lst [hv, rv], hv, rv]) (.lst r2) = _ := b_addl (by simp; omega)
  have a3 : binD .Add (.lst ([P.d, .lst [hv, rv], hv, rv] ++ r2)) (.lst r3) = _ := b_addl (by simp; omega)
  have a4 : binD .Add (.lst ([P.d, .lst [hv, rv], hv, rv] ++ r2 ++ r3)) (.lst r4) = _ := b_addl (by simp; omega)
  obtain ⟨y6, y7, q6, q7, e5⟩ := loop_5 (W := W) (some (.d (.arr (ns.map D.int)))) (some (.d (.int a))) (some (.own (spr p4))) (some (.d P.d)) s4 (some (.lk ([P.d, .lst [hv, rv], hv, rv] ++ r2 ++ r3 ++ r4))) s8 s9 s10 s11 s12 ([P.d, .lst [hv, rv], hv, rv] ++ r2 ++ r3 ++ r4) s6 s7 h6 h7
  have e6 : (Gm W 70).f 26 [] = _ := f_begin (W := W) 69
  have e7 : (Gm W 70).f 11 [P.d] = _ := f_first (W := W) 64 P.d hpl
  have e8 : (Gm W 70).f 17 [.tup [.tup [], .int (-1)], .tup [.tup [], .int (-1)]] = _ := f_twins (W := W) 63 5 _ (by simp [D.dep, D.deps]) (by omega) rfl
  have e9 : (Gm W 70).g 15 (spr p4) [.int 12] = _ := f_pick (W := W) 69 p4 12 (by omega) (by omega)
  have lo := pick_lo (p := p4) (m := 12) (by omega)
  generalize pickR p4 12 = t at *
  generalize pickS p4 12 = p5 at *
  obtain ⟨ms, sv, p6, y4, y9, q4, q9, hm, e10⟩ := loop_6 (W := W) P (some (.d (.arr (ns.map D.int)))) (some (.d (.int a))) (some (.own ([P.d, .lst [hv, rv], hv, rv] ++ r2 ++ r3 ++ r4))) y6 y7 s10 s11 s12 hR hS ((List.range t.toNat).map fun (i : Nat) => D.int i) [] (-1) p5 s4 s9 h4 h9 (by simp; omega)
  have hst := stand_small ms sv (by omega)
  obtain ⟨r7, p7, l7, g7⟩ := bent_go (lcF (Gm W 70) (.n 4) .non e_law201_7) (some (.d (.arr (ns.map D.int)))) (some (.d (.int a))) (some (.d P.d)) (some (.own ([P.d, .lst [hv, rv], hv, rv] ++ r2 ++ r3 ++ r4))) y6 y7 (some (.d (standD ms sv))) y9 s10 s11 s12 (fun x p => bent7 (standD ms sv) hst.1 hst.2 _ _ _ _ _ _ _ _ _ _ x p) ((List.range 40).map fun (i : Nat) => D.int i) [] p6 y4
  rw [List.nil_append] at g7
  rw [List.length_map, List.length_range] at l7
  have a7 : binD .Add (.lst [standD ms sv, .lst [.tup (ms.map Man.d), .int sv]]) (.lst r7) = _ := b_addl (by simp; omega)
  have b1 : bi1 .list P.d = some (.own [hv, rv]) := by rw [← hP]; rfl
  have b2 : ixD P.d (.int 0) = some hv := by rw [← hP]; rfl
  have b3 : ixD P.d (.int 1) = some rv := by rw [← hP]; rfl
  have b4 : bi1 .list (standD ms sv) = some (.own [.tup (ms.map Man.d), .int sv]) := rfl
  have c1 : cmpD .NotEq (.lst []) (.lst []) = some false := ne_nil (xs := []) (by simp [D.deps])
  have e11 := fun l s0 s1 s2 s4 s5 s6 s7 s8 s9 s10 s11 s12 => lc_8 (W := W) P hpl hR l s0 s1 s2 s4 s5 s6 s7 s8 s9 s10 s11 s12
  have hb : (D.tup [.tup [], .int (-1)]) = standD [] (-1) := rfl
  rw [← hb] at e10
  generalize ([P.d, .lst [hv, rv], hv, rv] ++ r2) = A2 at *
  generalize hA3 : A2 ++ r3 = A3 at *
  generalize hA4 : A3 ++ r4 = A4 at *
  generalize ([standD ms sv, .lst [.tup (ms.map Man.d), .int sv]] ++ r7) = A7 at *
  generalize hSt : standD ms sv = S at *
  refine ⟨some (.own (spr p7)), some (.d P.d), y4, some (.own A7), y6, y7, some (.d S), y9, rfl, rfl, q4, rfl, q6, q7, rfl, q9, ?_⟩
  clear hA3 hA4
  unfold fF
  simp [and_m, or_m, ↓runF_is, ↓runG_is, ↓bk_ok, ↓bk_no, bk_ite, oo_some, oo_none, oo_ite, ff_rt, ff_nx, ff_ite, fg_rt, fg_nx, fg_ite, ↓peek_v, ↓pe_k, ↓pe_gc, ↓pe_tup, ↓pe_lst, ↓pe_bin, ↓pe_neg, ↓pe_not, ↓pe_and, ↓pe_or, ↓pe_cmp, ↓pe_chain, ↓pe_ife, ↓pe_call, ↓pe_calli, ↓pe_b1, ↓pe_b2, ↓pe_isi, ↓pe_ix, ↓pe_sl, ↓pe_lc, ↓pe_app, ↓pe_pop, ↓pe_popA, ↓pe_rev, ↓pe_dget, pk_ok, pk_ite, ↓exs, ↓retV, ↓v_k, ↓v_gc, ↓v_v, ↓v_tup, ↓v_lst, ↓v_bin, ↓v_neg, ↓v_not, ↓v_and, ↓v_or, ↓v_cmp, ↓v_chain, ↓v_ife, ↓v_call, ↓v_calli, ↓v_b1, ↓v_b2, ↓v_isi, ↓v_ix, ↓v_sl, ↓v_lc, ↓v_app, ↓v_pop, ↓v_popA, ↓v_rev, ↓v_dget, ↓s_asg, ↓s_unp, ↓s_par, ↓s_setL, ↓s_ex, ↓s_iff, ↓s_for_, ↓s_whl, ↓s_ret, ↓s_pass, ↓s_brk, ↓s_cont, ↓s_bad, ↓evs, ↓evm, ↓evo, ↓evIt, ↓view, rd, getS, setS, there, ↓put_pl, plS_none, plS_d, plS_own, ↓putT, ↓putTs, ↓bindT, ↓bindTs, asInt, asBl, Val.toD, Val.slot, b_addi, b_subi, c_lti, c_lei, c_gti, c_gei, c_eqi, c_nei, c_eqs, c_nes, c_in, c_nin, eqD,  bi2, isiD, isiT,   lock, unlock, items?, isOwn, isNon, bi1_len_l, bi1_len_t, bi1_len_a, bi1_int_i, bi1_int_b, bi1_list_t, bi1_list_l, bi1_tup_t, bi1_tup_l, b_law201_1, h1, h2, h3, pn_pl h4, plain_is, h4, h5, h6, h7, h8, h9, q4, q6, q7, q9, ↓e1, ↓e2, ↓e3, ↓hP, ↓e4, ↓g2, ↓g3, ↓g4, ↓a2, ↓a3, ↓a4, ↓e5, ↓e6, ↓e7, ↓e8, ↓e9, ↓e10, ↓g7, ↓a7, ↓b1, ↓b2, ↓b3, ↓b4, ↓c1, pn_pl q6, ↓e11]
  omega
end AW

set_option Elab.async false
set_option linter.all false
set_option maxRecDepth 100000
set_option maxHeartbeats 4000000
namespace AW
open PySem L2
variable {W : Nat}
theorem loop_1 (ns : List Int) (s10 s11 s12 : Option Slot) : ∀ (l : List Nat) (s1 s2 s3 s4 s5 s6 s7 s8 s9 : Option Slot), plS s1 = true → plS s2 = true → plS s3 = true → pnS s4 = true → plS s5 = true → pnS s6 = true → plS s7 = true → plS s8 = true → plS s9 = true →
    ∃ x1 x2 x3 x4 x5 x6 x7 x8 x9, forGo (fF (Gm W 70) W (.n 1) b_law201_1) (l.map fun (i : Nat) => D.int i) [some (.d (.arr (ns.map D.int))), s1, s2, s3, s4, s5, s6, s7, s8, s9, s10, s11, s12] =
        .ok (.nx, [some (.d (.arr (ns.map D.int))), x1, x2, x3, x4, x5, x6, x7, x8, x9, s10, s11, s12])
  | [], s1, s2, s3, s4, s5, s6, s7, s8, s9, _, _, _, _, _, _, _, _, _ => ⟨s1, s2, s3, s4, s5, s6, s7, s8, s9, by unfold forGo; rfl⟩
  | a :: l, s1, s2, s3, s4, s5, s6, s7, s8, s9, h1, h2, h3, h4, h5, h6, h7, h8, h9 => by
    obtain ⟨y2, y3, y4, y5, y6, y7, y8, y9, q2, q3, q4, q5, q6, q7, q8, q9, e1⟩ := turn_1 (W := W) ns a s1 s2 s3 s4 s5 s6 s7 s8 s9 s10 s11 s12 h1 h2 h3 h4 h5 h6 h7 h8 h9
    obtain ⟨x1, x2, x3, x4, x5, x6, x7, x8, x9, e⟩ := loop_1 ns s10 s11 s12 l (some (.d (.int a))) y2 y3 y4 y5 y6 y7 y8 y9 rfl q2 q3 q4 q5 q6 q7 q8 q9
    refine ⟨x1, x2, x3, x4, x5, x6, x7, x8, x9, ?_⟩
    rw [List.map_cons]
    unfold forGo
    rw [e1]
    exact e
def dueL : List D := [.tup [.int 0, .str "last", .str "first"], .tup [.int 0, .str "last", .str "stay"], .tup [.int 0, .str "next", .str "first"], .tup [.int 0, .str "next", .str "stay"], .tup [.int 0, .str "same", .str "first"], .tup [.int 0, .str "same", .str "stay"],
  .tup [.int 1, .str "last", .str "first"], .tup [.int 1, .str "last", .str "stay"], .tup [.int 1, .str "next", .str "first"], .tup [.int 1, .str "next", .str "stay"], .tup [.int 1, .str "same", .str "first"], .tup [.int 1, .str "same", .str "stay"],
  .tup [.int 2, .str "last", .str "first"], .tup [.int 2, .str "last", .str "stay"], .tup [.int 2, .str "next", .str "first"], .tup [.int 2, .str "next", .str "stay"], .tup [.int 2, .str "same", .str "first"], .tup [.int 2, .str "same", .str "stay"]]
end AW

set_option Elab.async false
set_option linter.all false
set_option maxRecDepth 100000
set_option maxHeartbeats 4000000
namespace AW
open PySem L2
variable {W : Nat}
def dueW (k : Int) (w : Str) : List D := [.tup [.int k, .str w, .str "first"], .tup [.int k, .str w, .str "stay"]]
def dueK (k : Int) : List D := dueW k "last" ++ (dueW k "next" ++ dueW k "same")
theorem due_turn10 (Γ : Gam) (L : List D) (k : Int) (w : Str) (s0 x1 x2 x3 x4 x5 x6 x7 x8 x9 s12 : Option Slot) (h : plS s12 = true) (hl : L.length ≤ 1000) :
    fF Γ W (.n 12) b_law201_10 (.str w) [s0, x1, x2, x3, x4, x5, x6, x7, x8, x9, some (.own L), some (.d (.int k)), s12] =
      .ok (.nx, [s0, x1, x2, x3, x4, x5, x6, x7, x8, x9, some (.own (L ++ dueW k w)), some (.d (.int k)), some (.d (.str w))]) := by
  have lm : lim = 16000000 := rfl
  have e1 : binD .Add (.lst L) (.lst (dueW k w)) = _ := b_addl (by unfold dueW; simp; omega)
  simp only [dueW] at e1
  unfold fF
  simp [and_m, or_m, ↓runF_is, ↓runG_is, ↓bk_ok, ↓bk_no, bk_ite, oo_some, oo_none, oo_ite, ff_rt, ff_nx, ff_ite, fg_rt, fg_nx, fg_ite, ↓peek_v, ↓pe_k, ↓pe_gc, ↓pe_tup, ↓pe_lst, ↓pe_bin, ↓pe_neg, ↓pe_not, ↓pe_and, ↓pe_or, ↓pe_cmp, ↓pe_chain, ↓pe_ife, ↓pe_call, ↓pe_calli, ↓pe_b1, ↓pe_b2, ↓pe_isi, ↓pe_ix, ↓pe_sl, ↓pe_lc, ↓pe_app, ↓pe_pop, ↓pe_popA, ↓pe_rev, ↓pe_dget, pk_ok, pk_ite, ↓exs, ↓retV, ↓v_k, ↓v_gc, ↓v_v, ↓v_tup, ↓v_lst, ↓v_bin, ↓v_neg, ↓v_not, ↓v_and, ↓v_or, ↓v_cmp, ↓v_chain, ↓v_ife, ↓v_call, ↓v_calli, ↓v_b1, ↓v_b2, ↓v_isi, ↓v_ix, ↓v_sl, ↓v_lc, ↓v_app, ↓v_pop, ↓v_popA, ↓v_rev, ↓v_dget, ↓s_asg, ↓s_unp, ↓s_par, ↓s_setL, ↓s_ex, ↓s_iff, ↓s_for_, ↓s_whl, ↓s_ret, ↓s_pass, ↓s_brk, ↓s_cont, ↓s_bad, ↓evs, ↓evm, ↓evo, ↓evIt, ↓view, rd, getS, setS, there, ↓put_pl, plS_none, plS_d, plS_own, ↓putT, ↓putTs, ↓bindT, ↓bindTs, asInt, asBl, Val.toD, Val.slot, b_addi, b_subi, c_lti, c_lei, c_gti, c_gei, c_eqi, c_nei, c_eqs, c_nes, c_in, c_nin, eqD,  bi2, isiD, isiT, ixD, atI, ixN,  lock, unlock, items?, isOwn, isNon, bi1_len_l, bi1_len_t, bi1_len_a, bi1_int_i, bi1_int_b, bi1_list_t, bi1_list_l, bi1_tup_t, bi1_tup_l, b_law201_10, h, ↓e1, dueW]
theorem due_turn9 (Γ : Gam) (L : List D) (k : Int) (s0 x1 x2 x3 x4 x5 x6 x7 x8 x9 s11 s12 : Option Slot) (h11 : plS s11 = true) (h : plS s12 = true) (hl : L.length ≤ 900) :
    fF Γ W (.n 11) b_law201_9 (.int k) [s0, x1, x2, x3, x4, x5, x6, x7, x8, x9, some (.own L), s11, s12] =
      .ok (.nx, [s0, x1, x2, x3, x4, x5, x6, x7, x8, x9, some (.own (L ++ dueK k)), some (.d (.int k)), some (.d (.str "same"))]) := by
  have l1 : ∀ k w, (dueW k w).length = 2 := fun _ _ => rfl
  have e1 := due_turn10 (W := W) Γ L k "last" s0 x1 x2 x3 x4 x5 x6 x7 x8 x9 s12 h (by omega)
  have e2 := due_turn10 (W := W) Γ (L ++ dueW k "last") k "next" s0 x1 x2 x3 x4 x5 x6 x7 x8 x9 (some (.d (.str "last"))) rfl (by rw [List.length_append, l1]; omega)
  have e3 := due_turn10 (W := W) Γ (L ++ dueW k "last" ++ dueW k "next") k "same" s0 x1 x2 x3 x4 x5 x6 x7 x8 x9 (some (.d (.str "next"))) rfl (by simp only [List.length_append, l1]; omega)
  have e4 : forGo (fF Γ W (.n 12) b_law201_10) [.str "last", .str "next", .str "same"] [s0, x1, x2, x3, x4, x5, x6, x7, x8, x9, some (.own L), some (.d (.int k)), s12] =
      .ok (.nx, [s0, x1, x2, x3, x4, x5, x6, x7, x8, x9, some (.own (L ++ dueK k)), some (.d (.int k)), some (.d (.str "same"))]) := by
    unfold forGo
    rw [e1]
    dsimp only
    unfold forGo
    rw [e2]
    dsimp only
    unfold forGo
    rw [e3]
    dsimp only
    unfold forGo
    unfold dueK
    rw [List.append_assoc, List.append_assoc]
  generalize dueK k = z at *
  clear e1 e2 e3
  unfold fF
  simp [and_m, or_m, ↓runF_is, ↓runG_is, ↓bk_ok, ↓bk_no, bk_ite, oo_some, oo_none, oo_ite, ff_rt, ff_nx, ff_ite, fg_rt, fg_nx, fg_ite, ↓peek_v, ↓pe_k, ↓pe_gc, ↓pe_tup, ↓pe_lst, ↓pe_bin, ↓pe_neg, ↓pe_not, ↓pe_and, ↓pe_or, ↓pe_cmp, ↓pe_chain, ↓pe_ife, ↓pe_call, ↓pe_calli, ↓pe_b1, ↓pe_b2, ↓pe_isi, ↓pe_ix, ↓pe_sl, ↓pe_lc, ↓pe_app, ↓pe_pop, ↓pe_popA, ↓pe_rev, ↓pe_dget, pk_ok, pk_ite, ↓exs, ↓retV, ↓v_k, ↓v_gc, ↓v_v, ↓v_tup, ↓v_lst, ↓v_bin, ↓v_neg, ↓v_not, ↓v_and, ↓v_or, ↓v_cmp, ↓v_chain, ↓v_ife, ↓v_call, ↓v_calli, ↓v_b1, ↓v_b2, ↓v_isi, ↓v_ix, ↓v_sl, ↓v_lc, ↓v_app, ↓v_pop, ↓v_popA, ↓v_rev, ↓v_dget, ↓s_asg, ↓s_unp, ↓s_par, ↓s_setL, ↓s_ex, ↓s_iff, ↓s_for_, ↓s_whl, ↓s_ret, ↓s_pass, ↓s_brk, ↓s_cont, ↓s_bad, ↓evs, ↓evm, ↓evo, ↓evIt, ↓view, rd, getS, setS, there, ↓put_pl, plS_none, plS_d, plS_own, ↓putT, ↓putTs, ↓bindT, ↓bindTs, asInt, asBl, Val.toD, Val.slot, b_addi, b_subi, c_lti, c_lei, c_gti, c_gei, c_eqi, c_nei, c_eqs, c_nes, c_in, c_nin, eqD,  bi2, isiD, isiT, ixD, atI, ixN,  lock, unlock, items?, isOwn, isNon, bi1_len_l, bi1_len_t, bi1_len_a, bi1_int_i, bi1_int_b, bi1_list_t, bi1_list_l, bi1_tup_t, bi1_tup_l, b_law201_9, h11, ↓e4]
theorem due_loop (Γ : Gam) (s0 x1 x2 x3 x4 x5 x6 x7 x8 x9 : Option Slot) : forGo (fF Γ W (.n 11) b_law201_9) [.int 0, .int 1, .int 2] [s0, x1, x2, x3, x4, x5, x6, x7, x8, x9, some (.own []), none, none] =
    .ok (.nx, [s0, x1, x2, x3, x4, x5, x6, x7, x8, x9, some (.own dueL), some (.d (.int 2)), some (.d (.str "same"))]) := by
  have l1 : ∀ k, (dueK k).length = 6 := fun _ => rfl
  have e1 := due_turn9 (W := W) Γ [] 0 s0 x1 x2 x3 x4 x5 x6 x7 x8 x9 none none rfl rfl (by simp)
  have e2 := due_turn9 (W := W) Γ ([] ++ dueK 0) 1 s0 x1 x2 x3 x4 x5 x6 x7 x8 x9 (some (.d (.int 0))) (some (.d (.str "same"))) rfl rfl (by simp [l1])
  have e3 := due_turn9 (W := W) Γ ([] ++ dueK 0 ++ dueK 1) 2 s0 x1 x2 x3 x4 x5 x6 x7 x8 x9 (some (.d (.int 1))) (some (.d (.str "same"))) rfl rfl (by simp [l1])
  unfold forGo
  rw [e1]
  dsimp only
  unfold forGo
  rw [e2]
  dsimp only
  unfold forGo
  rw [e3]
  dsimp only
  unfold forGo
  rfl
end AW

set_option Elab.async false
set_option linter.all false
set_option maxRecDepth 100000
set_option maxHeartbeats 4000000
namespace AW
open PySem L2
variable {W : Nat}
theorem due_twins (k : Nat) : (Gm W (k + 7)).f 17 [.lst dueL, .lst dueL] = .ok (.d (.bl true)) := by
  have h1 : (D.lst dueL).dep ≤ 5 := by simp [dueL, D.dep, D.deps]
  have h2 : noArr (.lst dueL) = true := by simp [dueL, noArr, noArrs]
  exact f_twins (W := W) k 5 _ h1 (by omega) h2
theorem law_rng (Γ : Gam) (ns : List Int) (m : Nat) (c3 : m ≤ 8) (hm : (if (8 : Int) < (ns.length : Int) then (8 : Int) else (ns.length : Int)) = (m : Int)) (ρ : Env) (h0 : getS ρ 0 = some (.d (.arr (ns.map D.int)))) :
    evIt Γ (.rng (.bin .Add (.b2 .min (.b1 .len (.v 0)) (.k (.int (8)))) (.k (.int (1))))) ρ = .ok ((List.range (m + 1)).map (fun (i : Nat) => D.int i), ρ, none) := by
  have e1 : ev Γ (.bin .Add (.b2 .min (.b1 .len (.v 0)) (.k (.int (8)))) (.k (.int (1)))) ρ = .ok (.d (.int ((m : Int) + 1)), ρ) := by
    have ht : there ρ 0 = true := by unfold there; rw [h0]
    have hv : view ρ (.var 0) = .ok (.arr (ns.map D.int)) := by unfold view; dsimp only; rw [h0]
    have h2 : bi2 .min (.int ns.length) (.int 8) = some (.d (.int (m : Int))) := by rw [← hm]; rfl
    have h3 : bi1 .len (.arr (ns.map D.int)) = some (.d (.int ns.length)) := by rw [bi1_len_a, List.length_map]
    rw [v_bin, pe_b2, v_b2, v_b1, peek_v, ht, if_pos rfl, bk_ok]
    dsimp only
    rw [hv, bk_ok, h3, oo_some, bk_ok, bk_ok, v_k, bk_ok]
    dsimp only
    show Res.bind (pkf ((ofO (bi2 .min (.int ns.length) (.int 8))).bind _)) _ = _
    rw [h2]
    rfl
  rw [evIt, e1, bk_ok]
  dsimp only
  have ea : asInt (.d (.int ((m : Int) + 1))) = .ok ((m : Int) + 1) := rfl
  rw [ea, bk_ok, if_pos ⟨by omega, by omega⟩, show ((m : Int) + 1).toNat = m + 1 by omega]
theorem law_end (Γ : Gam) (L : List D) (hA : Γ.f 9 [] = .ok (.own L)) (ht : Γ.f 17 [.lst L, .lst L] = .ok (.d (.bl true))) (hd : ∀ s0 x1 x2 x3 x4 x5 x6 x7 x8 x9, forGo (fF Γ W (.n 11) b_law201_9) [.int 0, .int 1, .int 2] [s0, x1, x2, x3, x4, x5, x6, x7, x8, x9, some (.own []), none, none] =
    .ok (.nx, [s0, x1, x2, x3, x4, x5, x6, x7, x8, x9, some (.own L), some (.d (.int 2)), some (.d (.str "same"))])) (ns : List Int) (m : Nat) (x1 x2 x3 x4 x5 x6 x7 x8 x9 : Option Slot) (hm : (if (8 : Int) < (ns.length : Int) then (8 : Int) else (ns.length : Int)) = (m : Int)) (c3 : m ≤ 8)
    (e1 : forGo (fF Γ W (.n 1) b_law201_1) ((List.range (m + 1)).map fun (i : Nat) => D.int i) [some (.d (.arr (ns.map D.int))), none, none, none, none, none, none, none, none, none, none, none, none] = .ok (.nx, [some (.d (.arr (ns.map D.int))), x1, x2, x3, x4, x5, x6, x7, x8, x9, none, none, none])) :
    runF Γ W 13 b_law201 [.arr (ns.map D.int)] = .ok (.d (.bl true)) := by
  have e0 := law_rng Γ ns m c3 hm [some (.d (.arr (ns.map D.int))), none, none, none, none, none, none, none, none, none, none, none, none] rfl
  have ef : ex Γ W (.for_ (.n 1) (.rng (.bin .Add (.b2 .min (.b1 .len (.v 0)) (.k (.int (8)))) (.k (.int (1))))) b_law201_1) [some (.d (.arr (ns.map D.int))), none, none, none, none, none, none, none, none, none, none, none, none] = .ok (.nx, [some (.d (.arr (ns.map D.int))), x1, x2, x3, x4, x5, x6, x7, x8, x9, none, none, none]) := by
    rw [s_for_, e0, bk_ok]
    dsimp only
    rw [e1]
    rfl
  clear e0 e1
  simp [and_m, or_m, ↓runF_is, ↓runG_is, ↓bk_ok, ↓bk_no, bk_ite, oo_some, oo_none, oo_ite, ff_rt, ff_nx, ff_ite, fg_rt, fg_nx, fg_ite, ↓peek_v, ↓pe_k, ↓pe_gc, ↓pe_tup, ↓pe_lst, ↓pe_bin, ↓pe_neg, ↓pe_not, ↓pe_and, ↓pe_or, ↓pe_cmp, ↓pe_chain, ↓pe_ife, ↓pe_call, ↓pe_calli, ↓pe_b1, ↓pe_b2, ↓pe_isi, ↓pe_ix, ↓pe_sl, ↓pe_lc, ↓pe_app, ↓pe_pop, ↓pe_popA, ↓pe_rev, ↓pe_dget, pk_ok, pk_ite, ↓exs, ↓retV, ↓v_k, ↓v_gc, ↓v_v, ↓v_tup, ↓v_lst, ↓v_bin, ↓v_neg, ↓v_not, ↓v_and, ↓v_or, ↓v_cmp, ↓v_chain, ↓v_ife, ↓v_call, ↓v_calli, ↓v_b1, ↓v_b2, ↓v_isi, ↓v_ix, ↓v_sl, ↓v_lc, ↓v_app, ↓v_pop, ↓v_popA, ↓v_rev, ↓v_dget, ↓s_asg, ↓s_unp, ↓s_par, ↓s_setL, ↓s_ex, ↓s_iff, ↓s_for_, ↓s_whl, ↓s_ret, ↓s_pass, ↓s_brk, ↓s_cont, ↓s_bad, ↓evs, ↓evm, ↓evo, ↓evIt, ↓view, rd, getS, setS, there, ↓put_pl, plS_none, plS_d, plS_own, ↓putT, ↓putTs, ↓bindT, ↓bindTs, asInt, asBl, Val.toD, Val.slot, b_addi, b_subi, c_lti, c_lei, c_gti, c_gei, c_eqi, c_nei, c_eqs, c_nes, c_in, c_nin, eqD,  bi2, isiD, isiT, ixD, atI, ixN,  lock, unlock, items?, isOwn, isNon, bi1_len_l, bi1_len_t, bi1_len_a, bi1_int_i, bi1_int_b, bi1_list_t, bi1_list_l, bi1_tup_t, bi1_tup_l, b_law201, ↓ef, ↓hd, ↓hA, ↓ht]
theorem f_law (ns : List Int) (hA : (Gm W 70).f 9 [] = .ok (.own dueL)) : (Gm W 71).f 201 [.arr (ns.map D.int)] = .ok (.d (.bl true)) := by
  have u : (Gm W 71).f 201 [.arr (ns.map D.int)] = runF (Gm W 70) W 13 b_law201 [.arr (ns.map D.int)] := u_law201 W 70 _
  rw [u]
  have hm : (if (8 : Int) < (ns.length : Int) then (8 : Int) else (ns.length : Int)) = ((min ns.length 8 : Nat) : Int) := by split <;> omega
  obtain ⟨x1, x2, x3, x4, x5, x6, x7, x8, x9, e1⟩ := loop_1 (W := W) ns none none none (List.range (min ns.length 8 + 1)) none none none none none none none none none rfl rfl rfl rfl rfl rfl rfl rfl rfl
  exact law_end (Gm W 70) dueL hA (due_twins 63) (due_loop (Gm W 70)) ns _ x1 x2 x3 x4 x5 x6 x7 x8 x9 hm (by omega) e1
end AW

set_option Elab.async false
set_option linter.all false
set_option maxRecDepth 100000
set_option maxHeartbeats 4000000
namespace AW
open PySem L2
variable {W : Nat}
theorem f_rules (k : Nat) : (Gm W (k + 1)).f 8 [] = .ok (.own dueL) := by
  rw [u_rules_of]
  rfl
theorem f_all (k : Nat) : (Gm W (k + 2)).f 9 [] = .ok (.own dueL) := by
  rw [u_all_rules]
  have e := f_rules (W := W) k
  generalize dueL = L at *
  simp [and_m, or_m, ↓runF_is, ↓runG_is, ↓bk_ok, ↓bk_no, bk_ite, oo_some, oo_none, oo_ite, ff_rt, ff_nx, ff_ite, fg_rt, fg_nx, fg_ite, ↓peek_v, ↓pe_k, ↓pe_gc, ↓pe_tup, ↓pe_lst, ↓pe_bin, ↓pe_neg, ↓pe_not, ↓pe_and, ↓pe_or, ↓pe_cmp, ↓pe_chain, ↓pe_ife, ↓pe_call, ↓pe_calli, ↓pe_b1, ↓pe_b2, ↓pe_isi, ↓pe_ix, ↓pe_sl, ↓pe_lc, ↓pe_app, ↓pe_pop, ↓pe_popA, ↓pe_rev, ↓pe_dget, pk_ok, pk_ite, ↓exs, ↓retV, ↓v_k, ↓v_gc, ↓v_v, ↓v_tup, ↓v_lst, ↓v_bin, ↓v_neg, ↓v_not, ↓v_and, ↓v_or, ↓v_cmp, ↓v_chain, ↓v_ife, ↓v_call, ↓v_calli, ↓v_b1, ↓v_b2, ↓v_isi, ↓v_ix, ↓v_sl, ↓v_lc, ↓v_app, ↓v_pop, ↓v_popA, ↓v_rev, ↓v_dget, ↓s_asg, ↓s_unp, ↓s_par, ↓s_setL, ↓s_ex, ↓s_iff, ↓s_for_, ↓s_whl, ↓s_ret, ↓s_pass, ↓s_brk, ↓s_cont, ↓s_bad, ↓evs, ↓evm, ↓evo, ↓evIt, ↓view, rd, getS, setS, there, ↓put_pl, plS_none, plS_d, plS_own, ↓putT, ↓putTs, ↓bindT, ↓bindTs, asInt, asBl, Val.toD, Val.slot, b_addi, b_subi, c_lti, c_lei, c_gti, c_gei, c_eqi, c_nei, c_eqs, c_nes, c_in, c_nin, eqD,  bi2, isiD, isiT, ixD, atI, ixN,  lock, unlock, items?, isOwn, isNon, bi1_len_l, bi1_len_t, bi1_len_a, bi1_int_i, bi1_int_b, bi1_list_t, bi1_list_l, bi1_tup_t, bi1_tup_l, b_all_rules, ↓e]
theorem k01_ok (ns : List Int) : (Gm W 71).f 201 [.arr (ns.map D.int)] = .ok (.d (.bl true)) := f_law ns (f_all 68)
end AW

set_option Elab.async false
set_option linter.all false
set_option maxRecDepth 100000
set_option maxHeartbeats 4000000
namespace AW
open PySem PySem.Spec PyProof.Rows L2
def topS (i : Nat) : Stmt := PySem.Challenge.pw_awaywhencalled_k01_houses_rules_and_stan.main.body.getD i (.Pass ⟨0, 0, 0, 0⟩)
def G1 : List (Str × GE) := [(("is_within" : Str), GE.f 1 3), (("is_row" : Str), GE.f 2 2), (("is_word" : Str), GE.f 3 2), (("is_span" : Str), GE.f 4 1), (("is_house" : Str), GE.f 5 1), (("is_rule" : Str), GE.f 6 1), (("is_plan" : Str), GE.f 7 1), (("rules_of" : Str), GE.f 8 0), (("all_rules" : Str), GE.f 9 0), (("look_at_plan" : Str), GE.f 10 1), (("first_stand" : Str), GE.f 11 1), (("fits" : Str), GE.f 12 2), (("is_stand" : Str), GE.f 13 2), (("_law_spring" : Str), GE.f 14 2), (("_law_pick" : Str), GE.g 15 1), (("_law_kind" : Str), GE.f 16 1), (("_law_twins" : Str), GE.f 17 2), (("_law_span" : Str), GE.g 18 0), (("_law_rule" : Str), GE.g 19 0), (("_law_house" : Str), GE.g 20 1), (("_law_backs" : Str), GE.f 21 2), (("_law_waiting" : Str), GE.f 22 3), (("_law_called" : Str), GE.f 23 2), (("_law_tick" : Str), GE.f 24 3), (("_law_choices" : Str), GE.f 25 2), (("_law_begin" : Str), GE.f 26 0), (("_law_int" : Str), GE.f 27 3), (("_law_made" : Str), GE.f 28 2), (("_law_good_span" : Str), GE.f 29 1), (("_law_good_house" : Str), GE.f 30 1), (("_law_good_rule" : Str), GE.f 31 1), (("_law_good_plan" : Str), GE.f 32 1), (("_law_good_stand" : Str), GE.f 33 2), (("_law_bent" : Str), GE.g 34 1), (("AFTER" : Str), GE.c (D.tup [(D.str "last"), (D.str "next"), (D.str "same")])), (("LATE" : Str), GE.c (D.tup [(D.str "first"), (D.str "stay")])), (("BEGIN" : Str), GE.c (D.tup [(D.tup []), (D.int (-1))])), (("FREE" : Str), GE.c (D.int (-1))), (("len" : Str), GE.bi), (("int" : Str), GE.bi), (("abs" : Str), GE.bi), (("list" : Str), GE.bi), (("tuple" : Str), GE.bi), (("sorted" : Str), GE.bi), (("any" : Str), GE.bi), (("all" : Str), GE.bi), (("max" : Str), GE.bi), (("min" : Str), GE.bi), (("range" : Str), GE.bi), (("zip" : Str), GE.bi), (("isinstance" : Str), GE.bi), (("bool" : Str), GE.bi), (("str" : Str), GE.bi), (("set" : Str), GE.bi), (("dict" : Str), GE.bi)]
theorem cc_is_within : compSs 40 40 (defSg N_is_within (topS 8) G1) (defBody (topS 8)) = some b_is_within := by kernel_rfl
theorem s_is_within : FnScope N_is_within ["value", "low", "high"] (defScope (topS 8)) := ⟨rfl, rfl, rfl, by decide +kernel, rfl, by decide +kernel, by decide +kernel⟩
theorem p_is_within : BindsSt "is_within" (topS 8) ["value", "low", "high"] := fun _ _ _ _ _ _ us hl => match us, hl with | [_, _, _], _ => rfl
theorem cc_is_row : compSs 40 40 (defSg N_is_row (topS 9) G1) (defBody (topS 9)) = some b_is_row := by kernel_rfl
theorem s_is_row : FnScope N_is_row ["value", "size"] (defScope (topS 9)) := ⟨rfl, rfl, rfl, by decide +kernel, rfl, by decide +kernel, by decide +kernel⟩
theorem p_is_row : BindsSt "is_row" (topS 9) ["value", "size"] := fun _ _ _ _ _ _ us hl => match us, hl with | [_, _], _ => rfl
theorem cc_is_word : compSs 40 40 (defSg N_is_word (topS 10) G1) (defBody (topS 10)) = some b_is_word := by kernel_rfl
theorem s_is_word : FnScope N_is_word ["value", "words"] (defScope (topS 10)) := ⟨rfl, rfl, rfl, by decide +kernel, rfl, by decide +kernel, by decide +kernel⟩
theorem p_is_word : BindsSt "is_word" (topS 10) ["value", "words"] := fun _ _ _ _ _ _ us hl => match us, hl with | [_, _], _ => rfl
theorem cc_is_span : compSs 40 40 (defSg N_is_span (topS 11) G1) (defBody (topS 11)) = some b_is_span := by kernel_rfl
theorem s_is_span : FnScope N_is_span ["value"] (defScope (topS 11)) := ⟨rfl, rfl, rfl, by decide +kernel, rfl, by decide +kernel, by decide +kernel⟩
theorem p_is_span : BindsSt "is_span" (topS 11) ["value"] := fun _ _ _ _ _ _ us hl => match us, hl with | [_], _ => rfl
theorem cc_is_house : compSs 40 40 (defSg N_is_house (topS 12) G1) (defBody (topS 12)) = some b_is_house := by kernel_rfl
theorem s_is_house : FnScope N_is_house ["value"] (defScope (topS 12)) := ⟨rfl, rfl, rfl, by decide +kernel, rfl, by decide +kernel, by decide +kernel⟩
theorem p_is_house : BindsSt "is_house" (topS 12) ["value"] := fun _ _ _ _ _ _ us hl => match us, hl with | [_], _ => rfl
theorem cc_is_rule : compSs 40 40 (defSg N_is_rule (topS 13) G1) (defBody (topS 13)) = some b_is_rule := by kernel_rfl
theorem s_is_rule : FnScope N_is_rule ["value"] (defScope (topS 13)) := ⟨rfl, rfl, rfl, by decide +kernel, rfl, by decide +kernel, by decide +kernel⟩
theorem p_is_rule : BindsSt "is_rule" (topS 13) ["value"] := fun _ _ _ _ _ _ us hl => match us, hl with | [_], _ => rfl
theorem cc_is_plan : compSs 40 40 (defSg N_is_plan (topS 14) G1) (defBody (topS 14)) = some b_is_plan := by kernel_rfl
theorem s_is_plan : FnScope N_is_plan ["value"] (defScope (topS 14)) := ⟨rfl, rfl, rfl, by decide +kernel, rfl, by decide +kernel, by decide +kernel⟩
theorem p_is_plan : BindsSt "is_plan" (topS 14) ["value"] := fun _ _ _ _ _ _ us hl => match us, hl with | [_], _ => rfl
theorem s_rules_of : FnScope N_rules_of [] (defScope (topS 15)) := ⟨rfl, rfl, rfl, by decide +kernel, rfl, by decide +kernel, by decide +kernel⟩
theorem p_rules_of : BindsSt "rules_of" (topS 15) [] := fun _ _ _ _ _ _ us hl => match us, hl with | [], _ => rfl
theorem cc_all_rules : compSs 40 40 (defSg N_all_rules (topS 16) G1) (defBody (topS 16)) = some b_all_rules := by kernel_rfl
theorem s_all_rules : FnScope N_all_rules [] (defScope (topS 16)) := ⟨rfl, rfl, rfl, by decide +kernel, rfl, by decide +kernel, by decide +kernel⟩
theorem p_all_rules : BindsSt "all_rules" (topS 16) [] := fun _ _ _ _ _ _ us hl => match us, hl with | [], _ => rfl
theorem cc_look_at_plan : compSs 40 40 (defSg N_look_at_plan (topS 17) G1) (defBody (topS 17)) = some b_look_at_plan := by kernel_rfl
theorem s_look_at_plan : FnScope N_look_at_plan ["plan"] (defScope (topS 17)) := ⟨rfl, rfl, rfl, by decide +kernel, rfl, by decide +kernel, by decide +kernel⟩
theorem p_look_at_plan : BindsSt "look_at_plan" (topS 17) ["plan"] := fun _ _ _ _ _ _ us hl => match us, hl with | [_], _ => rfl
theorem cc_first_stand : compSs 40 40 (defSg N_first_stand (topS 18) G1) (defBody (topS 18)) = some b_first_stand := by kernel_rfl
theorem s_first_stand : FnScope N_first_stand ["plan"] (defScope (topS 18)) := ⟨rfl, rfl, rfl, by decide +kernel, rfl, by decide +kernel, by decide +kernel⟩
theorem p_first_stand : BindsSt "first_stand" (topS 18) ["plan"] := fun _ _ _ _ _ _ us hl => match us, hl with | [_], _ => rfl
theorem cc_fits : compSs 40 40 (defSg N_fits (topS 19) G1) (defBody (topS 19)) = some b_fits := by kernel_rfl
theorem s_fits : FnScope N_fits ["plan", "value"] (defScope (topS 19)) := ⟨rfl, rfl, rfl, by decide +kernel, rfl, by decide +kernel, by decide +kernel⟩
theorem p_fits : BindsSt "fits" (topS 19) ["plan", "value"] := fun _ _ _ _ _ _ us hl => match us, hl with | [_, _], _ => rfl
theorem cc_is_stand : compSs 40 40 (defSg N_is_stand (topS 20) G1) (defBody (topS 20)) = some b_is_stand := by kernel_rfl
theorem s_is_stand : FnScope N_is_stand ["plan", "value"] (defScope (topS 20)) := ⟨rfl, rfl, rfl, by decide +kernel, rfl, by decide +kernel, by decide +kernel⟩
theorem p_is_stand : BindsSt "is_stand" (topS 20) ["plan", "value"] := fun _ _ _ _ _ _ us hl => match us, hl with | [_, _], _ => rfl
theorem cc__law_spring : compSs 40 40 (defSg N__law_spring (topS 22) G1) (defBody (topS 22)) = some b__law_spring := by kernel_rfl
theorem s__law_spring : FnScope N__law_spring ["script", "at"] (defScope (topS 22)) := ⟨rfl, rfl, rfl, by decide +kernel, rfl, by decide +kernel, by decide +kernel⟩
theorem p__law_spring : BindsSt "_law_spring" (topS 22) ["script", "at"] := fun _ _ _ _ _ _ us hl => match us, hl with | [_, _], _ => rfl
theorem cc__law_pick : compSs 40 40 (defSg N__law_pick (topS 23) G1) (defBody (topS 23)) = some b__law_pick := by kernel_rfl
theorem s__law_pick : FnScope N__law_pick ["spring", "many"] (defScope (topS 23)) := ⟨rfl, rfl, rfl, by decide +kernel, rfl, by decide +kernel, by decide +kernel⟩
theorem p__law_pick : BindsSt "_law_pick" (topS 23) ["spring", "many"] := fun _ _ _ _ _ _ us hl => match us, hl with | [_, _], _ => rfl
theorem cc__law_kind : compSs 40 40 (defSg N__law_kind (topS 24) G1) (defBody (topS 24)) = some b__law_kind := by kernel_rfl
theorem s__law_kind : FnScope N__law_kind ["value"] (defScope (topS 24)) := ⟨rfl, rfl, rfl, by decide +kernel, rfl, by decide +kernel, by decide +kernel⟩
theorem p__law_kind : BindsSt "_law_kind" (topS 24) ["value"] := fun _ _ _ _ _ _ us hl => match us, hl with | [_], _ => rfl
theorem cc__law_twins : compSs 40 40 (defSg N__law_twins (topS 25) G1) (defBody (topS 25)) = some b__law_twins := by kernel_rfl
theorem s__law_twins : FnScope N__law_twins ["one", "other"] (defScope (topS 25)) := ⟨rfl, rfl, rfl, by decide +kernel, rfl, by decide +kernel, by decide +kernel⟩
theorem p__law_twins : BindsSt "_law_twins" (topS 25) ["one", "other"] := fun _ _ _ _ _ _ us hl => match us, hl with | [_, _], _ => rfl
theorem cc__law_span : compSs 40 40 (defSg N__law_span (topS 26) G1) (defBody (topS 26)) = some b__law_span := by kernel_rfl
theorem s__law_span : FnScope N__law_span ["spring"] (defScope (topS 26)) := ⟨rfl, rfl, rfl, by decide +kernel, rfl, by decide +kernel, by decide +kernel⟩
theorem p__law_span : BindsSt "_law_span" (topS 26) ["spring"] := fun _ _ _ _ _ _ us hl => match us, hl with | [_], _ => rfl
theorem cc__law_rule : compSs 40 40 (defSg N__law_rule (topS 27) G1) (defBody (topS 27)) = some b__law_rule := by kernel_rfl
theorem s__law_rule : FnScope N__law_rule ["spring"] (defScope (topS 27)) := ⟨rfl, rfl, rfl, by decide +kernel, rfl, by decide +kernel, by decide +kernel⟩
theorem p__law_rule : BindsSt "_law_rule" (topS 27) ["spring"] := fun _ _ _ _ _ _ us hl => match us, hl with | [_], _ => rfl
theorem cc__law_house : compSs 40 40 (defSg N__law_house (topS 28) G1) (defBody (topS 28)) = some b__law_house := by kernel_rfl
theorem s__law_house : FnScope N__law_house ["spring", "room"] (defScope (topS 28)) := ⟨rfl, rfl, rfl, by decide +kernel, rfl, by decide +kernel, by decide +kernel⟩
theorem p__law_house : BindsSt "_law_house" (topS 28) ["spring", "room"] := fun _ _ _ _ _ _ us hl => match us, hl with | [_, _], _ => rfl
theorem cc__law_backs : compSs 40 40 (defSg N__law_backs (topS 29) G1) (defBody (topS 29)) = some b__law_backs := by kernel_rfl
theorem s__law_backs : FnScope N__law_backs ["plan", "queue"] (defScope (topS 29)) := ⟨rfl, rfl, rfl, by decide +kernel, rfl, by decide +kernel, by decide +kernel⟩
theorem p__law_backs : BindsSt "_law_backs" (topS 29) ["plan", "queue"] := fun _ _ _ _ _ _ us hl => match us, hl with | [_, _], _ => rfl
theorem cc__law_waiting : compSs 40 40 (defSg N__law_waiting (topS 30) G1) (defBody (topS 30)) = some b__law_waiting := by kernel_rfl
theorem s__law_waiting : FnScope N__law_waiting ["plan", "queue", "choice"] (defScope (topS 30)) := ⟨rfl, rfl, rfl, by decide +kernel, rfl, by decide +kernel, by decide +kernel⟩
theorem p__law_waiting : BindsSt "_law_waiting" (topS 30) ["plan", "queue", "choice"] := fun _ _ _ _ _ _ us hl => match us, hl with | [_, _, _], _ => rfl
theorem cc__law_called : compSs 40 40 (defSg N__law_called (topS 31) G1) (defBody (topS 31)) = some b__law_called := by kernel_rfl
theorem s__law_called : FnScope N__law_called ["plan", "some"] (defScope (topS 31)) := ⟨rfl, rfl, rfl, by decide +kernel, rfl, by decide +kernel, by decide +kernel⟩
theorem p__law_called : BindsSt "_law_called" (topS 31) ["plan", "some"] := fun _ _ _ _ _ _ us hl => match us, hl with | [_, _], _ => rfl
theorem cc__law_tick : compSs 40 40 (defSg N__law_tick (topS 32) G1) (defBody (topS 32)) = some b__law_tick := by kernel_rfl
theorem s__law_tick : FnScope N__law_tick ["plan", "stand", "choice"] (defScope (topS 32)) := ⟨rfl, rfl, rfl, by decide +kernel, rfl, by decide +kernel, by decide +kernel⟩
theorem p__law_tick : BindsSt "_law_tick" (topS 32) ["plan", "stand", "choice"] := fun _ _ _ _ _ _ us hl => match us, hl with | [_, _, _], _ => rfl
theorem cc__law_choices : compSs 40 40 (defSg N__law_choices (topS 33) G1) (defBody (topS 33)) = some b__law_choices := by kernel_rfl
theorem s__law_choices : FnScope N__law_choices ["plan", "stand"] (defScope (topS 33)) := ⟨rfl, rfl, rfl, by decide +kernel, rfl, by decide +kernel, by decide +kernel⟩
theorem p__law_choices : BindsSt "_law_choices" (topS 33) ["plan", "stand"] := fun _ _ _ _ _ _ us hl => match us, hl with | [_, _], _ => rfl
theorem cc__law_begin : compSs 40 40 (defSg N__law_begin (topS 34) G1) (defBody (topS 34)) = some b__law_begin := by kernel_rfl
theorem s__law_begin : FnScope N__law_begin [] (defScope (topS 34)) := ⟨rfl, rfl, rfl, by decide +kernel, rfl, by decide +kernel, by decide +kernel⟩
theorem p__law_begin : BindsSt "_law_begin" (topS 34) [] := fun _ _ _ _ _ _ us hl => match us, hl with | [], _ => rfl
theorem cc__law_int : compSs 40 40 (defSg N__law_int (topS 35) G1) (defBody (topS 35)) = some b__law_int := by kernel_rfl
theorem s__law_int : FnScope N__law_int ["value", "low", "high"] (defScope (topS 35)) := ⟨rfl, rfl, rfl, by decide +kernel, rfl, by decide +kernel, by decide +kernel⟩
theorem p__law_int : BindsSt "_law_int" (topS 35) ["value", "low", "high"] := fun _ _ _ _ _ _ us hl => match us, hl with | [_, _, _], _ => rfl
theorem cc__law_made : compSs 40 40 (defSg N__law_made (topS 36) G1) (defBody (topS 36)) = some b__law_made := by kernel_rfl
theorem s__law_made : FnScope N__law_made ["value", "many"] (defScope (topS 36)) := ⟨rfl, rfl, rfl, by decide +kernel, rfl, by decide +kernel, by decide +kernel⟩
theorem p__law_made : BindsSt "_law_made" (topS 36) ["value", "many"] := fun _ _ _ _ _ _ us hl => match us, hl with | [_, _], _ => rfl
theorem cc__law_good_span : compSs 40 40 (defSg N__law_good_span (topS 37) G1) (defBody (topS 37)) = some b__law_good_span := by kernel_rfl
theorem s__law_good_span : FnScope N__law_good_span ["value"] (defScope (topS 37)) := ⟨rfl, rfl, rfl, by decide +kernel, rfl, by decide +kernel, by decide +kernel⟩
theorem p__law_good_span : BindsSt "_law_good_span" (topS 37) ["value"] := fun _ _ _ _ _ _ us hl => match us, hl with | [_], _ => rfl
theorem cc__law_good_house : compSs 40 40 (defSg N__law_good_house (topS 38) G1) (defBody (topS 38)) = some b__law_good_house := by kernel_rfl
theorem s__law_good_house : FnScope N__law_good_house ["value"] (defScope (topS 38)) := ⟨rfl, rfl, rfl, by decide +kernel, rfl, by decide +kernel, by decide +kernel⟩
theorem p__law_good_house : BindsSt "_law_good_house" (topS 38) ["value"] := fun _ _ _ _ _ _ us hl => match us, hl with | [_], _ => rfl
theorem cc__law_good_rule : compSs 40 40 (defSg N__law_good_rule (topS 39) G1) (defBody (topS 39)) = some b__law_good_rule := by kernel_rfl
theorem s__law_good_rule : FnScope N__law_good_rule ["value"] (defScope (topS 39)) := ⟨rfl, rfl, rfl, by decide +kernel, rfl, by decide +kernel, by decide +kernel⟩
theorem p__law_good_rule : BindsSt "_law_good_rule" (topS 39) ["value"] := fun _ _ _ _ _ _ us hl => match us, hl with | [_], _ => rfl
theorem cc__law_good_plan : compSs 40 40 (defSg N__law_good_plan (topS 40) G1) (defBody (topS 40)) = some b__law_good_plan := by kernel_rfl
theorem s__law_good_plan : FnScope N__law_good_plan ["value"] (defScope (topS 40)) := ⟨rfl, rfl, rfl, by decide +kernel, rfl, by decide +kernel, by decide +kernel⟩
theorem p__law_good_plan : BindsSt "_law_good_plan" (topS 40) ["value"] := fun _ _ _ _ _ _ us hl => match us, hl with | [_], _ => rfl
theorem cc__law_good_stand : compSs 40 40 (defSg N__law_good_stand (topS 41) G1) (defBody (topS 41)) = some b__law_good_stand := by kernel_rfl
theorem s__law_good_stand : FnScope N__law_good_stand ["plan", "value"] (defScope (topS 41)) := ⟨rfl, rfl, rfl, by decide +kernel, rfl, by decide +kernel, by decide +kernel⟩
theorem p__law_good_stand : BindsSt "_law_good_stand" (topS 41) ["plan", "value"] := fun _ _ _ _ _ _ us hl => match us, hl with | [_, _], _ => rfl
theorem cc__law_bent : compSs 40 40 (defSg N__law_bent (topS 42) G1) (defBody (topS 42)) = some b__law_bent := by kernel_rfl
theorem s__law_bent : FnScope N__law_bent ["spring", "value"] (defScope (topS 42)) := ⟨rfl, rfl, rfl, by decide +kernel, rfl, by decide +kernel, by decide +kernel⟩
theorem p__law_bent : BindsSt "_law_bent" (topS 42) ["spring", "value"] := fun _ _ _ _ _ _ us hl => match us, hl with | [_, _], _ => rfl
theorem cc_law201 : compSs 40 40 (defSg N_law201 (topS 43) G1) (defBody (topS 43)) = some b_law201 := by kernel_rfl
theorem s_law201 : FnScope N_law201 ["script"] (defScope (topS 43)) := ⟨rfl, rfl, rfl, by decide +kernel, rfl, by decide +kernel, by decide +kernel⟩
theorem p_law201 : BindsSt "law" (topS 43) ["script"] := fun _ _ _ _ _ _ us hl => match us, hl with | [_], _ => rfl
theorem hand_rules_of {P : Program} {w : World} {K : PySem.W.Frag} {h base : Heap} {mg : Str → Option Value} {f : Addr} {W : Nat} (X : K.In h) (H : h.Ns mainGlobals mg) (d : DefIn K "rules_of" (topS 15) f) : HFact P w K mg base TT W G1 "rules_of" (.f 8 0) := by
  obtain ⟨fd, F⟩ := d.fun
  refine ⟨f, fd, [], PySem.W.mg_of X H d.1, F.kp, F.binds p_rules_of, fun k ih => ?_⟩
  exact fn_triples (n := 3) (ws := ["last", "next", "same"]) (ls := ["first", "stay"]) F s_rules_of rfl (by decide +kernel) rfl rfl rfl rfl rfl rfl rfl rfl rfl (by decide) (by decide) (by decide) ih fun r e => by
    have e2 : (Res.ok (Val.own (triples 3 ["last", "next", "same"] ["first", "stay"])) : Res Val) = .ok r := e
    exact (Res.ok.inj e2).symm
theorem all_mk {l : PySem.W.OpenLaw} {w : World} {K : PySem.W.Frag} {h : Heap} {mg : Str → Option Value} {fa : Addr} {f_is_within f_is_row f_is_word f_is_span f_is_house f_is_rule f_is_plan f_rules_of f_all_rules f_look_at_plan f_first_stand f_fits f_is_stand f__law_spring f__law_pick f__law_kind f__law_twins f__law_span f__law_rule f__law_house f__law_backs f__law_waiting f__law_called f__law_tick f__law_choices f__law_begin f__law_int f__law_made f__law_good_span f__law_good_house f__law_good_rule f__law_good_plan f__law_good_stand f__law_bent f_law201 : Addr} {oc_is_within kV_is_within dc_is_within pm_is_within cd_is_within ct_is_within : Value} {od_is_within an_is_within : Option Addr} {sl_is_within : Array (Option Value)} {oc_is_row kV_is_row dc_is_row pm_is_row cd_is_row ct_is_row : Value} {od_is_row an_is_row : Option Addr} {sl_is_row : Array (Option Value)} {oc_is_word kV_is_word dc_is_word pm_is_word cd_is_word ct_is_word : Value} {od_is_word an_is_word : Option Addr} {sl_is_word : Array (Option Value)} {oc_is_span kV_is_span dc_is_span pm_is_span cd_is_span ct_is_span : Value} {od_is_span an_is_span : Option Addr} {sl_is_span : Array (Option Value)} {oc_is_house kV_is_house dc_is_house pm_is_house cd_is_house ct_is_house : Value} {od_is_house an_is_house : Option Addr} {sl_is_house : Array (Option Value)} {oc_is_rule kV_is_rule dc_is_rule pm_is_rule cd_is_rule ct_is_rule : Value} {od_is_rule an_is_rule : Option Addr} {sl_is_rule : Array (Option Value)} {oc_is_plan kV_is_plan dc_is_plan pm_is_plan cd_is_plan ct_is_plan : Value} {od_is_plan an_is_plan : Option Addr} {sl_is_plan : Array (Option Value)} {oc_rules_of kV_rules_of dc_rules_of pm_rules_of cd_rules_of ct_rules_of : Value} {od_rules_of an_rules_of : Option Addr} {sl_rules_of : Array (Option Value)} {oc_all_rules kV_all_rules dc_all_rules pm_all_rules cd_all_rules ct_all_rules : Value} {od_all_rules an_all_rules : Option Addr} {sl_all_rules : Array (Option Value)} {oc_look_at_plan kV_look_at_plan dc_look_at_plan pm_look_at_plan cd_look_at_plan ct_look_at_plan : Value} {od_look_at_plan an_look_at_plan : Option Addr} {sl_look_at_plan : Array (Option Value)} {oc_first_stand kV_first_stand dc_first_stand pm_first_stand cd_first_stand ct_first_stand : Value} {od_first_stand an_first_stand : Option Addr} {sl_first_stand : Array (Option Value)} {oc_fits kV_fits dc_fits pm_fits cd_fits ct_fits : Value} {od_fits an_fits : Option Addr} {sl_fits : Array (Option Value)} {oc_is_stand kV_is_stand dc_is_stand pm_is_stand cd_is_stand ct_is_stand : Value} {od_is_stand an_is_stand : Option Addr} {sl_is_stand : Array (Option Value)} {oc__law_spring kV__law_spring dc__law_spring pm__law_spring cd__law_spring ct__law_spring : Value} {od__law_spring an__law_spring : Option Addr} {sl__law_spring : Array (Option Value)} {oc__law_pick kV__law_pick dc__law_pick pm__law_pick cd__law_pick ct__law_pick : Value} {od__law_pick an__law_pick : Option Addr} {sl__law_pick : Array (Option Value)} {oc__law_kind kV__law_kind dc__law_kind pm__law_kind cd__law_kind ct__law_kind : Value} {od__law_kind an__law_kind : Option Addr} {sl__law_kind : Array (Option Value)} {oc__law_twins kV__law_twins dc__law_twins pm__law_twins cd__law_twins ct__law_twins : Value} {od__law_twins an__law_twins : Option Addr} {sl__law_twins : Array (Option Value)} {oc__law_span kV__law_span dc__law_span pm__law_span cd__law_span ct__law_span : Value} {od__law_span an__law_span : Option Addr} {sl__law_span : Array (Option Value)} {oc__law_rule kV__law_rule dc__law_rule pm__law_rule cd__law_rule ct__law_rule : Value} {od__law_rule an__law_rule : Option Addr} {sl__law_rule : Array (Option Value)} {oc__law_house kV__law_house dc__law_house pm__law_house cd__law_house ct__law_house : Value} {od__law_house an__law_house : Option Addr} {sl__law_house : Array (Option Value)} {oc__law_backs kV__law_backs dc__law_backs pm__law_backs cd__law_backs ct__law_backs : Value} {od__law_backs an__law_backs : Option Addr} {sl__law_backs : Array (Option Value)} {oc__law_waiting kV__law_waiting dc__law_waiting pm__law_waiting cd__law_waiting ct__law_waiting : Value} {od__law_waiting an__law_waiting : Option Addr} {sl__law_waiting : Array (Option Value)} {oc__law_called kV__law_called dc__law_called pm__law_called cd__law_called ct__law_called : Value} {od__law_called an__law_called : Option Addr} {sl__law_called : Array (Option Value)} {oc__law_tick kV__law_tick dc__law_tick pm__law_tick cd__law_tick ct__law_tick : Value} {od__law_tick an__law_tick : Option Addr} {sl__law_tick : Array (Option Value)} {oc__law_choices kV__law_choices dc__law_choices pm__law_choices cd__law_choices ct__law_choices : Value} {od__law_choices an__law_choices : Option Addr} {sl__law_choices : Array (Option Value)} {oc__law_begin kV__law_begin dc__law_begin pm__law_begin cd__law_begin ct__law_begin : Value} {od__law_begin an__law_begin : Option Addr} {sl__law_begin : Array (Option Value)} {oc__law_int kV__law_int dc__law_int pm__law_int cd__law_int ct__law_int : Value} {od__law_int an__law_int : Option Addr} {sl__law_int : Array (Option Value)} {oc__law_made kV__law_made dc__law_made pm__law_made cd__law_made ct__law_made : Value} {od__law_made an__law_made : Option Addr} {sl__law_made : Array (Option Value)} {oc__law_good_span kV__law_good_span dc__law_good_span pm__law_good_span cd__law_good_span ct__law_good_span : Value} {od__law_good_span an__law_good_span : Option Addr} {sl__law_good_span : Array (Option Value)} {oc__law_good_house kV__law_good_house dc__law_good_house pm__law_good_house cd__law_good_house ct__law_good_house : Value} {od__law_good_house an__law_good_house : Option Addr} {sl__law_good_house : Array (Option Value)} {oc__law_good_rule kV__law_good_rule dc__law_good_rule pm__law_good_rule cd__law_good_rule ct__law_good_rule : Value} {od__law_good_rule an__law_good_rule : Option Addr} {sl__law_good_rule : Array (Option Value)} {oc__law_good_plan kV__law_good_plan dc__law_good_plan pm__law_good_plan cd__law_good_plan ct__law_good_plan : Value} {od__law_good_plan an__law_good_plan : Option Addr} {sl__law_good_plan : Array (Option Value)} {oc__law_good_stand kV__law_good_stand dc__law_good_stand pm__law_good_stand cd__law_good_stand ct__law_good_stand : Value} {od__law_good_stand an__law_good_stand : Option Addr} {sl__law_good_stand : Array (Option Value)} {oc__law_bent kV__law_bent dc__law_bent pm__law_bent cd__law_bent ct__law_bent : Value} {od__law_bent an__law_bent : Option Addr} {sl__law_bent : Array (Option Value)} {oc_law201 kV_law201 dc_law201 pm_law201 cd_law201 ct_law201 : Value} {od_law201 an_law201 : Option Addr} {sl_law201 : Array (Option Value)} {r1 : Addr} {t2 : Tok} {t3 : Tok} {t4 : Tok} {od5 : Option Addr} {n5 : Nat} {sl5 : Array (Option Value)} {r6 : Addr} {t7 : Tok} {t8 : Tok} {od9 : Option Addr} {n9 : Nat} {sl9 : Array (Option Value)} {r10 : Addr} {r11 : Addr} {t12 : Tok} {od13 : Option Addr} {n13 : Nat} {sl13 : Array (Option Value)} {od14 : Option Addr} {n14 : Nat} {sl14 : Array (Option Value)} {t15 : Tok} (X : K.In h) (G : h.Ns mainGlobals mg) (hfa : mg "law" = some (.ref fa))
    (a_is_within : PySem.W.nsIn K mainGlobals "is_within" = some (some (.ref f_is_within))) (l_is_within : K.lookup f_is_within = some ⟨oc_is_within, od_is_within, .func (PySem.W.fnOf "is_within" "is_within" (defArgs (topS 8)) (defBody (topS 8)) (defScope (topS 8)) .none kV_is_within dc_is_within pm_is_within an_is_within cd_is_within ct_is_within), sl_is_within⟩) (c_is_within : PySem.W.codeIn K cd_is_within "is_within" = true) (k_is_within : PySem.W.keepIn K (.ref f_is_within) = true)
    (a_is_row : PySem.W.nsIn K mainGlobals "is_row" = some (some (.ref f_is_row))) (l_is_row : K.lookup f_is_row = some ⟨oc_is_row, od_is_row, .func (PySem.W.fnOf "is_row" "is_row" (defArgs (topS 9)) (defBody (topS 9)) (defScope (topS 9)) .none kV_is_row dc_is_row pm_is_row an_is_row cd_is_row ct_is_row), sl_is_row⟩) (c_is_row : PySem.W.codeIn K cd_is_row "is_row" = true) (k_is_row : PySem.W.keepIn K (.ref f_is_row) = true)
    (a_is_word : PySem.W.nsIn K mainGlobals "is_word" = some (some (.ref f_is_word))) (l_is_word : K.lookup f_is_word = some ⟨oc_is_word, od_is_word, .func (PySem.W.fnOf "is_word" "is_word" (defArgs (topS 10)) (defBody (topS 10)) (defScope (topS 10)) .none kV_is_word dc_is_word pm_is_word an_is_word cd_is_word ct_is_word), sl_is_word⟩) (c_is_word : PySem.W.codeIn K cd_is_word "is_word" = true) (k_is_word : PySem.W.keepIn K (.ref f_is_word) = true)
    (a_is_span : PySem.W.nsIn K mainGlobals "is_span" = some (some (.ref f_is_span))) (l_is_span : K.lookup f_is_span = some ⟨oc_is_span, od_is_span, .func (PySem.W.fnOf "is_span" "is_span" (defArgs (topS 11)) (defBody (topS 11)) (defScope (topS 11)) .none kV_is_span dc_is_span pm_is_span an_is_span cd_is_span ct_is_span), sl_is_span⟩) (c_is_span : PySem.W.codeIn K cd_is_span "is_span" = true) (k_is_span : PySem.W.keepIn K (.ref f_is_span) = true)
    (a_is_house : PySem.W.nsIn K mainGlobals "is_house" = some (some (.ref f_is_house))) (l_is_house : K.lookup f_is_house = some ⟨oc_is_house, od_is_house, .func (PySem.W.fnOf "is_house" "is_house" (defArgs (topS 12)) (defBody (topS 12)) (defScope (topS 12)) .none kV_is_house dc_is_house pm_is_house an_is_house cd_is_house ct_is_house), sl_is_house⟩) (c_is_house : PySem.W.codeIn K cd_is_house "is_house" = true) (k_is_house : PySem.W.keepIn K (.ref f_is_house) = true)
    (a_is_rule : PySem.W.nsIn K mainGlobals "is_rule" = some (some (.ref f_is_rule))) (l_is_rule : K.lookup f_is_rule = some ⟨oc_is_rule, od_is_rule, .func (PySem.W.fnOf "is_rule" "is_rule" (defArgs (topS 13)) (defBody (topS 13)) (defScope (topS 13)) .none kV_is_rule dc_is_rule pm_is_rule an_is_rule cd_is_rule ct_is_rule), sl_is_rule⟩) (c_is_rule : PySem.W.codeIn K cd_is_rule "is_rule" = true) (k_is_rule : PySem.W.keepIn K (.ref f_is_rule) = true)
    (a_is_plan : PySem.W.nsIn K mainGlobals "is_plan" = some (some (.ref f_is_plan))) (l_is_plan : K.lookup f_is_plan = some ⟨oc_is_plan, od_is_plan, .func (PySem.W.fnOf "is_plan" "is_plan" (defArgs (topS 14)) (defBody (topS 14)) (defScope (topS 14)) .none kV_is_plan dc_is_plan pm_is_plan an_is_plan cd_is_plan ct_is_plan), sl_is_plan⟩) (c_is_plan : PySem.W.codeIn K cd_is_plan "is_plan" = true) (k_is_plan : PySem.W.keepIn K (.ref f_is_plan) = true)
    (a_rules_of : PySem.W.nsIn K mainGlobals "rules_of" = some (some (.ref f_rules_of))) (l_rules_of : K.lookup f_rules_of = some ⟨oc_rules_of, od_rules_of, .func (PySem.W.fnOf "rules_of" "rules_of" (defArgs (topS 15)) (defBody (topS 15)) (defScope (topS 15)) .none kV_rules_of dc_rules_of pm_rules_of an_rules_of cd_rules_of ct_rules_of), sl_rules_of⟩) (c_rules_of : PySem.W.codeIn K cd_rules_of "rules_of" = true) (k_rules_of : PySem.W.keepIn K (.ref f_rules_of) = true)
    (a_all_rules : PySem.W.nsIn K mainGlobals "all_rules" = some (some (.ref f_all_rules))) (l_all_rules : K.lookup f_all_rules = some ⟨oc_all_rules, od_all_rules, .func (PySem.W.fnOf "all_rules" "all_rules" (defArgs (topS 16)) (defBody (topS 16)) (defScope (topS 16)) .none kV_all_rules dc_all_rules pm_all_rules an_all_rules cd_all_rules ct_all_rules), sl_all_rules⟩) (c_all_rules : PySem.W.codeIn K cd_all_rules "all_rules" = true) (k_all_rules : PySem.W.keepIn K (.ref f_all_rules) = true)
    (a_look_at_plan : PySem.W.nsIn K mainGlobals "look_at_plan" = some (some (.ref f_look_at_plan))) (l_look_at_plan : K.lookup f_look_at_plan = some ⟨oc_look_at_plan, od_look_at_plan, .func (PySem.W.fnOf "look_at_plan" "look_at_plan" (defArgs (topS 17)) (defBody (topS 17)) (defScope (topS 17)) .none kV_look_at_plan dc_look_at_plan pm_look_at_plan an_look_at_plan cd_look_at_plan ct_look_at_plan), sl_look_at_plan⟩) (c_look_at_plan : PySem.W.codeIn K cd_look_at_plan "look_at_plan" = true) (k_look_at_plan : PySem.W.keepIn K (.ref f_look_at_plan) = true)
    (a_first_stand : PySem.W.nsIn K mainGlobals "first_stand" = some (some (.ref f_first_stand))) (l_first_stand : K.lookup f_first_stand = some ⟨oc_first_stand, od_first_stand, .func (PySem.W.fnOf "first_stand" "first_stand" (defArgs (topS 18)) (defBody (topS 18)) (defScope (topS 18)) .none kV_first_stand dc_first_stand pm_first_stand an_first_stand cd_first_stand ct_first_stand), sl_first_stand⟩) (c_first_stand : PySem.W.codeIn K cd_first_stand "first_stand" = true) (k_first_stand : PySem.W.keepIn K (.ref f_first_stand) = true)
    (a_fits : PySem.W.nsIn K mainGlobals "fits" = some (some (.ref f_fits))) (l_fits : K.lookup f_fits = some ⟨oc_fits, od_fits, .func (PySem.W.fnOf "fits" "fits" (defArgs (topS 19)) (defBody (topS 19)) (defScope (topS 19)) .none kV_fits dc_fits pm_fits an_fits cd_fits ct_fits), sl_fits⟩) (c_fits : PySem.W.codeIn K cd_fits "fits" = true) (k_fits : PySem.W.keepIn K (.ref f_fits) = true)
    (a_is_stand : PySem.W.nsIn K mainGlobals "is_stand" = some (some (.ref f_is_stand))) (l_is_stand : K.lookup f_is_stand = some ⟨oc_is_stand, od_is_stand, .func (PySem.W.fnOf "is_stand" "is_stand" (defArgs (topS 20)) (defBody (topS 20)) (defScope (topS 20)) .none kV_is_stand dc_is_stand pm_is_stand an_is_stand cd_is_stand ct_is_stand), sl_is_stand⟩) (c_is_stand : PySem.W.codeIn K cd_is_stand "is_stand" = true) (k_is_stand : PySem.W.keepIn K (.ref f_is_stand) = true)
    (a__law_spring : PySem.W.nsIn K mainGlobals "_law_spring" = some (some (.ref f__law_spring))) (l__law_spring : K.lookup f__law_spring = some ⟨oc__law_spring, od__law_spring, .func (PySem.W.fnOf "_law_spring" "_law_spring" (defArgs (topS 22)) (defBody (topS 22)) (defScope (topS 22)) .none kV__law_spring dc__law_spring pm__law_spring an__law_spring cd__law_spring ct__law_spring), sl__law_spring⟩) (c__law_spring : PySem.W.codeIn K cd__law_spring "_law_spring" = true) (k__law_spring : PySem.W.keepIn K (.ref f__law_spring) = true)
    (a__law_pick : PySem.W.nsIn K mainGlobals "_law_pick" = some (some (.ref f__law_pick))) (l__law_pick : K.lookup f__law_pick = some ⟨oc__law_pick, od__law_pick, .func (PySem.W.fnOf "_law_pick" "_law_pick" (defArgs (topS 23)) (defBody (topS 23)) (defScope (topS 23)) .none kV__law_pick dc__law_pick pm__law_pick an__law_pick cd__law_pick ct__law_pick), sl__law_pick⟩) (c__law_pick : PySem.W.codeIn K cd__law_pick "_law_pick" = true) (k__law_pick : PySem.W.keepIn K (.ref f__law_pick) = true)
    (a__law_kind : PySem.W.nsIn K mainGlobals "_law_kind" = some (some (.ref f__law_kind))) (l__law_kind : K.lookup f__law_kind = some ⟨oc__law_kind, od__law_kind, .func (PySem.W.fnOf "_law_kind" "_law_kind" (defArgs (topS 24)) (defBody (topS 24)) (defScope (topS 24)) .none kV__law_kind dc__law_kind pm__law_kind an__law_kind cd__law_kind ct__law_kind), sl__law_kind⟩) (c__law_kind : PySem.W.codeIn K cd__law_kind "_law_kind" = true) (k__law_kind : PySem.W.keepIn K (.ref f__law_kind) = true)
    (a__law_twins : PySem.W.nsIn K mainGlobals "_law_twins" = some (some (.ref f__law_twins))) (l__law_twins : K.lookup f__law_twins = some ⟨oc__law_twins, od__law_twins, .func (PySem.W.fnOf "_law_twins" "_law_twins" (defArgs (topS 25)) (defBody (topS 25)) (defScope (topS 25)) .none kV__law_twins dc__law_twins pm__law_twins an__law_twins cd__law_twins ct__law_twins), sl__law_twins⟩) (c__law_twins : PySem.W.codeIn K cd__law_twins "_law_twins" = true) (k__law_twins : PySem.W.keepIn K (.ref f__law_twins) = true)
    (a__law_span : PySem.W.nsIn K mainGlobals "_law_span" = some (some (.ref f__law_span))) (l__law_span : K.lookup f__law_span = some ⟨oc__law_span, od__law_span, .func (PySem.W.fnOf "_law_span" "_law_span" (defArgs (topS 26)) (defBody (topS 26)) (defScope (topS 26)) .none kV__law_span dc__law_span pm__law_span an__law_span cd__law_span ct__law_span), sl__law_span⟩) (c__law_span : PySem.W.codeIn K cd__law_span "_law_span" = true) (k__law_span : PySem.W.keepIn K (.ref f__law_span) = true)
    (a__law_rule : PySem.W.nsIn K mainGlobals "_law_rule" = some (some (.ref f__law_rule))) (l__law_rule : K.lookup f__law_rule = some ⟨oc__law_rule, od__law_rule, .func (PySem.W.fnOf "_law_rule" "_law_rule" (defArgs (topS 27)) (defBody (topS 27)) (defScope (topS 27)) .none kV__law_rule dc__law_rule pm__law_rule an__law_rule cd__law_rule ct__law_rule), sl__law_rule⟩) (c__law_rule : PySem.W.codeIn K cd__law_rule "_law_rule" = true) (k__law_rule : PySem.W.keepIn K (.ref f__law_rule) = true)
    (a__law_house : PySem.W.nsIn K mainGlobals "_law_house" = some (some (.ref f__law_house))) (l__law_house : K.lookup f__law_house = some ⟨oc__law_house, od__law_house, .func (PySem.W.fnOf "_law_house" "_law_house" (defArgs (topS 28)) (defBody (topS 28)) (defScope (topS 28)) .none kV__law_house dc__law_house pm__law_house an__law_house cd__law_house ct__law_house), sl__law_house⟩) (c__law_house : PySem.W.codeIn K cd__law_house "_law_house" = true) (k__law_house : PySem.W.keepIn K (.ref f__law_house) = true)
    (a__law_backs : PySem.W.nsIn K mainGlobals "_law_backs" = some (some (.ref f__law_backs))) (l__law_backs : K.lookup f__law_backs = some ⟨oc__law_backs, od__law_backs, .func (PySem.W.fnOf "_law_backs" "_law_backs" (defArgs (topS 29)) (defBody (topS 29)) (defScope (topS 29)) .none kV__law_backs dc__law_backs pm__law_backs an__law_backs cd__law_backs ct__law_backs), sl__law_backs⟩) (c__law_backs : PySem.W.codeIn K cd__law_backs "_law_backs" = true) (k__law_backs : PySem.W.keepIn K (.ref f__law_backs) = true)
    (a__law_waiting : PySem.W.nsIn K mainGlobals "_law_waiting" = some (some (.ref f__law_waiting))) (l__law_waiting : K.lookup f__law_waiting = some ⟨oc__law_waiting, od__law_waiting, .func (PySem.W.fnOf "_law_waiting" "_law_waiting" (defArgs (topS 30)) (defBody (topS 30)) (defScope (topS 30)) .none kV__law_waiting dc__law_waiting pm__law_waiting an__law_waiting cd__law_waiting ct__law_waiting), sl__law_waiting⟩) (c__law_waiting : PySem.W.codeIn K cd__law_waiting "_law_waiting" = true) (k__law_waiting : PySem.W.keepIn K (.ref f__law_waiting) = true)
    (a__law_called : PySem.W.nsIn K mainGlobals "_law_called" = some (some (.ref f__law_called))) (l__law_called : K.lookup f__law_called = some ⟨oc__law_called, od__law_called, .func (PySem.W.fnOf "_law_called" "_law_called" (defArgs (topS 31)) (defBody (topS 31)) (defScope (topS 31)) .none kV__law_called dc__law_called pm__law_called an__law_called cd__law_called ct__law_called), sl__law_called⟩) (c__law_called : PySem.W.codeIn K cd__law_called "_law_called" = true) (k__law_called : PySem.W.keepIn K (.ref f__law_called) = true)
    (a__law_tick : PySem.W.nsIn K mainGlobals "_law_tick" = some (some (.ref f__law_tick))) (l__law_tick : K.lookup f__law_tick = some ⟨oc__law_tick, od__law_tick, .func (PySem.W.fnOf "_law_tick" "_law_tick" (defArgs (topS 32)) (defBody (topS 32)) (defScope (topS 32)) .none kV__law_tick dc__law_tick pm__law_tick an__law_tick cd__law_tick ct__law_tick), sl__law_tick⟩) (c__law_tick : PySem.W.codeIn K cd__law_tick "_law_tick" = true) (k__law_tick : PySem.W.keepIn K (.ref f__law_tick) = true)
    (a__law_choices : PySem.W.nsIn K mainGlobals "_law_choices" = some (some (.ref f__law_choices))) (l__law_choices : K.lookup f__law_choices = some ⟨oc__law_choices, od__law_choices, .func (PySem.W.fnOf "_law_choices" "_law_choices" (defArgs (topS 33)) (defBody (topS 33)) (defScope (topS 33)) .none kV__law_choices dc__law_choices pm__law_choices an__law_choices cd__law_choices ct__law_choices), sl__law_choices⟩) (c__law_choices : PySem.W.codeIn K cd__law_choices "_law_choices" = true) (k__law_choices : PySem.W.keepIn K (.ref f__law_choices) = true)
    (a__law_begin : PySem.W.nsIn K mainGlobals "_law_begin" = some (some (.ref f__law_begin))) (l__law_begin : K.lookup f__law_begin = some ⟨oc__law_begin, od__law_begin, .func (PySem.W.fnOf "_law_begin" "_law_begin" (defArgs (topS 34)) (defBody (topS 34)) (defScope (topS 34)) .none kV__law_begin dc__law_begin pm__law_begin an__law_begin cd__law_begin ct__law_begin), sl__law_begin⟩) (c__law_begin : PySem.W.codeIn K cd__law_begin "_law_begin" = true) (k__law_begin : PySem.W.keepIn K (.ref f__law_begin) = true)
    (a__law_int : PySem.W.nsIn K mainGlobals "_law_int" = some (some (.ref f__law_int))) (l__law_int : K.lookup f__law_int = some ⟨oc__law_int, od__law_int, .func (PySem.W.fnOf "_law_int" "_law_int" (defArgs (topS 35)) (defBody (topS 35)) (defScope (topS 35)) .none kV__law_int dc__law_int pm__law_int an__law_int cd__law_int ct__law_int), sl__law_int⟩) (c__law_int : PySem.W.codeIn K cd__law_int "_law_int" = true) (k__law_int : PySem.W.keepIn K (.ref f__law_int) = true)
    (a__law_made : PySem.W.nsIn K mainGlobals "_law_made" = some (some (.ref f__law_made))) (l__law_made : K.lookup f__law_made = some ⟨oc__law_made, od__law_made, .func (PySem.W.fnOf "_law_made" "_law_made" (defArgs (topS 36)) (defBody (topS 36)) (defScope (topS 36)) .none kV__law_made dc__law_made pm__law_made an__law_made cd__law_made ct__law_made), sl__law_made⟩) (c__law_made : PySem.W.codeIn K cd__law_made "_law_made" = true) (k__law_made : PySem.W.keepIn K (.ref f__law_made) = true)
    (a__law_good_span : PySem.W.nsIn K mainGlobals "_law_good_span" = some (some (.ref f__law_good_span))) (l__law_good_span : K.lookup f__law_good_span = some ⟨oc__law_good_span, od__law_good_span, .func (PySem.W.fnOf "_law_good_span" "_law_good_span" (defArgs (topS 37)) (defBody (topS 37)) (defScope (topS 37)) .none kV__law_good_span dc__law_good_span pm__law_good_span an__law_good_span cd__law_good_span ct__law_good_span), sl__law_good_span⟩) (c__law_good_span : PySem.W.codeIn K cd__law_good_span "_law_good_span" = true) (k__law_good_span : PySem.W.keepIn K (.ref f__law_good_span) = true)
    (a__law_good_house : PySem.W.nsIn K mainGlobals "_law_good_house" = some (some (.ref f__law_good_house))) (l__law_good_house : K.lookup f__law_good_house = some ⟨oc__law_good_house, od__law_good_house, .func (PySem.W.fnOf "_law_good_house" "_law_good_house" (defArgs (topS 38)) (defBody (topS 38)) (defScope (topS 38)) .none kV__law_good_house dc__law_good_house pm__law_good_house an__law_good_house cd__law_good_house ct__law_good_house), sl__law_good_house⟩) (c__law_good_house : PySem.W.codeIn K cd__law_good_house "_law_good_house" = true) (k__law_good_house : PySem.W.keepIn K (.ref f__law_good_house) = true)
    (a__law_good_rule : PySem.W.nsIn K mainGlobals "_law_good_rule" = some (some (.ref f__law_good_rule))) (l__law_good_rule : K.lookup f__law_good_rule = some ⟨oc__law_good_rule, od__law_good_rule, .func (PySem.W.fnOf "_law_good_rule" "_law_good_rule" (defArgs (topS 39)) (defBody (topS 39)) (defScope (topS 39)) .none kV__law_good_rule dc__law_good_rule pm__law_good_rule an__law_good_rule cd__law_good_rule ct__law_good_rule), sl__law_good_rule⟩) (c__law_good_rule : PySem.W.codeIn K cd__law_good_rule "_law_good_rule" = true) (k__law_good_rule : PySem.W.keepIn K (.ref f__law_good_rule) = true)
    (a__law_good_plan : PySem.W.nsIn K mainGlobals "_law_good_plan" = some (some (.ref f__law_good_plan))) (l__law_good_plan : K.lookup f__law_good_plan = some ⟨oc__law_good_plan, od__law_good_plan, .func (PySem.W.fnOf "_law_good_plan" "_law_good_plan" (defArgs (topS 40)) (defBody (topS 40)) (defScope (topS 40)) .none kV__law_good_plan dc__law_good_plan pm__law_good_plan an__law_good_plan cd__law_good_plan ct__law_good_plan), sl__law_good_plan⟩) (c__law_good_plan : PySem.W.codeIn K cd__law_good_plan "_law_good_plan" = true) (k__law_good_plan : PySem.W.keepIn K (.ref f__law_good_plan) = true)
    (a__law_good_stand : PySem.W.nsIn K mainGlobals "_law_good_stand" = some (some (.ref f__law_good_stand))) (l__law_good_stand : K.lookup f__law_good_stand = some ⟨oc__law_good_stand, od__law_good_stand, .func (PySem.W.fnOf "_law_good_stand" "_law_good_stand" (defArgs (topS 41)) (defBody (topS 41)) (defScope (topS 41)) .none kV__law_good_stand dc__law_good_stand pm__law_good_stand an__law_good_stand cd__law_good_stand ct__law_good_stand), sl__law_good_stand⟩) (c__law_good_stand : PySem.W.codeIn K cd__law_good_stand "_law_good_stand" = true) (k__law_good_stand : PySem.W.keepIn K (.ref f__law_good_stand) = true)
    (a__law_bent : PySem.W.nsIn K mainGlobals "_law_bent" = some (some (.ref f__law_bent))) (l__law_bent : K.lookup f__law_bent = some ⟨oc__law_bent, od__law_bent, .func (PySem.W.fnOf "_law_bent" "_law_bent" (defArgs (topS 42)) (defBody (topS 42)) (defScope (topS 42)) .none kV__law_bent dc__law_bent pm__law_bent an__law_bent cd__law_bent ct__law_bent), sl__law_bent⟩) (c__law_bent : PySem.W.codeIn K cd__law_bent "_law_bent" = true) (k__law_bent : PySem.W.keepIn K (.ref f__law_bent) = true)
    (a_law201 : PySem.W.nsIn K mainGlobals "law" = some (some (.ref f_law201))) (l_law201 : K.lookup f_law201 = some ⟨oc_law201, od_law201, .func (PySem.W.fnOf "law" "law" (defArgs (topS 43)) (defBody (topS 43)) (defScope (topS 43)) .none kV_law201 dc_law201 pm_law201 an_law201 cd_law201 ct_law201), sl_law201⟩) (c_law201 : PySem.W.codeIn K cd_law201 "law" = true) (k_law201 : PySem.W.keepIn K (.ref f_law201) = true)
    (z1 : PySem.W.nsIn K mainGlobals "AFTER" = some (some (.ref r1)))
    (l5 : K.lookup r1 = some ⟨.type "tuple", od5, .seq #[.str "last" t2, .str "next" t3, .str "same" t4] n5, sl5⟩)
    (z6 : PySem.W.nsIn K mainGlobals "LATE" = some (some (.ref r6)))
    (l9 : K.lookup r6 = some ⟨.type "tuple", od9, .seq #[.str "first" t7, .str "stay" t8] n9, sl9⟩)
    (z10 : PySem.W.nsIn K mainGlobals "BEGIN" = some (some (.ref r10)))
    (l13 : K.lookup r10 = some ⟨.type "tuple", od13, .seq #[.ref r11, .int (-1) t12] n13, sl13⟩)
    (l14 : K.lookup r11 = some ⟨.type "tuple", od14, .seq #[] n14, sl14⟩)
    (z15 : PySem.W.nsIn K mainGlobals "FREE" = some (some (.int (-1) t15)))
    (z_len : PySem.W.nsIn K mainGlobals "len" = some none)
    (z_int : PySem.W.nsIn K mainGlobals "int" = some none)
    (z_abs : PySem.W.nsIn K mainGlobals "abs" = some none)
    (z_list : PySem.W.nsIn K mainGlobals "list" = some none)
    (z_tuple : PySem.W.nsIn K mainGlobals "tuple" = some none)
    (z_sorted : PySem.W.nsIn K mainGlobals "sorted" = some none)
    (z_any : PySem.W.nsIn K mainGlobals "any" = some none)
    (z_all : PySem.W.nsIn K mainGlobals "all" = some none)
    (z_max : PySem.W.nsIn K mainGlobals "max" = some none)
    (z_min : PySem.W.nsIn K mainGlobals "min" = some none)
    (z_range : PySem.W.nsIn K mainGlobals "range" = some none)
    (z_zip : PySem.W.nsIn K mainGlobals "zip" = some none)
    (z_isinstance : PySem.W.nsIn K mainGlobals "isinstance" = some none)
    (z_bool : PySem.W.nsIn K mainGlobals "bool" = some none)
    (z_str : PySem.W.nsIn K mainGlobals "str" = some none)
    (z_set : PySem.W.nsIn K mainGlobals "set" = some none)
    (z_dict : PySem.W.nsIn K mainGlobals "dict" = some none)
    : ∃ fd : FuncData, (∀ (s : Shared) (v : Value), BindsTo s fd ⟨[v], []⟩ [("script", v)]) ∧ ∀ base : Heap, K.In base → base.Ns mainGlobals mg → FnOk l.prog w K mg base CX0 71 fa fd ["script"] (spF K 1 ((gam TT 0 71).f 201)) := by
  have d_is_within : DefIn K "is_within" (topS 8) f_is_within := .mk a_is_within l_is_within c_is_within k_is_within
  have d_is_row : DefIn K "is_row" (topS 9) f_is_row := .mk a_is_row l_is_row c_is_row k_is_row
  have d_is_word : DefIn K "is_word" (topS 10) f_is_word := .mk a_is_word l_is_word c_is_word k_is_word
  have d_is_span : DefIn K "is_span" (topS 11) f_is_span := .mk a_is_span l_is_span c_is_span k_is_span
  have d_is_house : DefIn K "is_house" (topS 12) f_is_house := .mk a_is_house l_is_house c_is_house k_is_house
  have d_is_rule : DefIn K "is_rule" (topS 13) f_is_rule := .mk a_is_rule l_is_rule c_is_rule k_is_rule
  have d_is_plan : DefIn K "is_plan" (topS 14) f_is_plan := .mk a_is_plan l_is_plan c_is_plan k_is_plan
  have d_rules_of : DefIn K "rules_of" (topS 15) f_rules_of := .mk a_rules_of l_rules_of c_rules_of k_rules_of
  have d_all_rules : DefIn K "all_rules" (topS 16) f_all_rules := .mk a_all_rules l_all_rules c_all_rules k_all_rules
  have d_look_at_plan : DefIn K "look_at_plan" (topS 17) f_look_at_plan := .mk a_look_at_plan l_look_at_plan c_look_at_plan k_look_at_plan
  have d_first_stand : DefIn K "first_stand" (topS 18) f_first_stand := .mk a_first_stand l_first_stand c_first_stand k_first_stand
  have d_fits : DefIn K "fits" (topS 19) f_fits := .mk a_fits l_fits c_fits k_fits
  have d_is_stand : DefIn K "is_stand" (topS 20) f_is_stand := .mk a_is_stand l_is_stand c_is_stand k_is_stand
  have d__law_spring : DefIn K "_law_spring" (topS 22) f__law_spring := .mk a__law_spring l__law_spring c__law_spring k__law_spring
  have d__law_pick : DefIn K "_law_pick" (topS 23) f__law_pick := .mk a__law_pick l__law_pick c__law_pick k__law_pick
  have d__law_kind : DefIn K "_law_kind" (topS 24) f__law_kind := .mk a__law_kind l__law_kind c__law_kind k__law_kind
  have d__law_twins : DefIn K "_law_twins" (topS 25) f__law_twins := .mk a__law_twins l__law_twins c__law_twins k__law_twins
  have d__law_span : DefIn K "_law_span" (topS 26) f__law_span := .mk a__law_span l__law_span c__law_span k__law_span
  have d__law_rule : DefIn K "_law_rule" (topS 27) f__law_rule := .mk a__law_rule l__law_rule c__law_rule k__law_rule
  have d__law_house : DefIn K "_law_house" (topS 28) f__law_house := .mk a__law_house l__law_house c__law_house k__law_house
  have d__law_backs : DefIn K "_law_backs" (topS 29) f__law_backs := .mk a__law_backs l__law_backs c__law_backs k__law_backs
  have d__law_waiting : DefIn K "_law_waiting" (topS 30) f__law_waiting := .mk a__law_waiting l__law_waiting c__law_waiting k__law_waiting
  have d__law_called : DefIn K "_law_called" (topS 31) f__law_called := .mk a__law_called l__law_called c__law_called k__law_called
  have d__law_tick : DefIn K "_law_tick" (topS 32) f__law_tick := .mk a__law_tick l__law_tick c__law_tick k__law_tick
  have d__law_choices : DefIn K "_law_choices" (topS 33) f__law_choices := .mk a__law_choices l__law_choices c__law_choices k__law_choices
  have d__law_begin : DefIn K "_law_begin" (topS 34) f__law_begin := .mk a__law_begin l__law_begin c__law_begin k__law_begin
  have d__law_int : DefIn K "_law_int" (topS 35) f__law_int := .mk a__law_int l__law_int c__law_int k__law_int
  have d__law_made : DefIn K "_law_made" (topS 36) f__law_made := .mk a__law_made l__law_made c__law_made k__law_made
  have d__law_good_span : DefIn K "_law_good_span" (topS 37) f__law_good_span := .mk a__law_good_span l__law_good_span c__law_good_span k__law_good_span
  have d__law_good_house : DefIn K "_law_good_house" (topS 38) f__law_good_house := .mk a__law_good_house l__law_good_house c__law_good_house k__law_good_house
  have d__law_good_rule : DefIn K "_law_good_rule" (topS 39) f__law_good_rule := .mk a__law_good_rule l__law_good_rule c__law_good_rule k__law_good_rule
  have d__law_good_plan : DefIn K "_law_good_plan" (topS 40) f__law_good_plan := .mk a__law_good_plan l__law_good_plan c__law_good_plan k__law_good_plan
  have d__law_good_stand : DefIn K "_law_good_stand" (topS 41) f__law_good_stand := .mk a__law_good_stand l__law_good_stand c__law_good_stand k__law_good_stand
  have d__law_bent : DefIn K "_law_bent" (topS 42) f__law_bent := .mk a__law_bent l__law_bent c__law_bent k__law_bent
  have d_law201 : DefIn K "law" (topS 43) f_law201 := .mk a_law201 l_law201 c_law201 k_law201
  have facts : ∀ base, ∀ x ge, G1.lookup x = some ge → GFact K mg TT G1 x ge ∨ HFact l.prog w K mg base TT 0 G1 x ge := fun base => 
    facts_cons (.inl (d_is_within.factF X G s_is_within p_is_within rfl cc_is_within rfl rfl)) <|
    facts_cons (.inl (d_is_row.factF X G s_is_row p_is_row rfl cc_is_row rfl rfl)) <|
    facts_cons (.inl (d_is_word.factF X G s_is_word p_is_word rfl cc_is_word rfl rfl)) <|
    facts_cons (.inl (d_is_span.factF X G s_is_span p_is_span rfl cc_is_span rfl rfl)) <|
    facts_cons (.inl (d_is_house.factF X G s_is_house p_is_house rfl cc_is_house rfl rfl)) <|
    facts_cons (.inl (d_is_rule.factF X G s_is_rule p_is_rule rfl cc_is_rule rfl rfl)) <|
    facts_cons (.inl (d_is_plan.factF X G s_is_plan p_is_plan rfl cc_is_plan rfl rfl)) <|
    facts_cons (.inr (hand_rules_of X G d_rules_of)) <|
    facts_cons (.inl (d_all_rules.factF X G s_all_rules p_all_rules rfl cc_all_rules rfl rfl)) <|
    facts_cons (.inl (d_look_at_plan.factF X G s_look_at_plan p_look_at_plan rfl cc_look_at_plan rfl rfl)) <|
    facts_cons (.inl (d_first_stand.factF X G s_first_stand p_first_stand rfl cc_first_stand rfl rfl)) <|
    facts_cons (.inl (d_fits.factF X G s_fits p_fits rfl cc_fits rfl rfl)) <|
    facts_cons (.inl (d_is_stand.factF X G s_is_stand p_is_stand rfl cc_is_stand rfl rfl)) <|
    facts_cons (.inl (d__law_spring.factF X G s__law_spring p__law_spring rfl cc__law_spring rfl rfl)) <|
    facts_cons (.inl (d__law_pick.factG X G s__law_pick p__law_pick rfl cc__law_pick rfl rfl)) <|
    facts_cons (.inl (d__law_kind.factF X G s__law_kind p__law_kind rfl cc__law_kind rfl rfl)) <|
    facts_cons (.inl (d__law_twins.factF X G s__law_twins p__law_twins rfl cc__law_twins rfl rfl)) <|
    facts_cons (.inl (d__law_span.factG X G s__law_span p__law_span rfl cc__law_span rfl rfl)) <|
    facts_cons (.inl (d__law_rule.factG X G s__law_rule p__law_rule rfl cc__law_rule rfl rfl)) <|
    facts_cons (.inl (d__law_house.factG X G s__law_house p__law_house rfl cc__law_house rfl rfl)) <|
    facts_cons (.inl (d__law_backs.factF X G s__law_backs p__law_backs rfl cc__law_backs rfl rfl)) <|
    facts_cons (.inl (d__law_waiting.factF X G s__law_waiting p__law_waiting rfl cc__law_waiting rfl rfl)) <|
    facts_cons (.inl (d__law_called.factF X G s__law_called p__law_called rfl cc__law_called rfl rfl)) <|
    facts_cons (.inl (d__law_tick.factF X G s__law_tick p__law_tick rfl cc__law_tick rfl rfl)) <|
    facts_cons (.inl (d__law_choices.factF X G s__law_choices p__law_choices rfl cc__law_choices rfl rfl)) <|
    facts_cons (.inl (d__law_begin.factF X G s__law_begin p__law_begin rfl cc__law_begin rfl rfl)) <|
    facts_cons (.inl (d__law_int.factF X G s__law_int p__law_int rfl cc__law_int rfl rfl)) <|
    facts_cons (.inl (d__law_made.factF X G s__law_made p__law_made rfl cc__law_made rfl rfl)) <|
    facts_cons (.inl (d__law_good_span.factF X G s__law_good_span p__law_good_span rfl cc__law_good_span rfl rfl)) <|
    facts_cons (.inl (d__law_good_house.factF X G s__law_good_house p__law_good_house rfl cc__law_good_house rfl rfl)) <|
    facts_cons (.inl (d__law_good_rule.factF X G s__law_good_rule p__law_good_rule rfl cc__law_good_rule rfl rfl)) <|
    facts_cons (.inl (d__law_good_plan.factF X G s__law_good_plan p__law_good_plan rfl cc__law_good_plan rfl rfl)) <|
    facts_cons (.inl (d__law_good_stand.factF X G s__law_good_stand p__law_good_stand rfl cc__law_good_stand rfl rfl)) <|
    facts_cons (.inl (d__law_bent.factG X G s__law_bent p__law_bent rfl cc__law_bent rfl rfl)) <|
    facts_cons (.inl (fact_ref X G z1 (tup_in (xs := [V.str "last", V.str "next", V.str "same"]) l5 (by have := sizeLine_eq; simp; try omega) (.cons ⟨_, rfl⟩ (.cons ⟨_, rfl⟩ (.cons ⟨_, rfl⟩ .nil))) fun H => .cons (.str "last" (by decide +kernel)) (.cons (.str "next" (by decide +kernel)) (.cons (.str "same" (by decide +kernel)) .nil))))) <|
    facts_cons (.inl (fact_ref X G z6 (tup_in (xs := [V.str "first", V.str "stay"]) l9 (by have := sizeLine_eq; simp; try omega) (.cons ⟨_, rfl⟩ (.cons ⟨_, rfl⟩ .nil)) fun H => .cons (.str "first" (by decide +kernel)) (.cons (.str "stay" (by decide +kernel)) .nil)))) <|
    facts_cons (.inl (fact_ref X G z10 (tup_in (xs := [V.ref r11, V.int (-1)]) l13 (by have := sizeLine_eq; simp; try omega) (.cons rfl (.cons ⟨_, rfl⟩ .nil)) fun H => .cons ((tup_in (xs := []) l14 (by have := sizeLine_eq; simp; try omega) (.nil) fun H => .nil) H) (.cons (.int (-1)) .nil)))) <|
    facts_cons (.inl (fact_int X G z15)) <|
    facts_cons (.inl (fact_bi X G z_len)) <|
    facts_cons (.inl (fact_bi X G z_int)) <|
    facts_cons (.inl (fact_bi X G z_abs)) <|
    facts_cons (.inl (fact_bi X G z_list)) <|
    facts_cons (.inl (fact_bi X G z_tuple)) <|
    facts_cons (.inl (fact_bi X G z_sorted)) <|
    facts_cons (.inl (fact_bi X G z_any)) <|
    facts_cons (.inl (fact_bi X G z_all)) <|
    facts_cons (.inl (fact_bi X G z_max)) <|
    facts_cons (.inl (fact_bi X G z_min)) <|
    facts_cons (.inl (fact_bi X G z_range)) <|
    facts_cons (.inl (fact_bi X G z_zip)) <|
    facts_cons (.inl (fact_bi X G z_isinstance)) <|
    facts_cons (.inl (fact_bi X G z_bool)) <|
    facts_cons (.inl (fact_bi X G z_str)) <|
    facts_cons (.inl (fact_bi X G z_set)) <|
    facts_cons (.inl (fact_bi X G z_dict)) <|
    facts_nil
  have e := hfa.symm.trans (PySem.W.mg_of X G d_law201.1)
  cases e
  obtain ⟨a, ⟨oc, od, kV, doc, pm, an, cdv, ct, osl, lk, c⟩, kp⟩ := d_law201
  have F := fun_mk lk c kp
  refine ⟨PySem.W.fnOf "law" "law" (defArgs (topS 43)) (defBody (topS 43)) (defScope (topS 43)) .none kV doc pm an cdv ct, fun s v => .of_eq rfl, fun base _ _ => ?_⟩
  have ih := fun x ge hx => prog_ok (P := l.prog) (w := w) (base := base) (W := 0) (facts base) 70 x ge hx
  exact fn_F (g := (gam TT 0 71).f 201) F s_law201 rfl cc_law201 ih fun ds r _ e => ⟨0, e⟩
end AW
open PySem PySem.W PyProof.Rows
set_option maxHeartbeats 0 in
theorem PySem.Challenge.cw_awaywhencalled_k01_houses_rules_and_stan_holds : PySem.Challenge.rw_awaywhencalled_k01_houses_rules_and_stan.Holds := by
  w_on; o_law; k_head; (case hw => w_witness2)
  k_fill
  refine L2.walk_of (l := PySem.Challenge.rw_awaywhencalled_k01_houses_rules_and_stan) (n := 63) (k := 71) (x := "script") (CX := fun _ => L2.CX0) (sp := fun w => AW.spF _ 1 ((AW.gam AW.TT 0 71).f 201)) rfl (by decide) rfl ⟨rfl, by decide, by decide⟩ (fun w h Y => PySem.W.kIn_of Y) ?F (fun _ _ a ns hl hO hS => AW.law_sp hO hS (AW.k01_ok ns) _) (fun _ _ _ _ _ h => h)
  case F =>
    intro w mg fa h KX G hmg
    refine' AW.all_mk KX G hmg ?a_is_within ?l_is_within ?c_is_within ?k_is_within ?a_is_row ?l_is_row ?c_is_row ?k_is_row ?a_is_word ?l_is_word ?c_is_word ?k_is_word ?a_is_span ?l_is_span ?c_is_span ?k_is_span ?a_is_house ?l_is_house ?c_is_house ?k_is_house ?a_is_rule ?l_is_rule ?c_is_rule ?k_is_rule ?a_is_plan ?l_is_plan ?c_is_plan ?k_is_plan ?a_rules_of ?l_rules_of ?c_rules_of ?k_rules_of ?a_all_rules ?l_all_rules ?c_all_rules ?k_all_rules ?a_look_at_plan ?l_look_at_plan ?c_look_at_plan ?k_look_at_plan ?a_first_stand ?l_first_stand ?c_first_stand ?k_first_stand ?a_fits ?l_fits ?c_fits ?k_fits ?a_is_stand ?l_is_stand ?c_is_stand ?k_is_stand ?a__law_spring ?l__law_spring ?c__law_spring ?k__law_spring ?a__law_pick ?l__law_pick ?c__law_pick ?k__law_pick ?a__law_kind ?l__law_kind ?c__law_kind ?k__law_kind ?a__law_twins ?l__law_twins ?c__law_twins ?k__law_twins ?a__law_span ?l__law_span ?c__law_span ?k__law_span ?a__law_rule ?l__law_rule ?c__law_rule ?k__law_rule ?a__law_house ?l__law_house ?c__law_house ?k__law_house ?a__law_backs ?l__law_backs ?c__law_backs ?k__law_backs ?a__law_waiting ?l__law_waiting ?c__law_waiting ?k__law_waiting ?a__law_called ?l__law_called ?c__law_called ?k__law_called ?a__law_tick ?l__law_tick ?c__law_tick ?k__law_tick ?a__law_choices ?l__law_choices ?c__law_choices ?k__law_choices ?a__law_begin ?l__law_begin ?c__law_begin ?k__law_begin ?a__law_int ?l__law_int ?c__law_int ?k__law_int ?a__law_made ?l__law_made ?c__law_made ?k__law_made ?a__law_good_span ?l__law_good_span ?c__law_good_span ?k__law_good_span ?a__law_good_house ?l__law_good_house ?c__law_good_house ?k__law_good_house ?a__law_good_rule ?l__law_good_rule ?c__law_good_rule ?k__law_good_rule ?a__law_good_plan ?l__law_good_plan ?c__law_good_plan ?k__law_good_plan ?a__law_good_stand ?l__law_good_stand ?c__law_good_stand ?k__law_good_stand ?a__law_bent ?l__law_bent ?c__law_bent ?k__law_bent ?a_law201 ?l_law201 ?c_law201 ?k_law201 ?z1 ?l5 ?z6 ?l9 ?z10 ?l13 ?l14 ?z15 ?z_len ?z_int ?z_abs ?z_list ?z_tuple ?z_sorted ?z_any ?z_all ?z_max ?z_min ?z_range ?z_zip ?z_isinstance ?z_bool ?z_str ?z_set ?z_dict
    (case a_is_within => k_is); (case l_is_within => k_is); (case c_is_within => k_is); (case k_is_within => k_is); (case a_is_row => k_is); (case l_is_row => k_is)
    (case c_is_row => k_is); (case k_is_row => k_is); (case a_is_word => k_is); (case l_is_word => k_is); (case c_is_word => k_is); (case k_is_word => k_is)
    (case a_is_span => k_is); (case l_is_span => k_is); (case c_is_span => k_is); (case k_is_span => k_is); (case a_is_house => k_is); (case l_is_house => k_is)
    (case c_is_house => k_is); (case k_is_house => k_is); (case a_is_rule => k_is); (case l_is_rule => k_is); (case c_is_rule => k_is); (case k_is_rule => k_is)
    (case a_is_plan => k_is); (case l_is_plan => k_is); (case c_is_plan => k_is); (case k_is_plan => k_is); (case a_rules_of => k_is); (case l_rules_of => k_is)
    (case c_rules_of => k_is); (case k_rules_of => k_is); (case a_all_rules => k_is); (case l_all_rules => k_is); (case c_all_rules => k_is); (case k_all_rules => k_is)
    (case a_look_at_plan => k_is); (case l_look_at_plan => k_is); (case c_look_at_plan => k_is); (case k_look_at_plan => k_is); (case a_first_stand => k_is); (case l_first_stand => k_is)
    (case c_first_stand => k_is); (case k_first_stand => k_is); (case a_fits => k_is); (case l_fits => k_is); (case c_fits => k_is); (case k_fits => k_is)
    (case a_is_stand => k_is); (case l_is_stand => k_is); (case c_is_stand => k_is); (case k_is_stand => k_is); (case a__law_spring => k_is); (case l__law_spring => k_is)
    (case c__law_spring => k_is); (case k__law_spring => k_is); (case a__law_pick => k_is); (case l__law_pick => k_is); (case c__law_pick => k_is); (case k__law_pick => k_is)
    (case a__law_kind => k_is); (case l__law_kind => k_is); (case c__law_kind => k_is); (case k__law_kind => k_is); (case a__law_twins => k_is); (case l__law_twins => k_is)
    (case c__law_twins => k_is); (case k__law_twins => k_is); (case a__law_span => k_is); (case l__law_span => k_is); (case c__law_span => k_is); (case k__law_span => k_is)
    (case a__law_rule => k_is); (case l__law_rule => k_is); (case c__law_rule => k_is); (case k__law_rule => k_is); (case a__law_house => k_is); (case l__law_house => k_is)
    (case c__law_house => k_is); (case k__law_house => k_is); (case a__law_backs => k_is); (case l__law_backs => k_is); (case c__law_backs => k_is); (case k__law_backs => k_is)
    (case a__law_waiting => k_is); (case l__law_waiting => k_is); (case c__law_waiting => k_is); (case k__law_waiting => k_is); (case a__law_called => k_is); (case l__law_called => k_is)
    (case c__law_called => k_is); (case k__law_called => k_is); (case a__law_tick => k_is); (case l__law_tick => k_is); (case c__law_tick => k_is); (case k__law_tick => k_is)
    (case a__law_choices => k_is); (case l__law_choices => k_is); (case c__law_choices => k_is); (case k__law_choices => k_is); (case a__law_begin => k_is); (case l__law_begin => k_is)
    (case c__law_begin => k_is); (case k__law_begin => k_is); (case a__law_int => k_is); (case l__law_int => k_is); (case c__law_int => k_is); (case k__law_int => k_is)
    (case a__law_made => k_is); (case l__law_made => k_is); (case c__law_made => k_is); (case k__law_made => k_is); (case a__law_good_span => k_is); (case l__law_good_span => k_is)
    (case c__law_good_span => k_is); (case k__law_good_span => k_is); (case a__law_good_house => k_is); (case l__law_good_house => k_is); (case c__law_good_house => k_is); (case k__law_good_house => k_is)
    (case a__law_good_rule => k_is); (case l__law_good_rule => k_is); (case c__law_good_rule => k_is); (case k__law_good_rule => k_is); (case a__law_good_plan => k_is); (case l__law_good_plan => k_is)
    (case c__law_good_plan => k_is); (case k__law_good_plan => k_is); (case a__law_good_stand => k_is); (case l__law_good_stand => k_is); (case c__law_good_stand => k_is); (case k__law_good_stand => k_is)
    (case a__law_bent => k_is); (case l__law_bent => k_is); (case c__law_bent => k_is); (case k__law_bent => k_is); (case a_law201 => k_is); (case l_law201 => k_is)
    (case c_law201 => k_is); (case k_law201 => k_is); (case z1 => k_is); (case l5 => k_is); (case z6 => k_is); (case l9 => k_is)
    (case z10 => k_is); (case l13 => k_is); (case l14 => k_is); (case z15 => k_is); (case z_len => k_is); (case z_int => k_is)
    (case z_abs => k_is); (case z_list => k_is); (case z_tuple => k_is); (case z_sorted => k_is); (case z_any => k_is); (case z_all => k_is)
    (case z_max => k_is); (case z_min => k_is); (case z_range => k_is); (case z_zip => k_is); (case z_isinstance => k_is); (case z_bool => k_is)
    (case z_str => k_is); (case z_set => k_is); (case z_dict => k_is)
#print axioms PySem.Challenge.cw_awaywhencalled_k01_houses_rules_and_stan_holds
