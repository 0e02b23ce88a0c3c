import PyProof.Rows.All
import Wide.All
import OpenK.AllK
import Wide.FinOn
import HandS.ForMost
import HandS.Star
import HandS.Deep
import HandS.Defaults
import HandS.Wide
import HandS.TupAny
import KE.SortKeyHeap
import KE.DataCmp
import KE.KDictKeyed
import KE.KEqDict
import HandS.Lambda
import HandS.TupSets
import KE.KSortKey
import HandS.Style
import HandS.Codes
import PySem.Challenge.RW_oncestream_k77_whole_numbers_held_then_c
import KE.KStateDown
import HandS.Ends
import HandS.More
import HandS.Words
import HandS.Head0
import HandS.Head1
import HandS.Head2
import HandS.HeadHook1
import HandS.HeadHook2
import HandS.HeadHook3
import HandS.HeadHook4
import HandS.HeadEnd
import HandS.EndTab
import HandS.HeadWalk
import HandS.NestedK
section
set_option Elab.async false
set_option linter.all false
set_option maxRecDepth 100000
set_option maxHeartbeats 2000000
/-! DL1: plain data over the hand layer: the relation of a value to data, what is kept, what an operation gives. -/
namespace DL
open PySem PySem.Spec PyProof.Rows L2

abbrev D := PyData
/-- data as a dict's key (True is 1) -/
def nk : D → NestedKey
  | .none => .none
  | .bool b => .num (if b then 1 else 0)
  | .int i => .num i
  | .str x => .text x
  | .tuple ds => .tup (nks ds)
  | .list _ => .none
  | .dict _ => .none
where nks : List D → List NestedKey
  | [] => []
  | d :: ds => nk d :: nks ds

/-- what stands in the heap at a dict's address -/
def DictO (a : Addr) (es : List DictEntry) : Heap → Prop := fun h => ∃ o ep, h.get? a = some o ∧ o.ExactDict ∧ o.data = .dict es.toArray ep

section
variable (w : World) (K : PySem.W.Frag) (B : Hp)
mutual
/-- a value stands for data; all that it is made of lies in B -/
inductive Rl : V → D → Prop
  | non : Rl .non .none
  | bl (b : Bool) : Rl (.bl b) (.bool b)
  | int (i : Int) : Rl (.int i) (.int i)
  | str (x : Str) : Rl (.str x) (.str x)
  | lst {a : Addr} {xs : List V} {ds : List D} : B a = some (.lst xs) → RlL xs ds → Rl (.ref a) (.list ds)
  | tup {a : Addr} {xs : List V} {ds : List D} : SqT K B a xs → RlL xs ds → Rl (.ref a) (.tuple ds)
  | dic {a : Addr} {es : List DictEntry} {kvs : List (D × D)} : (a == sysModules) = false → es.length ≤ sizeLine → B a = some (.ext (DictO a es)) → RlE es kvs → Rl (.ref a) (.dict kvs)
inductive RlL : List V → List D → Prop
  | nil : RlL [] []
  | cons {v : V} {vs : List V} {d : D} {ds : List D} : Rl v d → RlL vs ds → RlL (v :: vs) (d :: ds)
inductive RlE : List DictEntry → List (D × D) → Prop
  | nil : RlE [] []
  | cons {e : DictEntry} {es : List DictEntry} {k v : D} {kvs : List (D × D)} {x y : V} : RelV x e.key → RelV y e.val → Rl x k → Rl y v → e.hash = (nk k).hash w → RlE es kvs → RlE (e :: es) ((k, v) :: kvs)
end
/-- the top of it is read in H, its parts lie in B -/
inductive Fl (H : Hp) : V → D → Prop
  | non : Fl H .non .none
  | bl (b : Bool) : Fl H (.bl b) (.bool b)
  | int (i : Int) : Fl H (.int i) (.int i)
  | str (x : Str) : Fl H (.str x) (.str x)
  | lst {a : Addr} {xs : List V} {ds : List D} : H a = some (.lst xs) → RlL w K B xs ds → Fl H (.ref a) (.list ds)
  | tup {a : Addr} {xs : List V} {ds : List D} : SqT K B a xs → RlL w K B xs ds → Fl H (.ref a) (.tuple ds)
  | dic {a : Addr} {es : List DictEntry} {kvs : List (D × D)} : (a == sysModules) = false → es.length ≤ sizeLine → H a = some (.ext (DictO a es)) → RlE w K B es kvs → Fl H (.ref a) (.dict kvs)
end

section
variable {w : World} {K : PySem.W.Frag} {B B' H H' : Hp}
theorem same_l {a : Addr} {xs : List V} (e : Same B B') (h : SqL K B a xs) : SqL K B' a xs := e.seq h
theorem same_t {a : Addr} {xs : List V} (e : Same B B') (h : SqT K B a xs) : SqT K B' a xs := by
  rcases h with (h | ⟨o, h⟩) | h
  · exact .inl (.inl (e _ _ h))
  · exact .inl (.inr ⟨o, e _ _ h⟩)
  · exact .inr h
mutual
theorem Rl.mono (s : Same B B') : ∀ {v : V} {d : D}, Rl w K B v d → Rl w K B' v d
  | _, _, .non => .non
  | _, _, .bl b => .bl b
  | _, _, .int i => .int i
  | _, _, .str x => .str x
  | _, _, .lst h t => .lst (s _ _ h) (RlL.mono s t)
  | _, _, .tup h t => .tup (same_t s h) (RlL.mono s t)
  | _, _, .dic h0 h1 h t => .dic h0 h1 (s _ _ h) (RlE.mono s t)
theorem RlL.mono (s : Same B B') : ∀ {vs : List V} {ds : List D}, RlL w K B vs ds → RlL w K B' vs ds
  | _, _, .nil => .nil
  | _, _, .cons h t => .cons (Rl.mono s h) (RlL.mono s t)
theorem RlE.mono (s : Same B B') : ∀ {es : List DictEntry} {kvs : List (D × D)}, RlE w K B es kvs → RlE w K B' es kvs
  | _, _, .nil => .nil
  | _, _, .cons h1 h2 h3 h4 h5 t => .cons h1 h2 (Rl.mono s h3) (Rl.mono s h4) h5 (RlE.mono s t)
end
theorem Rl.fl (s : Same B H) {v : V} {d : D} (h : Rl w K B v d) : Fl w K B H v d := by
  cases h with
  | non => exact .non
  | bl b => exact .bl b
  | int i => exact .int i
  | str x => exact .str x
  | lst h t => exact .lst (s _ _ h) t
  | tup h t => exact .tup h t
  | dic h0 h1 h t => exact .dic h0 h1 (s _ _ h) t
theorem Fl.rl (s : Same B H) {v : V} {d : D} (h : Fl w K B H v d) : Rl w K H v d := by
  cases h with
  | non => exact .non
  | bl b => exact .bl b
  | int i => exact .int i
  | str x => exact .str x
  | lst h t => exact .lst h (t.mono s)
  | tup h t => exact .tup (same_t s h) (t.mono s)
  | dic h0 h1 h t => exact .dic h0 h1 h (t.mono s)
theorem Fl.mono (s : Same B B') (u : Same H H') {v : V} {d : D} (h : Fl w K B H v d) : Fl w K B' H' v d := by
  cases h with
  | non => exact .non
  | bl b => exact .bl b
  | int i => exact .int i
  | str x => exact .str x
  | lst h t => exact .lst (u _ _ h) (t.mono s)
  | tup h t => exact .tup (same_t s h) (t.mono s)
  | dic h0 h1 h t => exact .dic h0 h1 (u _ _ h) (t.mono s)

theorem RlL.length : ∀ {vs : List V} {ds : List D}, RlL w K B vs ds → vs.length = ds.length
  | _, _, .nil => rfl
  | _, _, .cons _ t => by rw [List.length_cons, List.length_cons, RlL.length t]
theorem RlL.append : ∀ {vs us : List V} {ds es : List D}, RlL w K B vs ds → RlL w K B us es → RlL w K B (vs ++ us) (ds ++ es)
  | _, _, _, _, .nil, q => q
  | _, _, _, _, .cons h t, q => .cons h (RlL.append t q)
theorem RlL.take : ∀ (n : Nat) {vs : List V} {ds : List D}, RlL w K B vs ds → RlL w K B (vs.take n) (ds.take n)
  | 0, _, _, _ => by rw [List.take_zero, List.take_zero]; exact .nil
  | _ + 1, _, _, .nil => .nil
  | n + 1, _, _, .cons h t => .cons h (RlL.take n t)
theorem RlL.drop : ∀ (n : Nat) {vs : List V} {ds : List D}, RlL w K B vs ds → RlL w K B (vs.drop n) (ds.drop n)
  | 0, _, _, h => h
  | _ + 1, _, _, .nil => .nil
  | n + 1, _, _, .cons _ t => RlL.drop n t
theorem RlL.get : ∀ {i : Nat} {vs : List V} {ds : List D} {d : D}, RlL w K B vs ds → ds[i]? = some d → ∃ v, vs[i]? = some v ∧ Rl w K B v d
  | _, _, _, _, .nil, e => by simp at e
  | 0, _, _, _, .cons h _, e => by simp at e; subst e; exact ⟨_, rfl, h⟩
  | i + 1, _, _, _, .cons _ t, e => by
    obtain ⟨v, h1, h2⟩ := RlL.get (i := i) t (by simpa using e)
    exact ⟨v, by simpa using h1, h2⟩
theorem RlL.get' : ∀ {i : Nat} {vs : List V} {ds : List D} {v : V}, RlL w K B vs ds → vs[i]? = some v → ∃ d, ds[i]? = some d ∧ Rl w K B v d
  | _, _, _, _, .nil, e => by simp at e
  | 0, _, _, _, .cons h _, e => by simp at e; subst e; exact ⟨_, rfl, h⟩
  | i + 1, _, _, _, .cons _ t, e => by
    obtain ⟨v, h1, h2⟩ := RlL.get' (i := i) t (by simpa using e)
    exact ⟨v, by simpa using h1, h2⟩
theorem RlL.set : ∀ (i : Nat) {vs : List V} {ds : List D} {v : V} {d : D}, RlL w K B vs ds → Rl w K B v d → RlL w K B (vs.set i v) (ds.set i d)
  | _, _, _, _, _, .nil, _ => .nil
  | 0, _, _, _, _, .cons _ t, q => .cons q t
  | i + 1, _, _, _, _, .cons h t, q => .cons h (RlL.set i t q)
theorem RlL.dropLast : ∀ {vs : List V} {ds : List D}, RlL w K B vs ds → RlL w K B vs.dropLast ds.dropLast
  | _, _, .nil => .nil
  | _, _, .cons _ .nil => .nil
  | _, _, .cons h (.cons h' t) => .cons h (RlL.dropLast (.cons h' t))
theorem RlL.reverse : ∀ {vs : List V} {ds : List D}, RlL w K B vs ds → RlL w K B vs.reverse ds.reverse
  | _, _, .nil => .nil
  | _, _, .cons h t => by rw [List.reverse_cons, List.reverse_cons]; exact (RlL.reverse t).append (.cons h .nil)
theorem RlL.rep {vs : List V} {ds : List D} (h : RlL w K B vs ds) : ∀ k : Nat, RlL w K B (List.replicate k vs).flatten (List.replicate k ds).flatten
  | 0 => .nil
  | k + 1 => by rw [List.replicate_succ, List.replicate_succ, List.flatten_cons, List.flatten_cons]; exact h.append (RlL.rep h k)
/-- data without dicts: the layer's Dp -/
theorem PyData.lay_cons {d : D} {ds : List D} : PyData.canLayAll0 (d :: ds) = true ↔ d.canLay0 = true ∧ PyData.canLayAll0 ds = true := by simp [PyData.canLayAll0]
mutual
theorem Rl.dp : ∀ {v : V} {d : D}, Rl w K B v d → d.canLay0 = true → Dp K B v d
  | _, _, .non, _ => .non
  | _, _, .bl b, _ => .bl b
  | _, _, .int i, _ => .int i
  | _, _, .str x, _ => .str x
  | _, _, .lst h t, c => .lst (SqL.of h) (RlL.dp t (by simpa [PyData.canLay0] using c))
  | _, _, .tup h t, c => .tup h (RlL.dp t (by simpa [PyData.canLay0] using c))
  | _, _, .dic _ _ _ _, c => absurd c (by simp [PyData.canLay0])
theorem RlL.dp : ∀ {vs : List V} {ds : List D}, RlL w K B vs ds → PyData.canLayAll0 ds = true → DpAll K B vs ds
  | _, _, .nil, _ => .nil
  | _, _, .cons h t, c => .cons (Rl.dp h (PyData.lay_cons.mp c).1) (RlL.dp t (PyData.lay_cons.mp c).2)
end
end

/-! ### what an operation gives: nothing that stood is touched, what it gives lies in B and in what is new -/
/-- what is owned stands at a: a list or a dict, its parts in B -/
def OwAt (w : World) (K : PySem.W.Frag) (B H : Hp) (a : Addr) : D → Prop
  | .list ds => ∃ xs, H a = some (.lst xs) ∧ RlL w K B xs ds
  | .dict kvs => ∃ es, (a == sysModules) = false ∧ es.length ≤ sizeLine ∧ H a = some (.ext (DictO a es)) ∧ RlE w K B es kvs
  | _ => False
def mutD : D → Bool
  | .list _ => true
  | .dict _ => true
  | _ => false
def New (B' H H' : Hp) : Prop := ∀ a o, H a = none → H' a = some o → B' a = some o
/-- n: a list, a dict is a new one -/
def Out (n : Bool) (w : World) (K : PySem.W.Frag) (B H : Hp) (d : D) (Q : VK) : Prop := ∀ v H', Same H H' → (∀ B', Same B B' → New B' H H' → Rl w K B' v d) →
  (n = true → mutD d = true → ∃ p o, v = .ref p ∧ H p = none ∧ H' = upd H p o ∧ OwAt w K B H' p d) → Q v H'
section
variable {n : Bool} {w : World} {K : PySem.W.Frag} {B B' H H' : Hp} {d : D} {Q : VK} {a : Addr}
theorem OwAt.mono (s : Same B B') (u : Same H H') (h : OwAt w K B H a d) : OwAt w K B' H' a d := by
  cases d <;> first | exact h.elim | skip
  · obtain ⟨xs, h1, h2⟩ := h
    exact ⟨xs, u _ _ h1, h2.mono s⟩
  · obtain ⟨es, h0, h1, h2, h3⟩ := h
    exact ⟨es, h0, h1, u _ _ h2, h3.mono s⟩
theorem OwAt.keep (s : Same B B') (u : ∀ o, H a = some o → H' a = some o) (h : OwAt w K B H a d) : OwAt w K B' H' a d := by
  cases d <;> first | exact h.elim | skip
  · obtain ⟨xs, h1, h2⟩ := h
    exact ⟨xs, u _ h1, h2.mono s⟩
  · obtain ⟨es, h0, h1, h2, h3⟩ := h
    exact ⟨es, h0, h1, u _ h2, h3.mono s⟩
theorem OwAt.fl (h : OwAt w K B H a d) : Fl w K B H (.ref a) d := by
  cases d <;> first | exact h.elim | skip
  · obtain ⟨xs, h1, h2⟩ := h
    exact .lst h1 h2
  · obtain ⟨es, h0, h1, h2, h3⟩ := h
    exact .dic h0 h1 h2 h3
theorem OwAt.rl (s : Same B B') (u : ∀ o, H a = some o → B' a = some o) (h : OwAt w K B H a d) : Rl w K B' (.ref a) d := by
  cases d <;> first | exact h.elim | skip
  · obtain ⟨xs, h1, h2⟩ := h
    exact .lst (u _ h1) (h2.mono s)
  · obtain ⟨es, h0, h1, h2, h3⟩ := h
    exact .dic h0 h1 (u _ h2) (h3.mono s)
theorem OwAt.some (h : OwAt w K B H a d) : (H a).isSome = true := by
  cases d <;> first | exact h.elim | skip
  · obtain ⟨xs, h1, _⟩ := h
    rw [h1]; rfl
  · obtain ⟨es, _, _, h1, _⟩ := h
    rw [h1]; rfl
theorem OwAt.mut (h : OwAt w K B H a d) : mutD d = true := by
  cases d <;> first | exact h.elim | rfl
theorem Same.upd {H : Hp} {p : Addr} {o : HO} (h : H p = none) : Same H (upd H p o) := fun b u e => by
  rw [upd_ne (ne_of_none e h)]; exact e
theorem Out.here {v : V} (k : Out n w K B H d Q) (h : Rl w K B v d) (hn : n = false ∨ mutD d = false) : Q v H := k v H (Same.refl H) (fun _ s _ => h.mono s) fun e1 e2 => by
  rcases hn with z | z
  · rw [z] at e1; cases e1
  · rw [z] at e2; cases e2
theorem Out.tup {ds : List D} {xs : List V} (k : Out n w K B H (.tuple ds) Q) (h : RlL w K B xs ds) : ∀ p, H p = none → Q (.ref p) (upd H p (.tup xs)) := fun p hp =>
  k _ _ (Same.upd hp) (fun _ s n => .tup (SqT.of (n p _ hp upd_same)) (h.mono s)) fun _ e => nomatch e
theorem Out.lst {ds : List D} {xs : List V} (k : Out n w K B H (.list ds) Q) (h : RlL w K B xs ds) : ∀ p, H p = none → Q (.ref p) (upd H p (.lst xs)) := fun p hp =>
  k _ _ (Same.upd hp) (fun _ s n => .lst (n p _ hp upd_same) (h.mono s)) fun _ _ => ⟨p, _, rfl, hp, rfl, xs, upd_same, h⟩
theorem Out.int {i : Int} (k : Out n w K B H (.int i) Q) : Q (.int i) H := k.here (.int i) (.inr rfl)
theorem Out.bl {b : Bool} (k : Out n w K B H (.bool b) Q) : Q (.bl b) H := k.here (.bl b) (.inr rfl)
theorem Out.str {x : Str} (k : Out n w K B H (.str x) Q) : Q (.str x) H := k.here (.str x) (.inr rfl)
/-- the contract of an operation on two values, on one, of a call on values: F is what it gives of data -/
def r2D (n : Bool) (w : World) (K : PySem.W.Frag) (F : D → D → Option D) : R2 := fun x y H Q => ∃ B a b d, Same B H ∧ Fl w K B H x a ∧ Fl w K B H y b ∧ F a b = some d ∧ Out n w K B H d Q
def r1D (n : Bool) (w : World) (K : PySem.W.Frag) (F : D → Option D) : V → Hp → VK → Prop := fun x H Q => ∃ B a d, Same B H ∧ Fl w K B H x a ∧ F a = some d ∧ Out n w K B H d Q
def rcD1 (n : Bool) (w : World) (K : PySem.W.Frag) (F : D → Option D) : List V → Hp → VK → Prop := fun xs H Q => ∃ x, xs = [x] ∧ r1D n w K F x H Q
def rcD2 (n : Bool) (w : World) (K : PySem.W.Frag) (F : D → D → Option D) : List V → Hp → VK → Prop := fun xs H Q => ∃ x y, xs = [x, y] ∧ r2D n w K F x y H Q
end
end DL
end
section
set_option Elab.async false
set_option linter.all false
set_option maxRecDepth 100000
set_option maxHeartbeats 2000000
/-! DL2: operations on data: what they give, and that the model gives it. -/
namespace DL
open PySem PySem.Spec PyProof.Rows L2

/-- the longest list, tuple, text that is reckoned with -/
def lim : Nat := 1000000
theorem lim_le {n : Nat} (h : n ≤ lim) : n ≤ sizeLine := Nat.le_trans h (by decide)
theorem lim_lt {n : Nat} (h : n ≤ lim) : n < sizeLine := Nat.lt_of_le_of_lt h (by decide)
def mulOk (i j : Int) : Bool := decide (-(2 ^ 64) < i ∧ i < 2 ^ 64) || decide (-(2 ^ 64) < j ∧ j < 2 ^ 64)
theorem mulOk.ok {i j : Int} (h : mulOk i j = true) : CMul i j := by
  unfold mulOk at h
  rw [Bool.or_eq_true] at h
  exact h.elim (fun q => .inl (of_decide_eq_true q)) fun q => .inr (of_decide_eq_true q)

theorem if_some {α : Type} {c : Prop} [Decidable c] {a d : α} (h : (if c then some a else none) = some d) : c ∧ a = d := by
  by_cases q : c
  · rw [if_pos q] at h; exact ⟨q, Option.some.inj h⟩
  · rw [if_neg q] at h; cases h
theorem if_some' {α : Type} {c : Prop} [Decidable c] {a : Option α} {d : α} (h : (if c then a else none) = some d) : c ∧ a = some d := by
  by_cases q : c
  · rw [if_pos q] at h; exact ⟨q, h⟩
  · rw [if_neg q] at h; cases h
inductive Op2 where | add | sub | mul | fdiv | mod | pow
  deriving DecidableEq
def Op2.op : Op2 → Operator
  | .add => .Add | .sub => .Sub | .mul => .Mult | .fdiv => .FloorDiv | .mod => .Mod | .pow => .Pow
def addF : D → D → Option D
  | .int i, .int j => some (.int (i + j))
  | .str x, .str y => if x.length + y.length ≤ lim then some (.str (x ++ y)) else none
  | .tuple xs, .tuple ys => if xs.length + ys.length ≤ lim then some (.tuple (xs ++ ys)) else none
  | .list xs, .list ys => if xs.length + ys.length ≤ lim then some (.list (xs ++ ys)) else none
  | _, _ => none
def subF : D → D → Option D
  | .int i, .int j => some (.int (i - j))
  | _, _ => none
def mulF : D → D → Option D
  | .int i, .int j => if mulOk i j then some (.int (i * j)) else none
  | .list xs, .int k => if -1000000 ≤ k ∧ k ≤ 1000000 ∧ xs.length * k.toNat ≤ lim then some (.list (List.replicate k.toNat xs).flatten) else none
  | _, _ => none
def fdivF : D → D → Option D
  | .int i, .int j => if 0 < j ∧ j < 1073741824 then some (.int (i / j)) else none
  | _, _ => none
def modF : D → D → Option D
  | .int i, .int j => if 0 < j then some (.int (i % j)) else none
  | _, _ => none
def powF : D → D → Option D
  | .int i, .int j => if 0 ≤ j ∧ j ≤ 1000 ∧ i.natAbs < 1000000 then some (.int (i ^ j.toNat)) else none
  | _, _ => none
def Op2.F : Op2 → D → D → Option D
  | .add => addF | .sub => subF | .mul => mulF | .fdiv => fdivF | .mod => modF | .pow => powF

section
variable {w : World} {K : PySem.W.Frag} {B H : Hp} {x : V}
theorem Fl.int_inv {i : Int} (h : Fl w K B H x (.int i)) : x = .int i := by cases h; rfl
theorem Fl.str_inv {z : Str} (h : Fl w K B H x (.str z)) : x = .str z := by cases h; rfl
theorem Fl.bl_inv {b : Bool} (h : Fl w K B H x (.bool b)) : x = .bl b := by cases h; rfl
theorem Fl.tup_inv {ds : List D} (h : Fl w K B H x (.tuple ds)) : ∃ a xs, x = .ref a ∧ SqT K B a xs ∧ RlL w K B xs ds := by
  cases h with | tup h t => exact ⟨_, _, rfl, h, t⟩
theorem Fl.lst_inv {ds : List D} (h : Fl w K B H x (.list ds)) : ∃ a xs, x = .ref a ∧ H a = some (.lst xs) ∧ RlL w K B xs ds := by
  cases h with | lst h t => exact ⟨_, _, rfl, h, t⟩
theorem Fl.dic_inv {kvs : List (D × D)} (h : Fl w K B H x (.dict kvs)) : ∃ a es, x = .ref a ∧ (a == sysModules) = false ∧ es.length ≤ sizeLine ∧ H a = some (.ext (DictO a es)) ∧ RlE w K B es kvs := by
  cases h with | dic h0 h1 h t => exact ⟨_, _, rfl, h0, h1, h, t⟩
end
section
variable {X : Cx} {B H : Hp} {Q : VK}
theorem ok_add : OpR X (binaryOp .Add) (r2D true X.w X.K addF) := by
  intro pins s σ H x y v u Q I rx ry h
  obtain ⟨B, a, b, d, sb, fa, fb, e, q⟩ := h
  cases a <;> cases b <;> first | (cases e; done) | skip
  · cases fa.int_inv; cases fb.int_inv
    cases e
    exact op_add pins s σ H _ _ v u Q I rx ry ⟨_, _, rfl, rfl, q.int⟩
  · cases fa.str_inv; cases fb.str_inv
    obtain ⟨hl, rfl⟩ := if_some e
    exact op_add_str pins s σ H _ _ v u Q I rx ry ⟨_, _, rfl, rfl, lim_le hl, q.str⟩
  · obtain ⟨l, xs, rfl, hl, tl⟩ := fa.lst_inv
    obtain ⟨m, ys, rfl, hm, tm⟩ := fb.lst_inv
    obtain ⟨hz, rfl⟩ := if_some e
    exact op_cat pins s σ H _ _ v u Q I rx ry ⟨_, _, _, _, rfl, rfl, hl, hm, by rw [tl.length, tm.length]; exact lim_le hz, q.lst (tl.append tm)⟩
  · obtain ⟨l, xs, rfl, hl, tl⟩ := fa.tup_inv
    obtain ⟨m, ys, rfl, hm, tm⟩ := fb.tup_inv
    obtain ⟨hz, rfl⟩ := if_some e
    refine op_catA pins s σ H _ _ v u Q I rx ry ⟨_, _, _, _, rfl, rfl, same_t sb hl, same_t sb hm, by rw [tl.length, tm.length]; exact lim_le hz, fun z => ?_, fun _ z => ?_, fun _ _ => q.tup (tl.append tm)⟩
    · subst z
      cases tl
      exact q.here (.tup hm tm) (.inr rfl)
    · subst z
      cases tm
      refine q.here (.tup hl ?_) (.inr rfl)
      rw [List.append_nil]
      exact tl
theorem ok_sub : OpR X (binaryOp .Sub) (r2D true X.w X.K subF) := by
  intro pins s σ H x y v u Q I rx ry h
  obtain ⟨B, a, b, d, sb, fa, fb, e, q⟩ := h
  cases a <;> cases b <;> first | (cases e; done) | skip
  cases fa.int_inv; cases fb.int_inv
  cases e
  exact op_sub pins s σ H _ _ v u Q I rx ry ⟨_, _, rfl, rfl, q.int⟩
theorem ok_mul : OpR X (binaryOp .Mult) (r2D true X.w X.K mulF) := by
  intro pins s σ H x y v u Q I rx ry h
  obtain ⟨B, a, b, d, sb, fa, fb, e, q⟩ := h
  cases a <;> cases b <;> first | (cases e; done) | skip
  · cases fa.int_inv; cases fb.int_inv
    obtain ⟨hl, rfl⟩ := if_some e
    exact op_mul pins s σ H _ _ v u Q I rx ry ⟨_, _, rfl, rfl, mulOk.ok hl, q.int⟩
  · obtain ⟨l, xs, rfl, hl, tl⟩ := fa.lst_inv
    cases fb.int_inv
    obtain ⟨hz, rfl⟩ := if_some e
    obtain ⟨z0, z1, z2⟩ := hz
    exact op_rep pins s σ H _ _ v u Q I rx ry ⟨_, _, _, rfl, rfl, hl, by omega, by omega, by rw [tl.length]; exact lim_le z2, q.lst (tl.rep _)⟩
theorem ok_fdiv : OpR X (binaryOp .FloorDiv) (r2D true X.w X.K fdivF) := by
  intro pins s σ H x y v u Q I rx ry h
  obtain ⟨B, a, b, d, sb, fa, fb, e, q⟩ := h
  cases a <;> cases b <;> first | (cases e; done) | skip
  cases fa.int_inv; cases fb.int_inv
  obtain ⟨hl, rfl⟩ := if_some e
  exact op_fdiv pins s σ H _ _ v u Q I rx ry ⟨_, _, rfl, rfl, hl, q.int⟩
theorem ok_mod : OpR X (binaryOp .Mod) (r2D true X.w X.K modF) := by
  intro pins s σ H x y v u Q I rx ry h
  obtain ⟨B, a, b, d, sb, fa, fb, e, q⟩ := h
  cases a <;> cases b <;> first | (cases e; done) | skip
  cases fa.int_inv; cases fb.int_inv
  obtain ⟨hl, rfl⟩ := if_some e
  exact op_mod pins s σ H _ _ v u Q I rx ry ⟨_, _, rfl, rfl, hl, q.int⟩
theorem ok_pow : OpR X (binaryOp .Pow) (r2D true X.w X.K powF) := by
  intro pins s σ H x y v u Q I rx ry h
  obtain ⟨B, a, b, d, sb, fa, fb, e, q⟩ := h
  cases a <;> cases b <;> first | (cases e; done) | skip
  cases fa.int_inv; cases fb.int_inv
  obtain ⟨hl, rfl⟩ := if_some e
  obtain ⟨z0, z1, z2⟩ := hl
  exact op_pow pins s σ H _ _ v u Q I rx ry ⟨_, _, rfl, rfl, ⟨z0, by omega, Nat.lt_of_lt_of_le z2 (by decide)⟩, q.int⟩
theorem ok_op2 (o : Op2) : OpR X (binaryOp o.op) (r2D true X.w X.K o.F) := by
  cases o with
  | add => exact ok_add
  | sub => exact ok_sub
  | mul => exact ok_mul
  | fdiv => exact ok_fdiv
  | mod => exact ok_mod
  | pow => exact ok_pow

end
end DL
end
section
set_option Elab.async false
set_option linter.all false
set_option maxRecDepth 100000
set_option maxHeartbeats 2000000
/-! DLE: dicts keyed by tuples, on data. -/
namespace DL
open PySem PySem.Spec PyProof.Rows L2
mutual
/-- made of None, bools, ints, texts and tuples -/
def plain : D → Bool
  | .none => true
  | .bool _ => true
  | .int _ => true
  | .str _ => true
  | .tuple ds => plains ds
  | .list _ => false
  | .dict _ => false
def plains : List D → Bool
  | [] => true
  | d :: ds => plain d && plains ds
end
def tupKey : D → Bool
  | .tuple ds => plains ds && decide ((nk (.tuple ds)).depth ≤ 8)
  | _ => false
/-- a dict whose keys are different tuples -/
def keysOk (kvs : List (D × D)) : Bool := kvs.all (fun p => tupKey p.1) && decide (kvs.map fun p => nk p.1).Nodup
def lookD (kvs : List (D × D)) (k : NestedKey) : Option D := (kvs.find? fun p => decide (nk p.1 = k)).map (·.2)
def putD (kvs : List (D × D)) (k v : D) : List (D × D) := if (lookD kvs (nk k)).isSome then kvs.map (fun p => if nk p.1 = nk k then (p.1, v) else p) else kvs ++ [(k, v)]
def getF : D → D → D → Option D
  | .dict kvs, k, x => if keysOk kvs && tupKey k then some ((lookD kvs (nk k)).getD x) else none
  | _, _, _ => none
/-- what the values say of each other -/
def valsOk (kvs : List (D × D)) : Bool := kvs.all fun p => SeqAt.shaped p.2
def eqD (ks ls : List (D × D)) : Bool := ks.length == ls.length && ks.all fun p => match lookD ls (nk p.1) with
  | some x => PyData.eqv p.2 x
  | none => false

section
variable {w : World} {K : PySem.W.Frag} {B H : Hp} {X : Cx} {pins : List (Addr × Obj)} {σ : L2.St} {s : Shared}
mutual
theorem nest_of (I : Inv X pins σ H s) (sb : Same B H) : ∀ (d : D) {v : V} {u : Value}, Rl X.w X.K B v d → plain d = true → RelV v u → NestedIs s.heap (nk d) u
  | .none, v, u, h, _, r => by cases h; cases r; exact .none
  | .bool b, v, u, h, _, r => by cases h; cases r; exact .bool rfl
  | .int i, v, u, h, _, r => by cases h; obtain ⟨t, rfl⟩ := r; exact .int i t
  | .str x, v, u, h, _, r => by cases h; obtain ⟨t, rfl⟩ := r; exact .text x t
  | .tuple ds, v, u, h, p, r => by
    cases h with
    | tup h t =>
      cases r
      obtain ⟨its, rv, ⟨o, e, hc, n, hd⟩, _⟩ := I.tuple (same_t sb h)
      refine .tup e hc hd ?_
      have := nests_of I sb ds t (by simpa [plain] using p) rv
      simpa [nk] using this
  | .list _, _, _, _, p, _ => by simp [plain] at p
  | .dict _, _, _, _, p, _ => by simp [plain] at p
theorem nests_of (I : Inv X pins σ H s) (sb : Same B H) : ∀ (ds : List D) {vs : List V} {us : List Value}, RlL X.w X.K B vs ds → plains ds = true → Vals vs us → NestedAll s.heap (nk.nks ds) us
  | [], _, _, h, _, r => by cases h; cases r; exact .nil
  | d :: ds, _, _, h, p, r => by
    cases h with
    | cons h t =>
      simp only [plains, Bool.and_eq_true] at p
      cases r with
      | cons r rs => exact .cons (nest_of I sb d h p.1 r) (nests_of I sb ds t p.2 rs)
end
/-- a dict's entries by their keys: where the key stands, the value -/
inductive XR (w : World) (K : PySem.W.Frag) (B : Hp) : List (NestedKey × Addr × Value) → List (D × D) → Prop
  | nil : XR w K B [] []
  | cons {x : NestedKey × Addr × Value} {xs : List (NestedKey × Addr × Value)} {k v : D} {kvs : List (D × D)} {y : V} : x.1 = nk k → Rl w K B (.ref x.2.1) k → RelV y x.2.2 → Rl w K B y v → XR w K B xs kvs → XR w K B (x :: xs) ((k, v) :: kvs)
theorem tup_ref {v : V} {k : D} (h : Rl w K B v k) (t : tupKey k = true) : ∃ a, v = .ref a := by
  cases k <;> first | (cases t; done) | skip
  cases h
  exact ⟨_, rfl⟩
theorem xr_of {prog : Program} : ∀ {es : List DictEntry} {kvs : List (D × D)}, RlE w K B es kvs → kvs.all (fun p => tupKey p.1) = true → ∃ xs, es = xs.map (entryOfKey (nestedKind prog w)) ∧ XR w K B xs kvs
  | _, _, .nil, _ => ⟨[], rfl, .nil⟩
  | _, _, .cons (e := e) h1 h2 h3 h4 h5 t, p => by
    rw [List.all_cons, Bool.and_eq_true] at p
    obtain ⟨xs, e1, r⟩ := xr_of (prog := prog) t p.2
    obtain ⟨a, rfl⟩ := tup_ref h3 p.1
    refine ⟨(_, a, e.val) :: xs, ?_, .cons rfl h3 h2 h4 r⟩
    rw [List.map_cons, ← e1]
    congr 1
    obtain ⟨eh, ek, ev⟩ := e
    dsimp only at h1 h2 h5 ⊢
    cases h1
    unfold entryOfKey
    rw [h5]
    rfl
theorem XR.rle {prog : Program} : ∀ {xs : List (NestedKey × Addr × Value)} {kvs : List (D × D)}, XR w K B xs kvs → RlE w K B (xs.map (entryOfKey (nestedKind prog w))) kvs
  | _, _, .nil => .nil
  | _, _, .cons h1 h2 h3 h4 t => by
    refine .cons (x := .ref _) rfl h3 h2 h4 ?_ (XR.rle t)
    unfold entryOfKey
    rw [h1]
    rfl
theorem XR.length : ∀ {xs : List (NestedKey × Addr × Value)} {kvs : List (D × D)}, XR w K B xs kvs → xs.length = kvs.length
  | _, _, .nil => rfl
  | _, _, .cons _ _ _ _ t => by rw [List.length_cons, List.length_cons, XR.length t]
theorem XR.keys : ∀ {xs : List (NestedKey × Addr × Value)} {kvs : List (D × D)}, XR w K B xs kvs → xs.map (·.1) = kvs.map fun p => nk p.1
  | _, _, .nil => rfl
  | _, _, .cons h1 _ _ _ t => by rw [List.map_cons, List.map_cons, XR.keys t, h1]
theorem XR.at {k : NestedKey} : ∀ {xs : List (NestedKey × Addr × Value)} {kvs : List (D × D)}, XR w K B xs kvs → (atKey xs k = none ∧ lookD kvs k = none) ∨ ∃ p v y, atKey xs k = some p ∧ lookD kvs k = some v ∧ RelV y p.2 ∧ Rl w K B y v
  | _, _, .nil => .inl ⟨rfl, rfl⟩
  | _, _, .cons (x := x) (xs := xs) (k := k0) (v := v0) (kvs := kvs) h1 h2 h3 h4 t => by
    by_cases e : nk k0 = k
    · refine .inr ⟨x.2, v0, _, ?_, ?_, h3, h4⟩
      · unfold atKey; rw [List.find?_cons, decide_eq_true (h1.trans e)]; rfl
      · unfold lookD; rw [List.find?_cons, decide_eq_true e]; rfl
    · have e1 : atKey (x :: xs) k = atKey xs k := by unfold atKey; rw [List.find?_cons, decide_eq_false (fun z => e (h1.symm.trans z))]
      have e2 : lookD ((k0, v0) :: kvs) k = lookD kvs k := by unfold lookD; rw [List.find?_cons, decide_eq_false (show ¬ nk (k0, v0).1 = k from e)]
      rw [e1, e2]
      exact XR.at t
theorem XR.append : ∀ {xs : List (NestedKey × Addr × Value)} {kvs : List (D × D)} {ys : List (NestedKey × Addr × Value)} {lvs : List (D × D)}, XR w K B xs kvs → XR w K B ys lvs → XR w K B (xs ++ ys) (kvs ++ lvs)
  | _, _, _, _, .nil, q => q
  | _, _, _, _, .cons h1 h2 h3 h4 t, q => .cons h1 h2 h3 h4 (XR.append t q)
theorem XR.put {k : NestedKey} {v : D} {y : V} {u : Value} (ry : RelV y u) (rv : Rl w K B y v) : ∀ {xs : List (NestedKey × Addr × Value)} {kvs : List (D × D)}, XR w K B xs kvs → XR w K B (xs.map (putAt k u)) (kvs.map fun p => if nk p.1 = k then (p.1, v) else p)
  | _, _, .nil => .nil
  | _, _, .cons (x := x) (k := k0) (v := v0) h1 h2 h3 h4 t => by
    rw [List.map_cons, List.map_cons]
    by_cases e : nk k0 = k
    · have e1 : putAt k u x = (x.1, x.2.1, u) := by unfold putAt; rw [if_pos (h1.trans e)]
      rw [e1, if_pos (show nk (k0, v0).1 = k from e)]
      exact .cons h1 h2 ry rv (XR.put ry rv t)
    · have e1 : putAt k u x = x := by unfold putAt; rw [if_neg (fun z => e (h1.symm.trans z))]
      rw [e1, if_neg (show ¬ nk (k0, v0).1 = k from e)]
      exact .cons h1 h2 h3 h4 (XR.put ry rv t)
theorem XR.stored {k v : D} {a : Addr} {y : V} {u : Value} {xs : List (NestedKey × Addr × Value)} {kvs : List (D × D)} (h : XR w K B xs kvs) (rk : Rl w K B (.ref a) k) (ry : RelV y u) (rv : Rl w K B y v) : XR w K B (storedH xs (nk k) a u) (putD kvs k v) := by
  unfold storedH putD
  rcases h.at (k := nk k) with ⟨e1, e2⟩ | ⟨p, v', y', e1, e2, _, _⟩
  · rw [e1, e2]
    exact h.append (.cons rfl rk ry rv .nil)
  · rw [e1, e2]
    exact h.put ry rv
/-- in the heap -/
theorem XR.dict (I : Inv X pins σ H s) (sb : Same B H) {a : Addr} {xs : List (NestedKey × Addr × Value)} {kvs : List (D × D)} (h : XR X.w X.K B xs kvs) (hk : keysOk kvs = true) (hd : DictO a (xs.map (entryOfKey (nestedKind X.prog X.w))) s.heap) :
    s.heap.DictOfH (nestedKind X.prog X.w) a xs := by
  obtain ⟨o, ep, e, hx, ho⟩ := hd
  unfold keysOk at hk
  rw [Bool.and_eq_true] at hk
  refine ⟨o, _, ep, e, hx, ho, by simp, ?_, by rw [h.keys]; exact of_decide_eq_true hk.2⟩
  have hk1 := hk.1
  clear hk ho hx e
  induction h with
  | nil => intro x hx; cases hx
  | cons h1 h2 h3 h4 t ih =>
    rw [List.all_cons, Bool.and_eq_true] at hk1
    intro x hx
    rcases List.mem_cons.mp hx with rfl | hx
    · rename_i k _ _ _
      have hk2 := hk1.1
      cases k <;> first | (cases hk2; done) | skip
      simp only [tupKey, Bool.and_eq_true] at hk2
      rw [h1]
      exact ⟨nest_of I sb _ h2 (by simpa [plain] using hk2.1) rfl, of_decide_eq_true hk2.2⟩
    · exact ih hk1.2 x hx
theorem tup_is (I : Inv X pins σ H s) (sb : Same B H) {k : D} {a : Addr} (h : Rl X.w X.K B (.ref a) k) (hk : tupKey k = true) : (nestedKind X.prog X.w).is s.heap (nk k) a := by
  cases k <;> first | (cases hk; done) | skip
  simp only [tupKey, Bool.and_eq_true] at hk
  exact ⟨nest_of I sb _ h (by simpa [plain] using hk.1) rfl, of_decide_eq_true hk.2⟩
theorem dict_of {h : Heap} {prog : Program} {a : Addr} {xs : List (NestedKey × Addr × Value)} (hm : h.DictOfH (nestedKind prog w) a xs) : DictO a (xs.map (entryOfKey (nestedKind prog w))) h := by
  obtain ⟨o, es, ep, e, hx, hd, hl, _⟩ := hm
  refine ⟨o, ep, e, hx, ?_⟩
  rw [hd, ← hl]
theorem dictO_stable {a : Addr} {es : List DictEntry} : ∀ h1 h2 : Heap, DictO a es h1 → (∀ o, h1.get? a = some o → h2.get? a = some o) → DictO a es h2 := fun h1 h2 ⟨o, ep, e, q⟩ k => ⟨o, ep, k _ e, q⟩
theorem Inv.ext (I : Inv X pins σ H s) {a : Addr} {es : List DictEntry} (h : H a = some (.ext (DictO a es))) : DictO a es s.heap := (I.hok a _ h).1
theorem RlE.length : ∀ {es : List DictEntry} {kvs : List (D × D)}, RlE w K B es kvs → es.length = kvs.length
  | _, _, .nil => rfl
  | _, _, .cons _ _ _ _ _ t => by rw [List.length_cons, List.length_cons, RlE.length t]
theorem putD_length (kvs : List (D × D)) (k v : D) : (putD kvs k v).length ≤ kvs.length + 1 := by
  unfold putD
  split
  · rw [List.length_map]; omega
  · rw [List.length_append]; exact Nat.le_refl _
/-! ### operations -/
theorem room_nest {A : Around} (hu : A.units + 65 < cLine) : (nestedKind X.prog X.w).room A.in1 := by
  show A.in1.units + 8 < cLine
  rw [Around.in1_units]
  omega
theorem dict_at (I : Inv X pins σ H s) (sb : Same B H) {a : Addr} {es : List DictEntry} {kvs : List (D × D)} (h : H a = some (.ext (DictO a es))) (r : RlE X.w X.K B es kvs) (hk : keysOk kvs = true) :
    ∃ xs, es = xs.map (entryOfKey (nestedKind X.prog X.w)) ∧ XR X.w X.K B xs kvs ∧ s.heap.DictOfH (nestedKind X.prog X.w) a xs := by
  have hk' := hk
  unfold keysOk at hk'
  rw [Bool.and_eq_true] at hk'
  obtain ⟨xs, rfl, x⟩ := xr_of (prog := X.prog) r hk'.1
  exact ⟨xs, rfl, x, x.dict I sb hk (Inv.ext I h)⟩
/-- d.get(k, x) -/
theorem d_getE (hu : X.A.units + 65 < cLine) (I : Inv X pins σ H s) (sb : Same B H) {a b : Addr} {es : List DictEntry} {kvs : List (D × D)} {k x : D} {y : V} {u : Value} {Q : VK} (hs : (a == sysModules) = false) (h : H a = some (.ext (DictO a es)))
    (r : RlE X.w X.K B es kvs) (hk : keysOk kvs = true) (rk : Rl X.w X.K B (.ref b) k) (tk : tupKey k = true) (ry : RelV y u) (rx : Rl X.w X.K B y x) (q : ∀ z, Rl X.w X.K B z ((lookD kvs (nk k)).getD x) → Q z H) :
    wpAny (model X.prog X.w) X.A (call (.builtin "dict.get") [.ref a, .ref b, u]) (EP X pins σ Q) X.xe s := by
  obtain ⟨xs, rfl, xr, hm⟩ := dict_at I sb h r hk
  refine call_meetsIn PySem.F.slot_dict_get hm.typeIs PySem.F.entry_dict_get (PySem.F.args_dict_get_3 _ _ _) (meetsH_dict_get_default (nestedKind X.prog X.w) a b hs u) ⟨room_nest hu, nk k, xs, tup_is I sb rk tk, hm, ?_⟩
  rcases xr.at (k := nk k) with ⟨e1, e2⟩ | ⟨p, v', y', e1, e2, r1, r2⟩
  · rw [e1]
    rw [e2] at q
    exact ⟨y, H, I.tok _, ry, q y rx⟩
  · rw [e1]
    rw [e2] at q
    exact ⟨y', H, I.tok _, r1, q y' r2⟩
/-- d[k] = v -/
theorem d_setE (hu : X.A.units + 65 < cLine) (I : Inv X pins σ H s) (sb : Same B H) {a b : Addr} {es : List DictEntry} {kvs : List (D × D)} {k x : D} {y : V} {u : Value} {Q : Unit → Shared → Prop} (hs : (a == sysModules) = false) (hl : kvs.length < lim) (h : H a = some (.ext (DictO a es)))
    (r : RlE X.w X.K B es kvs) (hk : keysOk kvs = true) (rk : Rl X.w X.K B (.ref b) k) (tk : tupKey k = true) (ry : RelV y u) (rx : Rl X.w X.K B y x)
    (q : ∀ (es' : List DictEntry) (s' : Shared), RlE X.w X.K B es' (putD kvs k x) → Inv X pins σ (upd H a (.ext (DictO a es'))) s' → Q () s') :
    wpAny (model X.prog X.w) X.A (setItem (.ref a) (.ref b) u) Q X.xe s := by
  obtain ⟨xs, rfl, xr, hm⟩ := dict_at I sb h r hk
  refine wpAny_setItem_heap (hsz := by rw [xr.length]; exact lim_le (Nat.le_of_lt hl)) (room_nest hu) (tup_is I sb rk tk) hm fun h' hm' hb => ?_
  refine q _ _ (xr.stored rk ry rx).rle (I.write (x := a) (e := a) (by rw [h]; trivial) (.inl rfl) (fun c v hc e => (hb.2 c hc).trans e) ?_ ⟨dict_of hm', ?_, dictO_stable⟩)
  · obtain ⟨o, _, _, e, _⟩ := hm'
    exact ⟨o, e⟩
  · obtain ⟨o, _, _, e, _⟩ := hm'
    exact ⟨o, e⟩
/-- {} -/
def tDNewE : TE := fun _ H Q => ∀ p, H p = none → (p == sysModules) = false → Q (.ref p) (upd H p (.ext (DictO p [])))
theorem pe_dnewE {pos : Pos} : PE X (.Dict [] [] pos) tDNewE := ⟨fun pins s σ H Q I h => by
  have e : (s.heap.push { cls := .type "dict", data := .dict #[] }).get? s.heap.objs.size = some { cls := .type "dict", data := .dict #[] } := Heap.get?_push_size _ rfl
  refine wpAny_Dict_empty ⟨.ref s.heap.objs.size, _, I.laid (a := s.heap.objs.size) (o := .ext (DictO s.heap.objs.size [])) (t' := s.toks) (fun _ _ q => Heap.get?_push_of_some _ q) (Nat.le_refl _) ⟨⟨_, 0, e, ⟨rfl, rfl, rfl⟩, rfl⟩, ⟨_, e⟩, dictO_stable⟩, rfl, h _ (I.hok.fresh (Nat.le_refl _)) ?_⟩
  exact beq_eq_false_iff_ne.mpr (Ne.symm (Nat.ne_of_lt (Inv.big I)))⟩
/-! ### == of dicts -/
/-- what the model's loop over the entries asks: each of a's keys in b, then the values -/
theorem pairs_go {kd : HeapKind X.prog X.w NestedKey} {A : Around} {E : Value → Shared → Prop} {nm : String} {a b : Addr} {xa xb : List (NestedKey × Addr × Value)} {g : NestedKey × Addr × Value → Bool} {Q : Bool → Shared → Prop} (hu : kd.room A)
    (sa : (a == sysModules) = false) (sb : (b == sysModules) = false) (da : s.heap.DictOfH kd a xa) (db : s.heap.DictOfH kd b xb)
    (hg : ∀ x ∈ xa, (atKey xb x.1 = none ∧ g x = false) ∨ ∃ p, atKey xb x.1 = some p ∧ SeqAt.EqAt A s x.2.2 p.2 (g x)) (h : Q (xa.length == xb.length && xa.all g) s) :
    wpAny (model X.prog X.w) A (Builtin.Dict.samePairs nm a b) Q E s := by
  obtain ⟨o1, e1, n1, h1, _, d1, l1, i1, _⟩ := da
  obtain ⟨o2, e2, n2, h2, _, d2, l2, i2, u2⟩ := db
  have z1 : e1.size = xa.length := size_of_entries l1
  have z2 : e2.size = xb.length := size_of_entries l2
  unfold Builtin.Dict.samePairs Builtin.Dict.showsAll
  rw [sa, sb]
  refine wpAny_bind (wpAny_pure (wpAny_bind (wpAny_pure (wpAny_bind (wpAny_dictEntries h1 d1 ?_)))))
  dsimp only
  refine wpAny_bind (wpAny_dictEntries h2 d2 ?_)
  by_cases hz : e1.size = e2.size
  · have hz' : xa.length = xb.length := by rw [← z1, ← z2, hz]
    rw [show (xa.length == xb.length) = true from beq_iff_eq.mpr hz', Bool.true_and] at h
    rw [if_neg (by simp [hz])]
    refine wpAny_bind (wpAny_dictEpoch h1 d1 (wpAny_bind ?_))
    rw [Std.Legacy.Range.forIn_eq_forIn_range']
    simp only [Std.Legacy.Range.size, Nat.sub_zero, Nat.add_sub_cancel, Nat.div_one]
    refine wpAny_forIn_list _ (fun l q t => t = s ∧ q = (none, ()) ∧ ∃ j, l = List.range' j (e1.size - j) ∧ j ≤ e1.size ∧ (xa.drop j).all g = xa.all g) _ ?_ ?_ _ _ ⟨rfl, rfl, 0, by rw [Nat.sub_zero], Nat.zero_le _, by rw [List.drop_zero]⟩
    · rintro y l q t ⟨rfl, rfl, j, hl, hj, hall⟩
      have hjl : j < e1.size := Nat.lt_of_not_le fun z => by rw [Nat.sub_eq_zero_of_le z] at hl; cases hl
      have er : e1.size - j = (e1.size - (j + 1)) + 1 := by omega
      rw [er, List.range'_succ] at hl
      obtain ⟨rfl, hl⟩ := List.cons.inj hl
      have hx : y < xa.length := by omega
      have hin : xa[y] ∈ xa := List.getElem_mem hx
      have en : e1[y] = entryOfKey kd xa[y] := by
        have := entry_at l1 y
        rw [Array.getElem?_eq_getElem hjl, List.getElem?_eq_getElem hx] at this
        exact Option.some.inj this
      rw [List.drop_eq_getElem_cons hx, List.all_cons] at hall
      refine wpAny_bind (wpAny_dictEntries h1 d1 ?_)
      rw [Array.getElem?_eq_getElem hjl, en]
      show wpAny _ _ (holding [Value.ref xa[y].2.1, xa[y].2.2] _ >>= _) _ _ _
      refine wpAny_bind (wpAny_holding (wpAny_bind (wpAny_dictFind_heap hu (i1 _ hin) h2 d2 l2 i2 u2 (fun hn => ?_) fun k p hp => ?_)))
      · have e := atKey_none_of_get hn
        rcases hg _ hin with ⟨_, gf⟩ | ⟨p, hp, _⟩
        · rw [gf, Bool.false_and] at hall
          rw [← hall] at h
          exact wpAny_pure (wpAny_pure (wpAny_pure h))
        · rw [e] at hp; cases hp
      · have e := atKey_of_get u2 hp
        have hk : k < e2.size := by
          have := (List.getElem?_eq_some_iff.mp hp).1
          omega
        have ek : e2[k] = entryOfKey kd (xa[y].1, p) := by
          have := entry_at l2 k
          rw [Array.getElem?_eq_getElem hk, hp] at this
          exact Option.some.inj this
        rcases hg _ hin with ⟨hn, _⟩ | ⟨p', hp', he⟩
        · rw [e] at hn; cases hn
        · rw [e] at hp'
          cases hp'
          refine wpAny_bind (wpAny_dictEntries h2 d2 ?_)
          rw [Array.getElem?_eq_getElem hk, ek]
          refine wpAny_holding (he _ _ _ _ ?_)
          cases gx : g xa[y] with
          | false =>
            rw [gx, Bool.false_and] at hall
            rw [← hall] at h
            exact wpAny_pure (wpAny_pure h)
          | true =>
            rw [gx, Bool.true_and] at hall
            refine wpAny_bind (wpAny_dictEpoch h1 d1 ?_)
            rw [if_neg (by simp)]
            exact wpAny_pure ⟨rfl, rfl, y + 1, hl, hjl, hall⟩
    · rintro q t ⟨rfl, rfl, j, hl, hj, hall⟩
      have hje : j = e1.size := by
        by_cases z : j = e1.size
        · exact z
        · have er : e1.size - j = (e1.size - (j + 1)) + 1 := by omega
          rw [er, List.range'_succ] at hl
          cases hl
      rw [hje, z1, List.drop_length] at hall
      rw [← hall] at h
      exact wpAny_pure h
  · have hz' : (xa.length == xb.length) = false := by
      rw [beq_eq_false_iff_ne, ← z1, ← z2]
      exact hz
    rw [hz', Bool.false_and] at h
    rw [if_pos (by simpa using hz)]
    exact wpAny_bind (wpAny_rule (wpAny_pure h))
end
/-! ### comparisons -/
inductive Cm where | eq | ne | lt | le | gt | ge | isin | notin
  deriving DecidableEq
def Cm.op : Cm → CmpOp
  | .eq => .Eq | .ne => .NotEq | .lt => .Lt | .le => .LtE | .gt => .Gt | .ge => .GtE | .isin => .In | .notin => .NotIn
def eqB : D → D → Option Bool
  | .dict ks, .dict ls => if keysOk ks && keysOk ls && (valsOk ks && valsOk ls) then some (eqD ks ls) else none
  | a, b => if SeqAt.shaped a && SeqAt.shaped b then some (PyData.eqv a b) else none
def ltB : D → D → Option Bool
  | .int i, .int j => some (decide (i < j))
  | a, b => if PySem.W.alike a b && SeqAt.shaped a && SeqAt.shaped b && !(match a with | .none => true | _ => false) then some (PySem.W.dataLt a b) else none
def leB : D → D → Option Bool
  | .int i, .int j => some (decide (i ≤ j))
  | a, b => if PySem.W.alike a b && SeqAt.shaped a && SeqAt.shaped b && !(match a with | .none => true | _ => false) then some (!PySem.W.dataLt b a) else none
def gtB : D → D → Option Bool
  | .int i, .int j => some (decide (j < i))
  | a, b => if PySem.W.alike a b && SeqAt.shaped a && SeqAt.shaped b && !(match a with | .none => true | _ => false) then some (PySem.W.dataLt b a) else none
def geB : D → D → Option Bool
  | .int i, .int j => some (decide (j ≤ i))
  | a, b => if PySem.W.alike a b && SeqAt.shaped a && SeqAt.shaped b && !(match a with | .none => true | _ => false) then some (!PySem.W.dataLt a b) else none
def inB (x : D) : D → Option Bool
  | .list ds => if SeqAt.shaped x && SeqAt.shaped (.list ds) then some (ds.any fun z => PyData.eqv z x) else none
  | .tuple ds => if SeqAt.shaped x && SeqAt.shaped (.tuple ds) then some (ds.any fun z => PyData.eqv z x) else none
  | _ => none
def Cm.T : Cm → D → D → Option Bool
  | .eq => eqB | .ne => fun a b => (eqB a b).map (!·) | .lt => ltB | .le => leB | .gt => gtB | .ge => geB | .isin => inB | .notin => fun a b => (inB a b).map (!·)
def Cm.F (c : Cm) (a b : D) : Option D := (c.T a b).map .bool
theorem eqB_inv {a b : D} {c : Bool} (h : eqB a b = some c) : (∃ ks ls, a = .dict ks ∧ b = .dict ls ∧ (keysOk ks = true ∧ keysOk ls = true) ∧ (valsOk ks = true ∧ valsOk ls = true) ∧ c = eqD ks ls) ∨ ((SeqAt.shaped a = true ∧ SeqAt.shaped b = true) ∧ c = PyData.eqv a b) := by
  unfold eqB at h
  split at h
  · obtain ⟨q, rfl⟩ := if_some h
    simp only [Bool.and_eq_true] at q
    exact .inl ⟨_, _, rfl, rfl, q.1, q.2, rfl⟩
  · obtain ⟨q, rfl⟩ := if_some h
    rw [Bool.and_eq_true] at q
    exact .inr ⟨q, rfl⟩
theorem shaped_lay {d : D} (h : SeqAt.shaped d = true) : d.canLay0 = true := SeqAt.canLay_of_shaped h
theorem lookD_mem {kvs : List (D × D)} {k : NestedKey} {v : D} (h : lookD kvs k = some v) : ∃ p ∈ kvs, nk p.1 = k ∧ p.2 = v := by
  unfold lookD at h
  obtain ⟨p, h1, rfl⟩ := Option.map_eq_some_iff.mp h
  exact ⟨p, List.mem_of_find?_eq_some h1, of_decide_eq_true (List.find?_some h1 :), rfl⟩
theorem lookD_of : ∀ {kvs : List (D × D)}, (kvs.map fun p => nk p.1).Nodup → ∀ {p : D × D}, p ∈ kvs → lookD kvs (nk p.1) = some p.2
  | [], _, _, h => by cases h
  | q :: kvs, nd, p, h => by
    rw [List.map_cons, List.nodup_cons] at nd
    rcases List.mem_cons.mp h with rfl | h
    · unfold lookD; rw [List.find?_cons, decide_eq_true rfl]; rfl
    · have hne : ¬ nk q.1 = nk p.1 := fun z => nd.1 (by rw [z]; exact List.mem_map.mpr ⟨p, h, rfl⟩)
      have := lookD_of nd.2 h
      unfold lookD at this ⊢
      rw [List.find?_cons, decide_eq_false hne]
      exact this
theorem vals_lay {kvs : List (D × D)} (h : valsOk kvs = true) {k : NestedKey} {v : D} (e : lookD kvs k = some v) : SeqAt.shaped v = true := by
  obtain ⟨p, hp, _, rfl⟩ := lookD_mem e
  exact List.all_eq_true.mp h p hp
/-- the question of the keys, once both are known -/
def askD (ks ls : List (D × D)) (k : NestedKey) : Bool := match lookD ls k, lookD ks k with
  | some x, some y => PyData.eqv y x
  | _, _ => false
theorem eqD_ask {ks ls : List (D × D)} (h : keysOk ks = true) : eqD ks ls = (ks.length == ls.length && ks.all fun p => askD ks ls (nk p.1)) := by
  unfold keysOk at h
  rw [Bool.and_eq_true] at h
  have nd := of_decide_eq_true h.2
  unfold eqD
  congr 1
  rw [Bool.eq_iff_iff, List.all_eq_true, List.all_eq_true]
  have key : ∀ p ∈ ks, (match lookD ls (nk p.1) with | some x => PyData.eqv p.2 x | none => false) = askD ks ls (nk p.1) := fun p hp => by
    unfold askD
    rw [lookD_of nd hp]
    cases lookD ls (nk p.1) <;> rfl
  exact ⟨fun q p hp => by rw [← key p hp]; exact q p hp, fun q p hp => by rw [key p hp]; exact q p hp⟩
section
variable {w : World} {K : PySem.W.Frag} {B H : Hp} {X : Cx} {pins : List (Addr × Obj)} {σ : L2.St} {s : Shared} {a b : Addr} {ks ls : List (D × D)} {ea eb : List DictEntry}
theorem Rl.reads (I : Inv X pins σ H s) (sb : Same B H) {x : V} {d : D} {u : Value} (f : Rl X.w X.K B x d) (c : SeqAt.shaped d = true) (r : RelV x u) : ∃ as, Reads s.heap u d as :=
  Dp.reads I d x u ((f.mono sb).dp (shaped_lay c)) r
theorem dict_ask (hu : X.A.units + 65 < cLine) (I : Inv X pins σ H s) (sb : Same B H) {xa xb : List (NestedKey × Addr × Value)} (ra : XR X.w X.K B xa ks) (rb : XR X.w X.K B xb ls) (hk : keysOk ks = true) (hv : valsOk ks = true) (hw : valsOk ls = true) :
    (∀ x ∈ xa, (atKey xb x.1 = none ∧ askD ks ls x.1 = false) ∨ ∃ p, atKey xb x.1 = some p ∧ SeqAt.EqAt X.A.in1 s x.2.2 p.2 (askD ks ls x.1)) ∧ (xa.length == xb.length && xa.all fun x => askD ks ls x.1) = eqD ks ls := by
  have hk' := hk
  unfold keysOk at hk'
  rw [Bool.and_eq_true] at hk'
  have nd := of_decide_eq_true hk'.2
  rw [← ra.keys] at nd
  constructor
  · intro x hx
    obtain ⟨i, hi⟩ := List.mem_iff_getElem?.mp hx
    have ex := atKey_of_get nd (show xa[i]? = some (x.1, x.2) from hi)
    rcases rb.at (k := x.1) with ⟨e1, e2⟩ | ⟨p, v, y, e1, e2, r1, r2⟩
    · refine .inl ⟨e1, ?_⟩
      unfold askD
      rw [e2]
    · refine .inr ⟨p, e1, ?_⟩
      rcases ra.at (k := x.1) with ⟨f1, _⟩ | ⟨p0, v0, y0, f1, f2, q1, q2⟩
      · rw [ex] at f1; cases f1
      · rw [ex] at f1
        cases f1
        unfold askD
        rw [e2, f2]
        obtain ⟨as, g1⟩ := q2.reads I sb (vals_lay hv f2) q1
        obtain ⟨bs, g2⟩ := r2.reads I sb (vals_lay hw e2) r1
        exact PySem.W.keq_at g1 g2 (vals_lay hv f2) (vals_lay hw e2) (by rw [Around.in1_units]; omega)
  · rw [eqD_ask hk, ra.length, rb.length]
    congr 1
    have e1 : (xa.all fun x => askD ks ls x.1) = (xa.map (·.1)).all (askD ks ls) := by rw [List.all_map]; rfl
    have e2 : (ks.all fun p => askD ks ls (nk p.1)) = (ks.map fun p => nk p.1).all (askD ks ls) := by rw [List.all_map]; rfl
    rw [e1, e2, ra.keys]
theorem dict_eqE (hu : X.A.units + 65 < cLine) (I : Inv X pins σ H s) (sb : Same B H) (sa : (a == sysModules) = false) (sc : (b == sysModules) = false) (ha : H a = some (.ext (DictO a ea))) (hb : H b = some (.ext (DictO b eb))) (ra : RlE X.w X.K B ea ks) (rb : RlE X.w X.K B eb ls)
    (hk : keysOk ks = true ∧ keysOk ls = true) (hv : valsOk ks = true ∧ valsOk ls = true) {Q : Value → Shared → Prop} (q : Q (.bool (eqD ks ls)) s) : wpAny (model X.prog X.w) X.A (compareOp .Eq (.ref a) (.ref b)) Q X.xe s := by
  obtain ⟨xa, rfl, xra, ma⟩ := dict_at I sb ha ra hk.1
  obtain ⟨xb, rfl, xrb, mb⟩ := dict_at I sb hb rb hk.2
  obtain ⟨hg, he⟩ := dict_ask hu I sb xra xrb hk.1 hv.1 hv.2
  rw [← he] at q
  refine wpAny_richCompare_same_room (op := .Eq) ma.typeIs mb.typeIs PySem.F.slot_dict_eq (wpAny_call_entry PySem.F.slot_dict_eq ma.typeIs PySem.F.entry_dict_eq ?_ (PySem.F.args_dict_eq_2 _ _)) (by omega)
  show wpAny _ X.A.in1 (Builtin.Dict.dictSlotArgs "__eq__" ⟨[.ref a, .ref b], []⟩ >>= _) _ _ s
  unfold Builtin.Dict.dictSlotArgs
  refine wpAny_bind (wpAny_bind (wpAny_notOrdered_dict ma.typeIs ?_))
  refine wpAny_pure (wpAny_bind (wpAny_isInstance (T := "dict") mb.typeIs PySem.F.sub_dict_dict ?_))
  simp only [Bool.not_true, Bool.false_eq_true, if_false]
  refine wpAny_bind (wpAny_pure (wpAny_bind (wpAny_pure (wpAny_bind (pairs_go (room_nest hu) sa sc ma mb hg ?_)))))
  exact wpAny_pure ⟨_, rfl, (by intro z; cases z), by simpa using q⟩
theorem dict_neE (hu : X.A.units + 65 < cLine) (I : Inv X pins σ H s) (sb : Same B H) (sa : (a == sysModules) = false) (sc : (b == sysModules) = false) (ha : H a = some (.ext (DictO a ea))) (hb : H b = some (.ext (DictO b eb))) (ra : RlE X.w X.K B ea ks) (rb : RlE X.w X.K B eb ls)
    (hk : keysOk ks = true ∧ keysOk ls = true) (hv : valsOk ks = true ∧ valsOk ls = true) {Q : Value → Shared → Prop} (q : Q (.bool (!eqD ks ls)) s) : wpAny (model X.prog X.w) X.A (compareOp .NotEq (.ref a) (.ref b)) Q X.xe s := by
  obtain ⟨xa, rfl, xra, ma⟩ := dict_at I sb ha ra hk.1
  obtain ⟨xb, rfl, xrb, mb⟩ := dict_at I sb hb rb hk.2
  obtain ⟨hg, he⟩ := dict_ask hu I sb xra xrb hk.1 hv.1 hv.2
  rw [← he] at q
  refine wpAny_richCompare_same_room (op := .NotEq) ma.typeIs mb.typeIs PySem.F.slot_dict_ne (wpAny_call_entry PySem.F.slot_dict_ne ma.typeIs PySem.F.entry_dict_ne ?_ (PySem.F.args_dict_ne_2 _ _)) (by omega)
  show wpAny _ X.A.in1 (Builtin.Dict.dictSlotArgs "__ne__" ⟨[.ref a, .ref b], []⟩ >>= _) _ _ s
  unfold Builtin.Dict.dictSlotArgs
  refine wpAny_bind (wpAny_bind (wpAny_notOrdered_dict ma.typeIs ?_))
  refine wpAny_pure (wpAny_bind (wpAny_isInstance (T := "dict") mb.typeIs PySem.F.sub_dict_dict ?_))
  simp only [Bool.not_true, Bool.false_eq_true, if_false]
  refine wpAny_bind (wpAny_pure (wpAny_bind (wpAny_pure (wpAny_bind (pairs_go (room_nest hu) sa sc ma mb hg ?_)))))
  exact wpAny_pure ⟨_, rfl, (by intro z; cases z), by simpa using q⟩
end
end DL
end
section
set_option Elab.async false
set_option linter.all false
set_option maxRecDepth 100000
set_option maxHeartbeats 2000000
/-! DL3: comparisons, subscripts, slices, built-in calls on data. -/
namespace DL
open PySem PySem.Spec PyProof.Rows L2
section
variable {X : Cx} {pins : List (Addr × Obj)} {σ : L2.St} {H B : Hp} {s : Shared}
theorem Fl.reads (I : Inv X pins σ H s) (sb : Same B H) {x : V} {d : D} {u : Value} (f : Fl X.w X.K B H x d) (c : d.canLay0 = true) (r : RelV x u) : ∃ as, Reads s.heap u d as :=
  Dp.reads I d x u ((f.rl sb).dp c) r
theorem ok_eq (hu : X.A.units + 65 < cLine) : OpR X (compareOp .Eq) (r2D true X.w X.K (Cm.F .eq)) := by
  intro pins s σ H x y v u Q I rx ry h
  obtain ⟨B, a, b, d, sb, fa, fb, e, q⟩ := h
  obtain ⟨c, hc, rfl⟩ := Option.map_eq_some_iff.mp e
  rcases eqB_inv hc with ⟨ks, ls, rfl, rfl, hk, hv, rfl⟩ | ⟨hs, rfl⟩
  · obtain ⟨a, ea, rfl, h1, _, h2, h3⟩ := fa.dic_inv
    obtain ⟨b, eb, rfl, g1, _, g2, g3⟩ := fb.dic_inv
    cases rx
    cases ry
    exact dict_eqE hu I sb h1 g1 h2 g2 h3 g3 hk hv ⟨.bl _, H, I, rfl, q.bl⟩
  · exact op_eqD (by omega) pins s σ H x y v u Q I rx ry ⟨a, b, (fa.rl sb).dp (shaped_lay hs.1), (fb.rl sb).dp (shaped_lay hs.2), hs.1, hs.2, q.bl⟩
theorem ok_ne (hu : X.A.units + 65 < cLine) : OpR X (compareOp .NotEq) (r2D true X.w X.K (Cm.F .ne)) := by
  intro pins s σ H x y v u Q I rx ry h
  obtain ⟨B, a, b, d, sb, fa, fb, e, q⟩ := h
  obtain ⟨c, hc, rfl⟩ := Option.map_eq_some_iff.mp e
  obtain ⟨c', hc', rfl⟩ := Option.map_eq_some_iff.mp hc
  rcases eqB_inv hc' with ⟨ks, ls, rfl, rfl, hk, hv, rfl⟩ | ⟨hs, rfl⟩
  · obtain ⟨a, ea, rfl, h1, _, h2, h3⟩ := fa.dic_inv
    obtain ⟨b, eb, rfl, g1, _, g2, g3⟩ := fb.dic_inv
    cases rx
    cases ry
    exact dict_neE hu I sb h1 g1 h2 g2 h3 g3 hk hv ⟨.bl _, H, I, rfl, q.bl⟩
  · exact op_neD (by omega) pins s σ H x y v u Q I rx ry ⟨a, b, (fa.rl sb).dp (shaped_lay hs.1), (fb.rl sb).dp (shaped_lay hs.2), hs.1, hs.2, q.bl⟩
/-- the order, whatever the operator -/
theorem ok_ord {op : CmpOp} {T : D → D → Option Bool} {p : Int → Int → Bool} {g : D → D → Bool} (hu : X.A.units + 65 < cLine)
    (hI : ∀ i j, T (.int i) (.int j) = some (p i j)) (hD : ∀ a b, (∃ i j, a = .int i ∧ b = .int j) ∨ T a b = if PySem.W.alike a b && SeqAt.shaped a && SeqAt.shaped b && !(match a with | .none => true | _ => false) then some (g a b) else none)
    (rI : ∀ (i j : Int) (t u : Tok) (Q : Value → Shared → Prop) (s : Shared), Q (.bool (p i j)) s → wpAny (model X.prog X.w) X.A (compareOp op (.int i t) (.int j u)) Q X.xe s)
    (rD : ∀ (s : Shared) (a b : Value) (da db : D) (as bs : List Addr) (Q : Value → Shared → Prop), Reads s.heap a da as → Reads s.heap b db bs → PySem.W.alike da db = true → da ≠ .none → X.A.units + min da.depth db.depth < cLine → Q (.bool (g da db)) s → wpAny (model X.prog X.w) X.A (compareOp op a b) Q X.xe s) :
    OpR X (compareOp op) (r2D true X.w X.K fun a b => (T a b).map .bool) := by
  intro pins s σ H x y v u Q I rx ry h
  obtain ⟨B, a, b, d, sb, fa, fb, e, q⟩ := h
  obtain ⟨c, hc, rfl⟩ := Option.map_eq_some_iff.mp e
  rcases hD a b with ⟨i, j, rfl, rfl⟩ | hT
  · rw [hI] at hc
    cases hc
    cases fa.int_inv; cases fb.int_inv
    obtain ⟨t, rfl⟩ := rx
    obtain ⟨t', rfl⟩ := ry
    exact rI i j t t' _ s ⟨.bl _, H, I, rfl, q.bl⟩
  · rw [hT] at hc
    obtain ⟨hs, rfl⟩ := if_some hc
    rw [Bool.and_eq_true, Bool.and_eq_true, Bool.and_eq_true] at hs
    obtain ⟨⟨⟨h1, h2⟩, h3⟩, h4⟩ := hs
    obtain ⟨as, ra⟩ := fa.reads I sb (shaped_lay h2) rx
    obtain ⟨bs, rb⟩ := fb.reads I sb (shaped_lay h3) ry
    refine rD s v u a b as bs _ ra rb h1 (fun z => by subst z; exact absurd h4 (by decide)) ?_ ⟨.bl _, H, I, rfl, q.bl⟩
    exact SeqAt.room_of_shaped h2 (by omega)
theorem ord_split (T : D → D → Option Bool) (g : D → D → Bool)
    (h : ∀ a b, (∀ i j, a = .int i → b = .int j → False) → T a b = if PySem.W.alike a b && SeqAt.shaped a && SeqAt.shaped b && !(match a with | .none => true | _ => false) then some (g a b) else none) :
    ∀ a b, (∃ i j, a = .int i ∧ b = .int j) ∨ T a b = if PySem.W.alike a b && SeqAt.shaped a && SeqAt.shaped b && !(match a with | .none => true | _ => false) then some (g a b) else none := fun a b => by
  by_cases q : ∃ i j, a = .int i ∧ b = .int j
  · exact .inl q
  · exact .inr (h a b fun i j e1 e2 => q ⟨i, j, e1, e2⟩)
theorem ok_cmp (hu : X.A.units + 65 < cLine) (c : Cm) : OpR X (compareOp c.op) (r2D true X.w X.K c.F) := by
  cases c with
  | eq => exact ok_eq hu
  | ne => exact ok_ne hu
  | lt =>
    exact ok_ord (T := ltB) (g := fun a b => PySem.W.dataLt a b) hu (fun _ _ => rfl) (ord_split _ _ fun a b n => by unfold ltB; split <;> first | rfl | exact (n _ _ rfl rfl).elim) (fun _ _ _ _ _ _ h => lt_int h)
      fun s a b da db as bs Q r1 r2 h1 h2 h3 h4 => PySem.W.lt_data r1 r2 h1 h2 h3 h4
  | le =>
    exact ok_ord (T := leB) (g := fun a b => !PySem.W.dataLt b a) hu (fun _ _ => rfl) (ord_split _ _ fun a b n => by unfold leB; split <;> first | rfl | exact (n _ _ rfl rfl).elim) (fun _ _ _ _ _ _ h => le_int h)
      fun s a b da db as bs Q r1 r2 h1 h2 h3 h4 => PySem.W.le_data r1 r2 h1 h2 h3 h4
  | gt =>
    exact ok_ord (T := gtB) (g := fun a b => PySem.W.dataLt b a) hu (fun _ _ => rfl) (ord_split _ _ fun a b n => by unfold gtB; split <;> first | rfl | exact (n _ _ rfl rfl).elim) (fun _ _ _ _ _ _ h => gt_int h)
      fun s a b da db as bs Q r1 r2 h1 h2 h3 h4 => PySem.W.gt_data r1 r2 h1 h2 h3 h4
  | ge =>
    exact ok_ord (T := geB) (g := fun a b => !PySem.W.dataLt a b) hu (fun _ _ => rfl) (ord_split _ _ fun a b n => by unfold geB; split <;> first | rfl | exact (n _ _ rfl rfl).elim) (fun _ _ _ _ _ _ h => ge_int h)
      fun s a b da db as bs Q r1 r2 h1 h2 h3 h4 => PySem.W.ge_data r1 r2 h1 h2 h3 h4
  | isin =>
    intro pins s σ H x y v u Q I rx ry h
    obtain ⟨B, a, b, d, sb, fa, fb, e, q⟩ := h
    obtain ⟨c, hc, rfl⟩ := Option.map_eq_some_iff.mp e
    cases b <;> first | (cases hc; done) | skip
    · obtain ⟨hs, rfl⟩ := if_some hc
      rw [Bool.and_eq_true] at hs
      exact op_inD hu pins s σ H x y v u Q I rx ry ⟨a, _, (fa.rl sb).dp (shaped_lay hs.1), (fb.rl sb).dp (shaped_lay hs.2), hs.1, hs.2, q.bl⟩
    · obtain ⟨hs, rfl⟩ := if_some hc
      rw [Bool.and_eq_true] at hs
      obtain ⟨as, ra⟩ := fa.reads I sb (shaped_lay hs.1) rx
      obtain ⟨bs, rb⟩ := fb.reads I sb (shaped_lay hs.2) ry
      exact SeqAt.in_tuple_reads rb ra (shaped_lay hs.2) (shaped_lay hs.1) (PyProof.Rows.room_in_shaped hs.1 hu) ⟨.bl _, H, I, rfl, q.bl⟩
  | notin =>
    intro pins s σ H x y v u Q I rx ry h
    obtain ⟨B, a, b, d, sb, fa, fb, e, q⟩ := h
    obtain ⟨c, hc, rfl⟩ := Option.map_eq_some_iff.mp e
    obtain ⟨c', hc', rfl⟩ := Option.map_eq_some_iff.mp hc
    cases b <;> first | (cases hc'; done) | skip
    · obtain ⟨hs, rfl⟩ := if_some hc'
      rw [Bool.and_eq_true] at hs
      exact op_notInD hu pins s σ H x y v u Q I rx ry ⟨a, _, (fa.rl sb).dp (shaped_lay hs.1), (fb.rl sb).dp (shaped_lay hs.2), hs.1, hs.2, q.bl⟩
    · obtain ⟨hs, rfl⟩ := if_some hc'
      rw [Bool.and_eq_true] at hs
      obtain ⟨as, ra⟩ := fa.reads I sb (shaped_lay hs.1) rx
      obtain ⟨bs, rb⟩ := fb.reads I sb (shaped_lay hs.2) ry
      exact SeqAt.notIn_tuple_reads rb ra (shaped_lay hs.2) (shaped_lay hs.1) (PyProof.Rows.room_in_shaped hs.1 hu) ⟨.bl _, H, I, rfl, q.bl⟩

/-! ### sorted by a beginning, sorted of a set -/
def keyS (n : Int) : D → D
  | .tuple ds => .tuple (ds.take n.toNat)
  | d => d
/-- a tuple whose beginning is a key that is not empty -/
def keyOk (n : Int) : D → Bool
  | .tuple ds => plains (ds.take n.toNat) && !(ds.take n.toNat).isEmpty && decide (ds.length ≤ lim) && decide ((keyS n (.tuple ds)).depth ≤ 16)
  | _ => false
def sortSF (n : Int) : D → Option D
  | .list ds => if decide (0 ≤ n ∧ n ≤ 1000 ∧ ds.length ≤ lim) && ds.all (keyOk n) && (ds.all fun a => ds.all fun b => PySem.W.alike (keyS n a) (keyS n b)) then some (.list (ds.mergeSort (PySem.W.dataLe false (keyS n)))) else none
  | _ => none
def ssetF : D → Option D
  | .list [] => some (.list [])
  | _ => none

/-! ### subscripts, slices -/
def idxF : D → D → Option D
  | .list ds, .int i => atI ds i
  | .tuple ds, .int i => atI ds i
  | .str z, .int i => if z.length ≤ lim then (atI z.cps.toList i).map fun c => .str ⟨#[c]⟩ else none
  | _, _ => none
theorem RlL.atI {w : World} {K : PySem.W.Frag} {vs : List V} {ds : List D} {i : Int} {d : D} (h : RlL w K B vs ds) (e : atI ds i = some d) : ∃ v, L2.atI vs i = some v ∧ Rl w K B v d := by
  unfold L2.atI at e ⊢
  rw [h.length]
  cases q : ixN ds.length i with
  | none => rw [q] at e; cases e
  | some j => rw [q] at e; exact h.get e
theorem ok_idx : IxR X (r2D false X.w X.K idxF) := by
  intro value slice pins s σ H x y v u Q I rx ry h hs
  obtain ⟨B, a, b, d, sb, fa, fb, e, q⟩ := h
  cases a <;> cases b <;> first | (cases e; done) | skip
  · cases fa.str_inv; cases fb.int_inv
    obtain ⟨hl, e⟩ := if_some' e
    obtain ⟨c, hc, rfl⟩ := Option.map_eq_some_iff.mp e
    exact ix_str value slice pins s σ H _ _ v u Q I rx ry ⟨_, _, c, rfl, rfl, lim_le hl, hc, q.str⟩ hs
  · obtain ⟨l, xs, rfl, hl, tl⟩ := fa.lst_inv
    cases fb.int_inv
    obtain ⟨z, hz, rz⟩ := tl.atI e
    exact ix_list value slice pins s σ H _ _ v u Q I rx ry ⟨_, _, _, z, rfl, rfl, SqL.of hl, hz, q.here rz (.inl rfl)⟩ hs
  · obtain ⟨l, xs, rfl, hl, tl⟩ := fa.tup_inv
    cases fb.int_inv
    obtain ⟨z, hz, rz⟩ := tl.atI e
    exact ix_tup value slice pins s σ H _ _ v u Q I rx ry ⟨_, _, _, z, rfl, rfl, same_t sb hl, hz, q.here rz (.inl rfl)⟩ hs
def cutA {α : Type} (xs : List α) (lo hi : Option Int) : List α := (xs.drop (HT.sIx xs.length 0 lo)).take (HT.sIx xs.length xs.length hi - HT.sIx xs.length 0 lo)
theorem cutS_eq (z : Str) (lo hi : Option Int) : cutS z lo hi = ⟨(cutA z.cps.toList lo hi).toArray⟩ := by
  unfold cutS cutA
  have : z.cps.toList.length = z.length := by simp [Str.length]
  rw [this]
def sliceF (a : D) (lo hi : Option Int) : Option D := match a with
  | .list ds => some (.list (cutA ds lo hi))
  | .tuple ds => some (.tuple (cutA ds lo hi))
  | .str z => if z.length ≤ lim then some (.str ⟨(cutA z.cps.toList lo hi).toArray⟩) else none
  | _ => none
theorem RlL.cut {w : World} {K : PySem.W.Frag} {vs : List V} {ds : List D} (h : RlL w K B vs ds) (lo hi : Option Int) : RlL w K B (cutV vs lo hi) (cutA ds lo hi) := by
  unfold cutV cutA
  rw [h.length]
  exact (h.drop _).take _
def rsD (w : World) (K : PySem.W.Frag) : V → Option Int → Option Int → Hp → VK → Prop := fun x lo hi H Q => ∃ B a d, Same B H ∧ Fl w K B H x a ∧ sliceF a lo hi = some d ∧ Out true w K B H d Q
theorem ok_slice : SlR X (rsD X.w X.K) := by
  intro pins s σ H x v vl vu lo hi sl Q I rx hs pl pu h
  obtain ⟨B, a, d, sb, fa, e, q⟩ := h
  cases a <;> first | (cases e; done) | skip
  · cases fa.str_inv
    obtain ⟨hl, rfl⟩ := if_some e
    refine sl_str pins s σ H _ v vl vu lo hi sl Q I rx hs pl pu ⟨_, rfl, lim_le hl, ?_⟩
    have q' := q.str
    rw [cutS_eq]
    exact q'
  · obtain ⟨l, xs, rfl, hl, tl⟩ := fa.lst_inv
    cases e
    exact sl_list pins s σ H _ v vl vu lo hi sl Q I rx hs pl pu ⟨_, _, rfl, SqL.of hl, q.lst (tl.cut lo hi)⟩
  · obtain ⟨l, xs, rfl, hl, tl⟩ := fa.tup_inv
    cases e
    refine sl_tupA pins s σ H _ v vl vu lo hi sl Q I rx hs pl pu ⟨_, _, rfl, same_t sb hl, fun z => ?_, fun _ => q.tup (tl.cut lo hi)⟩
    refine q.here (.tup hl ?_) (.inr rfl)
    have := tl.cut lo hi
    unfold cutV at this
    rw [z.1, z.2, Nat.sub_zero, List.drop_zero, List.take_of_length_le (Nat.le_refl _)] at this
    exact this

/-! ### built-in calls -/
def allI : List D → Option (List Int)
  | [] => some []
  | .int i :: ds => (allI ds).map (i :: ·)
  | _ :: _ => none
theorem RlL.toI {w : World} {K : PySem.W.Frag} : ∀ {vs : List V} {ds : List D} {ns : List Int}, RlL w K B vs ds → DL.allI ds = some ns → vs = ns.map V.int
  | _, _, ns, .nil, e => by cases e; rfl
  | _, d :: ds, ns, .cons h t, e => by
    cases h <;> first | (cases e; done) | skip
    obtain ⟨ms, h1, rfl⟩ := Option.map_eq_some_iff.mp (show (DL.allI ds).map _ = some ns from e)
    rw [RlL.toI t h1]
    rfl
theorem ints_map (ns : List Int) : allI (ns.map .int) = some ns := by
  induction ns with
  | nil => rfl
  | cons n r ih => show (allI (r.map .int)).map _ = _; rw [ih]; rfl
def allS : List D → Option (List Str)
  | [] => some []
  | .str i :: ds => (allS ds).map (i :: ·)
  | _ :: _ => none
theorem RlL.toS {w : World} {K : PySem.W.Frag} : ∀ {vs : List V} {ds : List D} {ns : List Str}, RlL w K B vs ds → DL.allS ds = some ns → vs = ns.map V.str
  | _, _, ns, .nil, e => by cases e; rfl
  | _, d :: ds, ns, .cons h t, e => by
    cases h <;> first | (cases e; done) | skip
    obtain ⟨ms, h1, rfl⟩ := Option.map_eq_some_iff.mp (show (DL.allS ds).map _ = some ns from e)
    rw [RlL.toS t h1]
    rfl
def allB : List D → Option (List Bool)
  | [] => some []
  | .bool i :: ds => (allB ds).map (i :: ·)
  | _ :: _ => none
theorem RlL.toB {w : World} {K : PySem.W.Frag} : ∀ {vs : List V} {ds : List D} {ns : List Bool}, RlL w K B vs ds → DL.allB ds = some ns → vs = ns.map V.bl
  | _, _, ns, .nil, e => by cases e; rfl
  | _, d :: ds, ns, .cons h t, e => by
    cases h <;> first | (cases e; done) | skip
    obtain ⟨ms, h1, rfl⟩ := Option.map_eq_some_iff.mp (show (DL.allB ds).map _ = some ns from e)
    rw [RlL.toB t h1]
    rfl
theorem min_unique {ns : List Int} {m : Int} (h1 : m ∈ ns) (h2 : ∀ y ∈ ns, m ≤ y) : ns.min? = some m := by
  rw [List.min?_eq_some_iff]
  exact ⟨h1, h2⟩
theorem max_unique {ns : List Int} {m : Int} (h1 : m ∈ ns) (h2 : ∀ y ∈ ns, y ≤ m) : ns.max? = some m := by
  rw [List.max?_eq_some_iff]
  exact ⟨h1, h2⟩
inductive B1 where | len | int_ | abs_ | tuple_ | list_ | sum_ | min_ | max_ | all_ | any_
  deriving DecidableEq
/-- the built-in's value, its name -/
def B1.val : B1 → Value
  | .len => .builtin "len" | .int_ => .type "int" | .abs_ => .builtin "abs" | .tuple_ => .type "tuple" | .list_ => .type "list"
  | .sum_ => .builtin "sum" | .min_ => .builtin "min" | .max_ => .builtin "max" | .all_ => .builtin "all" | .any_ => .builtin "any"
def B1.name : B1 → Str
  | .len => "len" | .int_ => "int" | .abs_ => "abs" | .tuple_ => "tuple" | .list_ => "list"
  | .sum_ => "sum" | .min_ => "min" | .max_ => "max" | .all_ => "all" | .any_ => "any"
def lenF : D → Option D
  | .list ds => some (.int ds.length)
  | .tuple ds => some (.int ds.length)
  | .str z => if z.length ≤ lim then some (.int z.length) else none
  | _ => none
def intF : D → Option D
  | .int i => some (.int i)
  | .bool b => some (.int (if b then 1 else 0))
  | _ => none
def absF : D → Option D
  | .int i => some (.int (if i < 0 then -i else i))
  | _ => none
def tupleF : D → Option D
  | .list ds => some (.tuple ds)
  | .tuple ds => some (.tuple ds)
  | _ => none
def listF : D → Option D
  | .list ds => some (.list ds)
  | .tuple ds => some (.list ds)
  | _ => none
def sumF : D → Option D
  | .list ds => (allI ds).map fun ns => .int ns.sum
  | _ => none
def minF : D → Option D
  | .list ds => (allI ds).bind fun ns => ns.min?.map .int
  | _ => none
def maxF : D → Option D
  | .list ds => (allI ds).bind fun ns => ns.max?.map .int
  | _ => none
def allF : D → Option D
  | .list ds => (allB ds).map fun bs => .bool (bs.all id)
  | _ => none
def anyF : D → Option D
  | .list ds => (allB ds).map fun bs => .bool (bs.any id)
  | _ => none
def B1.F : B1 → D → Option D
  | .len => lenF | .int_ => intF | .abs_ => absF | .tuple_ => tupleF | .list_ => listF | .sum_ => sumF | .min_ => minF | .max_ => maxF | .all_ => allF | .any_ => anyF
theorem ok_b1 (hc : X.calm = true) (b : B1) : CallR X b.val (rcD1 true X.w X.K b.F) := by
  intro pins s σ H xs us Q I r h
  obtain ⟨x, rfl, B, a, d, sb, fa, e, q⟩ := h
  cases b with
  | len =>
    cases a <;> first | (cases e; done) | skip
    · cases fa.str_inv
      obtain ⟨hl, rfl⟩ := if_some e
      exact call_len pins s σ H _ us Q I r ⟨_, _, rfl, ⟨lim_le hl, rfl⟩, q.int⟩
    · obtain ⟨l, xs, rfl, hl, tl⟩ := fa.lst_inv
      cases e
      rw [← tl.length] at q
      exact call_len_seq pins s σ H _ us Q I r ⟨_, _, rfl, .inl (SqL.of hl), q.int⟩
    · obtain ⟨l, xs, rfl, hl, tl⟩ := fa.tup_inv
      cases e
      rw [← tl.length] at q
      exact call_len_seq pins s σ H _ us Q I r ⟨_, _, rfl, .inr (same_t sb hl), q.int⟩
  | int_ =>
    cases a <;> first | (cases e; done) | skip
    · cases fa.bl_inv
      cases e
      exact call_int1 pins s σ H _ us Q I r (.inr ⟨_, rfl, q.int⟩)
    · cases fa.int_inv
      cases e
      exact call_int1 pins s σ H _ us Q I r (.inl ⟨_, rfl, q.int⟩)
  | abs_ =>
    cases a <;> first | (cases e; done) | skip
    cases fa.int_inv
    cases e
    exact call_abs pins s σ H _ us Q I r ⟨_, rfl, q.int⟩
  | tuple_ =>
    cases a <;> first | (cases e; done) | skip
    · obtain ⟨l, xs, rfl, hl, tl⟩ := fa.lst_inv
      cases e
      exact call_tuple_of pins s σ H _ us Q I r ⟨_, _, rfl, .inl ⟨SqL.of hl, q.tup tl⟩⟩
    · obtain ⟨l, xs, rfl, hl, tl⟩ := fa.tup_inv
      cases e
      exact call_tuple_of pins s σ H _ us Q I r ⟨_, _, rfl, .inr ⟨same_t sb hl, q.here (.tup hl tl) (.inr rfl)⟩⟩
  | list_ =>
    cases a <;> first | (cases e; done) | skip
    · obtain ⟨l, xs, rfl, hl, tl⟩ := fa.lst_inv
      cases e
      exact call_list_of pins s σ H _ us Q I r ⟨_, _, rfl, .inl (SqL.of hl), q.lst tl⟩
    · obtain ⟨l, xs, rfl, hl, tl⟩ := fa.tup_inv
      cases e
      exact call_list_of pins s σ H _ us Q I r ⟨_, _, rfl, .inr (same_t sb hl), q.lst tl⟩
  | sum_ =>
    cases a <;> first | (cases e; done) | skip
    obtain ⟨l, xs, rfl, hl, tl⟩ := fa.lst_inv
    obtain ⟨ns, hn, rfl⟩ := Option.map_eq_some_iff.mp e
    have := tl.toI hn
    subst this
    exact cr_sum hc pins s σ H _ us Q I r ⟨_, ns, rfl, SqL.of hl, q.int⟩
  | min_ =>
    cases a <;> first | (cases e; done) | skip
    obtain ⟨l, xs, rfl, hl, tl⟩ := fa.lst_inv
    obtain ⟨ns, hn, e⟩ := Option.bind_eq_some_iff.mp e
    obtain ⟨m, hm, rfl⟩ := Option.map_eq_some_iff.mp e
    have := tl.toI hn
    subst this
    refine cr_min hc pins s σ H _ us Q I r ⟨_, ns, rfl, SqL.of hl, ?_, fun m' h1 h2 => ?_⟩
    · cases ns with
      | nil => cases hm
      | cons _ _ => exact Nat.succ_pos _
    · rw [min_unique h1 h2] at hm
      cases hm
      exact q.int
  | max_ =>
    cases a <;> first | (cases e; done) | skip
    obtain ⟨l, xs, rfl, hl, tl⟩ := fa.lst_inv
    obtain ⟨ns, hn, e⟩ := Option.bind_eq_some_iff.mp e
    obtain ⟨m, hm, rfl⟩ := Option.map_eq_some_iff.mp e
    have := tl.toI hn
    subst this
    refine cr_max hc pins s σ H _ us Q I r ⟨_, ns, rfl, SqL.of hl, ?_, fun m' h1 h2 => ?_⟩
    · cases ns with
      | nil => cases hm
      | cons _ _ => exact Nat.succ_pos _
    · rw [max_unique h1 h2] at hm
      cases hm
      exact q.int
  | all_ =>
    cases a <;> first | (cases e; done) | skip
    obtain ⟨l, xs, rfl, hl, tl⟩ := fa.lst_inv
    obtain ⟨ns, hn, rfl⟩ := Option.map_eq_some_iff.mp e
    have := tl.toB hn
    subst this
    exact cr_all hc pins s σ H _ us Q I r ⟨_, ns, rfl, SqL.of hl, q.bl⟩
  | any_ =>
    cases a <;> first | (cases e; done) | skip
    obtain ⟨l, xs, rfl, hl, tl⟩ := fa.lst_inv
    obtain ⟨ns, hn, rfl⟩ := Option.map_eq_some_iff.mp e
    have := tl.toB hn
    subst this
    exact cr_any hc pins s σ H _ us Q I r ⟨_, ns, rfl, SqL.of hl, q.bl⟩
inductive B2 where | max2 | min2
  deriving DecidableEq
def B2.val : B2 → Value
  | .max2 => .builtin "max" | .min2 => .builtin "min"
def B2.name : B2 → Str
  | .max2 => "max" | .min2 => "min"
def max2F : D → D → Option D
  | .int i, .int j => some (.int (if j > i then j else i))
  | _, _ => none
def min2F : D → D → Option D
  | .int i, .int j => some (.int (if j < i then j else i))
  | _, _ => none
def B2.F : B2 → D → D → Option D
  | .max2 => max2F | .min2 => min2F
theorem ok_b2 (hc : X.calm = true) (b : B2) : CallR X b.val (rcD2 true X.w X.K b.F) := by
  intro pins s σ H xs us Q I r h
  obtain ⟨x, y, rfl, B, a, a', d, sb, fa, fb, e, q⟩ := h
  cases b with
  | max2 =>
    cases a <;> cases a' <;> first | (cases e; done) | skip
    cases fa.int_inv; cases fb.int_inv
    cases e
    exact call_max2 hc pins s σ H _ us Q I r ⟨_, _, rfl, q.int⟩
  | min2 =>
    cases a <;> cases a' <;> first | (cases e; done) | skip
    cases fa.int_inv; cases fb.int_inv
    cases e
    exact call_min2 hc pins s σ H _ us Q I r ⟨_, _, rfl, q.int⟩
end
end DL
end
section
set_option Elab.async false
set_option linter.all false
set_option maxRecDepth 100000
set_option maxHeartbeats 2000000
/-! DL4: the small language: what it means on data; when a text is a term of it. -/
namespace DL
open PySem PySem.Spec PyProof.Rows L2

/-! ### the law's source of numbers -/
/-- the cells, the one that is taken next ahead; what is left of the present one; the mixed number; the turns -/
structure Src where
  cells : List Int
  left : Int
  mixed : Int
  turn : Int
def refill : List Int → Int → List Int × Int
  | [], l => ([], l)
  | c :: cs, l => if l < 2 then refill cs c else (c :: cs, l)
/-- what _law_pick gives, and the source behind it -/
def pickF (s : Src) (m : Int) : Int × Src :=
  if m < 2 then (0, s) else
    let r := refill s.cells s.left
    if r.2 > 1 then (r.2 % m, { s with cells := r.1, left := r.2 / m })
    else
      let t := s.turn + 1
      let a := (s.mixed + t * 104729) % 998244353
      let b := (a * a + t * 17) % 2147483647
      ((b / 16) % m, { s with cells := r.1, left := r.2, turn := t })
theorem pick_bounds (s : Src) (m : Int) (h : 1 ≤ m) : 0 ≤ (pickF s m).1 ∧ (pickF s m).1 < m := by
  unfold pickF
  by_cases h2 : m < 2
  · rw [if_pos h2]; exact ⟨Int.le_refl _, by show (0 : Int) < m; omega⟩
  · rw [if_neg h2]
    dsimp only
    split
    · exact ⟨Int.emod_nonneg _ (by omega), Int.emod_lt_of_pos _ (by omega)⟩
    · exact ⟨Int.emod_nonneg _ (by omega), Int.emod_lt_of_pos _ (by omega)⟩
/-- the things in a drawn order -/
def orderF : Nat → List D → Src → List D × Src
  | 0, _, s => ([], s)
  | n + 1, ds, s =>
    let p := pickF s ds.length
    let q := orderF n (ds.eraseIdx p.1.toNat) p.2
    ((ds[p.1.toNat]?.getD .none) :: q.1, q.2)

/-! ### runs -/
abbrev Rn (α : Type) := Option (α × Src)
def Wp {α : Type} (m : Rn α) (Q : α → Src → Prop) : Prop := ∃ a s, m = some (a, s) ∧ Q a s
theorem Wp.some {α : Type} {a : α} {s : Src} {Q : α → Src → Prop} : Wp (some (a, s)) Q ↔ Q a s :=
  ⟨fun ⟨_, _, e, q⟩ => by cases e; exact q, fun q => ⟨a, s, rfl, q⟩⟩
theorem Wp.none {α : Type} {Q : α → Src → Prop} : Wp (Option.none : Rn α) Q ↔ False := ⟨fun ⟨_, _, e, _⟩ => (by cases e), False.elim⟩
theorem Wp.mono {α : Type} {m : Rn α} {Q R : α → Src → Prop} (h : Wp m Q) (k : ∀ a s, Q a s → R a s) : Wp m R := let ⟨a, s, e, q⟩ := h; ⟨a, s, e, k a s q⟩
theorem Wp.bind {α β : Type} {m : Rn α} {f : α × Src → Rn β} {Q : β → Src → Prop} : Wp (m.bind f) Q ↔ Wp m fun a s => Wp (f (a, s)) Q := by
  constructor
  · rintro ⟨b, s, e, q⟩
    obtain ⟨p, h1, h2⟩ := Option.bind_eq_some_iff.mp e
    exact ⟨p.1, p.2, h1, b, s, h2, q⟩
  · rintro ⟨a, s, e, b, s', e', q⟩
    exact ⟨b, s', by rw [e]; exact e', q⟩
theorem Wp.ite {α : Type} {c : Prop} [Decidable c] {m : Rn α} {Q : α → Src → Prop} : Wp (if c then m else Option.none) Q ↔ c ∧ Wp m Q := by
  by_cases h : c
  · rw [if_pos h]; exact ⟨fun q => ⟨h, q⟩, fun q => q.2⟩
  · rw [if_neg h]; exact ⟨fun q => (Wp.none.mp q).elim, fun q => absurd q.1 h⟩
theorem Wp.map {α β : Type} {o : Option α} {s : Src} {f : α → β} {Q : β → Src → Prop} : Wp (o.map fun a => (f a, s)) Q ↔ ∃ a, o = Option.some a ∧ Q (f a) s := by
  constructor
  · rintro ⟨b, s', e, q⟩
    obtain ⟨a, h1, h2⟩ := Option.map_eq_some_iff.mp e
    cases h2
    exact ⟨a, h1, q⟩
  · rintro ⟨a, h1, q⟩
    exact ⟨_, _, by rw [h1]; rfl, q⟩

/-! ### terms -/
mutual
inductive Tg where
  | one (i : Nat) | many (ts : Tgs)
inductive Tgs where
  | nil | cons (t : Tg) (ts : Tgs)
end
mutual
inductive E where
  | non | bl (b : Bool) | int (i : Int) | str (x : Str)
  | var (i : Nat) | view (i : Nat) | gint (x : Str) (i : Int)
  | tup (es : Es) | lst (es : Es)
  | bin (o : Op2) (a b : E) | neg (a : E) | cmp (c : Cm) (a b : E) | isN (a : E) | notN (a : E) | and (a b : E) | or (a b : E) | nota (a : E)
  | ifx (t : T) (a b : E)
  | idx (a b : E) | slc (a : E) (lo hi : Oe)
  | call (f : Nat) (as : As) | pick (i : Nat) (a : E) | order (i : Nat) (a : E)
  | b1 (o : B1) (a : E) | b2 (o : B2) (a b : E) | join (z : Str) (a : E)
  | comp (tg : Tg) (it : It) (ts : Ts) (own : List Nat) (e : E)
  | emp | get (a k d : E) | sortS (a : E) (n : Int) | sset (a : E)
inductive Es where
  | nil | cons (e : E) (es : Es) | star (e : E) (es : Es)
inductive Oe where
  | no | some (e : E)
inductive As where
  | nil | cons (e : E) (as : As) | src (i : Nat) (as : As)
inductive T where
  | ev (e : E) | cmp (c : Cm) (a b : E) | chain (c c' : Cm) (a b d : E) | isN (a : E) | notN (a : E) | not (t : T) | and (ts : Ts) | or (ts : Ts)
inductive Ts where
  | nil | cons (t : T) (ts : Ts)
inductive It where
  | seq (e : E) | range1 (a : E) | range2 (a b : E)
end
mutual
inductive S where
  | asg (tg : Tg) (e : E) | own (i : Nat) (e : E) | par (ks : List (Bool × Nat)) (es : Es) | aug (i : Nat) (o : Op2) (e : E)
  | app (i : Nat) (e : E) | ext (i : Nat) (e : E) | seti (i : Nat) (k e : E) | frz (i : Nat)
  | iff (t : T) (a b : Ss) | for_ (tg : Tg) (it : It) (body : Ss) | whil (n : Nat) (t : T) (body : Ss)
  | ret (e : E) | retN | pass | brk | cont
inductive Ss where
  | nil | cons (s : S) (ss : Ss)
end

/-! ### meaning -/
/-- a slot: nothing known, data, a list or a dict of one's own, the law's source -/
inductive Slot where
  | no | sh (d : D) | ow (d : D) | sr
abbrev Env' := List Slot
/-- tables of code objects: where, and the names that they tell -/
abbrev Tb := List (Addr × Str)
/-- what the defs do, and the tables that lambdas are entered in -/
structure Fs where
  T : Tb
  run : Nat → List Slot → Src → Rn D
instance : CoeFun Fs fun _ => Nat → List Slot → Src → Rn D := ⟨Fs.run⟩
mutual
def bindTg : Tg → D → Env' → Option Env'
  | .one i, d, env => if i < env.length then some (env.set i (.sh d)) else none
  | .many ts, .tuple ds, env => bindTgs ts ds env
  | .many _, _, _ => none
def bindTgs : Tgs → List D → Env' → Option Env'
  | .nil, [], env => some env
  | .cons t ts, d :: ds, env => (bindTg t d env).bind (bindTgs ts ds)
  | _, _, _ => none
end
def wipeE (env : Env') : List Nat → Env'
  | [] => env
  | v :: vs => (wipeE env vs).set v .no
def noOw (env : Env') (own : List Nat) : Bool := own.all fun i => match env[i]? with
  | some (.ow _) => false
  | _ => true
/-- a comprehension's turns: f tells of an item what it gives, if anything -/
def compLoop (f : D → Src → Rn (Option D)) : List D → Src → Rn (List D)
  | [], s => some ([], s)
  | d :: ds, s => (f d s).bind fun p => (compLoop f ds p.2).bind fun q => some ((match p.1 with | some x => x :: q.1 | none => q.1), q.2)
def seqItems : D → Option (List D)
  | .list ds => some ds
  | .tuple ds => some ds
  | _ => none
theorem seqItems_inv {d : D} {ds : List D} (h : seqItems d = some ds) : d = .list ds ∨ d = .tuple ds := by
  cases d <;> first | (cases h; done) | skip
  · cases h; exact .inl rfl
  · cases h; exact .inr rfl
def rangeItems (lo hi : Int) : List D := (List.range (hi - lo).toNat).map fun (i : Nat) => .int (lo + (i : Int))
def rangeOk (lo hi : Int) : Bool := decide (-1000000000000 ≤ lo ∧ lo ≤ 1000000000000 ∧ -1000000000000 ≤ hi ∧ hi ≤ 1000000000000)
def truthF : D → Option Bool
  | .none => some false
  | .bool b => some b
  | .int i => some (i != 0)
  | .str x => if x.length ≤ lim then some (x.length != 0) else none
  | .list ds => some (!ds.isEmpty)
  | .tuple ds => some (!ds.isEmpty)
  | .dict _ => none
def negF : D → Option D
  | .int i => some (.int (-i))
  | _ => none
def joinF (z : Str) : D → Option D
  | .list ds => (allS ds).bind fun ys => if (ys.map (·.length)).sum + ys.length * z.length ≤ lim then some (.str (Txt.join z ys)) else none
  | .tuple ds => (allS ds).bind fun ys => if (ys.map (·.length)).sum + ys.length * z.length ≤ lim then some (.str (Txt.join z ys)) else none
  | _ => none
def isNone : D → Bool
  | .none => true
  | _ => false
section
variable (P : Fs)
mutual
/-- b: where an operation reads it (what is one's own may stand there) -/
def evE (b : Bool) : E → Env' → Src → Rn D
  | .non, _, s => some (.none, s)
  | .bl v, _, s => some (.bool v, s)
  | .int i, _, s => some (.int i, s)
  | .str x, _, s => some (.str x, s)
  | .var i, env, s => match env[i]? with
    | some (.sh d) => some (d, s)
    | _ => none
  | .view i, env, s => match b, env[i]? with
    | true, some (.ow d) => some (d, s)
    | _, _ => none
  | .gint _ i, _, s => some (.int i, s)
  | .tup es, env, s => (evEs es env s).bind fun p => if p.1.length ≤ lim then some (.tuple p.1, p.2) else none
  | .lst es, env, s => (evEs es env s).bind fun p => if p.1.length ≤ lim then some (.list p.1, p.2) else none
  | .bin o a c, env, s => (evE true a env s).bind fun p => (evE true c env p.2).bind fun q => (o.F p.1 q.1).map fun d => (d, q.2)
  | .neg a, env, s => (evE true a env s).bind fun p => (negF p.1).map fun d => (d, p.2)
  | .cmp o a c, env, s => (evE true a env s).bind fun p => (evE true c env p.2).bind fun q => (o.F p.1 q.1).map fun d => (d, q.2)
  | .isN a, env, s => (evE true a env s).bind fun p => some (.bool (isNone p.1), p.2)
  | .notN a, env, s => (evE true a env s).bind fun p => some (.bool (!isNone p.1), p.2)
  | .and a c, env, s => (evE true a env s).bind fun p => match p.1 with
    | .bool true => evE true c env p.2 |>.bind fun q => (match q.1 with | .bool v => some (.bool v, q.2) | _ => none)
    | .bool false => some (.bool false, p.2)
    | _ => none
  | .or a c, env, s => (evE true a env s).bind fun p => match p.1 with
    | .bool false => evE true c env p.2 |>.bind fun q => (match q.1 with | .bool v => some (.bool v, q.2) | _ => none)
    | .bool true => some (.bool true, p.2)
    | _ => none
  | .nota a, env, s => (evE true a env s).bind fun p => match p.1 with
    | .bool v => some (.bool (!v), p.2)
    | _ => none
  | .ifx t a c, env, s => (evT t env s).bind fun p => if p.1 then evE b a env p.2 else evE b c env p.2
  | .idx a c, env, s => (evE true a env s).bind fun p => (evE true c env p.2).bind fun q => (idxF p.1 q.1).map fun d => (d, q.2)
  | .slc a lo hi, env, s => (evE true a env s).bind fun p => (evO lo env p.2).bind fun q => (evO hi env q.2).bind fun r => (sliceF p.1 q.1 r.1).map fun d => (d, r.2)
  | .call f as, env, s => (evAs as env s).bind fun p => P f p.1 p.2
  | .pick i a, env, s => match env[i]? with
    | some .sr => (evE true a env s).bind fun p => match p.1 with
      | .int m => if m ≤ 10 ^ 100 then some (.int (pickF p.2 m).1, (pickF p.2 m).2) else none
      | _ => none
    | _ => none
  | .order i a, env, s => match env[i]? with
    | some .sr => (evE true a env s).bind fun p => (seqItems p.1).bind fun ds => if ds.length ≤ lim then some (.list (orderF ds.length ds p.2).1, (orderF ds.length ds p.2).2) else none
    | _ => none
  | .b1 o a, env, s => (evE true a env s).bind fun p => (o.F p.1).map fun d => (d, p.2)
  | .b2 o a c, env, s => (evE true a env s).bind fun p => (evE true c env p.2).bind fun q => (o.F p.1 q.1).map fun d => (d, q.2)
  | .join z a, env, s => (evE true a env s).bind fun p => (joinF z p.1).map fun d => (d, p.2)
  | .comp tg it ts own e, env, s => (evIt true it env s).bind fun p => if p.1.length ≤ lim ∧ noOw env own = true then
      (compLoop (fun d s => match bindTg tg d (wipeE env own) with
        | some env' => (evTs ts env' s).bind fun q => if q.1 then (evE false e env' q.2).bind fun r => some (some r.1, r.2) else some (none, q.2)
        | none => none) p.1 p.2).bind fun q => some (.list q.1, q.2) else none
  | .emp, _, s => some (.dict [], s)
  | .get a k d, env, s => (evE true a env s).bind fun p => (evE false k env p.2).bind fun q => (evE false d env q.2).bind fun r => (getF p.1 q.1 r.1).map fun z => (z, r.2)
  | .sortS a n, env, s => (evE true a env s).bind fun p => (sortSF n p.1).map fun d => (d, p.2)
  | .sset a, env, s => (evE true a env s).bind fun p => (ssetF p.1).map fun d => (d, p.2)
def evEs : Es → Env' → Src → Rn (List D)
  | .nil, _, s => some ([], s)
  | .cons e es, env, s => (evE false e env s).bind fun p => (evEs es env p.2).bind fun q => some (p.1 :: q.1, q.2)
  | .star e es, env, s => (evE true e env s).bind fun p => (seqItems p.1).bind fun ds => (evEs es env p.2).bind fun q => some (ds ++ q.1, q.2)
def evO : Oe → Env' → Src → Rn (Option Int)
  | .no, _, s => some (none, s)
  | .some e, env, s => (evE true e env s).bind fun p => match p.1 with
    | .int i => some (some i, p.2)
    | _ => none
def evAs : As → Env' → Src → Rn (List Slot)
  | .nil, _, s => some ([], s)
  | .cons e as, env, s => (evE false e env s).bind fun p => (evAs as env p.2).bind fun q => some (.sh p.1 :: q.1, q.2)
  | .src i as, env, s => match env[i]? with
    | some .sr => (evAs as env s).bind fun q => some (.sr :: q.1, q.2)
    | _ => none
def evT : T → Env' → Src → Rn Bool
  | .ev e, env, s => (evE true e env s).bind fun p => (truthF p.1).map fun d => (d, p.2)
  | .cmp o a c, env, s => (evE true a env s).bind fun p => (evE true c env p.2).bind fun q => (o.T p.1 q.1).map fun d => (d, q.2)
  | .chain o o' a c e, env, s => (evE true a env s).bind fun p => (evE true c env p.2).bind fun q => (o.T p.1 q.1).bind fun v =>
      if v then (evE true e env q.2).bind fun r => (o'.T q.1 r.1).map fun d => (d, r.2) else some (false, q.2)
  | .isN a, env, s => (evE true a env s).bind fun p => some (isNone p.1, p.2)
  | .notN a, env, s => (evE true a env s).bind fun p => some (!isNone p.1, p.2)
  | .not t, env, s => (evT t env s).bind fun p => some (!p.1, p.2)
  | .and ts, env, s => evTs ts env s
  | .or ts, env, s => evTo ts env s
/-- all of them -/
def evTs : Ts → Env' → Src → Rn Bool
  | .nil, _, s => some (true, s)
  | .cons t ts, env, s => (evT t env s).bind fun p => if p.1 then evTs ts env p.2 else some (false, p.2)
/-- some of them -/
def evTo : Ts → Env' → Src → Rn Bool
  | .nil, _, s => some (false, s)
  | .cons t ts, env, s => (evT t env s).bind fun p => if p.1 then some (true, p.2) else evTo ts env p.2
def evIt (b : Bool) : It → Env' → Src → Rn (List D)
  | .seq e, env, s => (evE b e env s).bind fun p => (seqItems p.1).map fun ds => (ds, p.2)
  | .range1 a, env, s => (evE true a env s).bind fun p => match p.1 with
    | .int j => if rangeOk 0 j then some (rangeItems 0 j, p.2) else none
    | _ => none
  | .range2 a c, env, s => (evE true a env s).bind fun p => (evE true c env p.2).bind fun q => match p.1, q.1 with
    | .int i, .int j => if rangeOk i j then some (rangeItems i j, q.2) else none
    | _, _ => none
end
end

/-! ### statements -/
inductive Fw where | next | ret (d : D) | brk | cont
/-- how it goes on, the slots behind it -/
abbrev Rs := Rn (Fw × Env')
/-- a loop's turns over items -/
def forLoop (f : D → Env' → Src → Rs) : List D → Env' → Src → Rs
  | [], env, s => some ((.next, env), s)
  | d :: ds, env, s => (f d env s).bind fun p => match p.1.1 with
    | .next => forLoop f ds p.1.2 p.2
    | .cont => forLoop f ds p.1.2 p.2
    | .brk => some ((.next, p.1.2), p.2)
    | .ret v => some ((.ret v, p.1.2), p.2)
def whileLoop (t : Env' → Src → Rn Bool) (f : Env' → Src → Rs) : Nat → Env' → Src → Rs
  | 0, _, _ => none
  | n + 1, env, s => (t env s).bind fun q => if q.1 then (f env q.2).bind fun p => match p.1.1 with
      | .next => whileLoop t f n p.1.2 p.2
      | .cont => whileLoop t f n p.1.2 p.2
      | .brk => some ((.next, p.1.2), p.2)
      | .ret v => some ((.ret v, p.1.2), p.2)
    else some ((.next, env), q.2)
/-- slots are set, shared or one's own -/
def setKs : List (Bool × Nat) → List D → Env' → Option Env'
  | [], [], env => some env
  | (false, i) :: ks, d :: ds, env => if i < env.length then setKs ks ds (env.set i (.sh d)) else none
  | (true, i) :: ks, d :: ds, env => if i < env.length ∧ mutD d = true then setKs ks ds (env.set i (.ow d)) else none
  | _, _, _ => none
/-- x[k] = v of one's own list -/
def setF : D → D → D → Option D
  | .list ds, .int k, v => (ixN ds.length k).map fun j => .list (ds.set j v)
  | .dict kvs, k, v => if keysOk kvs && tupKey k && decide (kvs.length < lim) then some (.dict (putD kvs k v)) else none
  | _, _, _ => none
section
variable (P : Fs)
mutual
def evS : S → Env' → Src → Rs
  | .asg tg e, env, s => (evE P false e env s).bind fun p => (bindTg tg p.1 env).map fun env' => ((.next, env'), p.2)
  | .own i e, env, s => (evE P false e env s).bind fun p => (setKs [(true, i)] [p.1] env).map fun env' => ((.next, env'), p.2)
  | .par ks es, env, s => (evEs P es env s).bind fun p => (setKs ks p.1 env).map fun env' => ((.next, env'), p.2)
  | .aug i o e, env, s => match env[i]? with
    | some (.sh x) => (evE P true e env s).bind fun p => match x, p.1 with
      | .int a, .int b => (o.F (.int a) (.int b)).map fun d => ((.next, env.set i (.sh d)), p.2)
      | _, _ => none
    | _ => none
  | .app i e, env, s => match env[i]? with
    | some (.ow (.list ds)) => (evE P false e env s).bind fun p => if ds.length < lim then some ((.next, env.set i (.ow (.list (ds ++ [p.1])))), p.2) else none
    | _ => none
  | .ext i e, env, s => match env[i]? with
    | some (.ow (.list ds)) => (evE P false e env s).bind fun p => (seqItems p.1).bind fun es => if ds.length + es.length ≤ lim then some ((.next, env.set i (.ow (.list (ds ++ es)))), p.2) else none
    | _ => none
  | .seti i k e, env, s => match env[i]? with
    | some (.ow x) => (evE P false e env s).bind fun p => (evE P false k env p.2).bind fun q => (setF x q.1 p.1).map fun d => ((.next, env.set i (.ow d)), q.2)
    | _ => none
  | .frz i, env, s => match env[i]? with
    | some (.ow x) => some ((.next, env.set i (.sh x)), s)
    | _ => none
  | .iff t a c, env, s => (evT P t env s).bind fun p => if p.1 then evSs a env p.2 else evSs c env p.2
  | .for_ tg it body, env, s => (evIt P false it env s).bind fun p => forLoop (fun d env s => match bindTg tg d env with
      | some env' => evSs body env' s
      | none => none) p.1 env p.2
  | .whil n t body, env, s => whileLoop (evT P t) (evSs body) n env s
  | .ret e, env, s => (evE P false e env s).bind fun p => some ((.ret p.1, env), p.2)
  | .retN, env, s => some ((.ret .none, env), s)
  | .pass, env, s => some ((.next, env), s)
  | .brk, env, s => some ((.brk, env), s)
  | .cont, env, s => some ((.cont, env), s)
def evSs : Ss → Env' → Src → Rs
  | .nil, env, s => some ((.next, env), s)
  | .cons st ss, env, s => (evS st env s).bind fun p => match p.1.1 with
    | .next => evSs ss p.1.2 p.2
    | f => some ((f, p.1.2), p.2)
end
end
/-- a def: how many parameters, how many slots, its body -/
structure Fn where
  np : Nat
  ns : Nat
  body : Ss
def run (fns : List Fn) (T : Tb) : Nat → Nat → List Slot → Src → Rn D
  | 0, _, _, _ => none
  | n + 1, f, as, s => match fns[f]? with
    | some fn => if as.length = fn.np ∧ fn.np ≤ fn.ns then (evSs ⟨T, run fns T n⟩ fn.body (as ++ List.replicate (fn.ns - fn.np) .no) s).bind fun p => (match p.1.1 with
        | .ret d => some (d, p.2)
        | .next => some (.none, p.2)
        | _ => none) else none
    | none => none
end DL
end
section
set_option Elab.async false
set_option linter.all false
set_option maxRecDepth 100000
set_option maxHeartbeats 2000000
/-! DL5: the state that stands for slots of data; the readings of terms. -/
namespace DL
open PySem PySem.Spec PyProof.Rows L2

/-- a call's fixed things: where the law's source stands, the heap at its entry, what others own -/
structure Lc (Tt : Tb) where
  fst : Addr
  snd : Addr
/-- the addresses that are the source's, the tables' -/
def Lc.mem {Tt : Tb} (loc : Lc Tt) (a : Addr) : Prop := a = loc.1 ∨ a = loc.2 ∨ ∃ p ∈ Tt, p.1 = a
structure DC (Tt : Tb) where
  loc : Lc Tt
  H0 : Hp
  O : Addr → Prop
def SrcAt {Tt : Tb} (loc : Lc Tt) (H : Hp) (s : Src) : Prop := loc.1 ≠ loc.2 ∧
  H loc.1 = some (.dK [(.inr "cells", .ref loc.2), (.inr "left", .int s.left), (.inr "mixed", .int s.mixed), (.inr "turn", .int s.turn)]) ∧ H loc.2 = some (.lst (s.cells.reverse.map V.int)) ∧ ∀ p ∈ Tt, (p.1 ≠ loc.1 ∧ p.1 ≠ loc.2) ∧ LamX.TabS H p.1 p.2
/-- all but the source is kept -/
def Kp {Tt : Tb} (loc : Lc Tt) (H H' : Hp) : Prop := ∀ a o, ¬ loc.mem a → H a = some o → H' a = some o
theorem Kp.refl {Tt : Tb} (loc : Lc Tt) (H : Hp) : Kp loc H H := fun _ _ _ h => h
theorem Kp.trans {Tt : Tb} {loc : Lc Tt} {H H1 H2 : Hp} (a : Kp loc H H1) (b : Kp loc H1 H2) : Kp loc H H2 := fun x o h1 h => b x o h1 (a x o h1 h)
theorem Kp.of {Tt : Tb} {loc : Lc Tt} {H H' : Hp} (s : Same H H') : Kp loc H H' := fun a o _ h => s a o h
theorem SrcAt.same {Tt : Tb} {loc : Lc Tt} {H H' : Hp} {s : Src} (h : SrcAt loc H s) (k : Same H H') : SrcAt loc H' s := ⟨h.1, k _ _ h.2.1, k _ _ h.2.2.1, fun p hp => ⟨(h.2.2.2 p hp).1, (h.2.2.2 p hp).2.ext k⟩⟩
/-- no code object stands there -/
def NoCode (H : Hp) (p : Addr) : Prop := ∀ q, H p ≠ some (LamX.CodeO p q)
theorem NoCode.lst {H : Hp} {p : Addr} {xs : List V} (h : H p = some (.lst xs)) : NoCode H p := fun q z => by
  rw [h] at z
  unfold LamX.CodeO at z
  cases z
theorem NoCode.dK {H : Hp} {p : Addr} {xs : List (Key × V)} (h : H p = some (.dK xs)) : NoCode H p := fun q z => by
  rw [h] at z
  unfold LamX.CodeO at z
  cases z
theorem NoCode.dict {H : Hp} {p : Addr} {es : List DictEntry} (h : H p = some (.ext (DictO p es))) : NoCode H p := fun q z => by
  rw [h] at z
  unfold LamX.CodeO at z
  have e := HO.ext.inj (Option.some.inj z)
  let o : Obj := { cls := .type "dict", data := .dict es.toArray 0 }
  let hp : Heap := ({ objs := Array.replicate p o } : Heap).push o
  have g : hp.get? p = some o := by
    have := Heap.get?_push_size ({ objs := Array.replicate p o } : Heap) (o := o) rfl
    simpa using this
  have d : DictO p es hp := ⟨o, 0, g, ⟨rfl, rfl, rfl⟩, rfl⟩
  rw [e] at d
  obtain ⟨oc, vs, t, h1, h2, _⟩ := d
  rw [g] at h1
  cases h1
  cases h2
theorem TabS.put {H : Hp} {P p : Addr} {q : Str} {o : HO} (h : LamX.TabS H P q) (hp : p ≠ P) (hn : NoCode H p) : LamX.TabS (upd H p o) P q := by
  obtain ⟨ps, h1, h2, h3⟩ := h
  refine ⟨ps, by rw [upd_ne (Ne.symm hp)]; exact h1, h2, fun pos cv hc => ?_⟩
  obtain ⟨c, e1, e2⟩ := h3 pos cv hc
  exact ⟨c, e1, by rw [upd_ne (fun (z : c = p) => hn q (by rw [← z]; exact e2))]; exact e2⟩
theorem SrcAt.put {Tt : Tb} {loc : Lc Tt} {H : Hp} {s : Src} {p : Addr} {o : HO} (h : SrcAt loc H s) (hp : ¬ loc.mem p) (hn : NoCode H p) : SrcAt loc (upd H p o) s :=
  ⟨h.1, by rw [upd_ne (fun z => hp (.inl z.symm))]; exact h.2.1, by rw [upd_ne (fun z => hp (.inr (.inl z.symm)))]; exact h.2.2.1, fun t ht => ⟨(h.2.2.2 t ht).1, TabS.put (h.2.2.2 t ht).2 (fun z => hp (.inr (.inr ⟨t, ht, z.symm⟩))) hn⟩⟩
theorem OwAt.noCode {w : World} {K : PySem.W.Frag} {B H : Hp} {a : Addr} {d : D} (h : OwAt w K B H a d) : NoCode H a := by
  cases d <;> first | exact h.elim | skip
  · obtain ⟨xs, h1, _⟩ := h
    exact NoCode.lst h1
  · obtain ⟨es, _, _, h1, _⟩ := h
    exact NoCode.dict h1
/-- some addresses hidden -/
noncomputable def msk (M : Addr → Prop) (H : Hp) : Hp := fun a => open Classical in if M a then none else H a
theorem msk_of {M : Addr → Prop} {H : Hp} {a : Addr} {o : HO} (h : msk M H a = some o) : ¬ M a ∧ H a = some o := by
  unfold msk at h
  by_cases q : M a
  · rw [if_pos q] at h; cases h
  · rw [if_neg q] at h; exact ⟨q, h⟩
theorem msk_at {M : Addr → Prop} {H : Hp} {a : Addr} (h : ¬ M a) : msk M H a = H a := by unfold msk; rw [if_neg h]
theorem msk_some {M : Addr → Prop} {H : Hp} {a : Addr} {o : HO} (h : ¬ M a) (e : H a = some o) : msk M H a = some o := by rw [msk_at h]; exact e
theorem msk_same {M N : Addr → Prop} {H H' : Hp} (h : ∀ a, N a → M a) (k : ∀ a o, ¬ M a → H a = some o → H' a = some o) : Same (msk M H) (msk N H') := fun a o e => by
  obtain ⟨h1, h2⟩ := msk_of e
  exact msk_some (fun z => h1 (h a z)) (k a o h1 h2)
theorem msk_sub {M : Addr → Prop} {H : Hp} : Same (msk M H) H := fun _ _ e => (msk_of e).2

/-- the heap without the source -/
noncomputable def sm {Tt : Tb} (loc : Lc Tt) (H : Hp) : Hp := msk loc.mem H
theorem sm_same {Tt : Tb} {loc : Lc Tt} {H H' : Hp} (k : Kp loc H H') : Same (sm loc H) (sm loc H') :=
  msk_same (fun _ h => h) fun a o n e => k a o n e
theorem sm_sub {Tt : Tb} {loc : Lc Tt} {H : Hp} : Same (sm loc H) H := msk_sub
/-- the addresses of what is one's own -/
def ownA (env : Env') (ad : Nat → Addr) (a : Addr) : Prop := ∃ (i : Nat) (d : D), env[i]? = some (.ow d) ∧ ad i = a
def hid {Tt : Tb} (C : DC Tt) (env : Env') (ad : Nat → Addr) (a : Addr) : Prop := C.O a ∨ ownA env ad a
/-- where shared data lies -/
noncomputable def Bs {Tt : Tb} (C : DC Tt) (env : Env') (ad : Nat → Addr) (H : Hp) : Hp := msk (hid C env ad) H
section
variable (w : World) (K : PySem.W.Frag)
def SlR {Tt : Tb} (loc : Lc Tt) (B H : Hp) (a : Addr) (x : Option (Option V)) : Slot → Prop
  | .no => True
  | .sh d => ∃ v, x = some (some v) ∧ Rl w K B v d
  | .sr => x = some (some (.ref loc.1))
  | .ow d => x = some (some (.ref a)) ∧ OwAt w K B H a d
structure Gd {Tt : Tb} (C : DC Tt) (ad : Nat → Addr) (σ : L2.St) (H : Hp) (env : Env') (s : Src) : Prop where
  src : SrcAt C.loc H s
  om : ∀ a, C.loc.mem a → C.O a
  oT : ∀ a, C.O a → (H a).isSome = true
  kp : Kp C.loc C.H0 H
  on : ∀ (i : Nat) (d : D), env[i]? = some (.ow d) → C.H0 (ad i) = none ∧ ¬ C.O (ad i)
  inj : ∀ (i j : Nat) (d e : D), env[i]? = some (.ow d) → env[j]? = some (.ow e) → ad i = ad j → i = j
  len : σ.length = env.length
  sl : ∀ (i : Nat) (z : Slot), env[i]? = some z → SlR w K C.loc (Bs C env ad H) H (ad i) σ[i]? z
/-- a result: where an operation reads it, its top may be one's own -/
def Res {Tt : Tb} (b : Bool) (loc : Lc Tt) (B H : Hp) (v : V) (d : D) : Prop := if b = true then Fl w K B (sm loc H) v d else Rl w K B v d
def tE (P : Fs) (b : Bool) (e : E) : TE := fun σ H Q => ∃ (C : DC P.T) (ad : Nat → Addr) (env : Env') (s : Src), Gd w K C ad σ H env s ∧ Wp (evE P b e env s) fun d s' => ∀ v H', Kp C.loc H H' → SrcAt C.loc H' s' → Res w K b C.loc (Bs C env ad H') H' v d → Q v H'
def tEs (P : Fs) (es : Es) : TA := fun σ H Q => ∃ (C : DC P.T) (ad : Nat → Addr) (env : Env') (s : Src), Gd w K C ad σ H env s ∧ Wp (evEs P es env s) fun ds s' => ∀ vs H', Kp C.loc H H' → SrcAt C.loc H' s' → RlL w K (Bs C env ad H') vs ds → Q vs H'
def tO (P : Fs) (e : Oe) : TO := fun σ H Q => ∃ (C : DC P.T) (ad : Nat → Addr) (env : Env') (s : Src), Gd w K C ad σ H env s ∧ Wp (evO P e env s) fun o s' => ∀ H', Kp C.loc H H' → SrcAt C.loc H' s' → Q o H'
/-- arguments: data, or the source -/
inductive VsR {Tt : Tb} (loc : Lc Tt) (B : Hp) : List V → List Slot → Prop
  | nil : VsR loc B [] []
  | sh {v : V} {vs : List V} {d : D} {as : List Slot} : Rl w K B v d → VsR loc B vs as → VsR loc B (v :: vs) (.sh d :: as)
  | sr {vs : List V} {as : List Slot} : VsR loc B vs as → VsR loc B (.ref loc.1 :: vs) (.sr :: as)
def tAs (P : Fs) (as : As) : TA := fun σ H Q => ∃ (C : DC P.T) (ad : Nat → Addr) (env : Env') (s : Src), Gd w K C ad σ H env s ∧ Wp (evAs P as env s) fun zs s' => ∀ vs H', Kp C.loc H H' → SrcAt C.loc H' s' → VsR w K C.loc (Bs C env ad H') vs zs → Q vs H'
def tT (P : Fs) (t : T) : TT := fun σ H Q => ∃ (C : DC P.T) (ad : Nat → Addr) (env : Env') (s : Src), Gd w K C ad σ H env s ∧ Wp (evT P t env s) fun c s' => ∀ H', Kp C.loc H H' → SrcAt C.loc H' s' → Q c H'
def tTs (P : Fs) (t : Ts) : TT := fun σ H Q => ∃ (C : DC P.T) (ad : Nat → Addr) (env : Env') (s : Src), Gd w K C ad σ H env s ∧ Wp (evTs P t env s) fun c s' => ∀ H', Kp C.loc H H' → SrcAt C.loc H' s' → Q c H'
def tTo (P : Fs) (t : Ts) : TT := fun σ H Q => ∃ (C : DC P.T) (ad : Nat → Addr) (env : Env') (s : Src), Gd w K C ad σ H env s ∧ Wp (evTo P t env s) fun c s' => ∀ H', Kp C.loc H H' → SrcAt C.loc H' s' → Q c H'
end

section
variable {Tt : Tb} {w : World} {K : PySem.W.Frag} {C : DC Tt} {ad : Nat → Addr} {σ : L2.St} {H H' H1 : Hp} {env : Env'} {s s' : Src} {v : V} {d : D}
theorem VsR.length {Tt : Tb} {loc : Lc Tt} {B : Hp} : ∀ {vs : List V} {as : List Slot}, VsR w K loc B vs as → vs.length = as.length
  | _, _, .nil => rfl
  | _, _, .sh _ t => by rw [List.length_cons, List.length_cons, VsR.length t]
  | _, _, .sr t => by rw [List.length_cons, List.length_cons, VsR.length t]
theorem VsR.mono {Tt : Tb} {loc : Lc Tt} {B B' : Hp} (k : Same B B') : ∀ {vs : List V} {as : List Slot}, VsR w K loc B vs as → VsR w K loc B' vs as
  | _, _, .nil => .nil
  | _, _, .sh h t => .sh (h.mono k) (VsR.mono k t)
  | _, _, .sr t => .sr (VsR.mono k t)
theorem Gd.hidS (G : Gd w K C ad σ H env s) {a : Addr} (h : hid C env ad a) : (H a).isSome = true := by
  rcases h with h | ⟨i, d, e, rfl⟩
  · exact G.oT a h
  · exact (G.sl i _ e).2.some
theorem Gd.ne1 (G : Gd w K C ad σ H env s) {a : Addr} (h : ¬ hid C env ad a) : ¬ C.loc.mem a := fun z => h (.inl (G.om a z))
theorem Gd.bs (G : Gd w K C ad σ H env s) (k : Kp C.loc H H') : Same (Bs C env ad H) (Bs C env ad H') :=
  msk_same (fun _ h => h) fun a o n e => k a o (G.ne1 n) e
theorem Gd.sub (G : Gd w K C ad σ H env s) : Same (Bs C env ad H) H := msk_sub
theorem Gd.ownNe (G : Gd w K C ad σ H env s) {i : Nat} {d : D} (e : env[i]? = some (.ow d)) : ¬ C.loc.mem (ad i) := fun z => (G.on i d e).2 (G.om _ z)
/-- behind an expression -/
theorem Gd.ext (G : Gd w K C ad σ H env s) (k : Kp C.loc H H') (q : SrcAt C.loc H' s') : Gd w K C ad σ H' env s' where
  src := q
  om := G.om
  oT := fun a h => by
    by_cases h1 : C.loc.mem a
    · rcases h1 with rfl | rfl | ⟨p, hp, rfl⟩
      · rw [q.2.1]; rfl
      · rw [q.2.2.1]; rfl
      · obtain ⟨ps, e, _⟩ := (q.2.2.2 p hp).2
        rw [e]; rfl
    · obtain ⟨o, e⟩ := Option.isSome_iff_exists.mp (G.oT a h)
      rw [k a o h1 e]; rfl
  kp := G.kp.trans k
  on := G.on
  inj := G.inj
  len := G.len
  sl := fun i z e => by
    have r := G.sl i z e
    cases z with
    | no => trivial
    | sh d => obtain ⟨v, h1, h2⟩ := r; exact ⟨v, h1, h2.mono (G.bs k)⟩
    | sr => exact r
    | ow d => exact ⟨r.1, r.2.keep (G.bs k) fun o h => k _ o (G.ownNe e) h⟩
theorem Gd.new (G : Gd w K C ad σ H env s) (k : Same H H') : New (Bs C env ad H') H H' := fun a o h1 h2 => by
  refine msk_some (fun z => ?_) h2
  have := G.hidS z
  rw [h1] at this
  cases this
theorem Res.rl {Tt : Tb} (b : Bool) {loc : Lc Tt} {B : Hp} (h : Rl w K B v d) (k : Same B (sm loc H)) : Res w K b loc B H v d := by
  cases b with
  | true => exact h.fl k
  | false => exact h
theorem Res.mono {Tt : Tb} {b : Bool} {loc : Lc Tt} {B B' : Hp} (h : Res w K b loc B H v d) (k : Same B B') (u : Kp loc H H') : Res w K b loc B' H' v d := by
  cases b with
  | true => exact Fl.mono k (sm_same u) h
  | false => exact Rl.mono k h
theorem Gd.bsm (G : Gd w K C ad σ H env s) : Same (Bs C env ad H) (sm C.loc H) :=
  msk_same (fun a h => .inl (G.om a h)) fun a o n e => e
theorem Res.fl {Tt : Tb} {loc : Lc Tt} {B : Hp} (h : Res w K true loc B H v d) : Fl w K B H v d := Fl.mono (Same.refl B) sm_sub h
/-- what an operation gives is a result -/
theorem Gd.out {n b : Bool} {Q : VK} (G : Gd w K C ad σ H env s) (q : ∀ v H', Kp C.loc H H' → SrcAt C.loc H' s → Res w K b C.loc (Bs C env ad H') H' v d → Q v H') : Out n w K (Bs C env ad H) H d Q := fun v H' sm r _ =>
  q v H' (Kp.of sm) (G.src.same sm) (Res.rl b (r _ (G.bs (Kp.of sm)) (G.new sm)) (G.ext (Kp.of sm) (G.src.same sm)).bsm)
/-- an expression, then more -/
theorem tE.go {P : Fs} {C : DC P.T} {b : Bool} {e : E} {R : VK} (G : Gd w K C ad σ H env s) (h : Wp (evE P b e env s) fun d s1 => ∀ v H1, Kp C.loc H H1 → Gd w K C ad σ H1 env s1 → Res w K b C.loc (Bs C env ad H1) H1 v d → R v H1) : tE w K P b e σ H R :=
  ⟨C, ad, env, s, G, h.mono fun d s1 k v H1 k1 q r => k v H1 k1 (G.ext k1 q) r⟩
end

/-! ### weaker readings -/
section
variable {X : Cx} {a : Expr} {t t' : TE} {u u' : TT}
theorem PE.weak (h : PE X a t) (k : ∀ σ H Q, t' σ H Q → t σ H Q) : PE X a t' := ⟨fun pins s σ H Q I q => h.run pins s σ H Q I (k σ H Q q)⟩
theorem PT.weak (h : PT X a u) (k : ∀ σ H Q, u' σ H Q → u σ H Q) : PT X a u' := ⟨fun pins s σ H Q I q => h.run pins s σ H Q I (k σ H Q q)⟩
theorem PW.weak (h : PW X a u) (k : ∀ σ H Q, u' σ H Q → u σ H Q) : PW X a u' := ⟨fun wh pins s σ H Q I q => h.run wh pins s σ H Q I (k σ H Q q)⟩
theorem PA.weak {es : List Expr} {t t' : TA} (h : PA X es t) (k : ∀ σ H Q, t' σ H Q → t σ H Q) : PA X es t' := ⟨fun pos pins s σ H Q I q => h.run pos pins s σ H Q I (k σ H Q q)⟩
theorem PO.weak {e : Option Expr} {t t' : TO} (h : PO X e t) (k : ∀ σ H Q, t' σ H Q → t σ H Q) : PO X e t' := ⟨fun pins s σ H Q I q => h.run pins s σ H Q I (k σ H Q q)⟩
end

/-! ### the text: when it is a term -/
structure MC where
  N : List Str
  sc : Scope
  fn : Str → Bool
  fns : List Str
  gl : List (Str × Int)
  /-- a def in which a lambda may stand -/
  lam : Bool
def bltNames : List Str := ["len", "int", "abs", "tuple", "list", "sum", "min", "max", "all", "any", "range", "sorted", "set"]
def MC.isGl (M : MC) (x : Str) : Bool := decide (M.sc.names.lookup x = some .globalImplicit)
def MC.blt (M : MC) (x y : Str) : Bool := decide (x = y) && M.isGl y
def MC.vis (M : MC) (i : Nat) (x : Str) : Bool := decide (M.N[i]? = some x) && (match M.sc.names.lookup x with | some .local => true | some .cell => true | some .free => true | _ => false) && !(x == ("__debug__" : Str)) && !(x == ("__classdict__" : Str))
def MC.sto (M : MC) (i : Nat) (x : Str) : Bool := decide (M.N[i]? = some x) && (match M.sc.names.lookup x with | some .local => true | some .cell => M.fn x | _ => false)
def notStar : Expr → Bool
  | .Starred .. => false
  | _ => true
def isSlc : Expr → Bool
  | .Slice .. => true
  | _ => false
def plainT : Expr → Bool
  | .UnaryOp .. => false
  | .BoolOp .. => false
  | .IfExp .. => false
  | .Compare .. => false
  | _ => true
def setIt : Expr → Bool
  | .Set .. => true
  | _ => false
/-- a list of one operand is that operand -/
def unOne : Expr → Expr
  | .BoolOp op [x] p => x
  | e => e
mutual
def mTg (M : MC) : Tg → Expr → Bool
  | .one i, .Name x _ => M.sto i x
  | .many ts, .Tuple es _ _ => mTgs M ts es
  | _, _ => false
def mTgs (M : MC) : Tgs → List Expr → Bool
  | .nil, [] => true
  | .cons t ts, e :: es => notStar e && mTg M t e && mTgs M ts es
  | _, _ => false
end
mutual
def tgIn (own : List Nat) : Tg → Bool
  | .one i => decide (i ∈ own)
  | .many ts => tgsIn own ts
def tgsIn (own : List Nat) : Tgs → Bool
  | .nil => true
  | .cons t ts => tgIn own t && tgsIn own ts
end
/-- a lambda with one parameter and no other name -/
def lamOk (ps : Arguments) (y : Str) (sc : Scope) : Bool := (match ps with
  | ⟨[], [a], none, [], [], none, []⟩ => decide (a.arg = y)
  | _ => false) && (match sc.kind with | .function => true | _ => false) && !sc.isCoroutine && !sc.isGenerator && decide (sc.names = [(y, .local)]) && !(y == ("__debug__" : Str)) && !(y == ("__classdict__" : Str))
mutual
def mE (M : MC) : E → Expr → Bool
  | .non, .Constant .none _ _ => true
  | .bl b, .Constant (.bool c) _ _ => b == c
  | .int i, .Constant (.int j) _ _ => decide (i = j)
  | .str x, .Constant (.str y) _ _ => decide (x = y)
  | .var i, .Name x _ => M.vis i x
  | .view i, .Name x _ => M.vis i x
  | .gint x i, .Name y _ => decide (x = y) && M.isGl y && decide ((y, i) ∈ M.gl) && !(y == ("__debug__" : Str))
  | .tup es, .Tuple as _ _ => mEs M es as
  | .lst es, .List as _ => mEs M es as
  | .bin o a c, .BinOp x op y _ => decide (op = o.op) && mE M a x && mE M c y
  | .neg a, .UnaryOp .USub x _ => mE M a x
  | .cmp o a c, .Compare x [op] [y] _ => decide (op = o.op) && !behindInMarks op y && mE M a x && mE M c y
  | .isN a, .Compare x [.Is] [.Constant .none _ _] _ => mE M a x
  | .notN a, .Compare x [.IsNot] [.Constant .none _ _] _ => mE M a x
  | .and a c, .BoolOp .And (x :: y :: r) p => mE M a x && mE M c (unOne (.BoolOp .And (y :: r) p))
  | .or a c, .BoolOp .Or (x :: y :: r) p => mE M a x && mE M c (unOne (.BoolOp .Or (y :: r) p))
  | .nota a, .UnaryOp .Not x _ => mE M a x
  | .ifx t a c, .IfExp x y z _ => mT M t x && mE M a y && mE M c z
  | .idx a c, .Subscript x y _ => !isSlc y && mE M a x && mE M c y
  | .slc a lo hi, .Subscript x (.Slice l h none _) _ => mE M a x && mO M lo l && mO M hi h
  | .call f as, .Call (.Name x _) es [] _ => decide (M.fns[f]? = some x) && M.isGl x && !(x == ("__debug__" : Str)) && mAs M as es
  | .pick i a, .Call (.Name x _) [.Name y _, e] [] _ => M.blt x "_law_pick" && M.vis i y && notStar e && mE M a e
  | .order i a, .Call (.Name x _) [.Name y _, e] [] _ => M.blt x "_law_any_order" && M.vis i y && notStar e && mE M a e
  | .b1 o a, .Call (.Name x _) [e] [] _ => M.blt x o.name && notStar e && mE M a e
  | .b2 o a c, .Call (.Name x _) [e, e'] [] _ => M.blt x o.name && notStar e && notStar e' && mE M a e && mE M c e'
  | .join z a, .Call (.Attribute (.Constant (.str y) _ _) n apos) [e] [] cpos => decide (z = y) && decide (n = ("join" : Str)) && (apos.endLine == cpos.line) && notStar e && mE M a e
  | .comp tg it ts own e, .ListComp el [⟨tx, ix, ifs, 0⟩] scope _ => !setIt ix && mIt M it ix &&
      (own.all fun i => decide (i < M.N.length)) && blkC M.N M.sc scope (own.map fun i => (M.N.getD i "", i)) && decide (ifs.length ≤ 1) &&
      (let M' : MC := { M with sc := relS scope M.sc, fn := fun x => scope.names.lookup x == some .cell, lam := false }
       mTg M' tg tx && tgIn own tg && mTs M' ts ifs && mE M' e el)
  | .emp, .Dict [] [] _ => true
  | .get a k d, .Call (.Attribute (.Name x p) nm apos) [y, z] [] cpos => decide (nm = ("get" : Str)) && (apos.endLine == cpos.line) && notStar y && notStar z && mE M a (.Name x p) && mE M k y && mE M d z
  | .sortS a n, .Call (.Name f _) [x] [⟨some kw, .Lambda ps (.Subscript (.Name y _) (.Slice none (some (.Constant (.int m) _ _)) none _) _) sc _, _⟩] _ => M.lam && M.blt f "sorted" && decide (kw = ("key" : Str)) && decide (m = n) && notStar x && lamOk ps y sc && mE M a x
  | .sset a, .Call (.Name f _) [.Call (.Name g _) [x] [] _] [] _ => M.blt f "sorted" && M.blt g "set" && notStar x && mE M a x
  | _, _ => false
def mEs (M : MC) : Es → List Expr → Bool
  | .nil, [] => true
  | .cons e es, a :: as => notStar a && mE M e a && mEs M es as
  | .star e es, .Starred a _ :: as => mE M e a && mEs M es as
  | _, _ => false
def mO (M : MC) : Oe → Option Expr → Bool
  | .no, none => true
  | .some e, some a => mE M e a
  | _, _ => false
def mAs (M : MC) : As → List Expr → Bool
  | .nil, [] => true
  | .cons e as, a :: es => notStar a && mE M e a && mAs M as es
  | .src i as, .Name x _ :: es => M.vis i x && mAs M as es
  | _, _ => false
def mT (M : MC) : T → Expr → Bool
  | .ev e, a => plainT a && mE M e a
  | .cmp o a c, .Compare x [op] [y] _ => decide (op = o.op) && !behindInMarks op y && mE M a x && mE M c y
  | .chain o o' a c e, .Compare x [op, op'] [y, z] _ => decide (op = o.op) && decide (op' = o'.op) && !lastMarks [op, op'] [y, z] && mE M a x && mE M c y && mE M e z
  | .isN a, .Compare x [.Is] [.Constant .none _ _] _ => mE M a x
  | .notN a, .Compare x [.IsNot] [.Constant .none _ _] _ => mE M a x
  | .not t, .UnaryOp .Not x _ => mT M t x
  | .and ts, .BoolOp .And es _ => !es.isEmpty && mTs M ts es
  | .or ts, .BoolOp .Or es _ => !es.isEmpty && mTs M ts es
  | _, _ => false
def mTs (M : MC) : Ts → List Expr → Bool
  | .nil, [] => true
  | .cons t ts, a :: as => mT M t a && mTs M ts as
  | _, _ => false
def mIt (M : MC) : It → Expr → Bool
  | .seq e, a => mE M e a
  | .range1 a, .Call (.Name x _) [e] [] _ => M.blt x "range" && notStar e && mE M a e
  | .range2 a c, .Call (.Name x _) [e, e'] [] _ => M.blt x "range" && notStar e && notStar e' && mE M a e && mE M c e'
  | _, _ => false
end
end DL
end
section
set_option Elab.async false
set_option linter.all false
set_option maxRecDepth 100000
set_option maxHeartbeats 2000000
/-! DL6: a text that is a term does what the term means: names, constants, operations, displays, calls. -/
namespace DL
open PySem PySem.Spec PyProof.Rows L2

/-! ### promises -/
section
variable (w : World) (K : PySem.W.Frag)
/-- a def that does what Pk means -/
def spF (Tt : Tb) (Pk : List Slot → Src → Rn D) : Sp := fun vs H Q _ => ∃ (loc : Lc Tt) (O : Addr → Prop) (as : List Slot) (s : Src), (∀ a, loc.mem a → O a) ∧ (∀ a, O a → (H a).isSome = true) ∧ SrcAt loc H s ∧ VsR w K loc (msk O H) vs as ∧
  Wp (Pk as s) fun d s' => ∀ v H', Kp loc H H' → SrcAt loc H' s' → Rl w K (msk O H') v d → Q v H'
def spPick (Tt : Tb) : Sp := fun vs H Q _ => ∃ (loc : Lc Tt) (s : Src) (m : Int), vs = [.ref loc.1, .int m] ∧ m ≤ 10 ^ 100 ∧ SrcAt loc H s ∧ ∀ H', Kp loc H H' → SrcAt loc H' (pickF s m).2 → Q (.int (pickF s m).1) H'
def spOrder (Tt : Tb) : Sp := fun vs H Q _ => ∃ (loc : Lc Tt) (s : Src) (B : Hp) (x : V) (d : D) (ds : List D), vs = [.ref loc.1, x] ∧ Same B H ∧ (∀ a, loc.mem a → B a = none) ∧ Fl w K B H x d ∧ seqItems d = some ds ∧ ds.length ≤ lim ∧ SrcAt loc H s ∧
  ∀ p xs H', H p = none → Kp loc H H' → SrcAt loc H' (orderF ds.length ds s).2 → H' p = some (.lst xs) → RlL w K B xs (orderF ds.length ds s).1 → Q (.ref p) H'
end
/-- a def of the text that keeps a promise, by its name -/
def Has (X : Cx) (n : Nat) (x : Str) (sp : Sp) : Prop := ∃ (f : Addr) (fd : FuncData) (ps : List Str), X.mg x = some (.ref f) ∧ PySem.W.keepIn X.K (.ref f) = true ∧ Binds X.K fd ps [] ∧ FnOk X.prog X.w X.K X.mg X.base CX0 n f fd ps sp
structure HX (M : MC) (n : Nat) (P : Fs) (X : Cx) : Prop where
  sc : X.env.scope = M.sc
  N : X.N = M.N
  fn : X.fn = M.fn
  nd : X.N.Nodup
  calm : X.calm = true
  xe : X.xe = fun _ _ => False
  room : Room n X.A
  blt : ∀ x ∈ bltNames, X.mg x = none
  gl : ∀ p ∈ M.gl, ∃ t, X.mg p.1 = some (.int p.2 t)
  fns : ∀ (k : Nat) (x : Str), M.fns[k]? = some x → Has X n x (spF X.w X.K P.T (P k))
  pick : Has X n "_law_pick" (spPick P.T)
  order : Has X n "_law_any_order" (spOrder X.w X.K P.T)
  lam : M.lam = true → ∃ c Pt, X.env.code = .ref c ∧ LamX.TabB X.base X.mg c Pt ∧ (Pt, X.env.qual ++ "<lambda>") ∈ P.T ∧ ∀ p ∈ P.T, p.1 = Pt → p.2 = X.env.qual ++ "<lambda>"

section
variable {X : Cx} {M : MC} {n : Nat} {P : Fs} {x y : Str} {i : Nat} {pos : Pos} {b : Bool}
theorem HX.hu (hx : HX M n P X) : X.A.units + 65 < cLine := by have := hx.room.un; omega
theorem kind_eq (X : Cx) (x : Str) : X.env.kindOf x = X.env.scope.names.lookup x := rfl
theorem HX.glob (hx : HX M n P X) (h : M.isGl x = true) : Gl X x := by
  unfold MC.isGl at h
  show X.env.scope.names.lookup x = _
  rw [hx.sc]
  exact of_decide_eq_true h
theorem HX.bltn (hx : HX M n P X) (h : M.blt x y = true) : x = y ∧ Gl X y := by
  unfold MC.blt at h
  rw [Bool.and_eq_true] at h
  exact ⟨of_decide_eq_true h.1, hx.glob h.2⟩
theorem vis_ok (hx : HX M n P X) (h : M.vis i x = true) : X.N[i]? = some x ∧ Vis X.env.scope x ∧ (x == ("__debug__" : Str)) = false ∧ (x == ("__classdict__" : Str)) = false := by
  unfold MC.vis at h
  rw [Bool.and_eq_true, Bool.and_eq_true, Bool.and_eq_true] at h
  obtain ⟨⟨⟨h1, h2⟩, h3⟩, h4⟩ := h
  refine ⟨by rw [hx.N]; exact of_decide_eq_true h1, ?_, by simpa using h3, by simpa using h4⟩
  unfold Vis
  rw [hx.sc]
  split at h2
  · rename_i q; exact .inl q
  · rename_i q; exact .inr (.inl q)
  · rename_i q; exact .inr (.inr q)
  · cases h2
theorem sto_ok (hx : HX M n P X) (h : M.sto i x = true) : X.N[i]? = some x ∧ Loc X.env.scope x ∧ (X.fn x = true ∨ X.env.scope.names.lookup x = some .local) := by
  unfold MC.sto at h
  rw [Bool.and_eq_true] at h
  obtain ⟨h1, h2⟩ := h
  refine ⟨by rw [hx.N]; exact of_decide_eq_true h1, ?_⟩
  unfold L2.Loc
  rw [hx.sc, hx.fn]
  split at h2
  · rename_i q; exact ⟨.inl q, .inr q⟩
  · rename_i q; exact ⟨.inr q, .inl h2⟩
  · cases h2
/-- an argument without a star -/
theorem star_no {e : Expr} {es : List Expr} {env : Env} (h : notStar e = true) : starEach (e :: es) env = (false, eval e env) :: starEach es env := by
  cases e <;> first | rfl | cases h
theorem plainIx_of {e : Expr} (h : isSlc e = false) : PlainIx e := by
  cases e <;> first | (intro o i; rfl) | cases h
theorem truth_of {e : Expr} {env : Env} (h : plainT e = true) : ∀ whole, isTrue e env whole = (do let v ← whole; standAt e.pos; holding [v] (truthy v)) := by
  cases e <;> first | (intro _; rfl) | cases h
theorem set_of {e : Expr} {env : Env} (h : setIt e = false) : ∀ x, foldedSetIterable e env x = pure x := by
  cases e <;> first | (intro _; rfl) | cases h
theorem passX (X : Cx) : Passes CX0 X E0 := pass0

/-! ### names and constants -/
theorem c_var (hx : HX M n P X) (h : M.vis i x = true) : PE X (.Name x pos) (tE X.w X.K P b (.var i)) := by
  obtain ⟨h1, h2, h3, h4⟩ := vis_ok hx h
  refine PE.weak (pe_var h1 h2 h3 h4) fun σ H Q ⟨C, ad, env, s, G, d, s', e, k⟩ => ?_
  simp only [evE] at e
  split at e
  · rename_i d' he
    cases e
    obtain ⟨v, hv, r⟩ := G.sl i _ he
    exact ⟨v, hv, k v H (Kp.refl _ _) G.src (Res.rl b r G.bsm)⟩
  · cases e
theorem c_view (hx : HX M n P X) (h : M.vis i x = true) : PE X (.Name x pos) (tE X.w X.K P b (.view i)) := by
  obtain ⟨h1, h2, h3, h4⟩ := vis_ok hx h
  refine PE.weak (pe_var h1 h2 h3 h4) fun σ H Q ⟨C, ad, env, s, G, d, s', e, k⟩ => ?_
  cases b with
  | false => simp [evE] at e
  | true =>
    simp only [evE] at e
    split at e
    · rename_i d' _ he
      cases e
      obtain ⟨hv, r⟩ := G.sl i _ he
      exact ⟨_, hv, k _ H (Kp.refl _ _) G.src (r.keep (Same.refl _) fun o h => msk_some (G.ownNe he) h).fl⟩
    · cases e
theorem c_gint {z : Int} (hx : HX M n P X) (h1 : M.isGl x = true) (h2 : (x, z) ∈ M.gl) (h3 : (x == ("__debug__" : Str)) = false) : PE X (.Name x pos) (tE X.w X.K P b (.gint y z)) := by
  obtain ⟨t, ht⟩ := hx.gl _ h2
  refine PE.weak (pe_glob (v := .int z) (hx.glob h1) ht ⟨t, rfl⟩ h3) fun σ H Q ⟨C, ad, env, s, G, d, s', e, k⟩ => ?_
  simp only [evE] at e
  cases e
  exact k _ H (Kp.refl _ _) G.src (Res.rl b (.int z) G.bsm)
theorem c_non {j} : PE X (.Constant .none j pos) (tE X.w X.K P b .non) := by
  refine PE.weak pe_non fun σ H Q ⟨C, ad, env, s, G, d, s', e, k⟩ => ?_
  simp only [evE] at e
  cases e
  exact k _ H (Kp.refl _ _) G.src (Res.rl b .non G.bsm)
theorem c_bl {j v} : PE X (.Constant (.bool v) j pos) (tE X.w X.K P b (.bl v)) := by
  refine PE.weak pe_bl fun σ H Q ⟨C, ad, env, s, G, d, s', e, k⟩ => ?_
  simp only [evE] at e
  cases e
  exact k _ H (Kp.refl _ _) G.src (Res.rl b (.bl v) G.bsm)
theorem c_int {j v} : PE X (.Constant (.int v) j pos) (tE X.w X.K P b (.int v)) := by
  refine PE.weak pe_int fun σ H Q ⟨C, ad, env, s, G, d, s', e, k⟩ => ?_
  simp only [evE] at e
  cases e
  exact k _ H (Kp.refl _ _) G.src (Res.rl b (.int v) G.bsm)
theorem c_str {j v} : PE X (.Constant (.str v) j pos) (tE X.w X.K P b (.str v)) := by
  refine PE.weak pe_str fun σ H Q ⟨C, ad, env, s, G, d, s', e, k⟩ => ?_
  simp only [evE] at e
  cases e
  exact k _ H (Kp.refl _ _) G.src (Res.rl b (.str v) G.bsm)

/-! ### operations -/
variable {a c : E} {ea ec : Expr}
/-- an operation on two operands -/
theorem two_go {F : D → D → Option D} {nn : Bool} {σ : L2.St} {H : Hp} {Q : VK} {e : E} (he : ∀ env s, evE P b e env s = (evE P true a env s).bind fun p => (evE P true c env p.2).bind fun q => (F p.1 q.1).map fun d => (d, q.2))
    (h : tE X.w X.K P b e σ H Q) : tOp (r2D nn X.w X.K F) (tE X.w X.K P true a) (tE X.w X.K P true c) σ H Q := by
  obtain ⟨C, ad, env, s, G, W⟩ := h
  rw [he, Wp.bind] at W
  refine tE.go G (W.mono fun d1 s1 W1 v1 H1 k1 G1 r1 => ?_)
  rw [Wp.bind] at W1
  refine tE.go G1 (W1.mono fun d2 s2 W2 v2 H2 k2 G2 r2 => ?_)
  obtain ⟨d, hd, q⟩ := Wp.map.mp W2
  exact ⟨_, d1, d2, d, G2.sub, (r1.mono (G1.bs k2) k2).fl, r2.fl, hd, G2.out fun v H' k3 q3 r3 => q v H' (k1.trans (k2.trans k3)) q3 r3⟩
theorem c_bin {o : Op2} (ha : PE X ea (tE X.w X.K P true a)) (hc : PE X ec (tE X.w X.K P true c)) : PE X (.BinOp ea o.op ec pos) (tE X.w X.K P b (.bin o a c)) :=
  PE.weak (pe_op (ok_op2 o) ha hc) fun σ H Q h => two_go (fun env s => by simp only [evE]) h
theorem one_go {F : D → Option D} {nn : Bool} {σ : L2.St} {H : Hp} {Q : VK} {e : E} (he : ∀ env s, evE P b e env s = (evE P true a env s).bind fun p => (F p.1).map fun d => (d, p.2))
    (h : tE X.w X.K P b e σ H Q) : tE X.w X.K P true a σ H fun v1 H1 => r1D nn X.w X.K F v1 H1 Q := by
  obtain ⟨C, ad, env, s, G, W⟩ := h
  rw [he, Wp.bind] at W
  refine tE.go G (W.mono fun d1 s1 W1 v1 H1 k1 G1 r1 => ?_)
  obtain ⟨d, hd, q⟩ := Wp.map.mp W1
  exact ⟨_, d1, d, G1.sub, r1.fl, hd, G1.out fun v H' k3 q3 r3 => q v H' (k1.trans k3) q3 r3⟩
theorem c_cmp {o : Cm} (hx : HX M n P X) (hb : behindInMarks o.op ec = false) (ha : PE X ea (tE X.w X.K P true a)) (hc : PE X ec (tE X.w X.K P true c)) : PE X (.Compare ea [o.op] [ec] pos) (tE X.w X.K P b (.cmp o a c)) :=
  PE.weak (pe_cmpR (ok_cmp hx.hu o) ha hc hb) fun σ H Q h => two_go (fun env s => by simp only [evE]) h
theorem c_idx (hs : isSlc ec = false) (ha : PE X ea (tE X.w X.K P true a)) (hc : PE X ec (tE X.w X.K P true c)) : PE X (.Subscript ea ec pos) (tE X.w X.K P b (.idx a c)) :=
  PE.weak (pe_ix ok_idx ha hc (plainIx_of hs)) fun σ H Q h => two_go (fun env s => by simp only [evE]) h
theorem ok_neg : UnR X (unaryOp .USub) (r1D true X.w X.K negF) := by
  intro pins s σ H x v Q I rx h
  obtain ⟨B, a, d, sb, fa, e, q⟩ := h
  cases a <;> first | (cases e; done) | skip
  cases fa.int_inv
  cases e
  exact un_neg pins s σ H _ v Q I rx ⟨_, rfl, q.int⟩
theorem c_neg (ha : PE X ea (tE X.w X.K P true a)) : PE X (.UnaryOp .USub ea pos) (tE X.w X.K P b (.neg a)) :=
  PE.weak (pe_un ok_neg ha) fun σ H Q h => one_go (fun env s => by simp only [evE]) h
theorem isNone_of {w : World} {K : PySem.W.Frag} {B H : Hp} {x : V} {d : D} (h : Fl w K B H x d) : decide (x = .non) = isNone d := by
  cases h <;> rfl
theorem c_isN {j p2} (ha : PE X ea (tE X.w X.K P true a)) : PE X (.Compare ea [.Is] [.Constant .none j p2] pos) (tE X.w X.K P b (.isN a)) := by
  refine PE.weak (pe_cmp (pc_isN ha)) fun σ H Q ⟨C, ad, env, s, G, W⟩ => ?_
  simp only [evE] at W
  rw [Wp.bind] at W
  refine tE.go G (W.mono fun d1 s1 W1 v1 H1 k1 G1 r1 => ?_)
  rw [isNone_of r1.fl]
  exact Wp.some.mp W1 _ H1 k1 G1.src (Res.rl b (.bl _) G1.bsm)
theorem c_notN {j p2} (ha : PE X ea (tE X.w X.K P true a)) : PE X (.Compare ea [.IsNot] [.Constant .none j p2] pos) (tE X.w X.K P b (.notN a)) := by
  refine PE.weak (pe_cmp (pc_notN ha)) fun σ H Q ⟨C, ad, env, s, G, W⟩ => ?_
  simp only [evE] at W
  rw [Wp.bind] at W
  refine tE.go G (W.mono fun d1 s1 W1 v1 H1 k1 G1 r1 => ?_)
  rw [isNone_of r1.fl]
  exact Wp.some.mp W1 _ H1 k1 G1.src (Res.rl b (.bl _) G1.bsm)
theorem unOne_ok {e : Expr} {t : TE} (h : PE X (unOne e) t) : PE X e t := by
  unfold unOne at h
  split at h
  · exact pe_one h
  · exact h
theorem c_and {x y : Expr} {r : List Expr} {p2 : Pos} (ha : PE X x (tE X.w X.K P true a)) (hc : PE X (.BoolOp .And (y :: r) pos) (tE X.w X.K P true c)) : PE X (.BoolOp .And (x :: y :: r) pos) (tE X.w X.K P b (.and a c)) := by
  refine PE.weak (pe_and ha hc) fun σ H Q ⟨C, ad, env, s, G, W⟩ => ?_
  simp only [evE] at W
  rw [Wp.bind] at W
  refine tE.go G (W.mono fun d1 s1 W1 v1 H1 k1 G1 r1 => ?_)
  dsimp only at W1
  split at W1
  · cases r1.fl.bl_inv
    refine ⟨true, rfl, iteT ?_⟩
    rw [Wp.bind] at W1
    refine tE.go G1 (W1.mono fun d2 s2 W2 v2 H2 k2 G2 r2 => ?_)
    dsimp only at W2
    split at W2
    · cases r2.fl.bl_inv
      exact Wp.some.mp W2 _ H2 (k1.trans k2) G2.src (Res.rl b (.bl _) G2.bsm)
    · exact (Wp.none.mp W2).elim
  · cases r1.fl.bl_inv
    exact ⟨false, rfl, iteF (Wp.some.mp W1 _ H1 k1 G1.src (Res.rl b (.bl _) G1.bsm))⟩
  · exact (Wp.none.mp W1).elim
theorem c_or {x y : Expr} {r : List Expr} {p2 : Pos} (ha : PE X x (tE X.w X.K P true a)) (hc : PE X (.BoolOp .Or (y :: r) pos) (tE X.w X.K P true c)) : PE X (.BoolOp .Or (x :: y :: r) pos) (tE X.w X.K P b (.or a c)) := by
  refine PE.weak (pe_or ha hc) fun σ H Q ⟨C, ad, env, s, G, W⟩ => ?_
  simp only [evE] at W
  rw [Wp.bind] at W
  refine tE.go G (W.mono fun d1 s1 W1 v1 H1 k1 G1 r1 => ?_)
  dsimp only at W1
  split at W1
  · cases r1.fl.bl_inv
    refine ⟨false, rfl, iteF ?_⟩
    rw [Wp.bind] at W1
    refine tE.go G1 (W1.mono fun d2 s2 W2 v2 H2 k2 G2 r2 => ?_)
    dsimp only at W2
    split at W2
    · cases r2.fl.bl_inv
      exact Wp.some.mp W2 _ H2 (k1.trans k2) G2.src (Res.rl b (.bl _) G2.bsm)
    · exact (Wp.none.mp W2).elim
  · cases r1.fl.bl_inv
    exact ⟨true, rfl, iteT (Wp.some.mp W1 _ H1 k1 G1.src (Res.rl b (.bl _) G1.bsm))⟩
  · exact (Wp.none.mp W1).elim
theorem c_nota (ha : PE X ea (tE X.w X.K P true a)) : PE X (.UnaryOp .Not ea pos) (tE X.w X.K P b (.nota a)) := by
  refine PE.weak (pe_not ha) fun σ H Q ⟨C, ad, env, s, G, W⟩ => ?_
  simp only [evE] at W
  rw [Wp.bind] at W
  refine tE.go G (W.mono fun d1 s1 W1 v1 H1 k1 G1 r1 => ?_)
  dsimp only at W1
  split at W1
  · cases r1.fl.bl_inv
    exact ⟨_, rfl, Wp.some.mp W1 _ H1 k1 G1.src (Res.rl b (.bl _) G1.bsm)⟩
  · exact (Wp.none.mp W1).elim
theorem c_ifx {t : T} {et : Expr} (ht : PT X et (tT X.w X.K P t)) (ha : PE X ea (tE X.w X.K P b a)) (hc : PE X ec (tE X.w X.K P b c)) : PE X (.IfExp et ea ec pos) (tE X.w X.K P b (.ifx t a c)) := by
  refine PE.weak (pe_ifExp ht ha hc) fun σ H Q ⟨C, ad, env, s, G, W⟩ => ?_
  simp only [evE] at W
  rw [Wp.bind] at W
  refine ⟨C, ad, env, s, G, W.mono fun v s1 W1 H1 k1 q1 => ?_⟩
  have G1 := G.ext k1 q1
  dsimp only at W1
  cases v with
  | true =>
    refine iteT (tE.go G1 ?_)
    rw [if_pos rfl] at W1
    exact W1.mono fun d2 s2 W2 v2 H2 k2 G2 r2 => W2 v2 H2 (k1.trans k2) G2.src r2
  | false =>
    refine iteF (tE.go G1 ?_)
    rw [if_neg (by decide)] at W1
    exact W1.mono fun d2 s2 W2 v2 H2 k2 G2 r2 => W2 v2 H2 (k1.trans k2) G2.src r2
theorem c_oNo : PO X none (tO X.w X.K P .no) := by
  refine PO.weak po_none fun σ H Q ⟨C, ad, env, s, G, W⟩ => ?_
  simp only [evO] at W
  exact Wp.some.mp W H (Kp.refl _ _) G.src
theorem c_oSome (ha : PE X ea (tE X.w X.K P true a)) : PO X (some ea) (tO X.w X.K P (.some a)) := by
  refine PO.weak (po_some ha) fun σ H Q ⟨C, ad, env, s, G, W⟩ => ?_
  simp only [evO] at W
  rw [Wp.bind] at W
  refine tE.go G (W.mono fun d1 s1 W1 v1 H1 k1 G1 r1 => ?_)
  dsimp only at W1
  split at W1
  · cases r1.fl.int_inv
    exact ⟨_, rfl, Wp.some.mp W1 H1 k1 G1.src⟩
  · exact (Wp.none.mp W1).elim
theorem c_slc {lo hi : Oe} {l h : Option Expr} {p2 : Pos} (ha : PE X ea (tE X.w X.K P true a)) (hl : PO X l (tO X.w X.K P lo)) (hh : PO X h (tO X.w X.K P hi)) : PE X (.Subscript ea (.Slice l h none p2) pos) (tE X.w X.K P b (.slc a lo hi)) := by
  refine PE.weak (pe_slice ok_slice ha hl hh) fun σ H Q ⟨C, ad, env, s, G, W⟩ => ?_
  simp only [evE] at W
  rw [Wp.bind] at W
  refine tE.go G (W.mono fun d1 s1 W1 v1 H1 k1 G1 r1 => ?_)
  rw [Wp.bind] at W1
  refine ⟨C, ad, env, s1, G1, W1.mono fun o s2 W2 H2 k2 q2 => ?_⟩
  have G2 := G1.ext k2 q2
  rw [Wp.bind] at W2
  refine ⟨C, ad, env, s2, G2, W2.mono fun o' s3 W3 H3 k3 q3 => ?_⟩
  have G3 := G2.ext k3 q3
  obtain ⟨d, hd, q⟩ := Wp.map.mp W3
  exact ⟨_, d1, d, G3.sub, (r1.mono (G1.bs (k2.trans k3)) (k2.trans k3)).fl, hd, G3.out fun v H' k4 q4 r4 => q v H' (k1.trans (k2.trans (k3.trans k4))) q4 r4⟩

/-! ### displays, arguments -/
theorem c_esNil : PA X [] (tEs X.w X.K P .nil) := by
  refine PA.weak pa_nil fun σ H Q ⟨C, ad, env, s, G, W⟩ => ?_
  simp only [evEs] at W
  exact Wp.some.mp W [] H (Kp.refl _ _) G.src .nil
theorem c_esCons {e : E} {es : Es} {x : Expr} {xs : List Expr} (hs : notStar x = true) (h1 : PE X x (tE X.w X.K P false e)) (h2 : PA X xs (tEs X.w X.K P es)) : PA X (x :: xs) (tEs X.w X.K P (.cons e es)) := by
  refine PA.weak (pa_cons h1 h2 (star_no hs)) fun σ H Q ⟨C, ad, env, s, G, W⟩ => ?_
  simp only [evEs] at W
  rw [Wp.bind] at W
  refine tE.go G (W.mono fun d1 s1 W1 v1 H1 k1 G1 r1 => ?_)
  rw [Wp.bind] at W1
  refine ⟨C, ad, env, s1, G1, W1.mono fun ds s2 W2 vs H2 k2 q2 r2 => ?_⟩
  exact Wp.some.mp W2 (v1 :: vs) H2 (k1.trans k2) q2 (.cons (Rl.mono (G1.bs k2) r1) r2)
theorem c_esStar {e : E} {es : Es} {x : Expr} {xs : List Expr} {p : Pos} (h1 : PE X x (tE X.w X.K P true e)) (h2 : PA X xs (tEs X.w X.K P es)) : PA X (.Starred x p :: xs) (tEs X.w X.K P (.star e es)) := by
  refine PA.weak (StX.pa_star h1 h2 rfl) fun σ H Q ⟨C, ad, env, s, G, W⟩ => ?_
  simp only [evEs] at W
  rw [Wp.bind] at W
  refine tE.go G (W.mono fun d1 s1 W1 v1 H1 k1 G1 r1 => ?_)
  dsimp only at W1
  cases hq : seqItems d1 with
  | none => rw [hq] at W1; exact (Wp.none.mp W1).elim
  | some zs =>
    rw [hq, Option.bind_some, Wp.bind] at W1
    rcases seqItems_inv hq with rfl | rfl
    · obtain ⟨l, ys, rfl, hl, tl⟩ := r1.fl.lst_inv
      refine ⟨l, ys, rfl, .inr (SqL.of hl), C, ad, env, s1, G1, W1.mono fun ds s2 W2 vs H2 k2 q2 r2 => ?_⟩
      exact Wp.some.mp W2 (ys ++ vs) H2 (k1.trans k2) q2 ((tl.mono (G1.bs k2)).append r2)
    · obtain ⟨l, ys, rfl, hl, tl⟩ := r1.fl.tup_inv
      refine ⟨l, ys, rfl, .inl (same_t G1.sub hl), C, ad, env, s1, G1, W1.mono fun ds s2 W2 vs H2 k2 q2 r2 => ?_⟩
      exact Wp.some.mp W2 (ys ++ vs) H2 (k1.trans k2) q2 ((tl.mono (G1.bs k2)).append r2)
theorem Gd.fresh {Tt : Tb} {w : World} {K : PySem.W.Frag} {C : DC Tt} {ad : Nat → Addr} {σ : L2.St} {H : Hp} {env : Env'} {s : Src} (G : Gd w K C ad σ H env s) {p : Addr} {o : HO} (hp : H p = none) : Bs C env ad (upd H p o) p = some o :=
  G.new (Same.upd hp) p o hp upd_same
theorem c_tup {es : Es} {xs : List Expr} {j} (h : PA X xs (tEs X.w X.K P es)) : PE X (.Tuple xs j pos) (tE X.w X.K P b (.tup es)) := by
  refine PE.weak (pe_tup h) fun σ H Q ⟨C, ad, env, s, G, W⟩ => ?_
  simp only [evE] at W
  rw [Wp.bind] at W
  refine ⟨C, ad, env, s, G, W.mono fun ds s1 W1 vs H1 k1 q1 r1 => ?_⟩
  obtain ⟨hl, W1⟩ := Wp.ite.mp W1
  have G1 := G.ext k1 q1
  refine ⟨by rw [r1.length]; exact lim_le hl, fun p hp => ?_⟩
  have k2 : Kp C.loc H1 (upd H1 p (.tup vs)) := Kp.of (Same.upd hp)
  exact Wp.some.mp W1 _ _ (k1.trans k2) (q1.same (Same.upd hp)) (Res.rl b (.tup (SqT.of (G1.fresh hp)) (r1.mono (G1.bs k2))) (G1.ext k2 (q1.same (Same.upd hp))).bsm)
theorem c_lst {es : Es} {xs : List Expr} (h : PA X xs (tEs X.w X.K P es)) : PE X (.List xs pos) (tE X.w X.K P b (.lst es)) := by
  refine PE.weak (pe_lst h) fun σ H Q ⟨C, ad, env, s, G, W⟩ => ?_
  simp only [evE] at W
  rw [Wp.bind] at W
  refine ⟨C, ad, env, s, G, W.mono fun ds s1 W1 vs H1 k1 q1 r1 => ?_⟩
  obtain ⟨hl, W1⟩ := Wp.ite.mp W1
  have G1 := G.ext k1 q1
  refine ⟨by rw [r1.length]; exact lim_le hl, fun p hp => ?_⟩
  have k2 : Kp C.loc H1 (upd H1 p (.lst vs)) := Kp.of (Same.upd hp)
  exact Wp.some.mp W1 _ _ (k1.trans k2) (q1.same (Same.upd hp)) (Res.rl b (.lst (G1.fresh hp) (r1.mono (G1.bs k2))) (G1.ext k2 (q1.same (Same.upd hp))).bsm)
end
end DL
end
section
set_option Elab.async false
set_option linter.all false
set_option maxRecDepth 100000
set_option maxHeartbeats 4000000
/-! DL7: calls, tests, what is walked, comprehensions; every expression. -/
namespace DL
open PySem PySem.Spec PyProof.Rows L2
section
variable {X : Cx} {M : MC} {n : Nat} {P : Fs} {x y : Str} {i : Nat} {pos : Pos} {b : Bool} {a c : E} {ea ec : Expr}
/-! ### calls -/
theorem noStar_any {es : List Expr} {env : Env} {p : Pos} (h : ∀ e ∈ es, notStar e = true) : (backTo p (starEach es env)).any (·.1) = false := by
  unfold backTo
  rw [List.any_map]
  induction es with
  | nil => rfl
  | cons e es ih =>
    rw [star_no (h e List.mem_cons_self), List.any_cons]
    exact ih fun e he => h e (List.mem_cons_of_mem _ he)
theorem c_asNil : PA X [] (tAs X.w X.K P .nil) := by
  refine PA.weak pa_nil fun σ H Q ⟨C, ad, env, s, G, W⟩ => ?_
  simp only [evAs] at W
  exact Wp.some.mp W [] H (Kp.refl _ _) G.src .nil
theorem c_asCons {e : E} {es : As} {x : Expr} {xs : List Expr} (hs : notStar x = true) (h1 : PE X x (tE X.w X.K P false e)) (h2 : PA X xs (tAs X.w X.K P es)) : PA X (x :: xs) (tAs X.w X.K P (.cons e es)) := by
  refine PA.weak (pa_cons h1 h2 (star_no hs)) fun σ H Q ⟨C, ad, env, s, G, W⟩ => ?_
  simp only [evAs] at W
  rw [Wp.bind] at W
  refine tE.go G (W.mono fun d1 s1 W1 v1 H1 k1 G1 r1 => ?_)
  rw [Wp.bind] at W1
  refine ⟨C, ad, env, s1, G1, W1.mono fun ds s2 W2 vs H2 k2 q2 r2 => ?_⟩
  exact Wp.some.mp W2 (v1 :: vs) H2 (k1.trans k2) q2 (.sh (Rl.mono (G1.bs k2) r1) r2)
theorem c_asSrc {es : As} {xs : List Expr} (hx : HX M n P X) (h : M.vis i x = true) (h2 : PA X xs (tAs X.w X.K P es)) : PA X (.Name x pos :: xs) (tAs X.w X.K P (.src i es)) := by
  obtain ⟨g1, g2, g3, g4⟩ := vis_ok hx h
  refine PA.weak (pa_cons (pe_var g1 g2 g3 g4) h2) fun σ H Q ⟨C, ad, env, s, G, W⟩ => ?_
  simp only [evAs] at W
  split at W
  · rename_i he
    have hv := G.sl i _ he
    refine ⟨_, hv, C, ad, env, s, G, (Wp.bind.mp W).mono fun zs s2 W2 vs H2 k2 q2 r2 => ?_⟩
    exact Wp.some.mp W2 _ H2 k2 q2 (.sr r2)
  · exact (Wp.none.mp W).elim
theorem c_call {f : Nat} {as : As} {es : List Expr} {p : Pos} (hx : HX M n P X) (hf : M.fns[f]? = some x) (hg : M.isGl x = true) (hd : (x == ("__debug__" : Str)) = false) (hes : ∀ e ∈ es, notStar e = true) (h0 : es = [] → as = .nil)
    (ha : PA X es (tAs X.w X.K P as)) : PE X (.Call (.Name x p) es [] pos) (tE X.w X.K P b (.call f as)) := by
  obtain ⟨g, fd, ps, hm, hk, hb, F⟩ := hx.fns f x hf
  have main : ∀ σ H Q, tE X.w X.K P b (.call f as) σ H Q → tCall (spF X.w X.K P.T (P f)) [] E0 (tAs X.w X.K P as) σ H Q := fun σ H Q ⟨C, ad, env, s, G, W⟩ => by
    simp only [evE] at W
    rw [Wp.bind] at W
    refine ⟨C, ad, env, s, G, W.mono fun zs s1 W1 vs H1 k1 q1 r1 => ?_⟩
    have G1 := G.ext k1 q1
    show spF X.w X.K P.T (P f) (vs ++ []) H1 Q E0
    rw [List.append_nil]
    refine ⟨C.loc, hid C env ad, zs, s1, fun a h => .inl (G.om a h), fun a h => G1.hidS h, q1, r1, W1.mono fun d s2 k v H2 k2 q2 r2 => ?_⟩
    exact k v H2 (k1.trans k2) q2 (Res.rl b r2 (G1.ext k2 q2).bsm)
  cases es with
  | nil =>
    refine PE.weak (pe_call0 F hx.room (hx.glob hg) hm hk hb .nil pass0 hd) fun σ H Q h => ?_
    obtain ⟨C, ad, env, s, G, W⟩ := main σ H Q h
    rw [h0 rfl] at W
    simp only [evAs] at W
    exact Wp.some.mp W [] H (Kp.refl _ _) G.src .nil
  | cons e es =>
    exact PE.weak (pe_call F hx.room (hx.glob hg) hm hk hb .nil pass0 ha hd (star_no (hes e List.mem_cons_self)) (noStar_any fun e he => hes e (List.mem_cons_of_mem _ he))) main
theorem c_pick {e : Expr} {p p2 : Pos} (hx : HX M n P X) (hg : Gl X ("_law_pick" : Str)) (hv : M.vis i y = true) (hs : notStar e = true) (ha : PE X e (tE X.w X.K P true a)) :
    PE X (.Call (.Name "_law_pick" p) [.Name y p2, e] [] pos) (tE X.w X.K P b (.pick i a)) := by
  obtain ⟨g, fd, ps, hm, hk, hb, F⟩ := hx.pick
  obtain ⟨g1, g2, g3, g4⟩ := vis_ok hx hv
  refine PE.weak (pe_call F hx.room hg hm hk hb .nil pass0 (pa_cons (pe_var g1 g2 g3 g4) (pa_cons ha pa_nil (star_no hs))) (by decide) rfl (noStar_any fun e' he => by
    rcases List.mem_singleton.mp he with rfl; exact hs)) fun σ H Q ⟨C, ad, env, s, G, W⟩ => ?_
  simp only [evE] at W
  split at W
  · rename_i he
    refine ⟨_, G.sl i _ he, ?_⟩
    rw [Wp.bind] at W
    refine tE.go G (W.mono fun d1 s1 W1 v1 H1 k1 G1 r1 => ?_)
    dsimp only at W1
    split at W1
    · cases r1.fl.int_inv
      obtain ⟨hm, W1⟩ := Wp.ite.mp W1
      show spPick P.T [.ref C.loc.1, .int _] H1 Q E0
      exact ⟨C.loc, s1, _, rfl, hm, G1.src, fun H2 k2 q2 => Wp.some.mp W1 _ H2 (k1.trans k2) q2 (Res.rl b (.int _) (G1.ext k2 q2).bsm)⟩
    · exact (Wp.none.mp W1).elim
  · exact (Wp.none.mp W).elim
theorem c_order {e : Expr} {p p2 : Pos} (hx : HX M n P X) (hg : Gl X ("_law_any_order" : Str)) (hv : M.vis i y = true) (hs : notStar e = true) (ha : PE X e (tE X.w X.K P true a)) :
    PE X (.Call (.Name "_law_any_order" p) [.Name y p2, e] [] pos) (tE X.w X.K P b (.order i a)) := by
  obtain ⟨g, fd, ps, hm, hk, hb, F⟩ := hx.order
  obtain ⟨g1, g2, g3, g4⟩ := vis_ok hx hv
  refine PE.weak (pe_call F hx.room hg hm hk hb .nil pass0 (pa_cons (pe_var g1 g2 g3 g4) (pa_cons ha pa_nil (star_no hs))) (by decide) rfl (noStar_any fun e' he => by
    rcases List.mem_singleton.mp he with rfl; exact hs)) fun σ H Q ⟨C, ad, env, s, G, W⟩ => ?_
  simp only [evE] at W
  split at W
  · rename_i he
    refine ⟨_, G.sl i _ he, ?_⟩
    rw [Wp.bind] at W
    refine tE.go G (W.mono fun d1 s1 W1 v1 H1 k1 G1 r1 => ?_)
    dsimp only at W1
    cases hq : seqItems d1 with
    | none => rw [hq] at W1; exact (Wp.none.mp W1).elim
    | some ds =>
      rw [hq, Option.bind_some] at W1
      obtain ⟨hl, W1⟩ := Wp.ite.mp W1
      show spOrder X.w X.K P.T [.ref C.loc.1, v1] H1 Q E0
      refine ⟨C.loc, s1, Bs C env ad H1, v1, d1, ds, rfl, G1.sub, fun a ha => ?_, r1.fl, hq, hl, G1.src, fun p xs H2 hp k2 q2 hl2 r2 => ?_⟩
      · cases q : Bs C env ad H1 a with
        | none => rfl
        | some o =>
          obtain ⟨n1, _⟩ := msk_of q
          exact (n1 (.inl (G.om a ha))).elim
      · have G2 := G1.ext k2 q2
        have hB : Bs C env ad H2 p = some (.lst xs) := msk_some (fun z => by
          have := G1.hidS z
          rw [hp] at this
          cases this) hl2
        exact Wp.some.mp W1 _ H2 (k1.trans k2) q2 (Res.rl b (.lst hB (r2.mono (G1.bs k2))) G2.bsm)
  · exact (Wp.none.mp W).elim
theorem b1_boot (o : B1) : bootBuiltins o.name = some o.val := by cases o <;> decide +kernel
theorem b2_boot (o : B2) : bootBuiltins o.name = some o.val := by cases o <;> decide +kernel
theorem b1_blt (o : B1) : o.name ∈ bltNames := by cases o <;> decide +kernel
theorem b2_blt (o : B2) : o.name ∈ bltNames := by cases o <;> decide +kernel
theorem c_b1 {o : B1} {e : Expr} {p : Pos} (hx : HX M n P X) (hg : Gl X o.name) (hs : notStar e = true) (ha : PE X e (tE X.w X.K P true a)) : PE X (.Call (.Name o.name p) [e] [] pos) (tE X.w X.K P b (.b1 o a)) := by
  have main : ∀ σ H Q, tE X.w X.K P b (.b1 o a) σ H Q → tCB (rcD1 true X.w X.K o.F) (tCons (tE X.w X.K P true a) tNil) σ H Q := fun σ H Q h => by
    obtain ⟨C, ad, env, s, G, W⟩ := one_go (a := a) (F := o.F) (nn := true) (fun env s => by simp only [evE]) h
    exact ⟨C, ad, env, s, G, W.mono fun d s1 k v H1 k1 q1 r1 => ⟨v, rfl, k v H1 k1 q1 r1⟩⟩
  have hm := hx.blt _ (b1_blt o)
  have hv := b1_boot o
  have hc := ok_b1 (X := X) hx.calm o
  have hn : o.name ≠ "__name__" := by cases o <;> decide +kernel
  have hd : (o.name == ("__debug__" : Str)) = false := by cases o <;> decide +kernel
  refine PE.weak ?_ main
  cases o <;> first
    | exact pe_callB hc hg hm hv (pa_cons ha pa_nil (star_no hs)) hn hd (star_no hs) rfl
    | exact pe_callTy hc hg hm hv (pa_cons ha pa_nil (star_no hs)) hn hd (star_no hs) rfl
theorem c_b2 {o : B2} {e e2 : Expr} {p : Pos} (hx : HX M n P X) (hg : Gl X o.name) (hs : notStar e = true) (hs2 : notStar e2 = true) (ha : PE X e (tE X.w X.K P true a)) (hc : PE X e2 (tE X.w X.K P true c)) :
    PE X (.Call (.Name o.name p) [e, e2] [] pos) (tE X.w X.K P b (.b2 o a c)) := by
  have main : ∀ σ H Q, tE X.w X.K P b (.b2 o a c) σ H Q → tCB (rcD2 true X.w X.K o.F) (tCons (tE X.w X.K P true a) (tCons (tE X.w X.K P true c) tNil)) σ H Q := fun σ H Q h => by
    obtain ⟨C, ad, env, s, G, W⟩ := two_go (a := a) (c := c) (F := o.F) (nn := true) (fun env s => by simp only [evE]) h
    refine ⟨C, ad, env, s, G, W.mono fun d s1 k v H1 k1 q1 r1 => ?_⟩
    obtain ⟨C', ad', env', s', G', W'⟩ := k v H1 k1 q1 r1
    exact ⟨C', ad', env', s', G', W'.mono fun d s1 k v2 H2 k2 q2 r2 => ⟨v, v2, rfl, k v2 H2 k2 q2 r2⟩⟩
  have hm := hx.blt _ (b2_blt o)
  have hv := b2_boot o
  have hb := ok_b2 (X := X) hx.calm o
  have hn : o.name ≠ "__name__" := by cases o <;> decide +kernel
  have hd : (o.name == ("__debug__" : Str)) = false := by cases o <;> decide +kernel
  refine PE.weak ?_ main
  have hst : (backTo pos (starEach [e2] X.env)).any (·.1) = false := noStar_any fun e' he => by
    rcases List.mem_singleton.mp he with rfl; exact hs2
  cases o <;> exact pe_callB hb hg hm hv (pa_cons ha (pa_cons hc pa_nil (star_no hs2)) (star_no hs)) hn hd (star_no hs) hst
theorem c_join {e : Expr} {z : Str} {k : Nat} {p apos : Pos} (hl : (apos.endLine == pos.line) = true) (hs : notStar e = true) (ha : PE X e (tE X.w X.K P true a)) :
    PE X (.Call (.Attribute (.Constant (.str z) k p) "join" apos) [e] [] pos) (tE X.w X.K P b (.join z a)) := by
  refine PE.weak (pe_join pe_str ha (star_no hs) rfl hl) fun σ H Q ⟨C, ad, env, s, G, W⟩ => ⟨⟨z, rfl⟩, ?_⟩
  simp only [evE] at W
  rw [Wp.bind] at W
  refine tE.go G (W.mono fun d1 s1 W1 v1 H1 k1 G1 r1 => ?_)
  obtain ⟨d, hd, q⟩ := Wp.map.mp W1
  cases d1 <;> first | (cases hd; done) | skip
  · obtain ⟨l, ys, rfl, hl, tl⟩ := r1.fl.lst_inv
    obtain ⟨zs, h1, h2⟩ := Option.bind_eq_some_iff.mp hd
    obtain ⟨h3, rfl⟩ := if_some h2
    have := tl.toS h1
    subst this
    exact ⟨z, l, zs, rfl, rfl, .inl (SqL.of hl), Nat.le_trans h3 (by decide), q _ H1 k1 G1.src (Res.rl b (.str _) G1.bsm)⟩
  · obtain ⟨l, ys, rfl, hl, tl⟩ := r1.fl.tup_inv
    obtain ⟨zs, h1, h2⟩ := Option.bind_eq_some_iff.mp hd
    obtain ⟨h3, rfl⟩ := if_some h2
    have := tl.toS h1
    subst this
    exact ⟨z, l, zs, rfl, rfl, .inr (same_t G1.sub hl), Nat.le_trans h3 (by decide), q _ H1 k1 G1.src (Res.rl b (.str _) G1.bsm)⟩
end
end DL
end
section
set_option Elab.async false
set_option linter.all false
set_option maxRecDepth 100000
set_option maxHeartbeats 4000000
/-! DL8: tests, what is walked, comprehensions; every expression. -/
namespace DL
open PySem PySem.Spec PyProof.Rows L2
section
variable {X : Cx} {M : MC} {n : Nat} {P : Fs} {x y : Str} {i : Nat} {pos : Pos} {b : Bool} {a c : E} {ea ec : Expr}
/-! ### tests -/
theorem tru_of {w : World} {K : PySem.W.Frag} {B H : Hp} {v : V} {d : D} {k : Bool} (sb : Same B H) (f : Fl w K B H v d) (h : truthF d = some k) : TruV K v H k := by
  cases f with
  | non => cases h; exact rfl
  | bl b => cases h; exact rfl
  | int i => cases h; exact rfl
  | str z =>
    obtain ⟨hl, rfl⟩ := if_some h
    refine ⟨lim_le hl, ?_⟩
    cases q : z.length with
    | zero => rfl
    | succ m => simp; omega
  | lst hl t =>
    cases h
    refine .inl ⟨_, SqL.of hl, ?_⟩
    cases t <;> rfl
  | tup hl t =>
    cases h
    refine .inr (.inl ⟨_, same_t sb hl, ?_⟩)
    cases t <;> rfl
  | dic => cases h
theorem c_tev (hp : plainT ea = true) (ha : PE X ea (tE X.w X.K P true a)) : PT X ea (tT X.w X.K P (.ev a)) := by
  refine PT.weak (pt_truth ha (truth_of hp)) fun σ H Q ⟨C, ad, env, s, G, W⟩ => ?_
  simp only [evT] at W
  rw [Wp.bind] at W
  refine tE.go G (W.mono fun d1 s1 W1 v1 H1 k1 G1 r1 => ?_)
  obtain ⟨k, hk, q⟩ := Wp.map.mp W1
  exact ⟨k, tru_of G1.sub r1.fl hk, q H1 k1 G1.src⟩
/-- a comparison's answer: nothing is made -/
theorem cmp_out {Tt : Tb} {C : DC Tt} {ad : Nat → Addr} {σ : L2.St} {H : Hp} {env : Env'} {s : Src} {Q : Bool → Hp → Prop} {k : Bool} (G : Gd X.w X.K C ad σ H env s) (q : ∀ H', Kp C.loc H H' → SrcAt C.loc H' s → Q k H') :
    Out true X.w X.K (Bs C env ad H) H (.bool k) fun x H' => ∃ k, x = .bl k ∧ Q k H' := fun v H' sm r _ => by
  cases r (Bs C env ad H') (G.bs (Kp.of sm)) (G.new sm)
  exact ⟨k, rfl, q H' (Kp.of sm) (G.src.same sm)⟩
theorem c_tcmp {o : Cm} (hx : HX M n P X) (hb : behindInMarks o.op ec = false) (ha : PE X ea (tE X.w X.K P true a)) (hc : PE X ec (tE X.w X.K P true c)) : PT X (.Compare ea [o.op] [ec] pos) (tT X.w X.K P (.cmp o a c)) := by
  refine PT.weak (pt_cmpR (ok_cmp hx.hu o) ha hc hb) fun σ H Q ⟨C, ad, env, s, G, W⟩ => ?_
  simp only [evT] at W
  rw [Wp.bind] at W
  refine tE.go G (W.mono fun d1 s1 W1 v1 H1 k1 G1 r1 => ?_)
  rw [Wp.bind] at W1
  refine tE.go G1 (W1.mono fun d2 s2 W2 v2 H2 k2 G2 r2 => ?_)
  obtain ⟨d, hd, q⟩ := Wp.map.mp W2
  exact ⟨_, d1, d2, .bool d, G2.sub, (r1.mono (G1.bs k2) k2).fl, r2.fl, by unfold Cm.F; rw [hd]; rfl, cmp_out G2 fun H' k3 q3 => q H' (k1.trans (k2.trans k3)) q3⟩
theorem c_tchain {o o' : Cm} {ez : Expr} {z : E} (hx : HX M n P X) (hm : lastMarks [o.op, o'.op] [ec, ez] = false) (ha : PE X ea (tE X.w X.K P true a)) (hc : PE X ec (tE X.w X.K P true c)) (hz : PE X ez (tE X.w X.K P true z)) :
    PT X (.Compare ea [o.op, o'.op] [ec, ez] pos) (tT X.w X.K P (.chain o o' a c z)) := by
  refine PT.weak (pt_chain (ok_cmp hx.hu o) (ok_cmp hx.hu o') ha hc hz hm) fun σ H Q ⟨C, ad, env, s, G, W⟩ => ?_
  simp only [evT] at W
  rw [Wp.bind] at W
  refine tE.go G (W.mono fun d1 s1 W1 v1 H1 k1 G1 r1 => ?_)
  rw [Wp.bind] at W1
  refine tE.go G1 (W1.mono fun d2 s2 W2 v2 H2 k2 G2 r2 => ?_)
  dsimp only at W2
  cases hd : o.T d1 d2 with
  | none => rw [hd] at W2; exact (Wp.none.mp W2).elim
  | some d =>
    rw [hd, Option.bind_some] at W2
    refine ⟨_, d1, d2, .bool d, G2.sub, (r1.mono (G1.bs k2) k2).fl, r2.fl, by unfold Cm.F; rw [hd]; rfl, fun v H3 sm r _ => ?_⟩
    have k3 : Kp C.loc H2 H3 := Kp.of sm
    have G3 := G2.ext k3 (G2.src.same sm)
    cases r (Bs C env ad H3) (G2.bs k3) (G2.new sm)
    refine ⟨d, rfl, ?_⟩
    cases d with
    | false =>
      refine iteF ⟨false, rfl, ?_⟩
      rw [if_neg (by decide)] at W2
      exact Wp.some.mp W2 H3 (k1.trans (k2.trans k3)) G3.src
    | true =>
      refine iteT ?_
      rw [if_pos rfl, Wp.bind] at W2
      refine tE.go G3 (W2.mono fun d4 s4 W4 v4 H4 k4 G4 r4 => ?_)
      obtain ⟨d', hd', q⟩ := Wp.map.mp W4
      exact ⟨_, d2, d4, .bool d', G4.sub, (r2.mono (G2.bs (k3.trans k4)) (k3.trans k4)).fl, r4.fl, by unfold Cm.F; rw [hd']; rfl, cmp_out G4 fun H' k5 q5 => q H' (k1.trans (k2.trans (k3.trans (k4.trans k5)))) q5⟩
theorem c_tisN {j p2} (ha : PE X ea (tE X.w X.K P true a)) : PT X (.Compare ea [.Is] [.Constant .none j p2] pos) (tT X.w X.K P (.isN a)) := by
  refine PT.weak (pt_cmp (pc_isN ha)) fun σ H Q ⟨C, ad, env, s, G, W⟩ => ?_
  simp only [evT] at W
  rw [Wp.bind] at W
  refine tE.go G (W.mono fun d1 s1 W1 v1 H1 k1 G1 r1 => ?_)
  rw [isNone_of r1.fl]
  exact ⟨_, rfl, Wp.some.mp W1 H1 k1 G1.src⟩
theorem c_tnotN {j p2} (ha : PE X ea (tE X.w X.K P true a)) : PT X (.Compare ea [.IsNot] [.Constant .none j p2] pos) (tT X.w X.K P (.notN a)) := by
  refine PT.weak (pt_cmp (pc_notN ha)) fun σ H Q ⟨C, ad, env, s, G, W⟩ => ?_
  simp only [evT] at W
  rw [Wp.bind] at W
  refine tE.go G (W.mono fun d1 s1 W1 v1 H1 k1 G1 r1 => ?_)
  rw [isNone_of r1.fl]
  exact ⟨_, rfl, Wp.some.mp W1 H1 k1 G1.src⟩
theorem c_tnot {t : T} (ha : PT X ea (tT X.w X.K P t)) : PT X (.UnaryOp .Not ea pos) (tT X.w X.K P (.not t)) := by
  refine PT.weak (pt_not ha) fun σ H Q ⟨C, ad, env, s, G, W⟩ => ?_
  simp only [evT] at W
  rw [Wp.bind] at W
  refine ⟨C, ad, env, s, G, W.mono fun v s1 W1 H1 k1 q1 => ?_⟩
  exact Wp.some.mp W1 H1 k1 q1
theorem c_tand {ts : Ts} {es : List Expr} (ha : PW X (.BoolOp .And es pos) (tTs X.w X.K P ts)) : PT X (.BoolOp .And es pos) (tT X.w X.K P (.and ts)) := by
  refine PT.weak ha.pt fun σ H Q ⟨C, ad, env, s, G, W⟩ => ?_
  simp only [evT] at W
  exact ⟨C, ad, env, s, G, W⟩
theorem c_tor {ts : Ts} {es : List Expr} (ha : PW X (.BoolOp .Or es pos) (tTo X.w X.K P ts)) : PT X (.BoolOp .Or es pos) (tT X.w X.K P (.or ts)) := by
  refine PT.weak ha.pt fun σ H Q ⟨C, ad, env, s, G, W⟩ => ?_
  simp only [evT] at W
  exact ⟨C, ad, env, s, G, W⟩
theorem c_ts1 {t : T} (ha : PT X ea (tT X.w X.K P t)) : PW X (.BoolOp .And [ea] pos) (tTs X.w X.K P (.cons t .nil)) := by
  refine PW.weak (pw_and1 ha) fun σ H Q ⟨C, ad, env, s, G, W⟩ => ?_
  simp only [evTs] at W
  rw [Wp.bind] at W
  refine ⟨C, ad, env, s, G, W.mono fun v s1 W1 H1 k1 q1 => ?_⟩
  cases v with
  | true => rw [if_pos rfl] at W1; exact Wp.some.mp W1 H1 k1 q1
  | false => dsimp only at W1; rw [if_neg Bool.false_ne_true] at W1; exact Wp.some.mp W1 H1 k1 q1
theorem c_ts2 {t : T} {ts : Ts} {es : List Expr} (ha : PT X ea (tT X.w X.K P t)) (hc : PW X (.BoolOp .And (ec :: es) pos) (tTs X.w X.K P ts)) : PW X (.BoolOp .And (ea :: ec :: es) pos) (tTs X.w X.K P (.cons t ts)) := by
  refine PW.weak (pw_and ha hc) fun σ H Q ⟨C, ad, env, s, G, W⟩ => ?_
  simp only [evTs] at W
  rw [Wp.bind] at W
  refine ⟨C, ad, env, s, G, W.mono fun v s1 W1 H1 k1 q1 => ?_⟩
  cases v with
  | true =>
    rw [if_pos rfl] at W1
    exact iteT ⟨C, ad, env, s1, G.ext k1 q1, W1.mono fun v2 s2 W2 H2 k2 q2 => W2 H2 (k1.trans k2) q2⟩
  | false => dsimp only at W1; rw [if_neg Bool.false_ne_true] at W1; exact iteF (Wp.some.mp W1 H1 k1 q1)
theorem c_to1 {t : T} (ha : PT X ea (tT X.w X.K P t)) : PW X (.BoolOp .Or [ea] pos) (tTo X.w X.K P (.cons t .nil)) := by
  refine PW.weak (pw_or1 ha) fun σ H Q ⟨C, ad, env, s, G, W⟩ => ?_
  simp only [evTo] at W
  rw [Wp.bind] at W
  refine ⟨C, ad, env, s, G, W.mono fun v s1 W1 H1 k1 q1 => ?_⟩
  cases v with
  | true => rw [if_pos rfl] at W1; exact Wp.some.mp W1 H1 k1 q1
  | false => dsimp only at W1; rw [if_neg Bool.false_ne_true] at W1; exact Wp.some.mp W1 H1 k1 q1
theorem c_to2 {t : T} {ts : Ts} {es : List Expr} (ha : PT X ea (tT X.w X.K P t)) (hc : PW X (.BoolOp .Or (ec :: es) pos) (tTo X.w X.K P ts)) : PW X (.BoolOp .Or (ea :: ec :: es) pos) (tTo X.w X.K P (.cons t ts)) := by
  refine PW.weak (pw_or ha hc) fun σ H Q ⟨C, ad, env, s, G, W⟩ => ?_
  simp only [evTo] at W
  rw [Wp.bind] at W
  refine ⟨C, ad, env, s, G, W.mono fun v s1 W1 H1 k1 q1 => ?_⟩
  cases v with
  | true => rw [if_pos rfl] at W1; exact iteT (Wp.some.mp W1 H1 k1 q1)
  | false =>
    dsimp only at W1; rw [if_neg Bool.false_ne_true] at W1
    exact iteF ⟨C, ad, env, s1, G.ext k1 q1, W1.mono fun v2 s2 W2 H2 k2 q2 => W2 H2 (k1.trans k2) q2⟩

/-! ### what is walked -/
/-- J gives these items, one behind another, while Bm stands; they lie in Be and in what is new -/
def ItR (w : World) (K : PySem.W.Frag) (J : L2.It) (Bm Be : Hp) (ds : List D) : Prop := ∀ (i : Nat) (H : Hp), Same Bm H → (ds.length ≤ i → J.stop i H) ∧
  ∀ d, ds[i]? = some d → J.go i H ∧ ∀ x H', J.yld i H x H' → Same H H' ∧ ∀ B', Same Be B' → New B' H H' → Rl w K B' x d
noncomputable def ItB {Tt : Tb} (b : Bool) (C : DC Tt) (env : Env') (ad : Nat → Addr) (H : Hp) : Hp := if b = true then sm C.loc H else Bs C env ad H
def tIt (w : World) (K : PySem.W.Frag) (P : Fs) (b : Bool) (it : It) : TI := fun σ H R => ∃ (C : DC P.T) (ad : Nat → Addr) (env : Env') (s : Src), Gd w K C ad σ H env s ∧ Wp (evIt P b it env s) fun ds s' => ∀ J H', Kp C.loc H H' → SrcAt C.loc H' s' → ItR w K J (ItB b C env ad H') (Bs C env ad H') ds → R J H'
theorem PI.weak {tg it : Expr} {t t' : TI} (h : PI X tg it t) (k : ∀ σ H R, t' σ H R → t σ H R) : PI X tg it t' := ⟨fun pins s σ H R I q => h.run pins s σ H R I (k σ H R q)⟩
theorem PI.or {tg it : Expr} {t t' : TI} (h : PI X tg it t) (h' : PI X tg it t') : PI X tg it (fun σ H R => t σ H R ∨ t' σ H R) := ⟨fun pins s σ H R I q => q.elim (h.run pins s σ H R I) (h'.run pins s σ H R I)⟩
theorem itR_list {w : World} {K : PySem.W.Frag} {p : Addr} {xs : List V} {Bm Be : Hp} {ds : List D} (h : Bm p = some (.lst xs)) (t : RlL w K Be xs ds) : ItR w K (Itl K p) Bm Be ds := fun i H sm => by
  have q : SqL K H p xs := SqL.of (sm _ _ h)
  refine ⟨fun hi => ⟨xs, q, by rw [t.length]; exact hi⟩, fun d hd => ?_⟩
  obtain ⟨v, hv, r⟩ := t.get hd
  refine ⟨⟨xs, v, q, hv⟩, fun x H' ⟨e, f⟩ => ?_⟩
  subst e
  refine ⟨Same.refl _, fun B' k _ => ?_⟩
  have := f xs q
  rw [hv] at this
  cases this
  exact r.mono k
theorem itR_tup {w : World} {K : PySem.W.Frag} {p : Addr} {xs : List V} {Bm Be : Hp} {ds : List D} (h : SqT K Bm p xs) (t : RlL w K Be xs ds) : ItR w K (Itt K p) Bm Be ds := fun i H sm => by
  have q : SqT K H p xs := same_t sm h
  refine ⟨fun hi => ⟨xs, q, by rw [t.length]; exact hi⟩, fun d hd => ?_⟩
  obtain ⟨v, hv, r⟩ := t.get hd
  refine ⟨⟨xs, v, q, hv⟩, fun x H' ⟨e, f⟩ => ?_⟩
  subst e
  refine ⟨Same.refl _, fun B' k _ => ?_⟩
  have := f xs q
  rw [hv] at this
  cases this
  exact r.mono k
theorem rangeItems_get {lo hi : Int} {i : Nat} {d : D} (h : (rangeItems lo hi)[i]? = some d) : i < (hi - lo).toNat ∧ d = .int (lo + i) := by
  unfold rangeItems at h
  rw [List.getElem?_map] at h
  by_cases q : i < (hi - lo).toNat
  · rw [List.getElem?_range q] at h
    cases h
    exact ⟨q, rfl⟩
  · rw [List.getElem?_eq_none (by rw [List.length_range]; omega)] at h
    cases h
theorem rangeItems_length (lo hi : Int) : (rangeItems lo hi).length = (hi - lo).toNat := by unfold rangeItems; rw [List.length_map, List.length_range]
theorem itR_range {w : World} {K : PySem.W.Frag} {Bm Be : Hp} {lo hi : Int} : ItR w K (Itr lo (hi - lo).toNat) Bm Be (rangeItems lo hi) := fun i H sm => by
  rw [rangeItems_length]
  refine ⟨fun h => h, fun d hd => ?_⟩
  obtain ⟨h1, rfl⟩ := rangeItems_get hd
  refine ⟨h1, fun x H' ⟨e, f⟩ => ?_⟩
  subst e f
  exact ⟨Same.refl _, fun B' _ _ => .int _⟩
theorem Res.itB {Tt : Tb} {w : World} {K : PySem.W.Frag} {C : DC Tt} {env : Env'} {ad : Nat → Addr} {σ : L2.St} {H : Hp} {s : Src} {v : V} {ds : List D} (G : Gd w K C ad σ H env s) (r : Res w K b C.loc (Bs C env ad H) H v (.list ds)) :
    ∃ p xs, v = .ref p ∧ H p = some (.lst xs) ∧ ItB b C env ad H p = some (.lst xs) ∧ RlL w K (Bs C env ad H) xs ds := by
  cases b with
  | true =>
    obtain ⟨p, xs, e, h, t⟩ := Fl.lst_inv (show Fl w K _ (sm C.loc H) v (.list ds) from r)
    exact ⟨p, xs, e, sm_sub _ _ h, h, t⟩
  | false =>
    cases (show Rl w K _ v (.list ds) from r) with
    | lst h t => exact ⟨_, _, rfl, G.sub _ _ h, h, t⟩
theorem Res.itBt {Tt : Tb} {w : World} {K : PySem.W.Frag} {C : DC Tt} {env : Env'} {ad : Nat → Addr} {σ : L2.St} {H : Hp} {s : Src} {v : V} {ds : List D} (G : Gd w K C ad σ H env s) (r : Res w K b C.loc (Bs C env ad H) H v (.tuple ds)) :
    ∃ p xs, v = .ref p ∧ SqT K H p xs ∧ SqT K (ItB b C env ad H) p xs ∧ RlL w K (Bs C env ad H) xs ds := by
  cases b with
  | true =>
    obtain ⟨p, xs, e, h, t⟩ := Fl.tup_inv (show Fl w K _ (sm C.loc H) v (.tuple ds) from r)
    exact ⟨p, xs, e, same_t G.sub h, same_t G.bsm h, t⟩
  | false =>
    cases (show Rl w K _ v (.tuple ds) from r) with
    | tup h t => exact ⟨_, _, rfl, same_t G.sub h, h, t⟩
theorem c_iseq {tg : Expr} (ha : PE X ea (tE X.w X.K P b a)) : PI X tg ea (tIt X.w X.K P b (.seq a)) := by
  refine PI.weak (PI.or (pi_list ha) (pi_tup ha)) fun σ H R ⟨C, ad, env, s, G, W⟩ => ?_
  simp only [evIt] at W
  rw [Wp.bind] at W
  obtain ⟨d, s1, e, W1⟩ := W
  obtain ⟨ds, hd, q⟩ := Wp.map.mp W1
  rcases seqItems_inv hd with rfl | rfl
  · refine .inl (tE.go G ⟨_, s1, e, fun v1 H1 k1 G1 r1 => ?_⟩)
    obtain ⟨p, xs, rfl, h1, h2, t⟩ := r1.itB G1
    exact ⟨p, rfl, ⟨xs, SqL.of h1⟩, q _ H1 k1 G1.src (itR_list h2 t)⟩
  · refine .inr (tE.go G ⟨_, s1, e, fun v1 H1 k1 G1 r1 => ?_⟩)
    obtain ⟨p, xs, rfl, h1, h2, t⟩ := r1.itBt G1
    exact ⟨p, rfl, ⟨xs, h1⟩, q _ H1 k1 G1.src (itR_tup h2 t)⟩
theorem rangeOk_of {lo hi : Int} (h : rangeOk lo hi = true) : -(2 ^ 62) ≤ lo ∧ lo < 2 ^ 62 ∧ -(2 ^ 62) ≤ hi ∧ hi < 2 ^ 62 := by
  have := of_decide_eq_true (show decide _ = true from h)
  omega
theorem c_irange1 {tg : Expr} {p : Pos} (hx : HX M n P X) (hg : Gl X ("range" : Str)) (hs : notStar ea = true) (ha : PE X ea (tE X.w X.K P true a)) : PI X tg (.Call (.Name "range" p) [ea] [] pos) (tIt X.w X.K P b (.range1 a)) := by
  refine PI.weak (pi_range1 hg (hx.blt _ (by decide +kernel)) (pa_cons ha pa_nil (star_no hs)) (star_no hs)) fun σ H R ⟨C, ad, env, s, G, W⟩ => ?_
  simp only [evIt] at W
  rw [Wp.bind] at W
  refine tE.go G (W.mono fun d1 s1 W1 v1 H1 k1 G1 r1 => ?_)
  dsimp only at W1
  split at W1
  · cases r1.fl.int_inv
    obtain ⟨h1, W1⟩ := Wp.ite.mp W1
    have h2 := rangeOk_of h1
    refine ⟨_, rfl, h2.2.2.1, h2.2.2.2, ?_⟩
    have := itR_range (w := X.w) (K := X.K) (Bm := ItB b C env ad H1) (Be := Bs C env ad H1) (lo := 0) (hi := ‹Int›)
    rw [Int.sub_zero] at this
    exact Wp.some.mp W1 _ H1 k1 G1.src this
  · exact (Wp.none.mp W1).elim
theorem c_irange2 {tg : Expr} {p : Pos} (hx : HX M n P X) (hg : Gl X ("range" : Str)) (hs : notStar ea = true) (hs2 : notStar ec = true) (ha : PE X ea (tE X.w X.K P true a)) (hc : PE X ec (tE X.w X.K P true c)) : PI X tg (.Call (.Name "range" p) [ea, ec] [] pos) (tIt X.w X.K P b (.range2 a c)) := by
  refine PI.weak (pi_range2 hg (hx.blt _ (by decide +kernel)) (pa_cons ha (pa_cons hc pa_nil (star_no hs2)) (star_no hs)) (by rw [star_no hs, star_no hs2]; rfl) (star_no hs2)) fun σ H R ⟨C, ad, env, s, G, W⟩ => ?_
  simp only [evIt] at W
  rw [Wp.bind] at W
  refine tE.go G (W.mono fun d1 s1 W1 v1 H1 k1 G1 r1 => ?_)
  rw [Wp.bind] at W1
  refine tE.go G1 (W1.mono fun d2 s2 W2 v2 H2 k2 G2 r2 => ?_)
  dsimp only at W2
  split at W2
  · cases r1.fl.int_inv
    cases r2.fl.int_inv
    obtain ⟨h1, W2⟩ := Wp.ite.mp W2
    exact ⟨_, _, rfl, rangeOk_of h1, Wp.some.mp W2 _ H2 (k1.trans k2) G2.src itR_range⟩
  · exact (Wp.none.mp W2).elim
end
end DL
end
section
set_option Elab.async false
set_option linter.all false
set_option maxRecDepth 100000
set_option maxHeartbeats 4000000
/-! DL9: targets, comprehensions. -/
namespace DL
open PySem PySem.Spec PyProof.Rows L2
/-! ### slots are set -/
theorem wipe_get (σ : L2.St) (j : Nat) : ∀ vs : List Nat, (wipe σ vs)[j]? = if j ∈ vs then (if j < σ.length then some none else none) else σ[j]?
  | [] => by simp [wipe]
  | v :: vs => by
    unfold wipe
    by_cases h : v = j
    · subst h
      rw [if_pos List.mem_cons_self]
      by_cases hl : v < σ.length
      · rw [if_pos hl, List.getElem?_set_self (by rw [wipe_length]; exact hl)]
      · rw [if_neg hl, List.getElem?_eq_none (by rw [List.length_set, wipe_length]; omega)]
    · rw [List.getElem?_set_ne h, wipe_get σ j vs]
      by_cases hm : j ∈ vs
      · rw [if_pos hm, if_pos (List.mem_cons_of_mem _ hm)]
      · rw [if_neg hm, if_neg (by simp only [List.mem_cons, not_or]; exact ⟨fun e => h e.symm, hm⟩)]
theorem wipe_set {σ : L2.St} {i : Nat} {x : Option V} {vs : List Nat} (h : i ∈ vs) : wipe (σ.set i x) vs = wipe σ vs := by
  refine List.ext_getElem? fun j => ?_
  rw [wipe_get, wipe_get, List.length_set]
  by_cases hj : j ∈ vs
  · rw [if_pos hj, if_pos hj]
  · rw [if_neg hj, if_neg hj, List.getElem?_set_ne (fun (e : i = j) => hj (by rw [← e]; exact h))]
theorem wipe_wipe {σ : L2.St} {vs : List Nat} : wipe (wipe σ vs) vs = wipe σ vs := by
  refine List.ext_getElem? fun j => ?_
  rw [wipe_get, wipe_get, wipe_length]
  by_cases hj : j ∈ vs
  · rw [if_pos hj, if_pos hj]
  · rw [if_neg hj]
section
variable {Tt : Tb} {w : World} {K : PySem.W.Frag} {C : DC Tt} {ad : Nat → Addr} {σ : L2.St} {H H' H1 : Hp} {env : Env'} {s s' : Src} {v : V} {d : D} {i : Nat}
theorem noSh {d e : D} : Slot.sh d ≠ .ow e := fun h => by cases h
theorem noNo {e : D} : Slot.no ≠ .ow e := fun h => by cases h
theorem get_set_ow {env : Env'} {i j : Nat} {z : Slot} (hz : ∀ d, z ≠ .ow d) {d : D} (e : (env.set i z)[j]? = some (.ow d)) : j ≠ i ∧ env[j]? = some (.ow d) := by
  by_cases h : i = j
  · subst h
    by_cases hl : i < env.length
    · rw [List.getElem?_set_self hl] at e
      cases e
      exact (hz _ rfl).elim
    · rw [List.getElem?_eq_none (by rw [List.length_set]; omega)] at e
      cases e
  · rw [List.getElem?_set_ne h] at e
    exact ⟨fun q => h q.symm, e⟩
theorem hid_set {a : Addr} {z : Slot} (hz : ∀ d, z ≠ .ow d) (h : hid C (env.set i z) ad a) : hid C env ad a := by
  rcases h with h | ⟨j, d, e, q⟩
  · exact .inl h
  · exact .inr ⟨j, d, (get_set_ow hz e).2, q⟩
theorem bs_set {z : Slot} (hz : ∀ d, z ≠ .ow d) : Same (Bs C env ad H) (Bs C (env.set i z) ad H) := msk_same (fun _ h => hid_set hz h) fun _ _ _ e => e
/-- a slot that is no longer one's own -/
theorem Gd.set {x : Option V} {z : Slot} (G : Gd w K C ad σ H env s) (hz : ∀ d, z ≠ .ow d) (hr : i < env.length → SlR w K C.loc (Bs C (env.set i z) ad H) H (ad i) (some x) z) : Gd w K C ad (σ.set i x) H (env.set i z) s where
  src := G.src
  om := G.om
  oT := G.oT
  kp := G.kp
  on := fun j d e => G.on j d (get_set_ow hz e).2
  inj := fun j k d e h1 h2 => G.inj j k d e (get_set_ow hz h1).2 (get_set_ow hz h2).2
  len := by rw [List.length_set, List.length_set]; exact G.len
  sl := fun j z' e => by
    by_cases h : i = j
    · subst h
      have hl : i < env.length := by
        have := (List.getElem?_eq_some_iff.mp e).1
        rwa [List.length_set] at this
      rw [List.getElem?_set_self hl] at e
      cases e
      rw [List.getElem?_set_self (by rw [G.len]; exact hl)]
      exact hr hl
    · rw [List.getElem?_set_ne h] at e
      rw [List.getElem?_set_ne h]
      have r := G.sl j _ e
      cases z' with
      | no => trivial
      | sh d => obtain ⟨v, h1, h2⟩ := r; exact ⟨v, h1, h2.mono (bs_set hz)⟩
      | sr => exact r
      | ow d => exact ⟨r.1, r.2.keep (bs_set hz) fun o h => h⟩
theorem Gd.setSh (G : Gd w K C ad σ H env s) (r : Rl w K (Bs C env ad H) v d) : Gd w K C ad (σ.set i (some v)) H (env.set i (.sh d)) s :=
  G.set (fun _ => noSh) fun _ => ⟨v, rfl, r.mono (bs_set fun _ => noSh)⟩
theorem Gd.wipe (G : Gd w K C ad σ H env s) : ∀ vs : List Nat, Gd w K C ad (L2.wipe σ vs) H (wipeE env vs) s
  | [] => G
  | v :: vs => (Gd.wipe G vs).set (fun _ => noNo) fun _ => trivial
theorem wipeE_hid {a : Addr} : ∀ {vs : List Nat}, hid C (wipeE env vs) ad a → hid C env ad a
  | [], h => h
  | v :: vs, h => wipeE_hid (vs := vs) (hid_set (fun _ => noNo) h)
theorem wipeE_bs {vs : List Nat} : Same (Bs C env ad H) (Bs C (wipeE env vs) ad H) := msk_same (fun _ h => wipeE_hid h) fun _ _ _ e => e
end
mutual
def gTg (K : PySem.W.Frag) : Tg → TG
  | .one i => gName i
  | .many ts => gTup K (lenTgs ts) (gTgs K ts)
def gTgs (K : PySem.W.Frag) : Tgs → TGs
  | .nil => gNil
  | .cons t ts => gCons (gTg K t) (gTgs K ts)
def lenTgs : Tgs → Nat
  | .nil => 0
  | .cons _ ts => lenTgs ts + 1
end
section
variable {Tt : Tb} {w : World} {K : PySem.W.Frag} {C : DC Tt} {ad : Nat → Addr} {H : Hp} {s : Src}
theorem bindTgs_length : ∀ {ts : Tgs} {ds : List D} {env env' : Env'}, bindTgs ts ds env = some env' → ds.length = lenTgs ts
  | .nil, [], _, _, _ => rfl
  | .nil, _ :: _, _, _, e => by simp [bindTgs] at e
  | .cons _ _, [], _, _, e => by simp [bindTgs] at e
  | .cons t ts, d :: ds, env, env', e => by
    simp only [bindTgs] at e
    obtain ⟨env1, _, h2⟩ := Option.bind_eq_some_iff.mp e
    rw [List.length_cons, bindTgs_length h2, lenTgs]
mutual
theorem bind_ok : ∀ (tg : Tg) {d : D} {v : V} {σ : L2.St} {env env' : Env'} {Q : L2.St → Hp → Prop}, Gd w K C ad σ H env s → Rl w K (Bs C env ad H) v d → bindTg tg d env = some env' →
    (∀ σ', Gd w K C ad σ' H env' s → (∀ own, tgIn own tg = true → L2.wipe σ' own = L2.wipe σ own) → Same (Bs C env ad H) (Bs C env' ad H) → Q σ' H) → gTg K tg v σ H Q
  | .one i, d, v, σ, env, env', Q, G, r, e, k => by
    simp only [bindTg] at e
    obtain ⟨hl, rfl⟩ := if_some e
    refine k _ (G.setSh r) (fun own h => ?_) (bs_set fun _ => noSh)
    simp only [tgIn] at h
    exact wipe_set (of_decide_eq_true h)
  | .many ts, d, v, σ, env, env', Q, G, r, e, k => by
    simp only [gTg]
    cases d <;> simp only [bindTg] at e <;> first | (cases e; done) | skip
    cases r with
    | tup h t =>
      refine ⟨_, _, rfl, same_t G.sub h, by rw [t.length]; exact bindTgs_length e, ?_⟩
      exact binds_ok ts G t e fun σ' G' hw sb => k σ' G' (fun own h => hw own (by simpa only [tgIn] using h)) sb
theorem binds_ok : ∀ (ts : Tgs) {ds : List D} {vs : List V} {σ : L2.St} {env env' : Env'} {Q : L2.St → Hp → Prop}, Gd w K C ad σ H env s → RlL w K (Bs C env ad H) vs ds → bindTgs ts ds env = some env' →
    (∀ σ', Gd w K C ad σ' H env' s → (∀ own, tgsIn own ts = true → L2.wipe σ' own = L2.wipe σ own) → Same (Bs C env ad H) (Bs C env' ad H) → Q σ' H) → gTgs K ts vs σ H Q
  | .nil, [], vs, σ, env, env', Q, G, r, e, k => by
    simp only [bindTgs] at e
    cases e
    cases r
    simp only [gTgs]
    exact ⟨rfl, k σ G (fun _ _ => rfl) (Same.refl _)⟩
  | .nil, _ :: _, _, _, _, _, _, _, _, e, _ => by simp [bindTgs] at e
  | .cons _ _, [], _, _, _, _, _, _, _, e, _ => by simp [bindTgs] at e
  | .cons t ts, d :: ds, vs, σ, env, env', Q, G, r, e, k => by
    simp only [bindTgs] at e
    obtain ⟨env1, h1, h2⟩ := Option.bind_eq_some_iff.mp e
    cases r with
    | cons r1 rr =>
      simp only [gTgs]
      refine ⟨_, _, rfl, bind_ok t G r1 h1 fun σ1 G1 hw1 sb1 => binds_ok ts G1 (rr.mono sb1) h2 fun σ2 G2 hw2 sb2 => ?_⟩
      refine k σ2 G2 (fun own h => ?_) (sb1.trans sb2)
      simp only [tgsIn, Bool.and_eq_true] at h
      rw [hw2 own h.2, hw1 own h.1]
end
end
section
variable {X : Cx} {M : MC} {n : Nat} {P : Fs}
theorem assignEach_no {e : Expr} {es : List Expr} {env : Env} (h : notStar e = true) : assignEach (e :: es) env = (false, assign e env) :: assignEach es env := by
  cases e <;> first | rfl | cases h
theorem mTgs_no : ∀ {ts : Tgs} {es : List Expr} {env : Env}, mTgs M ts es = true → (assignEach es env).length = lenTgs ts ∧ (assignEach es env).findIdx? (·.1) = none
  | .nil, [], _, _ => ⟨rfl, rfl⟩
  | .nil, _ :: _, _, h => by simp [mTgs] at h
  | .cons _ _, [], _, h => by simp [mTgs] at h
  | .cons t ts, e :: es, env, h => by
    simp only [mTgs, Bool.and_eq_true] at h
    obtain ⟨h1, h2⟩ := mTgs_no (env := env) h.2
    rw [assignEach_no h.1.1]
    refine ⟨by rw [List.length_cons, h1, lenTgs], ?_⟩
    rw [List.findIdx?_cons]
    simp only [Bool.false_eq_true, if_false, h2, Option.map_none]
mutual
theorem tg_ok : ∀ (tg : Tg) {a : Expr}, HX M n P X → mTg M tg a = true → PG X a (gTg X.K tg)
  | .one i, a, hx, h => by
    cases a <;> simp only [mTg] at h <;> first | (cases h; done) | skip
    obtain ⟨h1, h2, h3⟩ := sto_ok hx h
    exact pg_name hx.nd h1 h2 h3
  | .many ts, a, hx, h => by
    cases a <;> simp only [mTg] at h <;> first | (cases h; done) | skip
    obtain ⟨h1, h2⟩ := mTgs_no (env := X.env) h
    simp only [gTg]
    exact pg_tup hx.calm (tgs_ok ts hx h) h1 h2
theorem tgs_ok : ∀ (ts : Tgs) {es : List Expr}, HX M n P X → mTgs M ts es = true → PGs X es (gTgs X.K ts)
  | .nil, [], _, _ => by simp only [gTgs]; exact pgs_nil
  | .nil, _ :: _, _, h => by simp [mTgs] at h
  | .cons _ _, [], _, h => by simp [mTgs] at h
  | .cons t ts, e :: es, hx, h => by
    simp only [mTgs, Bool.and_eq_true] at h
    simp only [gTgs]
    exact pgs_cons (tg_ok t hx h.1.2) (tgs_ok ts hx h.2) (by rw [assignEach_no h.1.1]; rfl)
end

/-! ### comprehensions -/
/-- one more address is hidden -/
def DC.plus {Tt : Tb} (C : DC Tt) (p : Addr) : DC Tt := { C with O := fun a => C.O a ∨ a = p }
theorem Gd.plus {Tt : Tb} {w : World} {K : PySem.W.Frag} {C : DC Tt} {ad : Nat → Addr} {σ : L2.St} {H : Hp} {env : Env'} {s : Src} {p : Addr} {o : HO} (G : Gd w K C ad σ H env s) (hp : H p = none) : Gd w K (C.plus p) ad σ (upd H p o) env s := by
  have G' := G.ext (Kp.of (Same.upd (o := o) hp)) (G.src.same (Same.upd hp))
  have hne : ∀ a, hid C env ad a → a ≠ p := fun a h z => by
    have := G.hidS h
    rw [z, hp] at this
    cases this
  have sb : Same (Bs C env ad H) (Bs (C.plus p) env ad (upd H p o)) := fun a u e => by
    obtain ⟨h1, h2⟩ := msk_of e
    have ha : a ≠ p := ne_of_none h2 hp
    refine msk_some (fun z => ?_) (by rw [upd_ne ha]; exact h2)
    rcases z with (z | z) | z
    · exact h1 (.inl z)
    · exact ha z
    · exact h1 (.inr z)
  exact {
    src := G'.src
    om := fun a h => .inl (G.om a h)
    oT := fun a h => by
      rcases h with h | h
      · exact G'.oT a h
      · rw [h, upd_same]; rfl
    kp := G'.kp
    on := fun i d e => ⟨(G.on i d e).1, fun z => z.elim (G.on i d e).2 fun q => hne _ (.inr ⟨i, d, e, rfl⟩) q⟩
    inj := G.inj
    len := G.len
    sl := fun i z e => by
      have r := G.sl i z e
      cases z with
      | no => trivial
      | sh d => obtain ⟨v, h1, h2⟩ := r; exact ⟨v, h1, h2.mono sb⟩
      | sr => exact r
      | ow d =>
        refine ⟨r.1, r.2.keep sb fun u h => ?_⟩
        rw [upd_ne (hne _ (.inr ⟨i, d, e, rfl⟩))]
        exact h }
/-- what others own is written -/
theorem Gd.updO {Tt : Tb} {w : World} {K : PySem.W.Frag} {C : DC Tt} {ad : Nat → Addr} {σ : L2.St} {H : Hp} {env : Env'} {s : Src} {p : Addr} {o : HO} (G : Gd w K C ad σ H env s) (hp : C.O p) (h0 : C.H0 p = none) (h1 : ¬ C.loc.mem p) (h2 : NoCode H p) : Gd w K C ad σ (upd H p o) env s := by
  have sb : Same (Bs C env ad H) (Bs C env ad (upd H p o)) := msk_same (fun _ h => h) fun a u n e => by
    rw [upd_ne (fun (z : a = p) => n (.inl (by rw [z]; exact hp)))]; exact e
  exact {
    src := G.src.put h1 h2
    om := G.om
    oT := fun a h => by
      by_cases q : a = p
      · rw [q, upd_same]; rfl
      · rw [upd_ne q]; exact G.oT a h
    kp := fun a u n1 e => by
      rw [upd_ne (ne_of_none e h0)]; exact G.kp a u n1 e
    on := G.on
    inj := G.inj
    len := G.len
    sl := fun i z e => by
      have r := G.sl i z e
      cases z with
      | no => trivial
      | sh d => obtain ⟨v, h1, h2⟩ := r; exact ⟨v, h1, h2.mono sb⟩
      | sr => exact r
      | ow d =>
        refine ⟨r.1, r.2.keep sb fun u h => ?_⟩
        rw [upd_ne (fun (z : ad i = p) => (G.on i d e).2 (by rw [z]; exact hp))]
        exact h }
theorem blk_hx {scope : Scope} {cl : List (Str × Addr)} {Ca : Addr} {fp : List Addr} {s : Shared} {H : Hp} (hx : HX M n P X) :
    HX { M with sc := relS scope M.sc, fn := fun x => scope.names.lookup x == some .cell, lam := false } n P (X.blk s H scope (compEnvC scope cl Ca X.env) fp) where
  sc := by show relabel scope X.env = relS scope M.sc; rw [← hx.sc]; rfl
  N := hx.N
  fn := rfl
  nd := hx.nd
  calm := hx.calm
  xe := rfl
  room := hx.room
  blt := hx.blt
  gl := hx.gl
  fns := hx.fns
  pick := hx.pick
  order := hx.order
  lam := fun z => nomatch z
end
end DL
end
section
set_option Elab.async false
set_option linter.all false
set_option maxRecDepth 100000
set_option maxHeartbeats 4000000
/-! DL10: comprehensions, and every expression. -/
namespace DL
open PySem PySem.Spec PyProof.Rows L2
section
variable {X : Cx} {M : MC} {n : Nat} {P : Fs} {b : Bool}
theorem c_tsNil : PTs X [] (tTs X.w X.K P .nil) := ⟨fun pins s σ H Q I ⟨C, ad, env, s', G, W⟩ => by
  simp only [evTs] at W
  exact pts_nil.run pins s σ H Q I (Wp.some.mp W H (Kp.refl _ _) G.src)⟩
theorem c_tsOne {t : T} {c : Expr} (h : PT X c (tT X.w X.K P t)) : PTs X [c] (tTs X.w X.K P (.cons t .nil)) := ⟨fun pins s σ H Q I ⟨C, ad, env, s', G, W⟩ => by
  refine (pts_one h).run pins s σ H Q I ?_
  simp only [evTs] at W
  rw [Wp.bind] at W
  refine ⟨C, ad, env, s', G, W.mono fun v s1 W1 H1 k1 q1 => ?_⟩
  dsimp only at W1
  cases v with
  | true => rw [if_pos rfl] at W1; exact Wp.some.mp W1 H1 k1 q1
  | false => rw [if_neg Bool.false_ne_true] at W1; exact Wp.some.mp W1 H1 k1 q1⟩
theorem wipeE_get (env : Env') (j : Nat) : ∀ vs : List Nat, j ∉ vs → (wipeE env vs)[j]? = env[j]?
  | [], _ => rfl
  | v :: vs, h => by
    unfold wipeE
    rw [List.getElem?_set_ne (fun (e : v = j) => h (by rw [← e]; exact List.mem_cons_self)), wipeE_get env j vs fun q => h (List.mem_cons_of_mem _ q)]
mutual
theorem bind_get {own : List Nat} {j : Nat} (hj : j ∉ own) : ∀ (tg : Tg) {d : D} {env env' : Env'}, bindTg tg d env = some env' → tgIn own tg = true → env'[j]? = env[j]?
  | .one i, d, env, env', e, h => by
    simp only [bindTg] at e
    obtain ⟨_, rfl⟩ := if_some e
    simp only [tgIn] at h
    rw [List.getElem?_set_ne (fun (q : i = j) => hj (by rw [← q]; exact of_decide_eq_true h))]
  | .many ts, d, env, env', e, h => by
    cases d <;> simp only [bindTg] at e <;> first | (cases e; done) | skip
    exact binds_get hj ts e (by simpa only [tgIn] using h)
theorem binds_get {own : List Nat} {j : Nat} (hj : j ∉ own) : ∀ (ts : Tgs) {ds : List D} {env env' : Env'}, bindTgs ts ds env = some env' → tgsIn own ts = true → env'[j]? = env[j]?
  | .nil, [], _, _, e, _ => by simp only [bindTgs] at e; cases e; rfl
  | .nil, _ :: _, _, _, e, _ => by simp [bindTgs] at e
  | .cons _ _, [], _, _, e, _ => by simp [bindTgs] at e
  | .cons t ts, d :: ds, env, env', e, h => by
    simp only [bindTgs] at e
    obtain ⟨env1, h1, h2⟩ := Option.bind_eq_some_iff.mp e
    simp only [tgsIn, Bool.and_eq_true] at h
    rw [binds_get hj ts h2 h.2, bind_get hj t h1 h.1]
end
theorem bs_back {Tt : Tb} {C : DC Tt} {ad : Nat → Addr} {H : Hp} {env env' : Env'} {own : List Nat} {tg : Tg} {d : D} (hno : noOw env own = true) (htg : tgIn own tg = true) (hb : bindTg tg d (wipeE env own) = some env') : Same (Bs C env' ad H) (Bs C env ad H) :=
  msk_same (fun a h => by
    rcases h with h | ⟨i, e, h1, h2⟩
    · exact .inl h
    · have hi : i ∉ own := fun q => by
        have := List.all_eq_true.mp hno i q
        rw [h1] at this
        cases this
      exact .inr ⟨i, e, by rw [bind_get hi tg hb htg, wipeE_get env i own hi]; exact h1, h2⟩) fun _ _ _ e => e
theorem fresh_kp {Tt : Tb} {w : World} {K : PySem.W.Frag} {C : DC Tt} {ad : Nat → Addr} {σ : L2.St} {H H1 : Hp} {env : Env'} {s : Src} {p : Addr} (G : Gd w K C ad σ H env s) (k : Kp C.loc H H1) (n1 : ¬ C.loc.mem p) (h : H1 p = none) : H p = none := by
  cases q : H p with
  | none => rfl
  | some o =>
    have := k p o n1 q
    rw [h] at this
    cases this
/-- the reading of a comprehension: what it gives is new -/
theorem comp_go {tg : Tg} {it : It} {ts : Ts} {own : List Nat} {e : E} {σ : L2.St} {H : Hp} {Q : VK} {C : DC P.T} {ad : Nat → Addr} {env : Env'} {s : Src} (htg : tgIn own tg = true) (G : Gd X.w X.K C ad σ H env s)
    (W : Wp (evE P false (.comp tg it ts own e) env s) fun d s' => mutD d = true → ∀ p H', Kp C.loc H H' → SrcAt C.loc H' s' → H p = none → OwAt X.w X.K (Bs (C.plus p) env ad H') H' p d → Q (.ref p) H') :
    tLc (tIt X.w X.K P true it) (gTg X.K tg) (tTs X.w X.K P ts) (tE X.w X.K P false e) own σ H Q := by
  simp only [evE] at W
  rw [Wp.bind] at W
  refine ⟨C, ad, env, s, G, W.mono fun items s1 W1 J H1 k1 q1 hJ D hD => ?_⟩
  obtain ⟨⟨hlen, hno⟩, W1⟩ := Wp.ite.mp W1
  have hlen : items.length ≤ lim := hlen
  rw [Wp.bind] at W1
  have G1 := G.ext k1 q1
  have h0D : C.H0 D = none := by
    cases q : C.H0 D with
    | none => rfl
    | some o =>
      have n1 : ¬ C.loc.mem D := fun z => by have := G1.oT _ (G1.om _ z); rw [hD] at this; cases this
      have := G1.kp D o n1 q
      rw [hD] at this
      cases this
  have nh : ¬ hid C env ad D := fun z => by
    have := G1.hidS z
    rw [hD] at this
    cases this
  have n1 : ¬ C.loc.mem D := fun z => nh (.inl (G1.om D z))
  -- the invariant
  refine ⟨fun i m Hc => m = items.length - i ∧ i ≤ items.length ∧ ∃ s2 acc accD, Gd X.w X.K (C.plus D) ad σ Hc env s2 ∧ Kp C.loc H1 Hc ∧ Hc D = some (.lst acc) ∧ RlL X.w X.K (Bs (C.plus D) env ad Hc) acc accD ∧ acc.length ≤ i ∧
    Wp (compLoop (fun d s => match bindTg tg d (wipeE env own) with
        | some env' => (evTs P ts env' s).bind fun q => if q.1 then (evE P false e env' q.2).bind fun r => some (some r.1, r.2) else some (none, q.2)
        | none => none) (items.drop i) s2) fun ds s' => ∀ p H', Kp C.loc H H' → SrcAt C.loc H' s' → H p = none → OwAt X.w X.K (Bs (C.plus p) env ad H') H' p (.list (accD ++ ds)) → Q (.ref p) H', ⟨items.length, ?_⟩, fun i m Hc hW => ?_⟩
  · refine ⟨by simp, Nat.zero_le _, s1, [], [], G1.plus hD, Kp.of (Same.upd hD), upd_same, .nil, Nat.le_refl _, ?_⟩
    rw [List.drop_zero]
    exact W1.mono fun ds s' k v H' k' q' m' r' => Wp.some.mp k rfl v H' k' q' m' r'
  · obtain ⟨rfl, hi', s2, acc, accD, Gc, kc, hacc, racc, hal, Wc⟩ := hW
    have sbJ : Same (ItB true C env ad H1) Hc := by
      show Same (sm C.loc H1) Hc
      exact (sm_same kc).trans sm_sub
    obtain ⟨hstop, hgo⟩ := hJ i Hc sbJ
    have sbE : Same (Bs C env ad H1) (Bs (C.plus D) env ad Hc) := fun a o e1 => by
      obtain ⟨m1, m2⟩ := msk_of e1
      refine msk_some (fun z => ?_) (kc a o (G1.ne1 m1) m2)
      rcases z with (z | z) | z
      · exact m1 (.inl z)
      · rw [z, hD] at m2; cases m2
      · exact m1 (.inr z)
    by_cases hlt : i < items.length
    · right
      obtain ⟨d, hd⟩ : ∃ d, items[i]? = some d := ⟨items[i], List.getElem?_eq_getElem hlt⟩
      obtain ⟨hg1, hy⟩ := hgo d hd
      refine ⟨hg1, fun Hn => i + 1 ≤ items.length ∧ ∃ s2 acc accD, Gd X.w X.K (C.plus D) ad σ Hn env s2 ∧ Kp C.loc H1 Hn ∧ Hn D = some (.lst acc) ∧ RlL X.w X.K (Bs (C.plus D) env ad Hn) acc accD ∧ acc.length ≤ i + 1 ∧
        Wp (compLoop (fun d s => match bindTg tg d (wipeE env own) with
          | some env' => (evTs P ts env' s).bind fun q => if q.1 then (evE P false e env' q.2).bind fun r => some (some r.1, r.2) else some (none, q.2)
          | none => none) (items.drop (i + 1)) s2) fun ds s' => ∀ p H', Kp C.loc H H' → SrcAt C.loc H' s' → H p = none → OwAt X.w X.K (Bs (C.plus p) env ad H') H' p (.list (accD ++ ds)) → Q (.ref p) H', fun H' hn => ⟨items.length - (i + 1), by omega, rfl, hn.1, hn.2⟩, fun x Hy hyld => ?_⟩
      obtain ⟨smy, ry⟩ := hy x Hy hyld
      have ky : Kp (C.plus D).loc Hc Hy := Kp.of smy
      have Gy := Gc.ext ky (Gc.src.same smy)
      have rx : Rl X.w X.K (Bs (C.plus D) env ad Hy) x d := ry _ (sbE.trans (Gc.bs ky)) (Gc.new smy)
      have ed : items.drop i = d :: items.drop (i + 1) := by
        rw [List.drop_eq_getElem_cons hlt]
        congr 1
        rw [List.getElem?_eq_getElem hlt] at hd
        exact Option.some.inj hd
      rw [ed] at Wc
      simp only [compLoop] at Wc
      rw [Wp.bind] at Wc
      cases hb : bindTg tg d (wipeE env own) with
      | none => rw [hb] at Wc; exact (Wp.none.mp Wc).elim
      | some env' =>
        rw [hb] at Wc
        dsimp only at Wc
        rw [Wp.bind] at Wc
        refine bind_ok tg (Gy.wipe own) (rx.mono wipeE_bs) hb fun σ2 G2 hw sb2 => ⟨by rw [hw own htg]; exact wipe_wipe, ?_⟩
        refine ⟨C.plus D, ad, env', s2, G2, Wc.mono fun q s3 W3 H3 k3 q3 => ?_⟩
        have G3 := G2.ext k3 q3
        have GG3 := Gy.ext k3 q3
        dsimp only at W3
        have racc3 : RlL X.w X.K (Bs (C.plus D) env ad H3) acc accD := (racc.mono (Gc.bs ky)).mono (Gy.bs k3)
        have hacc3 : H3 D = some (.lst acc) := k3 D _ n1 (smy _ _ hacc)
        have k13 : Kp C.loc H1 H3 := kc.trans (ky.trans k3)
        cases q with
        | false =>
          rw [if_neg Bool.false_ne_true] at W3
          have W4 := Wp.some.mp W3
          dsimp only at W4
          refine iteF ⟨hlt, s3, acc, accD, GG3, k13, hacc3, racc3, by omega, ?_⟩
          rw [Wp.bind] at W4
          exact W4.mono fun ds s' k v H' k' q' m' r' => Wp.some.mp k v H' k' q' m' r'
        | true =>
          rw [if_pos rfl, Wp.bind] at W3
          refine iteT ⟨C.plus D, ad, env', s3, G3, W3.mono fun d4 s4 W4 v4 H4 k4 q4 r4 => ?_⟩
          have W5 := Wp.some.mp W4
          dsimp only at W5
          rw [Wp.bind] at W5
          have GG4 := GG3.ext k4 q4
          have hacc4 : H4 D = some (.lst acc) := k4 D _ n1 hacc3
          refine ⟨acc, hacc4, by have := lim_lt (n := acc.length) (by omega); exact this, hlt, s4, acc ++ [v4], accD ++ [d4], GG4.updO (.inr rfl) h0D n1 (NoCode.lst hacc4), ?_, upd_same, ?_, by rw [List.length_append]; simp only [List.length_cons, List.length_nil]; omega, ?_⟩
          · intro a o m1 e1
            have : a ≠ D := ne_of_none e1 hD
            rw [upd_ne this]
            exact k4 a o m1 (k13 a o m1 e1)
          · have sbD : Same (Bs (C.plus D) env ad H4) (Bs (C.plus D) env ad (upd H4 D (.lst (acc ++ [v4])))) := msk_same (fun _ h => h) fun a o m e1 => by
              rw [upd_ne (fun (z : a = D) => m (.inl (.inr z)))]
              exact e1
            refine ((racc3.mono (GG3.bs k4)).append (.cons ?_ .nil)).mono sbD
            exact Rl.mono (bs_back hno htg hb) r4
          · refine W5.mono fun ds s' k v H' k' q' m' r' => ?_
            have := Wp.some.mp k v H' k' q' m'
            rw [List.append_assoc] at r'
            exact this r'
    · left
      have hie : i = items.length := by omega
      refine ⟨hstop (by omega), ?_⟩
      rw [hie, List.drop_length] at Wc
      simp only [compLoop] at Wc
      have := Wp.some.mp Wc
      rw [List.append_nil] at this
      exact this D Hc (k1.trans kc) Gc.src (fresh_kp G k1 n1 hD) ⟨acc, hacc, racc⟩
theorem c_comp {tg : Tg} {it : It} {ts : Ts} {own : List Nat} {e : E} {el tx ix : Expr} {ifs : List Expr} {scope : Scope} {pos : Pos} (hx : HX M n P X) (hi : PI X tx ix (tIt X.w X.K P true it)) (hset : setIt ix = false)
    (hown : ∀ i ∈ own, i < M.N.length) (hblk : blkC M.N M.sc scope (own.map fun i => (M.N.getD i "", i)) = true) (htg : tgIn own tg = true)
    (hg : ∀ (s : Shared) (H : Hp) (C : Addr) (cl : List (Str × Addr)) (fp : List Addr), PG (X.blk s H scope (compEnvC scope cl C X.env) fp) tx (gTg X.K tg))
    (ht : ∀ (s : Shared) (H : Hp) (C : Addr) (cl : List (Str × Addr)) (fp : List Addr), PTs (X.blk s H scope (compEnvC scope cl C X.env) fp) ifs (tTs X.w X.K P ts))
    (he : ∀ (s : Shared) (H : Hp) (C : Addr) (cl : List (Str × Addr)) (fp : List Addr), PE (X.blk s H scope (compEnvC scope cl C X.env) fp) el (tE X.w X.K P false e)) :
    PE X (.ListComp el [⟨tx, ix, ifs, 0⟩] scope pos) (tE X.w X.K P b (.comp tg it ts own e)) := by
  have ok : BlkOk X.N X.env.scope scope (own.map fun i => (M.N.getD i "", i)) := by
    rw [hx.N, hx.sc]
    exact blkOk_by hblk
  have ev : ((own.map fun i => (M.N.getD i "", i)).map (·.2)) = own := by
    rw [List.map_map]
    exact List.map_id' own
  have key := pe_lc (pos := pos) hx.calm hx.nd hi ok hg ht he (set_of hset)
  rw [ev] at key
  refine PE.weak key fun σ H Q ⟨C, ad, env, s, G, W⟩ => ?_
  have W : Wp (evE P false (.comp tg it ts own e) env s) fun d s' => ∀ v H', Kp C.loc H H' → SrcAt C.loc H' s' → Res X.w X.K b C.loc (Bs C env ad H') H' v d → Q v H' := by
    cases b <;> simpa only [evE] using W
  refine comp_go htg G (W.mono fun d s' k m p H' k' q' hp o => k _ H' k' q' (Res.rl b ?_ (G.ext k' q').bsm))
  have nh : ¬ hid C env ad p := fun z => by
    have := G.hidS z
    rw [hp] at this
    cases this
  exact o.rl (msk_same (fun a h => h.elim (fun z => .inl (.inl z)) fun z => .inr z) fun _ _ _ e1 => e1) fun o h => msk_some nh h
end
end DL
end
section
set_option Elab.async false
set_option linter.all false
set_option maxRecDepth 100000
set_option maxHeartbeats 4000000
/-! DLN: {}, d.get(k, x), sorted(set(xs)), sorted(xs, key=lambda v: v[:n]). -/
namespace DL
open PySem PySem.Spec PyProof.Rows L2
section
variable {X : Cx} {M : MC} {n : Nat} {P : Fs} {b : Bool} {pos : Pos}
theorem c_emp : PE X (.Dict [] [] pos) (tE X.w X.K P b .emp) := by
  refine PE.weak pe_dnewE fun σ H Q ⟨C, ad, env, s, G, W⟩ p hp hs => ?_
  simp only [evE] at W
  have k2 : Kp C.loc H (upd H p (.ext (DictO p []))) := Kp.of (Same.upd hp)
  have q2 := G.src.same (Same.upd (o := .ext (DictO p [])) hp)
  exact Wp.some.mp W _ _ k2 q2 (Res.rl b (.dic hs (Nat.zero_le _) (G.fresh hp) .nil) (G.ext k2 q2).bsm)
/-! ### d.get(k, x) -/
def tGetE (r : V → List V → Hp → VK → Prop) (to : TE) (t : TA) : TE := fun σ H Q => to σ H fun x H1 => (∃ a es, x = .ref a ∧ H1 a = some (.ext (DictO a es))) ∧ t σ H1 fun xs H2 => r x xs H2 Q
theorem dict_ty {pins : List (Addr × Obj)} {σ : L2.St} {H : Hp} {s : Shared} {a : Addr} {es : List DictEntry} (I : Inv X pins σ H s) (h : H a = some (.ext (DictO a es))) : s.TypeIs (.ref a) "dict" ∧ ∀ c, Value.ref a = .ref c → ∃ ob, s.heap.get? c = some ob ∧ ob.dict = none := by
  obtain ⟨o, ep, e, hx, _⟩ := Inv.ext I h
  exact ⟨⟨o, e, hx.1⟩, fun c z => by cases z; exact ⟨o, e, hx.2.1⟩⟩
theorem pe_getE {o e1 e2 : Expr} {to : TE} {t : TA} {apos cpos : Pos} {r : V → List V → Hp → VK → Prop} (hm : MtM X "dict.get" r) (ho : PE X o to) (ha : PA X [e1, e2] t) (hbase : attributeBase o "get" X.env (eval o X.env) = eval o X.env)
    (hline : (apos.endLine == cpos.line) = true) (h1 : notStar e1 = true) (h2 : notStar e2 = true) : PE X (.Call (.Attribute o "get" apos) [e1, e2] [] cpos) (tGetE r to t) := by
  have hs : starEach [e1, e2] X.env = [(false, eval e1 X.env), (false, eval e2 X.env)] := by rw [star_no h1, star_no h2]; rfl
  refine ⟨fun pins s σ H Q I h => ?_⟩
  refine wpAny_Call_method_late hbase (by rw [hs]; rfl) hline rfl (thn (ho.run pins s σ H _ I h) fun v s1 ⟨x, H1, I1, r1, ty, q1⟩ => ?_)
  obtain ⟨a, es, rfl, hx⟩ := ty
  cases r1
  obtain ⟨t1, t2⟩ := dict_ty I1 hx
  refine ⟨"dict", "dict.get", PySem.F.plainAttrs_dict, PySem.F.slot_dict_get, PySem.F.type_dict_get, t1, t2, ?_⟩
  have hA := ha.run cpos pins s1 σ H1 _ I1 q1
  rw [hs] at hA ⊢
  refine Calls.callWith_builtin rfl (Calls.evalArgs_plain ?_)
  exact thn hA fun us s2 ⟨vs, H2, I2, r2, q2⟩ => hm pins s2 σ H2 (.ref a) vs (.ref a) us Q I2 rfl r2 q2
def rGetE (w : World) (K : PySem.W.Frag) : V → List V → Hp → VK → Prop := fun x xs H Q => ∃ (B : Hp) (a c : Addr) (es : List DictEntry) (kvs : List (D × D)) (k d : D) (y : V), x = .ref a ∧ xs = [.ref c, y] ∧ Same B H ∧ (a == sysModules) = false ∧ H a = some (.ext (DictO a es)) ∧ RlE w K B es kvs ∧
  keysOk kvs = true ∧ Rl w K B (.ref c) k ∧ tupKey k = true ∧ Rl w K B y d ∧ ∀ z, Rl w K B z ((lookD kvs (nk k)).getD d) → Q z H
theorem mt_getE (hu : X.A.units + 65 < cLine) : MtM X "dict.get" (rGetE X.w X.K) := by
  intro pins s σ H x vs v us Q I rx rv ⟨B, a, c, es, kvs, k, d, y, e1, e2, sb, hs, h, r, hk, rk, tk, rd, q⟩
  subst e1 e2
  cases rx
  obtain ⟨u1, u2, rfl, g1, g2⟩ := rv.two
  cases g1
  exact d_getE hu I sb hs h r hk rk tk g2 rd q
theorem getF_inv {d k x z : D} (h : getF d k x = some z) : ∃ kvs, d = .dict kvs ∧ keysOk kvs = true ∧ tupKey k = true ∧ z = (lookD kvs (nk k)).getD x := by
  unfold getF at h
  split at h
  · obtain ⟨q, rfl⟩ := if_some h
    rw [Bool.and_eq_true] at q
    exact ⟨_, rfl, q.1, q.2, rfl⟩
  · cases h
theorem c_get {a k d : E} {x : Str} {p apos cpos : Pos} {y z : Expr} (hx : HX M n P X) (hl : (apos.endLine == cpos.line) = true) (h1 : notStar y = true) (h2 : notStar z = true) (ha : PE X (.Name x p) (tE X.w X.K P true a)) (hk : PE X y (tE X.w X.K P false k)) (hd : PE X z (tE X.w X.K P false d)) :
    PE X (.Call (.Attribute (.Name x p) "get" apos) [y, z] [] cpos) (tE X.w X.K P b (.get a k d)) := by
  refine PE.weak (pe_getE (mt_getE hx.hu) ha (pa_cons hk (pa_cons hd pa_nil (star_no h2)) (star_no h1)) rfl hl h1 h2) fun σ H Q ⟨C, ad, env, s, G, W⟩ => ?_
  simp only [evE] at W
  rw [Wp.bind] at W
  refine tE.go G (W.mono fun d1 s1 W1 v1 H1 k1 G1 r1 => ?_)
  rw [Wp.bind] at W1
  obtain ⟨d2, s2, e2, W2⟩ := W1
  rw [Wp.bind] at W2
  obtain ⟨d3, s3, e3, W3⟩ := W2
  obtain ⟨dz, hz, q⟩ := Wp.map.mp W3
  obtain ⟨kvs, rfl, hko, htk, rfl⟩ := getF_inv hz
  obtain ⟨c, es, rfl, hs, hes, hc, rc⟩ := Fl.dic_inv (show Fl X.w X.K (Bs C env ad H1) (sm C.loc H1) v1 (.dict kvs) from r1)
  obtain ⟨nm, hc1⟩ := msk_of hc
  refine ⟨⟨c, es, rfl, hc1⟩, tE.go G1 ⟨d2, s2, e2, fun v2 H2 k2 G2 r2 => tE.go G2 ⟨d3, s3, e3, fun v3 H3 k3 G3 r3 => ?_⟩⟩⟩
  have r2 : Rl X.w X.K (Bs C env ad H2) v2 d2 := r2
  obtain ⟨c2, rfl⟩ := tup_ref r2 htk
  refine ⟨Bs C env ad H3, c, c2, es, kvs, d2, d3, v3, rfl, rfl, G3.sub, hs, k3 _ _ nm (k2 _ _ nm hc1), (rc.mono (G1.bs k2)).mono (G2.bs k3), hko, r2.mono (G2.bs k3), htk, r3, fun z rz => ?_⟩
  exact q z H3 (k1.trans (k2.trans k3)) G3.src (Res.rl b rz G3.bsm)
/-! ### sorted(set(xs)), xs empty -/
theorem ssetF_inv {d z : D} (h : ssetF d = some z) : d = .list [] ∧ z = .list [] := by
  unfold ssetF at h
  split at h
  · cases h; exact ⟨rfl, rfl⟩
  · cases h
theorem boot_sorted' : bootBuiltins ("sorted" : Str) = some (.builtin "sorted") := by decide +kernel
theorem boot_set' : bootBuiltins ("set" : Str) = some (.type "set") := by decide +kernel
theorem c_sset {a : E} {x : Expr} {p1 p2 p3 : Pos} (hx : HX M n P X) (g1 : Gl X ("sorted" : Str)) (g2 : Gl X ("set" : Str)) (h1 : notStar x = true) (ha : PE X x (tE X.w X.K P true a)) :
    PE X (.Call (.Name "sorted" p1) [.Call (.Name "set" p2) [x] [] p3] [] pos) (tE X.w X.K P b (.sset a)) := by
  refine PE.weak (pe_callB (cr_sortedT hx.calm) g1 (hx.blt _ (by decide +kernel)) boot_sorted' (pa_cons (pe_callTy (cr_setOfT hx.calm (by have := hx.hu; omega)) g2 (hx.blt _ (by decide +kernel)) boot_set' (pa_cons ha pa_nil (star_no h1)) (by decide +kernel) (by decide +kernel) (star_no h1) rfl) pa_nil) (by decide +kernel) (by decide +kernel)) fun σ H Q ⟨C, ad, env, s, G, W⟩ => ?_
  simp only [evE] at W
  rw [Wp.bind] at W
  refine tE.go G (W.mono fun d1 s1 W1 v1 H1 k1 G1 r1 => ?_)
  obtain ⟨dz, hz, q⟩ := Wp.map.mp W1
  obtain ⟨rfl, rfl⟩ := ssetF_inv hz
  obtain ⟨l, xs, rfl, hl, tl⟩ := r1.fl.lst_inv
  cases tl
  refine ⟨l, [], rfl, SqL.of hl, (by intro p hp; cases hp), (by decide), fun c L hc hL _ => ?_⟩
  have hL : L = [] := List.eq_nil_iff_forall_not_mem.mpr fun z hz => (by cases hL z hz)
  subst hL
  have kc : Kp C.loc H1 (upd H1 c (SetTO X.prog X.w c [])) := Kp.of (Same.upd hc)
  have Gc := G1.ext kc (G1.src.same (Same.upd hc))
  refine ⟨c, [], 1, 0, rfl, upd_same, (by intro p hp; cases hp), Nat.le_refl _, (by intro p hp; cases hp), fun L' p hL' _ _ _ hp => ?_⟩
  have hL' : L' = [] := List.Perm.eq_nil hL'
  subst hL'
  have kp : Kp C.loc (upd H1 c (SetTO X.prog X.w c [])) (upd (upd H1 c (SetTO X.prog X.w c [])) p (.lst [])) := Kp.of (Same.upd hp)
  have Gp := Gc.ext kp (Gc.src.same (Same.upd hp))
  exact q _ _ (k1.trans (kc.trans kp)) Gp.src (Res.rl b (.lst (Gc.fresh hp) .nil) Gp.bsm)
end
end DL
end
section
set_option Elab.async false
set_option linter.all false
set_option maxRecDepth 100000
set_option maxHeartbeats 4000000
/-! DLL: sorted(xs, key=lambda v: v[:n]). -/
namespace DL
open PySem PySem.Spec PyProof.Rows L2
section
variable {X : Cx} {pins : List (Addr × Obj)} {σ : L2.St} {H B : Hp} {s : Shared}
mutual
theorem plainR (I : Inv X pins σ H s) (sb : Same B H) : ∀ (d : D) {v : V} {u : Value}, Rl X.w X.K B v d → plain d = true → RelV v u → Reads s.heap u d []
  | .none, v, u, h, _, r => by cases h; cases r; exact .none
  | .bool b, v, u, h, _, r => by cases h; cases r; exact .bool b
  | .int i, v, u, h, _, r => by cases h; obtain ⟨t, rfl⟩ := r; exact .int i t
  | .str x, v, u, h, _, r => by cases h; obtain ⟨t, rfl⟩ := r; exact .str x t
  | .tuple ds, v, u, h, p, r => by
    cases h with
    | tup h t =>
      cases r
      obtain ⟨its, rv, ⟨o, e, hc, n, hd⟩, _⟩ := I.tuple (same_t sb h)
      exact .tuple e hc hd (plainsR I sb ds t (by simpa [plain] using p) rv)
  | .list _, _, _, _, p, _ => by simp [plain] at p
  | .dict _, _, _, _, p, _ => by simp [plain] at p
theorem plainsR (I : Inv X pins σ H s) (sb : Same B H) : ∀ (ds : List D) {vs : List V} {us : List Value}, RlL X.w X.K B vs ds → plains ds = true → Vals vs us → ReadsAll s.heap us ds []
  | [], _, _, h, _, r => by cases h; cases r; exact .nil
  | d :: ds, _, _, h, p, r => by
    cases h with
    | cons h t =>
      simp only [plains, Bool.and_eq_true] at p
      cases r with
      | cons r rs => exact .cons (plainR I sb d h p.1 r) (plainsR I sb ds t p.2 rs)
end
end
section
variable {prog : Program} {w : World} {A : Around} {E : Value → Shared → Prop} {s : Shared} {env : Env} {y : Str} {t : Addr} {its : List Value} {m : Int} {mm : Str → Option Value} {p1 p2 p3 p4 : Pos} {j : Nat} {Q : Value → Shared → Prop}
/-- y[:m], y a tuple -/
theorem cut_eval (hk : env.scope.kind = .function) (hl : env.kindOf y = some .local) (hn : s.heap.Ns env.locals mm) (hm : mm y = some (.ref t)) (hd : (y == ("__debug__" : Str)) = false) (ht : IsTup s.heap t its.toArray) (hm0 : 0 ≤ m) (hsz : its.length ≤ sizeLine)
    (h : ∀ (h' : Heap) (tk : Nat) (u : Addr), (∀ b o, s.heap.get? b = some o → h'.get? b = some o) → IsTup h' u (its.take m.toNat).toArray → Q (.ref u) { s with heap := h', toks := tk }) :
    wpAny (model prog w) A (eval (.Subscript (.Name y p1) (.Slice none (some (.Constant (.int m) j p2)) none p3) p4) env) Q E s := by
  refine Subscript_ (wpAny_Name (wpAny_loadName_local hk hl hn hm ?_) hd)
  refine wpAny_Slice ?_
  rw [evalPart_none]
  refine wpAny_pure ?_
  rw [evalPart_some]
  refine wpAny_Constant_int ?_
  refine wpAny_pure ?_
  have kp : ∀ b o, s.heap.get? b = some o → (s.heap.push { cls := .type "slice", data := .fields #[.none, .int m s.toks, .none] }).get? b = some o := fun b o e => Heap.get?_push_of_some _ e
  have ht' : IsTup (s.heap.push { cls := .type "slice", data := .fields #[.none, .int m s.toks, .none] }) t its.toArray := by
    obtain ⟨o, e, hc, n, d⟩ := ht
    exact ⟨o, kp _ _ e, hc, n, d⟩
  have hsl : Heap.IsSliceOf (s.heap.push { cls := .type "slice", data := .fields #[.none, .int m s.toks, .none] }) s.heap.objs.size .none (.int m s.toks) .none := Heap.IsSliceOf.new ..
  have e0 : HT.sIx its.toArray.size 0 none = 0 := rfl
  have e1 : HT.sIx its.toArray.size its.toArray.size (some m) = min m.toNat its.length := by
    show (if m < 0 then _ else _) = _
    rw [if_neg (by omega), List.size_toArray]
  refine tail_any (ops := [.ref s.heap.objs.size, .ref t]) ht'.typeIs PyProof.Rows.slot_tuple_getitem.lookup ?_ (by with_unfolding_all rfl)
  by_cases hw : m.toNat ≥ its.length
  · refine getItem_tuple_whole (lo := none) (hi := some m) ht' hsl .none (.int m s.toks) ⟨e0, ?_⟩ ?_
    · rw [e1, List.size_toArray, Nat.min_eq_right hw]
    · refine h _ _ t kp ?_
      rw [List.take_of_length_le hw]
      exact ht'
  · refine HT.getItem_tuple_cut (lo := none) (hi := some m) ht' hsl .none (.int m s.toks) (fun z => ?_) ?_ (by rw [List.size_toArray]; exact hsz)
    · have := z.2
      rw [e1, List.size_toArray] at this
      omega
    · refine h _ _ _ (fun b o e => Heap.get?_push_of_some _ (kp b o e)) ?_
      rw [e0, e1, Nat.min_eq_left (by omega)]
      exact IsTup.new _ _
end
theorem bind_one {fd : FuncData} {a : Arg} {v : Value} (hp : fd.params = ⟨[], [a], none, [], [], none, []⟩) (hd : fd.defaults = .none) (hk : fd.kwdefaults = .none) : bindArgs fd ⟨[v], []⟩ = pure [(a.arg, v)] := by
  have e : ([(a.arg, v)] : List (Str × Value)).lookup a.arg = some v := by simp
  unfold bindArgs
  rw [hp, hd]
  have e2 : ([a.arg].zip [v]).lookup a.arg = some v := e
  have key : ([a.arg].filter fun n => (([a.arg].zip [v]).lookup n).isNone) = [] := by simp
  have key2 : ([a.arg].filterMap fun n => (([a.arg].zip [v]).lookup n).map (n, ·)) = [(a.arg, v)] := by simp
  show _ = _
  simp only [List.map_cons, List.map_nil, List.nil_append, List.append_nil, List.length_cons, List.length_nil]
  simp only [List.zip_cons_cons, List.zip_nil_left, List.zip_nil_right, List.forIn_nil, List.lookup_cons, beq_self_eq_true, List.filter_nil, List.filter_cons, List.filterMap_cons, List.filterMap_nil, List.take_succ_cons, List.take_zero, Option.isNone_some, Option.isSome_some, Bool.false_eq_true, if_false, Option.map_some]
  rw [show seqItems? Value.none = pure none from rfl]
  simp only [pure_bind, Option.getD_none, List.toList_toArray, List.drop_nil, List.length_nil, Nat.sub_zero, Nat.zero_add, List.take_succ_cons, List.take_zero, List.filter_cons, List.filter_nil, List.lookup_cons, beq_self_eq_true, Option.isNone_some, Bool.false_eq_true, if_false, List.isEmpty_nil, Bool.not_true, List.drop_succ_cons, List.drop_zero, List.zip_nil_left, List.zip_nil_right, List.forIn_nil, List.filterMap_cons, Option.map_some, List.filterMap_nil]
  rfl
section
variable {X : Cx} {pins : List (Addr × Obj)} {σ : L2.St} {H B : Hp} {s : Shared}
/-- a lambda of one parameter, made: its call -/
theorem lam_turn {A : Around} {f c' t : Addr} {q y : Str} {pm ctv : Value} {a : Arg} {sc : Scope} {m : Int} {j : Nat} {p1 p2 p3 p4 : Pos} {ds : List D} (I : Inv X pins σ H s) (sb : Same B H) (hdep : A.depth < recursionLimit)
    (hf : s.heap.get? f = some (PySem.W.kla_obj "<lambda>" q ⟨[], [a], none, [], [], none, []⟩ (.Subscript (.Name y p1) (.Slice none (some (.Constant (.int m) j p2)) none p3) p4) sc [] pm c' ctv)) (hc' : s.heap.CodeRec (.ref c') q)
    (ha : a.arg = y) (hsc : sc.kind = .function ∧ sc.isCoroutine = false ∧ sc.isGenerator = false ∧ sc.names = [(y, .local)]) (hd : (y == ("__debug__" : Str)) = false) (r : Rl X.w X.K B (.ref t) (.tuple ds)) (hm0 : 0 ≤ m) (hp : plains (ds.take m.toNat) = true) (hl : ds.length ≤ lim)
    (h : Heap) (tk : Nat) (kp : ∀ b o, s.heap.get? b = some o → h.get? b = some o) :
    wpAny (model X.prog X.w) A (call (.ref f) [.ref t]) (PySem.W.KeyPure (.tuple (ds.take m.toNat)) { s with heap := h, toks := tk }) (fun _ _ => False) { s with heap := h, toks := tk } := by
  obtain ⟨k1, k2, k3, k4⟩ := hsc
  cases r with
  | @tup _ xs _ ht tl =>
    have Ih : Inv X pins σ H { s with heap := h, toks := tk } := I.kept kp
    obtain ⟨its, rv, it, _⟩ := Ih.tuple (same_t sb ht)
    have hbind : bindArgs (PySem.W.kla_fn "<lambda>" q ⟨[], [a], none, [], [], none, []⟩ (.Subscript (.Name y p1) (.Slice none (some (.Constant (.int m) j p2)) none p3) p4) sc [] pm (.ref c') ctv) ⟨[.ref t], []⟩ = pure [(y, .ref t)] := by
      rw [← ha]
      exact bind_one rfl rfl rfl
    refine wpAny_call (PySem.W.kla_callFunE hdep (kp _ _ hf) rfl k2 k3 rfl (hc'.keeps kp) ?_)
    rw [hbind]
    refine wpAny_pure (wpAny_newFunctionEnv (fun x hx => by rw [k4] at hx; rcases List.mem_singleton.mp hx with rfl; intro z; cases z) (fun x hx => by rcases List.mem_singleton.mp hx with rfl; rw [k4]; simp) (fun h₁ hns hsb => ⟨Ih.nolimit.fresh _ hsb, ?_⟩) k1)
    have kq : ∀ b o, h.get? b = some o → h₁.get? b = some o := fun b o e => hsb.extBut b o (Nat.ne_of_lt (Heap.lt_size e)) (Heap.get?_push_of_some _ e)
    refine PySem.W.kla_codeExpr (cut_eval (its := its) (mm := fun x => ([(y, Value.ref t)] : List (Str × Value)).reverse.lookup x) (t := t) k1 (by show sc.names.lookup y = _; rw [k4]; simp) hns (by simp) hd ?_ hm0 (by rw [← rv.length, tl.length]; exact lim_le hl) fun h' tk' u kr iu => ?_)
    · obtain ⟨o, e, hc, n, d⟩ := it
      exact ⟨o, kq _ _ e, hc, n, d⟩
    · refine ⟨h', tk', rfl, fun b o e => kr b o (kq b o e), ?_⟩
      obtain ⟨o, e, hc, n, d⟩ := iu
      have I2 : Inv X pins σ H { s with heap := h', toks := tk' } := I.kept fun b o e => kr b o (kq b o (kp b o e))
      refine .tuple e hc d ?_
      have := plainsR I2 sb (ds.take m.toNat) (tl.take m.toNat) hp (rv.take m.toNat)
      simpa using this
/-- the lambda is made; nothing that was known is touched but the table -/
theorem lam_new {Tt : Tb} {c Pt : Addr} {ps : Arguments} {body : Expr} {sc : Scope} {lp : Pos} {E : Value → Shared → Prop} {Q : Value → Shared → Prop} (I : Inv X pins σ H s) (tb : LamX.TabB X.base X.mg c Pt) (hco : X.env.code = .ref c)
    (hin : (Pt, X.env.qual ++ "<lambda>") ∈ Tt) (hun : ∀ p ∈ Tt, p.1 = Pt → p.2 = X.env.qual ++ "<lambda>") (ht : LamX.Tabs Tt H) (hdf : defaultsOf ps X.env = ([], [])) (hfr : ∀ y ∈ sc.names, y.2 ≠ .free)
    (go : ∀ (f d : Addr) (pm cv : Value) (Hn : Hp) (sn : Shared), Inv X pins σ Hn sn → (∀ a o, a ≠ Pt → H a = some o → Hn a = some o) → LamX.Tabs Tt Hn →
      sn.heap.get? f = some (PySem.W.kla_obj "<lambda>" (X.env.qual ++ "<lambda>") ps body sc (cloFrom X.env.cells sc.names []) pm d cv) → sn.heap.CodeRec (.ref d) (X.env.qual ++ "<lambda>") → Q (.ref f) sn) :
    wpAny (model X.prog X.w) X.A (eval (.Lambda ps body sc lp) X.env) Q E s := by
  obtain ⟨tab, hP, hok, hcode⟩ := ht _ hin
  have hcl := closure_ok (env := X.env) (scope := sc) fun y hy z => (hfr y hy z).elim
  have hbi : s.heap.BuiltinsAt X.mg Pt := tb.bm.keeps I.bk
  have hPo : s.heap.get? Pt = some { cls := .none, data := .fields tab } := I.hok Pt _ hP
  refine PySem.W.kla_eval hdf ?_
  cases hca : codeAmong lp tab.toList with
  | some cv0 =>
    obtain ⟨d, rfl, hd⟩ := hcode lp cv0 hca
    refine PySem.W.kla_makeFunctionHit (mg := X.mg) (c := c) (P := Pt) (ps := tab) hcl I.ok.glob (I.mod.glob.keeps I.bk) hco (tb.code.keeps I.bk) hPo hok hca hbi fun cv hn tk hk hs => ?_
    obtain ⟨⟨oc, vs, t, g1, g2, g3⟩, _⟩ := I.hok d _ hd
    refine go hn.objs.size d ((X.mg "__name__").getD .none) cv H _ (I.kept fun a o e => Heap.get?_push_of_some _ (hk a o e)) (fun _ _ _ e => e) ht (Heap.get?_push_size _ rfl) ?_
    exact ⟨d, oc, vs, t, rfl, Heap.get?_push_of_some _ (hk _ _ g1), g2, g3⟩
  | none =>
    refine PySem.W.kla_makeFunction (mg := X.mg) (c := c) (P := Pt) (ps := tab) hcl I.ok.glob (I.mod.glob.keeps I.bk) hco (tb.code.keeps I.bk) hPo hok hca tb.gP hbi fun d cv hn tk hx hge hlt hrec htb => ?_
    obtain ⟨d', oc, vs, t, e2, g1, g2, g3⟩ := hrec
    cases e2
    have nd : H d = none := I.hok.fresh hge
    have In := LamX.inv_table (t' := tk) (more := #[rawInt lp.line, rawInt lp.col, .ref d]) (h' := hn.push (PySem.W.kla_obj "<lambda>" (X.env.qual ++ "<lambda>") ps body sc (cloFrom X.env.cells sc.names []) ((X.mg "__name__").getD .none) d cv)) I hP
      (fun a o ha e => Heap.get?_push_of_some _ (hx a o ha e)) (Heap.get?_push_of_some _ htb) hge ⟨oc, vs, t, Heap.get?_push_of_some _ g1, g2, g3⟩
    have kn : ∀ a o, a ≠ Pt → H a = some o → upd (upd H Pt (.tbl (tab ++ #[rawInt lp.line, rawInt lp.col, .ref d]))) d (LamX.CodeO d (X.env.qual ++ "<lambda>")) a = some o := fun a o ha e => by
      rw [upd_ne (ne_of_none e nd), upd_ne ha]
      exact e
    have codeK : ∀ {e : Addr} {q : Str}, H e = some (LamX.CodeO e q) → upd (upd H Pt (.tbl (tab ++ #[rawInt lp.line, rawInt lp.col, .ref d]))) d (LamX.CodeO d (X.env.qual ++ "<lambda>")) e = some (LamX.CodeO e q) := fun {e q} z =>
      kn _ _ (fun w => by rw [w, hP] at z; unfold LamX.CodeO at z; cases z) z
    have eL : (tab ++ #[rawInt lp.line, rawInt lp.col, .ref d]).toList = tab.toList ++ [rawInt lp.line, rawInt lp.col, .ref d] := by simp
    refine go hn.objs.size d ((X.mg "__name__").getD .none) cv _ _ In kn (fun p hp => ?_) (Heap.get?_push_size _ rfl) ⟨d, oc, vs, t, rfl, Heap.get?_push_of_some _ g1, g2, g3⟩
    obtain ⟨pt, b1, b2, b3⟩ := ht p hp
    by_cases hb : p.1 = Pt
    · rw [hb] at b1
      rw [hP] at b1
      cases b1
      rw [hun p hp hb] at b3 ⊢
      rw [hb]
      refine ⟨_, by rw [upd_ne (ne_of_none hP nd), upd_same], by rw [eL]; exact PySem.TriplesOk_snoc _ _ _ _ b2, fun p' w hw => ?_⟩
      rw [eL] at hw
      rcases LamX.among_app _ b2 hw with z | z
      · obtain ⟨c0, e1, e3⟩ := b3 p' w z
        exact ⟨c0, e1, codeK e3⟩
      · exact ⟨d, z, upd_same⟩
    · refine ⟨pt, kn _ _ hb b1, b2, fun p' w hw => ?_⟩
      obtain ⟨c0, e1, e3⟩ := b3 p' w hw
      exact ⟨c0, e1, codeK e3⟩
end
section
variable {X : Cx} {M : MC} {n : Nat} {P : Fs} {b : Bool} {pos : Pos}
theorem keyOk_inv {m : Int} {d : D} (h : keyOk m d = true) : ∃ ds x r, d = .tuple ds ∧ plains (ds.take m.toNat) = true ∧ ds.take m.toNat = x :: r ∧ ds.length ≤ lim ∧ (keyS m d).depth ≤ 16 := by
  cases d <;> first | (cases h; done) | skip
  rename_i ds
  simp only [keyOk, Bool.and_eq_true, Bool.not_eq_true', decide_eq_true_eq] at h
  obtain ⟨⟨⟨h1, h2⟩, h3⟩, h4⟩ := h
  cases z : ds.take m.toNat with
  | nil => rw [z] at h2; cases h2
  | cons x r => exact ⟨ds, x, r, rfl, h1, z, h3, h4⟩
theorem lamOk_inv {ps : Arguments} {y : Str} {sc : Scope} (h : lamOk ps y sc = true) : ∃ a : Arg, ps = ⟨[], [a], none, [], [], none, []⟩ ∧ a.arg = y ∧ (sc.kind = .function ∧ sc.isCoroutine = false ∧ sc.isGenerator = false ∧ sc.names = [(y, .local)]) ∧ (y == ("__debug__" : Str)) = false := by
  unfold lamOk at h
  simp only [Bool.and_eq_true, Bool.not_eq_true', decide_eq_true_eq] at h
  obtain ⟨⟨⟨⟨⟨⟨h1, h2⟩, h3⟩, h4⟩, h5⟩, h6⟩, _⟩ := h
  have hk : sc.kind = .function := by
    revert h2
    cases sc.kind <;> simp
  split at h1
  · exact ⟨_, rfl, of_decide_eq_true h1, ⟨hk, h3, h4, h5⟩, h6⟩
  · cases h1
/-- values and data, pair by pair -/
theorem rl_zip {w : World} {K : PySem.W.Frag} {B : Hp} : ∀ {xs : List V} {ds : List D}, RlL w K B xs ds → ∀ p ∈ xs.zip ds, Rl w K B p.1 p.2
  | _, _, .nil, p, h => by cases h
  | _, _, .cons r t, p, h => by
    rw [List.zip_cons_cons] at h
    rcases List.mem_cons.mp h with rfl | h
    · exact r
    · exact rl_zip t p h
theorem rl_unzip {w : World} {K : PySem.W.Frag} {B : Hp} : ∀ {ps : List (V × D)}, (∀ p ∈ ps, Rl w K B p.1 p.2) → RlL w K B (ps.map (·.1)) (ps.map (·.2))
  | [], _ => .nil
  | p :: ps, h => .cons (h p List.mem_cons_self) (rl_unzip fun q hq => h q (List.mem_cons_of_mem _ hq))
theorem each_vals {xs : List V} {ds : List D} {us : List Value} (r : Vals xs us) (hl : xs.length = ds.length) : PySem.W.EachIs (fun u (p : V × D) => RelV p.1 u) us (xs.zip ds) := by
  induction r generalizing ds with
  | nil => rw [List.zip_nil_left]; exact .nil
  | cons h t ih =>
    cases ds with
    | nil => simp at hl
    | cons d ds =>
      rw [List.zip_cons_cons]
      exact .cons h (ih (by simpa using hl))
theorem vals_each {us : List Value} {ps : List (V × D)} (h : PySem.W.EachIs (fun u (p : V × D) => RelV p.1 u) us ps) : Vals (ps.map (·.1)) us := by
  induction h with
  | nil => exact .nil
  | cons r _ ih => exact .cons r ih
theorem c_sortS {a : E} {x : Expr} {m : Int} {j : Nat} {ps : Arguments} {y : Str} {sc : Scope} {p0 p1 p2 p3 p4 lp kp : Pos} (hx : HX M n P X) (hlam : M.lam = true) (hg : Gl X ("sorted" : Str)) (h1 : notStar x = true) (hlo : lamOk ps y sc = true) (ha : PE X x (tE X.w X.K P true a)) :
    PE X (.Call (.Name "sorted" p0) [x] [⟨some "key", .Lambda ps (.Subscript (.Name y p1) (.Slice none (some (.Constant (.int m) j p2)) none p3) p4) sc lp, kp⟩] pos) (tE X.w X.K P b (.sortS a m)) := ⟨fun pins s σ H Q I ⟨C, ad, env, s0, G, W⟩ => by
  obtain ⟨c, Pt, hco, tb, hin, hun⟩ := hx.lam hlam
  obtain ⟨ar, rfl, hay, hsc, hdb⟩ := lamOk_inv hlo
  simp only [evE] at W
  rw [Wp.bind] at W
  refine wpAny_Call_Name_kw (ld_blt I hg (hx.blt _ (by decide +kernel)) boot_sorted' ?_ (by decide +kernel) (by decide +kernel))
  have hs : starEach [x] X.env = [(false, eval x X.env)] := by rw [star_no h1]; rfl
  refine PyProof.Rows.callWith_kw (thn ((pa_cons ha pa_nil (star_no h1)).run pos pins s σ H (fun vs H1 => ∃ v1 d1 s1, vs = [v1] ∧ Kp C.loc H H1 ∧ Gd X.w X.K C ad σ H1 env s1 ∧ Res X.w X.K true C.loc (Bs C env ad H1) H1 v1 d1 ∧ Wp ((sortSF m d1).map fun d => (d, s1)) fun d s' => ∀ v H', Kp C.loc H H' → SrcAt C.loc H' s' → Res X.w X.K b C.loc (Bs C env ad H') H' v d → Q v H') I
    (tE.go G (W.mono fun d1 s1 W1 v1 H1 k1 G1 r1 => ⟨v1, d1, s1, rfl, k1, G1, r1, W1⟩))) fun us s1 ⟨vs, H1, I1, r1, v1, d1, src1, e1, k1, G1, rs1, W1⟩ => ?_) (by rw [hs]; rfl) (by rw [hs]; rfl) rfl rfl
  subst e1
  obtain ⟨d2, hd2, q⟩ := Wp.map.mp W1
  unfold sortSF at hd2
  split at hd2
  case h_2 => cases hd2
  rename_i ds
  obtain ⟨hc, rfl⟩ := if_some hd2
  simp only [Bool.and_eq_true, decide_eq_true_eq] at hc
  obtain ⟨⟨⟨hm0, _, hlen⟩, hkeys⟩, hal⟩ := hc
  obtain ⟨l, xs, rfl, hxl, tl⟩ := rs1.fl.lst_inv
  obtain ⟨u, rfl, ru⟩ := r1.one
  cases ru
  show wpAny _ _ (evalAll ((do let v ← eval (.Lambda ⟨[], [ar], none, [], [], none, []⟩ (.Subscript (.Name y p1) (.Slice none (some (.Constant (.int m) j p2)) none p3) p4) sc lp) X.env; standAt pos; pure v) :: [])) _ _ s1
  have hfr : ∀ z ∈ sc.names, z.2 ≠ .free := fun z hz => by
    rw [hsc.2.2.2] at hz
    rcases List.mem_singleton.mp hz with rfl
    intro w
    cases w
  refine wpAny_evalAll_cons (wpAny_bind (lam_new I1 tb hco hin hun (fun p hp => (G1.src.2.2.2 p hp).2) rfl hfr fun f d pm cv H2 s2 I2 kn ht hf hcr => wpAny_bind (wpAny_standAt (wpAny_pure (wpAny_evalAll_nil ?_)))))
  have hcl : cloFrom X.env.cells sc.names [] = [] := by rw [hsc.2.2.2]; rfl
  rw [hcl] at hf
  -- behind the lambda's making
  have hmP : C.loc.mem Pt := .inr (.inr ⟨_, hin, rfl⟩)
  have k2 : Kp C.loc H1 H2 := fun a o na e => kn a o (fun z => na (by rw [z]; exact hmP)) e
  have q2 : SrcAt C.loc H2 src1 := by
    obtain ⟨g1, g2, g3, g4⟩ := G1.src
    have nP := (g4 _ hin).1
    exact ⟨g1, kn _ _ (fun z => nP.1 z.symm) g2, kn _ _ (fun z => nP.2 z.symm) g3, fun p hp => ⟨(g4 p hp).1, ht p hp⟩⟩
  have G2 := G1.ext k2 q2
  obtain ⟨l', xs', e3, hxm, tl'⟩ := Fl.lst_inv (show Fl X.w X.K (Bs C env ad H1) (sm C.loc H1) (.ref l) (.list ds) from rs1)
  cases e3
  obtain ⟨nml, hxl1⟩ := msk_of hxm
  rw [hxl] at hxl1
  cases hxl1
  have hxl2 : H2 l = some (.lst xs) := k2 _ _ nml hxl
  have tl2 : RlL X.w X.K (Bs C env ad H2) xs ds := tl'.mono (G1.bs k2)
  obtain ⟨zsz, its, nn, rv, hlen2, hobj⟩ := I2.lstM hxl2
  show wpAny (model X.prog X.w) X.A (call (.builtin "sorted") [.ref l] [(Str.ofString "key", .ref f)]) (EP X pins σ Q) X.xe s2
  have hu := hx.hu
  have hdp := hx.room.dp
  refine PySem.W.sorted_key_data (b := false) (R := fun u (p : V × D) => RelV p.1 u) (bs := xs.zip ds) (vs := its) (fun p => keyS m p.2) ⟨_, hobj, rfl, _, rfl⟩ (each_vals rv tl2.length) ?_ ?_ (by rw [List.length_zip, tl2.length]; exact lim_le (by omega)) ?_ (PyProof.Rows.ksk_s1 _ _) (fun _ => PyProof.Rows.ksk_l1 _ _) (fun _ => PyProof.Rows.ksk_t1 _ _) ?_ ?_
  · intro d hd d' hd'
    obtain ⟨p, hp, rfl⟩ := List.mem_map.mp hd
    obtain ⟨p', hp', rfl⟩ := List.mem_map.mp hd'
    have a1 := List.all_eq_true.mp hal p.2 (List.of_mem_zip hp).2
    exact List.all_eq_true.mp a1 p'.2 (List.of_mem_zip hp').2
  · left
    intro d hd
    obtain ⟨p, hp, rfl⟩ := List.mem_map.mp hd
    obtain ⟨es, z, r, e4, _, e5, _⟩ := keyOk_inv (List.all_eq_true.mp hkeys p.2 (List.of_mem_zip hp).2)
    rw [e4]
    exact ⟨z, r, by show PyData.tuple _ = _; rw [e5]⟩
  · intro p hp
    obtain ⟨_, _, _, _, _, _, _, e6⟩ := keyOk_inv (List.all_eq_true.mp hkeys p.2 (List.of_mem_zip hp).2)
    omega
  · intro v p hR hp h tk hk
    obtain ⟨es, z, r, e4, e5, e6, e7, _⟩ := keyOk_inv (List.all_eq_true.mp hkeys p.2 (List.of_mem_zip hp).2)
    have rp := rl_zip tl2 p hp
    rw [e4] at rp ⊢
    cases hp1 : p.1 <;> (rw [hp1] at rp hR; try (cases rp; done))
    rename_i t
    obtain rfl : v = Value.ref t := hR
    exact lam_turn I2 G2.sub (by rw [Around.in1_depth, Around.in1_depth]; omega) hf hcr hay hsc hdb rp hm0 e5 e7 h tk hk
  · intro out cc h' tk hk hfresh hob hol hout
    have hp0 : H2 (s2.heap.objs.size + 1) = none := by
      cases z : H2 (s2.heap.objs.size + 1) with
      | none => rfl
      | some o =>
        have := I2.hok.fresh (Nat.le_succ s2.heap.objs.size)
        rw [this] at z
        cases z
    have hsort : ((xs.zip ds).mergeSort (PySem.W.dataLe false fun p : V × D => keyS m p.2)).map (·.2) = ds.mergeSort (PySem.W.dataLe false (keyS m)) := by
      have := List.map_mergeSort (f := fun p : V × D => p.2) (r := PySem.W.dataLe false fun p : V × D => keyS m p.2) (s := PySem.W.dataLe false (keyS m)) (l := xs.zip ds) (fun a _ b _ => rfl)
      rw [this, List.map_snd_zip]
      exact Nat.le_of_eq tl2.length.symm
    have hall : ∀ p ∈ (xs.zip ds).mergeSort (PySem.W.dataLe false fun p : V × D => keyS m p.2), Rl X.w X.K (Bs C env ad H2) p.1 p.2 := fun p hp => rl_zip tl2 p (List.mem_mergeSort.mp hp)
    have ro := rl_unzip hall
    rw [hsort] at ro
    have hv := vals_each hout
    have hl3 : (((xs.zip ds).mergeSort (PySem.W.dataLe false fun p : V × D => keyS m p.2)).map (·.1)).length ≤ sizeLine := by
      rw [ro.length, List.length_mergeSort]
      exact lim_le hlen
    have k3 : Kp C.loc H2 (upd H2 (s2.heap.objs.size + 1) (.lst (((xs.zip ds).mergeSort (PySem.W.dataLe false fun p : V × D => keyS m p.2)).map (·.1)))) := Kp.of (Same.upd hp0)
    have G3 := G2.ext k3 (G2.src.same (Same.upd hp0))
    refine ⟨.ref (s2.heap.objs.size + 1), _, I2.laid (a := s2.heap.objs.size + 1) (o := .lst (((xs.zip ds).mergeSort (PySem.W.dataLe false fun p : V × D => keyS m p.2)).map (·.1))) (t' := tk) hk (Nat.le_succ _) ⟨hl3, out, cc, hv, hob⟩, rfl, ?_⟩
    exact q _ _ (k1.trans (k2.trans k3)) G3.src (Res.rl b (.lst (G2.fresh hp0) (ro.mono (G2.bs k3))) G3.bsm)⟩
end
end DL
end
section
set_option Elab.async false
set_option linter.all false
set_option maxRecDepth 100000
set_option maxHeartbeats 4000000
/-! DL11: every expression that matches a term does what the term means. -/
namespace DL
open PySem PySem.Spec PyProof.Rows L2
section
variable {n : Nat} {P : Fs}
theorem mEs_star {M : MC} {x : Expr} {p : Pos} {xs : List Expr} {e : E} {es : Es} : mEs M (.cons e es) (.Starred x p :: xs) = false := by simp [mEs, notStar]
theorem mAs_no : ∀ {M : MC} {as : As} {es : List Expr}, mAs M as es = true → (∀ e ∈ es, notStar e = true) ∧ (es = [] → as = .nil)
  | M, .nil, [], _ => ⟨fun _ h => (by cases h), fun _ => rfl⟩
  | M, .nil, _ :: _, h => by simp [mAs] at h
  | M, .cons _ _, [], h => by simp [mAs] at h
  | M, .src _ _, [], h => by simp [mAs] at h
  | M, .cons e as, a :: es, h => by
    simp only [mAs, Bool.and_eq_true] at h
    refine ⟨fun e he => ?_, fun z => by cases z⟩
    rcases List.mem_cons.mp he with rfl | he
    · exact h.1.1
    · exact (mAs_no h.2).1 e he
  | M, .src i as, a :: es, h => by
    cases a <;> simp only [mAs] at h <;> first | (cases h; done) | skip
    rw [Bool.and_eq_true] at h
    refine ⟨fun e he => ?_, fun z => by cases z⟩
    rcases List.mem_cons.mp he with rfl | he
    · rfl
    · exact (mAs_no h.2).1 e he
theorem inv_non {M : MC} {a : Expr} (h : mE M (.non) a = true) : ∃ j p, a = .Constant .none j p := by
  cases a <;> (try simp only [mE, Bool.and_eq_true, decide_eq_true_eq, Bool.false_eq_true, and_false, false_and, Bool.not_eq_true'] at h)
  rename_i v j p
  cases v <;> (try simp only [mE, Bool.and_eq_true, decide_eq_true_eq, Bool.false_eq_true, and_false, false_and, Bool.not_eq_true'] at h)
  exact ⟨_, _, rfl⟩
theorem inv_bl {M : MC} {a : Expr} {v : Bool} (h : mE M (.bl v) a = true) : ∃ j p, a = .Constant (.bool v) j p := by
  cases a <;> (try simp only [mE, Bool.and_eq_true, decide_eq_true_eq, Bool.false_eq_true, and_false, false_and, Bool.not_eq_true'] at h)
  rename_i v' j p
  cases v' <;> (try simp only [mE, Bool.and_eq_true, decide_eq_true_eq, Bool.false_eq_true, and_false, false_and, Bool.not_eq_true'] at h)
  have h := eq_of_beq h
  subst h
  exact ⟨_, _, rfl⟩
theorem inv_int {M : MC} {a : Expr} {v : Int} (h : mE M (.int v) a = true) : ∃ j p, a = .Constant (.int v) j p := by
  cases a <;> (try simp only [mE, Bool.and_eq_true, decide_eq_true_eq, Bool.false_eq_true, and_false, false_and, Bool.not_eq_true'] at h)
  rename_i v' j p
  cases v' <;> (try simp only [mE, Bool.and_eq_true, decide_eq_true_eq, Bool.false_eq_true, and_false, false_and, Bool.not_eq_true'] at h)
  subst h
  exact ⟨_, _, rfl⟩
theorem inv_str {M : MC} {a : Expr} {v : Str} (h : mE M (.str v) a = true) : ∃ j p, a = .Constant (.str v) j p := by
  cases a <;> (try simp only [mE, Bool.and_eq_true, decide_eq_true_eq, Bool.false_eq_true, and_false, false_and, Bool.not_eq_true'] at h)
  rename_i v' j p
  cases v' <;> (try simp only [mE, Bool.and_eq_true, decide_eq_true_eq, Bool.false_eq_true, and_false, false_and, Bool.not_eq_true'] at h)
  subst h
  exact ⟨_, _, rfl⟩
theorem inv_var {M : MC} {a : Expr} {i : Nat} (h : mE M (.var i) a = true) : ∃ x p, a = .Name x p ∧ M.vis i x = true := by
  cases a <;> (try simp only [mE, Bool.and_eq_true, decide_eq_true_eq, Bool.false_eq_true, and_false, false_and, Bool.not_eq_true'] at h)
  exact ⟨_, _, rfl, h⟩
theorem inv_view {M : MC} {a : Expr} {i : Nat} (h : mE M (.view i) a = true) : ∃ x p, a = .Name x p ∧ M.vis i x = true := by
  cases a <;> (try simp only [mE, Bool.and_eq_true, decide_eq_true_eq, Bool.false_eq_true, and_false, false_and, Bool.not_eq_true'] at h)
  exact ⟨_, _, rfl, h⟩
theorem inv_gint {M : MC} {a : Expr} {x : Str} {i : Int} (h : mE M (.gint x i) a = true) : ∃ y p, a = .Name y p ∧ M.isGl y = true ∧ (y, i) ∈ M.gl ∧ (y == ("__debug__" : Str)) = false := by
  cases a <;> (try simp only [mE, Bool.and_eq_true, decide_eq_true_eq, Bool.false_eq_true, and_false, false_and, Bool.not_eq_true'] at h)
  exact ⟨_, _, rfl, h.1.1.2, h.1.2, h.2⟩
theorem inv_tup {M : MC} {a : Expr} {es : Es} (h : mE M (.tup es) a = true) : ∃ xs j p, a = .Tuple xs j p ∧ mEs M es xs = true := by
  cases a <;> (try simp only [mE, Bool.and_eq_true, decide_eq_true_eq, Bool.false_eq_true, and_false, false_and, Bool.not_eq_true'] at h)
  exact ⟨_, _, _, rfl, h⟩
theorem inv_lst {M : MC} {a : Expr} {es : Es} (h : mE M (.lst es) a = true) : ∃ xs p, a = .List xs p ∧ mEs M es xs = true := by
  cases a <;> (try simp only [mE, Bool.and_eq_true, decide_eq_true_eq, Bool.false_eq_true, and_false, false_and, Bool.not_eq_true'] at h)
  exact ⟨_, _, rfl, h⟩
theorem inv_bin {M : MC} {a : Expr} {o : Op2} {e1 e2 : E} (h : mE M (.bin o e1 e2) a = true) : ∃ x y p, a = .BinOp x o.op y p ∧ mE M e1 x = true ∧ mE M e2 y = true := by
  cases a <;> (try simp only [mE, Bool.and_eq_true, decide_eq_true_eq, Bool.false_eq_true, and_false, false_and, Bool.not_eq_true'] at h)
  obtain ⟨⟨rfl, h1⟩, h2⟩ := h
  exact ⟨_, _, _, rfl, h1, h2⟩
theorem inv_neg {M : MC} {a : Expr} {e1 : E} (h : mE M (.neg e1) a = true) : ∃ x p, a = .UnaryOp .USub x p ∧ mE M e1 x = true := by
  cases a <;> (try simp only [mE, Bool.and_eq_true, decide_eq_true_eq, Bool.false_eq_true, and_false, false_and, Bool.not_eq_true'] at h)
  rename_i op y p
  cases op <;> (try simp only [mE, Bool.and_eq_true, decide_eq_true_eq, Bool.false_eq_true, and_false, false_and, Bool.not_eq_true'] at h)
  exact ⟨_, _, rfl, h⟩
theorem inv_cmp {M : MC} {a : Expr} {o : Cm} {e1 e2 : E} (h : mE M (.cmp o e1 e2) a = true) : ∃ x y p, a = .Compare x [o.op] [y] p ∧ behindInMarks o.op y = false ∧ mE M e1 x = true ∧ mE M e2 y = true := by
  cases a <;> (try simp only [mE, Bool.and_eq_true, decide_eq_true_eq, Bool.false_eq_true, and_false, false_and, Bool.not_eq_true'] at h)
  rename_i x ops cs p
  rcases ops with _ | ⟨op, _ | ⟨_, _⟩⟩ <;> rcases cs with _ | ⟨y, _ | ⟨_, _⟩⟩ <;> (try simp only [mE, Bool.and_eq_true, decide_eq_true_eq, Bool.false_eq_true, and_false, false_and, Bool.not_eq_true'] at h)
  obtain ⟨⟨⟨rfl, h0⟩, h1⟩, h2⟩ := h
  exact ⟨_, _, _, rfl, h0, h1, h2⟩
theorem inv_isN {M : MC} {a : Expr} {e1 : E} (h : mE M (.isN e1) a = true) : ∃ x j q p, a = .Compare x [.Is] [.Constant .none j q] p ∧ mE M e1 x = true := by
  cases a <;> (try simp only [mE, Bool.and_eq_true, decide_eq_true_eq, Bool.false_eq_true, and_false, false_and, Bool.not_eq_true'] at h)
  rename_i x ops cs p
  rcases ops with _ | ⟨op, _ | ⟨_, _⟩⟩ <;> rcases cs with _ | ⟨y, _ | ⟨_, _⟩⟩ <;> (try simp only [mE, Bool.and_eq_true, decide_eq_true_eq, Bool.false_eq_true, and_false, false_and, Bool.not_eq_true'] at h)
  cases op <;> cases y <;> (try simp only [mE, Bool.and_eq_true, decide_eq_true_eq, Bool.false_eq_true, and_false, false_and, Bool.not_eq_true'] at h)
  rename_i v j p2
  cases v <;> (try simp only [mE, Bool.and_eq_true, decide_eq_true_eq, Bool.false_eq_true, and_false, false_and, Bool.not_eq_true'] at h)
  exact ⟨_, _, _, _, rfl, h⟩
theorem inv_notN {M : MC} {a : Expr} {e1 : E} (h : mE M (.notN e1) a = true) : ∃ x j q p, a = .Compare x [.IsNot] [.Constant .none j q] p ∧ mE M e1 x = true := by
  cases a <;> (try simp only [mE, Bool.and_eq_true, decide_eq_true_eq, Bool.false_eq_true, and_false, false_and, Bool.not_eq_true'] at h)
  rename_i x ops cs p
  rcases ops with _ | ⟨op, _ | ⟨_, _⟩⟩ <;> rcases cs with _ | ⟨y, _ | ⟨_, _⟩⟩ <;> (try simp only [mE, Bool.and_eq_true, decide_eq_true_eq, Bool.false_eq_true, and_false, false_and, Bool.not_eq_true'] at h)
  cases op <;> cases y <;> (try simp only [mE, Bool.and_eq_true, decide_eq_true_eq, Bool.false_eq_true, and_false, false_and, Bool.not_eq_true'] at h)
  rename_i v j p2
  cases v <;> (try simp only [mE, Bool.and_eq_true, decide_eq_true_eq, Bool.false_eq_true, and_false, false_and, Bool.not_eq_true'] at h)
  exact ⟨_, _, _, _, rfl, h⟩
theorem inv_and {M : MC} {a : Expr} {e1 e2 : E} (h : mE M (.and e1 e2) a = true) : ∃ x y r p, a = .BoolOp .And (x :: y :: r) p ∧ mE M e1 x = true ∧ mE M e2 (unOne (.BoolOp .And (y :: r) p)) = true := by
  cases a <;> (try simp only [mE, Bool.and_eq_true, decide_eq_true_eq, Bool.false_eq_true, and_false, false_and, Bool.not_eq_true'] at h)
  rename_i op xs p
  rcases xs with _ | ⟨x, _ | ⟨y, r⟩⟩ <;> cases op <;> (try simp only [mE, Bool.and_eq_true, decide_eq_true_eq, Bool.false_eq_true, and_false, false_and, Bool.not_eq_true'] at h)
  exact ⟨_, _, _, _, rfl, h.1, h.2⟩
theorem inv_or {M : MC} {a : Expr} {e1 e2 : E} (h : mE M (.or e1 e2) a = true) : ∃ x y r p, a = .BoolOp .Or (x :: y :: r) p ∧ mE M e1 x = true ∧ mE M e2 (unOne (.BoolOp .Or (y :: r) p)) = true := by
  cases a <;> (try simp only [mE, Bool.and_eq_true, decide_eq_true_eq, Bool.false_eq_true, and_false, false_and, Bool.not_eq_true'] at h)
  rename_i op xs p
  rcases xs with _ | ⟨x, _ | ⟨y, r⟩⟩ <;> cases op <;> (try simp only [mE, Bool.and_eq_true, decide_eq_true_eq, Bool.false_eq_true, and_false, false_and, Bool.not_eq_true'] at h)
  exact ⟨_, _, _, _, rfl, h.1, h.2⟩
theorem inv_nota {M : MC} {a : Expr} {e1 : E} (h : mE M (.nota e1) a = true) : ∃ x p, a = .UnaryOp .Not x p ∧ mE M e1 x = true := by
  cases a <;> (try simp only [mE, Bool.and_eq_true, decide_eq_true_eq, Bool.false_eq_true, and_false, false_and, Bool.not_eq_true'] at h)
  rename_i op y p
  cases op <;> (try simp only [mE, Bool.and_eq_true, decide_eq_true_eq, Bool.false_eq_true, and_false, false_and, Bool.not_eq_true'] at h)
  exact ⟨_, _, rfl, h⟩
theorem inv_ifx {M : MC} {a : Expr} {t : T} {e1 e2 : E} (h : mE M (.ifx t e1 e2) a = true) : ∃ x y z p, a = .IfExp x y z p ∧ mT M t x = true ∧ mE M e1 y = true ∧ mE M e2 z = true := by
  cases a <;> (try simp only [mE, Bool.and_eq_true, decide_eq_true_eq, Bool.false_eq_true, and_false, false_and, Bool.not_eq_true'] at h)
  exact ⟨_, _, _, _, rfl, h.1.1, h.1.2, h.2⟩
theorem inv_idx {M : MC} {a : Expr} {e1 e2 : E} (h : mE M (.idx e1 e2) a = true) : ∃ x y p, a = .Subscript x y p ∧ isSlc y = false ∧ mE M e1 x = true ∧ mE M e2 y = true := by
  cases a <;> (try simp only [mE, Bool.and_eq_true, decide_eq_true_eq, Bool.false_eq_true, and_false, false_and, Bool.not_eq_true'] at h)
  exact ⟨_, _, _, rfl, h.1.1, h.1.2, h.2⟩
theorem inv_slc {M : MC} {a : Expr} {e1 : E} {lo hi : Oe} (h : mE M (.slc e1 lo hi) a = true) : ∃ x l u q p, a = .Subscript x (.Slice l u none q) p ∧ mE M e1 x = true ∧ mO M lo l = true ∧ mO M hi u = true := by
  cases a <;> (try simp only [mE, Bool.and_eq_true, decide_eq_true_eq, Bool.false_eq_true, and_false, false_and, Bool.not_eq_true'] at h)
  rename_i x y p
  cases y <;> (try simp only [mE, Bool.and_eq_true, decide_eq_true_eq, Bool.false_eq_true, and_false, false_and, Bool.not_eq_true'] at h)
  rename_i l u st p2
  cases st <;> (try simp only [mE, Bool.and_eq_true, decide_eq_true_eq, Bool.false_eq_true, and_false, false_and, Bool.not_eq_true'] at h)
  exact ⟨_, _, _, _, _, rfl, h.1.1, h.1.2, h.2⟩
theorem inv_call {M : MC} {a : Expr} {f : Nat} {as : As} (h : mE M (.call f as) a = true) : ∃ x q es p, a = .Call (.Name x q) es [] p ∧ M.fns[f]? = some x ∧ M.isGl x = true ∧ (x == ("__debug__" : Str)) = false ∧ mAs M as es = true := by
  cases a <;> (try simp only [mE, Bool.and_eq_true, decide_eq_true_eq, Bool.false_eq_true, and_false, false_and, Bool.not_eq_true'] at h)
  rename_i fn es kws p
  cases fn <;> cases kws <;> (try simp only [mE, Bool.and_eq_true, decide_eq_true_eq, Bool.false_eq_true, and_false, false_and, Bool.not_eq_true'] at h)
  exact ⟨_, _, _, _, rfl, h.1.1.1, h.1.1.2, h.1.2, h.2⟩
theorem inv_pick {M : MC} {a : Expr} {i : Nat} {e1 : E} (h : mE M (.pick i e1) a = true) : ∃ x q y r z p, a = .Call (.Name x q) [.Name y r, z] [] p ∧ M.blt x "_law_pick" = true ∧ M.vis i y = true ∧ notStar z = true ∧ mE M e1 z = true := by
  cases a <;> (try simp only [mE, Bool.and_eq_true, decide_eq_true_eq, Bool.false_eq_true, and_false, false_and, Bool.not_eq_true'] at h)
  rename_i fn es kws p
  rcases es with _ | ⟨e1, _ | ⟨e2, _ | ⟨_, _⟩⟩⟩ <;> cases fn <;> cases kws <;> (try simp only [mE, Bool.and_eq_true, decide_eq_true_eq, Bool.false_eq_true, and_false, false_and, Bool.not_eq_true'] at h)
  cases e1 <;> (try simp only [mE, Bool.and_eq_true, decide_eq_true_eq, Bool.false_eq_true, and_false, false_and, Bool.not_eq_true'] at h)
  exact ⟨_, _, _, _, _, _, rfl, h.1.1.1, h.1.1.2, h.1.2, h.2⟩
theorem inv_order {M : MC} {a : Expr} {i : Nat} {e1 : E} (h : mE M (.order i e1) a = true) : ∃ x q y r z p, a = .Call (.Name x q) [.Name y r, z] [] p ∧ M.blt x "_law_any_order" = true ∧ M.vis i y = true ∧ notStar z = true ∧ mE M e1 z = true := by
  cases a <;> (try simp only [mE, Bool.and_eq_true, decide_eq_true_eq, Bool.false_eq_true, and_false, false_and, Bool.not_eq_true'] at h)
  rename_i fn es kws p
  rcases es with _ | ⟨e1, _ | ⟨e2, _ | ⟨_, _⟩⟩⟩ <;> cases fn <;> cases kws <;> (try simp only [mE, Bool.and_eq_true, decide_eq_true_eq, Bool.false_eq_true, and_false, false_and, Bool.not_eq_true'] at h)
  cases e1 <;> (try simp only [mE, Bool.and_eq_true, decide_eq_true_eq, Bool.false_eq_true, and_false, false_and, Bool.not_eq_true'] at h)
  exact ⟨_, _, _, _, _, _, rfl, h.1.1.1, h.1.1.2, h.1.2, h.2⟩
theorem inv_b1 {M : MC} {a : Expr} {o : B1} {e1 : E} (h : mE M (.b1 o e1) a = true) : ∃ x q y p, a = .Call (.Name x q) [y] [] p ∧ M.blt x o.name = true ∧ notStar y = true ∧ mE M e1 y = true := by
  cases a <;> (try simp only [mE, Bool.and_eq_true, decide_eq_true_eq, Bool.false_eq_true, and_false, false_and, Bool.not_eq_true'] at h)
  rename_i fn es kws p
  rcases es with _ | ⟨e1, _ | ⟨_, _⟩⟩ <;> cases fn <;> cases kws <;> (try simp only [mE, Bool.and_eq_true, decide_eq_true_eq, Bool.false_eq_true, and_false, false_and, Bool.not_eq_true'] at h)
  exact ⟨_, _, _, _, rfl, h.1.1, h.1.2, h.2⟩
theorem inv_b2 {M : MC} {a : Expr} {o : B2} {e1 e2 : E} (h : mE M (.b2 o e1 e2) a = true) : ∃ x q y z p, a = .Call (.Name x q) [y, z] [] p ∧ M.blt x o.name = true ∧ notStar y = true ∧ notStar z = true ∧ mE M e1 y = true ∧ mE M e2 z = true := by
  cases a <;> (try simp only [mE, Bool.and_eq_true, decide_eq_true_eq, Bool.false_eq_true, and_false, false_and, Bool.not_eq_true'] at h)
  rename_i fn es kws p
  rcases es with _ | ⟨e1, _ | ⟨e2, _ | ⟨_, _⟩⟩⟩ <;> cases fn <;> cases kws <;> (try simp only [mE, Bool.and_eq_true, decide_eq_true_eq, Bool.false_eq_true, and_false, false_and, Bool.not_eq_true'] at h)
  exact ⟨_, _, _, _, _, rfl, h.1.1.1.1, h.1.1.1.2, h.1.1.2, h.1.2, h.2⟩
theorem inv_join {M : MC} {a : Expr} {z : Str} {e1 : E} (h : mE M (.join z e1) a = true) : ∃ k q apos y p, a = .Call (.Attribute (.Constant (.str z) k q) "join" apos) [y] [] p ∧ (apos.endLine == p.line) = true ∧ notStar y = true ∧ mE M e1 y = true := by
  cases a <;> (try simp only [mE, Bool.and_eq_true, decide_eq_true_eq, Bool.false_eq_true, and_false, false_and, Bool.not_eq_true'] at h)
  rename_i fn es kws p
  rcases es with _ | ⟨e1, _ | ⟨_, _⟩⟩ <;> cases fn <;> cases kws <;> (try simp only [mE, Bool.and_eq_true, decide_eq_true_eq, Bool.false_eq_true, and_false, false_and, Bool.not_eq_true'] at h)
  rename_i o nm apos
  cases o <;> (try simp only [mE, Bool.and_eq_true, decide_eq_true_eq, Bool.false_eq_true, and_false, false_and, Bool.not_eq_true'] at h)
  rename_i v j p2
  cases v <;> (try simp only [mE, Bool.and_eq_true, decide_eq_true_eq, Bool.false_eq_true, and_false, false_and, Bool.not_eq_true'] at h)
  obtain ⟨⟨⟨⟨rfl, rfl⟩, h3⟩, h4⟩, h5⟩ := h
  exact ⟨_, _, _, _, _, rfl, h3, h4, h5⟩
theorem inv_comp {M : MC} {a : Expr} {tg : Tg} {it : It} {ts : Ts} {own : List Nat} {e1 : E} (h : mE M (.comp tg it ts own e1) a = true) : ∃ el tx ix ifs scope p, a = .ListComp el [⟨tx, ix, ifs, 0⟩] scope p ∧ setIt ix = false ∧ mIt M it ix = true ∧ (∀ i ∈ own, i < M.N.length) ∧ blkC M.N M.sc scope (own.map fun i => (M.N.getD i "", i)) = true ∧ ifs.length ≤ 1 ∧
    mTg { M with sc := relS scope M.sc, fn := fun x => scope.names.lookup x == some .cell, lam := false } tg tx = true ∧ tgIn own tg = true ∧ mTs { M with sc := relS scope M.sc, fn := fun x => scope.names.lookup x == some .cell, lam := false } ts ifs = true ∧ mE { M with sc := relS scope M.sc, fn := fun x => scope.names.lookup x == some .cell, lam := false } e1 el = true := by
  cases a <;> (try simp only [mE, Bool.and_eq_true, decide_eq_true_eq, Bool.false_eq_true, and_false, false_and, Bool.not_eq_true'] at h)
  rename_i el gens scope p
  rcases gens with _ | ⟨⟨tx, ix, ifs, as⟩, _ | ⟨_, _⟩⟩ <;> (try simp only [mE, Bool.and_eq_true, decide_eq_true_eq, Bool.false_eq_true, and_false, false_and, Bool.not_eq_true'] at h)
  by_cases has : as = 0
  · subst has
    simp only [mE, Bool.and_eq_true, decide_eq_true_eq, Bool.not_eq_true', List.all_eq_true] at h
    obtain ⟨⟨⟨⟨⟨h1, h2⟩, h3⟩, h4⟩, h5⟩, ⟨⟨h6, h7⟩, h8⟩, h9⟩ := h
    exact ⟨_, _, _, _, _, _, rfl, h1, h2, h3, h4, h5, h6, h7, h8, h9⟩
  · exfalso
    unfold mE at h
    split at h <;> first | contradiction | skip
    all_goals simp_all
theorem inv_emp {M : MC} {a : Expr} (h : mE M .emp a = true) : ∃ p, a = .Dict [] [] p := by
  unfold mE at h
  split at h <;> first | (cases h; done) | (rename_i q; cases q; exact ⟨_, rfl⟩) | (rename_i q; cases q; done)
theorem inv_get {M : MC} {a : Expr} {e1 e2 e3 : E} (h : mE M (.get e1 e2 e3) a = true) : ∃ x p apos y z cpos, a = .Call (.Attribute (.Name x p) "get" apos) [y, z] [] cpos ∧ (apos.endLine == cpos.line) = true ∧ notStar y = true ∧ notStar z = true ∧ mE M e1 (.Name x p) = true ∧ mE M e2 y = true ∧ mE M e3 z = true := by
  unfold mE at h
  split at h <;> first | (cases h; done) | skip
  all_goals (rename_i q; first | (cases q; done) | skip)
  cases q
  simp only [Bool.and_eq_true, decide_eq_true_eq] at h
  obtain ⟨⟨⟨⟨⟨⟨rfl, h2⟩, h3⟩, h4⟩, h5⟩, h6⟩, h7⟩ := h
  exact ⟨_, _, _, _, _, _, rfl, h2, h3, h4, h5, h6, h7⟩
theorem inv_sortS {M : MC} {a : Expr} {e1 : E} {m : Int} (h : mE M (.sortS e1 m) a = true) : ∃ f p0 x ps y p1 j p2 p3 p4 sc lp kp p, a = .Call (.Name f p0) [x] [⟨some "key", .Lambda ps (.Subscript (.Name y p1) (.Slice none (some (.Constant (.int m) j p2)) none p3) p4) sc lp, kp⟩] p ∧ M.lam = true ∧ M.blt f "sorted" = true ∧ notStar x = true ∧ lamOk ps y sc = true ∧ mE M e1 x = true := by
  unfold mE at h
  split at h <;> first | (cases h; done) | skip
  all_goals (rename_i q; first | (cases q; done) | skip)
  cases q
  simp only [Bool.and_eq_true, decide_eq_true_eq] at h
  obtain ⟨⟨⟨⟨⟨⟨h1, h2⟩, rfl⟩, rfl⟩, h5⟩, h6⟩, h7⟩ := h
  exact ⟨_, _, _, _, _, _, _, _, _, _, _, _, _, _, rfl, h1, h2, h5, h6, h7⟩
theorem inv_sset {M : MC} {a : Expr} {e1 : E} (h : mE M (.sset e1) a = true) : ∃ f p1 g p2 x p3 p, a = .Call (.Name f p1) [.Call (.Name g p2) [x] [] p3] [] p ∧ M.blt f "sorted" = true ∧ M.blt g "set" = true ∧ notStar x = true ∧ mE M e1 x = true := by
  unfold mE at h
  split at h <;> first | (cases h; done) | skip
  all_goals (rename_i q; first | (cases q; done) | skip)
  cases q
  simp only [Bool.and_eq_true] at h
  exact ⟨_, _, _, _, _, _, _, rfl, h.1.1.1, h.1.1.2, h.1.2, h.2⟩
theorem inv_tcmp {M : MC} {a : Expr} {o : Cm} {e1 e2 : E} (h : mT M (.cmp o e1 e2) a = true) : ∃ x y p, a = .Compare x [o.op] [y] p ∧ behindInMarks o.op y = false ∧ mE M e1 x = true ∧ mE M e2 y = true := by
  cases a <;> (try simp only [mT, Bool.and_eq_true, decide_eq_true_eq, Bool.false_eq_true, and_false, false_and, Bool.not_eq_true'] at h)
  rename_i x ops cs p
  rcases ops with _ | ⟨op, _ | ⟨_, _⟩⟩ <;> rcases cs with _ | ⟨y, _ | ⟨_, _⟩⟩ <;> (try simp only [mT, Bool.and_eq_true, decide_eq_true_eq, Bool.false_eq_true, and_false, false_and, Bool.not_eq_true'] at h)
  obtain ⟨⟨⟨rfl, h0⟩, h1⟩, h2⟩ := h
  exact ⟨_, _, _, rfl, h0, h1, h2⟩
theorem inv_tchain {M : MC} {a : Expr} {o o' : Cm} {e1 e2 e3 : E} (h : mT M (.chain o o' e1 e2 e3) a = true) : ∃ x y z p, a = .Compare x [o.op, o'.op] [y, z] p ∧ lastMarks [o.op, o'.op] [y, z] = false ∧ mE M e1 x = true ∧ mE M e2 y = true ∧ mE M e3 z = true := by
  cases a <;> (try simp only [mT, Bool.and_eq_true, decide_eq_true_eq, Bool.false_eq_true, and_false, false_and, Bool.not_eq_true'] at h)
  rename_i x ops cs p
  rcases ops with _ | ⟨op, _ | ⟨op2, _ | ⟨_, _⟩⟩⟩ <;> rcases cs with _ | ⟨y, _ | ⟨y2, _ | ⟨_, _⟩⟩⟩ <;> (try simp only [mT, Bool.and_eq_true, decide_eq_true_eq, Bool.false_eq_true, and_false, false_and, Bool.not_eq_true'] at h)
  obtain ⟨⟨⟨⟨⟨rfl, rfl⟩, h0⟩, h1⟩, h2⟩, h3⟩ := h
  exact ⟨_, _, _, _, rfl, h0, h1, h2, h3⟩
theorem inv_tisN {M : MC} {a : Expr} {e1 : E} (h : mT M (.isN e1) a = true) : ∃ x j q p, a = .Compare x [.Is] [.Constant .none j q] p ∧ mE M e1 x = true := by
  cases a <;> (try simp only [mT, Bool.and_eq_true, decide_eq_true_eq, Bool.false_eq_true, and_false, false_and, Bool.not_eq_true'] at h)
  rename_i x ops cs p
  rcases ops with _ | ⟨op, _ | ⟨_, _⟩⟩ <;> rcases cs with _ | ⟨y, _ | ⟨_, _⟩⟩ <;> (try simp only [mT, Bool.and_eq_true, decide_eq_true_eq, Bool.false_eq_true, and_false, false_and, Bool.not_eq_true'] at h)
  cases op <;> cases y <;> (try simp only [mT, Bool.and_eq_true, decide_eq_true_eq, Bool.false_eq_true, and_false, false_and, Bool.not_eq_true'] at h)
  rename_i v j p2
  cases v <;> (try simp only [mT, Bool.and_eq_true, decide_eq_true_eq, Bool.false_eq_true, and_false, false_and, Bool.not_eq_true'] at h)
  exact ⟨_, _, _, _, rfl, h⟩
theorem inv_tnotN {M : MC} {a : Expr} {e1 : E} (h : mT M (.notN e1) a = true) : ∃ x j q p, a = .Compare x [.IsNot] [.Constant .none j q] p ∧ mE M e1 x = true := by
  cases a <;> (try simp only [mT, Bool.and_eq_true, decide_eq_true_eq, Bool.false_eq_true, and_false, false_and, Bool.not_eq_true'] at h)
  rename_i x ops cs p
  rcases ops with _ | ⟨op, _ | ⟨_, _⟩⟩ <;> rcases cs with _ | ⟨y, _ | ⟨_, _⟩⟩ <;> (try simp only [mT, Bool.and_eq_true, decide_eq_true_eq, Bool.false_eq_true, and_false, false_and, Bool.not_eq_true'] at h)
  cases op <;> cases y <;> (try simp only [mT, Bool.and_eq_true, decide_eq_true_eq, Bool.false_eq_true, and_false, false_and, Bool.not_eq_true'] at h)
  rename_i v j p2
  cases v <;> (try simp only [mT, Bool.and_eq_true, decide_eq_true_eq, Bool.false_eq_true, and_false, false_and, Bool.not_eq_true'] at h)
  exact ⟨_, _, _, _, rfl, h⟩
theorem inv_tnot {M : MC} {a : Expr} {t : T} (h : mT M (.not t) a = true) : ∃ x p, a = .UnaryOp .Not x p ∧ mT M t x = true := by
  cases a <;> (try simp only [mT, Bool.and_eq_true, decide_eq_true_eq, Bool.false_eq_true, and_false, false_and, Bool.not_eq_true'] at h)
  rename_i op y p
  cases op <;> (try simp only [mT, Bool.and_eq_true, decide_eq_true_eq, Bool.false_eq_true, and_false, false_and, Bool.not_eq_true'] at h)
  exact ⟨_, _, rfl, h⟩
theorem inv_tand {M : MC} {a : Expr} {ts : Ts} (h : mT M (.and ts) a = true) : ∃ xs p, a = .BoolOp .And xs p ∧ xs ≠ [] ∧ mTs M ts xs = true := by
  cases a <;> (try simp only [mT, Bool.and_eq_true, decide_eq_true_eq, Bool.false_eq_true, and_false, false_and, Bool.not_eq_true'] at h)
  rename_i op xs p
  cases op <;> (try simp only [mT, Bool.and_eq_true, decide_eq_true_eq, Bool.false_eq_true, and_false, false_and, Bool.not_eq_true'] at h)
  exact ⟨_, _, rfl, by intro z; rw [z] at h; simp at h, h.2⟩
theorem inv_tor {M : MC} {a : Expr} {ts : Ts} (h : mT M (.or ts) a = true) : ∃ xs p, a = .BoolOp .Or xs p ∧ xs ≠ [] ∧ mTs M ts xs = true := by
  cases a <;> (try simp only [mT, Bool.and_eq_true, decide_eq_true_eq, Bool.false_eq_true, and_false, false_and, Bool.not_eq_true'] at h)
  rename_i op xs p
  cases op <;> (try simp only [mT, Bool.and_eq_true, decide_eq_true_eq, Bool.false_eq_true, and_false, false_and, Bool.not_eq_true'] at h)
  exact ⟨_, _, rfl, by intro z; rw [z] at h; simp at h, h.2⟩
theorem inv_range1 {M : MC} {a : Expr} {e1 : E} (h : mIt M (.range1 e1) a = true) : ∃ x q y p, a = .Call (.Name x q) [y] [] p ∧ M.blt x "range" = true ∧ notStar y = true ∧ mE M e1 y = true := by
  unfold mIt at h
  split at h
  · rename_i q; cases q
  · rename_i q
    cases q
    simp only [Bool.and_eq_true] at h
    exact ⟨_, _, _, _, rfl, h.1.1, h.1.2, h.2⟩
  · rename_i q; cases q
  · cases h
theorem inv_range2 {M : MC} {a : Expr} {e1 e2 : E} (h : mIt M (.range2 e1 e2) a = true) : ∃ x q y z p, a = .Call (.Name x q) [y, z] [] p ∧ M.blt x "range" = true ∧ notStar y = true ∧ notStar z = true ∧ mE M e1 y = true ∧ mE M e2 z = true := by
  unfold mIt at h
  split at h
  · rename_i q; cases q
  · rename_i q; cases q
  · rename_i q
    cases q
    simp only [Bool.and_eq_true] at h
    exact ⟨_, _, _, _, _, rfl, h.1.1.1.1, h.1.1.1.2, h.1.1.2, h.1.2, h.2⟩
  · cases h
theorem inv_esStar {M : MC} {a : List Expr} {e : E} {es : Es} (h : mEs M (.star e es) a = true) : ∃ x p xs, a = .Starred x p :: xs ∧ mE M e x = true ∧ mEs M es xs = true := by
  cases a <;> (try simp only [mEs, Bool.and_eq_true, decide_eq_true_eq, Bool.false_eq_true, and_false, false_and, Bool.not_eq_true'] at h)
  rename_i x xs
  cases x <;> (try simp only [mEs, Bool.and_eq_true, decide_eq_true_eq, Bool.false_eq_true, and_false, false_and, Bool.not_eq_true'] at h)
  exact ⟨_, _, _, rfl, h.1, h.2⟩
theorem inv_esCons {M : MC} {a : List Expr} {e : E} {es : Es} (h : mEs M (.cons e es) a = true) : ∃ x xs, a = x :: xs ∧ notStar x = true ∧ mE M e x = true ∧ mEs M es xs = true := by
  cases a <;> (try simp only [mEs, Bool.and_eq_true, decide_eq_true_eq, Bool.false_eq_true, and_false, false_and, Bool.not_eq_true'] at h)
  exact ⟨_, _, rfl, h.1.1, h.1.2, h.2⟩
theorem inv_esNil {M : MC} {a : List Expr} (h : mEs M (.nil) a = true) : a = [] := by
  cases a <;> (try simp only [mEs, Bool.and_eq_true, decide_eq_true_eq, Bool.false_eq_true, and_false, false_and, Bool.not_eq_true'] at h)
  rfl
theorem inv_asCons {M : MC} {a : List Expr} {e : E} {as : As} (h : mAs M (.cons e as) a = true) : ∃ x xs, a = x :: xs ∧ notStar x = true ∧ mE M e x = true ∧ mAs M as xs = true := by
  cases a <;> (try simp only [mAs, Bool.and_eq_true, decide_eq_true_eq, Bool.false_eq_true, and_false, false_and, Bool.not_eq_true'] at h)
  exact ⟨_, _, rfl, h.1.1, h.1.2, h.2⟩
theorem inv_asSrc {M : MC} {a : List Expr} {i : Nat} {as : As} (h : mAs M (.src i as) a = true) : ∃ x p xs, a = .Name x p :: xs ∧ M.vis i x = true ∧ mAs M as xs = true := by
  cases a <;> (try simp only [mAs, Bool.and_eq_true, decide_eq_true_eq, Bool.false_eq_true, and_false, false_and, Bool.not_eq_true'] at h)
  rename_i x xs
  cases x <;> (try simp only [mAs, Bool.and_eq_true, decide_eq_true_eq, Bool.false_eq_true, and_false, false_and, Bool.not_eq_true'] at h)
  exact ⟨_, _, _, rfl, h.1, h.2⟩
theorem inv_asNil {M : MC} {a : List Expr} (h : mAs M (.nil) a = true) : a = [] := by
  cases a <;> (try simp only [mAs, Bool.and_eq_true, decide_eq_true_eq, Bool.false_eq_true, and_false, false_and, Bool.not_eq_true'] at h)
  rfl
theorem inv_oNo {M : MC} {a : Option Expr} (h : mO M (.no) a = true) : a = none := by
  cases a <;> (try simp only [mO, Bool.and_eq_true, decide_eq_true_eq, Bool.false_eq_true, and_false, false_and, Bool.not_eq_true'] at h)
  rfl
theorem inv_oSome {M : MC} {a : Option Expr} {e : E} (h : mO M (.some e) a = true) : ∃ x, a = some x ∧ mE M e x = true := by
  cases a <;> (try simp only [mO, Bool.and_eq_true, decide_eq_true_eq, Bool.false_eq_true, and_false, false_and, Bool.not_eq_true'] at h)
  exact ⟨_, rfl, h⟩
theorem inv_tsNil {M : MC} {a : List Expr} (h : mTs M (.nil) a = true) : a = [] := by
  cases a <;> (try simp only [mTs, Bool.and_eq_true, decide_eq_true_eq, Bool.false_eq_true, and_false, false_and, Bool.not_eq_true'] at h)
  rfl
theorem inv_tsCons {M : MC} {a : List Expr} {t : T} {ts : Ts} (h : mTs M (.cons t ts) a = true) : ∃ x xs, a = x :: xs ∧ mT M t x = true ∧ mTs M ts xs = true := by
  cases a <;> (try simp only [mTs, Bool.and_eq_true, decide_eq_true_eq, Bool.false_eq_true, and_false, false_and, Bool.not_eq_true'] at h)
  exact ⟨_, _, rfl, h.1, h.2⟩
mutual
theorem sE : ∀ (e : E) {M : MC} {X : Cx} {a : Expr} (b : Bool), HX M n P X → mE M e a = true → PE X a (tE X.w X.K P b e)
  | .non, M, X, a, b, hx, h => by obtain ⟨j, p, rfl⟩ := inv_non h; exact c_non
  | .bl v, M, X, a, b, hx, h => by obtain ⟨j, p, rfl⟩ := inv_bl h; exact c_bl
  | .int v, M, X, a, b, hx, h => by obtain ⟨j, p, rfl⟩ := inv_int h; exact c_int
  | .str v, M, X, a, b, hx, h => by obtain ⟨j, p, rfl⟩ := inv_str h; exact c_str
  | .var i, M, X, a, b, hx, h => by obtain ⟨x, p, rfl, h⟩ := inv_var h; exact c_var hx h
  | .view i, M, X, a, b, hx, h => by obtain ⟨x, p, rfl, h⟩ := inv_view h; exact c_view hx h
  | .gint x i, M, X, a, b, hx, h => by obtain ⟨y, p, rfl, h1, h2, h3⟩ := inv_gint h; exact c_gint hx h1 h2 h3
  | .tup es, M, X, a, b, hx, h => by obtain ⟨xs, j, p, rfl, h⟩ := inv_tup h; exact c_tup (sEs es hx h)
  | .lst es, M, X, a, b, hx, h => by obtain ⟨xs, p, rfl, h⟩ := inv_lst h; exact c_lst (sEs es hx h)
  | .bin o a1 c1, M, X, a, b, hx, h => by obtain ⟨x, y, p, rfl, h1, h2⟩ := inv_bin h; exact c_bin (sE a1 true hx h1) (sE c1 true hx h2)
  | .neg a1, M, X, a, b, hx, h => by obtain ⟨x, p, rfl, h⟩ := inv_neg h; exact c_neg (sE a1 true hx h)
  | .cmp o a1 c1, M, X, a, b, hx, h => by obtain ⟨x, y, p, rfl, h0, h1, h2⟩ := inv_cmp h; exact c_cmp hx h0 (sE a1 true hx h1) (sE c1 true hx h2)
  | .isN a1, M, X, a, b, hx, h => by obtain ⟨x, j, q, p, rfl, h⟩ := inv_isN h; exact c_isN (sE a1 true hx h)
  | .notN a1, M, X, a, b, hx, h => by obtain ⟨x, j, q, p, rfl, h⟩ := inv_notN h; exact c_notN (sE a1 true hx h)
  | .and a1 c1, M, X, a, b, hx, h => by obtain ⟨x, y, r, p, rfl, h1, h2⟩ := inv_and h; exact c_and (p2 := p) (sE a1 true hx h1) (unOne_ok (sE c1 true hx h2))
  | .or a1 c1, M, X, a, b, hx, h => by obtain ⟨x, y, r, p, rfl, h1, h2⟩ := inv_or h; exact c_or (p2 := p) (sE a1 true hx h1) (unOne_ok (sE c1 true hx h2))
  | .nota a1, M, X, a, b, hx, h => by obtain ⟨x, p, rfl, h⟩ := inv_nota h; exact c_nota (sE a1 true hx h)
  | .ifx t a1 c1, M, X, a, b, hx, h => by obtain ⟨x, y, z, p, rfl, h0, h1, h2⟩ := inv_ifx h; exact c_ifx (sT t hx h0) (sE a1 b hx h1) (sE c1 b hx h2)
  | .idx a1 c1, M, X, a, b, hx, h => by obtain ⟨x, y, p, rfl, h0, h1, h2⟩ := inv_idx h; exact c_idx h0 (sE a1 true hx h1) (sE c1 true hx h2)
  | .slc a1 lo hi, M, X, a, b, hx, h => by obtain ⟨x, l, u, q, p, rfl, h0, h1, h2⟩ := inv_slc h; exact c_slc (sE a1 true hx h0) (sO lo hx h1) (sO hi hx h2)
  | .call f as, M, X, a, b, hx, h => by obtain ⟨x, q, es, p, rfl, h1, h2, h3, h4⟩ := inv_call h; exact c_call hx h1 h2 h3 (mAs_no h4).1 (mAs_no h4).2 (sAs as hx h4)
  | .pick i a1, M, X, a, b, hx, h => by
    obtain ⟨x, q, y, r, z, p, rfl, h1, h2, h3, h4⟩ := inv_pick h
    obtain ⟨rfl, hg⟩ := hx.bltn h1
    exact c_pick hx hg h2 h3 (sE a1 true hx h4)
  | .order i a1, M, X, a, b, hx, h => by
    obtain ⟨x, q, y, r, z, p, rfl, h1, h2, h3, h4⟩ := inv_order h
    obtain ⟨rfl, hg⟩ := hx.bltn h1
    exact c_order hx hg h2 h3 (sE a1 true hx h4)
  | .b1 o a1, M, X, a, b, hx, h => by
    obtain ⟨x, q, y, p, rfl, h1, h2, h3⟩ := inv_b1 h
    obtain ⟨rfl, hg⟩ := hx.bltn h1
    exact c_b1 hx hg h2 (sE a1 true hx h3)
  | .b2 o a1 c1, M, X, a, b, hx, h => by
    obtain ⟨x, q, y, z, p, rfl, h1, h2, h3, h4, h5⟩ := inv_b2 h
    obtain ⟨rfl, hg⟩ := hx.bltn h1
    exact c_b2 hx hg h2 h3 (sE a1 true hx h4) (sE c1 true hx h5)
  | .join z a1, M, X, a, b, hx, h => by
    obtain ⟨k, q, apos, y, p, rfl, h1, h2, h3⟩ := inv_join h
    exact c_join h1 h2 (sE a1 true hx h3)
  | .comp tg it ts own e, M, X, a, b, hx, h => by
    obtain ⟨el, tx, ix, ifs, scope, p, rfl, h1, h2, h3, h4, h5, h6, h7, h8, h9⟩ := inv_comp h
    exact c_comp hx (sIt it tx true hx h2) h1 h3 h4 h7 (fun _ _ _ _ _ => tg_ok tg (blk_hx hx) h6) (fun _ _ _ _ _ => sTc ts (blk_hx hx) h5 h8) fun _ _ _ _ _ => sE e false (blk_hx hx) h9
  | .emp, M, X, a, b, hx, h => by
    obtain ⟨p, rfl⟩ := inv_emp h
    exact c_emp
  | .get a1 k d, M, X, a, b, hx, h => by
    obtain ⟨x, p, apos, y, z, cpos, rfl, h1, h2, h3, h4, h5, h6⟩ := inv_get h
    exact c_get hx h1 h2 h3 (sE a1 true hx h4) (sE k false hx h5) (sE d false hx h6)
  | .sortS a1 m, M, X, a, b, hx, h => by
    obtain ⟨f, p0, x, ps, y, p1, j, p2, p3, p4, sc, lp, kp, p, rfl, h1, h2, h3, h4, h5⟩ := inv_sortS h
    obtain ⟨rfl, hg⟩ := hx.bltn h2
    exact c_sortS hx h1 hg h3 h4 (sE a1 true hx h5)
  | .sset a1, M, X, a, b, hx, h => by
    obtain ⟨f, p1, g, p2, x, p3, p, rfl, h1, h2, h3, h4⟩ := inv_sset h
    obtain ⟨rfl, g1⟩ := hx.bltn h1
    obtain ⟨rfl, g2⟩ := hx.bltn h2
    exact c_sset hx g1 g2 h3 (sE a1 true hx h4)
theorem sEs : ∀ (es : Es) {M : MC} {X : Cx} {a : List Expr}, HX M n P X → mEs M es a = true → PA X a (tEs X.w X.K P es)
  | .nil, M, X, a, hx, h => by obtain rfl := inv_esNil h; exact c_esNil
  | .cons e es, M, X, a, hx, h => by obtain ⟨x, xs, rfl, h0, h1, h2⟩ := inv_esCons h; exact c_esCons h0 (sE e false hx h1) (sEs es hx h2)
  | .star e es, M, X, a, hx, h => by obtain ⟨x, p, xs, rfl, h1, h2⟩ := inv_esStar h; exact c_esStar (sE e true hx h1) (sEs es hx h2)
theorem sO : ∀ (o : Oe) {M : MC} {X : Cx} {a : Option Expr}, HX M n P X → mO M o a = true → PO X a (tO X.w X.K P o)
  | .no, M, X, a, hx, h => by obtain rfl := inv_oNo h; exact c_oNo
  | .some e, M, X, a, hx, h => by obtain ⟨x, rfl, h⟩ := inv_oSome h; exact c_oSome (sE e true hx h)
theorem sAs : ∀ (as : As) {M : MC} {X : Cx} {a : List Expr}, HX M n P X → mAs M as a = true → PA X a (tAs X.w X.K P as)
  | .nil, M, X, a, hx, h => by obtain rfl := inv_asNil h; exact c_asNil
  | .cons e as, M, X, a, hx, h => by obtain ⟨x, xs, rfl, h0, h1, h2⟩ := inv_asCons h; exact c_asCons h0 (sE e false hx h1) (sAs as hx h2)
  | .src i as, M, X, a, hx, h => by obtain ⟨x, p, xs, rfl, h1, h2⟩ := inv_asSrc h; exact c_asSrc hx h1 (sAs as hx h2)
theorem sT : ∀ (t : T) {M : MC} {X : Cx} {a : Expr}, HX M n P X → mT M t a = true → PT X a (tT X.w X.K P t)
  | .ev e, M, X, a, hx, h => by
    simp only [mT, Bool.and_eq_true] at h
    exact c_tev h.1 (sE e true hx h.2)
  | .cmp o a1 c1, M, X, a, hx, h => by obtain ⟨x, y, p, rfl, h0, h1, h2⟩ := inv_tcmp h; exact c_tcmp hx h0 (sE a1 true hx h1) (sE c1 true hx h2)
  | .chain o o' a1 c1 z1, M, X, a, hx, h => by obtain ⟨x, y, z, p, rfl, h0, h1, h2, h3⟩ := inv_tchain h; exact c_tchain hx h0 (sE a1 true hx h1) (sE c1 true hx h2) (sE z1 true hx h3)
  | .isN a1, M, X, a, hx, h => by obtain ⟨x, j, q, p, rfl, h⟩ := inv_tisN h; exact c_tisN (sE a1 true hx h)
  | .notN a1, M, X, a, hx, h => by obtain ⟨x, j, q, p, rfl, h⟩ := inv_tnotN h; exact c_tnotN (sE a1 true hx h)
  | .not t, M, X, a, hx, h => by obtain ⟨x, p, rfl, h⟩ := inv_tnot h; exact c_tnot (sT t hx h)
  | .and ts, M, X, a, hx, h => by obtain ⟨xs, p, rfl, h0, h⟩ := inv_tand h; exact c_tand (sTa ts p hx h0 h)
  | .or ts, M, X, a, hx, h => by obtain ⟨xs, p, rfl, h0, h⟩ := inv_tor h; exact c_tor (sTo ts p hx h0 h)
theorem sTa : ∀ (ts : Ts) {M : MC} {X : Cx} {a : List Expr} (p : Pos), HX M n P X → a ≠ [] → mTs M ts a = true → PW X (.BoolOp .And a p) (tTs X.w X.K P ts)
  | .nil, M, X, a, p, hx, h0, h => (h0 (inv_tsNil h)).elim
  | .cons t .nil, M, X, a, p, hx, h0, h => by
    obtain ⟨x, xs, rfl, h1, h2⟩ := inv_tsCons h
    obtain rfl := inv_tsNil h2
    exact c_ts1 (sT t hx h1)
  | .cons t (.cons t2 ts), M, X, a, p, hx, h0, h => by
    obtain ⟨x, xs, rfl, h1, h2⟩ := inv_tsCons h
    have r := sTa (.cons t2 ts) p hx (fun z => by rw [z] at h2; simp [mTs] at h2) h2
    obtain ⟨y, ys, rfl, h3, h4⟩ := inv_tsCons h2
    exact c_ts2 (sT t hx h1) r
theorem sTo : ∀ (ts : Ts) {M : MC} {X : Cx} {a : List Expr} (p : Pos), HX M n P X → a ≠ [] → mTs M ts a = true → PW X (.BoolOp .Or a p) (tTo X.w X.K P ts)
  | .nil, M, X, a, p, hx, h0, h => (h0 (inv_tsNil h)).elim
  | .cons t .nil, M, X, a, p, hx, h0, h => by
    obtain ⟨x, xs, rfl, h1, h2⟩ := inv_tsCons h
    obtain rfl := inv_tsNil h2
    exact c_to1 (sT t hx h1)
  | .cons t (.cons t2 ts), M, X, a, p, hx, h0, h => by
    obtain ⟨x, xs, rfl, h1, h2⟩ := inv_tsCons h
    have r := sTo (.cons t2 ts) p hx (fun z => by rw [z] at h2; simp [mTs] at h2) h2
    obtain ⟨y, ys, rfl, h3, h4⟩ := inv_tsCons h2
    exact c_to2 (sT t hx h1) r
theorem sTc : ∀ (ts : Ts) {M : MC} {X : Cx} {a : List Expr}, HX M n P X → a.length ≤ 1 → mTs M ts a = true → PTs X a (tTs X.w X.K P ts)
  | .nil, M, X, a, hx, h0, h => by obtain rfl := inv_tsNil h; exact c_tsNil
  | .cons t .nil, M, X, a, hx, h0, h => by
    obtain ⟨x, xs, rfl, h1, h2⟩ := inv_tsCons h
    obtain rfl := inv_tsNil h2
    exact c_tsOne (sT t hx h1)
  | .cons t (.cons t2 ts), M, X, a, hx, h0, h => by
    obtain ⟨x, xs, rfl, h1, h2⟩ := inv_tsCons h
    obtain ⟨y, ys, rfl, h3, h4⟩ := inv_tsCons h2
    simp at h0
theorem sIt : ∀ (it : It) {M : MC} {X : Cx} {a : Expr} (tg : Expr) (b : Bool), HX M n P X → mIt M it a = true → PI X tg a (tIt X.w X.K P b it)
  | .seq e, M, X, a, tg, b, hx, h => by
    simp only [mIt] at h
    exact c_iseq (sE e b hx h)
  | .range1 a1, M, X, a, tg, b, hx, h => by
    obtain ⟨x, q, y, p, rfl, h1, h2, h3⟩ := inv_range1 h
    obtain ⟨rfl, hg⟩ := hx.bltn h1
    exact c_irange1 hx hg h2 (sE a1 true hx h3)
  | .range2 a1 c1, M, X, a, tg, b, hx, h => by
    obtain ⟨x, q, y, z, p, rfl, h1, h2, h3, h4, h5⟩ := inv_range2 h
    obtain ⟨rfl, hg⟩ := hx.bltn h1
    exact c_irange2 hx hg h2 h3 (sE a1 true hx h4) (sE c1 true hx h5)
end
end
end DL
end
section
set_option Elab.async false
set_option linter.all false
set_option maxRecDepth 100000
set_option maxHeartbeats 4000000
/-! DL12: what is new: lists of one's own; slots set. -/
namespace DL
open PySem PySem.Spec PyProof.Rows L2
def frE : E → Bool
  | .lst _ => true
  | .comp .. => true
  | .bin .. => true
  | .b1 .list_ _ => true
  | .slc .. => true
  | .emp => true
  | _ => false
def tF (w : World) (K : PySem.W.Frag) (P : Fs) (e : E) : TE := fun σ H Q => ∃ (C : DC P.T) (ad : Nat → Addr) (env : Env') (s : Src), Gd w K C ad σ H env s ∧ Wp (evE P false e env s) fun d s' => mutD d = true ∧ ∀ p H', Kp C.loc H H' → SrcAt C.loc H' s' → H p = none → OwAt w K (Bs (C.plus p) env ad H') H' p d → Q (.ref p) H'
section
variable {Tt : Tb} {w : World} {K : PySem.W.Frag} {C : DC Tt} {ad : Nat → Addr} {σ : L2.St} {H H' H1 : Hp} {env : Env'} {s s' : Src} {v : V} {d : D} {i : Nat} {p : Addr} {o : HO}
theorem Gd.plusBs (G : Gd w K C ad σ H env s) (hp : H p = none) (k : Same H H') : Same (Bs C env ad H) (Bs (C.plus p) env ad H') := fun a u e => by
  obtain ⟨h1, h2⟩ := msk_of e
  have ha : a ≠ p := ne_of_none h2 hp
  refine msk_some (fun z => ?_) (k _ _ h2)
  rcases z with (z | z) | z
  · exact h1 (.inl z)
  · exact ha z
  · exact h1 (.inr z)
/-- what an operation gives is new -/
theorem Gd.outF {Q : VK} (G : Gd w K C ad σ H env s) (hm : mutD d = true) (q : ∀ p H', Kp C.loc H H' → SrcAt C.loc H' s → H p = none → OwAt w K (Bs (C.plus p) env ad H') H' p d → Q (.ref p) H') : Out true w K (Bs C env ad H) H d Q := fun v H' sm r f => by
  obtain ⟨p, o, rfl, hp, rfl, ow⟩ := f rfl hm
  exact q p _ (Kp.of sm) (G.src.same sm) hp (ow.mono (G.plusBs hp sm) (Same.refl _))
end
section
variable {X : Cx} {M : MC} {n : Nat} {P : Fs}
theorem f_two {F : D → D → Option D} {a c : E} {σ : L2.St} {H : Hp} {Q : VK} {e : E} (he : ∀ env s, evE P false e env s = (evE P true a env s).bind fun p => (evE P true c env p.2).bind fun q => (F p.1 q.1).map fun d => (d, q.2))
    (h : tF X.w X.K P e σ H Q) : tOp (r2D true X.w X.K F) (tE X.w X.K P true a) (tE X.w X.K P true c) σ H Q := by
  obtain ⟨C, ad, env, s, G, W⟩ := h
  rw [he, Wp.bind] at W
  refine tE.go G (W.mono fun d1 s1 W1 v1 H1 k1 G1 r1 => ?_)
  rw [Wp.bind] at W1
  refine tE.go G1 (W1.mono fun d2 s2 W2 v2 H2 k2 G2 r2 => ?_)
  obtain ⟨d, hd, hm, q⟩ := Wp.map.mp W2
  refine ⟨_, d1, d2, d, G2.sub, (r1.mono (G1.bs k2) k2).fl, r2.fl, hd, G2.outF hm fun p H' k3 q3 hp o => ?_⟩
  have n1 : ¬ C.loc.mem p := fun z => by have := G2.oT _ (G2.om _ z); rw [hp] at this; cases this
  exact q p H' (k1.trans (k2.trans k3)) q3 (fresh_kp G (k1.trans k2) n1 hp) o
theorem f_one {F : D → Option D} {a : E} {σ : L2.St} {H : Hp} {Q : VK} {e : E} (he : ∀ env s, evE P false e env s = (evE P true a env s).bind fun p => (F p.1).map fun d => (d, p.2))
    (h : tF X.w X.K P e σ H Q) : tE X.w X.K P true a σ H fun v1 H1 => r1D true X.w X.K F v1 H1 Q := by
  obtain ⟨C, ad, env, s, G, W⟩ := h
  rw [he, Wp.bind] at W
  refine tE.go G (W.mono fun d1 s1 W1 v1 H1 k1 G1 r1 => ?_)
  obtain ⟨d, hd, hm, q⟩ := Wp.map.mp W1
  refine ⟨_, d1, d, G1.sub, r1.fl, hd, G1.outF hm fun p H' k3 q3 hp o => ?_⟩
  have n1 : ¬ C.loc.mem p := fun z => by have := G1.oT _ (G1.om _ z); rw [hp] at this; cases this
  exact q p H' (k1.trans k3) q3 (fresh_kp G k1 n1 hp) o
theorem sF {e : E} {a : Expr} (hx : HX M n P X) (hf : frE e = true) (h : mE M e a = true) : PE X a (tF X.w X.K P e) := by
  cases e <;> first | (cases hf; done) | skip
  case lst es =>
    obtain ⟨xs, p, rfl, h⟩ := inv_lst h
    refine PE.weak (pe_lst (sEs es hx h)) fun σ H Q ⟨C, ad, env, s, G, W⟩ => ?_
    simp only [evE] at W
    rw [Wp.bind] at W
    refine ⟨C, ad, env, s, G, W.mono fun ds s1 W1 vs H1 k1 q1 r1 => ?_⟩
    obtain ⟨hl, W1⟩ := Wp.ite.mp W1
    have G1 := G.ext k1 q1
    refine ⟨by rw [r1.length]; exact lim_le hl, fun p hp => ?_⟩
    have n1 : ¬ C.loc.mem p := fun z => by have := G1.oT _ (G1.om _ z); rw [hp] at this; cases this
    exact (Wp.some.mp W1).2 p _ (k1.trans (Kp.of (Same.upd hp))) (q1.same (Same.upd hp)) (fresh_kp G k1 n1 hp) ⟨vs, upd_same, r1.mono (G1.plusBs hp (Same.upd hp))⟩
  case emp =>
    obtain ⟨p, rfl⟩ := inv_emp h
    refine PE.weak pe_dnewE fun σ H Q ⟨C, ad, env, s, G, W⟩ p hp hs => ?_
    simp only [evE] at W
    exact (Wp.some.mp W).2 p _ (Kp.of (Same.upd hp)) (G.src.same (Same.upd hp)) hp ⟨[], hs, Nat.zero_le _, upd_same, .nil⟩
  case bin o e1 e2 =>
    obtain ⟨x, y, p, rfl, h1, h2⟩ := inv_bin h
    exact PE.weak (pe_op (ok_op2 o) (sE e1 true hx h1) (sE e2 true hx h2)) fun σ H Q h => f_two (fun env s => by simp only [evE]) h
  case slc e1 lo hi =>
    obtain ⟨x, l, u, q, p, rfl, h0, h1, h2⟩ := inv_slc h
    refine PE.weak (pe_slice ok_slice (sE e1 true hx h0) (sO lo hx h1) (sO hi hx h2)) fun σ H Q ⟨C, ad, env, s, G, W⟩ => ?_
    simp only [evE] at W
    rw [Wp.bind] at W
    refine tE.go G (W.mono fun d1 s1 W1 v1 H1 k1 G1 r1 => ?_)
    rw [Wp.bind] at W1
    refine ⟨C, ad, env, s1, G1, W1.mono fun o s2 W2 H2 k2 q2 => ?_⟩
    have G2 := G1.ext k2 q2
    rw [Wp.bind] at W2
    refine ⟨C, ad, env, s2, G2, W2.mono fun o' s3 W3 H3 k3 q3 => ?_⟩
    have G3 := G2.ext k3 q3
    obtain ⟨d, hd, hm, q⟩ := Wp.map.mp W3
    refine ⟨_, d1, d, G3.sub, (r1.mono (G1.bs (k2.trans k3)) (k2.trans k3)).fl, hd, G3.outF hm fun p H' k4 q4 hp o => ?_⟩
    have n1 : ¬ C.loc.mem p := fun z => by have := G3.oT _ (G3.om _ z); rw [hp] at this; cases this
    exact q p H' (k1.trans (k2.trans (k3.trans k4))) q4 (fresh_kp G (k1.trans (k2.trans k3)) n1 hp) o
  case b1 o e1 =>
    cases o <;> first | (cases hf; done) | skip
    obtain ⟨x, q, y, p, rfl, h1, h2, h3⟩ := inv_b1 h
    obtain ⟨rfl, hg⟩ := hx.bltn h1
    have main : ∀ σ H Q, tF X.w X.K P (.b1 .list_ e1) σ H Q → tCB (rcD1 true X.w X.K listF) (tCons (tE X.w X.K P true e1) tNil) σ H Q := fun σ H Q h => by
      obtain ⟨C, ad, env, s, G, W⟩ := f_one (a := e1) (F := listF) (fun env s => by simp only [evE, B1.F]) h
      exact ⟨C, ad, env, s, G, W.mono fun d s1 k v H1 k1 q1 r1 => ⟨v, rfl, k v H1 k1 q1 r1⟩⟩
    exact PE.weak (pe_callTy (ok_b1 (X := X) hx.calm .list_) hg (hx.blt _ (b1_blt .list_)) (b1_boot .list_) (pa_cons (sE e1 true hx h3) pa_nil (star_no h2)) (by decide +kernel) (by decide +kernel) (star_no h2) rfl) main
  case comp tg it ts own e1 =>
    obtain ⟨el, tx, ix, ifs, scope, p, rfl, h1, h2, h3, h4, h5, h6, h7, h8, h9⟩ := inv_comp h
    have ok : BlkOk X.N X.env.scope scope (own.map fun i => (M.N.getD i "", i)) := by
      rw [hx.N, hx.sc]
      exact blkOk_by h4
    have ev : ((own.map fun i => (M.N.getD i "", i)).map (·.2)) = own := by
      rw [List.map_map]
      exact List.map_id' own
    have key := pe_lc (pos := p) (g := gTg X.K tg) (tt := tTs X.w X.K P ts) (te := tE X.w X.K P false e1) hx.calm hx.nd (sIt it tx true hx h2) ok (fun _ _ _ _ _ => tg_ok tg (blk_hx hx) h6) (fun _ _ _ _ _ => sTc ts (blk_hx hx) h5 h8) (fun _ _ _ _ _ => sE e1 false (blk_hx hx) h9) (set_of h1)
    rw [ev] at key
    exact PE.weak key fun σ H Q ⟨C, ad, env, s, G, W⟩ => comp_go h7 G (W.mono fun d s' k m => k.2)
end

/-! ### slots set -/
section
variable {Tt : Tb} {w : World} {K : PySem.W.Frag} {C : DC Tt} {ad : Nat → Addr} {σ : L2.St} {H H' H1 : Hp} {env env' : Env'} {s s' : Src} {v : V} {d : D} {i : Nat} {p : Addr} {o : HO}
def setA (ad : Nat → Addr) (i : Nat) (p : Addr) : Nat → Addr := fun j => if j = i then p else ad j
/-- more addresses hidden -/
def DC.plusL {Tt : Tb} (C : DC Tt) (ps : List Addr) : DC Tt := { C with O := fun a => C.O a ∨ a ∈ ps }
theorem get_set {i j : Nat} {z y : Slot} (e : (env.set i z)[j]? = some y) : (j = i ∧ i < env.length ∧ y = z) ∨ (j ≠ i ∧ env[j]? = some y) := by
  by_cases h : i = j
  · subst h
    by_cases hl : i < env.length
    · rw [List.getElem?_set_self hl] at e
      cases e
      exact .inl ⟨rfl, hl, rfl⟩
    · rw [List.getElem?_eq_none (by rw [List.length_set]; omega)] at e
      cases e
  · rw [List.getElem?_set_ne h] at e
    exact .inr ⟨fun q => h q.symm, e⟩
theorem setOw_bs {ps : List Addr} : Same (Bs (C.plusL (p :: ps)) env ad H) (Bs (C.plusL ps) (env.set i (.ow d)) (setA ad i p) H) := msk_same (fun a h => by
  rcases h with (h | h) | ⟨j, e, h1, h2⟩
  · exact .inl (.inl h)
  · exact .inl (.inr (List.mem_cons_of_mem _ h))
  · rcases get_set h1 with ⟨rfl, _, _⟩ | ⟨hj, h1⟩
    · unfold setA at h2
      rw [if_pos rfl] at h2
      exact .inl (.inr (by rw [← h2]; exact List.mem_cons_self))
    · unfold setA at h2
      rw [if_neg hj] at h2
      exact .inr ⟨j, e, h1, h2⟩) fun _ _ _ e => e
theorem Gd.setOw {ps : List Addr} (G : Gd w K (C.plusL (p :: ps)) ad σ H env s) (hps : p ∉ ps) (g1 : ∀ a, C.loc.mem a → C.O a) (h0 : C.H0 p = none) (hO : ¬ C.O p) (r : OwAt w K (Bs (C.plusL (p :: ps)) env ad H) H p d) :
    Gd w K (C.plusL ps) (setA ad i p) (σ.set i (some (.ref p))) H (env.set i (.ow d)) s where
  src := G.src
  om := fun a h => .inl (g1 a h)
  oT := fun a h => G.oT a (h.elim .inl fun h => .inr (List.mem_cons_of_mem _ h))
  kp := G.kp
  on := fun j e h => by
    rcases get_set h with ⟨rfl, _, q⟩ | ⟨hj, h⟩
    · unfold setA
      rw [if_pos rfl]
      exact ⟨h0, fun z => z.elim hO hps⟩
    · unfold setA
      rw [if_neg hj]
      exact ⟨(G.on j e h).1, fun z => (G.on j e h).2 (z.elim .inl fun h => .inr (List.mem_cons_of_mem _ h))⟩
  inj := fun j k e f h1 h2 q => by
    unfold setA at q
    by_cases hj : j = i
    · by_cases hk : k = i
      · rw [hj, hk]
      · rw [if_pos hj, if_neg hk] at q
        rcases get_set h2 with ⟨z, _, _⟩ | ⟨_, h4⟩
        · exact (hk z).elim
        · exact ((G.on k f h4).2 (.inr (by rw [← q]; exact List.mem_cons_self))).elim
    · rcases get_set h1 with ⟨z, _, _⟩ | ⟨_, h3⟩
      · exact (hj z).elim
      · by_cases hk : k = i
        · rw [if_neg hj, if_pos hk] at q
          exact ((G.on j e h3).2 (.inr (by rw [q]; exact List.mem_cons_self))).elim
        · rw [if_neg hj, if_neg hk] at q
          rcases get_set h2 with ⟨z, _, _⟩ | ⟨_, h4⟩
          · exact (hk z).elim
          · exact G.inj j k e f h3 h4 q
  len := by rw [List.length_set, List.length_set]; exact G.len
  sl := fun j z e => by
    rcases get_set e with ⟨rfl, hl, rfl⟩ | ⟨hj, e⟩
    · rw [List.getElem?_set_self (by rw [G.len]; exact hl)]
      unfold setA
      rw [if_pos rfl]
      exact ⟨rfl, r.keep setOw_bs fun _ h => h⟩
    · rw [List.getElem?_set_ne (Ne.symm hj)]
      have q := G.sl j _ e
      unfold setA
      rw [if_neg hj]
      cases z with
      | no => trivial
      | sh d => obtain ⟨v, h1, h2⟩ := q; exact ⟨v, h1, h2.mono setOw_bs⟩
      | sr => exact q
      | ow d => exact ⟨q.1, q.2.keep setOw_bs fun o h => h⟩

/-! ### values in a row, some of them new and one's own -/
inductive KR (w : World) (K : PySem.W.Frag) (B H : Hp) : List Bool → List V → List D → List Addr → Prop
  | nil : KR w K B H [] [] [] []
  | sh {ks : List Bool} {v : V} {vs : List V} {d : D} {ds : List D} {ps : List Addr} : Rl w K B v d → KR w K B H ks vs ds ps → KR w K B H (false :: ks) (v :: vs) (d :: ds) ps
  | ow {ks : List Bool} {vs : List V} {p : Addr} {d : D} {ds : List D} {ps : List Addr} : OwAt w K B H p d → KR w K B H ks vs ds ps → KR w K B H (true :: ks) (.ref p :: vs) (d :: ds) (p :: ps)
theorem KR.mono {B B' : Hp} {ks : List Bool} {vs : List V} {ds : List D} {ps : List Addr} (h : KR w K B H ks vs ds ps) (k : Same B B') (u : ∀ p ∈ ps, ∀ o, H p = some o → H' p = some o) : KR w K B' H' ks vs ds ps := by
  induction h with
  | nil => exact .nil
  | sh r _ ih => exact .sh (r.mono k) (ih u)
  | ow r _ ih => exact .ow (r.keep k fun o e => u _ List.mem_cons_self o e) (ih fun p hp o e => u p (List.mem_cons_of_mem _ hp) o e)
theorem KR.length {B : Hp} {ks : List Bool} {vs : List V} {ds : List D} {ps : List Addr} (h : KR w K B H ks vs ds ps) : vs.length = ks.length ∧ ds.length = ks.length := by
  induction h with
  | nil => exact ⟨rfl, rfl⟩
  | sh r _ ih => exact ⟨by simp [ih.1], by simp [ih.2]⟩
  | ow r _ ih => exact ⟨by simp [ih.1], by simp [ih.2]⟩
/-- the slots, values set from the left -/
def setS : List Nat → List V → L2.St → L2.St
  | i :: is, v :: vs, σ => setS is vs (σ.set i (some v))
  | _, _, σ => σ
/-- they are set -/
theorem setKs_ok : ∀ (ks : List (Bool × Nat)) {vs : List V} {ds : List D} {ps : List Addr} {ad : Nat → Addr} {σ : L2.St} {env env' : Env'} {B0 : Hp}, (∀ a, C.loc.mem a → C.O a) → Gd w K (C.plusL ps) ad σ H env s →
    KR w K (Bs (C.plusL ps) env ad H) H (ks.map (·.1)) vs ds ps → ps.Nodup → (∀ p ∈ ps, C.H0 p = none ∧ ¬ C.O p) → Same B0 (Bs (C.plusL ps) env ad H) → setKs ks ds env = some env' →
    ∃ ad', Gd w K C ad' (setS (ks.map (·.2)) vs σ) H env' s ∧ Same B0 (Bs C env' ad' H)
  | [], vs, ds, ps, ad, σ, env, env', B0, g1, G, kr, nd, h0, sb, e => by
    cases kr
    simp only [setKs] at e
    cases e
    have e1 : C.plusL [] = C := by
      unfold DC.plusL
      congr 1
      funext a
      simp
    rw [e1] at G sb
    exact ⟨ad, G, sb⟩
  | (false, i) :: ks, vs, ds, ps, ad, σ, env, env', B0, g1, G, kr, nd, h0, sb, e => by
    cases kr with
    | @sh _ _ _ d0 _ _ r kr =>
      simp only [setKs] at e
      obtain ⟨hl, e⟩ := if_some' e
      have b1 : Same (Bs (C.plusL ps) env ad H) (Bs (C.plusL ps) (env.set i (.sh d0)) ad H) := bs_set fun _ => noSh
      exact setKs_ok ks g1 (G.setSh r) (kr.mono b1 fun _ _ _ h => h) nd h0 (sb.trans b1) e
  | (true, i) :: ks, vs, ds, ps, ad, σ, env, env', B0, g1, G, kr, nd, h0, sb, e => by
    cases kr with
    | ow r kr =>
      simp only [setKs] at e
      obtain ⟨hl, e⟩ := if_some' e
      have nd2 := List.nodup_cons.mp nd
      exact setKs_ok ks g1 (G.setOw nd2.1 g1 (h0 _ List.mem_cons_self).1 (h0 _ List.mem_cons_self).2 r) (kr.mono setOw_bs fun _ _ _ h => h) nd2.2 (fun p hp => h0 p (List.mem_cons_of_mem _ hp)) (sb.trans setOw_bs) e
/-- arguments in a row: of some it is asked that they are new -/
def tKs (w : World) (K : PySem.W.Frag) (P : Fs) (ks : List Bool) (es : Es) : TA := fun σ H Q => ∃ (C : DC P.T) (ad : Nat → Addr) (env : Env') (s : Src), Gd w K C ad σ H env s ∧ Wp (evEs P es env s) fun ds s' =>
  (∀ (i : Nat) (d : D), ks[i]? = some true → ds[i]? = some d → mutD d = true) ∧ ∀ vs ps H', Kp C.loc H H' → SrcAt C.loc H' s' → Gd w K (C.plusL ps) ad σ H' env s' → KR w K (Bs (C.plusL ps) env ad H') H' ks vs ds ps → ps.Nodup → (∀ p ∈ ps, H p = none) → Same (Bs C env ad H) (Bs (C.plusL ps) env ad H') → Q vs H'
theorem plusL_nil : C.plusL [] = C := by
  unfold DC.plusL
  congr 1
  funext a
  simp
theorem plusL_one : C.plusL [p] = C.plus p := by
  unfold DC.plusL DC.plus
  congr 1
  funext a
  simp
theorem plusL_plus {ps : List Addr} : (C.plus p).plusL ps = C.plusL (p :: ps) := by
  unfold DC.plusL DC.plus
  congr 1
  funext a
  simp only [List.mem_cons, or_assoc]
end
def noStars : Es → Bool
  | .nil => true
  | .cons _ es => noStars es
  | .star _ _ => false
def frK : List Bool → Es → Bool
  | [], .nil => true
  | k :: ks, .cons e es => (!k || frE e) && frK ks es
  | _, _ => false
section
variable {X : Cx} {M : MC} {n : Nat} {P : Fs}
theorem sKs (hx : HX M n P X) : ∀ (ks : List Bool) (es : Es) {a : List Expr}, frK ks es = true → mEs M es a = true → PA X a (tKs X.w X.K P ks es)
  | [], .nil, a, hf, h => by
    obtain rfl := inv_esNil h
    refine PA.weak pa_nil fun σ H Q ⟨C, ad, env, s, G, W⟩ => ?_
    simp only [evEs] at W
    refine (Wp.some.mp W).2 [] [] H (Kp.refl _ _) G.src ?_ .nil List.nodup_nil (fun _ z => nomatch z) ?_
    · rw [plusL_nil]; exact G
    · rw [plusL_nil]; exact Same.refl _
  | [], .cons _ _, _, hf, _ => by simp [frK] at hf
  | [], .star _ _, _, hf, _ => by simp [frK] at hf
  | _ :: _, .nil, _, hf, _ => by simp [frK] at hf
  | _ :: _, .star _ _, _, hf, _ => by simp [frK] at hf
  | k :: ks, .cons e es, a, hf, h => by
    obtain ⟨x, xs, rfl, h0, h1, h2⟩ := inv_esCons h
    simp only [frK, Bool.and_eq_true, Bool.or_eq_true, Bool.not_eq_true'] at hf
    have ih := sKs hx ks es hf.2 h2
    cases k with
    | false =>
      refine PA.weak (pa_cons (sE e false hx h1) ih (star_no h0)) fun σ H Q ⟨C, ad, env, s, G, W⟩ => ?_
      simp only [evEs] at W
      rw [Wp.bind] at W
      refine tE.go G (W.mono fun d1 s1 W1 v1 H1 k1 G1 r1 => ?_)
      rw [Wp.bind] at W1
      refine ⟨C, ad, env, s1, G1, W1.mono fun ds s2 W2 => ?_⟩
      obtain ⟨m, q⟩ := Wp.some.mp W2
      refine ⟨fun i d hi hd => m (i + 1) d hi hd, fun vs ps H2 k2 q2 G2 kr nd hp sb => ?_⟩
      have hp' : ∀ p ∈ ps, H p = none := fun p hpm => by
        have hn := hp p hpm
        have n1 : ¬ C.loc.mem p := fun z => by have := G1.oT _ (G1.om _ z); rw [hn] at this; cases this
        exact fresh_kp G k1 n1 hn
      exact q (v1 :: vs) ps H2 (k1.trans k2) q2 G2 (.sh (Rl.mono sb r1) kr) nd hp' ((G.bs k1).trans sb)
    | true =>
      have hfe : frE e = true := by
        rcases hf.1 with z | z
        · cases z
        · exact z
      refine PA.weak (pa_cons (sF hx hfe h1) ih (star_no h0)) fun σ H Q ⟨C, ad, env, s, G, W⟩ => ?_
      simp only [evEs] at W
      rw [Wp.bind] at W
      refine ⟨C, ad, env, s, G, ?_⟩
      -- what the first gives is new: hidden while the others run
      obtain ⟨d1, s1, e1, W1⟩ := W
      rw [Wp.bind] at W1
      have W1' := W1
      obtain ⟨ds, s2, e2, W2⟩ := W1
      obtain ⟨m, q⟩ := Wp.some.mp W2
      refine ⟨d1, s1, e1, m 0 d1 rfl rfl, fun p H1 k1 q1 hp o1 => ?_⟩
      have n1 : ¬ C.loc.mem p := fun z => by have := G.oT _ (G.om _ z); rw [hp] at this; cases this
      have hnh : ∀ a, hid C env ad a → a ≠ p := fun a h z => by
        have := G.hidS h
        rw [z, hp] at this
        cases this
      have G1 := G.ext k1 q1
      have sbp : Same (Bs C env ad H) (Bs (C.plus p) env ad H1) := fun a o e => by
        obtain ⟨m1, m2⟩ := msk_of e
        have ha : a ≠ p := ne_of_none m2 hp
        refine msk_some (fun z => ?_) (k1 a o (G.ne1 m1) m2)
        rcases z with (z | z) | z
        · exact m1 (.inl z)
        · exact ha z
        · exact m1 (.inr z)
      have GP : Gd X.w X.K (C.plus p) ad σ H1 env s1 := {
        src := q1
        om := fun a h => .inl (G.om a h)
        oT := fun a h => by
          rcases h with h | h
          · exact G1.oT a h
          · rw [h]; exact o1.some
        kp := G1.kp
        on := fun i d e => ⟨(G.on i d e).1, fun z => z.elim (G.on i d e).2 fun q => hnh _ (.inr ⟨i, d, e, rfl⟩) q⟩
        inj := G.inj
        len := G.len
        sl := fun i z e => by
          have r := G.sl i z e
          cases z with
          | no => trivial
          | sh d => obtain ⟨v, h1, h2⟩ := r; exact ⟨v, h1, h2.mono sbp⟩
          | sr => exact r
          | ow d => exact ⟨r.1, r.2.keep sbp fun u h => k1 _ u (G.ownNe e) h⟩ }
      refine ⟨C.plus p, ad, env, s1, GP, ds, s2, e2, fun i d hi hd => m (i + 1) d hi hd, fun vs ps H2 k2 q2 G2 kr nd hps sb => ?_⟩
      rw [plusL_plus] at G2 kr sb
      have hps' : ∀ a ∈ ps, H a = none := fun a ha => by
        have hn := hps a ha
        have n1 : ¬ C.loc.mem a := fun z => by have := GP.oT _ (GP.om _ z); rw [hn] at this; cases this
        exact fresh_kp G k1 n1 hn
      refine q (.ref p :: vs) (p :: ps) H2 (k1.trans k2) q2 G2 (.ow (o1.keep sb fun o h => k2 p o n1 h) kr) (List.nodup_cons.mpr ⟨fun z => ?_, nd⟩) (fun a ha => ?_) (sbp.trans sb)
      · have := hps p z
        have h1 := o1.some
        rw [this] at h1
        cases h1
      · rcases List.mem_cons.mp ha with rfl | ha
        · exact hp
        · exact hps' a ha
end
end DL
end
section
set_option Elab.async false
set_option linter.all false
set_option maxRecDepth 100000
set_option maxHeartbeats 4000000
/-! DL13: statements. -/
namespace DL
open PySem PySem.Spec PyProof.Rows L2
section
variable (w : World) (K : PySem.W.Frag)
/-- what is wanted behind a statement, by how it ends -/
def Go {Tt : Tb} (C : DC Tt) (B0 : Hp) (D : Ends) (r : Fw × Env') (s' : Src) : Prop := ∀ σ' H' ad', Gd w K C ad' σ' H' r.2 s' → Same B0 (Bs C r.2 ad' H') → match r.1 with
  | .next => D.nx σ' H'
  | .ret d => ∀ v, Rl w K (Bs C r.2 ad' H') v d → D.rt v H'
  | .brk => D.bk σ' H'
  | .cont => D.ct σ' H'
def tS (P : Fs) (st : S) : TS := fun D σ H => ∃ (C : DC P.T) (ad : Nat → Addr) (env : Env') (s : Src), Gd w K C ad σ H env s ∧ Wp (evS P st env s) (Go w K C (Bs C env ad H) D)
def tSs (P : Fs) (ss : Ss) : TS := fun D σ H => ∃ (C : DC P.T) (ad : Nat → Addr) (env : Env') (s : Src), Gd w K C ad σ H env s ∧ Wp (evSs P ss env s) (Go w K C (Bs C env ad H) D)
end
theorem PS.weak {X : Cx} {st : Stmt} {t t' : TS} (h : PS X st t) (k : ∀ D σ H, t' D σ H → t D σ H) : PS X st t' := ⟨fun pins s σ H D I q => h.run pins s σ H D I (k D σ H q)⟩
theorem PSs.weak {X : Cx} {st : List Stmt} {t t' : TS} (h : PSs X st t) (k : ∀ D σ H, t' D σ H → t D σ H) : PSs X st t' := ⟨fun pins s σ H D I q => h.run pins s σ H D I (k D σ H q)⟩

/-! ### which stores are swapped -/
def isSt : Expr → Bool
  | .Starred .. => true
  | _ => false
def swOne (sc : Scope) (l : Nat) : Expr → Option Str
  | .Name id pos => if sc.names.lookup id == some .local && pos.line == l then some id else none
  | _ => none
def swNames (sc : Scope) (ts : List Expr) : List Str := ts.filterMap (swOne sc ((ts.head?.map (·.pos.line)).getD 0))
/-- true: the stores are swapped; false: they are not; none: not known -/
def pairMode (sc : Scope) (ts vs : List Expr) : Option Bool :=
  if !(ts.length == 2 || ts.length == 3) || vs.length != ts.length then some false
  else if vs.any isSt then some false
  else if (swNames sc ts).length != ts.length || (swNames sc ts).eraseDups.length != (swNames sc ts).length then some false
  else if vs.all (foldedForSure 8) then some false
  else if vs.all (constantsAlone 8) then none
  else some true
theorem isSt_eq : (fun (x : Expr) => match x with | .Starred .. => true | _ => false) = isSt := by
  funext x
  cases x <;> rfl
theorem sw_stores {env : Env} {ts vs : List Expr} {k k2 : Nat} {p p2 : Pos} (hk : env.scope.kind = .function) :
    (pairMode env.scope ts vs = some true → swappedStores [.Tuple ts k p] (.Tuple vs k2 p2) env = pure (some (swNames env.scope ts))) ∧
    (pairMode env.scope ts vs = some false → swappedStores [.Tuple ts k p] (.Tuple vs k2 p2) env = pure none) := by
  have hb : env.blockKind = .function := by unfold Env.blockKind; rw [hk]; rfl
  have e : swappedStores [.Tuple ts k p] (.Tuple vs k2 p2) env = (if !(ts.length == 2 || ts.length == 3) || vs.length != ts.length || env.blockKind != .function then return none
    else if vs.any isSt then return none
    else if (swNames env.scope ts).length != ts.length || (swNames env.scope ts).eraseDups.length != (swNames env.scope ts).length then return none
    else if vs.all (foldedForSure 8) then return none
    else do
      if vs.all (constantsAlone 8) then unsupported "assign.tuple-of-constant-expressions:order-of-the-stores"
      return some (swNames env.scope ts)) := by
    have q : swNames env.scope ts = ts.filterMap fun
      | .Name id pos => if env.kindOf id == some .local && pos.line == (ts.head?.map (·.pos.line)).getD 0 then some id else none
      | _ => none := by
      unfold swNames
      congr 1
    rw [q]
    rfl
  rw [e, hb]
  unfold pairMode
  constructor
  · intro h
    split at h
    · cases h
    · rename_i h1
      split at h
      · cases h
      · rename_i h2
        split at h
        · cases h
        · rename_i h3
          split at h
          · cases h
          · rename_i h4
            split at h
            · cases h
            · rename_i h5
              have h1' : (!(ts.length == 2 || ts.length == 3) || vs.length != ts.length || ScopeKind.function != ScopeKind.function) = false := by
                rw [Bool.or_eq_false_iff]
                exact ⟨by simpa using h1, by decide⟩
              rw [if_neg (by rw [h1']; decide), if_neg h2, if_neg h3, if_neg h4, if_neg h5]
  · intro h
    split at h
    · rename_i h1
      rw [if_pos (by rw [h1]; rfl)]
    · rename_i h1
      have h1' : (!(ts.length == 2 || ts.length == 3) || vs.length != ts.length || ScopeKind.function != ScopeKind.function) = false := by
        rw [Bool.or_eq_false_iff]
        exact ⟨by simpa using h1, by decide⟩
      rw [if_neg (by rw [h1']; decide)]
      split at h
      · rename_i h2
        rw [if_pos h2]
      · rename_i h2
        rw [if_neg h2]
        split at h
        · rename_i h3
          rw [if_pos h3]
        · rename_i h3
          rw [if_neg h3]
          split at h
          · rename_i h4
            rw [if_pos h4]
          · split at h <;> cases h
end DL
end
section
set_option Elab.async false
set_option linter.all false
set_option maxRecDepth 100000
set_option maxHeartbeats 4000000
/-! DL14: each statement. -/
namespace DL
open PySem PySem.Spec PyProof.Rows L2
/-! ### list.extend by a list or a tuple -/
section
open PySem.AutoSeq1 MeetsSeq MeetsSeq2 MeetsSeq3 SeqRoads2
theorem ext_tup (p : Addr) (xs : Array Value) (m : Nat) (q : Addr) (ys : Array Value) (k : Nat) (dd : Option Addr) (sl : Array (Option Value)) (z0 : ¬(!xs.isEmpty && Builtin.List.listTooLong (xs.size + ys.size)) = true) (z1 : xs.size ≤ sizeLine) (z2 : xs.size + ys.size ≤ sizeLine + 1) :
    Meets (Builtin.«list.extend» ⟨[.ref p, .ref q], []⟩) (fun _ R s => s.heap.get? p = some { cls := .type "list", dict := none, data := .seq xs m, slots := #[] } ∧
      s.heap.get? q = some { cls := .type "tuple", dict := dd, data := .seq ys k, slots := sl } ∧ R (.ok (.ret Value.none)) { s with heap := s.heap.update p (Obj.mapSeq fun v => v ++ ys), toks := s.toks }) :=
  .of_wp fun prog w A R s hh => by
    obtain ⟨a1, a2, a3, a4, a5⟩ := s
    obtain ⟨e1, e2, hh⟩ := hh
    have g1 := AutoSeq1.idx_int
    have g2 := AutoSeq1.sub_tuple_tuple
    have g3 := AutoSeq1.sub_list_list
    have g4 := AutoSeq1.sub_tuple_list
    have g5 := AutoSeq1.sub_list_tuple
    have z3 : (xs ++ ys).size ≤ sizeLine + 1 := by rw [Array.size_append]; exact z2
    wp_walk using (wpAny_updateSeq e1 rfl (hz := z1) (_hz' := z3)), wpAny_loadPart' e1, wpAny_loadPart' e2
    exact ⟨_, rfl, hh⟩
end
def rExt (K : PySem.W.Frag) : V → List V → Hp → VK → Prop := fun x vs H Q => ∃ l b xs zs, x = .ref l ∧ vs = [.ref b] ∧ H l = some (.lst xs) ∧ (H b = some (.lst zs) ∨ SqT K H b zs) ∧ xs.length + zs.length ≤ sizeLine ∧ Q .non (upd H l (.lst (xs ++ zs)))
theorem mt_ext {X : Cx} : MtM X "list.extend" (rExt X.K) := by
  intro pins s σ H x vs v us Q I rx rv h
  obtain ⟨l, b, xs, zs, rfl, rfl, hH, hB, hz, q⟩ := h
  rcases hB with hB | hB
  · exact mt_extend pins s σ H _ _ v us Q I rx rv ⟨l, b, xs, zs, rfl, rfl, hH, hB, hz, q⟩
  · cases rx
    obtain ⟨u, rfl, ru⟩ := rv.one
    cases ru
    obtain ⟨z, its, n, r, hl, e⟩ := I.lstM hH
    obtain ⟨its2, r2, ⟨⟨cls, dd, dat, sl⟩, e2, hc, n2, hd⟩, hz2⟩ := I.tuple hB
    simp only at hc hd
    subst hc hd
    have hl2 := r2.length
    have hsz : its.toArray.size + its2.toArray.size ≤ sizeLine := by rw [List.size_toArray, List.size_toArray]; omega
    have hlong : ¬ (!its.toArray.isEmpty && Builtin.List.listTooLong (its.toArray.size + its2.toArray.size)) = true := by
      rw [notLongL hsz, Bool.and_false]
      exact Bool.false_ne_true
    refine call_meets F.slot_list_extend ⟨_, e, rfl⟩ F.entry_list_extend (F.args_list_extend_2 _ _) (ext_tup l its.toArray n b its2.toArray n2 dd sl hlong (by rw [List.size_toArray]; omega) (by omega)) ⟨e, e2, ?_⟩
    refine ⟨.non, _, I.lset (its' := its ++ its2) hH e (by simp) (r.append r2) ?_, rfl, q⟩
    rw [List.length_append]
    omega

/-! ### the text of statements -/
def isComp : Expr → Bool
  | .ListComp .. => true
  | .SetComp .. => true
  | .DictComp .. => true
  | _ => false
/-- name = [..], the store taken into the comprehension -/
def swapT (M : MC) : Expr → Expr → Bool
  | .Name y py, .ListComp _ _ sc p => (match M.sc.names.lookup y with | some .local => true | _ => false) && (py.line == p.line) && !(sc.names.any fun (n, k) => n == y && (k == .local || k == .cell))
  | _, _ => false
def noSwap (M : MC) (t v : Expr) : Bool := !isComp v || (match t, v with
  | .Name y py, .ListComp _ _ sc p => (match M.sc.names.lookup y with | some .local => false | some .cell => true | _ => false)
  | .Tuple .., _ => true
  | _, _ => false)
def noPair : Expr → Expr → Bool
  | .Tuple .., .Tuple .. => false
  | .List .., .Tuple .. => false
  | _, _ => true
def mNames (M : MC) : List Nat → List Expr → Bool
  | [], [] => true
  | i :: is, .Name x _ :: ts => M.sto i x && mNames M is ts
  | _, _ => false
def augOk : Op2 → Bool
  | .add => true
  | .sub => true
  | _ => false
mutual
def mS (M : MC) : S → Stmt → Bool
  | .asg tg e, .Assign [t] v _ => mTg M tg t && mE M e v && noPair t v && notStar t && (noSwap M t v || swapT M t v)
  | .own i e, .Assign [.Name x p] v _ => M.sto i x && frE e && mE M e v && (noSwap M (.Name x p) v || swapT M (.Name x p) v)
  | .par ks es, .Assign [.Tuple ts _ _] (.Tuple vs _ _) _ => mNames M (ks.map (·.2)) ts && decide (ks.map (·.2)).Nodup && frK (ks.map (·.1)) es && mEs M es vs && decide (ts.length ≤ 1000) &&
      (match pairMode M.sc ts vs with
        | some true => true
        | some false => true
        | none => false)
  | .aug i o e, .AugAssign (.Name x _) op v _ => M.sto i x && decide (op = o.op) && augOk o && mE M e v
  | .app i e, .Expr (.Call (.Attribute (.Name x _) nm apos) [v] [] cpos) _ => M.vis i x && decide (nm = ("append" : Str)) && (apos.endLine == cpos.line) && notStar v && mE M e v
  | .ext i e, .Expr (.Call (.Attribute (.Name x _) nm apos) [v] [] cpos) _ => M.vis i x && decide (nm = ("extend" : Str)) && (apos.endLine == cpos.line) && notStar v && mE M e v
  | .seti i k e, .Assign [.Subscript (.Name x _) ix _] v _ => M.vis i x && !isSlc ix && mE M e v && mE M k ix
  | .iff t a c, .If x y z _ => mT M t x && mSs M a y && mSs M c z
  | .for_ tg it body, .For tx ix y [] _ => !setIt ix && mTg M tg tx && mIt M it ix && mSs M body y
  | .whil _ t body, .While x y [] _ => mT M t x && mSs M body y
  | .ret e, .Return (some v) _ => mE M e v
  | .retN, .Return none _ => true
  | .pass, .Pass _ => true
  | .pass, .Expr (.Constant (.str _) _ _) _ => true
  | .brk, .Break _ => true
  | .cont, .Continue _ => true
  | _, _ => false
def mSs (M : MC) : Ss → List Stmt → Bool
  | .nil, [] => true
  | .cons (.frz _) ss, l => mSs M ss l
  | .cons st ss, a :: l => mS M st a && mSs M ss l
  | _, _ => false
end
section
variable {X : Cx} {M : MC} {n : Nat} {P : Fs} {pos : Pos}
theorem noSwap_ok {M : MC} {t v : Expr} {l : Nat} {env : Env} (hs : env.scope = M.sc) (h : noSwap M t v = true) : swapsWithSole [t] v l env = pure false := by
  show swapsWith v (some t) l env = pure false
  unfold noSwap at h
  rw [Bool.or_eq_true] at h
  rcases h with h | h
  · cases v <;> first | rfl | (simp [isComp] at h; done)
  · split at h
    · rename_i y py _ _ sc p
      have hk : env.kindOf y = some .cell := by
        show env.scope.names.lookup y = _
        rw [hs]
        split at h <;> first | (cases h; done) | assumption
      unfold swapsWith
      simp only [hk]
      have q1 : (some NameKind.cell == some NameKind.local) = false := by decide
      rw [q1, Bool.and_false, Bool.false_and, Bool.false_and]
    · cases v <;> rfl
    · cases h
theorem sub_swap {o i v : Expr} {p : Pos} {l : Nat} {env : Env} : swapsWithSole [.Subscript o i p] v l env = pure false := by
  show swapsWith v (some (.Subscript o i p)) l env = pure false
  cases v <;> rfl
theorem HX.swap_asg (hx : HX M n P X) {t v : Expr} {l : Nat} (h : noSwap M t v = true) : swapsWithSole [t] v l X.env = pure false := noSwap_ok hx.sc h
theorem pair_no {t v : Expr} {env : Env} (h : noPair t v = true) : swappedStores [t] v env = pure none := by
  cases t <;> cases v <;> first | rfl | (simp [noPair] at h; done)
theorem asg_one {t : Expr} {env : Env} (h : notStar t = true) : (assignEach [t] env).map (·.2) = [assign t env] := by
  rw [assignEach_no h]
  rfl
theorem swapT_inv {t v : Expr} (h : swapT M t v = true) : ∃ y py el gs sc p, t = .Name y py ∧ v = .ListComp el gs sc p ∧ M.sc.names.lookup y = some .local ∧ (py.line == p.line) = true ∧ (sc.names.any fun (n, k) => n == y && (k == .local || k == .cell)) = false := by
  unfold swapT at h
  split at h
  · rename_i y py el gs sc p
    simp only [Bool.and_eq_true, Bool.not_eq_true'] at h
    refine ⟨y, py, el, gs, sc, p, rfl, rfl, ?_, h.1.2, h.2⟩
    have h1 := h.1.1
    split at h1
    · assumption
    · cases h1
  · cases h
/-- name = [..], the store taken into the comprehension -/
theorem asg_comp {e : E} {y : Str} {py : Pos} {v : Expr} {i : Nat} {R : TS} (hx : HX M n P X) (hsc : X.env.scope.kind = .function) (hs : M.sto i y = true) (hm : mE M e v = true) (hw : swapT M (.Name y py) v = true)
    (hR : ∀ D σ H, R D σ H → ∃ (C : DC P.T) (ad : Nat → Addr) (env : Env') (s : Src), Gd X.w X.K C ad σ H env s ∧ Wp (evE P false e env s) fun d s' => mutD d = true → ∀ p H', Kp C.loc H H' → SrcAt C.loc H' s' → H p = none → OwAt X.w X.K (Bs (C.plus p) env ad H') H' p d → D.nx (σ.set i (some (.ref p))) H') :
    PS X (.Assign [.Name y py] v pos) R := by
  obtain ⟨y', py', el, gs, sc, p, e1, e2, hl, hln, hany⟩ := swapT_inv hw
  cases e1
  subst e2
  cases e <;> first | (simp only [mE, Bool.false_eq_true] at hm; done) | skip
  rename_i tg it ts own e
  obtain ⟨el', tx, ix, ifs, scope, p', e3, h1, h2, h3, h4, h5, h6, h7, h8, h9⟩ := inv_comp hm
  cases e3
  have ok : BlkOk X.N X.env.scope sc (own.map fun i => (M.N.getD i "", i)) := by
    rw [hx.N, hx.sc]
    exact blkOk_by h4
  have ev : ((own.map fun i => (M.N.getD i "", i)).map (·.2)) = own := by
    rw [List.map_map]
    exact List.map_id' own
  have hy : X.env.scope.names.lookup y = some .local := by rw [hx.sc]; exact hl
  have key := ps_setLc (i := i) (y := y) (py := py) (spos := pos) (pos := p) (g := gTg X.K tg) (tt := tTs X.w X.K P ts) (te := tE X.w X.K P false e) hx.calm hx.nd (sto_ok hx hs).1 hy (sw_true hsc hy hln hany) (sIt it tx true hx h2) ok
    (fun _ _ _ _ _ => tg_ok tg (blk_hx hx) h6) (fun _ _ _ _ _ => sTc ts (blk_hx hx) h5 h8) (fun _ _ _ _ _ => sE e false (blk_hx hx) h9) (set_of h1)
  rw [ev] at key
  refine PS.weak key fun D σ H h => ?_
  obtain ⟨C, ad, env, s, G, W⟩ := hR D σ H h
  exact comp_go h7 G W
/-- behind a name's store -/
theorem Gd.fr_sh {Tt : Tb} {w : World} {K : PySem.W.Frag} {C : DC Tt} {ad : Nat → Addr} {σ : L2.St} {H H' : Hp} {env : Env'} {s s' : Src} {p : Addr} {d : D} (G : Gd w K C ad σ H env s) (hp : H p = none) (o : OwAt w K (Bs (C.plus p) env ad H') H' p d) : Rl w K (Bs C env ad H') (.ref p) d :=
  o.rl (msk_same (fun a h => h.elim (fun z => .inl (.inl z)) fun z => .inr z) fun _ _ _ e1 => e1) fun o h => msk_some (fun z => by
    have := G.hidS z
    rw [hp] at this
    cases this) h
/-- a new list becomes one's own -/
theorem Gd.fr_ow {Tt : Tb} {w : World} {K : PySem.W.Frag} {C : DC Tt} {ad : Nat → Addr} {σ : L2.St} {H H' : Hp} {env : Env'} {s s' : Src} {p : Addr} {d : D} {i : Nat} (G : Gd w K C ad σ H env s) (k : Kp C.loc H H') (q : SrcAt C.loc H' s') (hp : H p = none) (o : OwAt w K (Bs (C.plus p) env ad H') H' p d) :
    Gd w K C (setA ad i p) (σ.set i (some (.ref p))) H' (env.set i (.ow d)) s' ∧ Same (Bs C env ad H) (Bs C (env.set i (.ow d)) (setA ad i p) H') := by
  have n1 : ¬ C.loc.mem p := fun z => by have := G.oT _ (G.om _ z); rw [hp] at this; cases this
  have hnh : ∀ a, hid C env ad a → a ≠ p := fun a h z => by
    have := G.hidS h
    rw [z, hp] at this
    cases this
  have G1 := G.ext k q
  have sbp : Same (Bs C env ad H) (Bs (C.plus p) env ad H') := fun a o e => by
    obtain ⟨m1, m2⟩ := msk_of e
    have ha : a ≠ p := ne_of_none m2 hp
    refine msk_some (fun z => ?_) (k a o (G.ne1 m1) m2)
    rcases z with (z | z) | z
    · exact m1 (.inl z)
    · exact ha z
    · exact m1 (.inr z)
  have GP : Gd w K (C.plus p) ad σ H' env s' := {
    src := q
    om := fun a h => .inl (G.om a h)
    oT := fun a h => by
      rcases h with h | h
      · exact G1.oT a h
      · rw [h]; exact o.some
    kp := G1.kp
    on := fun i d e => ⟨(G.on i d e).1, fun z => z.elim (G.on i d e).2 fun q => hnh _ (.inr ⟨i, d, e, rfl⟩) q⟩
    inj := G.inj
    len := G.len
    sl := fun i z e => by
      have r := G.sl i z e
      cases z with
      | no => trivial
      | sh d => obtain ⟨v, h1, h2⟩ := r; exact ⟨v, h1, h2.mono sbp⟩
      | sr => exact r
      | ow d => exact ⟨r.1, r.2.keep sbp fun u h => k _ u (G.ownNe e) h⟩ }
  rw [← plusL_one] at GP o sbp
  have h0 : C.H0 p = none := by
    cases z : C.H0 p with
    | none => rfl
    | some u =>
      have := G.kp p u n1 z
      rw [hp] at this
      cases this
  have r := GP.setOw (i := i) (List.not_mem_nil) G.om h0 (fun z => hnh p (.inl z) rfl) o
  have r2 := sbp.trans (setOw_bs (i := i) (d := d))
  rw [plusL_nil] at r r2
  exact ⟨r, r2⟩
theorem c_asg {tg : Tg} {e : E} {t v : Expr} (hx : HX M n P X) (hsc : X.env.scope.kind = .function) (h1 : mTg M tg t = true) (h2 : mE M e v = true) (h3 : noPair t v = true) (h4 : notStar t = true) (h5 : noSwap M t v = true ∨ swapT M t v = true) : PS X (.Assign [t] v pos) (tS X.w X.K P (.asg tg e)) := by
  rcases h5 with h5 | h5
  · refine PS.weak (ps_asg (sE e false hx h2) (tg_ok tg hx h1) (hx.swap_asg h5) (pair_no h3) (asg_one h4)) fun D σ H ⟨C, ad, env, s, G, W⟩ => ?_
    simp only [evS] at W
    rw [Wp.bind] at W
    refine tE.go G (W.mono fun d1 s1 W1 v1 H1 k1 G1 r1 => ?_)
    obtain ⟨env', hb, q⟩ := Wp.map.mp W1
    exact bind_ok tg G1 r1 hb fun σ' G' _ sb => q σ' H1 ad G' ((G.bs k1).trans sb)
  · obtain ⟨y, py, el, gs, sc, p, rfl, _⟩ := swapT_inv h5
    cases tg with
    | many ts => simp [mTg] at h1
    | one i =>
      simp only [mTg] at h1
      refine asg_comp hx hsc h1 h2 h5 fun D σ H ⟨C, ad, env, s, G, W⟩ => ?_
      simp only [evS] at W
      rw [Wp.bind] at W
      refine ⟨C, ad, env, s, G, W.mono fun d s1 W1 m p H1 k1 q1 hp o => ?_⟩
      obtain ⟨env', hb, q⟩ := Wp.map.mp W1
      simp only [bindTg] at hb
      obtain ⟨hl, rfl⟩ := if_some hb
      have G1 := G.ext k1 q1
      have r := G.fr_sh (s' := s1) hp o
      exact q _ H1 ad (G1.setSh r) ((G.bs k1).trans (bs_set fun _ => noSh))
theorem c_own {i : Nat} {e : E} {y : Str} {py : Pos} {v : Expr} (hx : HX M n P X) (hsc : X.env.scope.kind = .function) (h1 : M.sto i y = true) (hf : frE e = true) (h2 : mE M e v = true) (h5 : noSwap M (.Name y py) v = true ∨ swapT M (.Name y py) v = true) : PS X (.Assign [.Name y py] v pos) (tS X.w X.K P (.own i e)) := by
  have main : ∀ (D : Ends) (σ : L2.St) (H : Hp), tS X.w X.K P (.own i e) D σ H → ∃ (C : DC P.T) (ad : Nat → Addr) (env : Env') (s : Src), Gd X.w X.K C ad σ H env s ∧ Wp (evE P false e env s) fun d s' => mutD d = true ∧ ∀ p H', Kp C.loc H H' → SrcAt C.loc H' s' → H p = none → OwAt X.w X.K (Bs (C.plus p) env ad H') H' p d → D.nx (σ.set i (some (.ref p))) H' := fun D σ H ⟨C, ad, env, s, G, W⟩ => by
    simp only [evS] at W
    rw [Wp.bind] at W
    refine ⟨C, ad, env, s, G, W.mono fun d s1 W1 => ?_⟩
    obtain ⟨env', hb, q⟩ := Wp.map.mp W1
    simp only [setKs] at hb
    obtain ⟨⟨hl, hm⟩, hb⟩ := if_some' hb
    cases hb
    refine ⟨hm, fun p H1 k1 q1 hp o => ?_⟩
    obtain ⟨g1, g2⟩ := G.fr_ow (i := i) k1 q1 hp o
    exact q _ H1 _ g1 g2
  rcases h5 with h5 | h5
  · refine PS.weak (ps_asg (g := gName i) (sF hx hf h2) (pg_name hx.nd (sto_ok hx h1).1 (sto_ok hx h1).2.1 (sto_ok hx h1).2.2) (hx.swap_asg h5) (by cases v <;> rfl) rfl) fun D σ H h => ?_
    exact main D σ H h
  · refine asg_comp hx hsc h1 h2 h5 fun D σ H h => ?_
    obtain ⟨C, ad, env, s, G, W⟩ := main D σ H h
    exact ⟨C, ad, env, s, G, W.mono fun d s' k _ => k.2⟩
end
end DL
end
section
set_option Elab.async false
set_option linter.all false
set_option maxRecDepth 100000
set_option maxHeartbeats 4000000
/-! DL15: more statements, and all of them. -/
namespace DL
open PySem PySem.Spec PyProof.Rows L2
section
variable {X : Cx} {M : MC} {n : Nat} {P : Fs} {pos : Pos}
/-! ### several names at once -/
theorem mNames_inv : ∀ {is : List Nat} {ts : List Expr}, mNames M is ts = true → is.length = ts.length ∧ (∀ t ∈ ts, ∃ x p, t = .Name x p)
  | [], [], _ => ⟨rfl, fun _ h => nomatch h⟩
  | [], _ :: _, h => by simp [mNames] at h
  | _ :: _, [], h => by simp [mNames] at h
  | i :: is, t :: ts, h => by
    cases t <;> simp only [mNames, Bool.false_eq_true] at h
    rw [Bool.and_eq_true] at h
    obtain ⟨h1, h2⟩ := mNames_inv h.2
    refine ⟨by rw [List.length_cons, List.length_cons, h1], fun t ht => ?_⟩
    rcases List.mem_cons.mp ht with rfl | ht
    · exact ⟨_, _, rfl⟩
    · exact h2 t ht
def gNames : List Nat → TGs
  | [] => gNil
  | i :: is => gCons (gName i) (gNames is)
theorem pgs_names (hx : HX M n P X) : ∀ {is : List Nat} {ts : List Expr}, mNames M is ts = true → PGs X ts (gNames is)
  | [], [], _ => pgs_nil
  | [], _ :: _, h => by simp [mNames] at h
  | _ :: _, [], h => by simp [mNames] at h
  | i :: is, t :: ts, h => by
    cases t <;> simp only [mNames, Bool.false_eq_true] at h
    rw [Bool.and_eq_true] at h
    obtain ⟨h1, h2, h3⟩ := sto_ok hx h.1
    exact pgs_cons (pg_name hx.nd h1 h2 h3) (pgs_names hx h.2) rfl
theorem names_go : ∀ {is : List Nat} {vs : List V} {σ : L2.St} {H : Hp} {Q : L2.St → Hp → Prop}, is.length = vs.length → Q (setS is vs σ) H → gNames is vs σ H Q
  | [], [], σ, H, Q, _, q => ⟨rfl, q⟩
  | [], _ :: _, _, _, _, e, _ => by simp at e
  | _ :: _, [], _, _, _, e, _ => by simp at e
  | i :: is, v :: vs, σ, H, Q, e, q => ⟨v, vs, rfl, names_go (by simpa using e) q⟩
theorem names_each {env : Env} : ∀ {ts : List Expr}, (∀ t ∈ ts, ∃ x p, t = Expr.Name x p) → (assignEach ts env).length = ts.length ∧ (assignEach ts env).findIdx? (·.1) = none
  | [], _ => ⟨rfl, rfl⟩
  | t :: ts, h => by
    obtain ⟨x, p, rfl⟩ := h t List.mem_cons_self
    obtain ⟨h1, h2⟩ := names_each (env := env) fun t ht => h t (List.mem_cons_of_mem _ ht)
    rw [assignEach_no (e := .Name x p) rfl]
    refine ⟨by rw [List.length_cons, h1, List.length_cons], ?_⟩
    rw [List.findIdx?_cons]
    simp only [Bool.false_eq_true, if_false, h2, Option.map_none]
theorem pair_false {ts : List Expr} {k k2 : Nat} {p p2 : Pos} {vs : List Expr} {l : Nat} {env : Env} : swapsWithSole [.Tuple ts k p] (.Tuple vs k2 p2) l env = pure false := rfl
theorem setKs_mut : ∀ (ks : List (Bool × Nat)) {ds : List D} {env env' : Env'} {i : Nat} {d : D}, setKs ks ds env = some env' → (ks.map (·.1))[i]? = some true → ds[i]? = some d → mutD d = true
  | [], _, _, _, _, _, _, h, _ => by simp at h
  | (false, j) :: ks, ds, env, env', i, d, e, h1, h2 => by
    cases ds with
    | nil => simp [setKs] at e
    | cons d0 ds =>
      simp only [setKs] at e
      obtain ⟨_, e⟩ := if_some' e
      cases i with
      | zero => simp at h1
      | succ i => exact setKs_mut ks e (by simpa using h1) (by simpa using h2)
  | (true, j) :: ks, ds, env, env', i, d, e, h1, h2 => by
    cases ds with
    | nil => simp [setKs] at e
    | cons d0 ds =>
      simp only [setKs] at e
      obtain ⟨hm, e⟩ := if_some' e
      cases i with
      | zero =>
        simp at h2
        rw [← h2]
        exact hm.2
      | succ i => exact setKs_mut ks e (by simpa using h1) (by simpa using h2)
theorem sw_names {sc : Scope} {l : Nat} : ∀ {ts : List Expr}, (∀ t ∈ ts, ∃ x p, t = Expr.Name x p) → (ts.filterMap (swOne sc l)).length = ts.length → (∀ x p, Expr.Name x p ∈ ts → sc.names.lookup x = some .local) ∧
    ts.filterMap (swOne sc l) = ts.map fun | .Name x _ => x | _ => ""
  | [], _, _ => ⟨fun _ _ h => (by cases h), rfl⟩
  | t :: ts, hn, hl => by
    obtain ⟨y, py, rfl⟩ := hn t List.mem_cons_self
    rw [List.filterMap_cons] at hl ⊢
    have hle := List.length_filterMap_le (swOne sc l) ts
    by_cases hc : (sc.names.lookup y == some .local && py.line == l) = true
    · have e1 : swOne sc l (.Name y py) = some y := by
        show (if _ then _ else _) = _
        rw [if_pos hc]
      rw [e1] at hl ⊢
      simp only [List.length_cons] at hl
      obtain ⟨h1, h2⟩ := sw_names (sc := sc) (l := l) (ts := ts) (fun t ht => hn t (List.mem_cons_of_mem _ ht)) (by omega)
      refine ⟨fun x p hm => ?_, by rw [List.map_cons, ← h2]⟩
      rcases List.mem_cons.mp hm with e | hm
      · cases e
        rw [Bool.and_eq_true] at hc
        exact eq_of_beq hc.1
      · exact h1 x p hm
    · have e1 : swOne sc l (.Name y py) = none := by
        show (if _ then _ else _) = _
        rw [if_neg hc]
      rw [e1] at hl
      simp only [List.length_cons] at hl
      omega
theorem pair_true {sc : Scope} {ts vs : List Expr} (h : pairMode sc ts vs = some true) (hn : ∀ t ∈ ts, ∃ x p, t = Expr.Name x p) : (ts.length = 2 ∨ ts.length = 3) ∧ vs.length = ts.length ∧ (∀ x p, Expr.Name x p ∈ ts → sc.names.lookup x = some .local) ∧ swNames sc ts = ts.map fun | .Name x _ => x | _ => "" := by
  unfold pairMode at h
  split at h
  · cases h
  · rename_i h1
    split at h
    · cases h
    · split at h
      · cases h
      · rename_i h3
        rw [Bool.or_eq_true, not_or] at h1 h3
        have a1 : (ts.length == 2 || ts.length == 3) = true := by
          have := h1.1
          cases z : (ts.length == 2 || ts.length == 3)
          · rw [z] at this
            exact (this rfl).elim
          · rfl
        have a2 : vs.length = ts.length := by
          have := h1.2
          simpa using this
        have a3 : (swNames sc ts).length = ts.length := by
          have := h3.1
          simpa using this
        rw [Bool.or_eq_true] at a1
        obtain ⟨b1, b2⟩ := sw_names hn (show (ts.filterMap (swOne sc _)).length = ts.length from a3)
        exact ⟨a1.imp eq_of_beq eq_of_beq, a2, b1, b2⟩
theorem c_par {ks : List (Bool × Nat)} {es : Es} {ts vs : List Expr} {k k2 : Nat} {p p2 : Pos} (hx : HX M n P X) (hsc : X.env.scope.kind = .function) (h1 : mNames M (ks.map (·.2)) ts = true) (hnd : (ks.map (·.2)).Nodup) (hf : frK (ks.map (·.1)) es = true)
    (h2 : mEs M es vs = true) (hl : ts.length ≤ 1000) (hp : pairMode M.sc ts vs = some true ∨ pairMode M.sc ts vs = some false) : PS X (.Assign [.Tuple ts k p] (.Tuple vs k2 p2) pos) (tS X.w X.K P (.par ks es)) := by
  obtain ⟨hlen, hnames⟩ := mNames_inv h1
  have hpa := sKs hx (ks.map (·.1)) es hf h2
  have main : ∀ (D : Ends) (σ : L2.St) (H : Hp), tS X.w X.K P (.par ks es) D σ H → tKs X.w X.K P (ks.map (·.1)) es σ H fun vs H1 => vs.length = ts.length ∧ ∀ H2, Same H1 H2 → D.nx (setS (ks.map (·.2)) vs σ) H2 := fun D σ H ⟨C, ad, env, s, G, W⟩ => by
    simp only [evS] at W
    rw [Wp.bind] at W
    refine ⟨C, ad, env, s, G, W.mono fun ds s1 W1 => ?_⟩
    obtain ⟨env', hb, q⟩ := Wp.map.mp W1
    refine ⟨?_, fun vs ps H1 k1 q1 G1 kr nd hps sb => ⟨by rw [kr.length.1, ← hlen]; simp, fun H2 sm => ?_⟩⟩
    · exact fun i d => setKs_mut ks hb
    · have h0 : ∀ p ∈ ps, C.H0 p = none ∧ ¬ C.O p := fun p hp => by
        have hn := hps p hp
        have n1 : ¬ C.loc.mem p := fun z => by have := G.oT _ (G.om _ z); rw [hn] at this; cases this
        refine ⟨?_, fun z => by have := G.oT p z; rw [hn] at this; cases this⟩
        cases z : C.H0 p with
        | none => rfl
        | some u =>
          have := G.kp p u n1 z
          rw [hn] at this
          cases this
      have G2 := G1.ext (Kp.of sm) (G1.src.same sm)
      have sb2 := G1.bs (Kp.of sm)
      obtain ⟨ad', G3, sb3⟩ := setKs_ok ks G.om G2 (kr.mono sb2 fun p hp o e => sm _ _ e) nd h0 (sb.trans sb2) hb
      exact q _ H2 ad' G3 sb3
  rcases hp with hp | hp
  · -- swapped: two or three names
    have hw := (sw_stores (env := X.env) (ts := ts) (vs := vs) (k := k) (k2 := k2) (p := p) (p2 := p2) hsc).1 (by rw [hx.sc]; exact hp)
    obtain ⟨hl2, hv, hloc, hsw⟩ := pair_true hp hnames
    rw [hx.sc, hsw] at hw
    rcases hl2 with hl2 | hl2
    · obtain ⟨t1, t2, rfl⟩ : ∃ t1 t2, ts = [t1, t2] := by
        rcases ts with _ | ⟨t1, _ | ⟨t2, _ | ⟨_, _⟩⟩⟩ <;> simp at hl2
        exact ⟨_, _, rfl⟩
      obtain ⟨x1, p1, rfl⟩ := hnames t1 (by simp)
      obtain ⟨x2, q2, rfl⟩ := hnames t2 (by simp)
      obtain ⟨v1, v2, rfl⟩ : ∃ v1 v2, vs = [v1, v2] := by
        rcases vs with _ | ⟨t1, _ | ⟨t2, _ | ⟨_, _⟩⟩⟩ <;> simp at hv
        exact ⟨_, _, rfl⟩
      obtain ⟨k1, k2', rfl⟩ : ∃ k1 k2', ks = [k1, k2'] := by
        rw [List.length_map] at hlen
        rcases ks with _ | ⟨t1, _ | ⟨t2, _ | ⟨_, _⟩⟩⟩ <;> simp at hlen
        exact ⟨_, _, rfl⟩
      simp only [List.map_cons, List.map_nil, mNames, Bool.and_eq_true] at h1
      have l1 := hloc x1 p1 (by simp)
      have l2 := hloc x2 q2 (by simp)
      refine PS.weak (ps_par (i := k1.2) (j := k2'.2) hx.calm hx.nd (sto_ok hx h1.1).1 (sto_ok hx h1.2.1).1 (by simpa using hnd) (by rw [hx.sc]; exact l1) (by rw [hx.sc]; exact l2) hpa hw rfl) fun D σ H h => ?_
      obtain ⟨C, ad, env, s, G, W⟩ := main D σ H h
      refine ⟨C, ad, env, s, G, W.mono fun ds s1 ⟨m, q⟩ => ⟨m, fun vs ps H1 g1 g2 g3 kr nd hps sb => ?_⟩⟩
      obtain ⟨e1, e2⟩ := q vs ps H1 g1 g2 g3 kr nd hps sb
      rcases vs with _ | ⟨u1, _ | ⟨u2, _ | ⟨_, _⟩⟩⟩ <;> simp at e1
      exact ⟨u1, u2, rfl, e2 H1 (Same.refl _)⟩
    · obtain ⟨t1, t2, t3, rfl⟩ : ∃ t1 t2 t3, ts = [t1, t2, t3] := by
        rcases ts with _ | ⟨t1, _ | ⟨t2, _ | ⟨t3, _ | ⟨_, _⟩⟩⟩⟩ <;> simp at hl2
        exact ⟨_, _, _, rfl⟩
      obtain ⟨x1, p1, rfl⟩ := hnames t1 (by simp)
      obtain ⟨x2, q2, rfl⟩ := hnames t2 (by simp)
      obtain ⟨x3, q3, rfl⟩ := hnames t3 (by simp)
      obtain ⟨v1, v2, v3, rfl⟩ : ∃ v1 v2 v3, vs = [v1, v2, v3] := by
        rcases vs with _ | ⟨t1, _ | ⟨t2, _ | ⟨t3, _ | ⟨_, _⟩⟩⟩⟩ <;> simp at hv
        exact ⟨_, _, _, rfl⟩
      obtain ⟨k1, k2', k3, rfl⟩ : ∃ k1 k2' k3, ks = [k1, k2', k3] := by
        rw [List.length_map] at hlen
        rcases ks with _ | ⟨t1, _ | ⟨t2, _ | ⟨t3, _ | ⟨_, _⟩⟩⟩⟩ <;> simp at hlen
        exact ⟨_, _, _, rfl⟩
      simp only [List.map_cons, List.map_nil, mNames, Bool.and_eq_true] at h1
      have l1 := hloc x1 p1 (by simp)
      have l2 := hloc x2 q2 (by simp)
      have l3 := hloc x3 q3 (by simp)
      have hd : k1.2 ≠ k2'.2 ∧ k1.2 ≠ k3.2 ∧ k2'.2 ≠ k3.2 := by
        simp only [List.map_cons, List.map_nil, List.nodup_cons, List.mem_cons, List.not_mem_nil, or_false, not_or, List.nodup_nil, and_true] at hnd
        exact ⟨hnd.1.1, hnd.1.2, hnd.2.1⟩
      refine PS.weak (ps_par3 (i := k1.2) (j := k2'.2) (l := k3.2) hx.calm hx.nd (sto_ok hx h1.1).1 (sto_ok hx h1.2.1).1 (sto_ok hx h1.2.2.1).1 hd.1 hd.2.1 hd.2.2 (by rw [hx.sc]; exact l1) (by rw [hx.sc]; exact l2) (by rw [hx.sc]; exact l3) hpa hw rfl) fun D σ H h => ?_
      obtain ⟨C, ad, env, s, G, W⟩ := main D σ H h
      refine ⟨C, ad, env, s, G, W.mono fun ds s1 ⟨m, q⟩ => ⟨m, fun vs ps H1 g1 g2 g3 kr nd hps sb => ?_⟩⟩
      obtain ⟨e1, e2⟩ := q vs ps H1 g1 g2 g3 kr nd hps sb
      rcases vs with _ | ⟨u1, _ | ⟨u2, _ | ⟨u3, _ | ⟨_, _⟩⟩⟩⟩ <;> simp at e1
      exact ⟨u1, u2, u3, rfl, e2 H1 (Same.refl _)⟩
  · -- the tuple is made and taken apart
    have hw := (sw_stores (env := X.env) (ts := ts) (vs := vs) (k := k) (k2 := k2) (p := p) (p2 := p2) hsc).2 (by rw [hx.sc]; exact hp)
    refine PS.weak (ps_asg (pe_tup hpa) (pg_tup (n := ts.length) hx.calm (pgs_names hx h1) (names_each hnames).1 (names_each hnames).2) pair_false hw rfl) fun D σ H h => ?_
    obtain ⟨C, ad, env, s, G, W⟩ := main D σ H h
    refine ⟨C, ad, env, s, G, W.mono fun ds s1 ⟨m, q⟩ => ⟨m, fun vs ps H1 k1 q1 G1 kr nd hps sb => ?_⟩⟩
    obtain ⟨e1, e2⟩ := q vs ps H1 k1 q1 G1 kr nd hps sb
    refine ⟨lim_le (by rw [e1]; exact Nat.le_trans hl (by decide)), fun t ht => ⟨t, vs, rfl, SqT.of upd_same, e1, names_go (by rw [hlen, e1]) (e2 _ (Same.upd ht))⟩⟩
end
end DL
end
section
set_option Elab.async false
set_option linter.all false
set_option maxRecDepth 100000
set_option maxHeartbeats 4000000
/-! DL16: the other statements; every statement. -/
namespace DL
open PySem PySem.Spec PyProof.Rows L2
section
variable {Tt : Tb} {w : World} {K : PySem.W.Frag} {C : DC Tt} {ad : Nat → Addr} {σ : L2.St} {H H' H1 : Hp} {env : Env'} {s s' : Src} {v : V} {d d' : D} {i : Nat} {ob : HO}
/-- what is one's own is written -/
theorem Gd.updOw (G : Gd w K C ad σ H env s) (h : env[i]? = some (.ow d)) (o : OwAt w K (Bs C env ad H) (upd H (ad i) ob) (ad i) d') :
    Gd w K C ad σ (upd H (ad i) ob) (env.set i (.ow d')) s ∧ Same (Bs C env ad H) (Bs C (env.set i (.ow d')) ad (upd H (ad i) ob)) := by
  obtain ⟨g0, gO⟩ := G.on i d h
  have n1 := G.ownNe h
  have hl : i < env.length := (List.getElem?_eq_some_iff.mp h).1
  have hhid : ∀ a, hid C (env.set i (.ow d')) ad a → hid C env ad a := fun a z => by
    rcases z with z | ⟨j, e, h1, h2⟩
    · exact .inl z
    · rcases get_set h1 with ⟨rfl, _, _⟩ | ⟨_, h1⟩
      · exact .inr ⟨_, d, h, h2⟩
      · exact .inr ⟨j, e, h1, h2⟩
  have sb : Same (Bs C env ad H) (Bs C (env.set i (.ow d')) ad (upd H (ad i) ob)) := msk_same hhid fun a u n e => by
    rw [upd_ne (fun (z : a = ad i) => n (.inr ⟨i, d, h, z.symm⟩))]; exact e
  refine ⟨{
    src := G.src.put n1 (G.sl _ _ h).2.noCode
    om := G.om
    oT := fun a z => by
      by_cases q : a = ad i
      · rw [q, upd_same]; rfl
      · rw [upd_ne q]; exact G.oT a z
    kp := fun a u m1 e => by
      rw [upd_ne (ne_of_none e g0)]; exact G.kp a u m1 e
    on := fun j e z => by
      rcases get_set z with ⟨rfl, _, _⟩ | ⟨_, z⟩
      · exact ⟨g0, gO⟩
      · exact G.on j e z
    inj := fun j k e f h1 h2 q => by
      rcases get_set h1 with ⟨z1, _, _⟩ | ⟨_, h3⟩
      · rcases get_set h2 with ⟨z2, _, _⟩ | ⟨_, h4⟩
        · rw [z1, z2]
        · rw [z1] at q ⊢
          exact G.inj _ k d f h h4 q
      · rcases get_set h2 with ⟨z2, _, _⟩ | ⟨_, h4⟩
        · rw [z2] at q ⊢
          exact G.inj j _ e d h3 h q
        · exact G.inj j k e f h3 h4 q
    len := by rw [List.length_set]; exact G.len
    sl := fun j z e => by
      rcases get_set e with ⟨rfl, _, rfl⟩ | ⟨hj, e⟩
      · exact ⟨(G.sl _ _ h).1, o.keep sb fun _ e => e⟩
      · have r := G.sl j z e
        cases z with
        | no => trivial
        | sh d => obtain ⟨v, h1, h2⟩ := r; exact ⟨v, h1, h2.mono sb⟩
        | sr => exact r
        | ow f =>
          refine ⟨r.1, r.2.keep sb fun u z => ?_⟩
          rw [upd_ne (fun q => hj (G.inj j i f d e h q))]
          exact z }, sb⟩
/-- what was one's own is shared from here -/
theorem Gd.freeze (G : Gd w K C ad σ H env s) (h : env[i]? = some (.ow d)) : Gd w K C ad σ H (env.set i (.sh d)) s ∧ Same (Bs C env ad H) (Bs C (env.set i (.sh d)) ad H) := by
  obtain ⟨h1, h2⟩ := G.sl i _ h
  have hl : i < env.length := (List.getElem?_eq_some_iff.mp h).1
  have nh : ¬ hid C (env.set i (.sh d)) ad (ad i) := fun z => by
    rcases z with z | ⟨j, e, q1, q2⟩
    · exact (G.on i d h).2 z
    · obtain ⟨q3, q4⟩ := get_set_ow (fun _ => noSh) q1
      exact q3 (G.inj j i e d q4 h q2)
  have es : σ.set i (some (.ref (ad i))) = σ := by
    obtain ⟨hs, e⟩ := List.getElem?_eq_some_iff.mp h1
    rw [← e]
    exact List.set_getElem_self hs
  have := G.set (i := i) (x := some (.ref (ad i))) (z := .sh d) (fun _ => noSh) fun _ => ⟨_, rfl, h2.rl (bs_set fun _ => noSh) fun o e => msk_some nh e⟩
  rw [es] at this
  exact ⟨this, bs_set fun _ => noSh⟩
end
section
variable {X : Cx} {M : MC} {n : Nat} {P : Fs} {pos : Pos} {i : Nat} {e : E} {x : Str} {v : Expr}
theorem c_aug {o : Op2} {op : Operator} {p : Pos} (hx : HX M n P X) (h1 : M.sto i x = true) (hop : op = o.op) (ho : augOk o = true) (h2 : mE M e v = true) : PS X (.AugAssign (.Name x p) op v pos) (tS X.w X.K P (.aug i o e)) := by
  obtain ⟨g1, g2, g3⟩ := sto_ok hx h1
  subst hop
  have main : ∀ (f : Int → Int → Int), (∀ a b, o.F (.int a) (.int b) = some (.int (f a b))) → ∀ D σ H, tS X.w X.K P (.aug i o e) D σ H → tAug i (tE X.w X.K P true e) (ipI f) D σ H := fun f hf D σ H ⟨C, ad, env, s, G, W⟩ => by
    simp only [evS] at W
    split at W
    · rename_i d he
      obtain ⟨u, hu, ru⟩ := G.sl i _ he
      refine ⟨u, hu, ?_⟩
      rw [Wp.bind] at W
      refine tE.go G (W.mono fun d1 s1 W1 v1 H1 k1 G1 r1 => ?_)
      dsimp only at W1
      split at W1
      · rename_i a b
        cases ru
        cases r1.fl.int_inv
        rw [hf] at W1
        exact ⟨a, b, rfl, rfl, Wp.some.mp W1 _ H1 ad (G1.setSh (.int _)) ((G.bs k1).trans (bs_set fun _ => noSh))⟩
      · exact (Wp.none.mp W1).elim
    · exact (Wp.none.mp W).elim
  cases o <;> first | (cases ho; done) | skip
  · exact PS.weak (ps_aug hx.nd g1 g2 (sE e true hx h2) ip_add g3) (main _ fun _ _ => rfl)
  · exact PS.weak (ps_aug hx.nd g1 g2 (sE e true hx h2) ip_sub g3) (main _ fun _ _ => rfl)
theorem app_few {e : Expr} {env : Env} {p : Pos} (h : notStar e = true) : ((backTo p (starEach [e] env)).all (fun x => !x.1) && (backToKw p (keywordEach [] env)).all (fun x => x.1.isSome)
      && decide (([e] : List Expr).length + ([] : List Keyword).length + (if ([] : List Keyword).isEmpty then 0 else 1) < 30)) = true := by
  rw [star_no h]
  rfl
theorem c_app {apos cpos p : Pos} (hx : HX M n P X) (h1 : M.vis i x = true) (hl : (apos.endLine == cpos.line) = true) (hs : notStar v = true) (h2 : mE M e v = true) :
    PS X (.Expr (.Call (.Attribute (.Name x p) "append" apos) [v] [] cpos) pos) (tS X.w X.K P (.app i e)) := by
  obtain ⟨g1, g2, g3, g4⟩ := vis_ok hx h1
  refine PS.weak (ps_expr (pe_bm PySem.F.plainAttrs_list PySem.F.slot_list_append PySem.F.type_list_append mt_append (pe_var g1 g2 g3 g4) (pa_cons (sE e false hx h2) pa_nil (star_no hs)) rfl (app_few hs) hl (star_no hs) rfl) rfl) fun D σ H ⟨C, ad, env, s, G, W⟩ => ?_
  simp only [evS] at W
  split at W
  · rename_i ds he
    obtain ⟨hv, xs, hxs, rxs⟩ := G.sl i _ he
    refine ⟨_, hv, .inl ⟨rfl, xs, SqL.of hxs⟩, ?_⟩
    rw [Wp.bind] at W
    refine tE.go G (W.mono fun d1 s1 W1 v1 H1 k1 G1 r1 => ?_)
    obtain ⟨hz, W1⟩ := Wp.ite.mp W1
    obtain ⟨_, xs1, hxs1, rxs1⟩ := G1.sl i _ he
    have rr : OwAt X.w X.K (Bs C env ad H1) (upd H1 (ad i) (.lst (xs1 ++ [v1]))) (ad i) (.list (ds ++ [d1])) := ⟨_, upd_same, rxs1.append (.cons r1 .nil)⟩
    obtain ⟨G2, sb⟩ := G1.updOw he rr
    exact ⟨ad i, xs1, v1, rfl, rfl, hxs1, by rw [rxs1.length]; exact Nat.lt_of_lt_of_le hz (by decide), Wp.some.mp W1 σ _ ad G2 ((G.bs k1).trans sb)⟩
  · exact (Wp.none.mp W).elim
theorem c_ext {apos cpos p : Pos} (hx : HX M n P X) (h1 : M.vis i x = true) (hl : (apos.endLine == cpos.line) = true) (hs : notStar v = true) (h2 : mE M e v = true) :
    PS X (.Expr (.Call (.Attribute (.Name x p) "extend" apos) [v] [] cpos) pos) (tS X.w X.K P (.ext i e)) := by
  obtain ⟨g1, g2, g3, g4⟩ := vis_ok hx h1
  refine PS.weak (ps_expr (pe_bm PySem.F.plainAttrs_list PySem.F.slot_list_extend PySem.F.type_list_extend mt_ext (pe_var g1 g2 g3 g4) (pa_cons (sE e false hx h2) pa_nil (star_no hs)) rfl (app_few hs) hl (star_no hs) rfl) rfl) fun D σ H ⟨C, ad, env, s, G, W⟩ => ?_
  simp only [evS] at W
  split at W
  · rename_i ds he
    obtain ⟨hv, xs, hxs, rxs⟩ := G.sl i _ he
    refine ⟨_, hv, .inl ⟨rfl, xs, SqL.of hxs⟩, ?_⟩
    rw [Wp.bind] at W
    refine tE.go G (W.mono fun d1 s1 W1 v1 H1 k1 G1 r1 => ?_)
    dsimp only at W1
    cases hq : seqItems d1 with
    | none => rw [hq] at W1; exact (Wp.none.mp W1).elim
    | some es =>
      rw [hq, Option.bind_some] at W1
      obtain ⟨hz, W1⟩ := Wp.ite.mp W1
      obtain ⟨_, xs1, hxs1, rxs1⟩ := G1.sl i _ he
      have r1 : Rl X.w X.K (Bs C env ad H1) v1 d1 := r1
      obtain ⟨b, zs, rfl, hb, rz⟩ : ∃ b zs, v1 = .ref b ∧ (H1 b = some (.lst zs) ∨ SqT X.K H1 b zs) ∧ RlL X.w X.K (Bs C env ad H1) zs es := by
        rcases seqItems_inv hq with rfl | rfl
        · cases r1 with
          | lst h t => exact ⟨_, _, rfl, .inl (G1.sub _ _ h), t⟩
        · cases r1 with
          | tup h t => exact ⟨_, _, rfl, .inr (same_t G1.sub h), t⟩
      have rr : OwAt X.w X.K (Bs C env ad H1) (upd H1 (ad i) (.lst (xs1 ++ zs))) (ad i) (.list (ds ++ es)) := ⟨_, upd_same, rxs1.append rz⟩
      obtain ⟨G2, sb⟩ := G1.updOw he rr
      exact ⟨ad i, b, xs1, zs, rfl, rfl, hxs1, hb, by rw [rxs1.length, rz.length]; exact lim_le hz, Wp.some.mp W1 σ _ ad G2 ((G.bs k1).trans sb)⟩
  · exact (Wp.none.mp W).elim
theorem asg_sub {o ix : Expr} {p : Pos} {env : Env} (h : isSlc ix = false) : ∀ v, assign (.Subscript o ix p) env v = (do
      let ov ← holding [v] (eval o env)
      let iv ← holding [v, ov] (eval ix env)
      standAt p
      holding [v, ov, iv] (setItem ov iv v)
      release [v, ov, iv] []) := by
  cases ix <;> first | (intro _; rfl) | cases h
def rSetE (w : World) (K : PySem.W.Frag) : TSet := fun o i v H Q => ∃ (B : Hp) (a c : Addr) (es : List DictEntry) (kvs : List (D × D)) (k d : D), o = .ref a ∧ i = .ref c ∧ Same B H ∧ (a == sysModules) = false ∧ kvs.length < lim ∧ H a = some (.ext (DictO a es)) ∧ RlE w K B es kvs ∧
  keysOk kvs = true ∧ Rl w K B (.ref c) k ∧ tupKey k = true ∧ Rl w K B v d ∧ ∀ es', RlE w K B es' (putD kvs k d) → Q (upd H a (.ext (DictO a es')))
theorem set_ext (hu : X.A.units + 65 < cLine) : PSet X (rSetE X.w X.K) := by
  intro pins s σ H o i v ov iv u Q I ro ri rv ⟨B, a, c, es, kvs, k, d, e1, e2, sb, hs, hl, h, r, hk, rk, tk, rd, q⟩
  subst e1 e2
  cases ro
  cases ri
  exact d_setE hu I sb hs hl h r hk rk tk rv rd fun es' s' r' I' => ⟨_, I', q es' r'⟩
theorem PSet.or {t t' : TSet} (h : PSet X t) (h' : PSet X t') : PSet X fun o i v H Q => t o i v H Q ∨ t' o i v H Q := by
  intro pins s σ H o i v ov iv u Q I ro ri rv q
  exact q.elim (h pins s σ H o i v ov iv u Q I ro ri rv) (h' pins s σ H o i v ov iv u Q I ro ri rv)
theorem c_seti {k : E} {ix : Expr} {p p2 : Pos} (hx : HX M n P X) (h1 : M.vis i x = true) (h0 : isSlc ix = false) (h2 : mE M e v = true) (h3 : mE M k ix = true) :
    PS X (.Assign [.Subscript (.Name x p) ix p2] v pos) (tS X.w X.K P (.seti i k e)) := by
  obtain ⟨g1, g2, g3, g4⟩ := vis_ok hx h1
  refine PS.weak (ps_asg (sE e false hx h2) (pg_sub (pe_var g1 g2 g3 g4) (sE k false hx h3) (PSet.or set_list (set_ext hx.hu)) (asg_sub h0)) sub_swap (by cases v <;> rfl) rfl) fun D σ H ⟨C, ad, env, s, G, W⟩ => ?_
  simp only [evS] at W
  split at W
  · rename_i x0 he
    rw [Wp.bind] at W
    refine tE.go G (W.mono fun d1 s1 W1 v1 H1 k1 G1 r1 => ?_)
    rw [Wp.bind] at W1
    obtain ⟨hv, _⟩ := G1.sl i _ he
    refine ⟨_, hv, tE.go G1 (W1.mono fun d2 s2 W2 v2 H2 k2 G2 r2 => ?_)⟩
    obtain ⟨d', hd, q⟩ := Wp.map.mp W2
    obtain ⟨_, ow⟩ := G2.sl i _ he
    cases x0 <;> first | exact ow.elim | skip
    · obtain ⟨xs, hxs, rxs⟩ := ow
      cases d2 <;> first | (cases hd; done) | skip
      obtain ⟨j, hj, rfl⟩ := Option.map_eq_some_iff.mp hd
      have r2 : Rl X.w X.K (Bs C env ad H2) v2 _ := r2
      cases r2
      have r1 : Rl X.w X.K (Bs C env ad H1) v1 d1 := r1
      have rr : OwAt X.w X.K (Bs C env ad H2) (upd H2 (ad i) (.lst (xs.set j v1))) (ad i) (.list (List.set ‹_› j d1)) := ⟨_, upd_same, rxs.set j (r1.mono (G1.bs k2))⟩
      obtain ⟨G3, sb⟩ := G2.updOw he rr
      exact .inl ⟨ad i, xs, _, j, rfl, rfl, hxs, by rw [rxs.length]; exact hj, q σ _ ad G3 ((G.bs (k1.trans k2)).trans sb)⟩
    · obtain ⟨es, hs, hz, hes, res⟩ := ow
      have hd : (if keysOk _ && tupKey d2 && decide (List.length _ < lim) then some (PyData.dict (putD _ d2 d1)) else none) = some d' := hd
      obtain ⟨hc, rfl⟩ := if_some hd
      simp only [Bool.and_eq_true, decide_eq_true_eq] at hc
      have r2 : Rl X.w X.K (Bs C env ad H2) v2 d2 := r2
      have r1 : Rl X.w X.K (Bs C env ad H1) v1 d1 := r1
      obtain ⟨c2, rfl⟩ := tup_ref r2 hc.1.2
      refine .inr ⟨Bs C env ad H2, ad i, c2, es, _, d2, d1, rfl, rfl, G2.sub, hs, hc.2, hes, res, hc.1.1, r2, hc.1.2, r1.mono (G1.bs k2), fun es' r' => ?_⟩
      have hlen : es'.length ≤ sizeLine := by
        rw [RlE.length r']
        refine Nat.le_trans (putD_length _ _ _) ?_
        have := hc.2
        exact Nat.le_trans (Nat.succ_le_of_lt this) (by decide)
      have rr : OwAt X.w X.K (Bs C env ad H2) (upd H2 (ad i) (.ext (DictO (ad i) es'))) (ad i) (.dict (putD _ d2 d1)) := ⟨es', hs, hlen, upd_same, r'⟩
      obtain ⟨G3, sb⟩ := G2.updOw he rr
      exact q σ _ ad G3 ((G.bs (k1.trans k2)).trans sb)
  · exact (Wp.none.mp W).elim

/-! ### blocks -/
theorem c_ssNil : PSs X [] (tSs X.w X.K P .nil) := PSs.weak pss_nil fun D σ H ⟨C, ad, env, s, G, W⟩ => by
  simp only [evSs] at W
  exact Wp.some.mp W σ H ad G (Same.refl _)
theorem Go.pre {Tt : Tb} {w : World} {K : PySem.W.Frag} {C : DC Tt} {B B1 : Hp} {D : Ends} {r : Fw × Env'} {s' : Src} (k : Same B B1) (h : Go w K C B D r s') : Go w K C B1 D r s' → Go w K C B1 D r s' := id
theorem Go.to {Tt : Tb} {w : World} {K : PySem.W.Frag} {C : DC Tt} {B B1 : Hp} {D D' : Ends} {r : Fw × Env'} {s' : Src} (k : Same B B1) (h : Go w K C B D r s') (h0 : D'.nx = D.nx) (h1 : D'.rt = D.rt) (h2 : D'.bk = D.bk) (h3 : D'.ct = D.ct) : Go w K C B1 D' r s' := fun σ' H' ad' G sb => by
  have := h σ' H' ad' G (k.trans sb)
  cases hr : r.1 with
  | next => rw [hr] at this; dsimp only at this ⊢; rw [h0]; exact this
  | ret d => rw [hr] at this; dsimp only at this ⊢; rw [h1]; exact this
  | brk => rw [hr] at this; dsimp only at this ⊢; rw [h2]; exact this
  | cont => rw [hr] at this; dsimp only at this ⊢; rw [h3]; exact this
theorem ss_go {st : S} {ss : Ss} {D : Ends} {σ : L2.St} {H : Hp} (h : tSs X.w X.K P (.cons st ss) D σ H) : tS X.w X.K P st { D with nx := tSs X.w X.K P ss D } σ H := by
  obtain ⟨C, ad, env, s, G, W⟩ := h
  simp only [evSs] at W
  rw [Wp.bind] at W
  refine ⟨C, ad, env, s, G, W.mono fun r s1 W1 σ1 H1 ad1 G1 sb => ?_⟩
  obtain ⟨f, env1⟩ := r
  cases f with
  | next => exact ⟨C, ad1, env1, s1, G1, W1.mono fun r2 s2 g => g.to sb rfl rfl rfl rfl⟩
  | ret d => exact Wp.some.mp W1 σ1 H1 ad1 G1 sb
  | brk => exact Wp.some.mp W1 σ1 H1 ad1 G1 sb
  | cont => exact Wp.some.mp W1 σ1 H1 ad1 G1 sb
theorem c_ssCons {st : S} {ss : Ss} {a : Stmt} {l : List Stmt} (h1 : PS X a (tS X.w X.K P st)) (h2 : PSs X l (tSs X.w X.K P ss)) : PSs X (a :: l) (tSs X.w X.K P (.cons st ss)) :=
  PSs.weak (pss_cons h1 h2) fun _ _ _ h => ss_go h
theorem c_ssFrz {ss : Ss} {l : List Stmt} (h2 : PSs X l (tSs X.w X.K P ss)) : PSs X l (tSs X.w X.K P (.cons (.frz i) ss)) :=
  PSs.weak h2 fun D σ H h => by
    obtain ⟨C, ad, env, s, G, W⟩ := ss_go h
    simp only [evS] at W
    split at W
    · rename_i d he
      obtain ⟨G1, sb⟩ := G.freeze he
      exact Wp.some.mp W σ H ad G1 sb
    · exact (Wp.none.mp W).elim
theorem c_iff {t : T} {a c : Ss} {ea : Expr} {la lc : List Stmt} (ht : PT X ea (tT X.w X.K P t)) (ha : PSs X la (tSs X.w X.K P a)) (hc : PSs X lc (tSs X.w X.K P c)) : PS X (.If ea la lc pos) (tS X.w X.K P (.iff t a c)) := by
  refine PS.weak (ps_if ht ha hc) fun D σ H ⟨C, ad, env, s, G, W⟩ => ?_
  simp only [evS] at W
  rw [Wp.bind] at W
  refine ⟨C, ad, env, s, G, W.mono fun b s1 W1 H1 k1 q1 => ?_⟩
  have G1 := G.ext k1 q1
  cases b with
  | true => rw [if_pos rfl] at W1; exact iteT ⟨C, ad, env, s1, G1, W1.mono fun r s2 g => g.to (G.bs k1) rfl rfl rfl rfl⟩
  | false => dsimp only at W1; rw [if_neg Bool.false_ne_true] at W1; exact iteF ⟨C, ad, env, s1, G1, W1.mono fun r s2 g => g.to (G.bs k1) rfl rfl rfl rfl⟩
theorem c_ret (h : mE M e v = true) (hx : HX M n P X) : PS X (.Return (some v) pos) (tS X.w X.K P (.ret e)) := by
  refine PS.weak (ps_ret (sE e false hx h)) fun D σ H ⟨C, ad, env, s, G, W⟩ => ?_
  simp only [evS] at W
  rw [Wp.bind] at W
  refine tE.go G (W.mono fun d1 s1 W1 v1 H1 k1 G1 r1 => ?_)
  exact Wp.some.mp W1 σ H1 ad G1 (G.bs k1) v1 r1
theorem c_retN : PS X (.Return none pos) (tS X.w X.K P .retN) := by
  refine PS.weak ps_retN fun D σ H ⟨C, ad, env, s, G, W⟩ => ?_
  simp only [evS] at W
  exact Wp.some.mp W σ H ad G (Same.refl _) _ .non
theorem c_pass : PS X (.Pass pos) (tS X.w X.K P .pass) := by
  refine PS.weak ps_pass fun D σ H ⟨C, ad, env, s, G, W⟩ => ?_
  simp only [evS] at W
  exact Wp.some.mp W σ H ad G (Same.refl _)
theorem c_doc {z : Str} {j : Nat} {p : Pos} : PS X (.Expr (.Constant (.str z) j p) pos) (tS X.w X.K P .pass) := by
  refine PS.weak ps_doc fun D σ H ⟨C, ad, env, s, G, W⟩ => ?_
  simp only [evS] at W
  exact Wp.some.mp W σ H ad G (Same.refl _)
theorem c_brk : PS X (.Break pos) (tS X.w X.K P .brk) := by
  refine PS.weak ps_break fun D σ H ⟨C, ad, env, s, G, W⟩ => ?_
  simp only [evS] at W
  exact Wp.some.mp W σ H ad G (Same.refl _)
theorem c_cont : PS X (.Continue pos) (tS X.w X.K P .cont) := by
  refine PS.weak ps_continue fun D σ H ⟨C, ad, env, s, G, W⟩ => ?_
  simp only [evS] at W
  exact Wp.some.mp W σ H ad G (Same.refl _)
theorem HX.never (hx : HX M n P X) : PassesOwn (model X.prog X.w) X.A X.env X.xe := by
  rw [hx.xe]
  exact PassesOwn.never
/-- the turns' end -/
def lpNext (k : Env' → Src → Rs) (p : (Fw × Env') × Src) : Rs := match p.1.1 with
  | .next => k p.1.2 p.2
  | .cont => k p.1.2 p.2
  | .brk => some ((.next, p.1.2), p.2)
  | .ret v => some ((.ret v, p.1.2), p.2)
theorem lp_go {Tt : Tb} {w : World} {K : PySem.W.Frag} {C : DC Tt} {B0 B1 : Hp} {D : Ends} {k : Env' → Src → Rs} {N : L2.St → Hp → Prop} {r : Fw × Env'} {s1 : Src} (sb0 : Same B0 B1)
    (hN : ∀ env s σ H ad, Gd w K C ad σ H env s → Same B1 (Bs C env ad H) → Wp (k env s) (Go w K C B0 D) → N σ H) (W : Wp (lpNext k (r, s1)) (Go w K C B0 D)) : Go w K C B1 { D with nx := N, ct := N, bk := D.nx } r s1 := fun σ' H' ad' G sb => by
  obtain ⟨f, env1⟩ := r
  cases f with
  | next => exact hN env1 s1 σ' H' ad' G sb W
  | cont => exact hN env1 s1 σ' H' ad' G sb W
  | brk => exact Wp.some.mp W σ' H' ad' G (sb0.trans sb)
  | ret d => exact Wp.some.mp W σ' H' ad' G (sb0.trans sb)
def forF (P : Fs) (tg : Tg) (body : Ss) : D → Env' → Src → Rs := fun d env s => match bindTg tg d env with
  | some env' => evSs P body env' s
  | none => none
theorem c_for {tg : Tg} {it : It} {body : Ss} {tx ix : Expr} {l : List Stmt} (hx : HX M n P X) (hset : setIt ix = false) (hg : mTg M tg tx = true) (hi : mIt M it ix = true) (hb : PSs X l (tSs X.w X.K P body)) : PS X (.For tx ix l [] pos) (tS X.w X.K P (.for_ tg it body)) := by
  refine PS.weak (ps_for hx.never hx.calm (sIt it tx false hx hi) (tg_ok tg hx hg) hb (set_of hset)) fun D σ H ⟨C, ad, env, s, G, W⟩ => ?_
  simp only [evS] at W
  rw [Wp.bind] at W
  refine ⟨C, ad, env, s, G, W.mono fun items s1 W1 J H1 k1 q1 hJ => ?_⟩
  have G1 := G.ext k1 q1
  have W1 : Wp (forLoop (forF P tg body) items env s1) (Go X.w X.K C (Bs C env ad H) D) := W1
  have hJ : ItR X.w X.K J (Bs C env ad H1) (Bs C env ad H1) items := hJ
  refine ⟨fun j m σc Hc => m = items.length - j ∧ j ≤ items.length ∧ ∃ ad2 env2 s2, Gd X.w X.K C ad2 σc Hc env2 s2 ∧ Same (Bs C env ad H1) (Bs C env2 ad2 Hc) ∧ Wp (forLoop (forF P tg body) (items.drop j) env2 s2) (Go X.w X.K C (Bs C env ad H) D), ⟨items.length, ?_⟩, fun j m σc Hc hW => ?_⟩
  · refine ⟨by simp, Nat.zero_le _, ad, env, s1, G1, Same.refl _, ?_⟩
    rw [List.drop_zero]
    exact W1
  · obtain ⟨rfl, hj', ad2, env2, s2, Gc, sbc, Wc⟩ := hW
    obtain ⟨hstop, hgo⟩ := hJ j Hc (sbc.trans Gc.sub)
    by_cases hlt : j < items.length
    · right
      obtain ⟨d, hd⟩ : ∃ d, items[j]? = some d := ⟨items[j], List.getElem?_eq_getElem hlt⟩
      obtain ⟨hg1, hy⟩ := hgo d hd
      refine ⟨hg1, fun σn Hn => j + 1 ≤ items.length ∧ ∃ ad2 env2 s2, Gd X.w X.K C ad2 σn Hn env2 s2 ∧ Same (Bs C env ad H1) (Bs C env2 ad2 Hn) ∧ Wp (forLoop (forF P tg body) (items.drop (j + 1)) env2 s2) (Go X.w X.K C (Bs C env ad H) D), fun σ' H' hn => ⟨items.length - (j + 1), by omega, rfl, hn.1, hn.2⟩, fun x Hy hyld => ?_⟩
      obtain ⟨smy, ry⟩ := hy x Hy hyld
      have ky : Kp C.loc Hc Hy := Kp.of smy
      have Gy := Gc.ext ky (Gc.src.same smy)
      have rx : Rl X.w X.K (Bs C env2 ad2 Hy) x d := ry _ (sbc.trans (Gc.bs ky)) (Gc.new smy)
      have ed : items.drop j = d :: items.drop (j + 1) := by
        rw [List.drop_eq_getElem_cons hlt]
        congr 1
        rw [List.getElem?_eq_getElem hlt] at hd
        exact Option.some.inj hd
      rw [ed] at Wc
      have Wc : Wp ((forF P tg body d env2 s2).bind (lpNext (forLoop (forF P tg body) (items.drop (j + 1))))) (Go X.w X.K C (Bs C env ad H) D) := Wc
      rw [Wp.bind] at Wc
      unfold forF at Wc
      cases hb : bindTg tg d env2 with
      | none => rw [hb] at Wc; exact (Wp.none.mp Wc).elim
      | some env' =>
        rw [hb] at Wc
        dsimp only at Wc
        refine bind_ok tg Gy rx hb fun σ2 G2 hw sb2 => ⟨C, ad2, env', s2, G2, Wc.mono fun r s3 W3 => ?_⟩
        have sball : Same (Bs C env ad H1) (Bs C env' ad2 Hy) := (sbc.trans (Gc.bs ky)).trans sb2
        exact lp_go ((G.bs k1).trans sball) (fun env3 s3 σ3 H3 ad3 G3 sb3 W4 => ⟨hlt, ad3, env3, s3, G3, sball.trans sb3, W4⟩) W3
    · left
      have hie : j = items.length := by omega
      refine ⟨hstop (by omega), ?_⟩
      rw [hie, List.drop_length] at Wc
      simp only [forLoop] at Wc
      exact Wp.some.mp Wc σc Hc ad2 Gc ((G.bs k1).trans sbc)
theorem c_whil {t : T} {m : Nat} {body : Ss} {ea : Expr} {l : List Stmt} (hx : HX M n P X) (ht : PT X ea (tT X.w X.K P t)) (hb : PSs X l (tSs X.w X.K P body)) : PS X (.While ea l [] pos) (tS X.w X.K P (.whil m t body)) := by
  refine PS.weak (ps_while hx.never ht hb) fun D σ H ⟨C, ad, env, s, G, W⟩ => ?_
  simp only [evS] at W
  refine ⟨fun k σc Hc => ∃ ad2 env2 s2, Gd X.w X.K C ad2 σc Hc env2 s2 ∧ Same (Bs C env ad H) (Bs C env2 ad2 Hc) ∧ Wp (whileLoop (evT P t) (evSs P body) k env2 s2) (Go X.w X.K C (Bs C env ad H) D), ⟨m, ad, env, s, G, Same.refl _, W⟩, fun k σc Hc hW => ?_⟩
  obtain ⟨ad2, env2, s2, Gc, sbc, Wc⟩ := hW
  cases k with
  | zero => simp only [whileLoop] at Wc; exact (Wp.none.mp Wc).elim
  | succ k =>
    simp only [whileLoop] at Wc
    rw [Wp.bind] at Wc
    refine ⟨C, ad2, env2, s2, Gc, Wc.mono fun b s3 W3 H3 k3 q3 => ?_⟩
    have G3 := Gc.ext k3 q3
    have sb3 := sbc.trans (Gc.bs k3)
    dsimp only at W3
    cases b with
    | false =>
      rw [if_neg Bool.false_ne_true] at W3
      exact iteF (Wp.some.mp W3 σc H3 ad2 G3 sb3)
    | true =>
      rw [if_pos rfl] at W3
      have W3 : Wp ((evSs P body env2 s3).bind (lpNext (whileLoop (evT P t) (evSs P body) k))) (Go X.w X.K C (Bs C env ad H) D) := W3
      rw [Wp.bind] at W3
      refine iteT ⟨fun σn Hn => ∃ ad2 env2 s2, Gd X.w X.K C ad2 σn Hn env2 s2 ∧ Same (Bs C env ad H) (Bs C env2 ad2 Hn) ∧ Wp (whileLoop (evT P t) (evSs P body) k env2 s2) (Go X.w X.K C (Bs C env ad H) D), fun σ' H' hn => ⟨k, Nat.lt_succ_self k, hn⟩, C, ad2, env2, s3, G3, W3.mono fun r s4 W4 => ?_⟩
      exact lp_go sb3 (fun env4 s4 σ4 H4 ad4 G4 sb4 W5 => ⟨ad4, env4, s4, G4, sb3.trans sb4, W5⟩) W4

/-! ### every statement -/
theorem invS_asg {M : MC} {a : Stmt} (tg : Tg) (e : E) (h : mS M (.asg tg e) a = true) : ∃ t v p, a = .Assign [t] v p ∧ (mTg M tg t && mE M e v && noPair t v && notStar t && (noSwap M t v || swapT M t v)) = true := by
  unfold mS at h
  split at h <;> first | (cases h; done) | (rename_i q; cases q; exact ⟨_, _, _, rfl, h⟩) | (rename_i q; cases q; done)
theorem invS_own {M : MC} {a : Stmt} (i : Nat) (e : E) (h : mS M (.own i e) a = true) : ∃ x q v p, a = .Assign [.Name x q] v p ∧ (M.sto i x && frE e && mE M e v && (noSwap M (.Name x q) v || swapT M (.Name x q) v)) = true := by
  unfold mS at h
  split at h <;> first | (cases h; done) | (rename_i q; cases q; exact ⟨_, _, _, _, rfl, h⟩) | (rename_i q; cases q; done)
theorem invS_par {M : MC} {a : Stmt} (ks : List (Bool × Nat)) (es : Es) (h : mS M (.par ks es) a = true) : ∃ ts k q vs k2 q2 p, a = .Assign [.Tuple ts k q] (.Tuple vs k2 q2) p ∧ (mNames M (ks.map (·.2)) ts && decide (ks.map (·.2)).Nodup && frK (ks.map (·.1)) es && mEs M es vs && decide (ts.length ≤ 1000) && (match pairMode M.sc ts vs with | some true => true | some false => true | none => false)) = true := by
  unfold mS at h
  split at h <;> first | (cases h; done) | (rename_i q; cases q; exact ⟨_, _, _, _, _, _, _, rfl, h⟩) | (rename_i q; cases q; done)
theorem invS_aug {M : MC} {a : Stmt} (i : Nat) (o : Op2) (e : E) (h : mS M (.aug i o e) a = true) : ∃ x q op v p, a = .AugAssign (.Name x q) op v p ∧ (M.sto i x && decide (op = o.op) && augOk o && mE M e v) = true := by
  unfold mS at h
  split at h <;> first | (cases h; done) | (rename_i q; cases q; exact ⟨_, _, _, _, _, rfl, h⟩) | (rename_i q; cases q; done)
theorem invS_app {M : MC} {a : Stmt} (i : Nat) (e : E) (h : mS M (.app i e) a = true) : ∃ x q nm ap v cp p, a = .Expr (.Call (.Attribute (.Name x q) nm ap) [v] [] cp) p ∧ (M.vis i x && decide (nm = ("append" : Str)) && (ap.endLine == cp.line) && notStar v && mE M e v) = true := by
  unfold mS at h
  split at h <;> first | (cases h; done) | (rename_i q; cases q; exact ⟨_, _, _, _, _, _, _, rfl, h⟩) | (rename_i q; cases q; done)
theorem invS_ext {M : MC} {a : Stmt} (i : Nat) (e : E) (h : mS M (.ext i e) a = true) : ∃ x q nm ap v cp p, a = .Expr (.Call (.Attribute (.Name x q) nm ap) [v] [] cp) p ∧ (M.vis i x && decide (nm = ("extend" : Str)) && (ap.endLine == cp.line) && notStar v && mE M e v) = true := by
  unfold mS at h
  split at h <;> first | (cases h; done) | (rename_i q; cases q; exact ⟨_, _, _, _, _, _, _, rfl, h⟩) | (rename_i q; cases q; done)
theorem invS_seti {M : MC} {a : Stmt} (i : Nat) (k e : E) (h : mS M (.seti i k e) a = true) : ∃ x q ix q2 v p, a = .Assign [.Subscript (.Name x q) ix q2] v p ∧ (M.vis i x && !isSlc ix && mE M e v && mE M k ix) = true := by
  unfold mS at h
  split at h <;> first | (cases h; done) | (rename_i q; cases q; exact ⟨_, _, _, _, _, _, rfl, h⟩) | (rename_i q; cases q; done)
theorem invS_iff {M : MC} {a : Stmt} (t : T) (a' c : Ss) (h : mS M (.iff t a' c) a = true) : ∃ x y z p, a = .If x y z p ∧ (mT M t x && mSs M a' y && mSs M c z) = true := by
  unfold mS at h
  split at h <;> first | (cases h; done) | (rename_i q; cases q; exact ⟨_, _, _, _, rfl, h⟩) | (rename_i q; cases q; done)
theorem invS_for_ {M : MC} {a : Stmt} (tg : Tg) (it : It) (body : Ss) (h : mS M (.for_ tg it body) a = true) : ∃ tx ix y p, a = .For tx ix y [] p ∧ (!setIt ix && mTg M tg tx && mIt M it ix && mSs M body y) = true := by
  unfold mS at h
  split at h <;> first | (cases h; done) | (rename_i q; cases q; exact ⟨_, _, _, _, rfl, h⟩) | (rename_i q; cases q; done)
theorem invS_whil {M : MC} {a : Stmt} (n : Nat) (t : T) (body : Ss) (h : mS M (.whil n t body) a = true) : ∃ x y p, a = .While x y [] p ∧ (mT M t x && mSs M body y) = true := by
  unfold mS at h
  split at h <;> first | (cases h; done) | (rename_i q; cases q; exact ⟨_, _, _, rfl, h⟩) | (rename_i q; cases q; done)
theorem invS_ret {M : MC} {a : Stmt} (e : E) (h : mS M (.ret e) a = true) : ∃ v p, a = .Return (some v) p ∧ mE M e v = true := by
  unfold mS at h
  split at h <;> first | (cases h; done) | (rename_i q; cases q; exact ⟨_, _, rfl, h⟩) | (rename_i q; cases q; done)
theorem invS_retN {M : MC} {a : Stmt}  (h : mS M (.retN) a = true) : ∃ p, a = .Return none p ∧ True := by
  unfold mS at h
  split at h <;> first | (cases h; done) | (rename_i q; cases q; exact ⟨_, rfl, trivial⟩) | (rename_i q; cases q; done)
theorem invS_brk {M : MC} {a : Stmt}  (h : mS M (.brk) a = true) : ∃ p, a = .Break p ∧ True := by
  unfold mS at h
  split at h <;> first | (cases h; done) | (rename_i q; cases q; exact ⟨_, rfl, trivial⟩) | (rename_i q; cases q; done)
theorem invS_cont {M : MC} {a : Stmt}  (h : mS M (.cont) a = true) : ∃ p, a = .Continue p ∧ True := by
  unfold mS at h
  split at h <;> first | (cases h; done) | (rename_i q; cases q; exact ⟨_, rfl, trivial⟩) | (rename_i q; cases q; done)
theorem invS_pass {M : MC} {a : Stmt} (h : mS M .pass a = true) : (∃ p, a = .Pass p) ∨ ∃ x j q p, a = .Expr (.Constant (.str x) j q) p := by
  unfold mS at h
  split at h <;> first | (cases h; done) | (rename_i q; cases q; done) | skip
  · exact .inl ⟨_, rfl⟩
  · exact .inr ⟨_, _, _, _, rfl⟩
theorem invS_frz {M : MC} {a : Stmt} {i : Nat} (h : mS M (.frz i) a = true) : False := by
  simp [mS] at h
theorem pairM {sc : Scope} {ts vs : List Expr} (h : (match pairMode sc ts vs with | some true => true | some false => true | none => false) = true) : pairMode sc ts vs = some true ∨ pairMode sc ts vs = some false := by
  split at h
  · exact .inl (by assumption)
  · exact .inr (by assumption)
  · cases h
def isFrz : S → Bool
  | .frz _ => true
  | _ => false
theorem mSs_cons {M : MC} {st : S} {ss : Ss} {l : List Stmt} (h : mSs M (.cons st ss) l = true) : (∃ i, st = .frz i ∧ mSs M ss l = true) ∨ ∃ a l', l = a :: l' ∧ mS M st a = true ∧ mSs M ss l' = true := by
  unfold mSs at h
  split at h <;> first | (cases h; done) | skip
  · rename_i q; cases q
  · rename_i q; cases q; exact .inl ⟨_, rfl, h⟩
  · rename_i _ q; cases q; rw [Bool.and_eq_true] at h; exact .inr ⟨_, _, rfl, h.1, h.2⟩
theorem mSs_nil {M : MC} {l : List Stmt} (h : mSs M .nil l = true) : l = [] := by
  unfold mSs at h
  split at h <;> first | rfl | (cases h; done) | (rename_i q; cases q; done) | (rename_i q _; cases q; done)
mutual
theorem sS (hx : HX M n P X) (hsc : X.env.scope.kind = .function) : ∀ (st : S) {a : Stmt}, mS M st a = true → PS X a (tS X.w X.K P st)
  | .asg tg e, a, h => by
    obtain ⟨t, v, p, rfl, g⟩ := invS_asg tg e h
    simp only [Bool.and_eq_true, Bool.or_eq_true] at g
    exact c_asg hx hsc g.1.1.1.1 g.1.1.1.2 g.1.1.2 g.1.2 g.2
  | .own i e, a, h => by
    obtain ⟨x, q, v, p, rfl, g⟩ := invS_own i e h
    simp only [Bool.and_eq_true, Bool.or_eq_true] at g
    exact c_own hx hsc g.1.1.1 g.1.1.2 g.1.2 g.2
  | .par ks es, a, h => by
    obtain ⟨ts, k, q, vs, k2, q2, p, rfl, g⟩ := invS_par ks es h
    simp only [Bool.and_eq_true] at g
    exact c_par hx hsc g.1.1.1.1.1 (of_decide_eq_true g.1.1.1.1.2) g.1.1.1.2 g.1.1.2 (of_decide_eq_true g.1.2) (pairM g.2)
  | .aug i o e, a, h => by
    obtain ⟨x, q, op, v, p, rfl, g⟩ := invS_aug i o e h
    simp only [Bool.and_eq_true] at g
    exact c_aug hx g.1.1.1 (of_decide_eq_true g.1.1.2) g.1.2 g.2
  | .app i e, a, h => by
    obtain ⟨x, q, nm, ap, v, cp, p, rfl, g⟩ := invS_app i e h
    simp only [Bool.and_eq_true] at g
    obtain rfl := of_decide_eq_true g.1.1.1.2
    exact c_app hx g.1.1.1.1 g.1.1.2 g.1.2 g.2
  | .ext i e, a, h => by
    obtain ⟨x, q, nm, ap, v, cp, p, rfl, g⟩ := invS_ext i e h
    simp only [Bool.and_eq_true] at g
    obtain rfl := of_decide_eq_true g.1.1.1.2
    exact c_ext hx g.1.1.1.1 g.1.1.2 g.1.2 g.2
  | .seti i k e, a, h => by
    obtain ⟨x, q, ix, q2, v, p, rfl, g⟩ := invS_seti i k e h
    simp only [Bool.and_eq_true, Bool.not_eq_true'] at g
    exact c_seti hx g.1.1.1 g.1.1.2 g.1.2 g.2
  | .frz i, a, h => (invS_frz h).elim
  | .iff t a' c, a, h => by
    obtain ⟨x, y, z, p, rfl, g⟩ := invS_iff t a' c h
    simp only [Bool.and_eq_true] at g
    exact c_iff (sT t hx g.1.1) (sSs hx hsc a' g.1.2) (sSs hx hsc c g.2)
  | .for_ tg it body, a, h => by
    obtain ⟨tx, ix, y, p, rfl, g⟩ := invS_for_ tg it body h
    simp only [Bool.and_eq_true, Bool.not_eq_true'] at g
    exact c_for hx g.1.1.1 g.1.1.2 g.1.2 (sSs hx hsc body g.2)
  | .whil m t body, a, h => by
    obtain ⟨x, y, p, rfl, g⟩ := invS_whil m t body h
    simp only [Bool.and_eq_true] at g
    exact c_whil hx (sT t hx g.1) (sSs hx hsc body g.2)
  | .ret e, a, h => by
    obtain ⟨v, p, rfl, g⟩ := invS_ret e h
    exact c_ret g hx
  | .retN, a, h => by
    obtain ⟨p, rfl, _⟩ := invS_retN h
    exact c_retN
  | .pass, a, h => by
    rcases invS_pass h with ⟨p, rfl⟩ | ⟨x, j, q, p, rfl⟩
    · exact c_pass
    · exact c_doc
  | .brk, a, h => by
    obtain ⟨p, rfl, _⟩ := invS_brk h
    exact c_brk
  | .cont, a, h => by
    obtain ⟨p, rfl, _⟩ := invS_cont h
    exact c_cont
theorem sSs (hx : HX M n P X) (hsc : X.env.scope.kind = .function) : ∀ (ss : Ss) {l : List Stmt}, mSs M ss l = true → PSs X l (tSs X.w X.K P ss)
  | .nil, l, h => by
    obtain rfl := mSs_nil h
    exact c_ssNil
  | .cons st ss, l, h => by
    rcases mSs_cons h with ⟨i, rfl, h⟩ | ⟨a, l', rfl, h1, h2⟩
    · exact c_ssFrz (sSs hx hsc ss h)
    · exact c_ssCons (sS hx hsc st h1) (sSs hx hsc ss h2)
end
end
end DL
end
section
set_option Elab.async false
set_option linter.all false
set_option maxRecDepth 100000
set_option maxHeartbeats 4000000
/-! DL17: defs: a def whose text is a term does what the term means. -/
namespace DL
open PySem PySem.Spec PyProof.Rows L2
/-- a def: its name, its text, its parameters, its names, what it is as a term -/
structure Df where
  x : Str
  st : Stmt
  ps : List Str
  N : List Str
  f : Fn
  lam : Bool := false
def Df.M (names : List Str) (gl : List (Str × Int)) (d : Df) : MC := ⟨d.N, defScope d.st, fun _ => true, names, gl, d.lam⟩
def Df.ok (names : List Str) (gl : List (Str × Int)) (d : Df) : Bool :=
  C8.scC d.N d.ps (defScope d.st) && mSs (d.M names gl) d.f.body (defBody d.st) && decide (d.f.np = d.ps.length) && decide (d.f.ns = d.N.length)
structure DIn (K : PySem.W.Frag) (mg : Str → Option Value) (base : Heap) (Tt : Tb) (d : Df) : Prop where
  ex : ∃ (f : Addr) (fd : FuncData), FunD K d.x d.x (defArgs d.st) (defBody d.st) (defScope d.st) [] [] f fd ∧ mg d.x = some (.ref f) ∧ Binds K fd d.ps [] ∧
    (d.lam = true → ∃ c Pt, fd.code = .ref c ∧ LamX.TabB base mg c Pt ∧ (Pt, (d.x ++ ".<locals>.") ++ "<lambda>") ∈ Tt ∧ ∀ p ∈ Tt, p.1 = Pt → p.2 = (d.x ++ ".<locals>.") ++ "<lambda>")
def HasG (P : Program) (w : World) (K : PySem.W.Frag) (mg : Str → Option Value) (base : Heap) (n : Nat) (x : Str) (sp : Sp) : Prop :=
  ∃ (f : Addr) (fd : FuncData) (ps : List Str), mg x = some (.ref f) ∧ PySem.W.keepIn K (.ref f) = true ∧ Binds K fd ps [] ∧ FnOk P w K mg base CX0 n f fd ps sp
theorem HasG.mono {P : Program} {w : World} {K : PySem.W.Frag} {mg : Str → Option Value} {base : Heap} {n m : Nat} {x : Str} {sp : Sp} (h : HasG P w K mg base n x sp) (k : n ≤ m) : HasG P w K mg base m x sp := by
  obtain ⟨f, fd, ps, h1, h2, h3, h4⟩ := h
  exact ⟨f, fd, ps, h1, h2, h3, h4.mono k⟩
section
variable {P : Program} {w : World} {K : PySem.W.Frag} {mg : Str → Option Value} {base : Heap} {names : List Str} {gl : List (Str × Int)}
theorem VsR.noOw {Tt : Tb} {loc : Lc Tt} {B : Hp} : ∀ {vs : List V} {as : List Slot}, VsR w K loc B vs as → ∀ (i : Nat) (d : D) (k : Nat), (as ++ List.replicate k Slot.no)[i]? ≠ some (.ow d)
  | _, _, .nil, i, d, k => fun e => by
    rw [List.nil_append, List.getElem?_replicate] at e
    split at e <;> cases e
  | _, _, .sh _ t, 0, d, k => fun e => by cases e
  | _, _, .sr t, 0, d, k => fun e => by cases e
  | _, _, .sh _ t, i + 1, d, k => fun e => VsR.noOw t i d k (by simpa using e)
  | _, _, .sr t, i + 1, d, k => fun e => VsR.noOw t i d k (by simpa using e)
theorem VsR.slots {Tt : Tb} {loc : Lc Tt} {B H : Hp} {a : Addr} : ∀ {vs : List V} {as : List Slot}, VsR w K loc B vs as → ∀ (i : Nat) (z : Slot) (k : Nat), (as ++ List.replicate k Slot.no)[i]? = some z → SlR w K loc B H a (vs.map some ++ List.replicate k (none : Option V))[i]? z
  | _, _, .nil, i, z, k, e => by
    rw [List.nil_append, List.getElem?_replicate] at e
    split at e
    · cases e; trivial
    · cases e
  | _, _, .sh r t, 0, z, k, e => by cases e; exact ⟨_, rfl, r⟩
  | _, _, .sr t, 0, z, k, e => by cases e; exact rfl
  | _, _, .sh _ t, i + 1, z, k, e => by simpa using VsR.slots t i z k (by simpa using e)
  | _, _, .sr t, i + 1, z, k, e => by simpa using VsR.slots t i z k (by simpa using e)
/-- the state at a def's entry -/
theorem Gd.start {Tt : Tb} {loc : Lc Tt} {O : Addr → Prop} {H : Hp} {s : Src} {vs : List V} {as : List Slot} {N : List Str} (om : ∀ a, loc.mem a → O a) (oT : ∀ a, O a → (H a).isSome = true) (hs : SrcAt loc H s) (r : VsR w K loc (msk O H) vs as) (hl : vs.length ≤ N.length) :
    Gd w K ⟨loc, H, O⟩ (fun _ => loc.1) (L2.start N vs) H (as ++ List.replicate (N.length - as.length) .no) s where
  src := hs
  om := om
  oT := oT
  kp := Kp.refl _ _
  on := fun i d e => (r.noOw i d _ e).elim
  inj := fun i j d e h _ _ => (r.noOw i d _ h).elim
  len := by
    have := r.length
    unfold L2.start
    rw [List.length_append, List.length_append, List.length_map, List.length_replicate, List.length_replicate]
    omega
  sl := fun i z e => by
    have sb : Same (msk O H) (Bs ⟨loc, H, O⟩ (as ++ List.replicate (N.length - as.length) .no) (fun _ => loc.1) H) := msk_same (fun a h => by
      rcases h with h | ⟨j, d, q, _⟩
      · exact h
      · exact (r.noOw j d _ q).elim) fun _ _ _ e => e
    have := (r.mono sb).slots (H := H) (a := loc.1) i z _ e
    unfold L2.start
    rw [r.length]
    exact this
/-- the rule for such a def -/
theorem df_ok {ds : List Df} {n : Nat} {Pn : Fs} {d : Df} (hn : names = ds.map (·.x)) (hk : d.ok names gl = true) (hi : DIn K mg base Pn.T d)
    (blt : ∀ x ∈ bltNames, mg x = none) (hgl : ∀ p ∈ gl, ∃ t, mg p.1 = some (.int p.2 t)) (fnsOk : ∀ (k : Nat) (x : Str), names[k]? = some x → HasG P w K mg base n x (spF w K Pn.T (Pn k)))
    (pick : HasG P w K mg base n "_law_pick" (spPick Pn.T)) (order : HasG P w K mg base n "_law_any_order" (spOrder w K Pn.T)) :
    HasG P w K mg base (n + 1) d.x (spF w K Pn.T fun as s => if as.length = d.f.np ∧ d.f.np ≤ d.f.ns then (evSs Pn d.f.body (as ++ List.replicate (d.f.ns - d.f.np) .no) s).bind fun p => (match p.1.1 with
        | .ret d => some (d, p.2)
        | .next => some (.none, p.2)
        | _ => none) else none) := by
  obtain ⟨f, fd, F, hm, hb, hlam⟩ := hi.ex
  unfold Df.ok at hk
  simp only [Bool.and_eq_true] at hk
  obtain ⟨⟨⟨h1, h2⟩, h3⟩, h4⟩ := hk
  have h3 := of_decide_eq_true h3
  have h4 := of_decide_eq_true h4
  have S := C8.fnScope_by h1
  have hkp := F.kp
  obtain ⟨oc, od, dV, kV, doc, pm, an, cdv, ct, osl, rfl, lk, hcd, _, _⟩ := F.ex
  refine ⟨f, _, d.ps, hm, hkp, hb, fn_of lk hcd S (fun vs H Q E h => ?_) fun A outer s H vs Q E hr h => ?_⟩
  · obtain ⟨loc, O, as, s, om, oT, hs, r, W⟩ := h
    obtain ⟨⟨q1, q2⟩, W⟩ := Wp.ite.mp W
    rw [r.length, q1, h3]
  · obtain ⟨loc, O, as, s0, om, oT, hs, r, W⟩ := h
    obtain ⟨⟨q1, q2⟩, W⟩ := Wp.ite.mp W
    rw [Wp.bind] at W
    have hx : HX (d.M names gl) n Pn (cxOf CX0 P w K mg base d.N d.x (defScope d.st) f cdv A outer s H E).nox := {
      sc := rfl
      N := rfl
      fn := rfl
      nd := S.nd
      calm := rfl
      xe := rfl
      room := hr
      blt := blt
      gl := hgl
      fns := fnsOk
      pick := pick
      order := order
      lam := hlam }
    refine ⟨_, PSs.nox (sSs hx S.kind d.f.body h2), ?_⟩
    have hl : vs.length ≤ d.N.length := by rw [r.length, q1, ← h4]; exact q2
    have G := Gd.start (N := d.N) om oT hs r hl
    refine ⟨⟨loc, H, O⟩, _, _, s0, G, ?_⟩
    have el : d.f.ns - d.f.np = d.N.length - as.length := by rw [q1, h4]
    rw [el] at W
    refine W.mono fun p s1 W1 σ' H' ad' G' sb => ?_
    obtain ⟨fw, env'⟩ := p
    cases fw with
    | next => exact Wp.some.mp W1 _ H' G'.kp G'.src .non
    | ret v => exact fun u ru => Wp.some.mp W1 _ H' G'.kp G'.src (ru.mono (msk_same (fun a h => .inl h) fun _ _ _ e => e))
    | brk => exact (Wp.none.mp W1).elim
    | cont => exact (Wp.none.mp W1).elim
/-- every def of the text, to any depth -/
theorem all_ok {ds : List Df} (hn : names = ds.map (·.x)) (hk : ∀ d ∈ ds, d.ok names gl = true) {Tt : Tb} (hi : ∀ d ∈ ds, DIn K mg base Tt d)
    (blt : ∀ x ∈ bltNames, mg x = none) (hgl : ∀ p ∈ gl, ∃ t, mg p.1 = some (.int p.2 t)) (pick : HasG P w K mg base 1 "_law_pick" (spPick Tt)) (order : HasG P w K mg base 2 "_law_any_order" (spOrder w K Tt)) :
    ∀ (n k : Nat) (x : Str), names[k]? = some x → HasG P w K mg base (n + 2) x (spF w K Tt (run (ds.map (·.f)) Tt n k))
  | 0, k, x, e => by
    subst hn
    rw [List.getElem?_map] at e
    obtain ⟨d, e1, rfl⟩ := Option.map_eq_some_iff.mp e
    obtain ⟨f, fd, F, hm, hb, _⟩ := (hi d (List.mem_of_getElem? e1)).ex
    have no : ∀ vs H Q E, ¬ spF w K Tt (run (ds.map (·.f)) Tt 0 k) vs H Q E := fun vs H Q E ⟨loc, O, as, s, _, _, _, _, W⟩ => by
      simp only [run] at W
      exact Wp.none.mp W
    exact ⟨f, fd, d.ps, hm, F.kp, hb, ⟨fun vs H Q E h => (no vs H Q E h).elim, fun A outer s H args us vs Q E _ _ _ _ h => (no vs H Q E h).elim⟩⟩
  | n + 1, k, x, e => by
    have ih := all_ok hn hk hi blt hgl pick order n
    have hn' := hn
    subst hn
    rw [List.getElem?_map] at e
    obtain ⟨d, e1, rfl⟩ := Option.map_eq_some_iff.mp e
    have hd := List.mem_of_getElem? e1
    have := df_ok (P := P) (w := w) (base := base) (n := n + 2) (Pn := ⟨Tt, run (ds.map (·.f)) Tt n⟩) hn' (hk d hd) (hi d hd) blt hgl ih (pick.mono (by omega)) (order.mono (by omega))
    refine (show (n + 2) + 1 = n + 1 + 2 by omega) ▸ ?_
    have e2 : run (ds.map (·.f)) Tt (n + 1) k = fun as s => if as.length = d.f.np ∧ d.f.np ≤ d.f.ns then (evSs ⟨Tt, run (ds.map (·.f)) Tt n⟩ d.f.body (as ++ List.replicate (d.f.ns - d.f.np) .no) s).bind fun p => (match p.1.1 with
        | .ret d => some (d, p.2)
        | .next => some (.none, p.2)
        | _ => none) else none := by
      funext as s
      simp only [run]
      rw [List.getElem?_map, e1]
      rfl
    rw [e2]
    exact this
end
end DL
end
section
set_option Elab.async false
set_option linter.all false
set_option maxRecDepth 100000
set_option maxHeartbeats 4000000
/-! KS: the law's three helpers over its source, by hand. -/
namespace DL
open PySem PySem.Spec PyProof.Rows L2

def top (i : Nat) : Stmt := PySem.Challenge.pw_oncestream_k77_whole_numbers_held_then_c.main.body.getD i (.Pass ⟨0, 0, 0, 0⟩)
abbrev sOpen : Stmt := top 23
abbrev sPick : Stmt := top 24
abbrev sOrder : Stmt := top 25

section
variable {P : Program} {w : World} {K : PySem.W.Frag} {mg : Str → Option Value} {base : Heap} {f : Addr} {fd : FuncData} {Tt : Tb}
/-! ### the source in the heap -/
section
variable {Tt : Tb} {loc : Lc Tt} {H : Hp} {s : Src}
theorem SrcAt.getL (h : SrcAt loc H s) : DGet H loc.1 (.str "left") (some (.int s.left)) := DGet.k (k := .inr "left") h.2.1
theorem SrcAt.getC (h : SrcAt loc H s) : DGet H loc.1 (.str "cells") (some (.ref loc.2)) := DGet.k (k := .inr "cells") h.2.1
theorem SrcAt.getM (h : SrcAt loc H s) : DGet H loc.1 (.str "mixed") (some (.int s.mixed)) := DGet.k (k := .inr "mixed") h.2.1
theorem SrcAt.getT (h : SrcAt loc H s) : DGet H loc.1 (.str "turn") (some (.int s.turn)) := DGet.k (k := .inr "turn") h.2.1
theorem SrcAt.tabs1 (h : SrcAt loc H s) {o : HO} : ∀ p ∈ Tt, (p.1 ≠ loc.1 ∧ p.1 ≠ loc.2) ∧ LamX.TabS (upd H loc.1 o) p.1 p.2 := fun p hp =>
  ⟨(h.2.2.2 p hp).1, TabS.put (h.2.2.2 p hp).2 (Ne.symm (h.2.2.2 p hp).1.1) (NoCode.dK h.2.1)⟩
theorem SrcAt.tabs2 (h : SrcAt loc H s) {o : HO} : ∀ p ∈ Tt, (p.1 ≠ loc.1 ∧ p.1 ≠ loc.2) ∧ LamX.TabS (upd H loc.2 o) p.1 p.2 := fun p hp =>
  ⟨(h.2.2.2 p hp).1, TabS.put (h.2.2.2 p hp).2 (Ne.symm (h.2.2.2 p hp).1.2) (NoCode.lst h.2.2.1)⟩
theorem four_lt : (4 : Nat) < sizeLine := by decide
theorem SrcAt.putL (h : SrcAt loc H s) (v : Int) : ∃ H', DPut H loc.1 (.str "left") (.int v) H' ∧ SrcAt loc H' { s with left := v } ∧ Kp loc H H' :=
  ⟨_, DPut.k (k := .inr "left") h.2.1 four_lt, ⟨h.1, upd_same, by rw [upd_ne (Ne.symm h.1)]; exact h.2.2.1, h.tabs1⟩, fun a o n1 e => by rw [upd_ne (fun z => n1 (.inl z))]; exact e⟩
theorem SrcAt.putT (h : SrcAt loc H s) (v : Int) : ∃ H', DPut H loc.1 (.str "turn") (.int v) H' ∧ SrcAt loc H' { s with turn := v } ∧ Kp loc H H' :=
  ⟨_, DPut.k (k := .inr "turn") h.2.1 four_lt, ⟨h.1, upd_same, by rw [upd_ne (Ne.symm h.1)]; exact h.2.2.1, h.tabs1⟩, fun a o n1 e => by rw [upd_ne (fun z => n1 (.inl z))]; exact e⟩
theorem SrcAt.pop {c : Int} {cs : List Int} (h : SrcAt loc H s) (e : s.cells = c :: cs) : ∃ xs, H loc.2 = some (.lst xs) ∧ xs[xs.length - 1]? = some (.int c) ∧ SrcAt loc (upd H loc.2 (.lst xs.dropLast)) { s with cells := cs } ∧ Kp loc H (upd H loc.2 (.lst xs.dropLast)) := by
  have h2 := h.2.2.1
  rw [e, List.reverse_cons, List.map_append] at h2
  refine ⟨_, h2, by simp, ⟨h.1, by rw [upd_ne h.1]; exact h.2.1, by rw [upd_same]; simp, h.tabs2⟩, fun a o n1 e => by rw [upd_ne (fun z => n1 (.inr (.inl z)))]; exact e⟩
theorem tAnd_go {t u : TT} {σ : L2.St} {b c : Bool} {Q : Bool → Hp → Prop} (ht : ∀ Q : Bool → Hp → Prop, Q b H → t σ H Q) (hu : ∀ Q : Bool → Hp → Prop, Q c H → u σ H Q) (q : Q (b && c) H) : tAnd t u σ H Q := by
  refine ht _ ?_
  cases b with
  | true => exact iteT (hu _ q)
  | false => exact iteF q
theorem refill_done {cs : List Int} {l : Int} (h : ¬ (l < 2 ∧ cs ≠ [])) : refill cs l = (cs, l) := by
  cases cs with
  | nil => rfl
  | cons c cs =>
    have : ¬ l < 2 := fun z => h ⟨z, by simp⟩
    show (if l < 2 then _ else _) = _
    rw [if_neg this]
theorem refill_go {c : Int} {cs : List Int} {l : Int} (h : l < 2) : refill (c :: cs) l = refill cs c := by
  show (if l < 2 then _ else _) = _
  rw [if_pos h]
end
abbrev nPick : List Str := ["_law_source", "_law_most", "_law_cells", "_law_others", "_law_lap", "_law_stirred"]
abbrev pPick : List Str := ["_law_source", "_law_most"]
theorem scPick : FnScope nPick pPick (defScope sPick) := C8.fnScope_by (by decide +kernel)
theorem ok_pick (F : FunD K "_law_pick" "_law_pick" (defArgs sPick) (defBody sPick) (defScope sPick) [] [] f fd) (mL : mg "len" = none) (mI : mg "int" = none) : FnOk P w K mg base CX0 1 f fd pPick (spPick Tt) := by
  refine F.ok scPick (fun vs H Q E h => ?_) fun cdv A outer s H vs Q E hr h => ?_
  · obtain ⟨loc, s, m, rfl, _⟩ := h
    rfl
  · have hu := hu_of hr
    have hN := scPick.nd
    refine ⟨_, PSs.nox (
      pss_cons (ps_if (pt_cmp (pc_lt (pv 1) pe_int)) (pss_one (ps_ret pe_int)) pss_nil) (
      pss_cons (ps_set (i := 2) hN rfl (Or.inl rfl) (pe_dget hu (pv 0) pe_str (by intro _ _; rfl))) (
      pss_cons (ps_while PassesOwn.never (PW.pt (pw_and (pt_cmp (pc_lt (pe_dget hu (pv 0) pe_str (by intro _ _; rfl)) pe_int)) (pw_and1 (pt_cmp (pc_gt (pe_callB call_len (by rfl) mL boot_len (pa_cons (pv 2) pa_nil)) pe_int))))) (pss_one (ps_dput hu (pv 0) pe_str (pe_bm0 PySem.F.plainAttrs_list PySem.F.slot_list_pop PySem.F.type_list_pop mt_pop (pv 2)) rfl))) (
      pss_cons (ps_set (i := 3) hN rfl (Or.inl rfl) (pe_dget hu (pv 0) pe_str (by intro _ _; rfl))) (
      pss_cons (ps_if (pt_cmp (pc_gt (pv 3) pe_int)) (pss_cons (ps_dput hu (pv 0) pe_str (pe_op op_fdivW (pv 3) (pv 1)) rfl) (pss_one (ps_ret (pe_op op_mod (pe_callTy call_int1 (by rfl) mI PySem.Pv.boot_int (pa_cons (pv 3) pa_nil)) (pv 1))))) pss_nil) (
      pss_cons (ps_dput hu (pv 0) pe_str (pe_op op_add (pe_dget hu (pv 0) pe_str (by intro _ _; rfl)) pe_int) rfl) (
      pss_cons (ps_set (i := 4) hN rfl (Or.inl rfl) (pe_dget hu (pv 0) pe_str (by intro _ _; rfl))) (
      pss_cons (ps_set (i := 5) hN rfl (Or.inl rfl) (pe_op op_mod (pe_callTy call_int1 (by rfl) mI PySem.Pv.boot_int (pa_cons (pe_op op_add (pe_dget hu (pv 0) pe_str (by intro _ _; rfl)) (pe_op op_mul (pv 4) pe_int)) pa_nil)) pe_int)) (
      pss_cons (ps_set (i := 5) hN rfl (Or.inl rfl) (pe_op op_mod (pe_callTy call_int1 (by rfl) mI PySem.Pv.boot_int (pa_cons (pe_op op_add (pe_op op_mul (pv 5) (pv 5)) (pe_op op_mul (pv 4) pe_int)) pa_nil)) pe_int)) (
      pss_one (ps_ret (pe_op op_mod (pe_callTy call_int1 (by rfl) mI PySem.Pv.boot_int (pa_cons (pe_op op_fdiv (pv 5) pe_int) pa_nil)) (pv 1))))))))))))), ?_⟩
    obtain ⟨loc, s0, m, rfl, hm, hs, q⟩ := h
    refine ⟨_, rfl, _, _, rfl, rfl, _, rfl, ?_⟩
    show if decide (m < 2) = true then _ else _
    by_cases h2 : m < 2
    · rw [if_pos (decide_eq_true h2)]
      have e : pickF s0 m = (0, s0) := by unfold pickF; rw [if_pos h2]
      rw [e] at q
      exact q H (Kp.refl _ _) hs
    · rw [if_neg (fun z => h2 (of_decide_eq_true z))]
      refine ⟨_, rfl, _, _, rfl, hs.getC, ?_⟩
      refine ⟨fun n σ H' => σ = [some (.ref loc.1), some (.int m), some (.ref loc.2), none, none, none] ∧ ∃ cs l, n = cs.length ∧ Kp loc H H' ∧ SrcAt loc H' { s0 with cells := cs, left := l } ∧ refill cs l = refill s0.cells s0.left, ⟨_, rfl, s0.cells, s0.left, rfl, Kp.refl _ _, hs, rfl⟩, fun n σ H1 hW => ?_⟩
      obtain ⟨rfl, cs, l, rfl, k1, hs1, hr1⟩ := hW
      refine tAnd_go (b := decide (l < 2)) (c := decide (((cs.length : Nat) : Int) > 0)) (fun Q q => ⟨_, rfl, _, _, rfl, hs1.getL, _, _, rfl, rfl, _, rfl, q⟩) (fun Q q => ⟨_, rfl, _, cs.length, rfl, .inl ⟨_, SqL.of hs1.2.2.1, by simp⟩, _, _, rfl, rfl, _, rfl, q⟩) ?_
      cases hb : (decide (l < 2) && decide (((cs.length : Nat) : Int) > 0)) with
      | true =>
        rw [Bool.and_eq_true, decide_eq_true_eq, decide_eq_true_eq] at hb
        obtain ⟨c, cs', rfl⟩ : ∃ c cs', cs = c :: cs' := by
          cases cs with
          | nil => simp at hb
          | cons c cs' => exact ⟨c, cs', rfl⟩
        obtain ⟨xs, hx, hl, hs2, k2⟩ := hs1.pop rfl
        obtain ⟨H3, hp, hs3, k3⟩ := hs2.putL c
        refine iteT ⟨fun σ' H' => σ' = [some (.ref loc.1), some (.int m), some (.ref loc.2), none, none, none] ∧ Kp loc H H' ∧ SrcAt loc H' { s0 with cells := cs', left := c }, fun σ' H' ⟨e1, e2, e3⟩ => ⟨cs'.length, Nat.lt_succ_self _, e1, cs', c, rfl, e2, e3, by rw [← hr1, refill_go hb.1]⟩, ?_⟩
        exact ⟨_, rfl, .inl ⟨rfl, _, SqL.of hx⟩, _, _, _, rfl, rfl, hx, hl, _, rfl, _, H3, rfl, hp, rfl, k1.trans (k2.trans k3), hs3⟩
      | false =>
        have hn : ¬ (l < 2 ∧ cs ≠ []) := fun ⟨z1, z2⟩ => by
          rw [Bool.and_eq_false_iff, decide_eq_false_iff_not, decide_eq_false_iff_not] at hb
          rcases hb with hb | hb
          · exact hb z1
          · cases cs with
            | nil => exact z2 rfl
            | cons c cs' => simp at hb
        rw [refill_done hn] at hr1
        have hp : pickF s0 m = if l > 1 then (l % m, { s0 with cells := cs, left := l / m }) else
            (((((s0.mixed + (s0.turn + 1) * 104729) % 998244353) * ((s0.mixed + (s0.turn + 1) * 104729) % 998244353) + (s0.turn + 1) * 17) % 2147483647 / 16) % m, { s0 with cells := cs, left := l, turn := s0.turn + 1 }) := by
          unfold pickF
          rw [if_neg h2, ← hr1]
        rw [hp] at q
        refine iteF ⟨_, rfl, _, _, rfl, hs1.getL, _, rfl, _, _, rfl, rfl, _, rfl, ?_⟩
        show if decide (l > 1) = true then _ else _
        by_cases h3 : l > 1
        · rw [if_pos h3] at q
          rw [if_pos (decide_eq_true h3)]
          obtain ⟨H3, hp, hs3, k3⟩ := hs1.putL (l / m)
          refine ⟨_, rfl, _, rfl, _, _, rfl, rfl, wide_div (b := 400) (by omega) ?_ (by decide) (by decide), _, rfl, _, H3, rfl, hp, ?_⟩
          · have h4 : m.natAbs ≤ 10 ^ 100 := by omega
            exact Nat.lt_of_le_of_lt h4 (by decide)
          · exact ⟨_, rfl, .inl ⟨_, rfl, _, rfl, _, _, rfl, rfl, by omega, q H3 (k1.trans k3) hs3⟩⟩
        · rw [if_neg h3] at q
          rw [if_neg (fun z => h3 (of_decide_eq_true z))]
          obtain ⟨H3, hp, hs3, k3⟩ := hs1.putT (s0.turn + 1)
          refine ⟨_, rfl, _, _, rfl, hs1.getT, _, _, rfl, rfl, _, rfl, _, H3, rfl, hp, ?_⟩
          refine ⟨_, rfl, _, _, rfl, hs3.getT, ?_⟩
          refine ⟨_, rfl, _, _, rfl, hs3.getM, ?_⟩
          refine ⟨_, rfl, _, _, rfl, rfl, .inr ⟨by decide, by decide⟩, _, _, rfl, rfl, .inl ⟨_, rfl, _, _, rfl, rfl, (show (0 : Int) < 998244353 by decide), ?_⟩⟩
          refine ⟨_, rfl, _, rfl, _, _, rfl, rfl, .inl ⟨by omega, by omega⟩, ?_⟩
          refine ⟨_, rfl, _, _, rfl, rfl, .inr ⟨by decide, by decide⟩, _, _, rfl, rfl, .inl ⟨_, rfl, _, _, rfl, rfl, (show (0 : Int) < 2147483647 by decide), ?_⟩⟩
          refine ⟨_, rfl, _, _, rfl, rfl, ⟨by decide, by decide⟩, .inl ⟨_, rfl, _, rfl, _, _, rfl, rfl, by omega, ?_⟩⟩
          exact q H3 (k1.trans k3) hs3

/-! ### things in a drawn order -/
theorem RlL.eraseIdx {w : World} {K : PySem.W.Frag} {B : Hp} : ∀ (i : Nat) {vs : List V} {ds : List D}, RlL w K B vs ds → RlL w K B (vs.eraseIdx i) (ds.eraseIdx i)
  | _, _, _, .nil => .nil
  | 0, _, _, .cons _ t => t
  | i + 1, _, _, .cons h t => .cons h (RlL.eraseIdx i t)
abbrev nOrder : List Str := ["_law_source", "_law_things", "_law_others", "_law_lap"]
abbrev pOrder : List Str := ["_law_source", "_law_things"]
theorem scOrder : FnScope nOrder pOrder (defScope sOrder) := C8.fnScope_by (by decide +kernel)
abbrev xOrder : Scope := match defBody sOrder with
  | [_, .Return (some (.ListComp _ _ sc _)) _] => sc
  | _ => ⟨.function, [], false, false, []⟩
theorem blkOrder : blkC nOrder (defScope sOrder) xOrder [("_law_lap", 3)] = true := by decide +kernel
theorem listF_of {d : D} {ds : List D} (h : seqItems d = some ds) : listF d = some (.list ds) := by
  rcases seqItems_inv h with rfl | rfl <;> rfl
theorem ok_order (F : FunD K "_law_any_order" "_law_any_order" (defArgs sOrder) (defBody sOrder) (defScope sOrder) [] [] f fd) (hp : HasG P w K mg base 1 "_law_pick" (spPick Tt)) (mL : mg "len" = none) (mI : mg "list" = none) (mR : mg "range" = none) :
    FnOk P w K mg base CX0 2 f fd pOrder (spOrder w K Tt) := by
  refine F.ok scOrder (fun vs H Q E h => ?_) fun cdv A outer s H vs Q E hr h => ?_
  · obtain ⟨loc, s, B, x, d, ds, rfl, _⟩ := h
    rfl
  · have hu := hu_of hr
    have hN := scOrder.nd
    obtain ⟨g, gd, ps, hm, hk, hb, G⟩ := hp
    refine ⟨_, PSs.nox (
      pss_cons (ps_set (i := 2) hN rfl (Or.inr rfl) (pe_callTy (ok_b1 rfl .list_) (by rfl) mI PySem.Pv.boot_list (pa_cons (pv 1) pa_nil))) (
      pss_one (ps_ret (pe_lc (own := [("_law_lap", 3)]) (te := tBM K "list" rPopAt (tVar 2) (tCons (tCall (spPick Tt) [] E0 (tCons (tVar 0) (tCons (tCB (rLen K) (tCons (tVar 2) tNil)) tNil))) tNil)) rfl hN (pi_range1 (by rfl) mR (pa_cons (pe_callB call_len (by rfl) mL boot_len (pa_cons (pv 2) pa_nil)) pa_nil)) (blkOk_by blkOrder)
        (g := gName 3) (tt := tYes) (fun _ _ _ _ _ => pg_name (i := 3) hN rfl (Or.inl rfl) (Or.inr rfl)) (fun _ _ _ _ _ => pts_nil)
        (fun _ _ _ _ _ => pe_bm PySem.F.plainAttrs_list PySem.F.slot_list_pop PySem.F.type_list_pop mt_popAt (pv 2) (pa_cons (pe_call G hr (by rfl) hm hk hb .nil pass0 (pa_cons (pv 0) (pa_cons (pe_callB call_len (by rfl) mL boot_len (pa_cons (pv 2) pa_nil)) pa_nil))) pa_nil)))))), ?_⟩
    obtain ⟨loc, s0, B, x, d, ds, rfl, sb, hB, fx, hd, hl, hs, q⟩ := h
    refine ⟨_, rfl, x, rfl, B, d, .list ds, sb, fx, listF_of hd, fun v H1 sm _ hf => ?_⟩
    obtain ⟨p, o, rfl, hp, rfl, xs, hx, rx⟩ := hf rfl rfl
    rw [upd_same] at hx
    cases hx
    have np : ∀ (a : Addr) (o : HO), H a = some o → a ≠ p := fun a o e z => by rw [z, hp] at e; cases e
    have n1 : loc.1 ≠ p := np _ _ hs.2.1
    have n2 : loc.2 ≠ p := np _ _ hs.2.2.1
    have n3 : ¬ loc.mem p := fun z => by
      rcases z with z | z | ⟨t, ht, z⟩
      · exact n1 z.symm
      · exact n2 z.symm
      · obtain ⟨ps', e, _⟩ := (hs.2.2.2 t ht).2
        exact np _ _ e z
    have k1 : Kp loc H (upd H p (.lst xs)) := Kp.of sm
    refine ⟨_, rfl, .ref p, xs.length, rfl, .inl ⟨xs, SqL.of upd_same, rfl⟩, _, rfl, by omega, ?_, fun D hD => ?_⟩
    · rw [rx.length]
      have : ds.length ≤ 1000000 := hl
      omega
    have nD : ∀ (a : Addr) (o : HO), upd H p (.lst xs) a = some o → a ≠ D := fun a o e z => by rw [z, hD] at e; cases e
    have nDp : p ≠ D := nD p _ upd_same
    have nD1 : loc.1 ≠ D := nD _ _ (sm _ _ hs.2.1)
    have nD2 : loc.2 ≠ D := nD _ _ (sm _ _ hs.2.2.1)
    have nD3 : ¬ loc.mem D := fun z => by
      rcases z with z | z | ⟨t, ht, z⟩
      · exact nD1 z.symm
      · exact nD2 z.symm
      · obtain ⟨ps', e, _⟩ := (hs.2.2.2 t ht).2
        exact nD _ _ (sm _ _ e) z
    have hxl : ((xs.length : Nat) : Int).toNat = ds.length := by rw [Int.toNat_natCast, rx.length]
    rw [hxl]
    refine lc_range (fun i Hc => ∃ (ys : List V) (es : List PyData) (acc : List V) (ad : List PyData) (sc : Src), es.length + i = ds.length ∧ Hc p = some (.lst ys) ∧ RlL w K B ys es ∧ Hc D = some (.lst acc) ∧ RlL w K B acc ad ∧ acc.length = i ∧ SrcAt loc Hc sc ∧ Kp loc H Hc ∧
      ad ++ (orderF es.length es sc).1 = (orderF ds.length ds s0).1 ∧ (orderF es.length es sc).2 = (orderF ds.length ds s0).2) ?_ ?_ ?_
    · exact ⟨xs, ds, [], [], s0, rfl, by rw [upd_ne nDp]; exact upd_same, rx, upd_same, .nil, rfl, (hs.same sm).same (Same.upd hD), k1.trans (Kp.of (Same.upd hD)), rfl, rfl⟩
    · rintro i Hc hi ⟨ys, es, acc, ad, sc, hle, hy, ry, ha, ra, hal, hsc, kc, ho1, ho2⟩
      obtain ⟨e, es', rfl⟩ : ∃ e es', es = e :: es' := by
        cases es with
        | nil => simp at hle; omega
        | cons e es' => exact ⟨e, es', rfl⟩
      have hyl : ys.length = es'.length + 1 := ry.length
      have h1 : ys.length ≤ 1000000 := by
        have : ds.length ≤ 1000000 := hl
        rw [List.length_cons] at hle
        omega
      have hml : ((ys.length : Nat) : Int) ≤ 10 ^ 100 := by
        exact Int.le_trans (Int.ofNat_le.mpr h1) (by decide)
      have hb := pick_bounds sc ((ys.length : Nat) : Int) (by omega)
      generalize hr : pickF sc ((ys.length : Nat) : Int) = r at hb
      have hrl : r.1.toNat < ys.length := by omega
      refine ⟨rfl, ?_⟩
      show tBM K "list" rPopAt (tVar 2) (tCons (tCall (spPick Tt) [] E0 (tCons (tVar 0) (tCons (tCB (rLen K) (tCons (tVar 2) tNil)) tNil))) tNil) _ Hc _
      refine ⟨_, rfl, .inl ⟨rfl, ys, SqL.of hy⟩, _, rfl, _, rfl, .ref p, ys.length, rfl, .inl ⟨ys, SqL.of hy, rfl⟩, loc, sc, ((ys.length : Nat) : Int), rfl, hml, hsc, fun H4 k4 hs4 => ?_⟩
      rw [hr] at hs4 ⊢
      have hy4 := k4 p _ n3 hy
      have ha4 := k4 D _ nD3 ha
      refine ⟨p, ys, r.1, r.1.toNat, ys[r.1.toNat], rfl, rfl, hy4, by omega, by omega, seqIndex_of (by omega) (by omega), List.getElem?_eq_getElem hrl, acc, by rw [upd_ne (Ne.symm nDp)]; exact ha4, ?_, ?_⟩
      · have : ds.length ≤ 1000000 := hl
        exact lim_lt (by rw [hal]; show i ≤ 1000000; omega)
      · obtain ⟨d1, hd1, rd1⟩ := ry.get' (List.getElem?_eq_getElem hrl)
        refine ⟨ys.eraseIdx r.1.toNat, (e :: es').eraseIdx r.1.toNat, acc ++ [ys[r.1.toNat]], ad ++ [d1], r.2, ?_, by rw [upd_ne nDp, upd_same], ry.eraseIdx _, upd_same, ra.append (.cons rd1 .nil), by rw [List.length_append, hal]; rfl, ?_, ?_, ?_, ?_⟩
        · rw [List.length_eraseIdx_of_lt (by rw [List.length_cons]; omega)]
          rw [List.length_cons] at hle ⊢
          omega
        · exact (hs4.put n3 (NoCode.lst hy4)).put nD3 (NoCode.lst (by rw [upd_ne (Ne.symm nDp)]; exact ha4))
        · intro a o m1 e1
          have hap := np a o e1
          have haD := nD a o (sm _ _ e1)
          rw [upd_ne haD, upd_ne hap]
          exact k4 a o m1 (kc a o m1 e1)
        · rw [← ho1, List.length_eraseIdx_of_lt (by rw [List.length_cons]; omega), List.length_cons]
          show _ = ad ++ (orderF (es'.length + 1) (e :: es') sc).1
          have : (((e :: es').length : Nat) : Int) = ((ys.length : Nat) : Int) := by rw [hyl, List.length_cons]
          simp only [orderF, this, hr, hd1, Option.getD_some, List.append_assoc, List.singleton_append, Nat.add_sub_cancel]
        · rw [← ho2, List.length_eraseIdx_of_lt (by rw [List.length_cons]; omega), List.length_cons]
          show _ = (orderF (es'.length + 1) (e :: es') sc).2
          have : (((e :: es').length : Nat) : Int) = ((ys.length : Nat) : Int) := by rw [hyl, List.length_cons]
          simp only [orderF, this, hr, Nat.add_sub_cancel]
    · rintro Hc ⟨ys, es, acc, ad, sc, hle, hy, ry, ha, ra, hal, hsc, kc, ho1, ho2⟩
      obtain rfl : es = [] := List.eq_nil_of_length_eq_zero (by omega)
      simp only [List.length_nil, orderF, List.append_nil] at ho1 ho2
      refine q D acc Hc ?_ kc ?_ ha ?_
      · cases z : H D with
        | none => rfl
        | some o => exact (nD D _ (sm _ _ z) rfl).elim
      · rw [← ho2]; exact hsc
      · rw [← ho1]; exact ra

/-! ### the source is opened -/
def stir : Int → List Int → Int
  | a, [] => a
  | a, c :: cs => stir ((a * 69069 + c * 31 + 5) % 2147483629) cs
def absI (i : Int) : Int := if i < 0 then -i else i
def openF (ns : List Int) : Src := { cells := ns.map absI, left := 1, mixed := stir 11 ns, turn := 0 }
def spOpen (K : PySem.W.Frag) (Tt : Tb) : Sp := fun vs H Q _ => ∃ (a : Addr) (ns : List Int), vs = [.ref a] ∧ LamX.Tabs Tt H ∧ SqL K H a (ns.map V.int) ∧ ns.length ≤ 1000 ∧
  ∀ (loc : Lc Tt) (H' : Hp), H loc.1 = none → H loc.2 = none → Same H H' → SrcAt loc H' (openF ns) → Q (.ref loc.1) H'
abbrev nOpen : List Str := ["_law_script", "_law_stirred", "_law_cell", "_law_cells"]
abbrev pOpen : List Str := ["_law_script"]
theorem scOpen : FnScope nOpen pOpen (defScope sOpen) := C8.fnScope_by (by decide +kernel)
abbrev xOpen : Scope := match defBody sOpen with
  | [_, _, .Assign _ (.ListComp _ _ sc _) _, _] => sc
  | _ => ⟨.function, [], false, false, []⟩
theorem blkOpen : blkC nOpen (defScope sOpen) xOpen [("_law_cell", 2)] = true := by decide +kernel
theorem ok_open (F : FunD K "_law_open_cells" "_law_open_cells" (defArgs sOpen) (defBody sOpen) (defScope sOpen) [] [] f fd) (mI : mg "int" = none) (mA : mg "abs" = none) :
    FnOk P w K mg base CX0 1 f fd pOpen (spOpen K Tt) := by
  refine F.ok scOpen (fun vs H Q E h => ?_) fun cdv A outer s H vs Q E hr h => ?_
  · obtain ⟨a, ns, rfl, _⟩ := h
    rfl
  · have hu := hu_of hr
    have hN := scOpen.nd
    refine ⟨_, PSs.nox (
      pss_cons (ps_set (i := 1) hN rfl (Or.inl rfl) pe_int) (
      pss_cons (ps_for PassesOwn.never rfl (pi_list (pv 0)) (pg_name (i := 2) hN rfl (Or.inl rfl) (Or.inr rfl))
        (pss_one (ps_set (i := 1) hN rfl (Or.inl rfl) (pe_op op_mod (pe_callTy call_int1 (by rfl) mI PySem.Pv.boot_int (pa_cons (pe_op op_add (pe_op op_add (pe_op op_mul (pv 1) pe_int) (pe_op op_mul (pv 2) pe_int)) pe_int) pa_nil)) pe_int)))) (
      pss_cons (ps_setLc (i := 3) (own := [("_law_cell", 2)]) (te := tCB (fun xs H Q => ∃ i, xs = [.int i] ∧ Q (.int (if i < 0 then -i else i)) H) (tCons (tVar 2) tNil)) rfl hN rfl rfl (sw_true rfl rfl rfl rfl) (pi_list (pv 0)) (blkOk_by blkOpen)
        (g := gName 2) (tt := tYes) (fun _ _ _ _ _ => pg_name (i := 2) hN rfl (Or.inl rfl) (Or.inr rfl)) (fun _ _ _ _ _ => pts_nil)
        (fun _ _ _ _ _ => pe_callB call_abs (by rfl) mA (b1_boot .abs_) (pa_cons (pv 2) pa_nil))) (
      pss_one (ps_ret (pe_disp (pps_cons pe_str (pe_revL (pv 3)) (pps_cons pe_str pe_int (pps_cons pe_str (pv 1) (pps_cons pe_str pe_int pps_nil)))) rfl rfl (by simp) (by decide))))))), ?_⟩
    obtain ⟨a, ns, rfl, htab, hq, hz, q⟩ := h
    have at_ : ∀ {i : Nat} {x : V}, (ns.map V.int)[i]? = some x → ∃ (hi : i < ns.length), x = .int ns[i] := fun {i x} e => by
      rw [List.getElem?_map] at e
      obtain ⟨c, h1, rfl⟩ := Option.map_eq_some_iff.mp e
      obtain ⟨hi, rfl⟩ := List.getElem?_eq_some_iff.mp h1
      exact ⟨hi, rfl⟩
    refine ⟨_, rfl, a, rfl, ⟨_, hq⟩, ?_⟩
    refine for_list (xs := ns.map V.int) (fun i σ Hc => Hc = H ∧ ∃ (st : Int) (c : Option V), σ = [some (.ref a), some (.int st), c, none] ∧ stir st (ns.drop i) = stir 11 ns) ⟨rfl, 11, none, rfl, rfl⟩ (fun i σ Hc _ h => by rw [h.1]; exact hq) ?_ ?_
    · rintro i x σ Hc hx ⟨hH, st, c, rfl, hst⟩
      obtain rfl : H = Hc := hH.symm
      obtain ⟨hi, rfl⟩ := at_ hx
      rw [List.drop_eq_getElem_cons hi] at hst
      refine ⟨_, rfl, _, _, rfl, rfl, .inr ⟨by decide, by decide⟩, _, rfl, _, _, rfl, rfl, .inr ⟨by decide, by decide⟩, _, _, rfl, rfl, _, _, rfl, rfl, .inl ⟨_, rfl, _, _, rfl, rfl, (show (0 : Int) < 2147483629 by decide), ?_⟩⟩
      exact ⟨rfl, _, _, rfl, hst⟩
    · rintro σ Hc ⟨hH, st, c, rfl, hst⟩
      obtain rfl : H = Hc := hH.symm
      rw [List.length_map, List.drop_length] at hst
      have hst : st = stir 11 ns := hst
      subst hst
      refine ⟨_, rfl, a, rfl, ⟨_, hq⟩, fun D hD => ?_⟩
      have nDa : ∀ (b : Addr) (o : HO), H b = some o → b ≠ D := fun b o e z => by rw [z, hD] at e; cases e
      refine lc_list (xs := ns.map V.int) (fun i Hc => Same H Hc ∧ Hc D = some (.lst ((ns.take i).map fun c => V.int (absI c)))) ⟨Same.upd hD, upd_same⟩ (fun i Hc _ h => h.1.seq hq) ?_ ?_
      · rintro i x Hc hx ⟨sm, hDc⟩
        obtain ⟨hi, rfl⟩ := at_ hx
        refine ⟨rfl, ?_⟩
        dsimp only [tYes]
        rw [if_pos rfl]
        refine ⟨_, rfl, _, rfl, _, hDc, ?_, fun b o e => by rw [upd_ne (nDa b o e)]; exact sm b o e, ?_⟩
        · rw [List.length_map, List.length_take]
          exact lim_lt (show _ ≤ 1000000 by omega)
        · rw [upd_same, List.take_succ_eq_append_getElem hi, List.map_append]
          rfl
      · rintro Hc ⟨sm, hDc⟩
        rw [List.length_map, List.take_length] at hDc
        refine fun p hp => ⟨_, rfl, D, _, rfl, SqL.of (by rw [upd_ne (ne_of_none hDc hp)]; exact hDc), fun r hr => ?_⟩
        have npr : p ≠ r := fun z => by rw [← z, upd_same] at hr; cases hr
        have np : ∀ (b : Addr) (o : HO), Hc b = some o → b ≠ p := fun b o e z => by rw [z, hp] at e; cases e
        have nr : ∀ (b : Addr) (o : HO), Hc b = some o → b ≠ r := fun b o e z => by
          rw [z] at e
          rw [upd_ne (fun (w : r = p) => npr w.symm), e] at hr
          cases hr
        refine ⟨_, rfl, by rw [upd_ne npr, upd_same], [(.inr "cells", .ref r), (.inr "left", .int 1), (.inr "mixed", .int (stir 11 ns)), (.inr "turn", .int 0)], rfl, (show 4 ≤ 15 by decide), ?_⟩
        refine q ⟨p, r⟩ _ ?_ ?_ ?_ ?_
        · cases z : H p with
          | none => rfl
          | some o => exact (np _ _ (sm _ _ z) rfl).elim
        · cases z : H r with
          | none => rfl
          | some o => exact (nr _ _ (sm _ _ z) rfl).elim
        · intro b o e
          have e1 := sm b o e
          rw [upd_ne (np b o e1), upd_ne (nr b o e1), upd_ne (np b o e1)]
          exact e1
        · refine ⟨npr, upd_same, ?_⟩
          refine ⟨?_, fun t ht => ?_⟩
          · show upd _ p _ r = _
            rw [upd_ne (Ne.symm npr), upd_same]
            show some (HO.lst _) = some (HO.lst ((List.map absI ns).reverse.map V.int))
            rw [← List.map_reverse, ← List.map_reverse, List.map_map]
            rfl
          · obtain ⟨ps', e, e2⟩ := htab t ht
            have e0 := sm _ _ e
            refine ⟨⟨np _ _ e0, nr _ _ e0⟩, LamX.TabS.ext ⟨ps', e, e2⟩ fun b o z => ?_⟩
            have e1 := sm b o z
            rw [upd_ne (np b o e1), upd_ne (nr b o e1), upd_ne (np b o e1)]
            exact e1
end
end DL
end
section
set_option Elab.async false
set_option linter.all false
set_option maxRecDepth 100000
set_option maxHeartbeats 4000000
/-! KG: the law's defs as terms (printed by gen.py), and that their texts are these terms. -/
namespace DL
open PySem PySem.Spec PyProof.Rows L2
/-- how a def's call binds -/
def Bd (d : Df) : Prop := ∀ (kV doc pm : Value) (an : Option Addr) (cdv ct : Value) (us : List Value), us.length = d.ps.length → bindArgs (PySem.W.fnOf d.x d.x (defArgs d.st) (defBody d.st) (defScope d.st) .none kV doc pm an cdv ct) ⟨us, []⟩ = pure (d.ps.zip us)
namespace K77
def b_fresh_outside : Ss := (.cons (.ret (.tup (.cons (.int 0) (.cons (.tup .nil) (.cons (.tup .nil) .nil))))) .nil)
def d_fresh_outside : Df := { x := "fresh_outside", st := top 1, ps := [], N := [], f := ⟨0, 0, b_fresh_outside⟩ }
def b_last_of : Ss := (.cons (.asg (.one 1) (.idx (.var 0) (.int 2))) (.cons (.ret (.ifx (.ev (.var 1)) (.idx (.idx (.var 1) (.neg (.int 1))) (.int 0)) (.int 0))) .nil))
def d_last_of : Df := { x := "last_of", st := top 2, ps := ["outside"], N := ["outside", "commits"], f := ⟨1, 2, b_last_of⟩ }
def b_held : Ss := (.cons (.asg (.many (.cons (.one 4) (.cons (.one 5) (.cons (.one 6) .nil)))) (.var 0)) (.cons (.iff (.cmp .lt (.idx (.var 1) (.int 1)) (.var 4)) (.cons (.ret (.tup (.cons (.var 0) (.cons (.tup .nil) .nil)))) .nil) .nil) (.cons (.asg (.one 2) (.and (.cmp .gt (.idx (.var 1) (.int 2)) (.call 1 (.cons (.var 0) .nil))) (.cmp .notin (.slc (.var 1) (.some (.int 1)) (.some (.int 4))) (.comp (.one 7) (.seq (.var 5)) .nil [7] (.slc (.var 7) .no (.some (.int 3))))))) (.cons (.asg (.one 3) (.ifx (.ev (.var 2)) (.b1 .tuple_ (.sortS (.lst (.star (.var 5) (.cons (.slc (.var 1) (.some (.int 1)) .no) .nil))) 3)) (.var 5))) (.cons (.ret (.tup (.cons (.tup (.cons (.var 4) (.cons (.var 3) (.cons (.var 6) .nil)))) (.cons (.tup (.cons (.tup (.cons (.str "held") (.star (.slc (.var 1) (.some (.int 1)) (.some (.int 4))) .nil))) .nil)) .nil)))) .nil)))))
def d_held : Df := { x := "held", st := top 3, ps := ["outside", "letter"], N := ["outside", "letter", "is_new", "more", "epoch", "holds", "commits", "hold"], f := ⟨2, 8, b_held⟩, lam := true }
def b_committed_by : Ss := (.cons (.asg (.many (.cons (.one 4) (.cons (.one 5) (.cons (.one 6) .nil)))) (.var 0)) (.cons (.asg (.many (.cons (.one 7) (.cons (.one 8) (.cons (.one 9) (.cons (.one 10) .nil))))) (.var 1)) (.cons (.iff (.cmp .le (.var 9) (.call 1 (.cons (.var 0) .nil))) (.cons (.ret (.tup (.cons (.var 0) (.cons (.tup (.cons (.tup (.cons (.str "done") (.cons (.var 9) .nil))) .nil)) .nil)))) .nil) .nil) (.cons (.asg (.one 2) (.b1 .tuple_ (.comp (.many (.cons (.one 12) (.cons (.one 13) (.cons (.one 14) (.cons (.one 15) .nil))))) (.seq (.var 5)) (.cons (.and (.cons (.cmp .eq (.tup (.cons (.var 12) (.cons (.var 13) .nil))) (.tup (.cons (.var 8) (.cons (.var 9) .nil)))) (.cons (.cmp .isin (.var 14) (.var 10)) .nil))) .nil) [12, 13, 14, 15] (.tup (.cons (.var 14) (.cons (.var 15) .nil)))))) (.cons (.iff (.cmp .lt (.b1 .len (.var 2)) (.b1 .len (.var 10))) (.cons (.ret (.tup (.cons (.var 0) (.cons (.tup .nil) .nil)))) .nil) .nil) (.cons (.asg (.one 3) (.b1 .tuple_ (.comp (.one 11) (.seq (.var 5)) (.cons (.or (.cons (.cmp .ne (.slc (.var 11) .no (.some (.int 2))) (.tup (.cons (.var 8) (.cons (.var 9) .nil)))) (.cons (.cmp .notin (.idx (.var 11) (.int 2)) (.var 10)) .nil))) .nil) [11] (.var 11)))) (.cons (.ret (.tup (.cons (.tup (.cons (.var 4) (.cons (.var 3) (.cons (.tup (.star (.var 6) (.cons (.tup (.cons (.var 9) (.cons (.var 2) .nil))) .nil))) .nil)))) (.cons (.tup (.cons (.tup (.cons (.str "done") (.cons (.var 9) .nil))) .nil)) .nil)))) .nil)))))))
def d_committed_by : Df := { x := "committed_by", st := top 4, ps := ["outside", "letter"], N := ["outside", "letter", "lots", "left", "epoch", "holds", "commits", "_", "of_epoch", "n", "tasks", "hold", "at", "number", "task", "rows"], f := ⟨2, 16, b_committed_by⟩ }
def b_dropped : Ss := (.cons (.asg (.many (.cons (.one 3) (.cons (.one 4) (.cons (.one 5) .nil)))) (.var 0)) (.cons (.iff (.cmp .gt (.idx (.var 1) (.int 2)) (.call 1 (.cons (.var 0) .nil))) (.cons (.ret (.tup (.cons (.var 0) (.cons (.tup .nil) .nil)))) .nil) .nil) (.cons (.asg (.one 2) (.b2 .max2 (.var 3) (.idx (.var 1) (.int 1)))) (.cons (.ret (.tup (.cons (.tup (.cons (.var 2) (.cons (.b1 .tuple_ (.comp (.one 6) (.seq (.var 4)) (.cons (.cmp .ge (.idx (.var 6) (.int 0)) (.var 2)) .nil) [6] (.var 6))) (.cons (.var 5) .nil)))) (.cons (.tup (.cons (.tup (.cons (.str "dropped") (.cons (.idx (.var 1) (.int 1)) .nil))) .nil)) .nil)))) .nil))))
def d_dropped : Df := { x := "dropped", st := top 5, ps := ["outside", "letter"], N := ["outside", "letter", "late", "epoch", "holds", "commits", "hold"], f := ⟨2, 7, b_dropped⟩ }
def b_heard : Ss := (.cons (.iff (.cmp .eq (.idx (.var 1) (.int 0)) (.str "hold")) (.cons (.ret (.call 2 (.cons (.var 0) (.cons (.var 1) .nil)))) .nil) .nil) (.cons (.ret (.ifx (.cmp .eq (.idx (.var 1) (.int 0)) (.str "commit")) (.call 3 (.cons (.var 0) (.cons (.var 1) .nil))) (.call 4 (.cons (.var 0) (.cons (.var 1) .nil))))) .nil))
def d_heard : Df := { x := "heard", st := top 6, ps := ["outside", "letter"], N := ["outside", "letter"], f := ⟨2, 2, b_heard⟩ }
def b_heard_all : Ss := (.cons (.asg (.one 2) (.tup .nil)) (.cons (.for_ (.one 3) (.seq (.var 1)) (.cons (.asg (.many (.cons (.one 0) (.cons (.one 4) .nil))) (.call 5 (.cons (.var 0) (.cons (.var 3) .nil)))) (.cons (.asg (.one 2) (.bin .add (.var 2) (.var 4))) .nil))) (.cons (.ret (.tup (.cons (.var 0) (.cons (.var 2) .nil)))) .nil)))
def d_heard_all : Df := { x := "heard_all", st := top 7, ps := ["outside", "letters"], N := ["outside", "letters", "answers", "letter", "more"], f := ⟨2, 5, b_heard_all⟩ }
def b_bag_of : Ss := (.cons (.own 1 .emp) (.cons (.for_ (.one 2) (.seq (.var 0)) (.cons (.seti 1 (.var 2) (.bin .add (.get (.view 1) (.var 2) (.int 0)) (.int 1))) .nil)) (.cons (.frz 1) (.cons (.ret (.var 1)) .nil))))
def d_bag_of : Df := { x := "bag_of", st := top 8, ps := ["rows"], N := ["rows", "found", "row"], f := ⟨1, 3, b_bag_of⟩ }
def b_committed : Ss := (.cons (.own 2 (.lst .nil)) (.cons (.for_ (.many (.cons (.one 3) (.cons (.one 4) .nil))) (.seq (.idx (.var 0) (.int 2))) (.cons (.for_ (.many (.cons (.one 5) (.cons (.one 6) .nil))) (.seq (.var 4)) (.cons (.iff (.cmp .eq (.idx (.var 5) (.int 0)) (.var 1)) (.cons (.ext 2 (.var 6)) .nil) .nil) .nil)) .nil)) (.cons (.frz 2) (.cons (.ret (.call 7 (.cons (.var 2) .nil))) .nil))))
def d_committed : Df := { x := "committed", st := top 9, ps := ["outside", "step"], N := ["outside", "step", "rows", "_", "lots", "task", "some"], f := ⟨2, 7, b_committed⟩ }
def b_not_done : Ss := (.cons (.asg (.one 1) (.comp (.many (.cons (.one 2) (.cons (.one 3) .nil))) (.seq (.idx (.idx (.call 6 (.cons (.call 0 .nil) (.cons (.var 0) .nil))) (.int 0)) (.int 2))) .nil [2, 3] (.var 2))) (.cons (.ret (.b1 .tuple_ (.sset (.comp (.one 4) (.seq (.var 0)) (.cons (.and (.cons (.cmp .eq (.idx (.var 4) (.int 0)) (.str "commit")) (.cons (.cmp .notin (.idx (.var 4) (.int 2)) (.var 1)) .nil))) .nil) [4] (.idx (.var 4) (.int 2)))))) .nil))
def d_not_done : Df := { x := "not_done", st := top 10, ps := ["letters"], N := ["letters", "done", "n", "_", "letter"], f := ⟨1, 5, b_not_done⟩ }
def b_fresh_sink : Ss := (.cons (.ret (.tup (.cons (.tup .nil) (.cons .non .nil)))) .nil)
def d_fresh_sink : Df := { x := "fresh_sink", st := top 12, ps := [], N := [], f := ⟨0, 0, b_fresh_sink⟩ }
def b_put_row : Ss := (.cons (.asg (.many (.cons (.one 2) (.cons (.one 3) .nil))) (.var 0)) (.cons (.ret (.tup (.cons (.tup (.star (.var 2) (.cons (.var 1) .nil))) (.cons (.var 3) .nil)))) .nil))
def d_put_row : Df := { x := "put_row", st := top 13, ps := ["sink", "row"], N := ["sink", "row", "rows", "open_one"], f := ⟨2, 4, b_put_row⟩ }
def b_at_sink : Ss := (.cons (.asg (.many (.cons (.one 5) (.cons (.one 6) .nil))) (.var 0)) (.cons (.asg (.one 4) (.tup (.cons (.str "hold") (.cons (.var 1) (.cons (.var 2) (.cons (.var 3) (.cons (.var 5) .nil))))))) (.cons (.ret (.tup (.cons (.tup (.cons (.tup .nil) (.cons (.var 4) .nil))) (.cons (.tup .nil) (.cons (.var 4) .nil))))) .nil)))
def d_at_sink : Df := { x := "at_sink", st := top 14, ps := ["sink", "epoch", "n", "task"], N := ["sink", "epoch", "n", "task", "letter", "rows", "_"], f := ⟨4, 7, b_at_sink⟩ }
def b_fresh_source : Ss := (.cons (.ret (.tup (.cons (.b1 .tuple_ (.comp (.one 1) (.seq (.var 0)) .nil [1] (.tup (.cons (.var 1) (.cons (.int 0) (.cons (.int 0) .nil)))))) (.cons (.tup .nil) (.cons .non .nil))))) .nil)
def d_fresh_source : Df := { x := "fresh_source", st := top 17, ps := ["numbers"], N := ["numbers", "part"], f := ⟨1, 2, b_fresh_source⟩ }
def b_least_mark : Ss := (.cons (.ret (.b1 .min_ (.lst (.cons (.gint "END" 1000000000) (.star (.comp (.many (.cons (.one 1) (.cons (.one 2) (.cons (.one 3) .nil)))) (.seq (.var 0)) .nil [1, 2, 3] (.var 3)) .nil))))) .nil)
def d_least_mark : Df := { x := "least_mark", st := top 18, ps := ["parts"], N := ["parts", "part", "place", "mark"], f := ⟨1, 4, b_least_mark⟩ }
def b_read : Ss := (.cons (.asg (.many (.cons (.one 6) (.cons (.one 7) (.cons (.one 8) .nil)))) (.var 0)) (.cons (.asg (.many (.cons (.one 9) (.cons (.one 10) .nil))) (.idx (.comp (.many (.cons (.one 13) (.cons (.one 9) (.cons (.one 10) .nil)))) (.seq (.var 6)) (.cons (.cmp .eq (.var 13) (.var 1)) .nil) [13, 9, 10] (.tup (.cons (.var 9) (.cons (.var 10) .nil)))) (.int 0))) (.cons (.asg (.one 3) (.tup (.cons (.var 1) (.cons (.bin .add (.var 9) (.int 1)) (.cons (.ifx (.cmp .eq (.idx (.var 2) (.int 0)) (.str "mark")) (.b2 .max2 (.var 10) (.idx (.var 2) (.int 1))) (.var 10)) .nil))))) (.cons (.asg (.one 4) (.b1 .tuple_ (.comp (.one 12) (.seq (.var 6)) .nil [12] (.ifx (.cmp .eq (.idx (.var 12) (.int 0)) (.var 1)) (.var 3) (.var 12))))) (.cons (.iff (.cmp .eq (.idx (.var 2) (.int 0)) (.str "mark")) (.cons (.asg (.one 11) (.cmp .gt (.call 14 (.cons (.var 4) .nil)) (.call 14 (.cons (.var 6) .nil)))) (.cons (.ret (.tup (.cons (.tup (.cons (.var 4) (.cons (.var 7) (.cons (.var 8) .nil)))) (.cons (.ifx (.ev (.var 11)) (.tup (.cons (.tup (.cons (.str "mark") (.cons (.call 14 (.cons (.var 4) .nil)) .nil))) .nil)) (.tup .nil)) .nil)))) .nil)) .nil) (.cons (.asg (.one 5) (.slc (.var 2) (.some (.int 1)) .no)) (.cons (.iff (.cmp .lt (.idx (.var 5) (.int 0)) (.var 10)) (.cons (.ret (.tup (.cons (.tup (.cons (.var 4) (.cons (.tup (.star (.var 7) (.cons (.var 5) .nil))) (.cons (.var 8) .nil)))) (.cons (.tup .nil) .nil)))) .nil) .nil) (.cons (.ret (.tup (.cons (.tup (.cons (.var 4) (.cons (.var 7) (.cons (.var 8) .nil)))) (.cons (.tup (.cons (.tup (.cons (.str "row") (.cons (.var 5) .nil))) .nil)) .nil)))) .nil))))))))
def d_read : Df := { x := "read", st := top 19, ps := ["source", "part", "entry"], N := ["source", "part", "entry", "here", "more", "row", "parts", "late", "open_one", "place", "mark", "rises", "one", "number"], f := ⟨3, 14, b_read⟩ }
def b_at_source : Ss := (.cons (.asg (.many (.cons (.one 5) (.cons (.one 6) (.cons (.one 7) .nil)))) (.var 0)) (.cons (.asg (.one 4) (.tup (.cons (.str "hold") (.cons (.var 1) (.cons (.var 2) (.cons (.var 3) (.cons (.var 6) .nil))))))) (.cons (.ret (.tup (.cons (.tup (.cons (.var 5) (.cons (.tup .nil) (.cons (.var 4) .nil)))) (.cons (.var 5) (.cons (.var 4) .nil))))) .nil)))
def d_at_source : Df := { x := "at_source", st := top 20, ps := ["source", "epoch", "n", "task"], N := ["source", "epoch", "n", "task", "letter", "parts", "late", "_"], f := ⟨4, 8, b_at_source⟩ }
def b_again : Ss := (.cons (.ret (.ifx (.isN (.idx (.var 0) (.neg (.int 1)))) (.tup .nil) (.tup (.cons (.idx (.var 0) (.neg (.int 1))) .nil)))) .nil)
def d_again : Df := { x := "again", st := top 21, ps := ["holder"], N := ["holder"], f := ⟨1, 1, b_again⟩ }
def b_l_bag : Ss := (.cons (.own 1 .emp) (.cons (.for_ (.one 2) (.seq (.var 0)) (.cons (.seti 1 (.var 2) (.bin .add (.get (.view 1) (.var 2) (.int 0)) (.int 1))) .nil)) (.cons (.frz 1) (.cons (.ret (.var 1)) .nil))))
def d_l_bag : Df := { x := "_law_bag", st := top 26, ps := ["_law_rows"], N := ["_law_rows", "_law_found", "_law_row"], f := ⟨1, 3, b_l_bag⟩ }
def b_l_draw_row : Ss := (.cons (.asg (.one 2) (.b1 .tuple_ (.comp (.one 3) (.range1 (.pick 0 (.int 4))) .nil [3] (.call 20 (.src 0 .nil))))) (.cons (.ret (.tup (.cons (.pick 0 (.bin .add (.var 1) (.int 1))) (.cons (.idx (.lst (.cons (.int 1) (.cons (.int 1) (.cons (.bin .sub (.int 0) (.int 1)) .nil)))) (.pick 0 (.int 3))) (.cons (.var 2) .nil))))) .nil))
def d_l_draw_row : Df := { x := "_law_draw_row", st := top 27, ps := ["_law_source", "_law_latest"], N := ["_law_source", "_law_latest", "_law_values", "_law_lap"], f := ⟨2, 4, b_l_draw_row⟩ }
def b_l_any_value : Ss := (.cons (.asg (.one 1) (.pick 0 (.int 6))) (.cons (.iff (.cmp .eq (.var 1) (.int 0)) (.cons (.ret .non) .nil) .nil) (.cons (.iff (.cmp .lt (.var 1) (.int 4)) (.cons (.ret (.idx (.lst (.cons (.bin .sub (.pick 0 (.int 9)) (.int 3)) (.cons (.int 0) (.cons (.bin .sub (.pick 0 (.bin .pow (.int 10) (.int 12))) (.bin .pow (.int 10) (.int 11))) .nil)))) (.bin .sub (.var 1) (.int 1)))) .nil) .nil) (.cons (.ret (.join "" (.comp (.one 2) (.range1 (.pick 0 (.idx (.lst (.cons (.int 4) (.cons (.int 13) .nil))) (.bin .sub (.var 1) (.int 4))))) .nil [2] (.idx (.str "ab Z09-_") (.pick 0 (.int 8)))))) .nil))))
def d_l_any_value : Df := { x := "_law_any_value", st := top 28, ps := ["_law_source"], N := ["_law_source", "_law_way", "_law_lap"], f := ⟨1, 3, b_l_any_value⟩ }
def b_l_holders : Ss := (.cons (.own 4 (.lst .nil)) (.cons (.for_ (.one 5) (.seq (.var 3)) (.cons (.asg (.one 6) (.b1 .tuple_ (.comp (.one 10) (.range1 (.pick 0 (.int 4))) .nil [10] (.call 19 (.src 0 (.cons (.int 6) .nil)))))) (.cons (.iff (.cmp .eq (.idx (.var 5) (.int 0)) (.str "out")) (.cons (.asg (.one 7) (.call 10 .nil)) (.cons (.for_ (.one 8) (.seq (.var 6)) (.cons (.asg (.one 7) (.call 11 (.cons (.var 7) (.cons (.var 8) .nil)))) .nil)) (.cons (.asg (.one 9) (.call 12 (.cons (.var 7) (.cons (.var 1) (.cons (.var 2) (.cons (.var 5) .nil)))))) .nil))) (.cons (.asg (.one 7) (.idx (.call 15 (.cons (.call 13 (.cons (.tup (.cons (.int 0) .nil)) .nil)) (.cons (.int 0) (.cons (.tup (.cons (.str "mark") (.cons (.int 9) .nil))) .nil)))) (.int 0))) (.cons (.for_ (.one 8) (.seq (.var 6)) (.cons (.asg (.one 7) (.idx (.call 15 (.cons (.var 7) (.cons (.int 0) (.cons (.bin .add (.tup (.cons (.str "row") .nil)) (.var 8)) .nil)))) (.int 0))) .nil)) (.cons (.asg (.one 9) (.call 16 (.cons (.var 7) (.cons (.var 1) (.cons (.var 2) (.cons (.var 5) .nil)))))) .nil)))) (.cons (.app 4 (.tup (.cons (.var 5) (.cons (.var 6) (.cons (.var 9) .nil))))) .nil)))) (.cons (.frz 4) (.cons (.ret (.var 4)) .nil))))
def d_l_holders : Df := { x := "_law_holders", st := top 29, ps := ["_law_source", "_law_epoch", "_law_n", "_law_tasks"], N := ["_law_source", "_law_epoch", "_law_n", "_law_tasks", "_law_found", "_law_task", "_law_rows", "_law_state", "_law_row", "_law_told", "_law_lap"], f := ⟨4, 11, b_l_holders⟩ }
def b_l_early_right : Ss := (.cons (.for_ (.one 2) (.seq (.tup (.cons (.var 1) (.cons (.tup (.cons (.str "drop") (.cons (.bin .add (.idx (.var 1) (.int 1)) (.int 1)) (.cons (.idx (.var 1) (.int 2)) .nil)))) .nil)))) (.cons (.iff (.cmp .ne (.call 5 (.cons (.var 0) (.cons (.var 2) .nil))) (.tup (.cons (.var 0) (.cons (.tup .nil) .nil)))) (.cons (.ret (.bl false)) .nil) .nil) .nil)) (.cons (.ret (.bl true)) .nil))
def d_l_early_right : Df := { x := "_law_early_right", st := top 30, ps := ["_law_outside", "_law_commit"], N := ["_law_outside", "_law_commit", "_law_letter"], f := ⟨2, 3, b_l_early_right⟩ }
def b_law : Ss := (.cons (.asg (.one 2) (.b1 .tuple_ (.comp (.one 23) (.range1 (.bin .add (.int 1) (.pick 1 (.int 2)))) .nil [23] (.tup (.cons (.str "a") (.cons (.var 23) .nil)))))) (.cons (.asg (.one 2) (.bin .add (.var 2) (.b1 .tuple_ (.comp (.one 23) (.range1 (.bin .add (.int 1) (.pick 1 (.int 3)))) .nil [23] (.tup (.cons (.str "out") (.cons (.var 23) .nil))))))) (.cons (.par [(false, 5), (false, 6), (false, 7), (false, 8), (true, 9)] (.cons (.call 0 .nil) (.cons (.lst .nil) (.cons (.int 1) (.cons (.tup .nil) (.cons (.lst .nil) .nil)))))) (.cons (.for_ (.one 3) (.range2 (.int 1) (.bin .add (.int 2) (.pick 1 (.int 5)))) (.cons (.iff (.cmp .eq (.pick 1 (.int 2)) (.int 0)) (.cons (.asg (.one 17) (.call 21 (.src 1 (.cons (.var 7) (.cons (.var 3) (.cons (.var 2) .nil)))))) (.cons (.asg (.one 18) (.slc (.comp (.many (.cons (.one 21) (.cons (.one 15) (.cons (.one 22) .nil)))) (.seq (.var 17)) .nil [21, 15, 22] (.idx (.var 22) (.int 2))) .no (.some (.bin .add (.int 1) (.pick 1 (.int 3)))))) (.cons (.par [(false, 5), (false, 7), (true, 9)] (.cons (.idx (.call 6 (.cons (.var 5) (.cons (.var 18) .nil))) (.int 0)) (.cons (.bin .add (.var 7) (.int 1)) (.cons (.bin .add (.view 9) (.var 18)) .nil)))) (.cons (.asg (.one 19) (.tup (.cons (.str "drop") (.cons (.var 7) (.cons (.bin .sub (.var 3) (.int 1)) .nil))))) (.cons (.asg (.many (.cons (.one 5) (.cons (.one 20) .nil))) (.call 5 (.cons (.var 5) (.cons (.var 19) .nil)))) (.cons (.iff (.or (.cons (.cmp .ne (.var 20) (.tup (.cons (.tup (.cons (.str "dropped") (.cons (.var 7) .nil))) .nil))) (.cons (.cmp .ne (.slc (.var 5) .no (.some (.int 2))) (.tup (.cons (.var 7) (.cons (.tup .nil) .nil)))) (.cons (.cmp .ne (.idx (.var 5) (.int 2)) (.var 8)) .nil)))) (.cons (.ret (.bl false)) .nil) .nil) (.cons (.asg (.one 5) (.idx (.call 6 (.cons (.var 5) (.cons (.var 18) .nil))) (.int 0))) (.cons (.app 9 (.var 19)) .nil)))))))) .nil) (.cons (.asg (.one 10) (.call 21 (.src 1 (.cons (.var 7) (.cons (.var 3) (.cons (.var 2) .nil)))))) (.cons (.asg (.one 11) (.comp (.many (.cons (.one 21) (.cons (.one 15) (.cons (.one 22) .nil)))) (.seq (.var 10)) .nil [21, 15, 22] (.idx (.var 22) (.int 2)))) (.cons (.iff (.cmp .ne (.var 11) (.comp (.many (.cons (.one 21) (.cons (.one 15) (.cons (.one 22) .nil)))) (.seq (.var 10)) .nil [21, 15, 22] (.tup (.cons (.str "hold") (.cons (.var 7) (.cons (.var 3) (.cons (.var 21) (.cons (.var 15) .nil)))))))) (.cons (.ret (.bl false)) .nil) .nil) (.cons (.iff (.cmp .ne (.comp (.many (.cons (.one 21) (.cons (.one 15) (.cons (.one 22) .nil)))) (.seq (.var 10)) .nil [21, 15, 22] (.call 17 (.cons (.idx (.var 22) (.int 0)) .nil))) (.comp (.one 24) (.seq (.var 11)) .nil [24] (.tup (.cons (.var 24) .nil)))) (.cons (.ret (.bl false)) .nil) .nil) (.cons (.asg (.one 12) (.tup (.cons (.str "commit") (.cons (.var 7) (.cons (.var 3) (.cons (.var 2) .nil)))))) (.cons (.asg (.one 13) (.pick 1 (.b1 .len (.var 2)))) (.cons (.asg (.one 14) (.order 1 (.bin .add (.bin .add (.slc (.var 11) .no (.some (.var 13))) (.slc (.var 11) (.some (.bin .add (.var 13) (.int 1))) .no)) (.slc (.var 11) .no (.some (.pick 1 (.int 4))))))) (.cons (.asg (.one 5) (.idx (.call 6 (.cons (.var 5) (.cons (.comp (.one 24) (.seq (.var 14)) (.cons (.cmp .ne (.var 24) (.idx (.var 11) (.var 13))) .nil) [24] (.var 24)) .nil))) (.int 0))) (.cons (.iff (.not (.ev (.call 22 (.cons (.var 5) (.cons (.var 12) .nil))))) (.cons (.ret (.bl false)) .nil) .nil) (.cons (.asg (.many (.cons (.one 5) (.cons (.one 20) .nil))) (.call 5 (.cons (.var 5) (.cons (.idx (.var 11) (.var 13)) .nil)))) (.cons (.iff (.or (.cons (.cmp .ne (.var 20) (.tup (.cons (.tup (.cons (.str "held") (.cons (.var 7) (.cons (.var 3) (.cons (.idx (.var 2) (.var 13)) .nil))))) .nil))) (.cons (.cmp .ne (.call 1 (.cons (.var 5) .nil)) (.bin .sub (.var 3) (.int 1))) .nil))) (.cons (.ret (.bl false)) .nil) .nil) (.cons (.asg (.many (.cons (.one 5) (.cons (.one 20) .nil))) (.call 6 (.cons (.var 5) (.cons (.bin .add (.bin .mul (.lst (.cons (.var 12) .nil)) (.bin .add (.int 1) (.pick 1 (.int 2)))) (.slc (.var 11) .no (.some (.int 1)))) .nil)))) (.cons (.asg (.one 8) (.bin .add (.var 8) (.tup (.cons (.tup (.cons (.var 3) (.cons (.b1 .tuple_ (.comp (.many (.cons (.one 21) (.cons (.one 15) (.cons (.one 22) .nil)))) (.seq (.var 10)) .nil [21, 15, 22] (.tup (.cons (.var 21) (.cons (.var 15) .nil))))) .nil))) .nil)))) (.cons (.iff (.or (.cons (.cmp .ne (.var 5) (.tup (.cons (.idx (.var 5) (.int 0)) (.cons (.tup .nil) (.cons (.var 8) .nil))))) (.cons (.cmp .ne (.idx (.var 20) (.int 0)) (.tup (.cons (.str "done") (.cons (.var 3) .nil)))) (.cons (.cmp .ne (.call 1 (.cons (.var 5) .nil)) (.var 3)) .nil)))) (.cons (.ret (.bl false)) .nil) .nil) (.cons (.par [(true, 9), (false, 6)] (.cons (.bin .add (.bin .add (.view 9) (.var 11)) (.lst (.cons (.var 12) .nil))) (.cons (.bin .add (.var 6) (.var 10)) .nil))) .nil))))))))))))))))) (.cons (.frz 9) (.cons (.for_ (.one 4) (.seq (.tup (.cons (.str "out") (.cons (.str "a") .nil)))) (.cons (.asg (.one 15) (.lst .nil)) (.cons (.for_ (.many (.cons (.one 21) (.cons (.one 18) (.cons (.one 22) .nil)))) (.seq (.var 6)) (.cons (.asg (.one 15) (.bin .add (.var 15) (.ifx (.cmp .eq (.idx (.var 21) (.int 0)) (.var 4)) (.b1 .list_ (.var 18)) (.lst .nil)))) .nil)) (.cons (.for_ (.one 16) (.seq (.tup (.cons (.var 5) (.cons (.idx (.call 6 (.cons (.var 5) (.cons (.var 9) .nil))) (.int 0)) .nil)))) (.cons (.iff (.cmp .ne (.call 8 (.cons (.var 16) (.cons (.var 4) .nil))) (.call 18 (.cons (.var 15) .nil))) (.cons (.ret (.bl false)) .nil) .nil) .nil)) .nil)))) (.cons (.ret (.and (.cmp .eq (.call 9 (.cons (.var 9) .nil)) (.tup .nil)) (.cmp .eq (.idx (.call 6 (.cons (.call 0 .nil) (.cons (.var 9) .nil))) (.int 0)) (.var 5)))) .nil)))))))
def d_law : Df := { x := "law", st := top 31, ps := ["_law_script"], N := ["_law_script", "_law_source", "_law_tasks", "_law_n", "_law_step", "_law_outside", "_law_due", "_law_epoch", "_law_commits", "_law_every", "_law_held", "_law_letters", "_law_commit", "_law_missing", "_law_order", "_law_rows", "_law_here", "_law_given_up", "_law_some", "_law_drop", "_law_answers", "_law_task", "_law_told", "_law_j", "_law_letter"], f := ⟨1, 25, b_law⟩ }
theorem bd_fresh_outside : Bd d_fresh_outside := fun _ _ _ _ _ _ us hl => match us, hl with | [], _ => rfl
theorem bd_last_of : Bd d_last_of := fun _ _ _ _ _ _ us hl => match us, hl with | [_], _ => rfl
theorem bd_held : Bd d_held := fun _ _ _ _ _ _ us hl => match us, hl with | [_, _], _ => rfl
theorem bd_committed_by : Bd d_committed_by := fun _ _ _ _ _ _ us hl => match us, hl with | [_, _], _ => rfl
theorem bd_dropped : Bd d_dropped := fun _ _ _ _ _ _ us hl => match us, hl with | [_, _], _ => rfl
theorem bd_heard : Bd d_heard := fun _ _ _ _ _ _ us hl => match us, hl with | [_, _], _ => rfl
theorem bd_heard_all : Bd d_heard_all := fun _ _ _ _ _ _ us hl => match us, hl with | [_, _], _ => rfl
theorem bd_bag_of : Bd d_bag_of := fun _ _ _ _ _ _ us hl => match us, hl with | [_], _ => rfl
theorem bd_committed : Bd d_committed := fun _ _ _ _ _ _ us hl => match us, hl with | [_, _], _ => rfl
theorem bd_not_done : Bd d_not_done := fun _ _ _ _ _ _ us hl => match us, hl with | [_], _ => rfl
theorem bd_fresh_sink : Bd d_fresh_sink := fun _ _ _ _ _ _ us hl => match us, hl with | [], _ => rfl
theorem bd_put_row : Bd d_put_row := fun _ _ _ _ _ _ us hl => match us, hl with | [_, _], _ => rfl
theorem bd_at_sink : Bd d_at_sink := fun _ _ _ _ _ _ us hl => match us, hl with | [_, _, _, _], _ => rfl
theorem bd_fresh_source : Bd d_fresh_source := fun _ _ _ _ _ _ us hl => match us, hl with | [_], _ => rfl
theorem bd_least_mark : Bd d_least_mark := fun _ _ _ _ _ _ us hl => match us, hl with | [_], _ => rfl
theorem bd_read : Bd d_read := fun _ _ _ _ _ _ us hl => match us, hl with | [_, _, _], _ => rfl
theorem bd_at_source : Bd d_at_source := fun _ _ _ _ _ _ us hl => match us, hl with | [_, _, _, _], _ => rfl
theorem bd_again : Bd d_again := fun _ _ _ _ _ _ us hl => match us, hl with | [_], _ => rfl
theorem bd_l_bag : Bd d_l_bag := fun _ _ _ _ _ _ us hl => match us, hl with | [_], _ => rfl
theorem bd_l_draw_row : Bd d_l_draw_row := fun _ _ _ _ _ _ us hl => match us, hl with | [_, _], _ => rfl
theorem bd_l_any_value : Bd d_l_any_value := fun _ _ _ _ _ _ us hl => match us, hl with | [_], _ => rfl
theorem bd_l_holders : Bd d_l_holders := fun _ _ _ _ _ _ us hl => match us, hl with | [_, _, _, _], _ => rfl
theorem bd_l_early_right : Bd d_l_early_right := fun _ _ _ _ _ _ us hl => match us, hl with | [_, _], _ => rfl
theorem bd_law : Bd d_law := fun _ _ _ _ _ _ us hl => match us, hl with | [_], _ => rfl
def ds : List Df := [d_fresh_outside, d_last_of, d_held, d_committed_by, d_dropped, d_heard, d_heard_all, d_bag_of, d_committed, d_not_done, d_fresh_sink, d_put_row, d_at_sink, d_fresh_source, d_least_mark, d_read, d_at_source, d_again, d_l_bag, d_l_draw_row, d_l_any_value, d_l_holders, d_l_early_right]
theorem bd_all : ∀ d ∈ ds, Bd d := List.forall_mem_cons.mpr ⟨bd_fresh_outside, List.forall_mem_cons.mpr ⟨bd_last_of, List.forall_mem_cons.mpr ⟨bd_held, List.forall_mem_cons.mpr ⟨bd_committed_by, List.forall_mem_cons.mpr ⟨bd_dropped, List.forall_mem_cons.mpr ⟨bd_heard, List.forall_mem_cons.mpr ⟨bd_heard_all, List.forall_mem_cons.mpr ⟨bd_bag_of, List.forall_mem_cons.mpr ⟨bd_committed, List.forall_mem_cons.mpr ⟨bd_not_done, List.forall_mem_cons.mpr ⟨bd_fresh_sink, List.forall_mem_cons.mpr ⟨bd_put_row, List.forall_mem_cons.mpr ⟨bd_at_sink, List.forall_mem_cons.mpr ⟨bd_fresh_source, List.forall_mem_cons.mpr ⟨bd_least_mark, List.forall_mem_cons.mpr ⟨bd_read, List.forall_mem_cons.mpr ⟨bd_at_source, List.forall_mem_cons.mpr ⟨bd_again, List.forall_mem_cons.mpr ⟨bd_l_bag, List.forall_mem_cons.mpr ⟨bd_l_draw_row, List.forall_mem_cons.mpr ⟨bd_l_any_value, List.forall_mem_cons.mpr ⟨bd_l_holders, List.forall_mem_cons.mpr ⟨bd_l_early_right, fun _ h => nomatch h⟩⟩⟩⟩⟩⟩⟩⟩⟩⟩⟩⟩⟩⟩⟩⟩⟩⟩⟩⟩⟩⟩⟩
def names : List Str := ds.map (·.x)
def gl : List (Str × Int) := [("END", 1000000000)]
theorem ok_1 : (ds.take 6).all (fun d => d.ok names gl) = true := by decide +kernel
theorem ok_2 : ((ds.drop 6).take 6).all (fun d => d.ok names gl) = true := by decide +kernel
theorem ok_3 : ((ds.drop 12).take 6).all (fun d => d.ok names gl) = true := by decide +kernel
theorem ok_4 : (ds.drop 18).all (fun d => d.ok names gl) = true := by decide +kernel
theorem ok_law : (C8.scC d_law.N d_law.ps (defScope d_law.st) && mSs (d_law.M names gl) b_law (defBody d_law.st).tail) = true := by decide +kernel
end K77
end DL
end
section
set_option Elab.async false
set_option linter.all false
set_option maxRecDepth 100000
set_option maxHeartbeats 4000000
/-! KL: the law itself: its first statement, then what the term says. -/
namespace DL
open PySem PySem.Spec PyProof.Rows L2
namespace K77
abbrev fns : List Fn := ds.map (·.f)
def env0 : Env' := .no :: .sr :: List.replicate 23 .no
/-- the plain law -/
def Plain (N : Nat) : Prop := ∀ (Tt : Tb) (ns : List Int), ns.length ≤ 63 → ∃ env' s', evSs ⟨Tt, run fns Tt N⟩ b_law env0 (openF ns) = some ((.ret (.bool true), env'), s')
def spLaw (K : PySem.W.Frag) (Tt : Tb) : Sp := fun vs H Q _ => ∃ (a : Addr) (ns : List Int), vs = [.ref a] ∧ LamX.Tabs Tt H ∧ SqL K H a (ns.map V.int) ∧ ns.length ≤ 63 ∧ ∀ H', Q (.bl true) H'
section
variable {P : Program} {w : World} {K : PySem.W.Frag} {mg : Str → Option Value} {base : Heap} {f : Addr} {fd : FuncData} {Tt : Tb}
theorem SrcAt.some {loc : Lc Tt} {H : Hp} {s : Src} (h : SrcAt loc H s) {a : Addr} (ha : loc.mem a) : (H a).isSome = true := by
  rcases ha with rfl | rfl | ⟨p, hp, rfl⟩
  · rw [h.2.1]; rfl
  · rw [h.2.2.1]; rfl
  · obtain ⟨ps, e, _⟩ := (h.2.2.2 p hp).2
    rw [e]; rfl
theorem gd_law {loc : Lc Tt} {H : Hp} {s : Src} {a : Addr} (h : SrcAt loc H s) : Gd w K ⟨loc, H, loc.mem⟩ (fun _ => loc.1) ((L2.start d_law.N [.ref a]).set 1 (some (.ref loc.1))) H env0 s where
  src := h
  om := fun _ z => z
  oT := fun _ z => SrcAt.some h z
  kp := Kp.refl _ _
  on := fun i d e => by
    rcases i with _ | _ | i
    · cases e
    · cases e
    · have e : (List.replicate 23 Slot.no)[i]? = some (.ow d) := e
      rw [List.getElem?_replicate] at e
      split at e <;> cases e
  inj := fun i j d e h1 _ _ => by
    rcases i with _ | _ | i
    · cases h1
    · cases h1
    · have h1 : (List.replicate 23 Slot.no)[i]? = some (.ow d) := h1
      rw [List.getElem?_replicate] at h1
      split at h1 <;> cases h1
  len := rfl
  sl := fun i z e => by
    rcases i with _ | _ | i
    · cases e; trivial
    · cases e; exact rfl
    · have e : (List.replicate 23 Slot.no)[i]? = some z := e
      rw [List.getElem?_replicate] at e
      split at e
      · cases e; trivial
      · cases e
theorem scLaw : FnScope d_law.N d_law.ps (defScope d_law.st) := C8.fnScope_by (by have := ok_law; rw [Bool.and_eq_true] at this; exact this.1)
theorem ok_law_fn {N : Nat} (pl : Plain N) (F : FunD K "law" "law" (defArgs d_law.st) (defBody d_law.st) (defScope d_law.st) [] [] f fd) (hopen : HasG P w K mg base 1 "_law_open_cells" (spOpen K Tt))
    (blt : ∀ x ∈ bltNames, mg x = none) (hgl : ∀ p ∈ gl, ∃ t, mg p.1 = some (.int p.2 t)) (hi : ∀ d ∈ ds, DIn K mg base Tt d) (pick : HasG P w K mg base 1 "_law_pick" (spPick Tt)) (order : HasG P w K mg base 2 "_law_any_order" (spOrder w K Tt)) :
    FnOk P w K mg base CX0 (N + 3) f fd ["_law_script"] (spLaw K Tt) := by
  have hk : ∀ d ∈ ds, d.ok names gl = true := fun d hd => by
    have e : ds = ds.take 6 ++ ((ds.drop 6).take 6 ++ ((ds.drop 12).take 6 ++ ds.drop 18)) := rfl
    rw [e] at hd
    rcases List.mem_append.mp hd with h | hd
    · exact List.all_eq_true.mp ok_1 d h
    rcases List.mem_append.mp hd with h | hd
    · exact List.all_eq_true.mp ok_2 d h
    rcases List.mem_append.mp hd with h | hd
    · exact List.all_eq_true.mp ok_3 d h
    · exact List.all_eq_true.mp ok_4 d hd
  have all := all_ok (P := P) (w := w) (base := base) (names := names) (gl := gl) (ds := ds) rfl hk hi blt hgl pick order N
  refine F.ok (N := d_law.N) scLaw (fun vs H Q E h => ?_) fun cdv A outer s H vs Q E hr h => ?_
  · obtain ⟨a, ns, rfl, _⟩ := h
    rfl
  · obtain ⟨g, gd, ps, hm, hkp, hb, G⟩ := hopen
    have hx : HX (d_law.M names gl) (N + 2) ⟨Tt, run fns Tt N⟩ (cxOf CX0 P w K mg base d_law.N "law" (defScope d_law.st) f cdv A outer s H E).nox := {
      sc := rfl
      N := rfl
      fn := rfl
      nd := scLaw.nd
      calm := rfl
      xe := rfl
      room := hr
      blt := blt
      gl := hgl
      fns := all
      pick := pick.mono (by omega)
      order := order.mono (by omega)
      lam := fun z => nomatch z }
    have h2 : mSs (d_law.M names gl) b_law (defBody d_law.st).tail = true := by have := ok_law; rw [Bool.and_eq_true] at this; exact this.2
    refine ⟨_, PSs.nox (pss_cons (ps_set (i := 1) scLaw.nd rfl (by first | exact Or.inl rfl | exact Or.inr rfl) (pe_call (G.mono (show 1 ≤ N + 2 by omega)) hr (by rfl) hm hkp hb .nil pass0 (pa_cons (pv 0) pa_nil))) (sSs hx scLaw.kind b_law h2)), ?_⟩
    obtain ⟨a, ns, rfl, htab, hq, hl, q⟩ := h
    refine ⟨_, rfl, a, ns, rfl, htab, hq, by omega, fun loc H' _ _ _ hs => ?_⟩
    obtain ⟨env', s', e⟩ := pl Tt ns hl
    refine ⟨⟨loc, H', loc.mem⟩, _, _, _, gd_law hs, (.ret (.bool true), env'), s', e, fun σ2 H2 ad2 G2 _ v rv => ?_⟩
    cases rv
    exact q H2
end
end K77
end DL
end
section
set_option Elab.async false
set_option linter.all false
set_option maxRecDepth 100000
set_option maxHeartbeats 0
/-! KH: the head: what the top leaves, and the law from its plain form. -/
namespace DL
open PySem PySem.Spec PyProof.Rows L2
namespace K77
def dd (x : Str) (st : Stmt) : He.DefD := ⟨(x, none), x, x, defArgs st, defBody st, defScope st, [], []⟩
def fnL : List He.DefD := (ds.map fun d => dd d.x d.st) ++ [dd "_law_open_cells" sOpen, dd "_law_pick" sPick, dd "_law_any_order" sOrder, dd "law" d_law.st]
def glos : List Str := names ++ (["_law_open_cells", "_law_pick", "_law_any_order", "law"] : List Str)
def fa : List He.Fa := glos.map .glo ++ bltNames.map .free ++ gl.map fun p => .int p.1 p.2
def tf : List He.Defn := [("held", none)]
abbrev R : PySem.W.OpenRow := PySem.W.OpenLaw.row PySem.Challenge.rw_oncestream_k77_whole_numbers_held_then_c
abbrev hk : PySem.W.Hook := He.hookX 4 fa fnL [] tf fun _ => true
def ob (s : PySem.W.SharedT) : He.AlX := He.obsX 4 fa fnL [] tf (fun _ => true) (HandSHeadRun.getT s)
theorem ob_eq (s : PySem.W.SharedT) : ob s = hk.obs s.abs := He.obsX_eq (HandSHeadRun.getT_eq s)
abbrev loose : List Str := ["fresh_outside", "last_of", "held", "committed_by", "dropped", "heard", "heard_all", "bag_of", "committed", "not_done", "fresh_sink", "put_row", "at_sink", "END", "fresh_source", "least_mark", "read", "at_source", "again", "_law_open_cells", "_law_pick", "_law_any_order", "_law_bag", "_law_draw_row", "_law_any_value", "_law_holders", "_law_early_right"]
theorem head_run (w : World) : HandSHeadRun.RunEq R (PySem.W.view R.prog [31]) hk ob 4000 loose w := by
  intro os
  kernel_rfl
end K77
end DL
end
section
set_option Elab.async false
set_option linter.all false
set_option maxRecDepth 100000
set_option maxHeartbeats 0
/-! KZ: the row holds, if the plain law does. -/
namespace DL
open PySem PySem.Spec PyProof.Rows L2
namespace K77
theorem lam_only : (ds.all fun d => !d.lam || decide (d.x = ("held" : Str))) = true := by decide +kernel
theorem tabOf_code {K : PySem.W.Frag} {x : Str} {q : Str} {ps : Arguments} {bd : List Stmt} {sc : Scope} {fd : FuncData} (F : FunD K x q ps bd sc [] [] (He.fAd K (x, none)) fd) : fd.code = .ref (He.cT K (x, none)).1 := by
  obtain ⟨oc, od, dV, kV, doc, pm, an, cdv, ct, osl, rfl, lk, hcd, _, _⟩ := F.ex
  obtain ⟨c, rfl⟩ := He.codeIn_ref hcd
  have := He.codeOf_eq lk (c := c) rfl
  show Value.ref c = .ref (He.codeOf K (x, none))
  rw [this]
section
variable {P : Program} {w : World} {K : PySem.W.Frag} {h : Heap} {mg : Str → Option Value}
theorem mem_fn {d : Df} (hd : d ∈ ds) : dd d.x d.st ∈ fnL := List.mem_append_left _ (List.mem_map.mpr ⟨d, hd, rfl⟩)
theorem mem_glo {x : Str} (hx : x ∈ glos) : He.Fa.glo x ∈ fa := List.mem_append_left _ (List.mem_append_left _ (List.mem_map.mpr ⟨x, hx, rfl⟩))
theorem mem_free {x : Str} (hx : x ∈ bltNames) : He.Fa.free x ∈ fa := List.mem_append_left _ (List.mem_append_right _ (List.mem_map.mpr ⟨x, hx, rfl⟩))
theorem mem_int {p : Str × Int} (hp : p ∈ gl) : He.Fa.int p.1 p.2 ∈ fa := List.mem_append_right _ (List.mem_map.mpr ⟨p, hp, rfl⟩)
/-- what the head tells of a def -/
theorem def_of {base : Heap} (X : K.In base) (G : base.Ns mainGlobals mg) (c : He.SaysD fa fnL K) {x : Str} {st : Stmt} (hd : dd x st ∈ fnL) (hx : x ∈ glos) : ∃ fd, FunD K x x (defArgs st) (defBody st) (defScope st) [] [] (He.fAd K (x, none)) fd ∧ mg x = some (.ref (He.fAd K (x, none))) := by
  obtain ⟨fd, F⟩ := c.defs hd
  exact ⟨fd, F, He.glo_ok X G (c.facts (mem_glo hx))⟩
theorem facts {fa0 : Addr} (X : K.In h) (G : h.Ns mainGlobals mg) (hfa : mg ("law" : Str) = some (.ref fa0)) (c : He.SaysX fa fnL [] tf (fun _ => true) w h K) (pl : Plain 6) (l : PySem.W.OpenLaw) (hl : l.prog = P) :
    LamX.LawAtS l w K CX0 9 63 "_law_script" mg fa0 h := by
  subst hl
  have cd := c.t.d
  obtain ⟨fdL, FL, gL⟩ := def_of X G cd (x := "law") (st := d_law.st) (List.mem_append_right _ (by simp)) (List.mem_append_right _ (by simp))
  rw [hfa] at gL
  cases gL
  have bL := FunD.bindsA (ps := ["_law_script"]) FL fun _ _ _ _ _ _ us hl => match us, hl with | [_], _ => rfl
  have htf : (("held", none) : He.Defn) ∈ tf := List.mem_singleton.mpr rfl
  refine ⟨fdL, [He.cT K ("held", none)], spLaw K [((He.cT K ("held", none)).2, (("held" : Str) ++ ".<locals>.") ++ "<lambda>")], ?_, ?_, ?_, fun s u => bL s [u] rfl, ?_, ?_⟩
  · intro p hp
    rcases List.mem_singleton.mp hp with rfl
    exact c.empty _ htf
  · intro p hp
    rcases List.mem_singleton.mp hp with rfl
    exact c.out _ htf
  · intro p hp
    rcases List.mem_singleton.mp hp with rfl
    exact PySem.W.codeHd_of_K X (c.hd _ htf)
  · intro H a ns hlen _ hT hS
    refine ⟨a, ns, rfl, fun p hp => ?_, hS, hlen, fun _ => rfl⟩
    rcases List.mem_singleton.mp hp with rfl
    exact LamX.TabS.nil (hT _ (List.mem_singleton.mpr rfl))
  · intro base Xb Gb TB
    have tb := TB _ (List.mem_singleton.mpr rfl)
    obtain ⟨fdO, FO, gO⟩ := def_of Xb Gb cd (x := "_law_open_cells") (st := sOpen) (List.mem_append_right _ (by simp)) (List.mem_append_right _ (by simp))
    obtain ⟨fdP, FP, gP⟩ := def_of Xb Gb cd (x := "_law_pick") (st := sPick) (List.mem_append_right _ (by simp)) (List.mem_append_right _ (by simp))
    obtain ⟨fdA, FA, gA⟩ := def_of Xb Gb cd (x := "_law_any_order") (st := sOrder) (List.mem_append_right _ (by simp)) (List.mem_append_right _ (by simp))
    have free : ∀ x ∈ bltNames, mg x = none := fun x hx => He.free_ok Xb Gb (cd.facts (mem_free hx))
    have hpick : HasG l.prog w K mg base 1 "_law_pick" (spPick [((He.cT K ("held", none)).2, (("held" : Str) ++ ".<locals>.") ++ "<lambda>")]) :=
      ⟨_, fdP, pPick, gP, FP.kp, FP.bindsN fun _ _ _ _ _ _ us hl => (match us, hl with | [_, _], _ => rfl), ok_pick FP (free _ (by decide +kernel)) (free _ (by decide +kernel))⟩
    refine ok_law_fn pl FL ⟨_, fdO, pOpen, gO, FO.kp, FO.bindsN fun _ _ _ _ _ _ us hl => (match us, hl with | [_], _ => rfl), ok_open FO (free _ (by decide +kernel)) (free _ (by decide +kernel))⟩ free (fun p hp => He.int_ok Xb Gb (cd.facts (mem_int hp))) (fun d hd => ?_) hpick
      ⟨_, fdA, pOrder, gA, FA.kp, FA.bindsN fun _ _ _ _ _ _ us hl => (match us, hl with | [_, _], _ => rfl), ok_order FA hpick (free _ (by decide +kernel)) (free _ (by decide +kernel)) (free _ (by decide +kernel))⟩
    obtain ⟨fd, F, g⟩ := def_of Xb Gb cd (x := d.x) (st := d.st) (mem_fn hd) (List.mem_append_left _ (List.mem_map.mpr ⟨d, hd, rfl⟩))
    refine ⟨_, fd, F, g, F.bindsN (bd_all d hd), fun hlam => ?_⟩
    have hx : d.x = "held" := by
      have := List.all_eq_true.mp lam_only d hd
      rw [hlam] at this
      exact of_decide_eq_true this
    rw [hx] at F ⊢
    exact ⟨_, _, tabOf_code F, tb, List.mem_singleton.mpr rfl, fun p hp _ => by rw [List.mem_singleton.mp hp]⟩
end
end K77
end DL
open PySem PySem.W PySem.Calls PyProof.Rows
theorem cw_of_plain (pl : DL.K77.Plain 6) : PySem.Challenge.rw_oncestream_k77_whole_numbers_held_then_c.Holds := by
  w_on; o_law
  refine HandSHeadRun.head_any (r := OpenLaw.row PySem.Challenge.rw_oncestream_k77_whole_numbers_held_then_c) (q := view (OpenLaw.row PySem.Challenge.rw_oncestream_k77_whole_numbers_held_then_c).prog [31]) (H := DL.K77.hk) (ob := DL.K77.ob) (M := 4000) (loose := DL.K77.loose) (d := HandSHeadRun.topDef (OpenLaw.row PySem.Challenge.rw_oncestream_k77_whole_numbers_held_then_c).prog 31) (kwd := []) DL.K77.ob_eq
    (by kernel_rfl) (fun s => by kernel_rfl) DL.K77.head_run (by kernel_rfl) (by kernel_rfl) (by kernel_rfl) (by rfl) (by first | assumption | decide +kernel) (by decide +kernel) ⟨rfl, rfl, rfl, rfl, rfl, by decide +kernel⟩ ?hw ?hc
  case hw => w_witness2
  case hc =>
    refine LamX.walk_ofTsE (l := PySem.Challenge.rw_oncestream_k77_whole_numbers_held_then_c) (n := 63) (k := 9) (x := "_law_script") (CX := fun _ => L2.CX0) rfl (by decide) (by kernel_rfl) ⟨rfl, by decide, by decide⟩ ?F (fun _ _ _ _ _ z => z)
    intro w mg fa h Y G hmg0
    obtain ⟨K, KX, c⟩ := Y
    have hmg : mg ("law" : PySem.Str) = some (.ref fa) := by
      have e : (HandSHeadRun.topDef (OpenLaw.row PySem.Challenge.rw_oncestream_k77_whole_numbers_held_then_c).prog 31).name = ("law" : PySem.Str) := by kernel_rfl
      rw [← e]
      exact hmg0
    exact ⟨K, KX, DL.K77.facts KX G hmg c pl _ rfl⟩
end
section
set_option Elab.async false
set_option linter.all false
set_option maxRecDepth 100000
set_option maxHeartbeats 2000000
/-! KP1: what the defs of `outside` give, as plain functions on data. -/
namespace DL
open PySem PySem.Spec PyProof.Rows L2
namespace K77
variable {Tt : Tb} {n : Nat} {s : Src}
/-- how a body's end is a def's end -/
def fin (p : (Fw × Env') × Src) : Rn D := match p.1.1 with
  | .ret d => some (d, p.2)
  | .next => some (.none, p.2)
  | _ => none
theorem run_eq {k : Nat} {fn : Fn} {as : List Slot} (h : fns[k]? = some fn) (h1 : as.length = fn.np) (h2 : fn.np ≤ fn.ns) :
    run fns Tt (n + 1) k as s = (evSs ⟨Tt, run fns Tt n⟩ fn.body (as ++ List.replicate (fn.ns - fn.np) .no) s).bind fin := by
  simp only [run, h, h1, h2, and_self, if_true]
  rfl
theorem bind_one {i : Nat} {d : D} {env : Env'} : bindTg (.one i) d env = if i < env.length then some (env.set i (.sh d)) else none := by simp only [bindTg]
theorem bind_many {ts : Tgs} {ds : List D} {env : Env'} : bindTg (.many ts) (.tuple ds) env = bindTgs ts ds env := by simp only [bindTg]
theorem binds_nil {env : Env'} : bindTgs .nil [] env = some env := by simp only [bindTgs]
theorem binds_cons {t : Tg} {ts : Tgs} {d : D} {ds : List D} {env : Env'} : bindTgs (.cons t ts) (d :: ds) env = (bindTg t d env).bind (bindTgs ts ds) := by simp only [bindTgs]
theorem sub_n : (2 : Nat) - 1 = 1 := rfl
theorem atI_0 {α : Type} {a : α} {l : List α} : L2.atI (a :: l) 0 = some a := by
  unfold L2.atI L2.ixN
  rw [if_pos (by decide), if_pos (by simp)]
  rfl
theorem atI_nat {α : Type} {l : List α} {i : Nat} (h : i < l.length) : L2.atI l (i : Int) = l[i]? := by
  unfold L2.atI L2.ixN
  rw [if_pos (by omega), if_pos (by omega)]
  simp
theorem idx_t0 {a : D} {l : List D} : idxF (.tuple (a :: l)) (.int 0) = some a := atI_0
theorem idx_l0 {a : D} {l : List D} : idxF (.list (a :: l)) (.int 0) = some a := atI_0
theorem idx_t1 {a b : D} {l : List D} : idxF (.tuple (a :: b :: l)) (.int 1) = some b := atI_nat (i := 1) (by simp)
theorem idx_t2 {a b c : D} {l : List D} : idxF (.tuple (a :: b :: c :: l)) (.int 2) = some c := atI_nat (i := 2) (by simp)
theorem idx_t3 {a b c d : D} {l : List D} : idxF (.tuple (a :: b :: c :: d :: l)) (.int 3) = some d := atI_nat (i := 3) (by simp)
theorem idx_t4 {a b c d e : D} {l : List D} : idxF (.tuple (a :: b :: c :: d :: e :: l)) (.int 4) = some e := atI_nat (i := 4) (by simp)
theorem idx_last {c : D} {l : List D} : idxF (.tuple (l ++ [c])) (.int (-1)) = some c := by
  show L2.atI _ _ = _
  unfold L2.atI L2.ixN
  rw [if_neg (by decide), if_pos (by simp; omega)]
  have : (-1 + (((l ++ [c]).length : Nat) : Int)).toNat = l.length := by simp; omega
  simp only [Option.bind_some]
  rw [this]
  simp
theorem lim_0 : ((0 : Nat) ≤ lim) = True := eq_true (by decide)
theorem lim_1 : ((1 : Nat) ≤ lim) = True := eq_true (by decide)
theorem lim_2 : ((2 : Nat) ≤ lim) = True := eq_true (by decide)
theorem lim_3 : ((3 : Nat) ≤ lim) = True := eq_true (by decide)
theorem lim_4 : ((4 : Nat) ≤ lim) = True := eq_true (by decide)
theorem lim_5 : ((5 : Nat) ≤ lim) = True := eq_true (by decide)
theorem lim_6 : ((6 : Nat) ≤ lim) = True := eq_true (by decide)
theorem lim_7 : ((7 : Nat) ≤ lim) = True := eq_true (by decide)
theorem lim_8 : ((8 : Nat) ≤ lim) = True := eq_true (by decide)
theorem tup_l {ds : List D} : tupleF (.list ds) = some (.tuple ds) := rfl
theorem tup_t {ds : List D} : tupleF (.tuple ds) = some (.tuple ds) := rfl
theorem lst_l {ds : List D} : listF (.list ds) = some (.list ds) := rfl
theorem lst_t {ds : List D} : listF (.tuple ds) = some (.list ds) := rfl
theorem len_l {ds : List D} : lenF (.list ds) = some (.int ds.length) := rfl
theorem len_t {ds : List D} : lenF (.tuple ds) = some (.int ds.length) := rfl
theorem truth_t {ds : List D} : truthF (.tuple ds) = some (!ds.isEmpty) := rfl
theorem truth_l {ds : List D} : truthF (.list ds) = some (!ds.isEmpty) := rfl
theorem truth_b {b : Bool} : truthF (.bool b) = some b := rfl
theorem truth_i {i : Int} : truthF (.int i) = some (i != 0) := rfl
theorem truth_n : truthF .none = some false := rfl
theorem ltI {i j : Int} : ltB (.int i) (.int j) = some (decide (i < j)) := rfl
theorem leI {i j : Int} : leB (.int i) (.int j) = some (decide (i ≤ j)) := rfl
theorem gtI {i j : Int} : gtB (.int i) (.int j) = some (decide (j < i)) := rfl
theorem geI {i j : Int} : geB (.int i) (.int j) = some (decide (j ≤ i)) := rfl
theorem addI {i j : Int} : addF (.int i) (.int j) = some (.int (i + j)) := rfl
theorem subI {i j : Int} : subF (.int i) (.int j) = some (.int (i - j)) := rfl
theorem isE_app {α : Type} {a : α} {l : List α} : (l ++ [a]).isEmpty = false := by cases l <;> rfl
theorem cut_14 {a b c d : D} {l : List D} : sliceF (.tuple (a :: b :: c :: d :: l)) (some 1) (some 4) = some (.tuple [b, c, d]) := by
  have e : HT.sIx (l.length + 1 + 1 + 1 + 1) (l.length + 1 + 1 + 1 + 1) (some 4) = 4 := by
    show min 4 _ = 4
    omega
  have e2 : HT.sIx (l.length + 1 + 1 + 1 + 1) 0 (some 1) = 1 := by
    show min 1 _ = 1
    omega
  simp only [sliceF, cutA, List.length_cons, e, e2]
  rfl
theorem cut_1 {a : D} {l : List D} : sliceF (.tuple (a :: l)) (some 1) none = some (.tuple l) := by
  have e2 : HT.sIx (l.length + 1) 0 (some 1) = 1 := by
    show min 1 _ = 1
    omega
  simp only [sliceF, cutA, List.length_cons, e2, HT.sIx_none]
  simp
theorem cut_03 {a b c : D} {l : List D} : sliceF (.tuple (a :: b :: c :: l)) none (some 3) = some (.tuple [a, b, c]) := by
  have e : HT.sIx (l.length + 1 + 1 + 1) (l.length + 1 + 1 + 1) (some 3) = 3 := by
    show min 3 _ = 3
    omega
  simp only [sliceF, cutA, List.length_cons, e, HT.sIx_none]
  rfl
theorem cut_02 {a b : D} {l : List D} : sliceF (.tuple (a :: b :: l)) none (some 2) = some (.tuple [a, b]) := by
  have e : HT.sIx (l.length + 1 + 1) (l.length + 1 + 1) (some 2) = 2 := by
    show min 2 _ = 2
    omega
  simp only [sliceF, cutA, List.length_cons, e, HT.sIx_none]
  rfl
theorem comp_map {α : Type} {f : D → Src → Rn (Option D)} {l : List α} {m : α → D} {g : α → Option D} (h : ∀ a ∈ l, ∀ s, f (m a) s = some (g a, s)) : compLoop f (l.map m) s = some (l.filterMap g, s) := by
  induction l generalizing s with
  | nil => rfl
  | cons a l ih =>
    rw [List.map_cons, List.filterMap_cons]
    simp only [compLoop, h a List.mem_cons_self, Option.bind_some]
    rw [ih fun b hb => h b (List.mem_cons_of_mem _ hb)]
    simp only [Option.bind_some]
    cases g a <;> rfl
/-! ### data -/
abbrev Tk := Bool × Int
def tkS (b : Bool) : Str := if b then "out" else "a"
def tkD (t : Tk) : D := .tuple [.str (tkS t.1), .int t.2]
structure Hd where
  e : Int
  k : Int
  t : Tk
  rows : List D
def Hd.D (h : Hd) : PyData := .tuple [.int h.e, .int h.k, tkD h.t, .tuple h.rows]
def Hd.key (h : Hd) : PyData := .tuple [.int h.e, .int h.k, tkD h.t]
def Hd.letter (h : Hd) : PyData := .tuple [.str "hold", .int h.e, .int h.k, tkD h.t, .tuple h.rows]
abbrev Cm' := Int × List (Tk × List D)
def lotD (p : Tk × List D) : D := .tuple [tkD p.1, .tuple p.2]
def cmD (c : Cm') : D := .tuple [.int c.1, .tuple (c.2.map lotD)]
def outD (ep : Int) (hs : List Hd) (cs : List Cm') : D := .tuple [.int ep, .tuple (hs.map Hd.D), .tuple (cs.map cmD)]
def lastN (cs : List Cm') : Int := (cs.getLast?.map (·.1)).getD 0
theorem r_fresh : run fns Tt (n + 1) 0 [] s = some (outD 0 [] [], s) := by
  rw [run_eq (fn := d_fresh_outside.f) rfl rfl (by decide)]
  rfl
theorem r_last {ep : Int} {hs : List Hd} {cs : List Cm'} : run fns Tt (n + 1) 1 [.sh (outD ep hs cs)] s = some (.int (lastN cs), s) := by
  rw [run_eq (fn := d_last_of.f) rfl rfl (by decide)]
  rcases List.eq_nil_or_concat cs with rfl | ⟨init, c, h⟩
  · rfl
  · rw [List.concat_eq_append] at h
    subst h
    have e1 : ((init ++ [c]).map cmD) = init.map cmD ++ [cmD c] := by simp
    have e4 : lastN (init ++ [c]) = c.1 := by simp [lastN]
    show (evSs _ b_last_of [.sh (outD ep hs (init ++ [c])), .no] s).bind fin = _
    unfold b_last_of outD
    rw [e1, e4]
    simp only [evSs, evS, evE, evEs, evO, evAs, evT, evTs, evTo, evIt, bind_one, bind_many, binds_nil, binds_cons, Option.bind_some, Option.bind_none, Option.map_some, Option.map_none, List.getElem?_cons_zero, List.getElem?_cons_succ, List.set_cons_zero, List.set_cons_succ, List.length_cons, List.length_nil, List.replicate_succ, List.replicate_zero, List.cons_append, List.nil_append, Nat.lt_irrefl, if_true, if_false, lim_0, lim_1, lim_2, lim_3, lim_4, lim_5, lim_6, lim_7, lim_8, idx_t0, idx_t1, idx_t2, idx_t3, idx_t4, idx_l0, seqItems, Op2.F, Cm.F, Cm.T, B1.F, B2.F, tup_l, tup_t, lst_t, lst_l, len_t, len_l, truth_t, truth_l, truth_b, truth_i, truth_n, negF, addI, subI, List.append_assoc, ite_self, Bool.false_eq_true, reduceIte, sub_n, Nat.zero_add, Nat.reduceAdd, Nat.reduceLT, Nat.reduceLeDiff, Nat.reduceSub, Bool.not_true, Bool.not_false, List.isEmpty_cons, List.isEmpty_nil, idx_last, fin, wipeE, noOw, List.all_cons, List.all_nil, Bool.and_true, Bool.true_and, Bool.and_self, and_true, true_and, and_self, isE_app, cut_14, cut_1, cut_03, cut_02, eq_self_iff_true, Bool.not_eq_true, decide_true, decide_false, ltI, leI, gtI, geI, cmD]
/-! ### held -/
def sameKey (a b : Hd) : Bool := decide (a.e = b.e ∧ a.k = b.k ∧ a.t = b.t)
def sortH (l : List Hd) : List Hd := l.mergeSort (PySem.W.dataLe false fun h : Hd => keyS 3 h.D)
def newH (hs : List Hd) (cs : List Cm') (h : Hd) : Bool := decide (h.k > lastN cs) && !(hs.any fun x => sameKey x h)
def addH (hs : List Hd) (cs : List Cm') (h : Hd) : List Hd := if newH hs cs h then sortH (hs ++ [h]) else hs
theorem tk_ok (t : Tk) : (tkD t).canLay0 = true ∧ (tkD t).depth = 1 ∧ plain (tkD t) = true := by
  obtain ⟨b, j⟩ := t
  refine ⟨?_, by simp [tkD, PyData.depth, PyData.depthAll], by simp [tkD, plain, plains]⟩
  simp only [tkD, PyData.canLay0, PyData.canLayAll0, Bool.and_true]
  cases b <;> decide +kernel
theorem tk_eqv (t u : Tk) : PyData.eqv (tkD t) (tkD u) = decide (t = u) := by
  obtain ⟨b, j⟩ := t
  obtain ⟨c, i⟩ := u
  cases b <;> cases c <;> simp [tkD, PyData.eqv, PyData.eqvAll, tkS] <;> first | done | rfl | (intro z; exact absurd z (by decide))
theorem key_shaped (h : Hd) : SeqAt.shaped h.key = true := by
  obtain ⟨h1, h2, _⟩ := tk_ok h.t
  simp [SeqAt.shaped, Hd.key, PyData.canLay0, PyData.canLayAll0, PyData.depth, PyData.depthAll, h1, h2]
theorem keys_shaped (l : List Hd) : SeqAt.shaped (.list (l.map Hd.key)) = true := by
  have h : PyData.canLayAll0 (l.map Hd.key) = true ∧ PyData.depthAll (l.map Hd.key) ≤ 2 := by
    induction l with
    | nil => exact ⟨rfl, by simp [PyData.depthAll]⟩
    | cons a l ih =>
      obtain ⟨h1, h2, _⟩ := tk_ok a.t
      refine ⟨?_, ?_⟩
      · simp only [List.map_cons, PyData.canLayAll0, ih.1, Bool.and_true]
        simp [Hd.key, PyData.canLay0, PyData.canLayAll0, h1]
      · simp only [List.map_cons, PyData.depthAll]
        have : PyData.depth a.key = 2 := by simp [Hd.key, PyData.depth, PyData.depthAll, h2]
        omega
  unfold SeqAt.shaped
  have h1 : (PyData.list (l.map Hd.key)).canLay0 = true := by rw [PyData.canLay0]; exact h.1
  have h2 : (PyData.list (l.map Hd.key)).depth ≤ 64 := by rw [PyData.depth]; have := h.2; omega
  rw [h1, Bool.true_and]
  exact decide_eq_true h2
theorem key_eqv (a b : Hd) : PyData.eqv a.key b.key = sameKey a b := by
  simp only [Hd.key, PyData.eqv, PyData.eqvAll, tk_eqv, Bool.and_true, sameKey]
  rw [Bool.eq_iff_iff]
  simp
theorem in_keys (hs : List Hd) (h : Hd) : inB h.key (.list (hs.map Hd.key)) = some (hs.any fun x => sameKey x h) := by
  show (if (SeqAt.shaped h.key && SeqAt.shaped (.list (hs.map Hd.key))) = true then _ else none) = _
  rw [key_shaped, keys_shaped, Bool.and_self, if_pos rfl, List.any_map]
  congr 2
  funext x
  exact key_eqv x h
theorem key_keyS (h : Hd) : keyS 3 h.D = h.key := rfl
theorem keyOk_D (h : Hd) (_ : h.rows.length ≤ lim) : keyOk 3 h.D = true := by
  obtain ⟨_, h2, h3⟩ := tk_ok h.t
  have e : ([PyData.int h.e, .int h.k, tkD h.t, .tuple h.rows] : List D).take (3 : Int).toNat = [.int h.e, .int h.k, tkD h.t] := rfl
  unfold Hd.D keyOk
  dsimp only
  rw [e]
  have d : (keyS 3 (.tuple [PyData.int h.e, .int h.k, tkD h.t, .tuple h.rows])).depth = 2 := by
    show h.key.depth = 2
    simp [Hd.key, PyData.depth, PyData.depthAll, h2]
  rw [d]
  simp [plains, plain, h3, lim]
theorem alike_key (a b : Hd) : PySem.W.alike a.key b.key = true := by
  simp [Hd.key, PySem.W.alike, PySem.W.alikeAll, tkD]
theorem sort_rec (l : List Hd) (hl : l.length ≤ lim) (hr : ∀ h ∈ l, h.rows.length ≤ lim) : sortSF 3 (.list (l.map Hd.D)) = some (.list ((sortH l).map Hd.D)) := by
  have hk : (l.map Hd.D).all (keyOk 3) = true := List.all_eq_true.mpr fun d hd => by
    obtain ⟨h, hh, rfl⟩ := List.mem_map.mp hd
    exact keyOk_D h (hr h hh)
  have ha : ((l.map Hd.D).all fun a => (l.map Hd.D).all fun b => PySem.W.alike (keyS 3 a) (keyS 3 b)) = true := List.all_eq_true.mpr fun d hd => List.all_eq_true.mpr fun d' hd' => by
    obtain ⟨h, _, rfl⟩ := List.mem_map.mp hd
    obtain ⟨h', _, rfl⟩ := List.mem_map.mp hd'
    exact alike_key h h'
  unfold sortSF
  dsimp only
  rw [hk, ha, if_pos (by simp; exact hl)]
  congr 2
  exact (List.map_mergeSort (f := Hd.D) (r := PySem.W.dataLe false fun h : Hd => keyS 3 h.D) (s := PySem.W.dataLe false (keyS 3)) (l := l) (fun a _ b _ => rfl)).symm
theorem r_held {ep : Int} {hs : List Hd} {cs : List Cm'} {h : Hd} (hl : hs.length < lim) (hr : ∀ x ∈ hs ++ [h], x.rows.length ≤ lim) : run fns Tt (n + 2) 2 [.sh (outD ep hs cs), .sh h.letter] s = some (if h.e < ep then .tuple [outD ep hs cs, .tuple []] else
    .tuple [outD ep (addH hs cs h) cs, .tuple [.tuple [.str "held", .int h.e, .int h.k, tkD h.t]]], s) := by
  rw [run_eq (fn := d_held.f) rfl rfl (by decide)]
  show (evSs _ b_held [.sh (outD ep hs cs), .sh h.letter, .no, .no, .no, .no, .no, .no] s).bind fin = _
  have rl := r_last (Tt := Tt) (n := n) (s := s) (ep := ep) (hs := hs) (cs := cs)
  have hl2 : (hs.map Hd.D).length ≤ lim := by rw [List.length_map]; omega
  unfold b_held
  unfold outD at rl ⊢
  unfold Hd.letter
  by_cases he : h.e < ep
  · simp only [evSs, evS, evE, evEs, evO, evAs, evT, evTs, evTo, evIt, bind_one, bind_many, binds_nil, binds_cons, Option.bind_some, Option.bind_none, Option.map_some, Option.map_none, List.getElem?_cons_zero, List.getElem?_cons_succ, List.set_cons_zero, List.set_cons_succ, List.length_cons, List.length_nil, List.replicate_succ, List.replicate_zero, List.cons_append, List.nil_append, Nat.lt_irrefl, if_true, if_false, lim_0, lim_1, lim_2, lim_3, lim_4, lim_5, lim_6, lim_7, lim_8, idx_t0, idx_t1, idx_t2, idx_t3, idx_t4, idx_l0, seqItems, Op2.F, Cm.F, Cm.T, B1.F, B2.F, tup_l, tup_t, lst_t, lst_l, len_t, len_l, truth_t, truth_l, truth_b, truth_i, truth_n, negF, addI, subI, List.append_assoc, ite_self, Bool.false_eq_true, reduceIte, sub_n, Nat.zero_add, Nat.reduceAdd, Nat.reduceLT, Nat.reduceLeDiff, Nat.reduceSub, Bool.not_true, Bool.not_false, List.isEmpty_cons, List.isEmpty_nil, idx_last, fin, wipeE, noOw, List.all_cons, List.all_nil, Bool.and_true, Bool.true_and, Bool.and_self, and_true, true_and, and_self, isE_app, cut_14, cut_1, cut_03, cut_02, eq_self_iff_true, Bool.not_eq_true, decide_true, decide_false, ltI, leI, gtI, geI, he]
  · have hik : inB (.tuple [.int h.e, .int h.k, tkD h.t]) (.list (hs.map Hd.key)) = some (hs.any fun x => sameKey x h) := in_keys hs h
    cases hb : decide (lastN cs < h.k) with
    | false =>
      have e : addH hs cs h = hs := by unfold addH newH; rw [show decide (h.k > lastN cs) = false from hb, Bool.false_and]; rfl
      rw [e]
      simp only [evSs, evS, evE, evEs, evO, evAs, evT, evTs, evTo, evIt, bind_one, bind_many, binds_nil, binds_cons, Option.bind_some, Option.bind_none, Option.map_some, Option.map_none, List.getElem?_cons_zero, List.getElem?_cons_succ, List.set_cons_zero, List.set_cons_succ, List.length_cons, List.length_nil, List.replicate_succ, List.replicate_zero, List.cons_append, List.nil_append, Nat.lt_irrefl, if_true, if_false, lim_0, lim_1, lim_2, lim_3, lim_4, lim_5, lim_6, lim_7, lim_8, idx_t0, idx_t1, idx_t2, idx_t3, idx_t4, idx_l0, seqItems, Op2.F, Cm.F, Cm.T, B1.F, B2.F, tup_l, tup_t, lst_t, lst_l, len_t, len_l, truth_t, truth_l, truth_b, truth_i, truth_n, negF, addI, subI, List.append_assoc, ite_self, Bool.false_eq_true, reduceIte, sub_n, Nat.zero_add, Nat.reduceAdd, Nat.reduceLT, Nat.reduceLeDiff, Nat.reduceSub, Bool.not_true, Bool.not_false, List.isEmpty_cons, List.isEmpty_nil, idx_last, fin, wipeE, noOw, List.all_cons, List.all_nil, Bool.and_true, Bool.true_and, Bool.and_self, and_true, true_and, and_self, isE_app, cut_14, cut_1, cut_03, cut_02, eq_self_iff_true, Bool.not_eq_true, decide_true, decide_false, ltI, leI, gtI, geI, he, rl, hb]
    | true =>
      simp only [evSs, evS, evE, evEs, evO, evAs, evT, evTs, evTo, evIt, bind_one, bind_many, binds_nil, binds_cons, Option.bind_some, Option.bind_none, Option.map_some, Option.map_none, List.getElem?_cons_zero, List.getElem?_cons_succ, List.set_cons_zero, List.set_cons_succ, List.length_cons, List.length_nil, List.replicate_succ, List.replicate_zero, List.cons_append, List.nil_append, Nat.lt_irrefl, if_true, if_false, lim_0, lim_1, lim_2, lim_3, lim_4, lim_5, lim_6, lim_7, lim_8, idx_t0, idx_t1, idx_t2, idx_t3, idx_t4, idx_l0, seqItems, Op2.F, Cm.F, Cm.T, B1.F, B2.F, tup_l, tup_t, lst_t, lst_l, len_t, len_l, truth_t, truth_l, truth_b, truth_i, truth_n, negF, addI, subI, List.append_assoc, ite_self, Bool.false_eq_true, reduceIte, sub_n, Nat.zero_add, Nat.reduceAdd, Nat.reduceLT, Nat.reduceLeDiff, Nat.reduceSub, Bool.not_true, Bool.not_false, List.isEmpty_cons, List.isEmpty_nil, idx_last, fin, wipeE, noOw, List.all_cons, List.all_nil, Bool.and_true, Bool.true_and, Bool.and_self, and_true, true_and, and_self, isE_app, cut_14, cut_1, cut_03, cut_02, eq_self_iff_true, Bool.not_eq_true, decide_true, decide_false, ltI, leI, gtI, geI, he, rl, hb, hl2]
      rw [comp_map (g := fun h => some h.key) (fun a _ s => by simp only [Hd.D, evSs, evS, evE, evEs, evO, evAs, evT, evTs, evTo, evIt, bind_one, bind_many, binds_nil, binds_cons, Option.bind_some, Option.bind_none, Option.map_some, Option.map_none, List.getElem?_cons_zero, List.getElem?_cons_succ, List.set_cons_zero, List.set_cons_succ, List.length_cons, List.length_nil, List.replicate_succ, List.replicate_zero, List.cons_append, List.nil_append, Nat.lt_irrefl, if_true, if_false, lim_0, lim_1, lim_2, lim_3, lim_4, lim_5, lim_6, lim_7, lim_8, idx_t0, idx_t1, idx_t2, idx_t3, idx_t4, idx_l0, seqItems, Op2.F, Cm.F, Cm.T, B1.F, B2.F, tup_l, tup_t, lst_t, lst_l, len_t, len_l, truth_t, truth_l, truth_b, truth_i, truth_n, negF, addI, subI, List.append_assoc, ite_self, Bool.false_eq_true, reduceIte, sub_n, Nat.zero_add, Nat.reduceAdd, Nat.reduceLT, Nat.reduceLeDiff, Nat.reduceSub, Bool.not_true, Bool.not_false, List.isEmpty_cons, List.isEmpty_nil, idx_last, fin, wipeE, noOw, List.all_cons, List.all_nil, Bool.and_true, Bool.true_and, Bool.and_self, and_true, true_and, and_self, isE_app, cut_14, cut_1, cut_03, cut_02, eq_self_iff_true, Bool.not_eq_true, decide_true, decide_false, ltI, leI, gtI, geI]; rfl)]
      have ek : (hs.filterMap fun h => some h.key) = hs.map Hd.key := by simp
      rw [ek]
      cases hn : hs.any fun x => sameKey x h with
      | true =>
        have e : addH hs cs h = hs := by unfold addH newH; rw [hn, Bool.not_true, Bool.and_false]; rfl
        rw [e]
        simp only [evSs, evS, evE, evEs, evO, evAs, evT, evTs, evTo, evIt, bind_one, bind_many, binds_nil, binds_cons, Option.bind_some, Option.bind_none, Option.map_some, Option.map_none, List.getElem?_cons_zero, List.getElem?_cons_succ, List.set_cons_zero, List.set_cons_succ, List.length_cons, List.length_nil, List.replicate_succ, List.replicate_zero, List.cons_append, List.nil_append, Nat.lt_irrefl, if_true, if_false, lim_0, lim_1, lim_2, lim_3, lim_4, lim_5, lim_6, lim_7, lim_8, idx_t0, idx_t1, idx_t2, idx_t3, idx_t4, idx_l0, seqItems, Op2.F, Cm.F, Cm.T, B1.F, B2.F, tup_l, tup_t, lst_t, lst_l, len_t, len_l, truth_t, truth_l, truth_b, truth_i, truth_n, negF, addI, subI, List.append_assoc, ite_self, Bool.false_eq_true, reduceIte, sub_n, Nat.zero_add, Nat.reduceAdd, Nat.reduceLT, Nat.reduceLeDiff, Nat.reduceSub, Bool.not_true, Bool.not_false, List.isEmpty_cons, List.isEmpty_nil, idx_last, fin, wipeE, noOw, List.all_cons, List.all_nil, Bool.and_true, Bool.true_and, Bool.and_self, and_true, true_and, and_self, isE_app, cut_14, cut_1, cut_03, cut_02, eq_self_iff_true, Bool.not_eq_true, decide_true, decide_false, ltI, leI, gtI, geI, hik, hn]
      | false =>
        have e : addH hs cs h = sortH (hs ++ [h]) := by unfold addH newH; rw [hn, show decide (h.k > lastN cs) = true from hb]; rfl
        have es := sort_rec (hs ++ [h]) (by rw [List.length_append]; exact hl) hr
        rw [List.map_append, List.map_cons, List.map_nil] at es
        have es : sortSF 3 (.list (hs.map Hd.D ++ [.tuple [.int h.e, .int h.k, tkD h.t, .tuple h.rows]])) = some (.list ((sortH (hs ++ [h])).map Hd.D)) := es
        have hl3 : (hs.map Hd.D ++ [PyData.tuple [.int h.e, .int h.k, tkD h.t, .tuple h.rows]]).length ≤ lim := by rw [List.length_append, List.length_map]; exact hl
        rw [e]
        simp only [evSs, evS, evE, evEs, evO, evAs, evT, evTs, evTo, evIt, bind_one, bind_many, binds_nil, binds_cons, Option.bind_some, Option.bind_none, Option.map_some, Option.map_none, List.getElem?_cons_zero, List.getElem?_cons_succ, List.set_cons_zero, List.set_cons_succ, List.length_cons, List.length_nil, List.replicate_succ, List.replicate_zero, List.cons_append, List.nil_append, Nat.lt_irrefl, if_true, if_false, lim_0, lim_1, lim_2, lim_3, lim_4, lim_5, lim_6, lim_7, lim_8, idx_t0, idx_t1, idx_t2, idx_t3, idx_t4, idx_l0, seqItems, Op2.F, Cm.F, Cm.T, B1.F, B2.F, tup_l, tup_t, lst_t, lst_l, len_t, len_l, truth_t, truth_l, truth_b, truth_i, truth_n, negF, addI, subI, List.append_assoc, ite_self, Bool.false_eq_true, reduceIte, sub_n, Nat.zero_add, Nat.reduceAdd, Nat.reduceLT, Nat.reduceLeDiff, Nat.reduceSub, Bool.not_true, Bool.not_false, List.isEmpty_cons, List.isEmpty_nil, idx_last, fin, wipeE, noOw, List.all_cons, List.all_nil, Bool.and_true, Bool.true_and, Bool.and_self, and_true, true_and, and_self, isE_app, cut_14, cut_1, cut_03, cut_02, eq_self_iff_true, Bool.not_eq_true, decide_true, decide_false, ltI, leI, gtI, geI, hik, hn, hl3, es]
end K77
end DL
end
section
set_option Elab.async false
set_option linter.all false
set_option maxRecDepth 100000
set_option maxHeartbeats 2000000
/-! KP2: the other letters. -/
namespace DL
open PySem PySem.Spec PyProof.Rows L2
namespace K77
variable {Tt : Tb} {n : Nat} {s : Src}
theorem lay_i (i : Int) : (PyData.int i).canLay0 = true := rfl
theorem eqB_sh {a b : D} (ha : SeqAt.shaped a = true) (hb : SeqAt.shaped b = true) : eqB a b = some (PyData.eqv a b) := by
  unfold eqB
  split
  · simp [SeqAt.shaped, PyData.canLay0] at ha
  · simp [ha, hb]
theorem eq_ii {a b c d : Int} : eqB (.tuple [.int a, .int b]) (.tuple [.int c, .int d]) = some (decide (a = c ∧ b = d)) := by
  have h : ∀ x y : Int, SeqAt.shaped (.tuple [.int x, .int y]) = true := fun x y => by simp [SeqAt.shaped, PyData.canLay0, PyData.canLayAll0, PyData.depth, PyData.depthAll]
  rw [eqB_sh (h _ _) (h _ _)]
  congr 1
  rw [Bool.eq_iff_iff]
  simp [PyData.eqv, PyData.eqvAll]
theorem tks_shaped (ts : List Tk) : SeqAt.shaped (.tuple (ts.map tkD)) = true := by
  have h : PyData.canLayAll0 (ts.map tkD) = true ∧ PyData.depthAll (ts.map tkD) ≤ 1 := by
    induction ts with
    | nil => exact ⟨rfl, by simp [PyData.depthAll]⟩
    | cons a l ih =>
      obtain ⟨h1, h2, _⟩ := tk_ok a
      refine ⟨?_, ?_⟩
      · simp only [List.map_cons, PyData.canLayAll0, ih.1, h1, Bool.and_true]
      · simp only [List.map_cons, PyData.depthAll]
        omega
  unfold SeqAt.shaped
  have h1 : (PyData.tuple (ts.map tkD)).canLay0 = true := by rw [PyData.canLay0]; exact h.1
  have h2 : (PyData.tuple (ts.map tkD)).depth ≤ 64 := by rw [PyData.depth]; have := h.2; omega
  rw [h1, Bool.true_and]
  exact decide_eq_true h2
theorem tk_shaped (t : Tk) : SeqAt.shaped (tkD t) = true := by
  obtain ⟨h1, h2, _⟩ := tk_ok t
  simp [SeqAt.shaped, h1, h2]
theorem in_tks (ts : List Tk) (t : Tk) : inB (tkD t) (.tuple (ts.map tkD)) = some (decide (t ∈ ts)) := by
  show (if (SeqAt.shaped (tkD t) && SeqAt.shaped (.tuple (ts.map tkD))) = true then _ else none) = _
  rw [tk_shaped, tks_shaped, Bool.and_self, if_pos rfl, List.any_map]
  congr 1
  rw [Bool.eq_iff_iff, List.any_eq_true]
  simp only [Function.comp, tk_eqv, decide_eq_true_eq]
  exact ⟨fun ⟨x, h1, h2⟩ => h2 ▸ h1, fun h => ⟨t, h, rfl⟩⟩
def comD (e k : Int) (ts : List Tk) : D := .tuple [.str "commit", .int e, .int k, .tuple (ts.map tkD)]
def drpD (e k : Int) : D := .tuple [.str "drop", .int e, .int k]
def mine (e k : Int) (ts : List Tk) (x : Hd) : Bool := decide (x.e = e ∧ x.k = k) && decide (x.t ∈ ts)
def lotsOf (e k : Int) (ts : List Tk) (hs : List Hd) : List (Tk × List D) := (hs.filter (mine e k ts)).map fun x => (x.t, x.rows)
def leftOf (e k : Int) (ts : List Tk) (hs : List Hd) : List Hd := hs.filter fun x => !mine e k ts x
theorem fm_filter {α β : Type} (p : α → Bool) (f : α → β) (l : List α) : (l.filterMap fun x => if p x = true then some (f x) else none) = (l.filter p).map f := by
  induction l with
  | nil => rfl
  | cons a l ih =>
    rw [List.filterMap_cons, List.filter_cons]
    cases h : p a
    · simpa using ih
    · simpa using ih
theorem r_com {ep : Int} {hs : List Hd} {cs : List Cm'} {e k : Int} {ts : List Tk} (hl : hs.length ≤ lim) (hc : cs.length < lim) : run fns Tt (n + 2) 3 [.sh (outD ep hs cs), .sh (comD e k ts)] s = some (if k ≤ lastN cs then .tuple [outD ep hs cs, .tuple [.tuple [.str "done", .int k]]] else
    if (lotsOf e k ts hs).length < ts.length then .tuple [outD ep hs cs, .tuple []] else
    .tuple [outD ep (leftOf e k ts hs) (cs ++ [(k, lotsOf e k ts hs)]), .tuple [.tuple [.str "done", .int k]]], s) := by
  rw [run_eq (fn := d_committed_by.f) rfl rfl (by decide)]
  show (evSs _ b_committed_by [.sh (outD ep hs cs), .sh (comD e k ts), .no, .no, .no, .no, .no, .no, .no, .no, .no, .no, .no, .no, .no, .no] s).bind fin = _
  have rl := r_last (Tt := Tt) (n := n) (s := s) (ep := ep) (hs := hs) (cs := cs)
  have hl2 : (hs.map Hd.D).length ≤ lim := by rw [List.length_map]; omega
  have hl3 : (cs.map cmD ++ [PyData.tuple [.int k, .tuple ((lotsOf e k ts hs).map lotD)]]).length ≤ lim := by rw [List.length_append, List.length_map]; exact hc
  unfold b_committed_by
  unfold outD at rl ⊢
  unfold comD
  by_cases hk : k ≤ lastN cs
  · simp only [evSs, evS, evE, evEs, evO, evAs, evT, evTs, evTo, evIt, bind_one, bind_many, binds_nil, binds_cons, Option.bind_some, Option.bind_none, Option.map_some, Option.map_none, List.getElem?_cons_zero, List.getElem?_cons_succ, List.set_cons_zero, List.set_cons_succ, List.length_cons, List.length_nil, List.replicate_succ, List.replicate_zero, List.cons_append, List.nil_append, Nat.lt_irrefl, if_true, if_false, lim_0, lim_1, lim_2, lim_3, lim_4, lim_5, lim_6, lim_7, lim_8, idx_t0, idx_t1, idx_t2, idx_t3, idx_t4, idx_l0, seqItems, Op2.F, Cm.F, Cm.T, B1.F, B2.F, tup_l, tup_t, lst_t, lst_l, len_t, len_l, truth_t, truth_l, truth_b, truth_i, truth_n, negF, addI, subI, List.append_assoc, ite_self, Bool.false_eq_true, reduceIte, sub_n, Nat.zero_add, Nat.reduceAdd, Nat.reduceLT, Nat.reduceLeDiff, Nat.reduceSub, Bool.not_true, Bool.not_false, List.isEmpty_cons, List.isEmpty_nil, idx_last, fin, wipeE, noOw, List.all_cons, List.all_nil, Bool.and_true, Bool.true_and, Bool.and_self, and_true, true_and, and_self, isE_app, cut_14, cut_1, cut_03, cut_02, eq_self_iff_true, Bool.not_eq_true, decide_true, decide_false, ltI, leI, gtI, geI, rl, hk]
  · simp only [evSs, evS, evE, evEs, evO, evAs, evT, evTs, evTo, evIt, bind_one, bind_many, binds_nil, binds_cons, Option.bind_some, Option.bind_none, Option.map_some, Option.map_none, List.getElem?_cons_zero, List.getElem?_cons_succ, List.set_cons_zero, List.set_cons_succ, List.length_cons, List.length_nil, List.replicate_succ, List.replicate_zero, List.cons_append, List.nil_append, Nat.lt_irrefl, if_true, if_false, lim_0, lim_1, lim_2, lim_3, lim_4, lim_5, lim_6, lim_7, lim_8, idx_t0, idx_t1, idx_t2, idx_t3, idx_t4, idx_l0, seqItems, Op2.F, Cm.F, Cm.T, B1.F, B2.F, tup_l, tup_t, lst_t, lst_l, len_t, len_l, truth_t, truth_l, truth_b, truth_i, truth_n, negF, addI, subI, List.append_assoc, ite_self, Bool.false_eq_true, reduceIte, sub_n, Nat.zero_add, Nat.reduceAdd, Nat.reduceLT, Nat.reduceLeDiff, Nat.reduceSub, Bool.not_true, Bool.not_false, List.isEmpty_cons, List.isEmpty_nil, idx_last, fin, wipeE, noOw, List.all_cons, List.all_nil, Bool.and_true, Bool.true_and, Bool.and_self, and_true, true_and, and_self, isE_app, cut_14, cut_1, cut_03, cut_02, eq_self_iff_true, Bool.not_eq_true, decide_true, decide_false, ltI, leI, gtI, geI, rl, hk, hl2]
    rw [comp_map (g := fun x => if mine e k ts x = true then some (lotD (x.t, x.rows)) else none) (fun a _ s => by
      simp only [Hd.D, evSs, evS, evE, evEs, evO, evAs, evT, evTs, evTo, evIt, bind_one, bind_many, binds_nil, binds_cons, Option.bind_some, Option.bind_none, Option.map_some, Option.map_none, List.getElem?_cons_zero, List.getElem?_cons_succ, List.set_cons_zero, List.set_cons_succ, List.length_cons, List.length_nil, List.replicate_succ, List.replicate_zero, List.cons_append, List.nil_append, Nat.lt_irrefl, if_true, if_false, lim_0, lim_1, lim_2, lim_3, lim_4, lim_5, lim_6, lim_7, lim_8, idx_t0, idx_t1, idx_t2, idx_t3, idx_t4, idx_l0, seqItems, Op2.F, Cm.F, Cm.T, B1.F, B2.F, tup_l, tup_t, lst_t, lst_l, len_t, len_l, truth_t, truth_l, truth_b, truth_i, truth_n, negF, addI, subI, List.append_assoc, ite_self, Bool.false_eq_true, reduceIte, sub_n, Nat.zero_add, Nat.reduceAdd, Nat.reduceLT, Nat.reduceLeDiff, Nat.reduceSub, Bool.not_true, Bool.not_false, List.isEmpty_cons, List.isEmpty_nil, idx_last, fin, wipeE, noOw, List.all_cons, List.all_nil, Bool.and_true, Bool.true_and, Bool.and_self, and_true, true_and, and_self, isE_app, cut_14, cut_1, cut_03, cut_02, eq_self_iff_true, Bool.not_eq_true, decide_true, decide_false, ltI, leI, gtI, geI, eq_ii, in_tks, mine]
      by_cases h1 : a.e = e ∧ a.k = k <;> by_cases h2 : a.t ∈ ts <;> simp [h1, h2, lotD])]
    rw [fm_filter]
    have e1 : ((hs.filter (mine e k ts)).map fun x => lotD (x.t, x.rows)) = (lotsOf e k ts hs).map lotD := by unfold lotsOf; rw [List.map_map]; rfl
    rw [e1]
    simp only [evSs, evS, evE, evEs, evO, evAs, evT, evTs, evTo, evIt, bind_one, bind_many, binds_nil, binds_cons, Option.bind_some, Option.bind_none, Option.map_some, Option.map_none, List.getElem?_cons_zero, List.getElem?_cons_succ, List.set_cons_zero, List.set_cons_succ, List.length_cons, List.length_nil, List.replicate_succ, List.replicate_zero, List.cons_append, List.nil_append, Nat.lt_irrefl, if_true, if_false, lim_0, lim_1, lim_2, lim_3, lim_4, lim_5, lim_6, lim_7, lim_8, idx_t0, idx_t1, idx_t2, idx_t3, idx_t4, idx_l0, seqItems, Op2.F, Cm.F, Cm.T, B1.F, B2.F, tup_l, tup_t, lst_t, lst_l, len_t, len_l, truth_t, truth_l, truth_b, truth_i, truth_n, negF, addI, subI, List.append_assoc, ite_self, Bool.false_eq_true, reduceIte, sub_n, Nat.zero_add, Nat.reduceAdd, Nat.reduceLT, Nat.reduceLeDiff, Nat.reduceSub, Bool.not_true, Bool.not_false, List.isEmpty_cons, List.isEmpty_nil, idx_last, fin, wipeE, noOw, List.all_cons, List.all_nil, Bool.and_true, Bool.true_and, Bool.and_self, and_true, true_and, and_self, isE_app, cut_14, cut_1, cut_03, cut_02, eq_self_iff_true, Bool.not_eq_true, decide_true, decide_false, ltI, leI, gtI, geI, List.length_map]
    by_cases hz : (lotsOf e k ts hs).length < ts.length
    · have hz' : (((lotsOf e k ts hs).length : Nat) : Int) < ((ts.length : Nat) : Int) := by omega
      simp only [evSs, evS, evE, evEs, evO, evAs, evT, evTs, evTo, evIt, bind_one, bind_many, binds_nil, binds_cons, Option.bind_some, Option.bind_none, Option.map_some, Option.map_none, List.getElem?_cons_zero, List.getElem?_cons_succ, List.set_cons_zero, List.set_cons_succ, List.length_cons, List.length_nil, List.replicate_succ, List.replicate_zero, List.cons_append, List.nil_append, Nat.lt_irrefl, if_true, if_false, lim_0, lim_1, lim_2, lim_3, lim_4, lim_5, lim_6, lim_7, lim_8, idx_t0, idx_t1, idx_t2, idx_t3, idx_t4, idx_l0, seqItems, Op2.F, Cm.F, Cm.T, B1.F, B2.F, tup_l, tup_t, lst_t, lst_l, len_t, len_l, truth_t, truth_l, truth_b, truth_i, truth_n, negF, addI, subI, List.append_assoc, ite_self, Bool.false_eq_true, reduceIte, sub_n, Nat.zero_add, Nat.reduceAdd, Nat.reduceLT, Nat.reduceLeDiff, Nat.reduceSub, Bool.not_true, Bool.not_false, List.isEmpty_cons, List.isEmpty_nil, idx_last, fin, wipeE, noOw, List.all_cons, List.all_nil, Bool.and_true, Bool.true_and, Bool.and_self, and_true, true_and, and_self, isE_app, cut_14, cut_1, cut_03, cut_02, eq_self_iff_true, Bool.not_eq_true, decide_true, decide_false, ltI, leI, gtI, geI, hz, hz']
    · have hz' : ¬ (((lotsOf e k ts hs).length : Nat) : Int) < ((ts.length : Nat) : Int) := by omega
      simp only [evSs, evS, evE, evEs, evO, evAs, evT, evTs, evTo, evIt, bind_one, bind_many, binds_nil, binds_cons, Option.bind_some, Option.bind_none, Option.map_some, Option.map_none, List.getElem?_cons_zero, List.getElem?_cons_succ, List.set_cons_zero, List.set_cons_succ, List.length_cons, List.length_nil, List.replicate_succ, List.replicate_zero, List.cons_append, List.nil_append, Nat.lt_irrefl, if_true, if_false, lim_0, lim_1, lim_2, lim_3, lim_4, lim_5, lim_6, lim_7, lim_8, idx_t0, idx_t1, idx_t2, idx_t3, idx_t4, idx_l0, seqItems, Op2.F, Cm.F, Cm.T, B1.F, B2.F, tup_l, tup_t, lst_t, lst_l, len_t, len_l, truth_t, truth_l, truth_b, truth_i, truth_n, negF, addI, subI, List.append_assoc, ite_self, Bool.false_eq_true, reduceIte, sub_n, Nat.zero_add, Nat.reduceAdd, Nat.reduceLT, Nat.reduceLeDiff, Nat.reduceSub, Bool.not_true, Bool.not_false, List.isEmpty_cons, List.isEmpty_nil, idx_last, fin, wipeE, noOw, List.all_cons, List.all_nil, Bool.and_true, Bool.true_and, Bool.and_self, and_true, true_and, and_self, isE_app, cut_14, cut_1, cut_03, cut_02, eq_self_iff_true, Bool.not_eq_true, decide_true, decide_false, ltI, leI, gtI, geI, hz, hz', hl2]
      rw [comp_map (g := fun x => if (!mine e k ts x) = true then some x.D else none) (fun a _ s => by
        simp only [Hd.D, evSs, evS, evE, evEs, evO, evAs, evT, evTs, evTo, evIt, bind_one, bind_many, binds_nil, binds_cons, Option.bind_some, Option.bind_none, Option.map_some, Option.map_none, List.getElem?_cons_zero, List.getElem?_cons_succ, List.set_cons_zero, List.set_cons_succ, List.length_cons, List.length_nil, List.replicate_succ, List.replicate_zero, List.cons_append, List.nil_append, Nat.lt_irrefl, if_true, if_false, lim_0, lim_1, lim_2, lim_3, lim_4, lim_5, lim_6, lim_7, lim_8, idx_t0, idx_t1, idx_t2, idx_t3, idx_t4, idx_l0, seqItems, Op2.F, Cm.F, Cm.T, B1.F, B2.F, tup_l, tup_t, lst_t, lst_l, len_t, len_l, truth_t, truth_l, truth_b, truth_i, truth_n, negF, addI, subI, List.append_assoc, ite_self, Bool.false_eq_true, reduceIte, sub_n, Nat.zero_add, Nat.reduceAdd, Nat.reduceLT, Nat.reduceLeDiff, Nat.reduceSub, Bool.not_true, Bool.not_false, List.isEmpty_cons, List.isEmpty_nil, idx_last, fin, wipeE, noOw, List.all_cons, List.all_nil, Bool.and_true, Bool.true_and, Bool.and_self, and_true, true_and, and_self, isE_app, cut_14, cut_1, cut_03, cut_02, eq_self_iff_true, Bool.not_eq_true, decide_true, decide_false, ltI, leI, gtI, geI, eq_ii, in_tks, mine]
        by_cases h1 : a.e = e ∧ a.k = k <;> by_cases h2 : a.t ∈ ts <;> simp [h1, h2])]
      rw [fm_filter]
      simp only [evSs, evS, evE, evEs, evO, evAs, evT, evTs, evTo, evIt, bind_one, bind_many, binds_nil, binds_cons, Option.bind_some, Option.bind_none, Option.map_some, Option.map_none, List.getElem?_cons_zero, List.getElem?_cons_succ, List.set_cons_zero, List.set_cons_succ, List.length_cons, List.length_nil, List.replicate_succ, List.replicate_zero, List.cons_append, List.nil_append, Nat.lt_irrefl, if_true, if_false, lim_0, lim_1, lim_2, lim_3, lim_4, lim_5, lim_6, lim_7, lim_8, idx_t0, idx_t1, idx_t2, idx_t3, idx_t4, idx_l0, seqItems, Op2.F, Cm.F, Cm.T, B1.F, B2.F, tup_l, tup_t, lst_t, lst_l, len_t, len_l, truth_t, truth_l, truth_b, truth_i, truth_n, negF, addI, subI, List.append_assoc, ite_self, Bool.false_eq_true, reduceIte, sub_n, Nat.zero_add, Nat.reduceAdd, Nat.reduceLT, Nat.reduceLeDiff, Nat.reduceSub, Bool.not_true, Bool.not_false, List.isEmpty_cons, List.isEmpty_nil, idx_last, fin, wipeE, noOw, List.all_cons, List.all_nil, Bool.and_true, Bool.true_and, Bool.and_self, and_true, true_and, and_self, isE_app, cut_14, cut_1, cut_03, cut_02, eq_self_iff_true, Bool.not_eq_true, decide_true, decide_false, ltI, leI, gtI, geI, hl3]
      rw [List.map_append]
      rfl
/-! ### what is heard -/
inductive Lt where | hold (h : Hd) | com (e k : Int) (ts : List Tk) | drop (e k : Int)
def Lt.D : Lt → PyData
  | .hold h => h.letter
  | .com e k ts => comD e k ts
  | .drop e k => drpD e k
structure Ou where
  ep : Int
  hs : List Hd
  cs : List Cm'
def Ou.D (o : Ou) : PyData := outD o.ep o.hs o.cs
def hear (o : Ou) : Lt → Ou × List D
  | .hold h => if h.e < o.ep then (o, []) else ({ o with hs := addH o.hs o.cs h }, [.tuple [.str "held", .int h.e, .int h.k, tkD h.t]])
  | .com e k ts => if k ≤ lastN o.cs then (o, [.tuple [.str "done", .int k]]) else
    if (lotsOf e k ts o.hs).length < ts.length then (o, []) else ({ o with hs := leftOf e k ts o.hs, cs := o.cs ++ [(k, lotsOf e k ts o.hs)] }, [.tuple [.str "done", .int k]])
  | .drop e k => if lastN o.cs < k then (o, []) else (⟨if e > o.ep then e else o.ep, o.hs.filter fun x => decide (x.e ≥ if e > o.ep then e else o.ep), o.cs⟩, [.tuple [.str "dropped", .int e]])
structure OkO (B : Nat) (o : Ou) : Prop where
  hs : o.hs.length ≤ B
  cs : o.cs.length ≤ B
  rows : ∀ h ∈ o.hs, h.rows.length ≤ lim
def OkL : Lt → Prop
  | .hold h => h.rows.length ≤ lim
  | _ => True
theorem mem_sortH {h : Hd} {l : List Hd} : h ∈ sortH l ↔ h ∈ l := List.mem_mergeSort
theorem len_sortH {l : List Hd} : (sortH l).length = l.length := List.length_mergeSort _
theorem hear_ok {B : Nat} {o : Ou} {l : Lt} (h : OkO B o) (hl : OkL l) : OkO (B + 1) (hear o l).1 ∧ (hear o l).2.length ≤ 1 := by
  have h' : OkO (B + 1) o := ⟨by have := h.hs; omega, by have := h.cs; omega, h.rows⟩
  have ha := h.hs
  have hc := h.cs
  cases l with
  | hold x =>
    unfold hear
    dsimp only
    split
    · exact ⟨h', by simp⟩
    · refine ⟨⟨?_, h'.cs, ?_⟩, by simp⟩
      · unfold addH
        dsimp only
        split
        · rw [len_sortH, List.length_append, List.length_singleton]; omega
        · exact h'.hs
      · intro y hy
        have hy : y ∈ addH o.hs o.cs x := hy
        unfold addH at hy
        split at hy
        · rw [mem_sortH, List.mem_append, List.mem_singleton] at hy
          rcases hy with hy | rfl
          · exact h.rows y hy
          · exact hl
        · exact h.rows y hy
  | com e k ts =>
    unfold hear
    dsimp only
    split
    · exact ⟨h', by simp⟩
    split
    · exact ⟨h', by simp⟩
    · refine ⟨⟨?_, ?_, fun y hy => h.rows y (List.mem_filter.mp hy).1⟩, by simp⟩
      · exact Nat.le_trans (List.length_filter_le _ _) h'.hs
      · show (o.cs ++ [_]).length ≤ _
        rw [List.length_append, List.length_singleton]; omega
  | drop e k =>
    unfold hear
    dsimp only
    split
    · exact ⟨h', by simp⟩
    · exact ⟨⟨Nat.le_trans (List.length_filter_le _ _) h'.hs, h'.cs, fun y hy => h.rows y (List.mem_filter.mp hy).1⟩, by simp⟩
theorem r_drop {ep : Int} {hs : List Hd} {cs : List Cm'} {e k : Int} (hl : hs.length ≤ lim) : run fns Tt (n + 2) 4 [.sh (outD ep hs cs), .sh (drpD e k)] s = some (if lastN cs < k then .tuple [outD ep hs cs, .tuple []] else
    .tuple [outD (if e > ep then e else ep) (hs.filter fun x => decide (x.e ≥ if e > ep then e else ep)) cs, .tuple [.tuple [.str "dropped", .int e]]], s) := by
  rw [run_eq (fn := d_dropped.f) rfl rfl (by decide)]
  show (evSs _ b_dropped [.sh (outD ep hs cs), .sh (drpD e k), .no, .no, .no, .no, .no] s).bind fin = _
  have rl := r_last (Tt := Tt) (n := n) (s := s) (ep := ep) (hs := hs) (cs := cs)
  have hl2 : (hs.map Hd.D).length ≤ lim := by rw [List.length_map]; exact hl
  have hm : max2F (.int ep) (.int e) = some (.int (if e > ep then e else ep)) := rfl
  unfold b_dropped
  unfold outD at rl ⊢
  unfold drpD
  by_cases hk : lastN cs < k
  · simp only [evSs, evS, evE, evEs, evO, evAs, evT, evTs, evTo, evIt, bind_one, bind_many, binds_nil, binds_cons, Option.bind_some, Option.bind_none, Option.map_some, Option.map_none, List.getElem?_cons_zero, List.getElem?_cons_succ, List.set_cons_zero, List.set_cons_succ, List.length_cons, List.length_nil, List.replicate_succ, List.replicate_zero, List.cons_append, List.nil_append, Nat.lt_irrefl, if_true, if_false, lim_0, lim_1, lim_2, lim_3, lim_4, lim_5, lim_6, lim_7, lim_8, idx_t0, idx_t1, idx_t2, idx_t3, idx_t4, idx_l0, seqItems, Op2.F, Cm.F, Cm.T, B1.F, B2.F, tup_l, tup_t, lst_t, lst_l, len_t, len_l, truth_t, truth_l, truth_b, truth_i, truth_n, negF, addI, subI, List.append_assoc, ite_self, Bool.false_eq_true, reduceIte, sub_n, Nat.zero_add, Nat.reduceAdd, Nat.reduceLT, Nat.reduceLeDiff, Nat.reduceSub, Bool.not_true, Bool.not_false, List.isEmpty_cons, List.isEmpty_nil, idx_last, fin, wipeE, noOw, List.all_cons, List.all_nil, Bool.and_true, Bool.true_and, Bool.and_self, and_true, true_and, and_self, isE_app, cut_14, cut_1, cut_03, cut_02, eq_self_iff_true, Bool.not_eq_true, decide_true, decide_false, ltI, leI, gtI, geI, rl, hk]
  · generalize (if e > ep then e else ep) = m at hm ⊢
    simp only [evSs, evS, evE, evEs, evO, evAs, evT, evTs, evTo, evIt, bind_one, bind_many, binds_nil, binds_cons, Option.bind_some, Option.bind_none, Option.map_some, Option.map_none, List.getElem?_cons_zero, List.getElem?_cons_succ, List.set_cons_zero, List.set_cons_succ, List.length_cons, List.length_nil, List.replicate_succ, List.replicate_zero, List.cons_append, List.nil_append, Nat.lt_irrefl, if_true, if_false, lim_0, lim_1, lim_2, lim_3, lim_4, lim_5, lim_6, lim_7, lim_8, idx_t0, idx_t1, idx_t2, idx_t3, idx_t4, idx_l0, seqItems, Op2.F, Cm.F, Cm.T, B1.F, B2.F, tup_l, tup_t, lst_t, lst_l, len_t, len_l, truth_t, truth_l, truth_b, truth_i, truth_n, negF, addI, subI, List.append_assoc, ite_self, Bool.false_eq_true, reduceIte, sub_n, Nat.zero_add, Nat.reduceAdd, Nat.reduceLT, Nat.reduceLeDiff, Nat.reduceSub, Bool.not_true, Bool.not_false, List.isEmpty_cons, List.isEmpty_nil, idx_last, fin, wipeE, noOw, List.all_cons, List.all_nil, Bool.and_true, Bool.true_and, Bool.and_self, and_true, true_and, and_self, isE_app, cut_14, cut_1, cut_03, cut_02, eq_self_iff_true, Bool.not_eq_true, decide_true, decide_false, ltI, leI, gtI, geI, rl, hk, hl2, hm]
    rw [comp_map (g := fun x => if decide (x.e ≥ m) = true then some x.D else none) (fun a _ s => by
      simp only [Hd.D, evSs, evS, evE, evEs, evO, evAs, evT, evTs, evTo, evIt, bind_one, bind_many, binds_nil, binds_cons, Option.bind_some, Option.bind_none, Option.map_some, Option.map_none, List.getElem?_cons_zero, List.getElem?_cons_succ, List.set_cons_zero, List.set_cons_succ, List.length_cons, List.length_nil, List.replicate_succ, List.replicate_zero, List.cons_append, List.nil_append, Nat.lt_irrefl, if_true, if_false, lim_0, lim_1, lim_2, lim_3, lim_4, lim_5, lim_6, lim_7, lim_8, idx_t0, idx_t1, idx_t2, idx_t3, idx_t4, idx_l0, seqItems, Op2.F, Cm.F, Cm.T, B1.F, B2.F, tup_l, tup_t, lst_t, lst_l, len_t, len_l, truth_t, truth_l, truth_b, truth_i, truth_n, negF, addI, subI, List.append_assoc, ite_self, Bool.false_eq_true, reduceIte, sub_n, Nat.zero_add, Nat.reduceAdd, Nat.reduceLT, Nat.reduceLeDiff, Nat.reduceSub, Bool.not_true, Bool.not_false, List.isEmpty_cons, List.isEmpty_nil, idx_last, fin, wipeE, noOw, List.all_cons, List.all_nil, Bool.and_true, Bool.true_and, Bool.and_self, and_true, true_and, and_self, isE_app, cut_14, cut_1, cut_03, cut_02, eq_self_iff_true, Bool.not_eq_true, decide_true, decide_false, ltI, leI, gtI, geI]
      by_cases h1 : m ≤ a.e <;> simp [h1])]
    rw [fm_filter]
    simp only [evSs, evS, evE, evEs, evO, evAs, evT, evTs, evTo, evIt, bind_one, bind_many, binds_nil, binds_cons, Option.bind_some, Option.bind_none, Option.map_some, Option.map_none, List.getElem?_cons_zero, List.getElem?_cons_succ, List.set_cons_zero, List.set_cons_succ, List.length_cons, List.length_nil, List.replicate_succ, List.replicate_zero, List.cons_append, List.nil_append, Nat.lt_irrefl, if_true, if_false, lim_0, lim_1, lim_2, lim_3, lim_4, lim_5, lim_6, lim_7, lim_8, idx_t0, idx_t1, idx_t2, idx_t3, idx_t4, idx_l0, seqItems, Op2.F, Cm.F, Cm.T, B1.F, B2.F, tup_l, tup_t, lst_t, lst_l, len_t, len_l, truth_t, truth_l, truth_b, truth_i, truth_n, negF, addI, subI, List.append_assoc, ite_self, Bool.false_eq_true, reduceIte, sub_n, Nat.zero_add, Nat.reduceAdd, Nat.reduceLT, Nat.reduceLeDiff, Nat.reduceSub, Bool.not_true, Bool.not_false, List.isEmpty_cons, List.isEmpty_nil, idx_last, fin, wipeE, noOw, List.all_cons, List.all_nil, Bool.and_true, Bool.true_and, Bool.and_self, and_true, true_and, and_self, isE_app, cut_14, cut_1, cut_03, cut_02, eq_self_iff_true, Bool.not_eq_true, decide_true, decide_false, ltI, leI, gtI, geI]
theorem str_eq {a b : Str} (ha : (PyData.str a).canLay0 = true) (hb : (PyData.str b).canLay0 = true) : eqB (.str a) (.str b) = some (decide (a = b)) := by
  rw [eqB_sh (by simp [SeqAt.shaped, ha, PyData.depth]) (by simp [SeqAt.shaped, hb, PyData.depth])]
  congr 1
theorem r_heard {B : Nat} {o : Ou} {l : Lt} (h : OkO B o) (hl : OkL l) (hB : B < lim) : run fns Tt (n + 3) 5 [.sh o.D, .sh l.D] s = some (.tuple [(hear o l).1.D, .tuple (hear o l).2], s) := by
  rw [run_eq (fn := d_heard.f) rfl rfl (by decide)]
  show (evSs _ b_heard [.sh o.D, .sh l.D] s).bind fin = _
  have ha := h.hs
  have hc := h.cs
  have z1 : eqB (.str "hold") (.str "hold") = some true := by rw [str_eq (by decide +kernel) (by decide +kernel)]; decide +kernel
  have z2 : eqB (.str "commit") (.str "hold") = some false := by rw [str_eq (by decide +kernel) (by decide +kernel)]; decide +kernel
  have z3 : eqB (.str "commit") (.str "commit") = some true := by rw [str_eq (by decide +kernel) (by decide +kernel)]; decide +kernel
  have z4 : eqB (.str "drop") (.str "hold") = some false := by rw [str_eq (by decide +kernel) (by decide +kernel)]; decide +kernel
  have z5 : eqB (.str "drop") (.str "commit") = some false := by rw [str_eq (by decide +kernel) (by decide +kernel)]; decide +kernel
  unfold b_heard
  cases l with
  | hold x =>
    have r := r_held (Tt := Tt) (n := n) (s := s) (ep := o.ep) (hs := o.hs) (cs := o.cs) (h := x) (by omega) (fun y hy => by
      rcases List.mem_append.mp hy with hy | hy
      · exact h.rows y hy
      · rw [List.mem_singleton] at hy; subst hy; exact hl)
    have e0 : idxF (Lt.hold x).D (.int 0) = some (.str "hold") := idx_t0
    have r : run fns Tt (n + 2) 2 [.sh o.D, .sh (Lt.hold x).D] s = _ := r
    simp only [evSs, evS, evE, evEs, evO, evAs, evT, evTs, evTo, evIt, bind_one, bind_many, binds_nil, binds_cons, Option.bind_some, Option.bind_none, Option.map_some, Option.map_none, List.getElem?_cons_zero, List.getElem?_cons_succ, List.set_cons_zero, List.set_cons_succ, List.length_cons, List.length_nil, List.replicate_succ, List.replicate_zero, List.cons_append, List.nil_append, Nat.lt_irrefl, if_true, if_false, lim_0, lim_1, lim_2, lim_3, lim_4, lim_5, lim_6, lim_7, lim_8, idx_t0, idx_t1, idx_t2, idx_t3, idx_t4, idx_l0, seqItems, Op2.F, Cm.F, Cm.T, B1.F, B2.F, tup_l, tup_t, lst_t, lst_l, len_t, len_l, truth_t, truth_l, truth_b, truth_i, truth_n, negF, addI, subI, List.append_assoc, ite_self, Bool.false_eq_true, reduceIte, sub_n, Nat.zero_add, Nat.reduceAdd, Nat.reduceLT, Nat.reduceLeDiff, Nat.reduceSub, Bool.not_true, Bool.not_false, List.isEmpty_cons, List.isEmpty_nil, idx_last, fin, wipeE, noOw, List.all_cons, List.all_nil, Bool.and_true, Bool.true_and, Bool.and_self, and_true, true_and, and_self, isE_app, cut_14, cut_1, cut_03, cut_02, eq_self_iff_true, Bool.not_eq_true, decide_true, decide_false, ltI, leI, gtI, geI, e0, z1, r]
    unfold hear
    dsimp only
    split <;> rfl
  | com e k ts =>
    have r := r_com (Tt := Tt) (n := n) (s := s) (ep := o.ep) (hs := o.hs) (cs := o.cs) (e := e) (k := k) (ts := ts) (by omega) (by omega)
    have e0 : idxF (Lt.com e k ts).D (.int 0) = some (.str "commit") := idx_t0
    have r : run fns Tt (n + 2) 3 [.sh o.D, .sh (Lt.com e k ts).D] s = _ := r
    simp only [evSs, evS, evE, evEs, evO, evAs, evT, evTs, evTo, evIt, bind_one, bind_many, binds_nil, binds_cons, Option.bind_some, Option.bind_none, Option.map_some, Option.map_none, List.getElem?_cons_zero, List.getElem?_cons_succ, List.set_cons_zero, List.set_cons_succ, List.length_cons, List.length_nil, List.replicate_succ, List.replicate_zero, List.cons_append, List.nil_append, Nat.lt_irrefl, if_true, if_false, lim_0, lim_1, lim_2, lim_3, lim_4, lim_5, lim_6, lim_7, lim_8, idx_t0, idx_t1, idx_t2, idx_t3, idx_t4, idx_l0, seqItems, Op2.F, Cm.F, Cm.T, B1.F, B2.F, tup_l, tup_t, lst_t, lst_l, len_t, len_l, truth_t, truth_l, truth_b, truth_i, truth_n, negF, addI, subI, List.append_assoc, ite_self, Bool.false_eq_true, reduceIte, sub_n, Nat.zero_add, Nat.reduceAdd, Nat.reduceLT, Nat.reduceLeDiff, Nat.reduceSub, Bool.not_true, Bool.not_false, List.isEmpty_cons, List.isEmpty_nil, idx_last, fin, wipeE, noOw, List.all_cons, List.all_nil, Bool.and_true, Bool.true_and, Bool.and_self, and_true, true_and, and_self, isE_app, cut_14, cut_1, cut_03, cut_02, eq_self_iff_true, Bool.not_eq_true, decide_true, decide_false, ltI, leI, gtI, geI, e0, z2, z3, r]
    unfold hear
    dsimp only
    split
    · rfl
    · split <;> rfl
  | drop e k =>
    have r := r_drop (Tt := Tt) (n := n) (s := s) (ep := o.ep) (hs := o.hs) (cs := o.cs) (e := e) (k := k) (by omega)
    have e0 : idxF (Lt.drop e k).D (.int 0) = some (.str "drop") := idx_t0
    have r : run fns Tt (n + 2) 4 [.sh o.D, .sh (Lt.drop e k).D] s = _ := r
    simp only [evSs, evS, evE, evEs, evO, evAs, evT, evTs, evTo, evIt, bind_one, bind_many, binds_nil, binds_cons, Option.bind_some, Option.bind_none, Option.map_some, Option.map_none, List.getElem?_cons_zero, List.getElem?_cons_succ, List.set_cons_zero, List.set_cons_succ, List.length_cons, List.length_nil, List.replicate_succ, List.replicate_zero, List.cons_append, List.nil_append, Nat.lt_irrefl, if_true, if_false, lim_0, lim_1, lim_2, lim_3, lim_4, lim_5, lim_6, lim_7, lim_8, idx_t0, idx_t1, idx_t2, idx_t3, idx_t4, idx_l0, seqItems, Op2.F, Cm.F, Cm.T, B1.F, B2.F, tup_l, tup_t, lst_t, lst_l, len_t, len_l, truth_t, truth_l, truth_b, truth_i, truth_n, negF, addI, subI, List.append_assoc, ite_self, Bool.false_eq_true, reduceIte, sub_n, Nat.zero_add, Nat.reduceAdd, Nat.reduceLT, Nat.reduceLeDiff, Nat.reduceSub, Bool.not_true, Bool.not_false, List.isEmpty_cons, List.isEmpty_nil, idx_last, fin, wipeE, noOw, List.all_cons, List.all_nil, Bool.and_true, Bool.true_and, Bool.and_self, and_true, true_and, and_self, isE_app, cut_14, cut_1, cut_03, cut_02, eq_self_iff_true, Bool.not_eq_true, decide_true, decide_false, ltI, leI, gtI, geI, e0, z4, z5, r]
    unfold hear
    dsimp only
    split <;> rfl
end K77
end DL
end
section
set_option Elab.async false
set_option linter.all false
set_option maxRecDepth 100000
set_option maxHeartbeats 2000000
/-! KP3: letters in a row; sinks and sources. -/
namespace DL
open PySem PySem.Spec PyProof.Rows L2
namespace K77
variable {Tt : Tb} {n : Nat} {s : Src}
def hearAll (o : Ou) : List Lt → Ou × List D
  | [] => (o, [])
  | l :: ls => ((hearAll (hear o l).1 ls).1, (hear o l).2 ++ (hearAll (hear o l).1 ls).2)
theorem hearAll_ok {B : Nat} {o : Ou} {ls : List Lt} (h : OkO B o) (hl : ∀ l ∈ ls, OkL l) : OkO (B + ls.length) (hearAll o ls).1 ∧ (hearAll o ls).2.length ≤ ls.length := by
  induction ls generalizing o B with
  | nil => exact ⟨h, Nat.le_refl _⟩
  | cons l ls ih =>
    obtain ⟨h1, h2⟩ := hear_ok h (hl l List.mem_cons_self)
    obtain ⟨h3, h4⟩ := ih h1 fun x hx => hl x (List.mem_cons_of_mem _ hx)
    unfold hearAll
    refine ⟨?_, ?_⟩
    · rw [List.length_cons, show B + (ls.length + 1) = B + 1 + ls.length by omega]; exact h3
    · rw [List.length_append, List.length_cons]; omega
theorem addT {a b : List D} (h : a.length + b.length ≤ lim) : addF (.tuple a) (.tuple b) = some (.tuple (a ++ b)) := by
  show (if _ then _ else _) = _
  rw [if_pos h]
theorem addL {a b : List D} (h : a.length + b.length ≤ lim) : addF (.list a) (.list b) = some (.list (a ++ b)) := by
  show (if _ then _ else _) = _
  rw [if_pos h]
theorem for_fold {α σ : Type} {f : D → Env' → Src → Rs} {m : α → D} {E : σ → Env'} {g : σ → α → σ} (Q : List α → σ → Prop) (h : ∀ a l st, Q (a :: l) st → f (m a) (E st) s = some ((.next, E (g st a)), s) ∧ Q l (g st a)) {l : List α} {st : σ} (hq : Q l st) :
    forLoop f (l.map m) (E st) s = some ((.next, E (l.foldl g st)), s) := by
  induction l generalizing st with
  | nil => rfl
  | cons a l ih =>
    obtain ⟨h1, h2⟩ := h a l st hq
    rw [List.map_cons, List.foldl_cons]
    unfold forLoop
    rw [h1]
    exact ih h2
def hearG (st : Ou × List D × Slot × Slot) (l : Lt) : Ou × List D × Slot × Slot := ((hear st.1 l).1, st.2.1 ++ (hear st.1 l).2, .sh l.D, .sh (.tuple (hear st.1 l).2))
theorem hearG_1 {ls : List Lt} {st : Ou × List D × Slot × Slot} : (ls.foldl hearG st).1 = (hearAll st.1 ls).1 ∧ (ls.foldl hearG st).2.1 = st.2.1 ++ (hearAll st.1 ls).2 := by
  induction ls generalizing st with
  | nil => exact ⟨rfl, by simp [hearAll]⟩
  | cons l ls ih =>
    rw [List.foldl_cons]
    obtain ⟨h1, h2⟩ := ih (st := hearG st l)
    refine ⟨h1, ?_⟩
    rw [h2]
    simp [hearG, hearAll]
theorem r_hearAll {B : Nat} {o : Ou} {ls : List Lt} (h : OkO B o) (hl : ∀ l ∈ ls, OkL l) (hB : B + ls.length < lim) : run fns Tt (n + 4) 6 [.sh o.D, .sh (.list (ls.map Lt.D))] s = some (.tuple [(hearAll o ls).1.D, .tuple (hearAll o ls).2], s) := by
  rw [run_eq (fn := d_heard_all.f) rfl rfl (by decide)]
  show (evSs _ b_heard_all [.sh o.D, .sh (.list (ls.map Lt.D)), .no, .no, .no] s).bind fin = _
  unfold b_heard_all
  simp only [evSs, evS, evE, evEs, evO, evAs, evT, evTs, evTo, evIt, bind_one, bind_many, binds_nil, binds_cons, Option.bind_some, Option.bind_none, Option.map_some, Option.map_none, List.getElem?_cons_zero, List.getElem?_cons_succ, List.set_cons_zero, List.set_cons_succ, List.length_cons, List.length_nil, List.replicate_succ, List.replicate_zero, List.cons_append, List.nil_append, Nat.lt_irrefl, if_true, if_false, lim_0, lim_1, lim_2, lim_3, lim_4, lim_5, lim_6, lim_7, lim_8, idx_t0, idx_t1, idx_t2, idx_t3, idx_t4, idx_l0, seqItems, Op2.F, Cm.F, Cm.T, B1.F, B2.F, tup_l, tup_t, lst_t, lst_l, len_t, len_l, truth_t, truth_l, truth_b, truth_i, truth_n, negF, addI, subI, List.append_assoc, ite_self, Bool.false_eq_true, reduceIte, sub_n, Nat.zero_add, Nat.reduceAdd, Nat.reduceLT, Nat.reduceLeDiff, Nat.reduceSub, Bool.not_true, Bool.not_false, List.isEmpty_cons, List.isEmpty_nil, idx_last, fin, wipeE, noOw, List.all_cons, List.all_nil, Bool.and_true, Bool.true_and, Bool.and_self, and_true, true_and, and_self, isE_app, cut_14, cut_1, cut_03, cut_02, eq_self_iff_true, Bool.not_eq_true, decide_true, decide_false, ltI, leI, gtI, geI]
  rw [for_fold (E := fun st : Ou × List D × Slot × Slot => [.sh st.1.D, .sh (.list (ls.map Lt.D)), .sh (.tuple st.2.1), st.2.2.1, st.2.2.2]) (g := hearG) (st := (o, [], .no, .no))
    (Q := fun l st => ∃ B, OkO B st.1 ∧ (∀ x ∈ l, OkL x) ∧ B + l.length < lim ∧ st.2.1.length + l.length ≤ lim) (fun l ls' st hq => by
      obtain ⟨B, q1, q2, q3, q4⟩ := hq
      have hl1 := q2 l List.mem_cons_self
      obtain ⟨h1, h2⟩ := hear_ok q1 hl1
      rw [List.length_cons] at q3 q4
      have r := r_heard (Tt := Tt) (n := n) (s := s) q1 hl1 (by omega)
      have e2 := addT (a := st.2.1) (b := (hear st.1 l).2) (by omega)
      refine ⟨?_, B + 1, h1, fun x hx => q2 x (List.mem_cons_of_mem _ hx), by omega, ?_⟩
      · simp only [evSs, evS, evE, evEs, evO, evAs, evT, evTs, evTo, evIt, bind_one, bind_many, binds_nil, binds_cons, Option.bind_some, Option.bind_none, Option.map_some, Option.map_none, List.getElem?_cons_zero, List.getElem?_cons_succ, List.set_cons_zero, List.set_cons_succ, List.length_cons, List.length_nil, List.replicate_succ, List.replicate_zero, List.cons_append, List.nil_append, Nat.lt_irrefl, if_true, if_false, lim_0, lim_1, lim_2, lim_3, lim_4, lim_5, lim_6, lim_7, lim_8, idx_t0, idx_t1, idx_t2, idx_t3, idx_t4, idx_l0, seqItems, Op2.F, Cm.F, Cm.T, B1.F, B2.F, tup_l, tup_t, lst_t, lst_l, len_t, len_l, truth_t, truth_l, truth_b, truth_i, truth_n, negF, addI, subI, List.append_assoc, ite_self, Bool.false_eq_true, reduceIte, sub_n, Nat.zero_add, Nat.reduceAdd, Nat.reduceLT, Nat.reduceLeDiff, Nat.reduceSub, Bool.not_true, Bool.not_false, List.isEmpty_cons, List.isEmpty_nil, idx_last, fin, wipeE, noOw, List.all_cons, List.all_nil, Bool.and_true, Bool.true_and, Bool.and_self, and_true, true_and, and_self, isE_app, cut_14, cut_1, cut_03, cut_02, eq_self_iff_true, Bool.not_eq_true, decide_true, decide_false, ltI, leI, gtI, geI, r, e2]
        rfl
      · show (st.2.1 ++ (hear st.1 l).2).length + _ ≤ _
        rw [List.length_append]; omega) ⟨B, h, hl, hB, by simp; omega⟩]
  obtain ⟨h1, h2⟩ := hearG_1 (ls := ls) (st := (o, [], .no, .no))
  simp only [evSs, evS, evE, evEs, evO, evAs, evT, evTs, evTo, evIt, bind_one, bind_many, binds_nil, binds_cons, Option.bind_some, Option.bind_none, Option.map_some, Option.map_none, List.getElem?_cons_zero, List.getElem?_cons_succ, List.set_cons_zero, List.set_cons_succ, List.length_cons, List.length_nil, List.replicate_succ, List.replicate_zero, List.cons_append, List.nil_append, Nat.lt_irrefl, if_true, if_false, lim_0, lim_1, lim_2, lim_3, lim_4, lim_5, lim_6, lim_7, lim_8, idx_t0, idx_t1, idx_t2, idx_t3, idx_t4, idx_l0, seqItems, Op2.F, Cm.F, Cm.T, B1.F, B2.F, tup_l, tup_t, lst_t, lst_l, len_t, len_l, truth_t, truth_l, truth_b, truth_i, truth_n, negF, addI, subI, List.append_assoc, ite_self, Bool.false_eq_true, reduceIte, sub_n, Nat.zero_add, Nat.reduceAdd, Nat.reduceLT, Nat.reduceLeDiff, Nat.reduceSub, Bool.not_true, Bool.not_false, List.isEmpty_cons, List.isEmpty_nil, idx_last, fin, wipeE, noOw, List.all_cons, List.all_nil, Bool.and_true, Bool.true_and, Bool.and_self, and_true, true_and, and_self, isE_app, cut_14, cut_1, cut_03, cut_02, eq_self_iff_true, Bool.not_eq_true, decide_true, decide_false, ltI, leI, gtI, geI]
  rw [h1, h2]
  rfl
/-! ### sinks and sources -/
def snkD (rows : List D) : D := .tuple [.tuple rows, .none]
def srcD (p : Int) (late : List D) : D := .tuple [.tuple [.tuple [.int 0, .int p, .int 9]], .tuple late, .none]
theorem r_fsink : run fns Tt (n + 1) 10 [] s = some (snkD [], s) := by
  rw [run_eq (fn := d_fresh_sink.f) rfl rfl (by decide)]
  rfl
theorem r_put {rows : List D} {r : D} (h : rows.length < lim) : run fns Tt (n + 1) 11 [.sh (snkD rows), .sh r] s = some (snkD (rows ++ [r]), s) := by
  rw [run_eq (fn := d_put_row.f) rfl rfl (by decide)]
  show (evSs _ b_put_row [.sh (snkD rows), .sh r, .no, .no] s).bind fin = _
  have h2 : (rows ++ [r]).length ≤ lim := by rw [List.length_append]; exact h
  unfold b_put_row snkD
  simp only [evSs, evS, evE, evEs, evO, evAs, evT, evTs, evTo, evIt, bind_one, bind_many, binds_nil, binds_cons, Option.bind_some, Option.bind_none, Option.map_some, Option.map_none, List.getElem?_cons_zero, List.getElem?_cons_succ, List.set_cons_zero, List.set_cons_succ, List.length_cons, List.length_nil, List.replicate_succ, List.replicate_zero, List.cons_append, List.nil_append, Nat.lt_irrefl, if_true, if_false, lim_0, lim_1, lim_2, lim_3, lim_4, lim_5, lim_6, lim_7, lim_8, idx_t0, idx_t1, idx_t2, idx_t3, idx_t4, idx_l0, seqItems, Op2.F, Cm.F, Cm.T, B1.F, B2.F, tup_l, tup_t, lst_t, lst_l, len_t, len_l, truth_t, truth_l, truth_b, truth_i, truth_n, negF, addI, subI, List.append_assoc, ite_self, Bool.false_eq_true, reduceIte, sub_n, Nat.zero_add, Nat.reduceAdd, Nat.reduceLT, Nat.reduceLeDiff, Nat.reduceSub, Bool.not_true, Bool.not_false, List.isEmpty_cons, List.isEmpty_nil, idx_last, fin, wipeE, noOw, List.all_cons, List.all_nil, Bool.and_true, Bool.true_and, Bool.and_self, and_true, true_and, and_self, isE_app, cut_14, cut_1, cut_03, cut_02, eq_self_iff_true, Bool.not_eq_true, decide_true, decide_false, ltI, leI, gtI, geI, h2]
theorem r_atsink {rows : List D} {e k : Int} {t : Tk} : run fns Tt (n + 1) 12 [.sh (snkD rows), .sh (.int e), .sh (.int k), .sh (tkD t)] s = some (.tuple [.tuple [.tuple [], (Hd.letter ⟨e, k, t, rows⟩)], .tuple [], (Hd.letter ⟨e, k, t, rows⟩)], s) := by
  rw [run_eq (fn := d_at_sink.f) rfl rfl (by decide)]
  show (evSs _ b_at_sink [.sh (snkD rows), .sh (.int e), .sh (.int k), .sh (tkD t), .no, .no, .no] s).bind fin = _
  unfold b_at_sink snkD Hd.letter
  simp only [evSs, evS, evE, evEs, evO, evAs, evT, evTs, evTo, evIt, bind_one, bind_many, binds_nil, binds_cons, Option.bind_some, Option.bind_none, Option.map_some, Option.map_none, List.getElem?_cons_zero, List.getElem?_cons_succ, List.set_cons_zero, List.set_cons_succ, List.length_cons, List.length_nil, List.replicate_succ, List.replicate_zero, List.cons_append, List.nil_append, Nat.lt_irrefl, if_true, if_false, lim_0, lim_1, lim_2, lim_3, lim_4, lim_5, lim_6, lim_7, lim_8, idx_t0, idx_t1, idx_t2, idx_t3, idx_t4, idx_l0, seqItems, Op2.F, Cm.F, Cm.T, B1.F, B2.F, tup_l, tup_t, lst_t, lst_l, len_t, len_l, truth_t, truth_l, truth_b, truth_i, truth_n, negF, addI, subI, List.append_assoc, ite_self, Bool.false_eq_true, reduceIte, sub_n, Nat.zero_add, Nat.reduceAdd, Nat.reduceLT, Nat.reduceLeDiff, Nat.reduceSub, Bool.not_true, Bool.not_false, List.isEmpty_cons, List.isEmpty_nil, idx_last, fin, wipeE, noOw, List.all_cons, List.all_nil, Bool.and_true, Bool.true_and, Bool.and_self, and_true, true_and, and_self, isE_app, cut_14, cut_1, cut_03, cut_02, eq_self_iff_true, Bool.not_eq_true, decide_true, decide_false, ltI, leI, gtI, geI]
theorem r_fsrc : run fns Tt (n + 1) 13 [.sh (.tuple [.int 0])] s = some (.tuple [.tuple [.tuple [.int 0, .int 0, .int 0]], .tuple [], .none], s) := by
  rw [run_eq (fn := d_fresh_source.f) rfl rfl (by decide)]
  rfl
theorem eqI {i j : Int} : eqB (.int i) (.int j) = some (decide (i = j)) := by
  rw [eqB_sh (by simp [SeqAt.shaped, PyData.canLay0, PyData.depth]) (by simp [SeqAt.shaped, PyData.canLay0, PyData.depth])]
  congr 1
theorem mm : eqB (.str "mark") (.str "mark") = some true := by rw [str_eq (by decide +kernel) (by decide +kernel)]; decide +kernel
theorem rm : eqB (.str "row") (.str "mark") = some false := by rw [str_eq (by decide +kernel) (by decide +kernel)]; decide +kernel
theorem r_least {p m : Int} (hm : m ≤ 9) : run fns Tt (n + 1) 14 [.sh (.tuple [.tuple [.int 0, .int p, .int m]])] s = some (.int m, s) := by
  rw [run_eq (fn := d_least_mark.f) rfl rfl (by decide)]
  show (evSs _ b_least_mark [.sh (.tuple [.tuple [.int 0, .int p, .int m]]), .no, .no, .no] s).bind fin = _
  have e : B1.F .min_ (.list [.int 1000000000, .int m]) = some (.int m) := by
    show some (PyData.int (min 1000000000 m)) = _
    congr 2
    omega
  unfold b_least_mark
  simp only [evSs, evS, evE, evEs, evO, evAs, evT, evTs, evTo, evIt, bind_one, bind_many, binds_nil, binds_cons, Option.bind_some, Option.bind_none, Option.map_some, Option.map_none, List.getElem?_cons_zero, List.getElem?_cons_succ, List.set_cons_zero, List.set_cons_succ, List.length_cons, List.length_nil, List.replicate_succ, List.replicate_zero, List.cons_append, List.nil_append, Nat.lt_irrefl, if_true, if_false, lim_0, lim_1, lim_2, lim_3, lim_4, lim_5, lim_6, lim_7, lim_8, idx_t0, idx_t1, idx_t2, idx_t3, idx_t4, idx_l0, seqItems, Op2.F, Cm.F, Cm.T, B1.F, B2.F, tup_l, tup_t, lst_t, lst_l, len_t, len_l, truth_t, truth_l, truth_b, truth_i, truth_n, negF, addI, subI, List.append_assoc, ite_self, Bool.false_eq_true, reduceIte, sub_n, Nat.zero_add, Nat.reduceAdd, Nat.reduceLT, Nat.reduceLeDiff, Nat.reduceSub, Bool.not_true, Bool.not_false, List.isEmpty_cons, List.isEmpty_nil, idx_last, fin, wipeE, noOw, List.all_cons, List.all_nil, Bool.and_true, Bool.true_and, Bool.and_self, and_true, true_and, and_self, isE_app, cut_14, cut_1, cut_03, cut_02, eq_self_iff_true, Bool.not_eq_true, decide_true, decide_false, ltI, leI, gtI, geI, compLoop]
  simp only [B1.F] at e
  rw [e]
  rfl
theorem r_mark : run fns Tt (n + 2) 15 [.sh (.tuple [.tuple [.tuple [.int 0, .int 0, .int 0]], .tuple [], .none]), .sh (.int 0), .sh (.tuple [.str "mark", .int 9])] s = some (.tuple [srcD 1 [], .tuple [.tuple [.str "mark", .int 9]]], s) := by
  rw [run_eq (fn := d_read.f) rfl rfl (by decide)]
  show (evSs _ b_read [.sh (.tuple [.tuple [.tuple [.int 0, .int 0, .int 0]], .tuple [], .none]), .sh (.int 0), .sh (.tuple [.str "mark", .int 9]), .no, .no, .no, .no, .no, .no, .no, .no, .no, .no, .no] s).bind fin = _
  have l1 := r_least (Tt := Tt) (n := n) (s := s) (p := 1) (m := 9) (by omega)
  have l0 := r_least (Tt := Tt) (n := n) (s := s) (p := 0) (m := 0) (by omega)
  unfold b_read srcD
  simp only [evSs, evS, evE, evEs, evO, evAs, evT, evTs, evTo, evIt, bind_one, bind_many, binds_nil, binds_cons, Option.bind_some, Option.bind_none, Option.map_some, Option.map_none, List.getElem?_cons_zero, List.getElem?_cons_succ, List.set_cons_zero, List.set_cons_succ, List.length_cons, List.length_nil, List.replicate_succ, List.replicate_zero, List.cons_append, List.nil_append, Nat.lt_irrefl, if_true, if_false, lim_0, lim_1, lim_2, lim_3, lim_4, lim_5, lim_6, lim_7, lim_8, idx_t0, idx_t1, idx_t2, idx_t3, idx_t4, idx_l0, seqItems, Op2.F, Cm.F, Cm.T, B1.F, B2.F, tup_l, tup_t, lst_t, lst_l, len_t, len_l, truth_t, truth_l, truth_b, truth_i, truth_n, negF, addI, subI, List.append_assoc, ite_self, Bool.false_eq_true, reduceIte, sub_n, Nat.zero_add, Nat.reduceAdd, Nat.reduceLT, Nat.reduceLeDiff, Nat.reduceSub, Bool.not_true, Bool.not_false, List.isEmpty_cons, List.isEmpty_nil, idx_last, fin, wipeE, noOw, List.all_cons, List.all_nil, Bool.and_true, Bool.true_and, Bool.and_self, and_true, true_and, and_self, isE_app, cut_14, cut_1, cut_03, cut_02, eq_self_iff_true, Bool.not_eq_true, decide_true, decide_false, ltI, leI, gtI, geI, compLoop, eqI, mm, max2F, show ((9 : Int) > 0) = True from eq_true (by omega), show ((0 : Int) < 9) = True from eq_true (by omega), show (0 : Int) + 1 = 1 from rfl, l0, l1]
theorem r_row {p : Int} {late : List D} {a : Int} {r : List D} (ha : a < 9) (hl : late.length < lim) : run fns Tt (n + 2) 15 [.sh (srcD p late), .sh (.int 0), .sh (.tuple (.str "row" :: .int a :: r))] s = some (.tuple [srcD (p + 1) (late ++ [.tuple (.int a :: r)]), .tuple []], s) := by
  rw [run_eq (fn := d_read.f) rfl rfl (by decide)]
  show (evSs _ b_read [.sh (srcD p late), .sh (.int 0), .sh (.tuple (.str "row" :: .int a :: r)), .no, .no, .no, .no, .no, .no, .no, .no, .no, .no, .no] s).bind fin = _
  have h2 : (late ++ [PyData.tuple (.int a :: r)]).length ≤ lim := by rw [List.length_append]; exact hl
  unfold b_read srcD
  simp only [evSs, evS, evE, evEs, evO, evAs, evT, evTs, evTo, evIt, bind_one, bind_many, binds_nil, binds_cons, Option.bind_some, Option.bind_none, Option.map_some, Option.map_none, List.getElem?_cons_zero, List.getElem?_cons_succ, List.set_cons_zero, List.set_cons_succ, List.length_cons, List.length_nil, List.replicate_succ, List.replicate_zero, List.cons_append, List.nil_append, Nat.lt_irrefl, if_true, if_false, lim_0, lim_1, lim_2, lim_3, lim_4, lim_5, lim_6, lim_7, lim_8, idx_t0, idx_t1, idx_t2, idx_t3, idx_t4, idx_l0, seqItems, Op2.F, Cm.F, Cm.T, B1.F, B2.F, tup_l, tup_t, lst_t, lst_l, len_t, len_l, truth_t, truth_l, truth_b, truth_i, truth_n, negF, addI, subI, List.append_assoc, ite_self, Bool.false_eq_true, reduceIte, sub_n, Nat.zero_add, Nat.reduceAdd, Nat.reduceLT, Nat.reduceLeDiff, Nat.reduceSub, Bool.not_true, Bool.not_false, List.isEmpty_cons, List.isEmpty_nil, idx_last, fin, wipeE, noOw, List.all_cons, List.all_nil, Bool.and_true, Bool.true_and, Bool.and_self, and_true, true_and, and_self, isE_app, cut_14, cut_1, cut_03, cut_02, eq_self_iff_true, Bool.not_eq_true, decide_true, decide_false, ltI, leI, gtI, geI, compLoop, eqI, rm, ha, h2]
theorem r_atsrc {p : Int} {late : List D} {e k : Int} {t : Tk} : run fns Tt (n + 1) 16 [.sh (srcD p late), .sh (.int e), .sh (.int k), .sh (tkD t)] s = some (.tuple [.tuple [.tuple [.tuple [.int 0, .int p, .int 9]], .tuple [], (Hd.letter ⟨e, k, t, late⟩)], .tuple [.tuple [.int 0, .int p, .int 9]], (Hd.letter ⟨e, k, t, late⟩)], s) := by
  rw [run_eq (fn := d_at_source.f) rfl rfl (by decide)]
  show (evSs _ b_at_source [.sh (srcD p late), .sh (.int e), .sh (.int k), .sh (tkD t), .no, .no, .no, .no] s).bind fin = _
  unfold b_at_source srcD Hd.letter
  simp only [evSs, evS, evE, evEs, evO, evAs, evT, evTs, evTo, evIt, bind_one, bind_many, binds_nil, binds_cons, Option.bind_some, Option.bind_none, Option.map_some, Option.map_none, List.getElem?_cons_zero, List.getElem?_cons_succ, List.set_cons_zero, List.set_cons_succ, List.length_cons, List.length_nil, List.replicate_succ, List.replicate_zero, List.cons_append, List.nil_append, Nat.lt_irrefl, if_true, if_false, lim_0, lim_1, lim_2, lim_3, lim_4, lim_5, lim_6, lim_7, lim_8, idx_t0, idx_t1, idx_t2, idx_t3, idx_t4, idx_l0, seqItems, Op2.F, Cm.F, Cm.T, B1.F, B2.F, tup_l, tup_t, lst_t, lst_l, len_t, len_l, truth_t, truth_l, truth_b, truth_i, truth_n, negF, addI, subI, List.append_assoc, ite_self, Bool.false_eq_true, reduceIte, sub_n, Nat.zero_add, Nat.reduceAdd, Nat.reduceLT, Nat.reduceLeDiff, Nat.reduceSub, Bool.not_true, Bool.not_false, List.isEmpty_cons, List.isEmpty_nil, idx_last, fin, wipeE, noOw, List.all_cons, List.all_nil, Bool.and_true, Bool.true_and, Bool.and_self, and_true, true_and, and_self, isE_app, cut_14, cut_1, cut_03, cut_02, eq_self_iff_true, Bool.not_eq_true, decide_true, decide_false, ltI, leI, gtI, geI]
theorem idx_m2 {a c : D} : idxF (.tuple [a, c]) (.int (-1)) = some c := idx_last (l := [a])
theorem idx_m3 {a b c : D} : idxF (.tuple [a, b, c]) (.int (-1)) = some c := idx_last (l := [a, b])
theorem r_again {a : List D} {h : Hd} (ha : a.length < lim) : run fns Tt (n + 1) 17 [.sh (.tuple (a ++ [h.letter]))] s = some (.tuple [h.letter], s) := by
  rw [run_eq (fn := d_again.f) rfl rfl (by decide)]
  show (evSs _ b_again [.sh (.tuple (a ++ [h.letter]))] s).bind fin = _
  have e : isNone h.letter = false := rfl
  unfold b_again
  simp only [evSs, evS, evE, evEs, evO, evAs, evT, evTs, evTo, evIt, bind_one, bind_many, binds_nil, binds_cons, Option.bind_some, Option.bind_none, Option.map_some, Option.map_none, List.getElem?_cons_zero, List.getElem?_cons_succ, List.set_cons_zero, List.set_cons_succ, List.length_cons, List.length_nil, List.replicate_succ, List.replicate_zero, List.cons_append, List.nil_append, Nat.lt_irrefl, if_true, if_false, lim_0, lim_1, lim_2, lim_3, lim_4, lim_5, lim_6, lim_7, lim_8, idx_t0, idx_t1, idx_t2, idx_t3, idx_t4, idx_l0, seqItems, Op2.F, Cm.F, Cm.T, B1.F, B2.F, tup_l, tup_t, lst_t, lst_l, len_t, len_l, truth_t, truth_l, truth_b, truth_i, truth_n, negF, addI, subI, List.append_assoc, ite_self, Bool.false_eq_true, reduceIte, sub_n, Nat.zero_add, Nat.reduceAdd, Nat.reduceLT, Nat.reduceLeDiff, Nat.reduceSub, Bool.not_true, Bool.not_false, List.isEmpty_cons, List.isEmpty_nil, idx_last, fin, wipeE, noOw, List.all_cons, List.all_nil, Bool.and_true, Bool.true_and, Bool.and_self, and_true, true_and, and_self, isE_app, cut_14, cut_1, cut_03, cut_02, eq_self_iff_true, Bool.not_eq_true, decide_true, decide_false, ltI, leI, gtI, geI, e]
end K77
end DL
end
section
set_option Elab.async false
set_option linter.all false
set_option maxRecDepth 100000
set_option maxHeartbeats 2000000
/-! KP4: rows, their bags, what is committed. -/
namespace DL
open PySem PySem.Spec PyProof.Rows L2
namespace K77
variable {Tt : Tb} {n : Nat} {s : Src}
theorem eqB_refl {d : D} (h : SeqAt.shaped d = true) : eqB d d = some true := by
  rw [eqB_sh h h, SeqAt.eqv_refl d (shaped_lay h)]
/-! ### rows -/
def ValOk : D → Bool
  | .none => true
  | .int _ => true
  | .str z => (PyData.str z).canLay0
  | _ => false
def RowOk (r : D) : Prop := ∃ a b vs, r = .tuple [.int a, .int b, .tuple vs] ∧ a < 9 ∧ vs.all ValOk = true
theorem vals_ok (vs : List D) (h : vs.all ValOk = true) : plains vs = true ∧ PyData.canLayAll0 vs = true ∧ PyData.depthAll vs = 0 ∧ NestedKey.depthAll (nk.nks vs) = 0 := by
  induction vs with
  | nil => exact ⟨rfl, rfl, by simp [PyData.depthAll], by simp [nk.nks, NestedKey.depthAll]⟩
  | cons v vs ih =>
    rw [List.all_cons, Bool.and_eq_true] at h
    obtain ⟨h1, h2, h3, h4⟩ := ih h.2
    have hv := h.1
    cases v <;> first | (cases hv; done) | skip
    all_goals
      refine ⟨?_, ?_, ?_, ?_⟩
      · simp only [plains, plain, h1, Bool.and_true]
      · simp only [PyData.canLayAll0, h2, Bool.and_true]
        first | exact hv | simp [PyData.canLay0]
      · simp [PyData.depthAll, PyData.depth, h3]
      · simp [nk.nks, nk, NestedKey.depthAll, NestedKey.depth, h4]
theorem RowOk.all {r : D} (h : RowOk r) : tupKey r = true ∧ r.canLay0 = true ∧ r.depth ≤ 2 := by
  obtain ⟨a, b, vs, rfl, _, h⟩ := h
  obtain ⟨h1, h2, h3, h4⟩ := vals_ok vs h
  refine ⟨?_, ?_, ?_⟩
  · simp [tupKey, plains, plain, h1, nk, nk.nks, NestedKey.depth, NestedKey.depthAll, h4]
  · simp [PyData.canLay0, PyData.canLayAll0, h2]
  · simp [PyData.depth, PyData.depthAll, h3]
theorem rows_ok (rs : List D) (h : ∀ r ∈ rs, RowOk r) : PyData.canLayAll0 rs = true ∧ PyData.depthAll rs ≤ 2 := by
  induction rs with
  | nil => exact ⟨rfl, by simp [PyData.depthAll]⟩
  | cons r rs ih =>
    obtain ⟨_, h1, h2⟩ := (h r List.mem_cons_self).all
    obtain ⟨h3, h4⟩ := ih fun x hx => h x (List.mem_cons_of_mem _ hx)
    refine ⟨?_, ?_⟩
    · simp only [PyData.canLayAll0, h1, h3, Bool.and_self]
    · simp only [PyData.depthAll]; omega
/-! ### bags -/
def cntD (kvs : List (D × D)) (r : D) : Int := match (lookD kvs (nk r)).getD (.int 0) with
  | .int i => i
  | _ => 0
def bagP (kvs : List (D × D)) (r : D) : List (D × D) := putD kvs r (.int (cntD kvs r + 1))
def bagAll (rs : List D) : List (D × D) := rs.foldl bagP []
structure BagOk (kvs : List (D × D)) : Prop where
  keys : kvs.all (fun p => tupKey p.1) = true
  nd : (kvs.map fun p => nk p.1).Nodup
  iv : ∀ p ∈ kvs, ∃ i, p.2 = .int i
theorem BagOk.ok {kvs : List (D × D)} (h : BagOk kvs) : keysOk kvs = true := by
  unfold keysOk
  rw [h.keys, Bool.true_and]
  exact decide_eq_true h.nd
theorem BagOk.nil : BagOk [] := ⟨rfl, List.nodup_nil, fun p hp => nomatch hp⟩
theorem BagOk.cnt {kvs : List (D × D)} (h : BagOk kvs) (r : D) : (lookD kvs (nk r)).getD (.int 0) = .int (cntD kvs r) := by
  unfold cntD
  cases e : lookD kvs (nk r) with
  | none => rfl
  | some v =>
    obtain ⟨p, hp, _, rfl⟩ := lookD_mem e
    obtain ⟨i, hi⟩ := h.iv p hp
    rw [Option.getD_some, hi]
theorem BagOk.put {kvs : List (D × D)} (h : BagOk kvs) {r : D} (hr : tupKey r = true) : BagOk (bagP kvs r) := by
  unfold bagP putD
  split
  · have e : ∀ p : D × D, (if nk p.1 = nk r then (p.1, PyData.int (cntD kvs r + 1)) else p).1 = p.1 := fun p => by split <;> rfl
    refine ⟨?_, ?_, ?_⟩
    · rw [List.all_map, List.all_eq_true]
      intro p hp
      simp only [Function.comp, e]
      exact List.all_eq_true.mp h.keys p hp
    · rw [List.map_map]
      have : ((fun p : D × D => nk p.1) ∘ fun p => if nk p.1 = nk r then (p.1, PyData.int (cntD kvs r + 1)) else p) = fun p => nk p.1 := by
        funext p
        simp only [Function.comp, e]
      rw [this]
      exact h.nd
    · intro p hp
      obtain ⟨q, hq, rfl⟩ := List.mem_map.mp hp
      split
      · exact ⟨_, rfl⟩
      · exact h.iv q hq
  · rename_i z
    have z : lookD kvs (nk r) = none := by
      cases e : lookD kvs (nk r) with
      | none => rfl
      | some v => rw [e] at z; exact absurd rfl z
    refine ⟨?_, ?_, ?_⟩
    · rw [List.all_append, h.keys]
      simp [hr]
    · rw [List.map_append, List.nodup_append]
      refine ⟨h.nd, by simp, ?_⟩
      intro a ha b hb
      obtain ⟨p, hp, rfl⟩ := List.mem_map.mp ha
      simp only [List.map_cons, List.map_nil, List.mem_singleton] at hb
      subst hb
      intro e
      have := lookD_of h.nd hp
      rw [e, z] at this
      cases this
    · intro p hp
      rcases List.mem_append.mp hp with hp | hp
      · exact h.iv p hp
      · rw [List.mem_singleton] at hp; subst hp; exact ⟨_, rfl⟩
theorem bagAll_ok {rs : List D} (h : ∀ r ∈ rs, RowOk r) : BagOk (bagAll rs) := by
  unfold bagAll
  have key : ∀ (rs : List D) (kvs : List (D × D)), BagOk kvs → (∀ r ∈ rs, RowOk r) → BagOk (rs.foldl bagP kvs) := by
    intro rs
    induction rs with
    | nil => intro kvs hk _; exact hk
    | cons r rs ih => intro kvs hk hr; exact ih _ (hk.put (hr r List.mem_cons_self).all.1) fun x hx => hr x (List.mem_cons_of_mem _ hx)
  exact key rs [] .nil h
theorem bag_len (kvs : List (D × D)) (r : D) : (bagP kvs r).length ≤ kvs.length + 1 := putD_length _ _ _
theorem bag_eq {kvs : List (D × D)} (h : BagOk kvs) : eqB (.dict kvs) (.dict kvs) = some true := by
  have hv : valsOk kvs = true := List.all_eq_true.mpr fun p hp => by
    obtain ⟨i, hi⟩ := h.iv p hp
    rw [hi]
    simp [SeqAt.shaped, PyData.canLay0, PyData.depth]
  show (if (keysOk kvs && keysOk kvs && (valsOk kvs && valsOk kvs)) = true then some (eqD kvs kvs) else none) = _
  rw [h.ok, hv]
  simp only [Bool.and_self, if_true]
  congr 1
  unfold eqD
  rw [Bool.and_eq_true, List.all_eq_true]
  refine ⟨by simp, fun p hp => ?_⟩
  rw [lookD_of h.nd hp]
  obtain ⟨i, hi⟩ := h.iv p hp
  simp [hi, PyData.eqv]
theorem get_b {kvs : List (D × D)} {k x : D} (h : keysOk kvs = true) (hk : tupKey k = true) : getF (.dict kvs) k x = some ((lookD kvs (nk k)).getD x) := by
  show (if _ then _ else _) = _
  rw [h, hk]; rfl
theorem set_b {kvs : List (D × D)} {k x : D} (h : keysOk kvs = true) (hk : tupKey k = true) (hl : kvs.length < lim) : setF (.dict kvs) k x = some (.dict (putD kvs k x)) := by
  show (if _ then _ else _) = _
  rw [h, hk, decide_eq_true hl]; rfl
theorem for_items {σ : Type} {f : D → Env' → Src → Rs} {E : σ → Env'} {g : σ → D → σ} (Q : List D → σ → Prop) (h : ∀ a l st, Q (a :: l) st → f a (E st) s = some ((.next, E (g st a)), s) ∧ Q l (g st a)) {l : List D} {st : σ} (hq : Q l st) :
    forLoop f l (E st) s = some ((.next, E (l.foldl g st)), s) := by
  have := for_fold (s := s) (m := id) Q h hq
  rwa [List.map_id] at this
theorem foldBag {rs : List D} {st : List (D × D) × Slot} : (rs.foldl (fun st r => (bagP st.1 r, .sh r)) st).1 = rs.foldl bagP st.1 := by
  induction rs generalizing st with
  | nil => rfl
  | cons r rs ih => rw [List.foldl_cons, List.foldl_cons, ih]
theorem r_bag {rs : List D} (h : ∀ r ∈ rs, RowOk r) (hl : rs.length < lim) : run fns Tt (n + 1) 7 [.sh (.list rs)] s = some (.dict (bagAll rs), s) := by
  rw [run_eq (fn := d_bag_of.f) rfl rfl (by decide)]
  show (evSs _ b_bag_of [.sh (.list rs), .no, .no] s).bind fin = _
  unfold b_bag_of
  simp only [evSs, evS, evE, evEs, evO, evAs, evT, evTs, evTo, evIt, bind_one, bind_many, binds_nil, binds_cons, Option.bind_some, Option.bind_none, Option.map_some, Option.map_none, List.getElem?_cons_zero, List.getElem?_cons_succ, List.set_cons_zero, List.set_cons_succ, List.length_cons, List.length_nil, List.replicate_succ, List.replicate_zero, List.cons_append, List.nil_append, Nat.lt_irrefl, if_true, if_false, lim_0, lim_1, lim_2, lim_3, lim_4, lim_5, lim_6, lim_7, lim_8, idx_t0, idx_t1, idx_t2, idx_t3, idx_t4, idx_l0, seqItems, Op2.F, Cm.F, Cm.T, B1.F, B2.F, tup_l, tup_t, lst_t, lst_l, len_t, len_l, truth_t, truth_l, truth_b, truth_i, truth_n, negF, addI, subI, List.append_assoc, ite_self, Bool.false_eq_true, reduceIte, sub_n, Nat.zero_add, Nat.reduceAdd, Nat.reduceLT, Nat.reduceLeDiff, Nat.reduceSub, Bool.not_true, Bool.not_false, List.isEmpty_cons, List.isEmpty_nil, idx_last, fin, wipeE, noOw, List.all_cons, List.all_nil, Bool.and_true, Bool.true_and, Bool.and_self, and_true, true_and, and_self, isE_app, cut_14, cut_1, cut_03, cut_02, eq_self_iff_true, Bool.not_eq_true, decide_true, decide_false, ltI, leI, gtI, geI, setKs, mutD]
  rw [for_items (E := fun st : List (D × D) × Slot => [.sh (.list rs), .ow (.dict st.1), st.2]) (g := fun st r => (bagP st.1 r, .sh r)) (st := ([], .no))
    (Q := fun l st => BagOk st.1 ∧ (∀ x ∈ l, RowOk x) ∧ st.1.length + l.length < lim) (fun r l st hq => by
      obtain ⟨q1, q2, q3⟩ := hq
      obtain ⟨t1, _, _⟩ := (q2 r List.mem_cons_self).all
      rw [List.length_cons] at q3
      have b := bag_len st.1 r
      refine ⟨?_, q1.put t1, fun x hx => q2 x (List.mem_cons_of_mem _ hx), by show (bagP st.1 r).length + _ < _; omega⟩
      have g := get_b (x := .int 0) q1.ok t1
      have st := set_b (x := .int (cntD st.1 r + 1)) q1.ok t1 (by omega)
      rw [q1.cnt] at g
      simp only [evSs, evS, evE, evEs, evO, evAs, evT, evTs, evTo, evIt, bind_one, bind_many, binds_nil, binds_cons, Option.bind_some, Option.bind_none, Option.map_some, Option.map_none, List.getElem?_cons_zero, List.getElem?_cons_succ, List.set_cons_zero, List.set_cons_succ, List.length_cons, List.length_nil, List.replicate_succ, List.replicate_zero, List.cons_append, List.nil_append, Nat.lt_irrefl, if_true, if_false, lim_0, lim_1, lim_2, lim_3, lim_4, lim_5, lim_6, lim_7, lim_8, idx_t0, idx_t1, idx_t2, idx_t3, idx_t4, idx_l0, seqItems, Op2.F, Cm.F, Cm.T, B1.F, B2.F, tup_l, tup_t, lst_t, lst_l, len_t, len_l, truth_t, truth_l, truth_b, truth_i, truth_n, negF, addI, subI, List.append_assoc, ite_self, Bool.false_eq_true, reduceIte, sub_n, Nat.zero_add, Nat.reduceAdd, Nat.reduceLT, Nat.reduceLeDiff, Nat.reduceSub, Bool.not_true, Bool.not_false, List.isEmpty_cons, List.isEmpty_nil, idx_last, fin, wipeE, noOw, List.all_cons, List.all_nil, Bool.and_true, Bool.true_and, Bool.and_self, and_true, true_and, and_self, isE_app, cut_14, cut_1, cut_03, cut_02, eq_self_iff_true, Bool.not_eq_true, decide_true, decide_false, ltI, leI, gtI, geI, g, st]
      rfl) ⟨.nil, h, by simpa using hl⟩]
  simp only [evSs, evS, evE, evEs, evO, evAs, evT, evTs, evTo, evIt, bind_one, bind_many, binds_nil, binds_cons, Option.bind_some, Option.bind_none, Option.map_some, Option.map_none, List.getElem?_cons_zero, List.getElem?_cons_succ, List.set_cons_zero, List.set_cons_succ, List.length_cons, List.length_nil, List.replicate_succ, List.replicate_zero, List.cons_append, List.nil_append, Nat.lt_irrefl, if_true, if_false, lim_0, lim_1, lim_2, lim_3, lim_4, lim_5, lim_6, lim_7, lim_8, idx_t0, idx_t1, idx_t2, idx_t3, idx_t4, idx_l0, seqItems, Op2.F, Cm.F, Cm.T, B1.F, B2.F, tup_l, tup_t, lst_t, lst_l, len_t, len_l, truth_t, truth_l, truth_b, truth_i, truth_n, negF, addI, subI, List.append_assoc, ite_self, Bool.false_eq_true, reduceIte, sub_n, Nat.zero_add, Nat.reduceAdd, Nat.reduceLT, Nat.reduceLeDiff, Nat.reduceSub, Bool.not_true, Bool.not_false, List.isEmpty_cons, List.isEmpty_nil, idx_last, fin, wipeE, noOw, List.all_cons, List.all_nil, Bool.and_true, Bool.true_and, Bool.and_self, and_true, true_and, and_self, isE_app, cut_14, cut_1, cut_03, cut_02, eq_self_iff_true, Bool.not_eq_true, decide_true, decide_false, ltI, leI, gtI, geI]
  rw [foldBag]
  rfl
theorem r_lbag {rs : List D} (h : ∀ r ∈ rs, RowOk r) (hl : rs.length < lim) : run fns Tt (n + 1) 18 [.sh (.list rs)] s = some (.dict (bagAll rs), s) := by
  have e := r_bag (Tt := Tt) (n := n) (s := s) h hl
  rw [run_eq (fn := d_bag_of.f) rfl rfl (by decide)] at e
  rw [run_eq (fn := d_l_bag.f) rfl rfl (by decide)]
  exact e
/-! ### what is committed -/
def lotRows (b : Bool) (p : Tk × List D) : List D := if p.1.1 = b then p.2 else []
def cRows (b : Bool) (cs : List Cm') : List D := cs.flatMap fun c => c.2.flatMap (lotRows b)
theorem tkS_eq (b c : Bool) : eqB (.str (tkS b)) (.str (tkS c)) = some (decide (b = c)) := by
  rw [str_eq (by cases b <;> decide +kernel) (by cases c <;> decide +kernel)]
  cases b <;> cases c <;> decide +kernel
def lotG (b : Bool) (st : List D × Slot × Slot) (p : Tk × List D) : List D × Slot × Slot := (st.1 ++ lotRows b p, .sh (tkD p.1), .sh (.tuple p.2))
theorem lotG_1 {b : Bool} {ls : List (Tk × List D)} {st : List D × Slot × Slot} : (ls.foldl (lotG b) st).1 = st.1 ++ ls.flatMap (lotRows b) := by
  induction ls generalizing st with
  | nil => simp
  | cons l ls ih => rw [List.foldl_cons, ih, List.flatMap_cons, ← List.append_assoc]; rfl
def comG (b : Bool) (st : List D × Slot × Slot × Slot × Slot) (c : Cm') : List D × Slot × Slot × Slot × Slot :=
  ((c.2.foldl (lotG b) (st.1, st.2.2.2.1, st.2.2.2.2)).1, .sh (.int c.1), .sh (.tuple (c.2.map lotD)), (c.2.foldl (lotG b) (st.1, st.2.2.2.1, st.2.2.2.2)).2.1, (c.2.foldl (lotG b) (st.1, st.2.2.2.1, st.2.2.2.2)).2.2)
theorem comG_1 {b : Bool} {cs : List Cm'} {st : List D × Slot × Slot × Slot × Slot} : (cs.foldl (comG b) st).1 = st.1 ++ cRows b cs := by
  induction cs generalizing st with
  | nil => simp [cRows]
  | cons c cs ih =>
    rw [List.foldl_cons, ih]
    unfold comG cRows
    rw [lotG_1, List.flatMap_cons, List.append_assoc]
theorem r_committed {ep : Int} {hs : List Hd} {cs : List Cm'} {b : Bool} (hr : ∀ r ∈ cRows b cs, RowOk r) (hl : (cRows b cs).length < lim) : run fns Tt (n + 2) 8 [.sh (outD ep hs cs), .sh (.str (tkS b))] s = some (.dict (bagAll (cRows b cs)), s) := by
  rw [run_eq (fn := d_committed.f) rfl rfl (by decide)]
  show (evSs _ b_committed [.sh (outD ep hs cs), .sh (.str (tkS b)), .no, .no, .no, .no, .no] s).bind fin = _
  unfold b_committed outD
  simp only [evSs, evS, evE, evEs, evO, evAs, evT, evTs, evTo, evIt, bind_one, bind_many, binds_nil, binds_cons, Option.bind_some, Option.bind_none, Option.map_some, Option.map_none, List.getElem?_cons_zero, List.getElem?_cons_succ, List.set_cons_zero, List.set_cons_succ, List.length_cons, List.length_nil, List.replicate_succ, List.replicate_zero, List.cons_append, List.nil_append, Nat.lt_irrefl, if_true, if_false, lim_0, lim_1, lim_2, lim_3, lim_4, lim_5, lim_6, lim_7, lim_8, idx_t0, idx_t1, idx_t2, idx_t3, idx_t4, idx_l0, seqItems, Op2.F, Cm.F, Cm.T, B1.F, B2.F, tup_l, tup_t, lst_t, lst_l, len_t, len_l, truth_t, truth_l, truth_b, truth_i, truth_n, negF, addI, subI, List.append_assoc, ite_self, Bool.false_eq_true, reduceIte, sub_n, Nat.zero_add, Nat.reduceAdd, Nat.reduceLT, Nat.reduceLeDiff, Nat.reduceSub, Bool.not_true, Bool.not_false, List.isEmpty_cons, List.isEmpty_nil, idx_last, fin, wipeE, noOw, List.all_cons, List.all_nil, Bool.and_true, Bool.true_and, Bool.and_self, and_true, true_and, and_self, isE_app, cut_14, cut_1, cut_03, cut_02, eq_self_iff_true, Bool.not_eq_true, decide_true, decide_false, ltI, leI, gtI, geI, setKs, mutD]
  rw [for_fold (E := fun st : List D × Slot × Slot × Slot × Slot => [.sh (.tuple [.int ep, .tuple (hs.map Hd.D), .tuple (cs.map cmD)]), .sh (.str (tkS b)), .ow (.list st.1), st.2.1, st.2.2.1, st.2.2.2.1, st.2.2.2.2]) (g := comG b) (st := ([], .no, .no, .no, .no))
    (Q := fun l st => st.1.length + (cRows b l).length ≤ lim) (fun c l st hq => by
      unfold cRows at hq
      rw [List.flatMap_cons, List.length_append] at hq
      refine ⟨?_, ?_⟩
      · simp only [evSs, evS, evE, evEs, evO, evAs, evT, evTs, evTo, evIt, bind_one, bind_many, binds_nil, binds_cons, Option.bind_some, Option.bind_none, Option.map_some, Option.map_none, List.getElem?_cons_zero, List.getElem?_cons_succ, List.set_cons_zero, List.set_cons_succ, List.length_cons, List.length_nil, List.replicate_succ, List.replicate_zero, List.cons_append, List.nil_append, Nat.lt_irrefl, if_true, if_false, lim_0, lim_1, lim_2, lim_3, lim_4, lim_5, lim_6, lim_7, lim_8, idx_t0, idx_t1, idx_t2, idx_t3, idx_t4, idx_l0, seqItems, Op2.F, Cm.F, Cm.T, B1.F, B2.F, tup_l, tup_t, lst_t, lst_l, len_t, len_l, truth_t, truth_l, truth_b, truth_i, truth_n, negF, addI, subI, List.append_assoc, ite_self, Bool.false_eq_true, reduceIte, sub_n, Nat.zero_add, Nat.reduceAdd, Nat.reduceLT, Nat.reduceLeDiff, Nat.reduceSub, Bool.not_true, Bool.not_false, List.isEmpty_cons, List.isEmpty_nil, idx_last, fin, wipeE, noOw, List.all_cons, List.all_nil, Bool.and_true, Bool.true_and, Bool.and_self, and_true, true_and, and_self, isE_app, cut_14, cut_1, cut_03, cut_02, eq_self_iff_true, Bool.not_eq_true, decide_true, decide_false, ltI, leI, gtI, geI, cmD]
        rw [for_fold (E := fun st : List D × Slot × Slot => [.sh (.tuple [.int ep, .tuple (hs.map Hd.D), .tuple (cs.map cmD)]), .sh (.str (tkS b)), .ow (.list st.1), .sh (.int c.1), .sh (.tuple (c.2.map lotD)), st.2.1, st.2.2]) (g := lotG b) (st := (st.1, st.2.2.2.1, st.2.2.2.2))
          (Q := fun l st => st.1.length + (l.flatMap (lotRows b)).length ≤ lim) (fun p l st hq => by
            rw [List.flatMap_cons, List.length_append] at hq
            refine ⟨?_, by show (st.1 ++ lotRows b p).length + _ ≤ _; rw [List.length_append]; omega⟩
            unfold lotG
            unfold lotRows at hq ⊢
            by_cases h1 : p.1.1 = b
            · have h2 : st.1.length + p.2.length ≤ lim := by rw [if_pos h1] at hq; omega
              simp only [evSs, evS, evE, evEs, evO, evAs, evT, evTs, evTo, evIt, bind_one, bind_many, binds_nil, binds_cons, Option.bind_some, Option.bind_none, Option.map_some, Option.map_none, List.getElem?_cons_zero, List.getElem?_cons_succ, List.set_cons_zero, List.set_cons_succ, List.length_cons, List.length_nil, List.replicate_succ, List.replicate_zero, List.cons_append, List.nil_append, Nat.lt_irrefl, if_true, if_false, lim_0, lim_1, lim_2, lim_3, lim_4, lim_5, lim_6, lim_7, lim_8, idx_t0, idx_t1, idx_t2, idx_t3, idx_t4, idx_l0, seqItems, Op2.F, Cm.F, Cm.T, B1.F, B2.F, tup_l, tup_t, lst_t, lst_l, len_t, len_l, truth_t, truth_l, truth_b, truth_i, truth_n, negF, addI, subI, List.append_assoc, ite_self, Bool.false_eq_true, reduceIte, sub_n, Nat.zero_add, Nat.reduceAdd, Nat.reduceLT, Nat.reduceLeDiff, Nat.reduceSub, Bool.not_true, Bool.not_false, List.isEmpty_cons, List.isEmpty_nil, idx_last, fin, wipeE, noOw, List.all_cons, List.all_nil, Bool.and_true, Bool.true_and, Bool.and_self, and_true, true_and, and_self, isE_app, cut_14, cut_1, cut_03, cut_02, eq_self_iff_true, Bool.not_eq_true, decide_true, decide_false, ltI, leI, gtI, geI, lotD, tkD, tkS_eq, h1, h2]
            · simp only [evSs, evS, evE, evEs, evO, evAs, evT, evTs, evTo, evIt, bind_one, bind_many, binds_nil, binds_cons, Option.bind_some, Option.bind_none, Option.map_some, Option.map_none, List.getElem?_cons_zero, List.getElem?_cons_succ, List.set_cons_zero, List.set_cons_succ, List.length_cons, List.length_nil, List.replicate_succ, List.replicate_zero, List.cons_append, List.nil_append, Nat.lt_irrefl, if_true, if_false, lim_0, lim_1, lim_2, lim_3, lim_4, lim_5, lim_6, lim_7, lim_8, idx_t0, idx_t1, idx_t2, idx_t3, idx_t4, idx_l0, seqItems, Op2.F, Cm.F, Cm.T, B1.F, B2.F, tup_l, tup_t, lst_t, lst_l, len_t, len_l, truth_t, truth_l, truth_b, truth_i, truth_n, negF, addI, subI, List.append_assoc, ite_self, Bool.false_eq_true, reduceIte, sub_n, Nat.zero_add, Nat.reduceAdd, Nat.reduceLT, Nat.reduceLeDiff, Nat.reduceSub, Bool.not_true, Bool.not_false, List.isEmpty_cons, List.isEmpty_nil, idx_last, fin, wipeE, noOw, List.all_cons, List.all_nil, Bool.and_true, Bool.true_and, Bool.and_self, and_true, true_and, and_self, isE_app, cut_14, cut_1, cut_03, cut_02, eq_self_iff_true, Bool.not_eq_true, decide_true, decide_false, ltI, leI, gtI, geI, lotD, tkD, tkS_eq, h1, List.append_nil]) (by show st.1.length + _ ≤ _; omega)]
        simp only [evSs, evS, evE, evEs, evO, evAs, evT, evTs, evTo, evIt, bind_one, bind_many, binds_nil, binds_cons, Option.bind_some, Option.bind_none, Option.map_some, Option.map_none, List.getElem?_cons_zero, List.getElem?_cons_succ, List.set_cons_zero, List.set_cons_succ, List.length_cons, List.length_nil, List.replicate_succ, List.replicate_zero, List.cons_append, List.nil_append, Nat.lt_irrefl, if_true, if_false, lim_0, lim_1, lim_2, lim_3, lim_4, lim_5, lim_6, lim_7, lim_8, idx_t0, idx_t1, idx_t2, idx_t3, idx_t4, idx_l0, seqItems, Op2.F, Cm.F, Cm.T, B1.F, B2.F, tup_l, tup_t, lst_t, lst_l, len_t, len_l, truth_t, truth_l, truth_b, truth_i, truth_n, negF, addI, subI, List.append_assoc, ite_self, Bool.false_eq_true, reduceIte, sub_n, Nat.zero_add, Nat.reduceAdd, Nat.reduceLT, Nat.reduceLeDiff, Nat.reduceSub, Bool.not_true, Bool.not_false, List.isEmpty_cons, List.isEmpty_nil, idx_last, fin, wipeE, noOw, List.all_cons, List.all_nil, Bool.and_true, Bool.true_and, Bool.and_self, and_true, true_and, and_self, isE_app, cut_14, cut_1, cut_03, cut_02, eq_self_iff_true, Bool.not_eq_true, decide_true, decide_false, ltI, leI, gtI, geI]
        rfl
      · show (c.2.foldl (lotG b) _).1.length + (cRows b l).length ≤ _
        rw [lotG_1, List.length_append]
        unfold cRows
        dsimp only
        omega) (by show 0 + _ ≤ _; omega)]
  have r := r_bag (Tt := Tt) (n := n) (s := s) hr hl
  simp only [evSs, evS, evE, evEs, evO, evAs, evT, evTs, evTo, evIt, bind_one, bind_many, binds_nil, binds_cons, Option.bind_some, Option.bind_none, Option.map_some, Option.map_none, List.getElem?_cons_zero, List.getElem?_cons_succ, List.set_cons_zero, List.set_cons_succ, List.length_cons, List.length_nil, List.replicate_succ, List.replicate_zero, List.cons_append, List.nil_append, Nat.lt_irrefl, if_true, if_false, lim_0, lim_1, lim_2, lim_3, lim_4, lim_5, lim_6, lim_7, lim_8, idx_t0, idx_t1, idx_t2, idx_t3, idx_t4, idx_l0, seqItems, Op2.F, Cm.F, Cm.T, B1.F, B2.F, tup_l, tup_t, lst_t, lst_l, len_t, len_l, truth_t, truth_l, truth_b, truth_i, truth_n, negF, addI, subI, List.append_assoc, ite_self, Bool.false_eq_true, reduceIte, sub_n, Nat.zero_add, Nat.reduceAdd, Nat.reduceLT, Nat.reduceLeDiff, Nat.reduceSub, Bool.not_true, Bool.not_false, List.isEmpty_cons, List.isEmpty_nil, idx_last, fin, wipeE, noOw, List.all_cons, List.all_nil, Bool.and_true, Bool.true_and, Bool.and_self, and_true, true_and, and_self, isE_app, cut_14, cut_1, cut_03, cut_02, eq_self_iff_true, Bool.not_eq_true, decide_true, decide_false, ltI, leI, gtI, geI]
  rw [comG_1]
  simp only [evSs, evS, evE, evEs, evO, evAs, evT, evTs, evTo, evIt, bind_one, bind_many, binds_nil, binds_cons, Option.bind_some, Option.bind_none, Option.map_some, Option.map_none, List.getElem?_cons_zero, List.getElem?_cons_succ, List.set_cons_zero, List.set_cons_succ, List.length_cons, List.length_nil, List.replicate_succ, List.replicate_zero, List.cons_append, List.nil_append, Nat.lt_irrefl, if_true, if_false, lim_0, lim_1, lim_2, lim_3, lim_4, lim_5, lim_6, lim_7, lim_8, idx_t0, idx_t1, idx_t2, idx_t3, idx_t4, idx_l0, seqItems, Op2.F, Cm.F, Cm.T, B1.F, B2.F, tup_l, tup_t, lst_t, lst_l, len_t, len_l, truth_t, truth_l, truth_b, truth_i, truth_n, negF, addI, subI, List.append_assoc, ite_self, Bool.false_eq_true, reduceIte, sub_n, Nat.zero_add, Nat.reduceAdd, Nat.reduceLT, Nat.reduceLeDiff, Nat.reduceSub, Bool.not_true, Bool.not_false, List.isEmpty_cons, List.isEmpty_nil, idx_last, fin, wipeE, noOw, List.all_cons, List.all_nil, Bool.and_true, Bool.true_and, Bool.and_self, and_true, true_and, and_self, isE_app, cut_14, cut_1, cut_03, cut_02, eq_self_iff_true, Bool.not_eq_true, decide_true, decide_false, ltI, leI, gtI, geI]
  rw [r]
  rfl
end K77
end DL
end
section
set_option Elab.async false
set_option linter.all false
set_option maxRecDepth 100000
set_option maxHeartbeats 2000000
/-! KP5: what is drawn. -/
namespace DL
open PySem PySem.Spec PyProof.Rows L2
namespace K77
variable {Tt : Tb} {n : Nat} {s : Src}
theorem idx_l1 {a b : D} {l : List D} : idxF (.list (a :: b :: l)) (.int 1) = some b := atI_nat (i := 1) (by simp)
theorem idx_l2 {a b c : D} {l : List D} : idxF (.list (a :: b :: c :: l)) (.int 2) = some c := atI_nat (i := 2) (by simp)
theorem comp_ex {f : D → Src → Rn (Option D)} {ds : List D} {c : Rn (List D)} (e : compLoop f ds s = c) (P : D → Prop) (h : ∀ d s, ∃ v s', f d s = some (some v, s') ∧ P v) : ∃ vs s', c = some (vs, s') ∧ vs.length = ds.length ∧ ∀ v ∈ vs, P v := by
  subst e
  induction ds generalizing s with
  | nil => exact ⟨[], s, rfl, rfl, fun v hv => nomatch hv⟩
  | cons d ds ih =>
    obtain ⟨v, s1, e1, p1⟩ := h d s
    obtain ⟨vs, s2, e2, l2, p2⟩ := ih (s := s1)
    refine ⟨v :: vs, s2, ?_, by rw [List.length_cons, List.length_cons, l2], fun x hx => ?_⟩
    · unfold compLoop
      rw [e1]
      simp only [Option.bind_some]
      rw [e2]
      rfl
    · rcases List.mem_cons.mp hx with rfl | hx
      · exact p1
      · exact p2 x hx
theorem range_len {j : Int} : (rangeItems 0 j).length = j.toNat := by simp [rangeItems]
theorem range_ok {j : Int} (h0 : 0 ≤ j) (h1 : j ≤ 1000000) : rangeOk 0 j = true := by
  unfold rangeOk
  exact decide_eq_true (by omega)
theorem big {m : Int} (h : m ≤ 1000000000000) : (m ≤ 10 ^ 100) = True := eq_true (Int.le_trans h (by decide +kernel))
theorem p12 : powF (.int 10) (.int 12) = some (.int 1000000000000) := by
  show (if 0 ≤ (12 : Int) ∧ (12 : Int) ≤ 1000 ∧ (10 : Int).natAbs < 1000000 then some (PyData.int ((10 : Int) ^ (12 : Int).toNat)) else none) = _
  rw [if_pos (by decide)]
  rfl
theorem p11 : powF (.int 10) (.int 11) = some (.int 100000000000) := by
  show (if 0 ≤ (11 : Int) ∧ (11 : Int) ≤ 1000 ∧ (10 : Int).natAbs < 1000000 then some (PyData.int ((10 : Int) ^ (11 : Int).toNat)) else none) = _
  rw [if_pos (by decide)]
  rfl
theorem strOk_app (x y : Str) : PyData.strOk (x ++ y) = (PyData.strOk x && PyData.strOk y) := by
  show (x.cps ++ y.cps).all _ = _
  rw [Array.all_append]
  rfl
theorem join_ok : ∀ ys : List Str, (∀ y ∈ ys, PyData.strOk y = true) → PyData.strOk (Str.join "" ys) = true
  | [], _ => by decide +kernel
  | [x], h => h x (by simp)
  | x :: y :: r, h => by
    have ih := join_ok (y :: r) fun z hz => h z (List.mem_cons_of_mem _ hz)
    show PyData.strOk (x ++ "" ++ Str.join "" (y :: r)) = true
    rw [strOk_app, strOk_app, ih, h x (by simp)]
    decide +kernel
def oneS (d : D) : Prop := ∃ z : Str, d = .str z ∧ z.length = 1 ∧ PyData.strOk z = true
theorem allS_one (ds : List D) (h : ∀ d ∈ ds, oneS d) : ∃ ys, allS ds = some ys ∧ (ys.map (·.length)).sum = ds.length ∧ ys.length = ds.length ∧ ∀ y ∈ ys, PyData.strOk y = true := by
  induction ds with
  | nil => exact ⟨[], rfl, rfl, rfl, fun y hy => nomatch hy⟩
  | cons d ds ih =>
    obtain ⟨z, rfl, h1, h2⟩ := h d List.mem_cons_self
    obtain ⟨ys, e, l1, l2, h3⟩ := ih fun x hx => h x (List.mem_cons_of_mem _ hx)
    refine ⟨z :: ys, by simp only [allS, e, Option.map_some], ?_, by simp [l2], fun y hy => ?_⟩
    · rw [List.map_cons, List.sum_cons, l1, List.length_cons, h1]; omega
    · rcases List.mem_cons.mp hy with rfl | hy
      · exact h2
      · exact h3 y hy
theorem join_one (ds : List D) (h : ∀ d ∈ ds, oneS d) (hl : ds.length ≤ lim) : ∃ z, joinF "" (.list ds) = some (.str z) ∧ ValOk (.str z) = true := by
  obtain ⟨ys, e, l1, l2, h3⟩ := allS_one ds h
  refine ⟨Txt.join "" ys, ?_, ?_⟩
  · show (allS ds).bind _ = _
    rw [e]
    show (if _ then _ else _) = _
    rw [l1, show ("" : Str).length = 0 from rfl, Nat.mul_zero, if_pos (by omega)]
  · show PyData.strOk (Txt.join "" ys) = true
    have e : Txt.join "" ys = Str.join "" ys := StrLaws.glued_eq_join _ _
    rw [e]
    exact join_ok ys h3
theorem chr_one {i : Int} (h0 : 0 ≤ i) (h1 : i < 8) : ∃ d, idxF (.str "ab Z09-_") (.int i) = some d ∧ oneS d := by
  have h : i = 0 ∨ i = 1 ∨ i = 2 ∨ i = 3 ∨ i = 4 ∨ i = 5 ∨ i = 6 ∨ i = 7 := by omega
  rcases h with rfl | rfl | rfl | rfl | rfl | rfl | rfl | rfl <;> exact ⟨_, rfl, _, rfl, rfl, by decide +kernel⟩
theorem r_any : ∃ v s', run fns Tt (n + 1) 20 [.sr] s = some (v, s') ∧ ValOk v = true := by
  rw [run_eq (fn := d_l_any_value.f) rfl rfl (by decide)]
  show ∃ v s', (evSs _ b_l_any_value [.sr, .no, .no] s).bind fin = _ ∧ _
  unfold b_l_any_value
  have hb := pick_bounds s 6 (by omega)
  simp only [evSs, evS, evE, evEs, evO, evAs, evT, evTs, evTo, evIt, bind_one, bind_many, binds_nil, binds_cons, Option.bind_some, Option.bind_none, Option.map_some, Option.map_none, List.getElem?_cons_zero, List.getElem?_cons_succ, List.set_cons_zero, List.set_cons_succ, List.length_cons, List.length_nil, List.replicate_succ, List.replicate_zero, List.cons_append, List.nil_append, Nat.lt_irrefl, if_true, if_false, lim_0, lim_1, lim_2, lim_3, lim_4, lim_5, lim_6, lim_7, lim_8, idx_t0, idx_t1, idx_t2, idx_t3, idx_t4, idx_l0, seqItems, Op2.F, Cm.F, Cm.T, B1.F, B2.F, tup_l, tup_t, lst_t, lst_l, len_t, len_l, truth_t, truth_l, truth_b, truth_i, truth_n, negF, addI, subI, List.append_assoc, ite_self, Bool.false_eq_true, reduceIte, sub_n, Nat.zero_add, Nat.reduceAdd, Nat.reduceLT, Nat.reduceLeDiff, Nat.reduceSub, Bool.not_true, Bool.not_false, List.isEmpty_cons, List.isEmpty_nil, idx_last, fin, wipeE, noOw, List.all_cons, List.all_nil, Bool.and_true, Bool.true_and, Bool.and_self, and_true, true_and, and_self, isE_app, cut_14, cut_1, cut_03, cut_02, eq_self_iff_true, Bool.not_eq_true, decide_true, decide_false, ltI, leI, gtI, geI, big (show (6 : Int) ≤ 1000000000000 by omega), eqI]
  rcases hp : pickF s 6 with ⟨w, s1⟩
  rw [hp] at hb
  obtain ⟨h0, h1⟩ := hb
  dsimp only at h0 h1
  have txt : ∀ (m : Int), 1 ≤ m → m ≤ 100 → ∃ z s', (joinF "" (.list [])) = some z ∧ s' = s := fun _ _ _ => ⟨_, _, rfl, rfl⟩
  have h : w = 0 ∨ w = 1 ∨ w = 2 ∨ w = 3 ∨ w = 4 ∨ w = 5 := by omega
  rcases h with rfl | rfl | rfl | rfl | rfl | rfl
  · simp only [evSs, evS, evE, evEs, evO, evAs, evT, evTs, evTo, evIt, bind_one, bind_many, binds_nil, binds_cons, Option.bind_some, Option.bind_none, Option.map_some, Option.map_none, List.getElem?_cons_zero, List.getElem?_cons_succ, List.set_cons_zero, List.set_cons_succ, List.length_cons, List.length_nil, List.replicate_succ, List.replicate_zero, List.cons_append, List.nil_append, Nat.lt_irrefl, if_true, if_false, lim_0, lim_1, lim_2, lim_3, lim_4, lim_5, lim_6, lim_7, lim_8, idx_t0, idx_t1, idx_t2, idx_t3, idx_t4, idx_l0, seqItems, Op2.F, Cm.F, Cm.T, B1.F, B2.F, tup_l, tup_t, lst_t, lst_l, len_t, len_l, truth_t, truth_l, truth_b, truth_i, truth_n, negF, addI, subI, List.append_assoc, ite_self, Bool.false_eq_true, reduceIte, sub_n, Nat.zero_add, Nat.reduceAdd, Nat.reduceLT, Nat.reduceLeDiff, Nat.reduceSub, Bool.not_true, Bool.not_false, List.isEmpty_cons, List.isEmpty_nil, idx_last, fin, wipeE, noOw, List.all_cons, List.all_nil, Bool.and_true, Bool.true_and, Bool.and_self, and_true, true_and, and_self, isE_app, cut_14, cut_1, cut_03, cut_02, eq_self_iff_true, Bool.not_eq_true, decide_true, decide_false, ltI, leI, gtI, geI]
    exact ⟨_, _, rfl, rfl⟩
  · simp only [evSs, evS, evE, evEs, evO, evAs, evT, evTs, evTo, evIt, bind_one, bind_many, binds_nil, binds_cons, Option.bind_some, Option.bind_none, Option.map_some, Option.map_none, List.getElem?_cons_zero, List.getElem?_cons_succ, List.set_cons_zero, List.set_cons_succ, List.length_cons, List.length_nil, List.replicate_succ, List.replicate_zero, List.cons_append, List.nil_append, Nat.lt_irrefl, if_true, if_false, lim_0, lim_1, lim_2, lim_3, lim_4, lim_5, lim_6, lim_7, lim_8, idx_t0, idx_t1, idx_t2, idx_t3, idx_t4, idx_l0, seqItems, Op2.F, Cm.F, Cm.T, B1.F, B2.F, tup_l, tup_t, lst_t, lst_l, len_t, len_l, truth_t, truth_l, truth_b, truth_i, truth_n, negF, addI, subI, List.append_assoc, ite_self, Bool.false_eq_true, reduceIte, sub_n, Nat.zero_add, Nat.reduceAdd, Nat.reduceLT, Nat.reduceLeDiff, Nat.reduceSub, Bool.not_true, Bool.not_false, List.isEmpty_cons, List.isEmpty_nil, idx_last, fin, wipeE, noOw, List.all_cons, List.all_nil, Bool.and_true, Bool.true_and, Bool.and_self, and_true, true_and, and_self, isE_app, cut_14, cut_1, cut_03, cut_02, eq_self_iff_true, Bool.not_eq_true, decide_true, decide_false, ltI, leI, gtI, geI, Int.reduceEq, Int.reduceLT, Int.reduceSub, big (show (9 : Int) ≤ 1000000000000 by omega), p12, p11, big (Int.le_refl _)]
    exact ⟨_, _, rfl, rfl⟩
  · simp only [evSs, evS, evE, evEs, evO, evAs, evT, evTs, evTo, evIt, bind_one, bind_many, binds_nil, binds_cons, Option.bind_some, Option.bind_none, Option.map_some, Option.map_none, List.getElem?_cons_zero, List.getElem?_cons_succ, List.set_cons_zero, List.set_cons_succ, List.length_cons, List.length_nil, List.replicate_succ, List.replicate_zero, List.cons_append, List.nil_append, Nat.lt_irrefl, if_true, if_false, lim_0, lim_1, lim_2, lim_3, lim_4, lim_5, lim_6, lim_7, lim_8, idx_t0, idx_t1, idx_t2, idx_t3, idx_t4, idx_l0, seqItems, Op2.F, Cm.F, Cm.T, B1.F, B2.F, tup_l, tup_t, lst_t, lst_l, len_t, len_l, truth_t, truth_l, truth_b, truth_i, truth_n, negF, addI, subI, List.append_assoc, ite_self, Bool.false_eq_true, reduceIte, sub_n, Nat.zero_add, Nat.reduceAdd, Nat.reduceLT, Nat.reduceLeDiff, Nat.reduceSub, Bool.not_true, Bool.not_false, List.isEmpty_cons, List.isEmpty_nil, idx_last, fin, wipeE, noOw, List.all_cons, List.all_nil, Bool.and_true, Bool.true_and, Bool.and_self, and_true, true_and, and_self, isE_app, cut_14, cut_1, cut_03, cut_02, eq_self_iff_true, Bool.not_eq_true, decide_true, decide_false, ltI, leI, gtI, geI, Int.reduceEq, Int.reduceLT, Int.reduceSub, big (show (9 : Int) ≤ 1000000000000 by omega), p12, p11, big (Int.le_refl _), idx_l1]
    exact ⟨_, _, rfl, rfl⟩
  · simp only [evSs, evS, evE, evEs, evO, evAs, evT, evTs, evTo, evIt, bind_one, bind_many, binds_nil, binds_cons, Option.bind_some, Option.bind_none, Option.map_some, Option.map_none, List.getElem?_cons_zero, List.getElem?_cons_succ, List.set_cons_zero, List.set_cons_succ, List.length_cons, List.length_nil, List.replicate_succ, List.replicate_zero, List.cons_append, List.nil_append, Nat.lt_irrefl, if_true, if_false, lim_0, lim_1, lim_2, lim_3, lim_4, lim_5, lim_6, lim_7, lim_8, idx_t0, idx_t1, idx_t2, idx_t3, idx_t4, idx_l0, seqItems, Op2.F, Cm.F, Cm.T, B1.F, B2.F, tup_l, tup_t, lst_t, lst_l, len_t, len_l, truth_t, truth_l, truth_b, truth_i, truth_n, negF, addI, subI, List.append_assoc, ite_self, Bool.false_eq_true, reduceIte, sub_n, Nat.zero_add, Nat.reduceAdd, Nat.reduceLT, Nat.reduceLeDiff, Nat.reduceSub, Bool.not_true, Bool.not_false, List.isEmpty_cons, List.isEmpty_nil, idx_last, fin, wipeE, noOw, List.all_cons, List.all_nil, Bool.and_true, Bool.true_and, Bool.and_self, and_true, true_and, and_self, isE_app, cut_14, cut_1, cut_03, cut_02, eq_self_iff_true, Bool.not_eq_true, decide_true, decide_false, ltI, leI, gtI, geI, Int.reduceEq, Int.reduceLT, Int.reduceSub, big (show (9 : Int) ≤ 1000000000000 by omega), p12, p11, big (Int.le_refl _), idx_l2]
    exact ⟨_, _, rfl, rfl⟩
  · rcases hp2 : pickF s1 4 with ⟨j, s2⟩
    have hb2 := pick_bounds s1 4 (by omega)
    rw [hp2] at hb2
    obtain ⟨h2, h3⟩ := hb2
    dsimp only at h2 h3
    have rk := range_ok h2 (by omega)
    have rl := range_len (j := j)
    have hl : (rangeItems 0 j).length ≤ lim := by rw [rl]; exact Nat.le_trans (show j.toNat ≤ 100 by omega) (by decide)
    simp only [evSs, evS, evE, evEs, evO, evAs, evT, evTs, evTo, evIt, bind_one, bind_many, binds_nil, binds_cons, Option.bind_some, Option.bind_none, Option.map_some, Option.map_none, List.getElem?_cons_zero, List.getElem?_cons_succ, List.set_cons_zero, List.set_cons_succ, List.length_cons, List.length_nil, List.replicate_succ, List.replicate_zero, List.cons_append, List.nil_append, Nat.lt_irrefl, if_true, if_false, lim_0, lim_1, lim_2, lim_3, lim_4, lim_5, lim_6, lim_7, lim_8, idx_t0, idx_t1, idx_t2, idx_t3, idx_t4, idx_l0, seqItems, Op2.F, Cm.F, Cm.T, B1.F, B2.F, tup_l, tup_t, lst_t, lst_l, len_t, len_l, truth_t, truth_l, truth_b, truth_i, truth_n, negF, addI, subI, List.append_assoc, ite_self, Bool.false_eq_true, reduceIte, sub_n, Nat.zero_add, Nat.reduceAdd, Nat.reduceLT, Nat.reduceLeDiff, Nat.reduceSub, Bool.not_true, Bool.not_false, List.isEmpty_cons, List.isEmpty_nil, idx_last, fin, wipeE, noOw, List.all_cons, List.all_nil, Bool.and_true, Bool.true_and, Bool.and_self, and_true, true_and, and_self, isE_app, cut_14, cut_1, cut_03, cut_02, eq_self_iff_true, Bool.not_eq_true, decide_true, decide_false, ltI, leI, gtI, geI, Int.reduceEq, Int.reduceLT, Int.reduceSub, big (show (4 : Int) ≤ 1000000000000 by omega), hp2, rk, hl]
    generalize hc : compLoop _ _ _ = c
    obtain ⟨vs, s3, rfl, l3, p3⟩ := comp_ex hc oneS fun d s => by
      have hb4 := pick_bounds s 8 (by omega)
      obtain ⟨c, hc, oc⟩ := chr_one hb4.1 hb4.2
      simp only [evSs, evS, evE, evEs, evO, evAs, evT, evTs, evTo, evIt, bind_one, bind_many, binds_nil, binds_cons, Option.bind_some, Option.bind_none, Option.map_some, Option.map_none, List.getElem?_cons_zero, List.getElem?_cons_succ, List.set_cons_zero, List.set_cons_succ, List.length_cons, List.length_nil, List.replicate_succ, List.replicate_zero, List.cons_append, List.nil_append, Nat.lt_irrefl, if_true, if_false, lim_0, lim_1, lim_2, lim_3, lim_4, lim_5, lim_6, lim_7, lim_8, idx_t0, idx_t1, idx_t2, idx_t3, idx_t4, idx_l0, seqItems, Op2.F, Cm.F, Cm.T, B1.F, B2.F, tup_l, tup_t, lst_t, lst_l, len_t, len_l, truth_t, truth_l, truth_b, truth_i, truth_n, negF, addI, subI, List.append_assoc, ite_self, Bool.false_eq_true, reduceIte, sub_n, Nat.zero_add, Nat.reduceAdd, Nat.reduceLT, Nat.reduceLeDiff, Nat.reduceSub, Bool.not_true, Bool.not_false, List.isEmpty_cons, List.isEmpty_nil, idx_last, fin, wipeE, noOw, List.all_cons, List.all_nil, Bool.and_true, Bool.true_and, Bool.and_self, and_true, true_and, and_self, isE_app, cut_14, cut_1, cut_03, cut_02, eq_self_iff_true, Bool.not_eq_true, decide_true, decide_false, ltI, leI, gtI, geI, big (show (8 : Int) ≤ 1000000000000 by omega), hc]
      exact ⟨_, _, rfl, oc⟩
    obtain ⟨z, e, ok⟩ := join_one vs p3 (by rw [l3]; exact hl)
    simp only [evSs, evS, evE, evEs, evO, evAs, evT, evTs, evTo, evIt, bind_one, bind_many, binds_nil, binds_cons, Option.bind_some, Option.bind_none, Option.map_some, Option.map_none, List.getElem?_cons_zero, List.getElem?_cons_succ, List.set_cons_zero, List.set_cons_succ, List.length_cons, List.length_nil, List.replicate_succ, List.replicate_zero, List.cons_append, List.nil_append, Nat.lt_irrefl, if_true, if_false, lim_0, lim_1, lim_2, lim_3, lim_4, lim_5, lim_6, lim_7, lim_8, idx_t0, idx_t1, idx_t2, idx_t3, idx_t4, idx_l0, seqItems, Op2.F, Cm.F, Cm.T, B1.F, B2.F, tup_l, tup_t, lst_t, lst_l, len_t, len_l, truth_t, truth_l, truth_b, truth_i, truth_n, negF, addI, subI, List.append_assoc, ite_self, Bool.false_eq_true, reduceIte, sub_n, Nat.zero_add, Nat.reduceAdd, Nat.reduceLT, Nat.reduceLeDiff, Nat.reduceSub, Bool.not_true, Bool.not_false, List.isEmpty_cons, List.isEmpty_nil, idx_last, fin, wipeE, noOw, List.all_cons, List.all_nil, Bool.and_true, Bool.true_and, Bool.and_self, and_true, true_and, and_self, isE_app, cut_14, cut_1, cut_03, cut_02, eq_self_iff_true, Bool.not_eq_true, decide_true, decide_false, ltI, leI, gtI, geI, e]
    exact ⟨_, _, rfl, ok⟩
  · rcases hp2 : pickF s1 13 with ⟨j, s2⟩
    have hb2 := pick_bounds s1 13 (by omega)
    rw [hp2] at hb2
    obtain ⟨h2, h3⟩ := hb2
    dsimp only at h2 h3
    have rk := range_ok h2 (by omega)
    have rl := range_len (j := j)
    have hl : (rangeItems 0 j).length ≤ lim := by rw [rl]; exact Nat.le_trans (show j.toNat ≤ 100 by omega) (by decide)
    simp only [evSs, evS, evE, evEs, evO, evAs, evT, evTs, evTo, evIt, bind_one, bind_many, binds_nil, binds_cons, Option.bind_some, Option.bind_none, Option.map_some, Option.map_none, List.getElem?_cons_zero, List.getElem?_cons_succ, List.set_cons_zero, List.set_cons_succ, List.length_cons, List.length_nil, List.replicate_succ, List.replicate_zero, List.cons_append, List.nil_append, Nat.lt_irrefl, if_true, if_false, lim_0, lim_1, lim_2, lim_3, lim_4, lim_5, lim_6, lim_7, lim_8, idx_t0, idx_t1, idx_t2, idx_t3, idx_t4, idx_l0, seqItems, Op2.F, Cm.F, Cm.T, B1.F, B2.F, tup_l, tup_t, lst_t, lst_l, len_t, len_l, truth_t, truth_l, truth_b, truth_i, truth_n, negF, addI, subI, List.append_assoc, ite_self, Bool.false_eq_true, reduceIte, sub_n, Nat.zero_add, Nat.reduceAdd, Nat.reduceLT, Nat.reduceLeDiff, Nat.reduceSub, Bool.not_true, Bool.not_false, List.isEmpty_cons, List.isEmpty_nil, idx_last, fin, wipeE, noOw, List.all_cons, List.all_nil, Bool.and_true, Bool.true_and, Bool.and_self, and_true, true_and, and_self, isE_app, cut_14, cut_1, cut_03, cut_02, eq_self_iff_true, Bool.not_eq_true, decide_true, decide_false, ltI, leI, gtI, geI, Int.reduceEq, Int.reduceLT, Int.reduceSub, idx_l1, big (show (13 : Int) ≤ 1000000000000 by omega), hp2, rk, hl]
    generalize hc : compLoop _ _ _ = c
    obtain ⟨vs, s3, rfl, l3, p3⟩ := comp_ex hc oneS fun d s => by
      have hb4 := pick_bounds s 8 (by omega)
      obtain ⟨c, hc, oc⟩ := chr_one hb4.1 hb4.2
      simp only [evSs, evS, evE, evEs, evO, evAs, evT, evTs, evTo, evIt, bind_one, bind_many, binds_nil, binds_cons, Option.bind_some, Option.bind_none, Option.map_some, Option.map_none, List.getElem?_cons_zero, List.getElem?_cons_succ, List.set_cons_zero, List.set_cons_succ, List.length_cons, List.length_nil, List.replicate_succ, List.replicate_zero, List.cons_append, List.nil_append, Nat.lt_irrefl, if_true, if_false, lim_0, lim_1, lim_2, lim_3, lim_4, lim_5, lim_6, lim_7, lim_8, idx_t0, idx_t1, idx_t2, idx_t3, idx_t4, idx_l0, seqItems, Op2.F, Cm.F, Cm.T, B1.F, B2.F, tup_l, tup_t, lst_t, lst_l, len_t, len_l, truth_t, truth_l, truth_b, truth_i, truth_n, negF, addI, subI, List.append_assoc, ite_self, Bool.false_eq_true, reduceIte, sub_n, Nat.zero_add, Nat.reduceAdd, Nat.reduceLT, Nat.reduceLeDiff, Nat.reduceSub, Bool.not_true, Bool.not_false, List.isEmpty_cons, List.isEmpty_nil, idx_last, fin, wipeE, noOw, List.all_cons, List.all_nil, Bool.and_true, Bool.true_and, Bool.and_self, and_true, true_and, and_self, isE_app, cut_14, cut_1, cut_03, cut_02, eq_self_iff_true, Bool.not_eq_true, decide_true, decide_false, ltI, leI, gtI, geI, big (show (8 : Int) ≤ 1000000000000 by omega), hc]
      exact ⟨_, _, rfl, oc⟩
    obtain ⟨z, e, ok⟩ := join_one vs p3 (by rw [l3]; exact hl)
    simp only [evSs, evS, evE, evEs, evO, evAs, evT, evTs, evTo, evIt, bind_one, bind_many, binds_nil, binds_cons, Option.bind_some, Option.bind_none, Option.map_some, Option.map_none, List.getElem?_cons_zero, List.getElem?_cons_succ, List.set_cons_zero, List.set_cons_succ, List.length_cons, List.length_nil, List.replicate_succ, List.replicate_zero, List.cons_append, List.nil_append, Nat.lt_irrefl, if_true, if_false, lim_0, lim_1, lim_2, lim_3, lim_4, lim_5, lim_6, lim_7, lim_8, idx_t0, idx_t1, idx_t2, idx_t3, idx_t4, idx_l0, seqItems, Op2.F, Cm.F, Cm.T, B1.F, B2.F, tup_l, tup_t, lst_t, lst_l, len_t, len_l, truth_t, truth_l, truth_b, truth_i, truth_n, negF, addI, subI, List.append_assoc, ite_self, Bool.false_eq_true, reduceIte, sub_n, Nat.zero_add, Nat.reduceAdd, Nat.reduceLT, Nat.reduceLeDiff, Nat.reduceSub, Bool.not_true, Bool.not_false, List.isEmpty_cons, List.isEmpty_nil, idx_last, fin, wipeE, noOw, List.all_cons, List.all_nil, Bool.and_true, Bool.true_and, Bool.and_self, and_true, true_and, and_self, isE_app, cut_14, cut_1, cut_03, cut_02, eq_self_iff_true, Bool.not_eq_true, decide_true, decide_false, ltI, leI, gtI, geI, e]
    exact ⟨_, _, rfl, ok⟩
theorem r_draw : ∃ v s', run fns Tt (n + 2) 19 [.sr, .sh (.int 6)] s = some (v, s') ∧ RowOk v := by
  rw [run_eq (fn := d_l_draw_row.f) rfl rfl (by decide)]
  show ∃ v s', (evSs _ b_l_draw_row [.sr, .sh (.int 6), .no, .no] s).bind fin = _ ∧ _
  unfold b_l_draw_row
  rcases hp2 : pickF s 4 with ⟨j, s2⟩
  have hb2 := pick_bounds s 4 (by omega)
  rw [hp2] at hb2
  obtain ⟨h2, h3⟩ := hb2
  dsimp only at h2 h3
  have rk := range_ok h2 (by omega)
  have rl := range_len (j := j)
  have hl : (rangeItems 0 j).length ≤ lim := by rw [rl]; exact Nat.le_trans (show j.toNat ≤ 100 by omega) (by decide)
  simp only [evSs, evS, evE, evEs, evO, evAs, evT, evTs, evTo, evIt, bind_one, bind_many, binds_nil, binds_cons, Option.bind_some, Option.bind_none, Option.map_some, Option.map_none, List.getElem?_cons_zero, List.getElem?_cons_succ, List.set_cons_zero, List.set_cons_succ, List.length_cons, List.length_nil, List.replicate_succ, List.replicate_zero, List.cons_append, List.nil_append, Nat.lt_irrefl, if_true, if_false, lim_0, lim_1, lim_2, lim_3, lim_4, lim_5, lim_6, lim_7, lim_8, idx_t0, idx_t1, idx_t2, idx_t3, idx_t4, idx_l0, seqItems, Op2.F, Cm.F, Cm.T, B1.F, B2.F, tup_l, tup_t, lst_t, lst_l, len_t, len_l, truth_t, truth_l, truth_b, truth_i, truth_n, negF, addI, subI, List.append_assoc, ite_self, Bool.false_eq_true, reduceIte, sub_n, Nat.zero_add, Nat.reduceAdd, Nat.reduceLT, Nat.reduceLeDiff, Nat.reduceSub, Bool.not_true, Bool.not_false, List.isEmpty_cons, List.isEmpty_nil, idx_last, fin, wipeE, noOw, List.all_cons, List.all_nil, Bool.and_true, Bool.true_and, Bool.and_self, and_true, true_and, and_self, isE_app, cut_14, cut_1, cut_03, cut_02, eq_self_iff_true, Bool.not_eq_true, decide_true, decide_false, ltI, leI, gtI, geI, big (show (4 : Int) ≤ 1000000000000 by omega), hp2, rk, hl]
  generalize hc : compLoop _ _ _ = c
  obtain ⟨vs, s3, rfl, l3, p3⟩ := comp_ex hc (fun v => ValOk v = true) fun d s => by
    obtain ⟨v, s', e, ok⟩ := r_any (Tt := Tt) (n := n) (s := s)
    simp only [evSs, evS, evE, evEs, evO, evAs, evT, evTs, evTo, evIt, bind_one, bind_many, binds_nil, binds_cons, Option.bind_some, Option.bind_none, Option.map_some, Option.map_none, List.getElem?_cons_zero, List.getElem?_cons_succ, List.set_cons_zero, List.set_cons_succ, List.length_cons, List.length_nil, List.replicate_succ, List.replicate_zero, List.cons_append, List.nil_append, Nat.lt_irrefl, if_true, if_false, lim_0, lim_1, lim_2, lim_3, lim_4, lim_5, lim_6, lim_7, lim_8, idx_t0, idx_t1, idx_t2, idx_t3, idx_t4, idx_l0, seqItems, Op2.F, Cm.F, Cm.T, B1.F, B2.F, tup_l, tup_t, lst_t, lst_l, len_t, len_l, truth_t, truth_l, truth_b, truth_i, truth_n, negF, addI, subI, List.append_assoc, ite_self, Bool.false_eq_true, reduceIte, sub_n, Nat.zero_add, Nat.reduceAdd, Nat.reduceLT, Nat.reduceLeDiff, Nat.reduceSub, Bool.not_true, Bool.not_false, List.isEmpty_cons, List.isEmpty_nil, idx_last, fin, wipeE, noOw, List.all_cons, List.all_nil, Bool.and_true, Bool.true_and, Bool.and_self, and_true, true_and, and_self, isE_app, cut_14, cut_1, cut_03, cut_02, eq_self_iff_true, Bool.not_eq_true, decide_true, decide_false, ltI, leI, gtI, geI, e]
    exact ⟨_, _, rfl, ok⟩
  rcases hp4 : pickF s3 7 with ⟨a, s4⟩
  have hb4 := pick_bounds s3 7 (by omega)
  rw [hp4] at hb4
  rcases hp5 : pickF s4 3 with ⟨i, s5⟩
  have hb5 := pick_bounds s4 3 (by omega)
  rw [hp5] at hb5
  obtain ⟨h6, h7⟩ := hb5
  obtain ⟨h8, h9⟩ := hb4
  dsimp only at h6 h7 h8 h9
  simp only [evSs, evS, evE, evEs, evO, evAs, evT, evTs, evTo, evIt, bind_one, bind_many, binds_nil, binds_cons, Option.bind_some, Option.bind_none, Option.map_some, Option.map_none, List.getElem?_cons_zero, List.getElem?_cons_succ, List.set_cons_zero, List.set_cons_succ, List.length_cons, List.length_nil, List.replicate_succ, List.replicate_zero, List.cons_append, List.nil_append, Nat.lt_irrefl, if_true, if_false, lim_0, lim_1, lim_2, lim_3, lim_4, lim_5, lim_6, lim_7, lim_8, idx_t0, idx_t1, idx_t2, idx_t3, idx_t4, idx_l0, seqItems, Op2.F, Cm.F, Cm.T, B1.F, B2.F, tup_l, tup_t, lst_t, lst_l, len_t, len_l, truth_t, truth_l, truth_b, truth_i, truth_n, negF, addI, subI, List.append_assoc, ite_self, Bool.false_eq_true, reduceIte, sub_n, Nat.zero_add, Nat.reduceAdd, Nat.reduceLT, Nat.reduceLeDiff, Nat.reduceSub, Bool.not_true, Bool.not_false, List.isEmpty_cons, List.isEmpty_nil, idx_last, fin, wipeE, noOw, List.all_cons, List.all_nil, Bool.and_true, Bool.true_and, Bool.and_self, and_true, true_and, and_self, isE_app, cut_14, cut_1, cut_03, cut_02, eq_self_iff_true, Bool.not_eq_true, decide_true, decide_false, ltI, leI, gtI, geI, Int.reduceAdd, Int.reduceSub, big (show (7 : Int) ≤ 1000000000000 by omega), big (show (3 : Int) ≤ 1000000000000 by omega), hp4, hp5]
  have hv : vs.all ValOk = true := List.all_eq_true.mpr p3
  have h : i = 0 ∨ i = 1 ∨ i = 2 := by omega
  rcases h with rfl | rfl | rfl
  · simp only [evSs, evS, evE, evEs, evO, evAs, evT, evTs, evTo, evIt, bind_one, bind_many, binds_nil, binds_cons, Option.bind_some, Option.bind_none, Option.map_some, Option.map_none, List.getElem?_cons_zero, List.getElem?_cons_succ, List.set_cons_zero, List.set_cons_succ, List.length_cons, List.length_nil, List.replicate_succ, List.replicate_zero, List.cons_append, List.nil_append, Nat.lt_irrefl, if_true, if_false, lim_0, lim_1, lim_2, lim_3, lim_4, lim_5, lim_6, lim_7, lim_8, idx_t0, idx_t1, idx_t2, idx_t3, idx_t4, idx_l0, seqItems, Op2.F, Cm.F, Cm.T, B1.F, B2.F, tup_l, tup_t, lst_t, lst_l, len_t, len_l, truth_t, truth_l, truth_b, truth_i, truth_n, negF, addI, subI, List.append_assoc, ite_self, Bool.false_eq_true, reduceIte, sub_n, Nat.zero_add, Nat.reduceAdd, Nat.reduceLT, Nat.reduceLeDiff, Nat.reduceSub, Bool.not_true, Bool.not_false, List.isEmpty_cons, List.isEmpty_nil, idx_last, fin, wipeE, noOw, List.all_cons, List.all_nil, Bool.and_true, Bool.true_and, Bool.and_self, and_true, true_and, and_self, isE_app, cut_14, cut_1, cut_03, cut_02, eq_self_iff_true, Bool.not_eq_true, decide_true, decide_false, ltI, leI, gtI, geI]
    exact ⟨_, _, rfl, _, _, _, rfl, by omega, hv⟩
  · simp only [evSs, evS, evE, evEs, evO, evAs, evT, evTs, evTo, evIt, bind_one, bind_many, binds_nil, binds_cons, Option.bind_some, Option.bind_none, Option.map_some, Option.map_none, List.getElem?_cons_zero, List.getElem?_cons_succ, List.set_cons_zero, List.set_cons_succ, List.length_cons, List.length_nil, List.replicate_succ, List.replicate_zero, List.cons_append, List.nil_append, Nat.lt_irrefl, if_true, if_false, lim_0, lim_1, lim_2, lim_3, lim_4, lim_5, lim_6, lim_7, lim_8, idx_t0, idx_t1, idx_t2, idx_t3, idx_t4, idx_l0, seqItems, Op2.F, Cm.F, Cm.T, B1.F, B2.F, tup_l, tup_t, lst_t, lst_l, len_t, len_l, truth_t, truth_l, truth_b, truth_i, truth_n, negF, addI, subI, List.append_assoc, ite_self, Bool.false_eq_true, reduceIte, sub_n, Nat.zero_add, Nat.reduceAdd, Nat.reduceLT, Nat.reduceLeDiff, Nat.reduceSub, Bool.not_true, Bool.not_false, List.isEmpty_cons, List.isEmpty_nil, idx_last, fin, wipeE, noOw, List.all_cons, List.all_nil, Bool.and_true, Bool.true_and, Bool.and_self, and_true, true_and, and_self, isE_app, cut_14, cut_1, cut_03, cut_02, eq_self_iff_true, Bool.not_eq_true, decide_true, decide_false, ltI, leI, gtI, geI, idx_l1]
    exact ⟨_, _, rfl, _, _, _, rfl, by omega, hv⟩
  · simp only [evSs, evS, evE, evEs, evO, evAs, evT, evTs, evTo, evIt, bind_one, bind_many, binds_nil, binds_cons, Option.bind_some, Option.bind_none, Option.map_some, Option.map_none, List.getElem?_cons_zero, List.getElem?_cons_succ, List.set_cons_zero, List.set_cons_succ, List.length_cons, List.length_nil, List.replicate_succ, List.replicate_zero, List.cons_append, List.nil_append, Nat.lt_irrefl, if_true, if_false, lim_0, lim_1, lim_2, lim_3, lim_4, lim_5, lim_6, lim_7, lim_8, idx_t0, idx_t1, idx_t2, idx_t3, idx_t4, idx_l0, seqItems, Op2.F, Cm.F, Cm.T, B1.F, B2.F, tup_l, tup_t, lst_t, lst_l, len_t, len_l, truth_t, truth_l, truth_b, truth_i, truth_n, negF, addI, subI, List.append_assoc, ite_self, Bool.false_eq_true, reduceIte, sub_n, Nat.zero_add, Nat.reduceAdd, Nat.reduceLT, Nat.reduceLeDiff, Nat.reduceSub, Bool.not_true, Bool.not_false, List.isEmpty_cons, List.isEmpty_nil, idx_last, fin, wipeE, noOw, List.all_cons, List.all_nil, Bool.and_true, Bool.true_and, Bool.and_self, and_true, true_and, and_self, isE_app, cut_14, cut_1, cut_03, cut_02, eq_self_iff_true, Bool.not_eq_true, decide_true, decide_false, ltI, leI, gtI, geI, idx_l2]
    exact ⟨_, _, rfl, _, _, _, rfl, by omega, hv⟩
end K77
end DL
end
section
set_option Elab.async false
set_option linter.all false
set_option maxRecDepth 100000
set_option maxHeartbeats 2000000
/-! KP6: the holders. -/
namespace DL
open PySem PySem.Spec PyProof.Rows L2
namespace K77
variable {Tt : Tb} {n : Nat} {s : Src}
theorem for_inv {α : Type} {f : D → Env' → Src → Rs} {m : α → D} {l : List α} {env : Env'} {c : Rs} (e : forLoop f (l.map m) env s = c) (Iv : List α → Env' → Prop) (h0 : Iv l env)
    (h : ∀ a l env s, Iv (a :: l) env → ∃ env' s', f (m a) env s = some ((.next, env'), s') ∧ Iv l env') : ∃ env' s', c = some ((.next, env'), s') ∧ Iv [] env' := by
  subst e
  induction l generalizing s env with
  | nil => exact ⟨env, s, rfl, h0⟩
  | cons a l ih =>
    obtain ⟨e1, s1, q1, i1⟩ := h a l env s h0
    obtain ⟨e2, s2, q2, i2⟩ := ih (s := s1) i1
    refine ⟨e2, s2, ?_, i2⟩
    rw [List.map_cons]
    unfold forLoop
    rw [q1]
    exact q2
abbrev Lo := Tk × List D
def hdOf (e k : Int) (p : Lo) : Hd := ⟨e, k, p.1, p.2⟩
def partsD (rows : List D) : D := .tuple [.tuple [.int 0, .int (1 + (rows.length : Int)), .int 9]]
def toldH (e k : Int) (p : Lo) : List D := if p.1.1 then [.tuple []] else [partsD p.2, .tuple []]
def toldD (e k : Int) (p : Lo) : D := .tuple [.tuple (toldH e k p ++ [(hdOf e k p).letter]), if p.1.1 then .tuple [] else partsD p.2, (hdOf e k p).letter]
def tellD (e k : Int) (p : Lo) : D := .tuple [tkD p.1, .tuple p.2, toldD e k p]
def LoOk (p : Lo) : Prop := p.2.length ≤ 3 ∧ ∀ r ∈ p.2, RowOk r
theorem fold_snk {rs : List D} {st : List D × Slot} : (rs.foldl (fun st r => (st.1 ++ [r], .sh r)) st).1 = st.1 ++ rs := by
  induction rs generalizing st with
  | nil => simp
  | cons r rs ih => rw [List.foldl_cons, ih]; simp
theorem fold_src {rs : List D} {st : Int × List D × Slot} : (rs.foldl (fun st r => (st.1 + 1, st.2.1 ++ [r], .sh r)) st).1 = st.1 + rs.length ∧ (rs.foldl (fun st r => (st.1 + 1, st.2.1 ++ [r], .sh r)) st).2.1 = st.2.1 ++ rs := by
  induction rs generalizing st with
  | nil => simp
  | cons r rs ih => rw [List.foldl_cons, ih.1, ih.2]; refine ⟨?_, by simp⟩; simp only [List.length_cons]; omega
theorem r_holders {e k : Int} {ts : List Tk} (hts : ts.length ≤ 100) : ∃ (ps : List Lo) (s' : Src), run fns Tt (n + 3) 21 [.sr, .sh (.int e), .sh (.int k), .sh (.tuple (ts.map tkD))] s = some (.list (ps.map (tellD e k)), s') ∧ ps.map (·.1) = ts ∧ ∀ p ∈ ps, LoOk p := by
  rw [run_eq (fn := d_l_holders.f) rfl rfl (by decide)]
  show ∃ (ps : List Lo) (s' : Src), (evSs _ b_l_holders [.sr, .sh (.int e), .sh (.int k), .sh (.tuple (ts.map tkD)), .no, .no, .no, .no, .no, .no, .no] s).bind fin = _ ∧ _
  unfold b_l_holders
  simp only [evSs, evS, evE, evEs, evO, evAs, evT, evTs, evTo, evIt, bind_one, bind_many, binds_nil, binds_cons, Option.bind_some, Option.bind_none, Option.map_some, Option.map_none, List.getElem?_cons_zero, List.getElem?_cons_succ, List.set_cons_zero, List.set_cons_succ, List.length_cons, List.length_nil, List.replicate_succ, List.replicate_zero, List.cons_append, List.nil_append, Nat.lt_irrefl, if_true, if_false, lim_0, lim_1, lim_2, lim_3, lim_4, lim_5, lim_6, lim_7, lim_8, idx_t0, idx_t1, idx_t2, idx_t3, idx_t4, idx_l0, seqItems, Op2.F, Cm.F, Cm.T, B1.F, B2.F, tup_l, tup_t, lst_t, lst_l, len_t, len_l, truth_t, truth_l, truth_b, truth_i, truth_n, negF, addI, subI, List.append_assoc, ite_self, Bool.false_eq_true, reduceIte, sub_n, Nat.zero_add, Nat.reduceAdd, Nat.reduceLT, Nat.reduceLeDiff, Nat.reduceSub, Bool.not_true, Bool.not_false, List.isEmpty_cons, List.isEmpty_nil, idx_last, fin, wipeE, noOw, List.all_cons, List.all_nil, Bool.and_true, Bool.true_and, Bool.and_self, and_true, true_and, and_self, isE_app, cut_14, cut_1, cut_03, cut_02, eq_self_iff_true, Bool.not_eq_true, decide_true, decide_false, ltI, leI, gtI, geI, setKs, mutD]
  generalize hc : forLoop _ _ _ _ = c
  obtain ⟨env', s', rfl, iv⟩ := for_inv hc (fun l env => ∃ (ps : List Lo) (x5 x6 x7 x8 x9 x10 : Slot), env = [.sr, .sh (.int e), .sh (.int k), .sh (.tuple (ts.map tkD)), .ow (.list (ps.map (tellD e k))), x5, x6, x7, x8, x9, .no] ∧ x10 = Slot.no ∧ ps.map (·.1) ++ l = ts ∧ ∀ p ∈ ps, LoOk p)
    ⟨[], .no, .no, .no, .no, .no, .no, rfl, rfl, rfl, fun p hp => nomatch hp⟩ fun t l env s iv => by
      obtain ⟨ps, x5, x6, x7, x8, x9, x10, rfl, -, hts', hps⟩ := iv
      have hlen : ps.length < lim := by
        have := congrArg List.length hts'
        rw [List.length_append, List.length_map, List.length_cons] at this
        exact Nat.lt_of_lt_of_le (show ps.length < 101 by omega) (by decide)
      rcases hp2 : pickF s 4 with ⟨j, s2⟩
      have hb2 := pick_bounds s 4 (by omega)
      rw [hp2] at hb2
      obtain ⟨h2, h3⟩ := hb2
      dsimp only at h2 h3
      have rk := range_ok h2 (by omega)
      have rl := range_len (j := j)
      have hl : (rangeItems 0 j).length ≤ lim := by rw [rl]; exact Nat.le_trans (show j.toNat ≤ 100 by omega) (by decide)
      have hl2 : (List.map (tellD e k) ps).length < lim := by rw [List.length_map]; exact hlen
      have t0 : idxF (tkD t) (.int 0) = some (.str (tkS t.1)) := idx_t0
      have t1 : eqB (.str (tkS t.1)) (.str "out") = some t.1 := by
        have := tkS_eq t.1 true
        rw [show t.1 = decide (t.1 = true) by simp]
        simpa [tkS] using this
      simp only [evSs, evS, evE, evEs, evO, evAs, evT, evTs, evTo, evIt, bind_one, bind_many, binds_nil, binds_cons, Option.bind_some, Option.bind_none, Option.map_some, Option.map_none, List.getElem?_cons_zero, List.getElem?_cons_succ, List.set_cons_zero, List.set_cons_succ, List.length_cons, List.length_nil, List.replicate_succ, List.replicate_zero, List.cons_append, List.nil_append, Nat.lt_irrefl, if_true, if_false, lim_0, lim_1, lim_2, lim_3, lim_4, lim_5, lim_6, lim_7, lim_8, idx_t0, idx_t1, idx_t2, idx_t3, idx_t4, idx_l0, seqItems, Op2.F, Cm.F, Cm.T, B1.F, B2.F, tup_l, tup_t, lst_t, lst_l, len_t, len_l, truth_t, truth_l, truth_b, truth_i, truth_n, negF, addI, subI, List.append_assoc, ite_self, Bool.false_eq_true, reduceIte, sub_n, Nat.zero_add, Nat.reduceAdd, Nat.reduceLT, Nat.reduceLeDiff, Nat.reduceSub, Bool.not_true, Bool.not_false, List.isEmpty_cons, List.isEmpty_nil, idx_last, fin, wipeE, noOw, List.all_cons, List.all_nil, Bool.and_true, Bool.true_and, Bool.and_self, and_true, true_and, and_self, isE_app, cut_14, cut_1, cut_03, cut_02, eq_self_iff_true, Bool.not_eq_true, decide_true, decide_false, ltI, leI, gtI, geI, big (show (4 : Int) ≤ 1000000000000 by omega), hp2, rk, hl]
      generalize hc : compLoop _ _ _ = c
      obtain ⟨rs, s3, rfl, l3, p3⟩ := comp_ex hc RowOk fun d s => by
        obtain ⟨v, s', e, ok⟩ := r_draw (Tt := Tt) (n := n) (s := s)
        simp only [evSs, evS, evE, evEs, evO, evAs, evT, evTs, evTo, evIt, bind_one, bind_many, binds_nil, binds_cons, Option.bind_some, Option.bind_none, Option.map_some, Option.map_none, List.getElem?_cons_zero, List.getElem?_cons_succ, List.set_cons_zero, List.set_cons_succ, List.length_cons, List.length_nil, List.replicate_succ, List.replicate_zero, List.cons_append, List.nil_append, Nat.lt_irrefl, if_true, if_false, lim_0, lim_1, lim_2, lim_3, lim_4, lim_5, lim_6, lim_7, lim_8, idx_t0, idx_t1, idx_t2, idx_t3, idx_t4, idx_l0, seqItems, Op2.F, Cm.F, Cm.T, B1.F, B2.F, tup_l, tup_t, lst_t, lst_l, len_t, len_l, truth_t, truth_l, truth_b, truth_i, truth_n, negF, addI, subI, List.append_assoc, ite_self, Bool.false_eq_true, reduceIte, sub_n, Nat.zero_add, Nat.reduceAdd, Nat.reduceLT, Nat.reduceLeDiff, Nat.reduceSub, Bool.not_true, Bool.not_false, List.isEmpty_cons, List.isEmpty_nil, idx_last, fin, wipeE, noOw, List.all_cons, List.all_nil, Bool.and_true, Bool.true_and, Bool.and_self, and_true, true_and, and_self, isE_app, cut_14, cut_1, cut_03, cut_02, eq_self_iff_true, Bool.not_eq_true, decide_true, decide_false, ltI, leI, gtI, geI, e]
        exact ⟨_, _, rfl, ok⟩
      rw [rl] at l3
      have hrs : rs.length < 100 := by omega
      simp only [evSs, evS, evE, evEs, evO, evAs, evT, evTs, evTo, evIt, bind_one, bind_many, binds_nil, binds_cons, Option.bind_some, Option.bind_none, Option.map_some, Option.map_none, List.getElem?_cons_zero, List.getElem?_cons_succ, List.set_cons_zero, List.set_cons_succ, List.length_cons, List.length_nil, List.replicate_succ, List.replicate_zero, List.cons_append, List.nil_append, Nat.lt_irrefl, if_true, if_false, lim_0, lim_1, lim_2, lim_3, lim_4, lim_5, lim_6, lim_7, lim_8, idx_t0, idx_t1, idx_t2, idx_t3, idx_t4, idx_l0, seqItems, Op2.F, Cm.F, Cm.T, B1.F, B2.F, tup_l, tup_t, lst_t, lst_l, len_t, len_l, truth_t, truth_l, truth_b, truth_i, truth_n, negF, addI, subI, List.append_assoc, ite_self, Bool.false_eq_true, reduceIte, sub_n, Nat.zero_add, Nat.reduceAdd, Nat.reduceLT, Nat.reduceLeDiff, Nat.reduceSub, Bool.not_true, Bool.not_false, List.isEmpty_cons, List.isEmpty_nil, idx_last, fin, wipeE, noOw, List.all_cons, List.all_nil, Bool.and_true, Bool.true_and, Bool.and_self, and_true, true_and, and_self, isE_app, cut_14, cut_1, cut_03, cut_02, eq_self_iff_true, Bool.not_eq_true, decide_true, decide_false, ltI, leI, gtI, geI, t0, t1]
      have fs := r_fsink (Tt := Tt) (n := n + 1) (s := s3)
      have fr := r_fsrc (Tt := Tt) (n := n + 1) (s := s3)
      have mk := r_mark (Tt := Tt) (n := n) (s := s3)
      cases ht : t.1 with
      | true =>
        have asn := r_atsink (Tt := Tt) (n := n + 1) (s := s3) (rows := rs) (e := e) (k := k) (t := t)
        simp only [evSs, evS, evE, evEs, evO, evAs, evT, evTs, evTo, evIt, bind_one, bind_many, binds_nil, binds_cons, Option.bind_some, Option.bind_none, Option.map_some, Option.map_none, List.getElem?_cons_zero, List.getElem?_cons_succ, List.set_cons_zero, List.set_cons_succ, List.length_cons, List.length_nil, List.replicate_succ, List.replicate_zero, List.cons_append, List.nil_append, Nat.lt_irrefl, if_true, if_false, lim_0, lim_1, lim_2, lim_3, lim_4, lim_5, lim_6, lim_7, lim_8, idx_t0, idx_t1, idx_t2, idx_t3, idx_t4, idx_l0, seqItems, Op2.F, Cm.F, Cm.T, B1.F, B2.F, tup_l, tup_t, lst_t, lst_l, len_t, len_l, truth_t, truth_l, truth_b, truth_i, truth_n, negF, addI, subI, List.append_assoc, ite_self, Bool.false_eq_true, reduceIte, sub_n, Nat.zero_add, Nat.reduceAdd, Nat.reduceLT, Nat.reduceLeDiff, Nat.reduceSub, Bool.not_true, Bool.not_false, List.isEmpty_cons, List.isEmpty_nil, idx_last, fin, wipeE, noOw, List.all_cons, List.all_nil, Bool.and_true, Bool.true_and, Bool.and_self, and_true, true_and, and_self, isE_app, cut_14, cut_1, cut_03, cut_02, eq_self_iff_true, Bool.not_eq_true, decide_true, decide_false, ltI, leI, gtI, geI, fs]
        rw [for_items (E := fun st : List D × Slot => [.sr, .sh (.int e), .sh (.int k), .sh (.tuple (ts.map tkD)), .ow (.list (ps.map (tellD e k))), .sh (tkD t), .sh (.tuple rs), .sh (snkD st.1), st.2, x9, .no]) (g := fun st r => (st.1 ++ [r], .sh r)) (st := ([], x8))
          (Q := fun l st => st.1.length + l.length < lim) (fun r l st hq => by
            rw [List.length_cons] at hq
            have pu := r_put (Tt := Tt) (n := n + 1) (s := s3) (rows := st.1) (r := r) (by omega)
            refine ⟨?_, by show (st.1 ++ [r]).length + _ < _; rw [List.length_append, List.length_singleton]; omega⟩
            simp only [evSs, evS, evE, evEs, evO, evAs, evT, evTs, evTo, evIt, bind_one, bind_many, binds_nil, binds_cons, Option.bind_some, Option.bind_none, Option.map_some, Option.map_none, List.getElem?_cons_zero, List.getElem?_cons_succ, List.set_cons_zero, List.set_cons_succ, List.length_cons, List.length_nil, List.replicate_succ, List.replicate_zero, List.cons_append, List.nil_append, Nat.lt_irrefl, if_true, if_false, lim_0, lim_1, lim_2, lim_3, lim_4, lim_5, lim_6, lim_7, lim_8, idx_t0, idx_t1, idx_t2, idx_t3, idx_t4, idx_l0, seqItems, Op2.F, Cm.F, Cm.T, B1.F, B2.F, tup_l, tup_t, lst_t, lst_l, len_t, len_l, truth_t, truth_l, truth_b, truth_i, truth_n, negF, addI, subI, List.append_assoc, ite_self, Bool.false_eq_true, reduceIte, sub_n, Nat.zero_add, Nat.reduceAdd, Nat.reduceLT, Nat.reduceLeDiff, Nat.reduceSub, Bool.not_true, Bool.not_false, List.isEmpty_cons, List.isEmpty_nil, idx_last, fin, wipeE, noOw, List.all_cons, List.all_nil, Bool.and_true, Bool.true_and, Bool.and_self, and_true, true_and, and_self, isE_app, cut_14, cut_1, cut_03, cut_02, eq_self_iff_true, Bool.not_eq_true, decide_true, decide_false, ltI, leI, gtI, geI, pu]) (by show 0 + rs.length < lim; exact Nat.lt_of_lt_of_le (show 0 + rs.length < 100 by omega) (by decide))]
        simp only [evSs, evS, evE, evEs, evO, evAs, evT, evTs, evTo, evIt, bind_one, bind_many, binds_nil, binds_cons, Option.bind_some, Option.bind_none, Option.map_some, Option.map_none, List.getElem?_cons_zero, List.getElem?_cons_succ, List.set_cons_zero, List.set_cons_succ, List.length_cons, List.length_nil, List.replicate_succ, List.replicate_zero, List.cons_append, List.nil_append, Nat.lt_irrefl, if_true, if_false, lim_0, lim_1, lim_2, lim_3, lim_4, lim_5, lim_6, lim_7, lim_8, idx_t0, idx_t1, idx_t2, idx_t3, idx_t4, idx_l0, seqItems, Op2.F, Cm.F, Cm.T, B1.F, B2.F, tup_l, tup_t, lst_t, lst_l, len_t, len_l, truth_t, truth_l, truth_b, truth_i, truth_n, negF, addI, subI, List.append_assoc, ite_self, Bool.false_eq_true, reduceIte, sub_n, Nat.zero_add, Nat.reduceAdd, Nat.reduceLT, Nat.reduceLeDiff, Nat.reduceSub, Bool.not_true, Bool.not_false, List.isEmpty_cons, List.isEmpty_nil, idx_last, fin, wipeE, noOw, List.all_cons, List.all_nil, Bool.and_true, Bool.true_and, Bool.and_self, and_true, true_and, and_self, isE_app, cut_14, cut_1, cut_03, cut_02, eq_self_iff_true, Bool.not_eq_true, decide_true, decide_false, ltI, leI, gtI, geI]
        rw [fold_snk, List.nil_append]
        simp only [evSs, evS, evE, evEs, evO, evAs, evT, evTs, evTo, evIt, bind_one, bind_many, binds_nil, binds_cons, Option.bind_some, Option.bind_none, Option.map_some, Option.map_none, List.getElem?_cons_zero, List.getElem?_cons_succ, List.set_cons_zero, List.set_cons_succ, List.length_cons, List.length_nil, List.replicate_succ, List.replicate_zero, List.cons_append, List.nil_append, Nat.lt_irrefl, if_true, if_false, lim_0, lim_1, lim_2, lim_3, lim_4, lim_5, lim_6, lim_7, lim_8, idx_t0, idx_t1, idx_t2, idx_t3, idx_t4, idx_l0, seqItems, Op2.F, Cm.F, Cm.T, B1.F, B2.F, tup_l, tup_t, lst_t, lst_l, len_t, len_l, truth_t, truth_l, truth_b, truth_i, truth_n, negF, addI, subI, List.append_assoc, ite_self, Bool.false_eq_true, reduceIte, sub_n, Nat.zero_add, Nat.reduceAdd, Nat.reduceLT, Nat.reduceLeDiff, Nat.reduceSub, Bool.not_true, Bool.not_false, List.isEmpty_cons, List.isEmpty_nil, idx_last, fin, wipeE, noOw, List.all_cons, List.all_nil, Bool.and_true, Bool.true_and, Bool.and_self, and_true, true_and, and_self, isE_app, cut_14, cut_1, cut_03, cut_02, eq_self_iff_true, Bool.not_eq_true, decide_true, decide_false, ltI, leI, gtI, geI, asn, hl2]
        have hm : ps.map (tellD e k) ++ [.tuple [tkD t, .tuple rs, .tuple [.tuple [.tuple [], Hd.letter ⟨e, k, t, rs⟩], .tuple [], Hd.letter ⟨e, k, t, rs⟩]]] = (ps ++ [(t, rs)]).map (tellD e k) := by
          simp only [List.map_append, List.map_cons, List.map_nil, tellD, toldD, toldH, hdOf, ht, if_true]
          rfl
        rw [hm]
        refine ⟨_, _, rfl, ps ++ [(t, rs)], _, _, _, _, _, .no, rfl, rfl, ?_, ?_⟩
        · simpa using hts'
        · intro p hp
          rcases List.mem_append.mp hp with hp | hp
          · exact hps p hp
          · rw [List.mem_singleton] at hp; subst hp; exact ⟨by show rs.length ≤ 3; omega, p3⟩
      | false =>
        have asn := r_atsrc (Tt := Tt) (n := n + 1) (s := s3) (p := 1 + rs.length) (late := rs) (e := e) (k := k) (t := t)
        simp only [evSs, evS, evE, evEs, evO, evAs, evT, evTs, evTo, evIt, bind_one, bind_many, binds_nil, binds_cons, Option.bind_some, Option.bind_none, Option.map_some, Option.map_none, List.getElem?_cons_zero, List.getElem?_cons_succ, List.set_cons_zero, List.set_cons_succ, List.length_cons, List.length_nil, List.replicate_succ, List.replicate_zero, List.cons_append, List.nil_append, Nat.lt_irrefl, if_true, if_false, lim_0, lim_1, lim_2, lim_3, lim_4, lim_5, lim_6, lim_7, lim_8, idx_t0, idx_t1, idx_t2, idx_t3, idx_t4, idx_l0, seqItems, Op2.F, Cm.F, Cm.T, B1.F, B2.F, tup_l, tup_t, lst_t, lst_l, len_t, len_l, truth_t, truth_l, truth_b, truth_i, truth_n, negF, addI, subI, List.append_assoc, ite_self, Bool.false_eq_true, reduceIte, sub_n, Nat.zero_add, Nat.reduceAdd, Nat.reduceLT, Nat.reduceLeDiff, Nat.reduceSub, Bool.not_true, Bool.not_false, List.isEmpty_cons, List.isEmpty_nil, idx_last, fin, wipeE, noOw, List.all_cons, List.all_nil, Bool.and_true, Bool.true_and, Bool.and_self, and_true, true_and, and_self, isE_app, cut_14, cut_1, cut_03, cut_02, eq_self_iff_true, Bool.not_eq_true, decide_true, decide_false, ltI, leI, gtI, geI, fr, mk]
        rw [for_items (E := fun st : Int × List D × Slot => [.sr, .sh (.int e), .sh (.int k), .sh (.tuple (ts.map tkD)), .ow (.list (ps.map (tellD e k))), .sh (tkD t), .sh (.tuple rs), .sh (srcD st.1 st.2.1), st.2.2, x9, .no]) (g := fun st r => (st.1 + 1, st.2.1 ++ [r], .sh r)) (st := (1, [], x8))
          (Q := fun l st => st.2.1.length + l.length < lim ∧ ∀ r ∈ l, RowOk r) (fun r l st hq => by
            obtain ⟨hq, hr⟩ := hq
            rw [List.length_cons] at hq
            obtain ⟨a, b, vs, rfl, ha, hv⟩ := hr r List.mem_cons_self
            have pu := r_row (Tt := Tt) (n := n) (s := s3) (p := st.1) (late := st.2.1) (a := a) (r := [.int b, .tuple vs]) ha (by omega)
            have ad : addF (.tuple [.str "row"]) (.tuple [.int a, .int b, .tuple vs]) = some (.tuple [.str "row", .int a, .int b, .tuple vs]) := addT (by show 1 + 3 ≤ lim; decide)
            refine ⟨?_, by show (st.2.1 ++ [_]).length + _ < _; rw [List.length_append, List.length_singleton]; omega, fun x hx => hr x (List.mem_cons_of_mem _ hx)⟩
            simp only [evSs, evS, evE, evEs, evO, evAs, evT, evTs, evTo, evIt, bind_one, bind_many, binds_nil, binds_cons, Option.bind_some, Option.bind_none, Option.map_some, Option.map_none, List.getElem?_cons_zero, List.getElem?_cons_succ, List.set_cons_zero, List.set_cons_succ, List.length_cons, List.length_nil, List.replicate_succ, List.replicate_zero, List.cons_append, List.nil_append, Nat.lt_irrefl, if_true, if_false, lim_0, lim_1, lim_2, lim_3, lim_4, lim_5, lim_6, lim_7, lim_8, idx_t0, idx_t1, idx_t2, idx_t3, idx_t4, idx_l0, seqItems, Op2.F, Cm.F, Cm.T, B1.F, B2.F, tup_l, tup_t, lst_t, lst_l, len_t, len_l, truth_t, truth_l, truth_b, truth_i, truth_n, negF, addI, subI, List.append_assoc, ite_self, Bool.false_eq_true, reduceIte, sub_n, Nat.zero_add, Nat.reduceAdd, Nat.reduceLT, Nat.reduceLeDiff, Nat.reduceSub, Bool.not_true, Bool.not_false, List.isEmpty_cons, List.isEmpty_nil, idx_last, fin, wipeE, noOw, List.all_cons, List.all_nil, Bool.and_true, Bool.true_and, Bool.and_self, and_true, true_and, and_self, isE_app, cut_14, cut_1, cut_03, cut_02, eq_self_iff_true, Bool.not_eq_true, decide_true, decide_false, ltI, leI, gtI, geI, ad, pu]) ⟨by show 0 + rs.length < lim; exact Nat.lt_of_lt_of_le (show 0 + rs.length < 100 by omega) (by decide), p3⟩]
        simp only [evSs, evS, evE, evEs, evO, evAs, evT, evTs, evTo, evIt, bind_one, bind_many, binds_nil, binds_cons, Option.bind_some, Option.bind_none, Option.map_some, Option.map_none, List.getElem?_cons_zero, List.getElem?_cons_succ, List.set_cons_zero, List.set_cons_succ, List.length_cons, List.length_nil, List.replicate_succ, List.replicate_zero, List.cons_append, List.nil_append, Nat.lt_irrefl, if_true, if_false, lim_0, lim_1, lim_2, lim_3, lim_4, lim_5, lim_6, lim_7, lim_8, idx_t0, idx_t1, idx_t2, idx_t3, idx_t4, idx_l0, seqItems, Op2.F, Cm.F, Cm.T, B1.F, B2.F, tup_l, tup_t, lst_t, lst_l, len_t, len_l, truth_t, truth_l, truth_b, truth_i, truth_n, negF, addI, subI, List.append_assoc, ite_self, Bool.false_eq_true, reduceIte, sub_n, Nat.zero_add, Nat.reduceAdd, Nat.reduceLT, Nat.reduceLeDiff, Nat.reduceSub, Bool.not_true, Bool.not_false, List.isEmpty_cons, List.isEmpty_nil, idx_last, fin, wipeE, noOw, List.all_cons, List.all_nil, Bool.and_true, Bool.true_and, Bool.and_self, and_true, true_and, and_self, isE_app, cut_14, cut_1, cut_03, cut_02, eq_self_iff_true, Bool.not_eq_true, decide_true, decide_false, ltI, leI, gtI, geI]
        rw [fold_src.1, fold_src.2, List.nil_append]
        simp only [evSs, evS, evE, evEs, evO, evAs, evT, evTs, evTo, evIt, bind_one, bind_many, binds_nil, binds_cons, Option.bind_some, Option.bind_none, Option.map_some, Option.map_none, List.getElem?_cons_zero, List.getElem?_cons_succ, List.set_cons_zero, List.set_cons_succ, List.length_cons, List.length_nil, List.replicate_succ, List.replicate_zero, List.cons_append, List.nil_append, Nat.lt_irrefl, if_true, if_false, lim_0, lim_1, lim_2, lim_3, lim_4, lim_5, lim_6, lim_7, lim_8, idx_t0, idx_t1, idx_t2, idx_t3, idx_t4, idx_l0, seqItems, Op2.F, Cm.F, Cm.T, B1.F, B2.F, tup_l, tup_t, lst_t, lst_l, len_t, len_l, truth_t, truth_l, truth_b, truth_i, truth_n, negF, addI, subI, List.append_assoc, ite_self, Bool.false_eq_true, reduceIte, sub_n, Nat.zero_add, Nat.reduceAdd, Nat.reduceLT, Nat.reduceLeDiff, Nat.reduceSub, Bool.not_true, Bool.not_false, List.isEmpty_cons, List.isEmpty_nil, idx_last, fin, wipeE, noOw, List.all_cons, List.all_nil, Bool.and_true, Bool.true_and, Bool.and_self, and_true, true_and, and_self, isE_app, cut_14, cut_1, cut_03, cut_02, eq_self_iff_true, Bool.not_eq_true, decide_true, decide_false, ltI, leI, gtI, geI, asn, hl2]
        have hm : ps.map (tellD e k) ++ [.tuple [tkD t, .tuple rs, .tuple [.tuple [.tuple [.tuple [.int 0, .int (1 + rs.length), .int 9]], .tuple [], Hd.letter ⟨e, k, t, rs⟩], .tuple [.tuple [.int 0, .int (1 + rs.length), .int 9]], Hd.letter ⟨e, k, t, rs⟩]]] = (ps ++ [(t, rs)]).map (tellD e k) := by
          simp only [List.map_append, List.map_cons, List.map_nil, tellD, toldD, toldH, hdOf, ht, partsD]
          rfl
        rw [hm]
        refine ⟨_, _, rfl, ps ++ [(t, rs)], _, _, _, _, _, .no, rfl, rfl, ?_, ?_⟩
        · simpa using hts'
        · intro p hp
          rcases List.mem_append.mp hp with hp | hp
          · exact hps p hp
          · rw [List.mem_singleton] at hp; subst hp; exact ⟨by show rs.length ≤ 3; omega, p3⟩
  obtain ⟨ps, x5, x6, x7, x8, x9, x10, rfl, -, hts', hps⟩ := iv
  rw [List.append_nil] at hts'
  simp only [evSs, evS, evE, evEs, evO, evAs, evT, evTs, evTo, evIt, bind_one, bind_many, binds_nil, binds_cons, Option.bind_some, Option.bind_none, Option.map_some, Option.map_none, List.getElem?_cons_zero, List.getElem?_cons_succ, List.set_cons_zero, List.set_cons_succ, List.length_cons, List.length_nil, List.replicate_succ, List.replicate_zero, List.cons_append, List.nil_append, Nat.lt_irrefl, if_true, if_false, lim_0, lim_1, lim_2, lim_3, lim_4, lim_5, lim_6, lim_7, lim_8, idx_t0, idx_t1, idx_t2, idx_t3, idx_t4, idx_l0, seqItems, Op2.F, Cm.F, Cm.T, B1.F, B2.F, tup_l, tup_t, lst_t, lst_l, len_t, len_l, truth_t, truth_l, truth_b, truth_i, truth_n, negF, addI, subI, List.append_assoc, ite_self, Bool.false_eq_true, reduceIte, sub_n, Nat.zero_add, Nat.reduceAdd, Nat.reduceLT, Nat.reduceLeDiff, Nat.reduceSub, Bool.not_true, Bool.not_false, List.isEmpty_cons, List.isEmpty_nil, idx_last, fin, wipeE, noOw, List.all_cons, List.all_nil, Bool.and_true, Bool.true_and, Bool.and_self, and_true, true_and, and_self, isE_app, cut_14, cut_1, cut_03, cut_02, eq_self_iff_true, Bool.not_eq_true, decide_true, decide_false, ltI, leI, gtI, geI]
  exact ⟨ps, _, rfl, hts', hps⟩
end K77
end DL
end
section
set_option Elab.async false
set_option linter.all false
set_option maxRecDepth 100000
set_option maxHeartbeats 2000000
/-! KP7: what is not done; what comes early; shapes. -/
namespace DL
open PySem PySem.Spec PyProof.Rows L2
namespace K77
variable {Tt : Tb} {n : Nat} {s : Src}
theorem ks_shaped (ks : List Int) : SeqAt.shaped (.list (ks.map PyData.int)) = true := by
  have h : PyData.canLayAll0 (ks.map PyData.int) = true ∧ PyData.depthAll (ks.map PyData.int) = 0 := by
    induction ks with
    | nil => exact ⟨rfl, by simp [PyData.depthAll]⟩
    | cons a l ih => exact ⟨by simp [PyData.canLayAll0, PyData.canLay0, ih.1], by simp [PyData.depthAll, PyData.depth, ih.2]⟩
  unfold SeqAt.shaped
  have h1 : (PyData.list (ks.map PyData.int)).canLay0 = true := by rw [PyData.canLay0]; exact h.1
  have h2 : (PyData.list (ks.map PyData.int)).depth ≤ 64 := by rw [PyData.depth]; have := h.2; omega
  rw [h1, Bool.true_and]
  exact decide_eq_true h2
theorem in_ks (ks : List Int) (k : Int) : inB (.int k) (.list (ks.map PyData.int)) = some (decide (k ∈ ks)) := by
  show (if (SeqAt.shaped (PyData.int k) && SeqAt.shaped (.list (ks.map PyData.int))) = true then _ else none) = _
  rw [show SeqAt.shaped (PyData.int k) = true by simp [SeqAt.shaped, PyData.canLay0, PyData.depth], ks_shaped, Bool.and_self, if_pos rfl, List.any_map]
  congr 1
  rw [Bool.eq_iff_iff, List.any_eq_true]
  simp only [Function.comp, PyData.eqv, decide_eq_true_eq]
  exact ⟨fun ⟨x, h1, h2⟩ => by simp at h2; exact h2 ▸ h1, fun h => ⟨k, h, by simp⟩⟩
def fresh : Ou := ⟨0, [], []⟩
theorem ok_fresh : OkO 0 fresh := ⟨Nat.le_refl _, Nat.le_refl _, fun h hh => nomatch hh⟩
theorem r_notdone {ls : List Lt} (hl : ∀ l ∈ ls, OkL l) (hB : ls.length < lim) (hd : ∀ l ∈ ls, ∀ e k ts, l = .com e k ts → k ∈ (hearAll fresh ls).1.cs.map (·.1)) : run fns Tt (n + 5) 9 [.sh (.list (ls.map Lt.D))] s = some (.tuple [], s) := by
  rw [run_eq (fn := d_not_done.f) rfl rfl (by decide)]
  show (evSs _ b_not_done [.sh (.list (ls.map Lt.D)), .no, .no, .no, .no] s).bind fin = _
  have r0 := r_fresh (Tt := Tt) (n := n + 3) (s := s)
  have r := r_hearAll (Tt := Tt) (n := n) (s := s) ok_fresh hl (by omega)
  have hk := (hearAll_ok ok_fresh hl).1.cs
  have hk2 : ((hearAll fresh ls).1.cs.map cmD).length ≤ lim := by rw [List.length_map]; omega
  have hl2 : (ls.map Lt.D).length ≤ lim := by rw [List.length_map]; omega
  unfold Ou.D fresh outD at r
  unfold outD at r0
  unfold fresh at hd hk hk2
  generalize (hearAll ⟨0, [], []⟩ ls).1 = o at r hd hk hk2
  have z1 : eqB (.str "hold") (.str "commit") = some false := by rw [str_eq (by decide +kernel) (by decide +kernel)]; decide +kernel
  have z3 : eqB (.str "commit") (.str "commit") = some true := by rw [str_eq (by decide +kernel) (by decide +kernel)]; decide +kernel
  have z4 : eqB (.str "drop") (.str "commit") = some false := by rw [str_eq (by decide +kernel) (by decide +kernel)]; decide +kernel
  unfold b_not_done
  simp only [evSs, evS, evE, evEs, evO, evAs, evT, evTs, evTo, evIt, bind_one, bind_many, binds_nil, binds_cons, Option.bind_some, Option.bind_none, Option.map_some, Option.map_none, List.getElem?_cons_zero, List.getElem?_cons_succ, List.set_cons_zero, List.set_cons_succ, List.length_cons, List.length_nil, List.replicate_succ, List.replicate_zero, List.cons_append, List.nil_append, Nat.lt_irrefl, if_true, if_false, lim_0, lim_1, lim_2, lim_3, lim_4, lim_5, lim_6, lim_7, lim_8, idx_t0, idx_t1, idx_t2, idx_t3, idx_t4, idx_l0, seqItems, Op2.F, Cm.F, Cm.T, B1.F, B2.F, tup_l, tup_t, lst_t, lst_l, len_t, len_l, truth_t, truth_l, truth_b, truth_i, truth_n, negF, addI, subI, List.append_assoc, ite_self, Bool.false_eq_true, reduceIte, sub_n, Nat.zero_add, Nat.reduceAdd, Nat.reduceLT, Nat.reduceLeDiff, Nat.reduceSub, Bool.not_true, Bool.not_false, List.isEmpty_cons, List.isEmpty_nil, idx_last, fin, wipeE, noOw, List.all_cons, List.all_nil, Bool.and_true, Bool.true_and, Bool.and_self, and_true, true_and, and_self, isE_app, cut_14, cut_1, cut_03, cut_02, eq_self_iff_true, Bool.not_eq_true, decide_true, decide_false, ltI, leI, gtI, geI, r0, r, hk2]
  rw [comp_map (g := fun c : Cm' => some (.int c.1)) (fun c _ s => by simp only [cmD, evSs, evS, evE, evEs, evO, evAs, evT, evTs, evTo, evIt, bind_one, bind_many, binds_nil, binds_cons, Option.bind_some, Option.bind_none, Option.map_some, Option.map_none, List.getElem?_cons_zero, List.getElem?_cons_succ, List.set_cons_zero, List.set_cons_succ, List.length_cons, List.length_nil, List.replicate_succ, List.replicate_zero, List.cons_append, List.nil_append, Nat.lt_irrefl, if_true, if_false, lim_0, lim_1, lim_2, lim_3, lim_4, lim_5, lim_6, lim_7, lim_8, idx_t0, idx_t1, idx_t2, idx_t3, idx_t4, idx_l0, seqItems, Op2.F, Cm.F, Cm.T, B1.F, B2.F, tup_l, tup_t, lst_t, lst_l, len_t, len_l, truth_t, truth_l, truth_b, truth_i, truth_n, negF, addI, subI, List.append_assoc, ite_self, Bool.false_eq_true, reduceIte, sub_n, Nat.zero_add, Nat.reduceAdd, Nat.reduceLT, Nat.reduceLeDiff, Nat.reduceSub, Bool.not_true, Bool.not_false, List.isEmpty_cons, List.isEmpty_nil, idx_last, fin, wipeE, noOw, List.all_cons, List.all_nil, Bool.and_true, Bool.true_and, Bool.and_self, and_true, true_and, and_self, isE_app, cut_14, cut_1, cut_03, cut_02, eq_self_iff_true, Bool.not_eq_true, decide_true, decide_false, ltI, leI, gtI, geI])]
  have ek : (o.cs.filterMap fun c => some (PyData.int c.1)) = (o.cs.map (·.1)).map PyData.int := by simp
  rw [ek]
  simp only [evSs, evS, evE, evEs, evO, evAs, evT, evTs, evTo, evIt, bind_one, bind_many, binds_nil, binds_cons, Option.bind_some, Option.bind_none, Option.map_some, Option.map_none, List.getElem?_cons_zero, List.getElem?_cons_succ, List.set_cons_zero, List.set_cons_succ, List.length_cons, List.length_nil, List.replicate_succ, List.replicate_zero, List.cons_append, List.nil_append, Nat.lt_irrefl, if_true, if_false, lim_0, lim_1, lim_2, lim_3, lim_4, lim_5, lim_6, lim_7, lim_8, idx_t0, idx_t1, idx_t2, idx_t3, idx_t4, idx_l0, seqItems, Op2.F, Cm.F, Cm.T, B1.F, B2.F, tup_l, tup_t, lst_t, lst_l, len_t, len_l, truth_t, truth_l, truth_b, truth_i, truth_n, negF, addI, subI, List.append_assoc, ite_self, Bool.false_eq_true, reduceIte, sub_n, Nat.zero_add, Nat.reduceAdd, Nat.reduceLT, Nat.reduceLeDiff, Nat.reduceSub, Bool.not_true, Bool.not_false, List.isEmpty_cons, List.isEmpty_nil, idx_last, fin, wipeE, noOw, List.all_cons, List.all_nil, Bool.and_true, Bool.true_and, Bool.and_self, and_true, true_and, and_self, isE_app, cut_14, cut_1, cut_03, cut_02, eq_self_iff_true, Bool.not_eq_true, decide_true, decide_false, ltI, leI, gtI, geI, hl2]
  rw [comp_map (g := fun l : Lt => (none : Option D)) (fun l hm s => by
    cases l with
    | hold h => 
      have e0 : idxF (Lt.hold h).D (.int 0) = some (.str "hold") := idx_t0
      simp only [evSs, evS, evE, evEs, evO, evAs, evT, evTs, evTo, evIt, bind_one, bind_many, binds_nil, binds_cons, Option.bind_some, Option.bind_none, Option.map_some, Option.map_none, List.getElem?_cons_zero, List.getElem?_cons_succ, List.set_cons_zero, List.set_cons_succ, List.length_cons, List.length_nil, List.replicate_succ, List.replicate_zero, List.cons_append, List.nil_append, Nat.lt_irrefl, if_true, if_false, lim_0, lim_1, lim_2, lim_3, lim_4, lim_5, lim_6, lim_7, lim_8, idx_t0, idx_t1, idx_t2, idx_t3, idx_t4, idx_l0, seqItems, Op2.F, Cm.F, Cm.T, B1.F, B2.F, tup_l, tup_t, lst_t, lst_l, len_t, len_l, truth_t, truth_l, truth_b, truth_i, truth_n, negF, addI, subI, List.append_assoc, ite_self, Bool.false_eq_true, reduceIte, sub_n, Nat.zero_add, Nat.reduceAdd, Nat.reduceLT, Nat.reduceLeDiff, Nat.reduceSub, Bool.not_true, Bool.not_false, List.isEmpty_cons, List.isEmpty_nil, idx_last, fin, wipeE, noOw, List.all_cons, List.all_nil, Bool.and_true, Bool.true_and, Bool.and_self, and_true, true_and, and_self, isE_app, cut_14, cut_1, cut_03, cut_02, eq_self_iff_true, Bool.not_eq_true, decide_true, decide_false, ltI, leI, gtI, geI, e0, z1]
    | com e k ts =>
      have e0 : idxF (Lt.com e k ts).D (.int 0) = some (.str "commit") := idx_t0
      have e2 : idxF (Lt.com e k ts).D (.int 2) = some (.int k) := idx_t2
      have hi := in_ks (o.cs.map (·.1)) k
      rw [decide_eq_true (hd _ hm e k ts rfl)] at hi
      simp only [evSs, evS, evE, evEs, evO, evAs, evT, evTs, evTo, evIt, bind_one, bind_many, binds_nil, binds_cons, Option.bind_some, Option.bind_none, Option.map_some, Option.map_none, List.getElem?_cons_zero, List.getElem?_cons_succ, List.set_cons_zero, List.set_cons_succ, List.length_cons, List.length_nil, List.replicate_succ, List.replicate_zero, List.cons_append, List.nil_append, Nat.lt_irrefl, if_true, if_false, lim_0, lim_1, lim_2, lim_3, lim_4, lim_5, lim_6, lim_7, lim_8, idx_t0, idx_t1, idx_t2, idx_t3, idx_t4, idx_l0, seqItems, Op2.F, Cm.F, Cm.T, B1.F, B2.F, tup_l, tup_t, lst_t, lst_l, len_t, len_l, truth_t, truth_l, truth_b, truth_i, truth_n, negF, addI, subI, List.append_assoc, ite_self, Bool.false_eq_true, reduceIte, sub_n, Nat.zero_add, Nat.reduceAdd, Nat.reduceLT, Nat.reduceLeDiff, Nat.reduceSub, Bool.not_true, Bool.not_false, List.isEmpty_cons, List.isEmpty_nil, idx_last, fin, wipeE, noOw, List.all_cons, List.all_nil, Bool.and_true, Bool.true_and, Bool.and_self, and_true, true_and, and_self, isE_app, cut_14, cut_1, cut_03, cut_02, eq_self_iff_true, Bool.not_eq_true, decide_true, decide_false, ltI, leI, gtI, geI, e0, z3, e2, hi]
    | drop e k =>
      have e0 : idxF (Lt.drop e k).D (.int 0) = some (.str "drop") := idx_t0
      simp only [evSs, evS, evE, evEs, evO, evAs, evT, evTs, evTo, evIt, bind_one, bind_many, binds_nil, binds_cons, Option.bind_some, Option.bind_none, Option.map_some, Option.map_none, List.getElem?_cons_zero, List.getElem?_cons_succ, List.set_cons_zero, List.set_cons_succ, List.length_cons, List.length_nil, List.replicate_succ, List.replicate_zero, List.cons_append, List.nil_append, Nat.lt_irrefl, if_true, if_false, lim_0, lim_1, lim_2, lim_3, lim_4, lim_5, lim_6, lim_7, lim_8, idx_t0, idx_t1, idx_t2, idx_t3, idx_t4, idx_l0, seqItems, Op2.F, Cm.F, Cm.T, B1.F, B2.F, tup_l, tup_t, lst_t, lst_l, len_t, len_l, truth_t, truth_l, truth_b, truth_i, truth_n, negF, addI, subI, List.append_assoc, ite_self, Bool.false_eq_true, reduceIte, sub_n, Nat.zero_add, Nat.reduceAdd, Nat.reduceLT, Nat.reduceLeDiff, Nat.reduceSub, Bool.not_true, Bool.not_false, List.isEmpty_cons, List.isEmpty_nil, idx_last, fin, wipeE, noOw, List.all_cons, List.all_nil, Bool.and_true, Bool.true_and, Bool.and_self, and_true, true_and, and_self, isE_app, cut_14, cut_1, cut_03, cut_02, eq_self_iff_true, Bool.not_eq_true, decide_true, decide_false, ltI, leI, gtI, geI, e0, z4])]
  have en : (ls.filterMap fun _ => (none : Option D)) = [] := by simp
  rw [en]
  simp only [evSs, evS, evE, evEs, evO, evAs, evT, evTs, evTo, evIt, bind_one, bind_many, binds_nil, binds_cons, Option.bind_some, Option.bind_none, Option.map_some, Option.map_none, List.getElem?_cons_zero, List.getElem?_cons_succ, List.set_cons_zero, List.set_cons_succ, List.length_cons, List.length_nil, List.replicate_succ, List.replicate_zero, List.cons_append, List.nil_append, Nat.lt_irrefl, if_true, if_false, lim_0, lim_1, lim_2, lim_3, lim_4, lim_5, lim_6, lim_7, lim_8, idx_t0, idx_t1, idx_t2, idx_t3, idx_t4, idx_l0, seqItems, Op2.F, Cm.F, Cm.T, B1.F, B2.F, tup_l, tup_t, lst_t, lst_l, len_t, len_l, truth_t, truth_l, truth_b, truth_i, truth_n, negF, addI, subI, List.append_assoc, ite_self, Bool.false_eq_true, reduceIte, sub_n, Nat.zero_add, Nat.reduceAdd, Nat.reduceLT, Nat.reduceLeDiff, Nat.reduceSub, Bool.not_true, Bool.not_false, List.isEmpty_cons, List.isEmpty_nil, idx_last, fin, wipeE, noOw, List.all_cons, List.all_nil, Bool.and_true, Bool.true_and, Bool.and_self, and_true, true_and, and_self, isE_app, cut_14, cut_1, cut_03, cut_02, eq_self_iff_true, Bool.not_eq_true, decide_true, decide_false, ltI, leI, gtI, geI, ssetF]
theorem r_early {B : Nat} {o : Ou} {e k : Int} {ts : List Tk} (h : OkO B o) (hB : B < lim) (h1 : hear o (.com e k ts) = (o, [])) (h2 : hear o (.drop (e + 1) k) = (o, [])) (hs : SeqAt.shaped (.tuple [o.D, .tuple []]) = true) : run fns Tt (n + 4) 22 [.sh o.D, .sh (comD e k ts)] s = some (.bool true, s) := by
  rw [run_eq (fn := d_l_early_right.f) rfl rfl (by decide)]
  show (evSs _ b_l_early_right [.sh o.D, .sh (comD e k ts), .no] s).bind fin = _
  have r1 := r_heard (Tt := Tt) (n := n) (s := s) (l := .com e k ts) h trivial hB
  have r2 := r_heard (Tt := Tt) (n := n) (s := s) (l := .drop (e + 1) k) h trivial hB
  rw [h1] at r1
  rw [h2] at r2
  have e1 : idxF (comD e k ts) (.int 1) = some (.int e) := idx_t1
  have e2 : idxF (comD e k ts) (.int 2) = some (.int k) := idx_t2
  have r1 : run fns Tt (n + 3) 5 [.sh o.D, .sh (comD e k ts)] s = _ := r1
  have r2 : run fns Tt (n + 3) 5 [.sh o.D, .sh (.tuple [.str "drop", .int (e + 1), .int k])] s = _ := r2
  have q := eqB_refl hs
  unfold b_l_early_right
  simp only [evSs, evS, evE, evEs, evO, evAs, evT, evTs, evTo, evIt, bind_one, bind_many, binds_nil, binds_cons, Option.bind_some, Option.bind_none, Option.map_some, Option.map_none, List.getElem?_cons_zero, List.getElem?_cons_succ, List.set_cons_zero, List.set_cons_succ, List.length_cons, List.length_nil, List.replicate_succ, List.replicate_zero, List.cons_append, List.nil_append, Nat.lt_irrefl, if_true, if_false, lim_0, lim_1, lim_2, lim_3, lim_4, lim_5, lim_6, lim_7, lim_8, idx_t0, idx_t1, idx_t2, idx_t3, idx_t4, idx_l0, seqItems, Op2.F, Cm.F, Cm.T, B1.F, B2.F, tup_l, tup_t, lst_t, lst_l, len_t, len_l, truth_t, truth_l, truth_b, truth_i, truth_n, negF, addI, subI, List.append_assoc, ite_self, Bool.false_eq_true, reduceIte, sub_n, Nat.zero_add, Nat.reduceAdd, Nat.reduceLT, Nat.reduceLeDiff, Nat.reduceSub, Bool.not_true, Bool.not_false, List.isEmpty_cons, List.isEmpty_nil, idx_last, fin, wipeE, noOw, List.all_cons, List.all_nil, Bool.and_true, Bool.true_and, Bool.and_self, and_true, true_and, and_self, isE_app, cut_14, cut_1, cut_03, cut_02, eq_self_iff_true, Bool.not_eq_true, decide_true, decide_false, ltI, leI, gtI, geI, e1, e2, forLoop, r1, r2, q]
/-! ### shapes -/
theorem lays_app (xs ys : List D) : PyData.canLayAll0 (xs ++ ys) = (PyData.canLayAll0 xs && PyData.canLayAll0 ys) := by
  induction xs with
  | nil => simp [PyData.canLayAll0]
  | cons x xs ih => simp only [List.cons_append, PyData.canLayAll0, ih, Bool.and_assoc]
/-- small data -/
def Sm (m : Nat) (d : D) : Prop := d.canLay0 = true ∧ d.depth ≤ m
theorem Sm.tup {m : Nat} {ds : List D} (h : ∀ d ∈ ds, Sm m d) : Sm (m + 1) (.tuple ds) := by
  have e : PyData.canLayAll0 ds = true ∧ PyData.depthAll ds ≤ m := by
    induction ds with
    | nil => exact ⟨rfl, by simp [PyData.depthAll]⟩
    | cons d ds ih =>
      obtain ⟨h1, h2⟩ := h d List.mem_cons_self
      obtain ⟨h3, h4⟩ := ih fun x hx => h x (List.mem_cons_of_mem _ hx)
      exact ⟨by simp only [PyData.canLayAll0, h1, h3, Bool.and_self], by simp only [PyData.depthAll]; omega⟩
  refine ⟨by rw [PyData.canLay0]; exact e.1, ?_⟩
  rw [PyData.depth]
  have := e.2
  omega
theorem Sm.lst {m : Nat} {ds : List D} (h : ∀ d ∈ ds, Sm m d) : Sm (m + 1) (.list ds) := by
  obtain ⟨h1, h2⟩ := Sm.tup h
  rw [PyData.canLay0] at h1
  rw [PyData.depth] at h2
  exact ⟨by rw [PyData.canLay0]; exact h1, by rw [PyData.depth]; exact h2⟩
theorem Sm.up {m k : Nat} {d : D} (h : Sm m d) (hk : m ≤ k) : Sm k d := ⟨h.1, Nat.le_trans h.2 hk⟩
theorem Sm.int (i : Int) (m : Nat) : Sm m (.int i) := ⟨by simp [PyData.canLay0], by simp [PyData.depth]⟩
theorem Sm.tk (t : Tk) : Sm 1 (tkD t) := ⟨(tk_ok t).1, Nat.le_of_eq (tk_ok t).2.1⟩
theorem Sm.shaped {m : Nat} {d : D} (h : Sm m d) (hm : m ≤ 64) : SeqAt.shaped d = true := by
  unfold SeqAt.shaped
  rw [h.1, Bool.true_and]
  exact decide_eq_true (Nat.le_trans h.2 hm)
theorem RowOk.sm {r : D} (h : RowOk r) : Sm 2 r := ⟨h.all.2.1, h.all.2.2⟩
theorem sm_rows {rs : List D} (h : ∀ r ∈ rs, RowOk r) : Sm 3 (.tuple rs) := Sm.tup fun d hd => (h d hd).sm
theorem sm_hd {h : Hd} (hr : ∀ r ∈ h.rows, RowOk r) : Sm 4 h.D := Sm.tup fun d hd => by
  simp only [List.mem_cons, List.not_mem_nil, or_false] at hd
  rcases hd with rfl | rfl | rfl | rfl
  · exact Sm.int _ _
  · exact Sm.int _ _
  · exact (Sm.tk _).up (by omega)
  · exact sm_rows hr
theorem sm_letter {h : Hd} (hr : ∀ r ∈ h.rows, RowOk r) : Sm 4 h.letter := Sm.tup fun d hd => by
  simp only [List.mem_cons, List.not_mem_nil, or_false] at hd
  rcases hd with rfl | rfl | rfl | rfl | rfl
  · exact ⟨by decide +kernel, by simp [PyData.depth]⟩
  · exact Sm.int _ _
  · exact Sm.int _ _
  · exact (Sm.tk _).up (by omega)
  · exact sm_rows hr
theorem sm_lot {p : Lo} (hr : ∀ r ∈ p.2, RowOk r) : Sm 4 (lotD p) := Sm.tup fun d hd => by
  simp only [List.mem_cons, List.not_mem_nil, or_false] at hd
  rcases hd with rfl | rfl
  · exact (Sm.tk _).up (by omega)
  · exact sm_rows hr
theorem sm_cm {c : Cm'} (hr : ∀ p ∈ c.2, ∀ r ∈ p.2, RowOk r) : Sm 6 (cmD c) := Sm.tup fun d hd => by
  simp only [List.mem_cons, List.not_mem_nil, or_false] at hd
  rcases hd with rfl | rfl
  · exact Sm.int _ _
  · exact Sm.tup fun d hd => by
      obtain ⟨p, hp, rfl⟩ := List.mem_map.mp hd
      exact sm_lot (hr p hp)
theorem sm_out {ep : Int} {hs : List Hd} {cs : List Cm'} (h1 : ∀ h ∈ hs, ∀ r ∈ h.rows, RowOk r) (h2 : ∀ c ∈ cs, ∀ p ∈ c.2, ∀ r ∈ p.2, RowOk r) : Sm 8 (outD ep hs cs) := Sm.tup fun d hd => by
  simp only [List.mem_cons, List.not_mem_nil, or_false] at hd
  rcases hd with rfl | rfl | rfl
  · exact Sm.int _ _
  · exact (Sm.tup fun d hd => by
      obtain ⟨p, hp, rfl⟩ := List.mem_map.mp hd
      exact sm_hd (h1 p hp)).up (m := 5) (by omega)
  · exact Sm.tup fun d hd => by
      obtain ⟨p, hp, rfl⟩ := List.mem_map.mp hd
      exact sm_cm (h2 p hp)
end K77
end DL
end
section
set_option Elab.async false
set_option linter.all false
set_option maxRecDepth 100000
set_option maxHeartbeats 2000000
/-! KP8: what is heard in any order. -/
namespace DL
open PySem PySem.Spec PyProof.Rows L2
namespace K77
def tkLt (t u : Tk) : Bool := if t.1 = u.1 then decide (t.2 < u.2) else !t.1 && u.1
theorem tk_lt (t u : Tk) : PySem.W.dataLt (tkD t) (tkD u) = tkLt t u := by
  obtain ⟨b, j⟩ := t
  obtain ⟨c, i⟩ := u
  unfold tkD
  rw [PySem.W.dataLt_pair (by simp [PySem.W.alike]) (by simp [PySem.W.alike])]
  unfold tkLt
  by_cases h : b = c
  · subst h
    rw [show PyData.eqv (.str (tkS b)) (.str (tkS b)) = true by simp [PyData.eqv]]
    simp only [if_true, PySem.W.dataLt_int, PyData.eqv]
    by_cases h2 : j = i
    · subst h2; simp
    · simp [h2]
  · rw [if_neg h]
    cases b <;> cases c <;> first | exact absurd rfl h | skip
    · rw [show PyData.eqv (.str (tkS false)) (.str (tkS true)) = false by decide +kernel]
      rw [PySem.W.dataLt_str]
      show decide ((tkS false).cps.toList < (tkS true).cps.toList) = true
      decide +kernel
    · rw [show PyData.eqv (.str (tkS true)) (.str (tkS false)) = false by decide +kernel]
      rw [PySem.W.dataLt_str]
      show decide ((tkS true).cps.toList < (tkS false).cps.toList) = false
      decide +kernel
abbrev leH : Hd → Hd → Bool := PySem.W.dataLe false fun h : Hd => keyS 3 h.D
theorem leH_same {a b : Hd} (h1 : a.e = b.e) (h2 : a.k = b.k) : leH a b = !tkLt b.t a.t := by
  show (!PySem.W.dataLt b.key a.key) = _
  unfold Hd.key
  rw [PySem.W.dataLt_tuple, h1, h2, PySem.W.dataLt_cons (by simp [PySem.W.alike]), if_pos (by simp [PyData.eqv]), PySem.W.dataLt_cons (by simp [PySem.W.alike]), if_pos (by simp [PyData.eqv]),
    PySem.W.dataLt_cons (by simp [PySem.W.alike, PySem.W.alikeAll, tkD]), tk_lt, tk_eqv]
  by_cases h : b.t = a.t
  · rw [decide_eq_true h, if_pos rfl, h]
    have : tkLt a.t a.t = false := by unfold tkLt; simp
    rw [this]
    rfl
  · rw [decide_eq_false h, if_neg (by simp)]
theorem tk_total {t u : Tk} (h1 : tkLt t u = false) (h2 : tkLt u t = false) : t = u := by
  obtain ⟨b, j⟩ := t
  obtain ⟨c, i⟩ := u
  unfold tkLt at h1 h2
  cases b <;> cases c <;> simp at h1 h2 ⊢ <;> omega
/-- letters of one round: each task's once -/
structure Rnd (E N : Int) (U : List Hd) : Prop where
  e : ∀ h ∈ U, h.e = E
  k : ∀ h ∈ U, h.k = N
  inj : ∀ a ∈ U, ∀ b ∈ U, a.t = b.t → a = b
structure Hsd (U hs : List Hd) : Prop where
  sub : ∀ h ∈ hs, h ∈ U
  nd : hs.Nodup
  so : hs.Pairwise fun a b => leH a b = true
theorem Hsd.nil {U : List Hd} : Hsd U [] := ⟨by simp, List.nodup_nil, List.Pairwise.nil⟩
theorem Hsd.eq {E N : Int} {U hs hs' : List Hd} (r : Rnd E N U) (h : Hsd U hs) (h' : Hsd U hs') (m : ∀ a, a ∈ hs ↔ a ∈ hs') : hs = hs' := by
  refine List.Perm.eq_of_pairwise (fun a b ha hb h1 h2 => ?_) h.so h'.so ((List.perm_ext_iff_of_nodup h.nd h'.nd).mpr m)
  have ua := h.sub a ha
  have ub := h'.sub b hb
  rw [leH_same (by rw [r.e a ua, r.e b ub]) (by rw [r.k a ua, r.k b ub])] at h1
  rw [leH_same (by rw [r.e a ua, r.e b ub]) (by rw [r.k a ua, r.k b ub])] at h2
  simp only [Bool.not_eq_true'] at h1 h2
  exact r.inj a ua b ub (tk_total h2 h1)
theorem hear_one {E N : Int} {U : List Hd} (r : Rnd E N U) {o : Ou} {h : Hd} (hh : h ∈ U) (hs : Hsd U o.hs) (hep : o.ep ≤ E) (hl : lastN o.cs < N) : ∃ hs', hear o (.hold h) = (⟨o.ep, hs', o.cs⟩, [.tuple [.str "held", .int E, .int N, tkD h.t]]) ∧ Hsd U hs' ∧ ∀ a, a ∈ hs' ↔ a ∈ o.hs ∨ a = h := by
  have e1 := r.e h hh
  have e2 := r.k h hh
  have ha : (o.hs.any fun x => sameKey x h) = true ↔ h ∈ o.hs := by
    rw [List.any_eq_true]
    simp only [sameKey, decide_eq_true_eq]
    exact ⟨fun ⟨x, hx, q⟩ => by have := r.inj x (hs.sub x hx) h hh q.2.2; exact this ▸ hx, fun q => ⟨h, q, rfl, rfl, rfl⟩⟩
  unfold hear
  dsimp only
  rw [if_neg (by omega), e1, e2]
  unfold addH newH
  rw [e2, show decide (N > lastN o.cs) = true from decide_eq_true hl, Bool.true_and]
  by_cases hm : h ∈ o.hs
  · rw [ha.mpr hm]
    refine ⟨o.hs, rfl, hs, fun a => ⟨fun q => .inl q, fun q => ?_⟩⟩
    rcases q with q | rfl
    · exact q
    · exact hm
  · rw [show (o.hs.any fun x => sameKey x h) = false from Bool.eq_false_iff.mpr fun z => hm (ha.mp z)]
    refine ⟨sortH (o.hs ++ [h]), rfl, ⟨fun a q => ?_, ?_, ?_⟩, fun a => ?_⟩
    · rw [mem_sortH, List.mem_append, List.mem_singleton] at q
      rcases q with q | rfl
      · exact hs.sub a q
      · exact hh
    · refine (List.mergeSort_perm _ _).nodup_iff.mpr ?_
      rw [List.nodup_append]
      refine ⟨hs.nd, by simp, fun a qa b qb => ?_⟩
      rw [List.mem_singleton] at qb
      subst qb
      exact fun z => hm (z ▸ qa)
    · exact PySem.W.sort_pairwise (PySem.W.sortLe_total _ _ _) _
    · rw [mem_sortH, List.mem_append, List.mem_singleton]
theorem hear_many {E N : Int} {U : List Hd} (r : Rnd E N U) {M : List Hd} {o : Ou} (hM : ∀ h ∈ M, h ∈ U) (hs : Hsd U o.hs) (hep : o.ep ≤ E) (hl : lastN o.cs < N) : ∃ hs', (hearAll o (M.map .hold)).1 = ⟨o.ep, hs', o.cs⟩ ∧ Hsd U hs' ∧ ∀ a, a ∈ hs' ↔ a ∈ o.hs ∨ a ∈ M := by
  induction M generalizing o with
  | nil => exact ⟨o.hs, rfl, hs, fun a => by simp⟩
  | cons h M ih =>
    obtain ⟨hs1, e1, h1, m1⟩ := hear_one r (hM h List.mem_cons_self) hs hep hl
    obtain ⟨hs2, e2, h2, m2⟩ := ih (o := ⟨o.ep, hs1, o.cs⟩) (fun x hx => hM x (List.mem_cons_of_mem _ hx)) h1 hep hl
    refine ⟨hs2, ?_, h2, fun a => ?_⟩
    · rw [List.map_cons]
      unfold hearAll
      rw [e1]
      exact e2
    · rw [m2, List.mem_cons]
      have := m1 a
      rw [show a ∈ (Ou.mk o.ep hs1 o.cs).hs ↔ a ∈ hs1 from Iff.rfl, this, or_assoc]
end K77
end DL
end
section
set_option Elab.async false
set_option linter.all false
set_option maxRecDepth 100000
set_option maxHeartbeats 2000000
/-! KP9: one round. -/
namespace DL
open PySem PySem.Spec PyProof.Rows L2
namespace K77
theorem hearAll_app {o : Ou} {a b : List Lt} : hearAll o (a ++ b) = ((hearAll (hearAll o a).1 b).1, (hearAll o a).2 ++ (hearAll (hearAll o a).1 b).2) := by
  induction a generalizing o with
  | nil => simp [hearAll]
  | cons l a ih =>
    simp only [List.cons_append, hearAll, ih, List.append_assoc]
/-- a letter that changes nothing any more -/
def Old (ep N : Int) : Lt → Prop
  | .hold h => h.e < ep ∨ h.k ≤ N
  | .com _ k _ => k ≤ N
  | .drop e _ => e ≤ ep
theorem Old.mono {ep N ep' N' : Int} {l : Lt} (h : Old ep N l) (h1 : ep ≤ ep') (h2 : N ≤ N') : Old ep' N' l := by
  cases l with
  | hold x => exact h.elim (fun z => .inl (by omega)) fun z => .inr (by omega)
  | com e k ts => exact Int.le_trans h h2
  | drop e k => exact Int.le_trans h h1
theorem old_one {ep N : Int} {C : List Cm'} {l : Lt} (hN : lastN C = N) (h : Old ep N l) : (hear ⟨ep, [], C⟩ l).1 = ⟨ep, [], C⟩ := by
  subst hN
  cases l with
  | hold x =>
    unfold hear
    dsimp only
    split
    · rfl
    · rename_i z
      have hk : x.k ≤ lastN C := h.elim (fun q => absurd q z) id
      unfold addH newH
      rw [show decide (x.k > lastN C) = false from decide_eq_false (by omega)]
      rfl
  | com e k ts =>
    unfold hear
    dsimp only
    rw [if_pos (show k ≤ lastN C from h)]
  | drop e k =>
    unfold hear
    dsimp only
    split
    · rfl
    · have : ¬ e > ep := by have : e ≤ ep := h; omega
      rw [if_neg this]
      rfl
theorem old_all {ep N : Int} {C : List Cm'} {ls : List Lt} (hN : lastN C = N) (h : ∀ l ∈ ls, Old ep N l) : (hearAll ⟨ep, [], C⟩ ls).1 = ⟨ep, [], C⟩ := by
  induction ls with
  | nil => rfl
  | cons l ls ih =>
    unfold hearAll
    rw [old_one hN (h l List.mem_cons_self)]
    exact ih fun x hx => h x (List.mem_cons_of_mem _ hx)
def TsOk (ts : List Tk) : Prop := ts.Pairwise fun t u => tkLt t u = true
theorem tk_asym {t u : Tk} (h : tkLt t u = true) : tkLt u t = false := by
  obtain ⟨b, j⟩ := t
  obtain ⟨c, i⟩ := u
  unfold tkLt at h ⊢
  cases b <;> cases c <;> simp at h ⊢ <;> omega
theorem tk_irr {t : Tk} : tkLt t t = false := by unfold tkLt; simp
section
variable {E N : Int} {ts : List Tk} {ps : List Lo}
abbrev hds (E N : Int) (ps : List Lo) : List Hd := ps.map (hdOf E N)
theorem hds_ts (hp : ps.map (·.1) = ts) : (hds E N ps).map (·.t) = ts := by
  rw [List.map_map]
  exact hp
theorem inj_of {U : List Hd} (h : (U.map (·.t)).Pairwise fun t u => tkLt t u = true) : (∀ a ∈ U, ∀ b ∈ U, a.t = b.t → a = b) ∧ U.Nodup := by
  rw [List.pairwise_map] at h
  have nd : U.Nodup := h.imp fun {a b} q z => by subst z; rw [tk_irr] at q; cases q
  refine ⟨?_, nd⟩
  induction U with
  | nil => intro a ha; cases ha
  | cons x U ih =>
    rw [List.pairwise_cons] at h
    rw [List.nodup_cons] at nd
    intro a ha b hb e
    rcases List.mem_cons.mp ha with ea | ha'
    · rcases List.mem_cons.mp hb with eb | hb'
      · rw [ea, eb]
      · have := h.1 b hb'; rw [← ea, e, tk_irr] at this; cases this
    · rcases List.mem_cons.mp hb with eb | hb'
      · have := h.1 a ha'; rw [← eb, e, tk_irr] at this; cases this
      · exact ih h.2 nd.2 a ha' b hb' e
theorem rnd (ht : TsOk ts) (hp : ps.map (·.1) = ts) : Rnd E N (hds E N ps) := by
  have h := inj_of (U := hds E N ps) (by rw [hds_ts hp]; exact ht)
  refine ⟨fun h hh => ?_, fun h hh => ?_, h.1⟩
  · obtain ⟨p, _, rfl⟩ := List.mem_map.mp hh; rfl
  · obtain ⟨p, _, rfl⟩ := List.mem_map.mp hh; rfl
theorem hsd (ht : TsOk ts) (hp : ps.map (·.1) = ts) : Hsd (hds E N ps) (hds E N ps) := by
  have h := inj_of (U := hds E N ps) (by rw [hds_ts hp]; exact ht)
  have r := rnd (E := E) (N := N) ht hp
  refine ⟨fun h hh => hh, h.2, ?_⟩
  have q : ((hds E N ps).map (·.t)).Pairwise fun t u => tkLt t u = true := by rw [hds_ts hp]; exact ht
  rw [List.pairwise_map] at q
  refine List.Pairwise.imp_of_mem (fun {a b} ha hb z => ?_) q
  rw [leH_same (by rw [r.e a ha, r.e b hb]) (by rw [r.k a ha, r.k b hb]), tk_asym z]
  rfl
theorem lots_all (hp : ps.map (·.1) = ts) : lotsOf E N ts (hds E N ps) = ps ∧ leftOf E N ts (hds E N ps) = [] := by
  have hm : ∀ x ∈ hds E N ps, mine E N ts x = true := fun x hx => by
    obtain ⟨p, h, rfl⟩ := List.mem_map.mp hx
    have : p.1 ∈ ts := hp ▸ List.mem_map.mpr ⟨p, h, rfl⟩
    simp [mine, hdOf, this]
  refine ⟨?_, ?_⟩
  · unfold lotsOf
    rw [List.filter_eq_self.mpr hm, List.map_map]
    have : ((fun x : Hd => (x.t, x.rows)) ∘ hdOf E N) = id := by funext p; rfl
    rw [this, List.map_id]
  · unfold leftOf
    rw [List.filter_eq_nil_iff]
    intro x hx
    rw [hm x hx]
    simp
/-- a commit of what is all held -/
theorem com_all {ep : Int} {C : List Cm'} (hp : ps.map (·.1) = ts) (hl : lastN C < N) : hear ⟨ep, hds E N ps, C⟩ (.com E N ts) = (⟨ep, [], C ++ [(N, ps)]⟩, [.tuple [.str "done", .int N]]) := by
  obtain ⟨h1, h2⟩ := lots_all (E := E) (N := N) hp
  unfold hear
  dsimp only
  rw [if_neg (by omega), h1, h2]
  have : ¬ ps.length < ts.length := by rw [← hp, List.length_map]; omega
  rw [if_neg this]
theorem last_app {C : List Cm'} {x : List Lo} : lastN (C ++ [(N, x)]) = N := by simp [lastN]
/-- all letters, whatever their order -/
theorem hold_all {ep : Int} {C : List Cm'} {M : List Hd} (ht : TsOk ts) (hp : ps.map (·.1) = ts) (hep : ep ≤ E) (hl : lastN C < N) (hM : ∀ a, a ∈ M ↔ a ∈ hds E N ps) : (hearAll ⟨ep, [], C⟩ (M.map .hold)).1 = ⟨ep, hds E N ps, C⟩ := by
  have r := rnd (E := E) (N := N) ht hp
  obtain ⟨hs', e, h1, h2⟩ := hear_many r (o := ⟨ep, [], C⟩) (M := M) (fun h hh => (hM h).mp hh) Hsd.nil hep hl
  rw [e]
  have : hs' = hds E N ps := Hsd.eq r h1 (hsd ht hp) fun a => by rw [h2, hM]; simp
  rw [this]
/-- all but one -/
theorem hold_but {ep : Int} {C : List Cm'} {M : List Hd} {x : Hd} (ht : TsOk ts) (hp : ps.map (·.1) = ts) (hep : ep ≤ E) (hl : lastN C < N) (hx : x ∈ hds E N ps) (hM : ∀ a, a ∈ M ↔ a ∈ hds E N ps ∧ a ≠ x) :
    ∃ hs', (hearAll ⟨ep, [], C⟩ (M.map .hold)).1 = ⟨ep, hs', C⟩ ∧ (∀ a ∈ hs', a ∈ hds E N ps) ∧ hear ⟨ep, hs', C⟩ (.com E N ts) = (⟨ep, hs', C⟩, []) ∧ hear ⟨ep, hs', C⟩ (.drop (E + 1) N) = (⟨ep, hs', C⟩, []) ∧
      hear ⟨ep, hs', C⟩ (.hold x) = (⟨ep, hds E N ps, C⟩, [.tuple [.str "held", .int E, .int N, tkD x.t]]) := by
  have r := rnd (E := E) (N := N) ht hp
  obtain ⟨hs', e, h1, h2⟩ := hear_many r (o := ⟨ep, [], C⟩) (M := M) (fun h hh => ((hM h).mp hh).1) Hsd.nil hep hl
  have h2 : ∀ a, a ∈ hs' ↔ a ∈ hds E N ps ∧ a ≠ x := fun a => by rw [h2, hM]; simp
  obtain ⟨hs2, e2, h3, h4⟩ := hear_one r (o := ⟨ep, hs', C⟩) hx h1 hep hl
  have q : hs2 = hds E N ps := Hsd.eq r h3 (hsd ht hp) fun a => by
    have h4 : a ∈ hs2 ↔ a ∈ hs' ∨ a = x := h4 a
    rw [h4, h2]
    constructor
    · rintro (z | rfl)
      · exact z.1
      · exact hx
    · intro z
      exact (Classical.em (a = x)).elim .inr fun y => .inl ⟨z, y⟩
  have hlen : hs'.length < ts.length := by
    have pm : (x :: hs').Perm (hds E N ps) := (List.perm_ext_iff_of_nodup (List.nodup_cons.mpr ⟨fun z => ((h2 x).mp z).2 rfl, h1.nd⟩) (hsd ht hp).nd).mpr fun a => by
      rw [List.mem_cons, h2]
      constructor
      · rintro (rfl | z)
        · exact hx
        · exact z.1
      · intro z
        exact (Classical.em (a = x)).elim .inl fun y => .inr ⟨z, y⟩
    have := pm.length_eq
    rw [List.length_cons, List.length_map] at this
    rw [← hp, List.length_map]
    omega
  refine ⟨hs', e, h1.sub, ?_, ?_, by rw [e2, q]⟩
  · unfold hear
    dsimp only
    rw [if_neg (by omega), if_pos]
    unfold lotsOf
    rw [List.length_map]
    exact Nat.lt_of_le_of_lt (List.length_filter_le _ _) hlen
  · unfold hear
    dsimp only
    rw [if_pos hl]
/-- some of them, given up -/
theorem hold_drop {ep : Int} {C : List Cm'} {M : List Hd} (ht : TsOk ts) (hp : ps.map (·.1) = ts) (hep : ep ≤ E) (hl : lastN C = N - 1) (hM : ∀ a ∈ M, a ∈ hds E N ps) :
    ∃ hs', (hearAll ⟨ep, [], C⟩ (M.map .hold)).1 = ⟨ep, hs', C⟩ ∧ (∀ a ∈ hs', a ∈ hds E N ps) ∧ hear ⟨ep, hs', C⟩ (.drop (E + 1) (N - 1)) = (⟨E + 1, [], C⟩, [.tuple [.str "dropped", .int (E + 1)]]) ∧ (hearAll ⟨E + 1, [], C⟩ (M.map .hold)).1 = ⟨E + 1, [], C⟩ := by
  have r := rnd (E := E) (N := N) ht hp
  obtain ⟨hs', e, h1, _⟩ := hear_many r (o := ⟨ep, [], C⟩) (M := M) hM Hsd.nil hep (by show lastN C < N; omega)
  refine ⟨hs', e, h1.sub, ?_, ?_⟩
  · unfold hear
    dsimp only
    rw [if_neg (by omega), if_pos (by omega)]
    have : (hs'.filter fun x => decide (x.e ≥ E + 1)) = [] := by
      rw [List.filter_eq_nil_iff]
      intro a ha
      have := r.e a (h1.sub a ha)
      simp
      omega
    rw [this]
  · refine old_all (N := N - 1) hl fun l hh => ?_
    obtain ⟨a, ha, rfl⟩ := List.mem_map.mp hh
    exact .inl (by have := r.e a (hM a ha); omega)
theorem cRows_app {b : Bool} {C : List Cm'} : cRows b (C ++ [(N, ps)]) = cRows b C ++ ps.flatMap (lotRows b) := by simp [cRows]
end
end K77
end DL
end
section
set_option Elab.async false
set_option linter.all false
set_option maxRecDepth 100000
set_option maxHeartbeats 2000000
/-! KP10: what holds between the rounds. -/
namespace DL
open PySem PySem.Spec PyProof.Rows L2
namespace K77
def dueD (q : Int × Int × Lo) : D := tellD q.1 q.2.1 q.2.2
def dRows (b : Bool) (due : List (Int × Int × Lo)) : List D := due.flatMap fun q => lotRows b q.2.2
/-- between the rounds (g: how many letters more than the rounds' share) -/
structure Btw (g : Nat) (E ep : Int) (C : List Cm') (ls : List Lt) (due : List (Int × Int × Lo)) : Prop where
  hep : ep ≤ E
  cnt : lastN C = C.length
  old : ∀ l ∈ ls, Old ep (lastN C) l
  rep : (hearAll fresh ls).1 = ⟨ep, [], C⟩
  coms : ∀ l ∈ ls, ∀ e k ts, l = .com e k ts → k ∈ C.map (·.1)
  okl : ∀ l ∈ ls, OkL l
  len : ls.length ≤ 10 * C.length + g
  dul : due.length ≤ 5 * C.length
  duq : ∀ b, dRows b due = cRows b C
  rows : ∀ c ∈ C, c.2.length ≤ 5 ∧ ∀ p ∈ c.2, LoOk p
theorem Btw.nil : Btw 0 1 0 [] [] [] := ⟨by omega, rfl, by simp, rfl, by simp, by simp, by simp, by simp, fun b => rfl, by simp⟩
theorem lo_lim {p : Lo} (h : LoOk p) : p.2.length ≤ lim := Nat.le_trans h.1 (by decide)
section
variable {E N ep : Int} {ts : List Tk} {ps : List Lo} {C : List Cm'} {ls : List Lt} {due : List (Int × Int × Lo)}
theorem okl_hds (hl : ∀ p ∈ ps, LoOk p) : ∀ h ∈ hds E N ps, h.rows.length ≤ lim := fun h hh => by
  obtain ⟨p, hp, rfl⟩ := List.mem_map.mp hh
  exact lo_lim (hl p hp)
theorem Btw.give {M : List Hd} (h : Btw 0 E ep C ls due) (ht : TsOk ts) (hp : ps.map (·.1) = ts) (hN : lastN C = N - 1) (hM : ∀ a ∈ M, a ∈ hds E N ps) (hm : M.length ≤ 3) (hl : ∀ p ∈ ps, LoOk p) : Btw 4 (E + 1) (E + 1) C (ls ++ M.map .hold ++ [.drop (E + 1) (N - 1)]) due := by
  have r := rnd (E := E) (N := N) ht hp
  obtain ⟨hs', e1, _, e2, _⟩ := hold_drop (ep := ep) (C := C) ht hp h.hep hN hM
  refine ⟨Int.le_refl _, h.cnt, fun l hl => ?_, ?_, fun l hl e k ts hc => ?_, fun l hh => ?_, ?_, h.dul, h.duq, h.rows⟩
  · rcases List.mem_append.mp hl with hl | hl
    · rcases List.mem_append.mp hl with hl | hl
      · exact (h.old l hl).mono (by have := h.hep; omega) (Int.le_refl _)
      · obtain ⟨a, ha, rfl⟩ := List.mem_map.mp hl
        exact .inl (by have := r.e a (hM a ha); omega)
    · rw [List.mem_singleton] at hl
      subst hl
      exact Int.le_refl _
  · rw [hearAll_app, hearAll_app, h.rep]
    dsimp only
    rw [e1]
    simp only [hearAll]
    rw [e2]
  · rcases List.mem_append.mp hl with hl | hl
    · rcases List.mem_append.mp hl with hl | hl
      · exact h.coms l hl e k ts hc
      · obtain ⟨a, ha, rfl⟩ := List.mem_map.mp hl
        cases hc
    · rw [List.mem_singleton] at hl
      subst hl
      cases hc
  · rcases List.mem_append.mp hh with hh | hh
    · rcases List.mem_append.mp hh with hh | hh
      · exact h.okl l hh
      · obtain ⟨a, ha, rfl⟩ := List.mem_map.mp hh
        exact okl_hds hl a (hM a ha)
    · rw [List.mem_singleton] at hh
      subst hh
      trivial
  · have := h.len
    simp only [List.length_append, List.length_map, List.length_cons, List.length_nil]
    omega
theorem Btw.com {g : Nat} (h : Btw g E ep C ls due) (hg : g ≤ 4) (ht : TsOk ts) (hp : ps.map (·.1) = ts) (hN : lastN C = N - 1) (h5 : ps.length ≤ 5) (hl : ∀ p ∈ ps, LoOk p) :
    Btw 0 E ep (C ++ [(N, ps)]) (ls ++ (hds E N ps).map .hold ++ [.com E N ts]) (due ++ ps.map fun p => (E, N, p)) := by
  have r := rnd (E := E) (N := N) ht hp
  have e1 := hold_all (ep := ep) (C := C) (M := hds E N ps) ht hp h.hep (by omega) (fun a => Iff.rfl)
  have e2 := com_all (E := E) (N := N) (ep := ep) (C := C) hp (by omega)
  have e3 : lastN (C ++ [(N, ps)]) = N := last_app
  refine ⟨h.hep, ?_, fun l hl => ?_, ?_, fun l hl e k ts hc => ?_, fun l hh => ?_, ?_, ?_, fun b => ?_, fun c hc => ?_⟩
  · rw [e3, List.length_append, List.length_singleton]
    have := h.cnt
    omega
  · rw [e3]
    rcases List.mem_append.mp hl with hl | hl
    · rcases List.mem_append.mp hl with hl | hl
      · exact (h.old l hl).mono (Int.le_refl _) (by omega)
      · obtain ⟨a, ha, rfl⟩ := List.mem_map.mp hl
        exact .inr (by have := r.k a ha; omega)
    · rw [List.mem_singleton] at hl
      subst hl
      exact Int.le_refl _
  · rw [hearAll_app, hearAll_app, h.rep]
    dsimp only
    rw [e1]
    simp only [hearAll]
    rw [e2]
  · rw [List.map_append, List.mem_append]
    rcases List.mem_append.mp hl with hl | hl
    · rcases List.mem_append.mp hl with hl | hl
      · exact .inl (h.coms l hl e k ts hc)
      · obtain ⟨a, ha, rfl⟩ := List.mem_map.mp hl
        cases hc
    · rw [List.mem_singleton] at hl
      subst hl
      cases hc
      exact .inr (by simp)
  · rcases List.mem_append.mp hh with hh | hh
    · rcases List.mem_append.mp hh with hh | hh
      · exact h.okl l hh
      · obtain ⟨a, ha, rfl⟩ := List.mem_map.mp hh
        exact okl_hds hl a ha
    · rw [List.mem_singleton] at hh
      subst hh
      trivial
  · have := h.len
    simp only [List.length_append, List.length_map, List.length_cons, List.length_nil]
    omega
  · have := h.dul
    simp only [List.length_append, List.length_map, List.length_cons, List.length_nil]
    omega
  · rw [cRows_app, ← h.duq]
    unfold dRows
    rw [List.flatMap_append]
    congr 1
    rw [List.flatMap_map]
  · rcases List.mem_append.mp hc with hc | hc
    · exact h.rows c hc
    · rw [List.mem_singleton] at hc
      subst hc
      exact ⟨h5, hl⟩
end
/-! ### tasks -/
def tasksOf (a b : Nat) : List Tk := (List.range a).map (fun (i : Nat) => (false, (0 : Int) + (i : Int))) ++ (List.range b).map (fun (i : Nat) => (true, (0 : Int) + (i : Int)))
theorem tasks_ok (a b : Nat) : TsOk (tasksOf a b) := by
  unfold TsOk tasksOf
  rw [List.pairwise_append]
  refine ⟨?_, ?_, ?_⟩
  · rw [List.pairwise_map]
    exact List.pairwise_lt_range.imp fun {x y} h => by simp [tkLt]; omega
  · rw [List.pairwise_map]
    exact List.pairwise_lt_range.imp fun {x y} h => by simp [tkLt]; omega
  · intro x hx y hy
    obtain ⟨i, _, rfl⟩ := List.mem_map.mp hx
    obtain ⟨j, _, rfl⟩ := List.mem_map.mp hy
    rfl
theorem tasks_len (a b : Nat) : (tasksOf a b).length = a + b := by simp [tasksOf]
end K77
end DL
end
section
set_option Elab.async false
set_option linter.all false
set_option maxRecDepth 100000
set_option maxHeartbeats 2000000
/-! KP11: the parts of the law's term (written by kp11.py). -/
namespace DL
open PySem PySem.Spec PyProof.Rows L2
namespace K77
def bGive : Ss := (.cons (.asg (.one 17) (.call 21 (.src 1 (.cons (.var 7) (.cons (.var 3) (.cons (.var 2) .nil)))))) (.cons (.asg (.one 18) (.slc (.comp (.many (.cons (.one 21) (.cons (.one 15) (.cons (.one 22) .nil)))) (.seq (.var 17)) .nil [21, 15, 22] (.idx (.var 22) (.int 2))) .no (.some (.bin .add (.int 1) (.pick 1 (.int 3)))))) (.cons (.par [(false, 5), (false, 7), (true, 9)] (.cons (.idx (.call 6 (.cons (.var 5) (.cons (.var 18) .nil))) (.int 0)) (.cons (.bin .add (.var 7) (.int 1)) (.cons (.bin .add (.view 9) (.var 18)) .nil)))) (.cons (.asg (.one 19) (.tup (.cons (.str "drop") (.cons (.var 7) (.cons (.bin .sub (.var 3) (.int 1)) .nil))))) (.cons (.asg (.many (.cons (.one 5) (.cons (.one 20) .nil))) (.call 5 (.cons (.var 5) (.cons (.var 19) .nil)))) (.cons (.iff (.or (.cons (.cmp .ne (.var 20) (.tup (.cons (.tup (.cons (.str "dropped") (.cons (.var 7) .nil))) .nil))) (.cons (.cmp .ne (.slc (.var 5) .no (.some (.int 2))) (.tup (.cons (.var 7) (.cons (.tup .nil) .nil)))) (.cons (.cmp .ne (.idx (.var 5) (.int 2)) (.var 8)) .nil)))) (.cons (.ret (.bl false)) .nil) .nil) (.cons (.asg (.one 5) (.idx (.call 6 (.cons (.var 5) (.cons (.var 18) .nil))) (.int 0))) (.cons (.app 9 (.var 19)) .nil))))))))
def bR3 : Ss := (.cons (.asg (.many (.cons (.one 5) (.cons (.one 20) .nil))) (.call 6 (.cons (.var 5) (.cons (.bin .add (.bin .mul (.lst (.cons (.var 12) .nil)) (.bin .add (.int 1) (.pick 1 (.int 2)))) (.slc (.var 11) .no (.some (.int 1)))) .nil)))) (.cons (.asg (.one 8) (.bin .add (.var 8) (.tup (.cons (.tup (.cons (.var 3) (.cons (.b1 .tuple_ (.comp (.many (.cons (.one 21) (.cons (.one 15) (.cons (.one 22) .nil)))) (.seq (.var 10)) .nil [21, 15, 22] (.tup (.cons (.var 21) (.cons (.var 15) .nil))))) .nil))) .nil)))) (.cons (.iff (.or (.cons (.cmp .ne (.var 5) (.tup (.cons (.idx (.var 5) (.int 0)) (.cons (.tup .nil) (.cons (.var 8) .nil))))) (.cons (.cmp .ne (.idx (.var 20) (.int 0)) (.tup (.cons (.str "done") (.cons (.var 3) .nil)))) (.cons (.cmp .ne (.call 1 (.cons (.var 5) .nil)) (.var 3)) .nil)))) (.cons (.ret (.bl false)) .nil) .nil) (.cons (.par [(true, 9), (false, 6)] (.cons (.bin .add (.bin .add (.view 9) (.var 11)) (.lst (.cons (.var 12) .nil))) (.cons (.bin .add (.var 6) (.var 10)) .nil))) .nil))))
def bR2 : Ss := (.cons (.asg (.one 14) (.order 1 (.bin .add (.bin .add (.slc (.var 11) .no (.some (.var 13))) (.slc (.var 11) (.some (.bin .add (.var 13) (.int 1))) .no)) (.slc (.var 11) .no (.some (.pick 1 (.int 4))))))) (.cons (.asg (.one 5) (.idx (.call 6 (.cons (.var 5) (.cons (.comp (.one 24) (.seq (.var 14)) (.cons (.cmp .ne (.var 24) (.idx (.var 11) (.var 13))) .nil) [24] (.var 24)) .nil))) (.int 0))) (.cons (.iff (.not (.ev (.call 22 (.cons (.var 5) (.cons (.var 12) .nil))))) (.cons (.ret (.bl false)) .nil) .nil) (.cons (.asg (.many (.cons (.one 5) (.cons (.one 20) .nil))) (.call 5 (.cons (.var 5) (.cons (.idx (.var 11) (.var 13)) .nil)))) (.cons (.iff (.or (.cons (.cmp .ne (.var 20) (.tup (.cons (.tup (.cons (.str "held") (.cons (.var 7) (.cons (.var 3) (.cons (.idx (.var 2) (.var 13)) .nil))))) .nil))) (.cons (.cmp .ne (.call 1 (.cons (.var 5) .nil)) (.bin .sub (.var 3) (.int 1))) .nil))) (.cons (.ret (.bl false)) .nil) .nil) bR3)))))
def bR1 : Ss := (.cons (.asg (.one 12) (.tup (.cons (.str "commit") (.cons (.var 7) (.cons (.var 3) (.cons (.var 2) .nil)))))) (.cons (.asg (.one 13) (.pick 1 (.b1 .len (.var 2)))) bR2))
def bR0 : Ss := (.cons (.asg (.one 10) (.call 21 (.src 1 (.cons (.var 7) (.cons (.var 3) (.cons (.var 2) .nil)))))) (.cons (.asg (.one 11) (.comp (.many (.cons (.one 21) (.cons (.one 15) (.cons (.one 22) .nil)))) (.seq (.var 10)) .nil [21, 15, 22] (.idx (.var 22) (.int 2)))) (.cons (.iff (.cmp .ne (.var 11) (.comp (.many (.cons (.one 21) (.cons (.one 15) (.cons (.one 22) .nil)))) (.seq (.var 10)) .nil [21, 15, 22] (.tup (.cons (.str "hold") (.cons (.var 7) (.cons (.var 3) (.cons (.var 21) (.cons (.var 15) .nil)))))))) (.cons (.ret (.bl false)) .nil) .nil) (.cons (.iff (.cmp .ne (.comp (.many (.cons (.one 21) (.cons (.one 15) (.cons (.one 22) .nil)))) (.seq (.var 10)) .nil [21, 15, 22] (.call 17 (.cons (.idx (.var 22) (.int 0)) .nil))) (.comp (.one 24) (.seq (.var 11)) .nil [24] (.tup (.cons (.var 24) .nil)))) (.cons (.ret (.bl false)) .nil) .nil) bR1))))
def bTurn : Ss := (.cons (.iff (.cmp .eq (.pick 1 (.int 2)) (.int 0)) bGive .nil) bR0)
def bEnd : Ss := (.cons (.frz 9) (.cons (.for_ (.one 4) (.seq (.tup (.cons (.str "out") (.cons (.str "a") .nil)))) (.cons (.asg (.one 15) (.lst .nil)) (.cons (.for_ (.many (.cons (.one 21) (.cons (.one 18) (.cons (.one 22) .nil)))) (.seq (.var 6)) (.cons (.asg (.one 15) (.bin .add (.var 15) (.ifx (.cmp .eq (.idx (.var 21) (.int 0)) (.var 4)) (.b1 .list_ (.var 18)) (.lst .nil)))) .nil)) (.cons (.for_ (.one 16) (.seq (.tup (.cons (.var 5) (.cons (.idx (.call 6 (.cons (.var 5) (.cons (.var 9) .nil))) (.int 0)) .nil)))) (.cons (.iff (.cmp .ne (.call 8 (.cons (.var 16) (.cons (.var 4) .nil))) (.call 18 (.cons (.var 15) .nil))) (.cons (.ret (.bl false)) .nil) .nil) .nil)) .nil)))) (.cons (.ret (.and (.cmp .eq (.call 9 (.cons (.var 9) .nil)) (.tup .nil)) (.cmp .eq (.idx (.call 6 (.cons (.call 0 .nil) (.cons (.var 9) .nil))) (.int 0)) (.var 5)))) .nil)))
theorem b_law_eq : b_law = (.cons (.asg (.one 2) (.b1 .tuple_ (.comp (.one 23) (.range1 (.bin .add (.int 1) (.pick 1 (.int 2)))) .nil [23] (.tup (.cons (.str "a") (.cons (.var 23) .nil)))))) (.cons (.asg (.one 2) (.bin .add (.var 2) (.b1 .tuple_ (.comp (.one 23) (.range1 (.bin .add (.int 1) (.pick 1 (.int 3)))) .nil [23] (.tup (.cons (.str "out") (.cons (.var 23) .nil))))))) (.cons (.par [(false, 5), (false, 6), (false, 7), (false, 8), (true, 9)] (.cons (.call 0 .nil) (.cons (.lst .nil) (.cons (.int 1) (.cons (.tup .nil) (.cons (.lst .nil) .nil)))))) (.cons (.for_ (.one 3) (.range2 (.int 1) (.bin .add (.int 2) (.pick 1 (.int 5)))) bTurn) bEnd)))) := rfl
end K77
end DL
end
section
set_option Elab.async false
set_option linter.all false
set_option maxRecDepth 100000
set_option maxHeartbeats 4000000
/-! KP12: a round that is given up. -/
namespace DL
open PySem PySem.Spec PyProof.Rows L2
namespace K77
variable {Tt : Tb} {s : Src}
def envL (ts : List Tk) (N : Int) (o : Ou) (due : List (Int × Int × Lo)) (E : Int) (C : List Cm') (ls : List Lt) (x10 x11 x12 x13 x14 x17 x18 x19 x20 : Slot) : Env' :=
  [.no, .sr, .sh (.tuple (ts.map tkD)), .sh (.int N), .no, .sh o.D, .sh (.list (due.map dueD)), .sh (.int E), .sh (.tuple (C.map cmD)), .ow (.list (ls.map Lt.D)), x10, x11, x12, x13, x14, .no, .no, x17, x18, x19, x20, .no, .no, .no, .no]
theorem cut_take {ds : List D} {j : Int} (h : 0 ≤ j) : sliceF (.list ds) none (some j) = some (.list (ds.take j.toNat)) := by
  show some (PyData.list (cutA ds none (some j))) = _
  unfold cutA
  congr 2
  rw [HT.sIx_none]
  have e : HT.sIx ds.length ds.length (some j) = min j.toNat ds.length := by
    unfold HT.sIx
    simp
    omega
  rw [e]
  simp [List.take_eq_take_iff]
theorem letters_map {E N : Int} {ps : List Lo} : (ps.map fun p => (hdOf E N p).letter) = ((hds E N ps).map Lt.hold).map Lt.D := by
  rw [List.map_map, List.map_map]
  rfl
theorem w_give {ts : List Tk} {N E ep : Int} {C : List Cm'} {ls : List Lt} {due : List (Int × Int × Lo)} {x10 x11 x12 x13 x14 x17 x18 x19 x20 : Slot} (b : Btw 0 E ep C ls due) (ht : TsOk ts) (h5 : ts.length ≤ 5) (hN : lastN C = N - 1) (hC : C.length ≤ 5) :
    ∃ (ls' : List Lt) (y17 y18 y19 y20 : Slot) (s' : Src), evSs ⟨Tt, run fns Tt 6⟩ bGive (envL ts N ⟨ep, [], C⟩ due E C ls x10 x11 x12 x13 x14 x17 x18 x19 x20) s = some ((.next, envL ts N ⟨E + 1, [], C⟩ due (E + 1) C ls' x10 x11 x12 x13 x14 y17 y18 y19 y20), s') ∧ Btw 4 (E + 1) (E + 1) C ls' due := by
  obtain ⟨ps, s1, r1, hp, hl⟩ := r_holders (Tt := Tt) (n := 3) (s := s) (e := E) (k := N) (ts := ts) (by omega)
  have hpl : ps.length = ts.length := by rw [← hp, List.length_map]
  have hlim : (ps.map (tellD E N)).length ≤ lim := by rw [List.length_map]; exact Nat.le_trans (show ps.length ≤ 5 by omega) (by decide)
  rcases hp3 : pickF s1 3 with ⟨j, s2⟩
  have hb := pick_bounds s1 3 (by omega)
  rw [hp3] at hb
  obtain ⟨h0, h3⟩ := hb
  dsimp only at h0 h3
  have M0 : ∃ M, M = (hds E N ps).take (1 + j).toNat := ⟨_, rfl⟩
  obtain ⟨M, hM⟩ := M0
  have hMU : ∀ a ∈ M, a ∈ hds E N ps := fun a ha => by rw [hM] at ha; exact List.mem_of_mem_take ha
  have hM3 : M.length ≤ 3 := by rw [hM, List.length_take]; omega
  have cut : sliceF (.list (ps.map fun p => (hdOf E N p).letter)) none (some (1 + j)) = some (.list ((M.map Lt.hold).map Lt.D)) := by
    rw [cut_take (by omega), letters_map, hM, List.map_take, List.map_take]
  have b' := b.give (M := M) ht hp hN hMU hM3 hl
  obtain ⟨hs', e1, hsub, e2, e3⟩ := hold_drop (ep := ep) (C := C) ht hp b.hep hN hMU
  have ok0 : OkO 5 ⟨ep, [], C⟩ := ⟨by simp, hC, by simp⟩
  have okM : ∀ l ∈ M.map Lt.hold, OkL l := fun l hh => by
    obtain ⟨a, ha, rfl⟩ := List.mem_map.mp hh
    exact okl_hds hl a (hMU a ha)
  have lM : (M.map Lt.hold).length ≤ 3 := by rw [List.length_map]; exact hM3
  have big5 : 100 < lim := by decide
  have q1 := r_hearAll (Tt := Tt) (n := 2) (s := s2) ok0 okM (by omega)
  have ok1 := (hearAll_ok ok0 okM).1
  rw [e1] at q1 ok1
  have q2 := r_heard (Tt := Tt) (n := 3) (s := s2) (l := .drop (E + 1) (N - 1)) ok1 trivial (by omega)
  rw [e2] at q2
  have ok2 : OkO 5 ⟨E + 1, [], C⟩ := ⟨by simp, hC, by simp⟩
  have q3 := r_hearAll (Tt := Tt) (n := 2) (s := s2) ok2 okM (by omega)
  rw [e3] at q3
  have hls : ls.length ≤ 50 := by have := b.len; omega
  have ad : addF (.list (ls.map Lt.D)) (.list ((M.map Lt.hold).map Lt.D)) = some (.list ((ls ++ M.map Lt.hold).map Lt.D)) := by
    rw [addL (by rw [List.length_map, List.length_map]; omega), List.map_append]
  have la : ((ls ++ M.map Lt.hold).map Lt.D).length < lim := by rw [List.length_map, List.length_append]; omega
  have sC : Sm 7 (.tuple (C.map cmD)) := Sm.tup fun d hd => by
    obtain ⟨c, hc, rfl⟩ := List.mem_map.mp hd
    exact sm_cm fun p hp => ((b.rows c hc).2 p hp).2
  have c1 := eqB_refl (sC.shaped (by omega))
  have c2 : eqB (.tuple [.tuple [.str "dropped", .int (E + 1)]]) (.tuple [.tuple [.str "dropped", .int (E + 1)]]) = some true := eqB_refl (Sm.shaped (m := 2) (Sm.tup fun d hd => by
    simp only [List.mem_cons, List.not_mem_nil, or_false] at hd
    subst hd
    exact Sm.tup fun d hd => by
      simp only [List.mem_cons, List.not_mem_nil, or_false] at hd
      rcases hd with rfl | rfl
      · exact ⟨by decide +kernel, by simp [PyData.depth]⟩
      · exact Sm.int _ _) (by omega))
  have c3 : eqB (.tuple [.int (E + 1), .tuple []]) (.tuple [.int (E + 1), .tuple []]) = some true := eqB_refl (by simp [SeqAt.shaped, PyData.canLay0, PyData.canLayAll0, PyData.depth, PyData.depthAll])
  refine ⟨ls ++ M.map Lt.hold ++ [.drop (E + 1) (N - 1)], .sh (.list (ps.map (tellD E N))), .sh (.list ((M.map Lt.hold).map Lt.D)), .sh (drpD (E + 1) (N - 1)), .sh (.tuple [.tuple [.str "dropped", .int (E + 1)]]), s2, ?_, b'⟩
  have q2 : run fns Tt 6 5 [.sh (Ou.D ⟨ep, hs', C⟩), .sh (.tuple [.str "drop", .int (E + 1), .int (N - 1)])] s2 = _ := q2
  unfold bGive envL
  simp only [evSs, evS, evE, evEs, evO, evAs, evT, evTs, evTo, evIt, bind_one, bind_many, binds_nil, binds_cons, Option.bind_some, Option.bind_none, Option.map_some, Option.map_none, List.getElem?_cons_zero, List.getElem?_cons_succ, List.set_cons_zero, List.set_cons_succ, List.length_cons, List.length_nil, List.replicate_succ, List.replicate_zero, List.cons_append, List.nil_append, Nat.lt_irrefl, if_true, if_false, lim_0, lim_1, lim_2, lim_3, lim_4, lim_5, lim_6, lim_7, lim_8, idx_t0, idx_t1, idx_t2, idx_t3, idx_t4, idx_l0, seqItems, Op2.F, Cm.F, Cm.T, B1.F, B2.F, tup_l, tup_t, lst_t, lst_l, len_t, len_l, truth_t, truth_l, truth_b, truth_i, truth_n, negF, addI, subI, List.append_assoc, ite_self, Bool.false_eq_true, reduceIte, sub_n, Nat.zero_add, Nat.reduceAdd, Nat.reduceLT, Nat.reduceLeDiff, Nat.reduceSub, Bool.not_true, Bool.not_false, List.isEmpty_cons, List.isEmpty_nil, idx_last, fin, wipeE, noOw, List.all_cons, List.all_nil, Bool.and_true, Bool.true_and, Bool.and_self, and_true, true_and, and_self, isE_app, cut_14, cut_1, cut_03, cut_02, eq_self_iff_true, Bool.not_eq_true, decide_true, decide_false, ltI, leI, gtI, geI, r1, hlim]
  rw [comp_map (g := fun p => some (hdOf E N p).letter) (fun p _ s => by simp only [tellD, toldD, evSs, evS, evE, evEs, evO, evAs, evT, evTs, evTo, evIt, bind_one, bind_many, binds_nil, binds_cons, Option.bind_some, Option.bind_none, Option.map_some, Option.map_none, List.getElem?_cons_zero, List.getElem?_cons_succ, List.set_cons_zero, List.set_cons_succ, List.length_cons, List.length_nil, List.replicate_succ, List.replicate_zero, List.cons_append, List.nil_append, Nat.lt_irrefl, if_true, if_false, lim_0, lim_1, lim_2, lim_3, lim_4, lim_5, lim_6, lim_7, lim_8, idx_t0, idx_t1, idx_t2, idx_t3, idx_t4, idx_l0, seqItems, Op2.F, Cm.F, Cm.T, B1.F, B2.F, tup_l, tup_t, lst_t, lst_l, len_t, len_l, truth_t, truth_l, truth_b, truth_i, truth_n, negF, addI, subI, List.append_assoc, ite_self, Bool.false_eq_true, reduceIte, sub_n, Nat.zero_add, Nat.reduceAdd, Nat.reduceLT, Nat.reduceLeDiff, Nat.reduceSub, Bool.not_true, Bool.not_false, List.isEmpty_cons, List.isEmpty_nil, idx_last, fin, wipeE, noOw, List.all_cons, List.all_nil, Bool.and_true, Bool.true_and, Bool.and_self, and_true, true_and, and_self, isE_app, cut_14, cut_1, cut_03, cut_02, eq_self_iff_true, Bool.not_eq_true, decide_true, decide_false, ltI, leI, gtI, geI])]
  have ek : (ps.filterMap fun p => some (hdOf E N p).letter) = ps.map fun p => (hdOf E N p).letter := by simp
  rw [ek]
  simp only [evSs, evS, evE, evEs, evO, evAs, evT, evTs, evTo, evIt, bind_one, bind_many, binds_nil, binds_cons, Option.bind_some, Option.bind_none, Option.map_some, Option.map_none, List.getElem?_cons_zero, List.getElem?_cons_succ, List.set_cons_zero, List.set_cons_succ, List.length_cons, List.length_nil, List.replicate_succ, List.replicate_zero, List.cons_append, List.nil_append, Nat.lt_irrefl, if_true, if_false, lim_0, lim_1, lim_2, lim_3, lim_4, lim_5, lim_6, lim_7, lim_8, idx_t0, idx_t1, idx_t2, idx_t3, idx_t4, idx_l0, seqItems, Op2.F, Cm.F, Cm.T, B1.F, B2.F, tup_l, tup_t, lst_t, lst_l, len_t, len_l, truth_t, truth_l, truth_b, truth_i, truth_n, negF, addI, subI, List.append_assoc, ite_self, Bool.false_eq_true, reduceIte, sub_n, Nat.zero_add, Nat.reduceAdd, Nat.reduceLT, Nat.reduceLeDiff, Nat.reduceSub, Bool.not_true, Bool.not_false, List.isEmpty_cons, List.isEmpty_nil, idx_last, fin, wipeE, noOw, List.all_cons, List.all_nil, Bool.and_true, Bool.true_and, Bool.and_self, and_true, true_and, and_self, isE_app, cut_14, cut_1, cut_03, cut_02, eq_self_iff_true, Bool.not_eq_true, decide_true, decide_false, ltI, leI, gtI, geI, big (show (3 : Int) ≤ 1000000000000 by omega), hp3, cut, q1, ad, setKs, mutD, q2, c2]
  have d1 : sliceF (Ou.D ⟨E + 1, [], C⟩) none (some 2) = some (.tuple [.int (E + 1), .tuple []]) := cut_02
  have d2 : idxF (Ou.D ⟨E + 1, [], C⟩) (.int 2) = some (.tuple (C.map cmD)) := idx_t2
  have el : (ls ++ (M.map Lt.hold ++ [Lt.drop (E + 1) (N - 1)])).map Lt.D = (ls ++ M.map Lt.hold).map Lt.D ++ [.tuple [.str "drop", .int (E + 1), .int (N - 1)]] := by rw [← List.append_assoc, List.map_append]; rfl
  rw [el]
  simp only [evSs, evS, evE, evEs, evO, evAs, evT, evTs, evTo, evIt, bind_one, bind_many, binds_nil, binds_cons, Option.bind_some, Option.bind_none, Option.map_some, Option.map_none, List.getElem?_cons_zero, List.getElem?_cons_succ, List.set_cons_zero, List.set_cons_succ, List.length_cons, List.length_nil, List.replicate_succ, List.replicate_zero, List.cons_append, List.nil_append, Nat.lt_irrefl, if_true, if_false, lim_0, lim_1, lim_2, lim_3, lim_4, lim_5, lim_6, lim_7, lim_8, idx_t0, idx_t1, idx_t2, idx_t3, idx_t4, idx_l0, seqItems, Op2.F, Cm.F, Cm.T, B1.F, B2.F, tup_l, tup_t, lst_t, lst_l, len_t, len_l, truth_t, truth_l, truth_b, truth_i, truth_n, negF, addI, subI, List.append_assoc, ite_self, Bool.false_eq_true, reduceIte, sub_n, Nat.zero_add, Nat.reduceAdd, Nat.reduceLT, Nat.reduceLeDiff, Nat.reduceSub, Bool.not_true, Bool.not_false, List.isEmpty_cons, List.isEmpty_nil, idx_last, fin, wipeE, noOw, List.all_cons, List.all_nil, Bool.and_true, Bool.true_and, Bool.and_self, and_true, true_and, and_self, isE_app, cut_14, cut_1, cut_03, cut_02, eq_self_iff_true, Bool.not_eq_true, decide_true, decide_false, ltI, leI, gtI, geI, d1, d2, c1, c3, q3, la]
  rfl
end K77
end DL
end
section
set_option Elab.async false
set_option linter.all false
set_option maxRecDepth 100000
set_option maxHeartbeats 4000000
/-! KP13: a round: the letters are as told. -/
namespace DL
open PySem PySem.Spec PyProof.Rows L2
namespace K77
variable {Tt : Tb} {s : Src}
theorem w_r0 {ts : List Tk} {N E ep : Int} {C : List Cm'} {ls : List Lt} {due : List (Int × Int × Lo)} {x10 x11 x12 x13 x14 x17 x18 x19 x20 : Slot} (h5 : ts.length ≤ 5) :
    ∃ (ps : List Lo) (s' : Src), evSs ⟨Tt, run fns Tt 6⟩ bR0 (envL ts N ⟨ep, [], C⟩ due E C ls x10 x11 x12 x13 x14 x17 x18 x19 x20) s = evSs ⟨Tt, run fns Tt 6⟩ bR1 (envL ts N ⟨ep, [], C⟩ due E C ls (.sh (.list (ps.map (tellD E N)))) (.sh (.list (ps.map fun p => (hdOf E N p).letter))) x12 x13 x14 x17 x18 x19 x20) s' ∧ ps.map (·.1) = ts ∧ ∀ p ∈ ps, LoOk p := by
  obtain ⟨ps, s1, r1, hp, hl⟩ := r_holders (Tt := Tt) (n := 3) (s := s) (e := E) (k := N) (ts := ts) (by omega)
  refine ⟨ps, s1, ?_, hp, hl⟩
  have hpl : ps.length = ts.length := by rw [← hp, List.length_map]
  have hlim : (ps.map (tellD E N)).length ≤ lim := by rw [List.length_map]; exact Nat.le_trans (show ps.length ≤ 5 by omega) (by decide)
  have hlim2 : (ps.map fun p => (hdOf E N p).letter).length ≤ lim := by rw [List.length_map]; exact Nat.le_trans (show ps.length ≤ 5 by omega) (by decide)
  have sL : ∀ p ∈ ps, Sm 4 (hdOf E N p).letter := fun p hp => sm_letter (hl p hp).2
  have c1 := eqB_refl ((Sm.lst fun d hd => by obtain ⟨p, hp, rfl⟩ := List.mem_map.mp hd; exact sL p hp : Sm 5 (.list (ps.map fun p => (hdOf E N p).letter))).shaped (by omega))
  have c2 := eqB_refl ((Sm.lst fun d hd => by
    obtain ⟨p, hp, rfl⟩ := List.mem_map.mp hd
    exact Sm.tup fun d hd => by
      simp only [List.mem_cons, List.not_mem_nil, or_false] at hd
      subst hd
      exact sL p hp : Sm 6 (.list (ps.map fun p => PyData.tuple [(hdOf E N p).letter]))).shaped (by omega))
  unfold bR0 envL
  simp only [evSs, evS, evE, evEs, evO, evAs, evT, evTs, evTo, evIt, bind_one, bind_many, binds_nil, binds_cons, Option.bind_some, Option.bind_none, Option.map_some, Option.map_none, List.getElem?_cons_zero, List.getElem?_cons_succ, List.set_cons_zero, List.set_cons_succ, List.length_cons, List.length_nil, List.replicate_succ, List.replicate_zero, List.cons_append, List.nil_append, Nat.lt_irrefl, if_true, if_false, lim_0, lim_1, lim_2, lim_3, lim_4, lim_5, lim_6, lim_7, lim_8, idx_t0, idx_t1, idx_t2, idx_t3, idx_t4, idx_l0, seqItems, Op2.F, Cm.F, Cm.T, B1.F, B2.F, tup_l, tup_t, lst_t, lst_l, len_t, len_l, truth_t, truth_l, truth_b, truth_i, truth_n, negF, addI, subI, List.append_assoc, ite_self, Bool.false_eq_true, reduceIte, sub_n, Nat.zero_add, Nat.reduceAdd, Nat.reduceLT, Nat.reduceLeDiff, Nat.reduceSub, Bool.not_true, Bool.not_false, List.isEmpty_cons, List.isEmpty_nil, idx_last, fin, wipeE, noOw, List.all_cons, List.all_nil, Bool.and_true, Bool.true_and, Bool.and_self, and_true, true_and, and_self, isE_app, cut_14, cut_1, cut_03, cut_02, eq_self_iff_true, Bool.not_eq_true, decide_true, decide_false, ltI, leI, gtI, geI, r1, hlim]
  rw [comp_map (g := fun p => some (hdOf E N p).letter) (fun p _ s => by simp only [tellD, toldD, evSs, evS, evE, evEs, evO, evAs, evT, evTs, evTo, evIt, bind_one, bind_many, binds_nil, binds_cons, Option.bind_some, Option.bind_none, Option.map_some, Option.map_none, List.getElem?_cons_zero, List.getElem?_cons_succ, List.set_cons_zero, List.set_cons_succ, List.length_cons, List.length_nil, List.replicate_succ, List.replicate_zero, List.cons_append, List.nil_append, Nat.lt_irrefl, if_true, if_false, lim_0, lim_1, lim_2, lim_3, lim_4, lim_5, lim_6, lim_7, lim_8, idx_t0, idx_t1, idx_t2, idx_t3, idx_t4, idx_l0, seqItems, Op2.F, Cm.F, Cm.T, B1.F, B2.F, tup_l, tup_t, lst_t, lst_l, len_t, len_l, truth_t, truth_l, truth_b, truth_i, truth_n, negF, addI, subI, List.append_assoc, ite_self, Bool.false_eq_true, reduceIte, sub_n, Nat.zero_add, Nat.reduceAdd, Nat.reduceLT, Nat.reduceLeDiff, Nat.reduceSub, Bool.not_true, Bool.not_false, List.isEmpty_cons, List.isEmpty_nil, idx_last, fin, wipeE, noOw, List.all_cons, List.all_nil, Bool.and_true, Bool.true_and, Bool.and_self, and_true, true_and, and_self, isE_app, cut_14, cut_1, cut_03, cut_02, eq_self_iff_true, Bool.not_eq_true, decide_true, decide_false, ltI, leI, gtI, geI])]
  have ek : (ps.filterMap fun p => some (hdOf E N p).letter) = ps.map fun p => (hdOf E N p).letter := by simp
  rw [ek]
  simp only [evSs, evS, evE, evEs, evO, evAs, evT, evTs, evTo, evIt, bind_one, bind_many, binds_nil, binds_cons, Option.bind_some, Option.bind_none, Option.map_some, Option.map_none, List.getElem?_cons_zero, List.getElem?_cons_succ, List.set_cons_zero, List.set_cons_succ, List.length_cons, List.length_nil, List.replicate_succ, List.replicate_zero, List.cons_append, List.nil_append, Nat.lt_irrefl, if_true, if_false, lim_0, lim_1, lim_2, lim_3, lim_4, lim_5, lim_6, lim_7, lim_8, idx_t0, idx_t1, idx_t2, idx_t3, idx_t4, idx_l0, seqItems, Op2.F, Cm.F, Cm.T, B1.F, B2.F, tup_l, tup_t, lst_t, lst_l, len_t, len_l, truth_t, truth_l, truth_b, truth_i, truth_n, negF, addI, subI, List.append_assoc, ite_self, Bool.false_eq_true, reduceIte, sub_n, Nat.zero_add, Nat.reduceAdd, Nat.reduceLT, Nat.reduceLeDiff, Nat.reduceSub, Bool.not_true, Bool.not_false, List.isEmpty_cons, List.isEmpty_nil, idx_last, fin, wipeE, noOw, List.all_cons, List.all_nil, Bool.and_true, Bool.true_and, Bool.and_self, and_true, true_and, and_self, isE_app, cut_14, cut_1, cut_03, cut_02, eq_self_iff_true, Bool.not_eq_true, decide_true, decide_false, ltI, leI, gtI, geI, hlim]
  rw [comp_map (g := fun p => some (hdOf E N p).letter) (fun p _ s => by simp only [tellD, toldD, evSs, evS, evE, evEs, evO, evAs, evT, evTs, evTo, evIt, bind_one, bind_many, binds_nil, binds_cons, Option.bind_some, Option.bind_none, Option.map_some, Option.map_none, List.getElem?_cons_zero, List.getElem?_cons_succ, List.set_cons_zero, List.set_cons_succ, List.length_cons, List.length_nil, List.replicate_succ, List.replicate_zero, List.cons_append, List.nil_append, Nat.lt_irrefl, if_true, if_false, lim_0, lim_1, lim_2, lim_3, lim_4, lim_5, lim_6, lim_7, lim_8, idx_t0, idx_t1, idx_t2, idx_t3, idx_t4, idx_l0, seqItems, Op2.F, Cm.F, Cm.T, B1.F, B2.F, tup_l, tup_t, lst_t, lst_l, len_t, len_l, truth_t, truth_l, truth_b, truth_i, truth_n, negF, addI, subI, List.append_assoc, ite_self, Bool.false_eq_true, reduceIte, sub_n, Nat.zero_add, Nat.reduceAdd, Nat.reduceLT, Nat.reduceLeDiff, Nat.reduceSub, Bool.not_true, Bool.not_false, List.isEmpty_cons, List.isEmpty_nil, idx_last, fin, wipeE, noOw, List.all_cons, List.all_nil, Bool.and_true, Bool.true_and, Bool.and_self, and_true, true_and, and_self, isE_app, cut_14, cut_1, cut_03, cut_02, eq_self_iff_true, Bool.not_eq_true, decide_true, decide_false, ltI, leI, gtI, geI]; rfl)]
  rw [ek]
  simp only [evSs, evS, evE, evEs, evO, evAs, evT, evTs, evTo, evIt, bind_one, bind_many, binds_nil, binds_cons, Option.bind_some, Option.bind_none, Option.map_some, Option.map_none, List.getElem?_cons_zero, List.getElem?_cons_succ, List.set_cons_zero, List.set_cons_succ, List.length_cons, List.length_nil, List.replicate_succ, List.replicate_zero, List.cons_append, List.nil_append, Nat.lt_irrefl, if_true, if_false, lim_0, lim_1, lim_2, lim_3, lim_4, lim_5, lim_6, lim_7, lim_8, idx_t0, idx_t1, idx_t2, idx_t3, idx_t4, idx_l0, seqItems, Op2.F, Cm.F, Cm.T, B1.F, B2.F, tup_l, tup_t, lst_t, lst_l, len_t, len_l, truth_t, truth_l, truth_b, truth_i, truth_n, negF, addI, subI, List.append_assoc, ite_self, Bool.false_eq_true, reduceIte, sub_n, Nat.zero_add, Nat.reduceAdd, Nat.reduceLT, Nat.reduceLeDiff, Nat.reduceSub, Bool.not_true, Bool.not_false, List.isEmpty_cons, List.isEmpty_nil, idx_last, fin, wipeE, noOw, List.all_cons, List.all_nil, Bool.and_true, Bool.true_and, Bool.and_self, and_true, true_and, and_self, isE_app, cut_14, cut_1, cut_03, cut_02, eq_self_iff_true, Bool.not_eq_true, decide_true, decide_false, ltI, leI, gtI, geI, c1, hlim]
  rw [comp_map (g := fun p => some (.tuple [(hdOf E N p).letter])) (fun p _ s => by
    have e0 : idxF (toldD E N p) (.int 0) = some (.tuple (toldH E N p ++ [(hdOf E N p).letter])) := idx_t0
    have r := r_again (Tt := Tt) (n := 5) (s := s) (a := toldH E N p) (h := hdOf E N p) (by unfold toldH; split <;> exact Nat.lt_of_le_of_lt (show _ ≤ 5 by simp) (by decide))
    simp only [tellD, evSs, evS, evE, evEs, evO, evAs, evT, evTs, evTo, evIt, bind_one, bind_many, binds_nil, binds_cons, Option.bind_some, Option.bind_none, Option.map_some, Option.map_none, List.getElem?_cons_zero, List.getElem?_cons_succ, List.set_cons_zero, List.set_cons_succ, List.length_cons, List.length_nil, List.replicate_succ, List.replicate_zero, List.cons_append, List.nil_append, Nat.lt_irrefl, if_true, if_false, lim_0, lim_1, lim_2, lim_3, lim_4, lim_5, lim_6, lim_7, lim_8, idx_t0, idx_t1, idx_t2, idx_t3, idx_t4, idx_l0, seqItems, Op2.F, Cm.F, Cm.T, B1.F, B2.F, tup_l, tup_t, lst_t, lst_l, len_t, len_l, truth_t, truth_l, truth_b, truth_i, truth_n, negF, addI, subI, List.append_assoc, ite_self, Bool.false_eq_true, reduceIte, sub_n, Nat.zero_add, Nat.reduceAdd, Nat.reduceLT, Nat.reduceLeDiff, Nat.reduceSub, Bool.not_true, Bool.not_false, List.isEmpty_cons, List.isEmpty_nil, idx_last, fin, wipeE, noOw, List.all_cons, List.all_nil, Bool.and_true, Bool.true_and, Bool.and_self, and_true, true_and, and_self, isE_app, cut_14, cut_1, cut_03, cut_02, eq_self_iff_true, Bool.not_eq_true, decide_true, decide_false, ltI, leI, gtI, geI, e0, r])]
  have ek2 : (ps.filterMap fun p => some (PyData.tuple [(hdOf E N p).letter])) = ps.map fun p => PyData.tuple [(hdOf E N p).letter] := by simp
  rw [ek2]
  simp only [evSs, evS, evE, evEs, evO, evAs, evT, evTs, evTo, evIt, bind_one, bind_many, binds_nil, binds_cons, Option.bind_some, Option.bind_none, Option.map_some, Option.map_none, List.getElem?_cons_zero, List.getElem?_cons_succ, List.set_cons_zero, List.set_cons_succ, List.length_cons, List.length_nil, List.replicate_succ, List.replicate_zero, List.cons_append, List.nil_append, Nat.lt_irrefl, if_true, if_false, lim_0, lim_1, lim_2, lim_3, lim_4, lim_5, lim_6, lim_7, lim_8, idx_t0, idx_t1, idx_t2, idx_t3, idx_t4, idx_l0, seqItems, Op2.F, Cm.F, Cm.T, B1.F, B2.F, tup_l, tup_t, lst_t, lst_l, len_t, len_l, truth_t, truth_l, truth_b, truth_i, truth_n, negF, addI, subI, List.append_assoc, ite_self, Bool.false_eq_true, reduceIte, sub_n, Nat.zero_add, Nat.reduceAdd, Nat.reduceLT, Nat.reduceLeDiff, Nat.reduceSub, Bool.not_true, Bool.not_false, List.isEmpty_cons, List.isEmpty_nil, idx_last, fin, wipeE, noOw, List.all_cons, List.all_nil, Bool.and_true, Bool.true_and, Bool.and_self, and_true, true_and, and_self, isE_app, cut_14, cut_1, cut_03, cut_02, eq_self_iff_true, Bool.not_eq_true, decide_true, decide_false, ltI, leI, gtI, geI, hlim2]
  rw [comp_map (g := fun p => some (.tuple [(hdOf E N p).letter])) (fun p _ s => by simp only [evSs, evS, evE, evEs, evO, evAs, evT, evTs, evTo, evIt, bind_one, bind_many, binds_nil, binds_cons, Option.bind_some, Option.bind_none, Option.map_some, Option.map_none, List.getElem?_cons_zero, List.getElem?_cons_succ, List.set_cons_zero, List.set_cons_succ, List.length_cons, List.length_nil, List.replicate_succ, List.replicate_zero, List.cons_append, List.nil_append, Nat.lt_irrefl, if_true, if_false, lim_0, lim_1, lim_2, lim_3, lim_4, lim_5, lim_6, lim_7, lim_8, idx_t0, idx_t1, idx_t2, idx_t3, idx_t4, idx_l0, seqItems, Op2.F, Cm.F, Cm.T, B1.F, B2.F, tup_l, tup_t, lst_t, lst_l, len_t, len_l, truth_t, truth_l, truth_b, truth_i, truth_n, negF, addI, subI, List.append_assoc, ite_self, Bool.false_eq_true, reduceIte, sub_n, Nat.zero_add, Nat.reduceAdd, Nat.reduceLT, Nat.reduceLeDiff, Nat.reduceSub, Bool.not_true, Bool.not_false, List.isEmpty_cons, List.isEmpty_nil, idx_last, fin, wipeE, noOw, List.all_cons, List.all_nil, Bool.and_true, Bool.true_and, Bool.and_self, and_true, true_and, and_self, isE_app, cut_14, cut_1, cut_03, cut_02, eq_self_iff_true, Bool.not_eq_true, decide_true, decide_false, ltI, leI, gtI, geI])]
  rw [ek2]
  simp only [evSs, evS, evE, evEs, evO, evAs, evT, evTs, evTo, evIt, bind_one, bind_many, binds_nil, binds_cons, Option.bind_some, Option.bind_none, Option.map_some, Option.map_none, List.getElem?_cons_zero, List.getElem?_cons_succ, List.set_cons_zero, List.set_cons_succ, List.length_cons, List.length_nil, List.replicate_succ, List.replicate_zero, List.cons_append, List.nil_append, Nat.lt_irrefl, if_true, if_false, lim_0, lim_1, lim_2, lim_3, lim_4, lim_5, lim_6, lim_7, lim_8, idx_t0, idx_t1, idx_t2, idx_t3, idx_t4, idx_l0, seqItems, Op2.F, Cm.F, Cm.T, B1.F, B2.F, tup_l, tup_t, lst_t, lst_l, len_t, len_l, truth_t, truth_l, truth_b, truth_i, truth_n, negF, addI, subI, List.append_assoc, ite_self, Bool.false_eq_true, reduceIte, sub_n, Nat.zero_add, Nat.reduceAdd, Nat.reduceLT, Nat.reduceLeDiff, Nat.reduceSub, Bool.not_true, Bool.not_false, List.isEmpty_cons, List.isEmpty_nil, idx_last, fin, wipeE, noOw, List.all_cons, List.all_nil, Bool.and_true, Bool.true_and, Bool.and_self, and_true, true_and, and_self, isE_app, cut_14, cut_1, cut_03, cut_02, eq_self_iff_true, Bool.not_eq_true, decide_true, decide_false, ltI, leI, gtI, geI, c2]
end K77
end DL
end
section
set_option Elab.async false
set_option linter.all false
set_option maxRecDepth 100000
set_option maxHeartbeats 4000000
/-! KP14: a round: which letter is missing, in which order they come. -/
namespace DL
open PySem PySem.Spec PyProof.Rows L2
namespace K77
variable {Tt : Tb} {s : Src}
theorem w_r1 {ts : List Tk} {N E ep : Int} {C : List Cm'} {ls : List Lt} {due : List (Int × Int × Lo)} {x10 x11 x12 x13 x14 x17 x18 x19 x20 : Slot} (h5 : ts.length ≤ 5) (h1 : 1 ≤ ts.length) :
    ∃ (m : Nat) (s' : Src), evSs ⟨Tt, run fns Tt 6⟩ bR1 (envL ts N ⟨ep, [], C⟩ due E C ls x10 x11 x12 x13 x14 x17 x18 x19 x20) s = evSs ⟨Tt, run fns Tt 6⟩ bR2 (envL ts N ⟨ep, [], C⟩ due E C ls x10 x11 (.sh (comD E N ts)) (.sh (.int (m : Int))) x14 x17 x18 x19 x20) s' ∧ m < ts.length := by
  have hb := pick_bounds s (ts.length : Int) (by omega)
  rcases hp : pickF s (ts.length : Int) with ⟨j, s1⟩
  rw [hp] at hb
  obtain ⟨h0, h3⟩ := hb
  dsimp only at h0 h3
  refine ⟨j.toNat, s1, ?_, by omega⟩
  rw [Int.toNat_of_nonneg h0]
  unfold bR1 envL
  simp only [evSs, evS, evE, evEs, evO, evAs, evT, evTs, evTo, evIt, bind_one, bind_many, binds_nil, binds_cons, Option.bind_some, Option.bind_none, Option.map_some, Option.map_none, List.getElem?_cons_zero, List.getElem?_cons_succ, List.set_cons_zero, List.set_cons_succ, List.length_cons, List.length_nil, List.replicate_succ, List.replicate_zero, List.cons_append, List.nil_append, Nat.lt_irrefl, if_true, if_false, lim_0, lim_1, lim_2, lim_3, lim_4, lim_5, lim_6, lim_7, lim_8, idx_t0, idx_t1, idx_t2, idx_t3, idx_t4, idx_l0, seqItems, Op2.F, Cm.F, Cm.T, B1.F, B2.F, tup_l, tup_t, lst_t, lst_l, len_t, len_l, truth_t, truth_l, truth_b, truth_i, truth_n, negF, addI, subI, List.append_assoc, ite_self, Bool.false_eq_true, reduceIte, sub_n, Nat.zero_add, Nat.reduceAdd, Nat.reduceLT, Nat.reduceLeDiff, Nat.reduceSub, Bool.not_true, Bool.not_false, List.isEmpty_cons, List.isEmpty_nil, idx_last, fin, wipeE, noOw, List.all_cons, List.all_nil, Bool.and_true, Bool.true_and, Bool.and_self, and_true, true_and, and_self, isE_app, cut_14, cut_1, cut_03, cut_02, eq_self_iff_true, Bool.not_eq_true, decide_true, decide_false, ltI, leI, gtI, geI, List.length_map, big (show (ts.length : Int) ≤ 1000000000000 by omega), hp]
  rfl
theorem erase_map {α : Type} (f : α → D) (X : List α) (i : Nat) : (X.map f).eraseIdx i = (X.eraseIdx i).map f := by
  rw [List.eraseIdx_eq_take_drop_succ, List.eraseIdx_eq_take_drop_succ, List.map_append, List.map_take, List.map_drop]
theorem erase_perm {α : Type} : ∀ (X : List α) (i : Nat) (h : i < X.length), (X[i] :: X.eraseIdx i).Perm X
  | x :: X, 0, _ => .refl _
  | x :: X, i + 1, h => by
    have hi : i < X.length := by simpa using h
    have ih := erase_perm X i hi
    exact (List.Perm.swap x (X[i]'hi) (X.eraseIdx i)).trans (ih.cons x)
theorem order_perm {α : Type} (f : α → D) : ∀ (k : Nat) (X : List α) (s : Src), X.length = k → ∃ (Y : List α) (s' : Src), orderF k (X.map f) s = (Y.map f, s') ∧ Y.Perm X
  | 0, X, s, h => by
    rw [List.length_eq_zero_iff] at h
    subst h
    exact ⟨[], s, rfl, .nil⟩
  | k + 1, X, s, h => by
    have hb := pick_bounds s (X.length : Int) (by omega)
    rcases hp : pickF s (X.length : Int) with ⟨j, s1⟩
    rw [hp] at hb
    obtain ⟨h0, h3⟩ := hb
    dsimp only at h0 h3
    have hj : j.toNat < X.length := by omega
    obtain ⟨Y, s2, e, pm⟩ := order_perm f k (X.eraseIdx j.toNat) s1 (by rw [List.length_eraseIdx_of_lt hj]; omega)
    refine ⟨X[j.toNat] :: Y, s2, ?_, ?_⟩
    · unfold orderF
      rw [List.length_map, hp]
      dsimp only
      rw [erase_map, e, List.getElem?_map, List.getElem?_eq_getElem hj]
      rfl
    · exact (pm.cons _).trans (erase_perm X j.toNat hj)
end K77
end DL
end
section
set_option Elab.async false
set_option linter.all false
set_option maxRecDepth 100000
set_option maxHeartbeats 4000000
/-! KP15: a round: all but one, then that one. -/
namespace DL
open PySem PySem.Spec PyProof.Rows L2
namespace K77
variable {Tt : Tb} {s : Src}
theorem cut_drop {ds : List D} {j : Int} (h : 0 ≤ j) : sliceF (.list ds) (some j) none = some (.list (ds.drop j.toNat)) := by
  show some (PyData.list (cutA ds (some j) none)) = _
  unfold cutA
  congr 2
  have e : HT.sIx ds.length 0 (some j) = min j.toNat ds.length := by
    unfold HT.sIx
    simp
    omega
  rw [e, HT.sIx_none]
  rcases Nat.le_total j.toNat ds.length with z | z
  · rw [Nat.min_eq_left z, List.take_of_length_le (by simp)]
  · rw [Nat.min_eq_right z, List.drop_of_length_le z, List.drop_of_length_le (Nat.le_refl _)]
    simp
theorem letter_ne {E N : Int} {U : List Hd} (r : Rnd E N U) (hr : ∀ h ∈ U, ∀ x ∈ h.rows, RowOk x) {a b : Hd} (ha : a ∈ U) (hb : b ∈ U) [Decidable (a = b)] : eqB a.letter b.letter = some (decide (a = b)) := by
  rw [eqB_sh ((sm_letter (hr a ha)).shaped (by omega)) ((sm_letter (hr b hb)).shaped (by omega))]
  by_cases h : a = b
  · subst h
    rw [SeqAt.eqv_refl _ (sm_letter (hr a ha)).1]
    simp
  · have ht : a.t ≠ b.t := fun z => h (r.inj a ha b hb z)
    simp only [Hd.letter, PyData.eqv, PyData.eqvAll, tk_eqv, decide_eq_false ht, decide_eq_false h, Bool.and_false, Bool.false_and]
end K77
end DL
end
section
set_option Elab.async false
set_option linter.all false
set_option maxRecDepth 100000
set_option maxHeartbeats 4000000
/-! KP16: a round: all but one, then that one (the walk of bR2). -/
namespace DL
open PySem PySem.Spec PyProof.Rows L2
namespace K77
variable {Tt : Tb} {s : Src}
theorem split_at {α : Type} (U : List α) (m : Nat) (h : m < U.length) : ∀ a, a ∈ U ↔ a ∈ U.take m ∨ a = U[m] ∨ a ∈ U.drop (m + 1) := fun a => by
  have e : U = U.take m ++ U[m] :: U.drop (m + 1) := by rw [List.getElem_cons_drop, List.take_append_drop]
  constructor
  · intro z
    rw [e, List.mem_append, List.mem_cons] at z
    exact z
  · rintro (z | z | z)
    · exact List.mem_of_mem_take z
    · rw [z]; exact List.getElem_mem h
    · exact List.mem_of_mem_drop z
theorem w_r2 {g : Nat} {ts : List Tk} {ps : List Lo} {N E ep : Int} {C : List Cm'} {ls : List Lt} {due : List (Int × Int × Lo)} {x10 x14 x17 x18 x19 x20 : Slot} {m : Nat} (b : Btw g E ep C ls due) (ht : TsOk ts) (hp : ps.map (·.1) = ts) (hl : ∀ p ∈ ps, LoOk p) (h5 : ts.length ≤ 5) (hN : lastN C = N - 1) (hC : C.length ≤ 5) (hm : m < ts.length) :
    ∃ (y14 y20 : Slot) (s' : Src), evSs ⟨Tt, run fns Tt 6⟩ bR2 (envL ts N ⟨ep, [], C⟩ due E C ls x10 (.sh (.list (ps.map fun p => (hdOf E N p).letter))) (.sh (comD E N ts)) (.sh (.int (m : Int))) x14 x17 x18 x19 x20) s =
      evSs ⟨Tt, run fns Tt 6⟩ bR3 (envL ts N ⟨ep, hds E N ps, C⟩ due E C ls x10 (.sh (.list (ps.map fun p => (hdOf E N p).letter))) (.sh (comD E N ts)) (.sh (.int (m : Int))) y14 x17 x18 x19 y20) s' := by
  classical
  obtain ⟨U, eU⟩ : ∃ U, U = hds E N ps := ⟨_, rfl⟩
  have r : Rnd E N U := eU ▸ rnd (E := E) (N := N) ht hp
  have hpl : ps.length = ts.length := by rw [← hp, List.length_map]
  have hU : U.length = ts.length := by rw [eU, List.length_map, hpl]
  have hrU : ∀ h ∈ U, ∀ x ∈ h.rows, RowOk x := fun h hh => by
    rw [eU] at hh
    obtain ⟨p, hp, rfl⟩ := List.mem_map.mp hh
    exact (hl p hp).2
  have eL : (ps.map fun p => (hdOf E N p).letter) = U.map Hd.letter := by rw [eU, List.map_map]; rfl
  rw [eL]
  have big5 : 100 < lim := by decide
  have eT : U.map (·.t) = ts := by rw [eU]; exact hds_ts hp
  have okU : ∀ h ∈ U, h.rows.length ≤ lim := by rw [eU]; exact okl_hds (E := E) (N := N) hl
  rw [← eU]
  have hmU : m < U.length := by omega
  have tm : idxF (.tuple (ts.map tkD)) (.int (m : Int)) = some (tkD U[m].t) := by
    show L2.atI _ _ = _
    rw [atI_nat (by rw [List.length_map]; omega), ← eT, List.map_map, List.getElem?_map, List.getElem?_eq_getElem hmU]
    rfl
  have lm : idxF (.list (U.map Hd.letter)) (.int (m : Int)) = some U[m].letter := by
    show L2.atI _ _ = _
    rw [atI_nat (by rw [List.length_map]; omega), List.getElem?_map, List.getElem?_eq_getElem hmU]
    rfl
  rcases hp4 : pickF s 4 with ⟨j, s1⟩
  have hb := pick_bounds s 4 (by omega)
  rw [hp4] at hb
  obtain ⟨h0, h3⟩ := hb
  dsimp only at h0 h3
  have k1 : sliceF (.list (U.map Hd.letter)) none (some (m : Int)) = some (.list ((U.take m).map Hd.letter)) := by rw [cut_take (by omega), List.map_take]; rfl
  have k2 : sliceF (.list (U.map Hd.letter)) (some ((m : Int) + 1)) none = some (.list ((U.drop (m + 1)).map Hd.letter)) := by rw [cut_drop (by omega), List.map_drop]; rfl
  have k3 : sliceF (.list (U.map Hd.letter)) none (some j) = some (.list ((U.take j.toNat).map Hd.letter)) := by rw [cut_take h0, List.map_take]
  have a1 : addF (.list ((U.take m).map Hd.letter)) (.list ((U.drop (m + 1)).map Hd.letter)) = some (.list ((U.take m ++ U.drop (m + 1)).map Hd.letter)) := by
    rw [addL (by simp only [List.length_map, List.length_take, List.length_drop]; omega), List.map_append]
  have a2 : addF (.list ((U.take m ++ U.drop (m + 1)).map Hd.letter)) (.list ((U.take j.toNat).map Hd.letter)) = some (.list ((U.take m ++ U.drop (m + 1) ++ U.take j.toNat).map Hd.letter)) := by
    rw [addL (by simp only [List.length_map, List.length_append, List.length_take, List.length_drop]; omega), List.map_append (l₁ := U.take m ++ U.drop (m + 1))]
  have hX : ∃ X, X = U.take m ++ U.drop (m + 1) ++ U.take j.toNat := ⟨_, rfl⟩
  obtain ⟨X, hX⟩ := hX
  rw [← hX] at a2
  have lX : X.length ≤ 20 := by rw [hX]; simp only [List.length_append, List.length_take, List.length_drop]; omega
  obtain ⟨Y, s2, eo, pm⟩ := order_perm Hd.letter X.length X s1 rfl
  have hlX : (X.map Hd.letter).length ≤ lim := by rw [List.length_map]; omega
  have hlY : (Y.map Hd.letter).length ≤ lim := by rw [List.length_map, pm.length_eq]; omega
  have hYU : ∀ a ∈ Y, a ∈ U := fun a ha => by
    have := pm.mem_iff.mp ha
    rw [hX] at this
    rcases List.mem_append.mp this with z | z
    · rcases List.mem_append.mp z with z | z
      · exact List.mem_of_mem_take z
      · exact List.mem_of_mem_drop z
    · exact List.mem_of_mem_take z
  have hx : U[m] ∈ U := List.getElem_mem hmU
  generalize hxx : U[m] = x at tm lm hx
  have hM : ∀ a, a ∈ Y.filter (fun a => !decide (a = x)) ↔ a ∈ U ∧ a ≠ x := fun a => by
    rw [List.mem_filter]
    simp only [Bool.not_eq_true', decide_eq_false_iff_not]
    refine ⟨fun z => ⟨hYU a z.1, z.2⟩, fun z => ⟨pm.mem_iff.mpr ?_, z.2⟩⟩
    rw [hX]
    rcases (split_at U m hmU a).mp z.1 with w | w | w
    · exact List.mem_append_left _ (List.mem_append_left _ w)
    · exact absurd (w.trans hxx) z.2
    · exact List.mem_append_left _ (List.mem_append_right _ w)
  obtain ⟨hs', e1, hsub, e2, e3, e4⟩ := hold_but (ep := ep) (C := C) (M := Y.filter fun a => !decide (a = x)) (x := x) ht hp b.hep (by omega) (eU ▸ hx) (by rw [← eU]; exact hM)
  rw [← eU] at e4 hsub
  have ok0 : OkO 5 ⟨ep, [], C⟩ := ⟨by simp, hC, by simp⟩
  have okM : ∀ l ∈ (Y.filter fun a => !decide (a = x)).map Lt.hold, OkL l := fun l hh => by
    obtain ⟨a, ha, rfl⟩ := List.mem_map.mp hh
    exact okU a ((hM a).mp ha).1
  have lM : ((Y.filter fun a => !decide (a = x)).map Lt.hold).length ≤ 20 := by
    rw [List.length_map]
    exact Nat.le_trans (List.length_filter_le _ _) (by rw [pm.length_eq]; exact lX)
  have q1 := r_hearAll (Tt := Tt) (n := 2) (s := s2) ok0 okM (by omega)
  have ok1 := (hearAll_ok ok0 okM).1
  rw [e1] at q1 ok1
  have sO : SeqAt.shaped (.tuple [Ou.D ⟨ep, hs', C⟩, .tuple []]) = true := (Sm.tup fun d hd => by
    simp only [List.mem_cons, List.not_mem_nil, or_false] at hd
    rcases hd with rfl | rfl
    · exact sm_out (fun h hh => hrU h (hsub h hh)) fun c hc p hp => ((b.rows c hc).2 p hp).2
    · exact ⟨rfl, by simp [PyData.depth, PyData.depthAll]⟩ : Sm 9 _).shaped (by omega)
  have q2 := r_early (Tt := Tt) (n := 2) (s := s2) ok1 (by omega) e2 e3 sO
  have q3 := r_heard (Tt := Tt) (n := 3) (s := s2) (l := .hold x) ok1 (okU x hx) (by omega)
  rw [e4] at q3
  have q3 : run fns Tt 6 5 [.sh (Ou.D ⟨ep, hs', C⟩), .sh x.letter] s2 = _ := q3
  have q4 := r_last (Tt := Tt) (n := 5) (s := s2) (ep := ep) (hs := U) (cs := C)
  rw [hN] at q4
  have q4 : run fns Tt 6 1 [.sh (Ou.D ⟨ep, U, C⟩)] s2 = _ := q4
  have c1 : eqB (.tuple [.tuple [.str "held", .int E, .int N, tkD x.t]]) (.tuple [.tuple [.str "held", .int E, .int N, tkD x.t]]) = some true := eqB_refl ((Sm.tup fun d hd => by
    simp only [List.mem_cons, List.not_mem_nil, or_false] at hd
    subst hd
    exact Sm.tup fun d hd => by
      simp only [List.mem_cons, List.not_mem_nil, or_false] at hd
      rcases hd with rfl | rfl | rfl | rfl
      · exact ⟨by decide +kernel, by simp [PyData.depth]⟩
      · exact Sm.int _ _
      · exact Sm.int _ _
      · exact Sm.tk _ : Sm 3 _).shaped (by omega))
  refine ⟨.sh (.list (Y.map Hd.letter)), .sh (.tuple [.tuple [.str "held", .int E, .int N, tkD x.t]]), s2, ?_⟩
  have eo2 : orderF (X.map Hd.letter).length (X.map Hd.letter) s1 = (Y.map Hd.letter, s2) := by rw [List.length_map]; exact eo
  unfold bR2 envL
  simp only [evSs, evS, evE, evEs, evO, evAs, evT, evTs, evTo, evIt, bind_one, bind_many, binds_nil, binds_cons, Option.bind_some, Option.bind_none, Option.map_some, Option.map_none, List.getElem?_cons_zero, List.getElem?_cons_succ, List.set_cons_zero, List.set_cons_succ, List.length_cons, List.length_nil, List.replicate_succ, List.replicate_zero, List.cons_append, List.nil_append, Nat.lt_irrefl, if_true, if_false, lim_0, lim_1, lim_2, lim_3, lim_4, lim_5, lim_6, lim_7, lim_8, idx_t0, idx_t1, idx_t2, idx_t3, idx_t4, idx_l0, seqItems, Op2.F, Cm.F, Cm.T, B1.F, B2.F, tup_l, tup_t, lst_t, lst_l, len_t, len_l, truth_t, truth_l, truth_b, truth_i, truth_n, negF, addI, subI, List.append_assoc, ite_self, Bool.false_eq_true, reduceIte, sub_n, Nat.zero_add, Nat.reduceAdd, Nat.reduceLT, Nat.reduceLeDiff, Nat.reduceSub, Bool.not_true, Bool.not_false, List.isEmpty_cons, List.isEmpty_nil, idx_last, fin, wipeE, noOw, List.all_cons, List.all_nil, Bool.and_true, Bool.true_and, Bool.and_self, and_true, true_and, and_self, isE_app, cut_14, cut_1, cut_03, cut_02, eq_self_iff_true, Bool.not_eq_true, decide_true, decide_false, ltI, leI, gtI, geI, k1, k2, a1, big (show (4 : Int) ≤ 1000000000000 by omega), hp4, k3, a2, hlX, eo2, hlY]
  rw [comp_map (g := fun a => if (!decide (a = x)) = true then some a.letter else none) (fun a ha s => by
    have c := letter_ne r hrU (hYU a ha) hx
    simp only [evSs, evS, evE, evEs, evO, evAs, evT, evTs, evTo, evIt, bind_one, bind_many, binds_nil, binds_cons, Option.bind_some, Option.bind_none, Option.map_some, Option.map_none, List.getElem?_cons_zero, List.getElem?_cons_succ, List.set_cons_zero, List.set_cons_succ, List.length_cons, List.length_nil, List.replicate_succ, List.replicate_zero, List.cons_append, List.nil_append, Nat.lt_irrefl, if_true, if_false, lim_0, lim_1, lim_2, lim_3, lim_4, lim_5, lim_6, lim_7, lim_8, idx_t0, idx_t1, idx_t2, idx_t3, idx_t4, idx_l0, seqItems, Op2.F, Cm.F, Cm.T, B1.F, B2.F, tup_l, tup_t, lst_t, lst_l, len_t, len_l, truth_t, truth_l, truth_b, truth_i, truth_n, negF, addI, subI, List.append_assoc, ite_self, Bool.false_eq_true, reduceIte, sub_n, Nat.zero_add, Nat.reduceAdd, Nat.reduceLT, Nat.reduceLeDiff, Nat.reduceSub, Bool.not_true, Bool.not_false, List.isEmpty_cons, List.isEmpty_nil, idx_last, fin, wipeE, noOw, List.all_cons, List.all_nil, Bool.and_true, Bool.true_and, Bool.and_self, and_true, true_and, and_self, isE_app, cut_14, cut_1, cut_03, cut_02, eq_self_iff_true, Bool.not_eq_true, decide_true, decide_false, ltI, leI, gtI, geI, lm, c]
    by_cases z : a = x <;> simp [z])]
  rw [fm_filter]
  have em : ((Y.filter fun a => !decide (a = x)).map Hd.letter) = ((Y.filter fun a => !decide (a = x)).map Lt.hold).map Lt.D := by rw [List.map_map]; rfl
  rw [em]
  simp only [evSs, evS, evE, evEs, evO, evAs, evT, evTs, evTo, evIt, bind_one, bind_many, binds_nil, binds_cons, Option.bind_some, Option.bind_none, Option.map_some, Option.map_none, List.getElem?_cons_zero, List.getElem?_cons_succ, List.set_cons_zero, List.set_cons_succ, List.length_cons, List.length_nil, List.replicate_succ, List.replicate_zero, List.cons_append, List.nil_append, Nat.lt_irrefl, if_true, if_false, lim_0, lim_1, lim_2, lim_3, lim_4, lim_5, lim_6, lim_7, lim_8, idx_t0, idx_t1, idx_t2, idx_t3, idx_t4, idx_l0, seqItems, Op2.F, Cm.F, Cm.T, B1.F, B2.F, tup_l, tup_t, lst_t, lst_l, len_t, len_l, truth_t, truth_l, truth_b, truth_i, truth_n, negF, addI, subI, List.append_assoc, ite_self, Bool.false_eq_true, reduceIte, sub_n, Nat.zero_add, Nat.reduceAdd, Nat.reduceLT, Nat.reduceLeDiff, Nat.reduceSub, Bool.not_true, Bool.not_false, List.isEmpty_cons, List.isEmpty_nil, idx_last, fin, wipeE, noOw, List.all_cons, List.all_nil, Bool.and_true, Bool.true_and, Bool.and_self, and_true, true_and, and_self, isE_app, cut_14, cut_1, cut_03, cut_02, eq_self_iff_true, Bool.not_eq_true, decide_true, decide_false, ltI, leI, gtI, geI, q1, q2, lm, q3, tm, c1, q4, eqI]
end K77
end DL
end
section
set_option Elab.async false
set_option linter.all false
set_option maxRecDepth 100000
set_option maxHeartbeats 4000000
/-! KP17: the commit of a round (the walk of bR3). -/
namespace DL
open PySem PySem.Spec PyProof.Rows L2
namespace K77
variable {Tt : Tb} {s : Src}
theorem flat_rep {α : Type} {a : α} {k : Nat} : (List.replicate k [a]).flatten = List.replicate k a := by
  induction k with
  | zero => rfl
  | succ k ih => rw [List.replicate_succ, List.flatten_cons, ih]; rfl
theorem mul_one {d : D} {i : Int} (h0 : 0 ≤ i) (h1 : i ≤ 100) : mulF (.list [d]) (.int i) = some (.list (List.replicate i.toNat d)) := by
  show (if _ then _ else _) = _
  have l1 : [d].length * i.toNat ≤ lim := by
    rw [List.length_singleton, Nat.one_mul]
    exact Nat.le_trans (show i.toNat ≤ 100 by omega) (by decide)
  rw [if_pos ⟨by omega, by omega, l1⟩, flat_rep]
theorem w_r3 {g : Nat} {ts : List Tk} {ps : List Lo} {N E ep : Int} {C : List Cm'} {ls : List Lt} {due : List (Int × Int × Lo)} {x13 x14 x17 x18 x19 x20 : Slot} (b : Btw g E ep C ls due) (hg : g ≤ 4) (hp : ps.map (·.1) = ts) (hl : ∀ p ∈ ps, LoOk p) (h5 : ts.length ≤ 5) (hN : lastN C = N - 1) (hC : C.length ≤ 5) :
    ∃ (y20 : Slot) (s' : Src), evSs ⟨Tt, run fns Tt 6⟩ bR3 (envL ts N ⟨ep, hds E N ps, C⟩ due E C ls (.sh (.list (ps.map (tellD E N)))) (.sh (.list (ps.map fun p => (hdOf E N p).letter))) (.sh (comD E N ts)) x13 x14 x17 x18 x19 x20) s =
      some ((.next, envL ts N ⟨ep, [], C ++ [(N, ps)]⟩ (due ++ ps.map fun p => (E, N, p)) E (C ++ [(N, ps)]) (ls ++ (hds E N ps).map .hold ++ [.com E N ts]) (.sh (.list (ps.map (tellD E N)))) (.sh (.list (ps.map fun p => (hdOf E N p).letter))) (.sh (comD E N ts)) x13 x14 x17 x18 x19 y20), s') := by
  have hpl : ps.length = ts.length := by rw [← hp, List.length_map]
  have big5 : 100 < lim := by decide
  rcases hp2 : pickF s 2 with ⟨j, s1⟩
  have hb := pick_bounds s 2 (by omega)
  rw [hp2] at hb
  obtain ⟨h0, h3⟩ := hb
  dsimp only at h0 h3
  obtain ⟨k, hk⟩ : ∃ k, (1 + j).toNat = k + 1 := ⟨j.toNat, by omega⟩
  have hk1 : k ≤ 1 := by omega
  obtain ⟨C', hC'⟩ : ∃ C', C' = C ++ [(N, ps)] := ⟨_, rfl⟩
  obtain ⟨R, hR⟩ : ∃ R, R = List.replicate k (Lt.com E N ts) ++ ((hds E N ps).take 1).map Lt.hold := ⟨_, rfl⟩
  have hRl : R.length ≤ 2 := by rw [hR]; simp only [List.length_append, List.length_replicate, List.length_map, List.length_take]; omega
  have m1 : mulF (.list [comD E N ts]) (.int (1 + j)) = some (.list (comD E N ts :: List.replicate k (comD E N ts))) := by rw [mul_one (by omega) (by omega), hk]; rfl
  have k1 : sliceF (.list (ps.map fun p => (hdOf E N p).letter)) none (some (1 : Int)) = some (.list (((hds E N ps).take 1).map Hd.letter)) := by
    rw [cut_take (by omega), letters_map]
    show some (PyData.list (List.take 1 _)) = _
    rw [List.map_take, List.map_map]
    rfl
  have a1 : addF (.list (comD E N ts :: List.replicate k (comD E N ts))) (.list (((hds E N ps).take 1).map Hd.letter)) = some (.list ((Lt.com E N ts :: R).map Lt.D)) := by
    rw [addL (by simp only [List.length_cons, List.length_replicate, List.length_map, List.length_take]; omega), hR, List.map_cons, List.map_append, List.map_replicate, List.map_map]
    rfl
  have okH := okl_hds (E := E) (N := N) hl
  have ok0 : OkO 5 ⟨ep, hds E N ps, C⟩ := ⟨by show (hds E N ps).length ≤ 5; rw [List.length_map]; omega, hC, okH⟩
  have okR : ∀ l ∈ Lt.com E N ts :: R, OkL l := fun l hh => by
    rcases List.mem_cons.mp hh with z | z
    · subst z; trivial
    · rw [hR] at z
      rcases List.mem_append.mp z with z | z
      · rw [List.eq_of_mem_replicate z]; trivial
      · obtain ⟨a, ha, rfl⟩ := List.mem_map.mp z
        exact okH a (List.mem_of_mem_take ha)
  have q1 := r_hearAll (Tt := Tt) (n := 2) (s := s1) ok0 okR (by rw [List.length_cons]; omega)
  have e0 := com_all (E := E) (N := N) (ep := ep) (C := C) hp (by omega)
  have e1 : lastN C' = N := by rw [hC']; exact last_app
  have e2 : (hearAll ⟨ep, [], C'⟩ R).1 = ⟨ep, [], C'⟩ := old_all e1 fun l hh => by
    rw [hR] at hh
    rcases List.mem_append.mp hh with z | z
    · rw [List.eq_of_mem_replicate z]; exact Int.le_refl _
    · obtain ⟨a, ha, rfl⟩ := List.mem_map.mp z
      obtain ⟨p, _, rfl⟩ := List.mem_map.mp (List.mem_of_mem_take ha)
      exact .inr (Int.le_refl _)
  have e3 : hearAll ⟨ep, hds E N ps, C⟩ (Lt.com E N ts :: R) = (⟨ep, [], C'⟩, .tuple [.str "done", .int N] :: (hearAll ⟨ep, [], C'⟩ R).2) := by
    show ((hearAll (hear ⟨ep, hds E N ps, C⟩ (.com E N ts)).1 R).1, (hear ⟨ep, hds E N ps, C⟩ (.com E N ts)).2 ++ (hearAll (hear ⟨ep, hds E N ps, C⟩ (.com E N ts)).1 R).2) = _
    rw [e0, ← hC']
    dsimp only
    rw [e2]
    rfl
  rw [e3] at q1
  dsimp only at q1
  generalize (hearAll ⟨ep, [], C'⟩ R).2 = an at q1
  have ad : addF (.tuple (C.map cmD)) (.tuple [.tuple [.int N, .tuple (ps.map lotD)]]) = some (.tuple (C'.map cmD)) := by
    rw [addT (by rw [List.length_map, List.length_singleton]; omega), hC', List.map_append]
    rfl
  have d0 : idxF (Ou.D ⟨ep, [], C'⟩) (.int 0) = some (.int ep) := idx_t0
  have sO : SeqAt.shaped (Ou.D ⟨ep, [], C'⟩) = true := (sm_out (by simp) fun c hc p hq => by
    rw [hC'] at hc
    rcases List.mem_append.mp hc with z | z
    · exact ((b.rows c z).2 p hq).2
    · rw [List.mem_singleton] at z
      subst z
      exact (hl p hq).2 : Sm 8 _).shaped (by omega)
  have c1 : eqB (Ou.D ⟨ep, [], C'⟩) (.tuple [.int ep, .tuple [], .tuple (C'.map cmD)]) = some true := eqB_refl sO
  have c2 : eqB (.tuple [.str "done", .int N]) (.tuple [.str "done", .int N]) = some true := eqB_refl (Sm.shaped (m := 1) (Sm.tup (m := 0) fun d hd => by
    simp only [List.mem_cons, List.not_mem_nil, or_false] at hd
    rcases hd with rfl | rfl
    · exact ⟨by decide +kernel, by simp [PyData.depth]⟩
    · exact Sm.int _ _) (by omega))
  have q4 := r_last (Tt := Tt) (n := 5) (s := s1) (ep := ep) (hs := []) (cs := C')
  rw [e1] at q4
  have q4 : run fns Tt 6 1 [.sh (Ou.D ⟨ep, [], C'⟩)] s1 = _ := q4
  have lls : ls.length ≤ 60 := by have := b.len; omega
  have lts : due.length ≤ 30 := by have := b.dul; omega
  have l1 : addF (.list (ls.map Lt.D)) (.list (ps.map fun p => (hdOf E N p).letter)) = some (.list ((ls ++ (hds E N ps).map Lt.hold).map Lt.D)) := by
    rw [addL (by rw [List.length_map, List.length_map]; omega), List.map_append, letters_map]
  have l2 : addF (.list ((ls ++ (hds E N ps).map Lt.hold).map Lt.D)) (.list [comD E N ts]) = some (.list ((ls ++ (hds E N ps).map Lt.hold ++ [Lt.com E N ts]).map Lt.D)) := by
    rw [addL (by simp only [List.length_map, List.length_append, List.length_singleton]; omega), List.map_append (l₁ := ls ++ (hds E N ps).map Lt.hold)]
    rfl
  have l3 : addF (.list (due.map dueD)) (.list (ps.map (tellD E N))) = some (.list ((due ++ ps.map fun p => (E, N, p)).map dueD)) := by
    rw [addL (by rw [List.length_map, List.length_map]; omega), List.map_append, List.map_map (l := ps)]
    rfl
  have hlP : (ps.map (tellD E N)).length ≤ lim := by rw [List.length_map]; omega
  refine ⟨.sh (.tuple (.tuple [.str "done", .int N] :: an)), s1, ?_⟩
  rw [← hC']
  obtain ⟨L', hL'⟩ : ∃ L', L' = ls ++ (hds E N ps).map Lt.hold ++ [Lt.com E N ts] := ⟨_, rfl⟩
  rw [← hL'] at l2 ⊢
  obtain ⟨due', hd'⟩ : ∃ due', due' = due ++ ps.map fun p => (E, N, p) := ⟨_, rfl⟩
  rw [← hd'] at l3 ⊢
  unfold bR3 envL
  simp only [evSs, evS, evE, evEs, evO, evAs, evT, evTs, evTo, evIt, bind_one, bind_many, binds_nil, binds_cons, Option.bind_some, Option.bind_none, Option.map_some, Option.map_none, List.getElem?_cons_zero, List.getElem?_cons_succ, List.set_cons_zero, List.set_cons_succ, List.length_cons, List.length_nil, List.replicate_succ, List.replicate_zero, List.cons_append, List.nil_append, Nat.lt_irrefl, if_true, if_false, lim_0, lim_1, lim_2, lim_3, lim_4, lim_5, lim_6, lim_7, lim_8, idx_t0, idx_t1, idx_t2, idx_t3, idx_t4, idx_l0, seqItems, Op2.F, Cm.F, Cm.T, B1.F, B2.F, tup_l, tup_t, lst_t, lst_l, len_t, len_l, truth_t, truth_l, truth_b, truth_i, truth_n, negF, addI, subI, List.append_assoc, ite_self, Bool.false_eq_true, reduceIte, sub_n, Nat.zero_add, Nat.reduceAdd, Nat.reduceLT, Nat.reduceLeDiff, Nat.reduceSub, Bool.not_true, Bool.not_false, List.isEmpty_cons, List.isEmpty_nil, idx_last, fin, wipeE, noOw, List.all_cons, List.all_nil, Bool.and_true, Bool.true_and, Bool.and_self, and_true, true_and, and_self, isE_app, cut_14, cut_1, cut_03, cut_02, eq_self_iff_true, Bool.not_eq_true, decide_true, decide_false, ltI, leI, gtI, geI, big (show (2 : Int) ≤ 1000000000000 by omega), hp2, m1, k1, a1, q1, hlP]
  rw [comp_map (g := fun p => some (lotD p)) (fun p _ s => by
    simp only [tellD, toldD, evSs, evS, evE, evEs, evO, evAs, evT, evTs, evTo, evIt, bind_one, bind_many, binds_nil, binds_cons, Option.bind_some, Option.bind_none, Option.map_some, Option.map_none, List.getElem?_cons_zero, List.getElem?_cons_succ, List.set_cons_zero, List.set_cons_succ, List.length_cons, List.length_nil, List.replicate_succ, List.replicate_zero, List.cons_append, List.nil_append, Nat.lt_irrefl, if_true, if_false, lim_0, lim_1, lim_2, lim_3, lim_4, lim_5, lim_6, lim_7, lim_8, idx_t0, idx_t1, idx_t2, idx_t3, idx_t4, idx_l0, seqItems, Op2.F, Cm.F, Cm.T, B1.F, B2.F, tup_l, tup_t, lst_t, lst_l, len_t, len_l, truth_t, truth_l, truth_b, truth_i, truth_n, negF, addI, subI, List.append_assoc, ite_self, Bool.false_eq_true, reduceIte, sub_n, Nat.zero_add, Nat.reduceAdd, Nat.reduceLT, Nat.reduceLeDiff, Nat.reduceSub, Bool.not_true, Bool.not_false, List.isEmpty_cons, List.isEmpty_nil, idx_last, fin, wipeE, noOw, List.all_cons, List.all_nil, Bool.and_true, Bool.true_and, Bool.and_self, and_true, true_and, and_self, isE_app, cut_14, cut_1, cut_03, cut_02, eq_self_iff_true, Bool.not_eq_true, decide_true, decide_false, ltI, leI, gtI, geI]
    rfl)]
  have ek : (ps.filterMap fun p => some (lotD p)) = ps.map lotD := by simp
  rw [ek]
  simp only [evSs, evS, evE, evEs, evO, evAs, evT, evTs, evTo, evIt, bind_one, bind_many, binds_nil, binds_cons, Option.bind_some, Option.bind_none, Option.map_some, Option.map_none, List.getElem?_cons_zero, List.getElem?_cons_succ, List.set_cons_zero, List.set_cons_succ, List.length_cons, List.length_nil, List.replicate_succ, List.replicate_zero, List.cons_append, List.nil_append, Nat.lt_irrefl, if_true, if_false, lim_0, lim_1, lim_2, lim_3, lim_4, lim_5, lim_6, lim_7, lim_8, idx_t0, idx_t1, idx_t2, idx_t3, idx_t4, idx_l0, seqItems, Op2.F, Cm.F, Cm.T, B1.F, B2.F, tup_l, tup_t, lst_t, lst_l, len_t, len_l, truth_t, truth_l, truth_b, truth_i, truth_n, negF, addI, subI, List.append_assoc, ite_self, Bool.false_eq_true, reduceIte, sub_n, Nat.zero_add, Nat.reduceAdd, Nat.reduceLT, Nat.reduceLeDiff, Nat.reduceSub, Bool.not_true, Bool.not_false, List.isEmpty_cons, List.isEmpty_nil, idx_last, fin, wipeE, noOw, List.all_cons, List.all_nil, Bool.and_true, Bool.true_and, Bool.and_self, and_true, true_and, and_self, isE_app, cut_14, cut_1, cut_03, cut_02, eq_self_iff_true, Bool.not_eq_true, decide_true, decide_false, ltI, leI, gtI, geI, ad, d0, c1, c2, q4, eqI, l1, l2, l3, setKs, mutD]
end K77
end DL
end
section
set_option Elab.async false
set_option linter.all false
set_option maxRecDepth 100000
set_option maxHeartbeats 4000000
/-! KP18: a whole round; all rounds. -/
namespace DL
open PySem PySem.Spec PyProof.Rows L2
namespace K77
variable {Tt : Tb} {s : Src}
theorem w_rest {g : Nat} {ts : List Tk} {N E ep : Int} {C : List Cm'} {ls : List Lt} {due : List (Int × Int × Lo)} {x10 x11 x12 x13 x14 x17 x18 x19 x20 : Slot} (b : Btw g E ep C ls due) (hg : g ≤ 4) (ht : TsOk ts) (h5 : ts.length ≤ 5) (h1 : 1 ≤ ts.length) (hN : lastN C = N - 1) (hC : C.length ≤ 5) :
    ∃ (ps : List Lo) (ls' : List Lt) (due' : List (Int × Int × Lo)) (y10 y11 y12 y13 y14 y20 : Slot) (s' : Src), evSs ⟨Tt, run fns Tt 6⟩ bR0 (envL ts N ⟨ep, [], C⟩ due E C ls x10 x11 x12 x13 x14 x17 x18 x19 x20) s =
      some ((.next, envL ts N ⟨ep, [], C ++ [(N, ps)]⟩ due' E (C ++ [(N, ps)]) ls' y10 y11 y12 y13 y14 x17 x18 x19 y20), s') ∧ Btw 0 E ep (C ++ [(N, ps)]) ls' due' := by
  obtain ⟨ps, s1, e1, hp, hl⟩ := w_r0 (Tt := Tt) (s := s) (ts := ts) (N := N) (E := E) (ep := ep) (C := C) (ls := ls) (due := due) (x10 := x10) (x11 := x11) (x12 := x12) (x13 := x13) (x14 := x14) (x17 := x17) (x18 := x18) (x19 := x19) (x20 := x20) h5
  have hpl : ps.length = ts.length := by rw [← hp, List.length_map]
  obtain ⟨m, s2, e2, hm⟩ := w_r1 (Tt := Tt) (s := s1) (ts := ts) (N := N) (E := E) (ep := ep) (C := C) (ls := ls) (due := due) (x10 := .sh (.list (ps.map (tellD E N)))) (x11 := .sh (.list (ps.map fun p => (hdOf E N p).letter))) (x12 := x12) (x13 := x13) (x14 := x14) (x17 := x17) (x18 := x18) (x19 := x19) (x20 := x20) h5 h1
  obtain ⟨y14, y20, s3, e3⟩ := w_r2 (Tt := Tt) (s := s2) (x10 := .sh (.list (ps.map (tellD E N)))) (x14 := x14) (x17 := x17) (x18 := x18) (x19 := x19) (x20 := x20) b ht hp hl h5 hN hC hm
  obtain ⟨z20, s4, e4⟩ := w_r3 (Tt := Tt) (s := s3) (x13 := .sh (.int (m : Int))) (x14 := y14) (x17 := x17) (x18 := x18) (x19 := x19) (x20 := y20) b hg hp hl h5 hN hC
  exact ⟨ps, _, _, .sh (.list (ps.map (tellD E N))), .sh (.list (ps.map fun p => (hdOf E N p).letter)), .sh (comD E N ts), .sh (.int (m : Int)), y14, z20, s4, e1.trans (e2.trans (e3.trans e4)), b.com hg ht hp hN (by omega) hl⟩
theorem eq00 {i : Int} : eqB (.int i) (.int 0) = some (decide (i = 0)) := eqI
theorem iff_pick {R A : Ss} {env : Env'} {j : Int} {s1 : Src} (h : env[1]? = some .sr) (hp : pickF s 2 = (j, s1)) : evSs ⟨Tt, run fns Tt 6⟩ (.cons (.iff (.cmp .eq (.pick 1 (.int 2)) (.int 0)) A .nil) R) env s =
    if j = 0 then (evSs ⟨Tt, run fns Tt 6⟩ A env s1).bind (fun p => match p.1.1 with
      | .next => evSs ⟨Tt, run fns Tt 6⟩ R p.1.2 p.2
      | f => some ((f, p.1.2), p.2)) else evSs ⟨Tt, run fns Tt 6⟩ R env s1 := by
  simp only [evSs, evS, evT, evE, Option.bind_some, Option.map_some, h, big (show (2 : Int) ≤ 1000000000000 by omega), if_true, hp, Cm.T, Cm.F, eq00, truth_b]
  by_cases hj : j = 0
  · simp only [hj, decide_true, if_true]
    all_goals rfl
  · simp only [hj, decide_false, Bool.false_eq_true, if_false, Option.bind_some]
theorem w_turn {ts : List Tk} {N E ep : Int} {C : List Cm'} {ls : List Lt} {due : List (Int × Int × Lo)} {x10 x11 x12 x13 x14 x17 x18 x19 x20 : Slot} (b : Btw 0 E ep C ls due) (ht : TsOk ts) (h5 : ts.length ≤ 5) (h1 : 1 ≤ ts.length) (hN : lastN C = N - 1) (hC : C.length ≤ 5) :
    ∃ (E' ep' : Int) (ps : List Lo) (ls' : List Lt) (due' : List (Int × Int × Lo)) (y10 y11 y12 y13 y14 y17 y18 y19 y20 : Slot) (s' : Src), evSs ⟨Tt, run fns Tt 6⟩ bTurn (envL ts N ⟨ep, [], C⟩ due E C ls x10 x11 x12 x13 x14 x17 x18 x19 x20) s =
      some ((.next, envL ts N ⟨ep', [], C ++ [(N, ps)]⟩ due' E' (C ++ [(N, ps)]) ls' y10 y11 y12 y13 y14 y17 y18 y19 y20), s') ∧ Btw 0 E' ep' (C ++ [(N, ps)]) ls' due' := by
  rcases hp2 : pickF s 2 with ⟨j, s1⟩
  have e0 := iff_pick (Tt := Tt) (A := bGive) (R := bR0) (env := envL ts N ⟨ep, [], C⟩ due E C ls x10 x11 x12 x13 x14 x17 x18 x19 x20) rfl hp2
  by_cases hj : j = 0
  · obtain ⟨ls1, y17, y18, y19, y20, s2, e1, b1⟩ := w_give (Tt := Tt) (s := s1) (x10 := x10) (x11 := x11) (x12 := x12) (x13 := x13) (x14 := x14) (x17 := x17) (x18 := x18) (x19 := x19) (x20 := x20) b ht h5 hN hC
    obtain ⟨ps, ls', due', z10, z11, z12, z13, z14, z20, s3, e2, b2⟩ := w_rest (Tt := Tt) (s := s2) (x10 := x10) (x11 := x11) (x12 := x12) (x13 := x13) (x14 := x14) (x17 := y17) (x18 := y18) (x19 := y19) (x20 := y20) b1 (by omega) ht h5 h1 hN hC
    rw [if_pos hj, e1] at e0
    exact ⟨_, _, ps, ls', due', z10, z11, z12, z13, z14, y17, y18, y19, z20, s3, e0.trans e2, b2⟩
  · obtain ⟨ps, ls', due', z10, z11, z12, z13, z14, z20, s3, e2, b2⟩ := w_rest (Tt := Tt) (s := s1) (x10 := x10) (x11 := x11) (x12 := x12) (x13 := x13) (x14 := x14) (x17 := x17) (x18 := x18) (x19 := x19) (x20 := x20) b (by omega) ht h5 h1 hN hC
    rw [if_neg hj] at e0
    exact ⟨_, _, ps, ls', due', z10, z11, z12, z13, z14, x17, x18, x19, z20, s3, e0.trans e2, b2⟩
def envQ (x3 : Slot) (ts : List Tk) (o : Ou) (due : List (Int × Int × Lo)) (E : Int) (C : List Cm') (ls : List Lt) (x10 x11 x12 x13 x14 x17 x18 x19 x20 : Slot) : Env' :=
  [.no, .sr, .sh (.tuple (ts.map tkD)), x3, .no, .sh o.D, .sh (.list (due.map dueD)), .sh (.int E), .sh (.tuple (C.map cmD)), .ow (.list (ls.map Lt.D)), x10, x11, x12, x13, x14, .no, .no, x17, x18, x19, x20, .no, .no, .no, .no]
def envH (ts : List Tk) : Env' := [.no, .sr, .sh (.tuple (ts.map tkD)), .no, .no, .no, .no, .no, .no, .no, .no, .no, .no, .no, .no, .no, .no, .no, .no, .no, .no, .no, .no, .no, .no]
theorem rng2 {i j : Int} (h0 : 0 ≤ i) (h1 : j ≤ 1000000) (h2 : i ≤ 1000000) (h3 : 0 ≤ j) : rangeOk i j = true := by
  unfold rangeOk
  simp
  omega
theorem w_loop {R : Ss} {ts : List Tk} (ht : TsOk ts) (h5 : ts.length ≤ 5) (h1 : 1 ≤ ts.length) :
    ∃ (x3 : Slot) (E ep : Int) (C : List Cm') (ls : List Lt) (due : List (Int × Int × Lo)) (x10 x11 x12 x13 x14 x17 x18 x19 x20 : Slot) (s' : Src),
      evSs ⟨Tt, run fns Tt 6⟩ (.cons (.par [(false, 5), (false, 6), (false, 7), (false, 8), (true, 9)] (.cons (.call 0 .nil) (.cons (.lst .nil) (.cons (.int 1) (.cons (.tup .nil) (.cons (.lst .nil) .nil)))))) (.cons (.for_ (.one 3) (.range2 (.int 1) (.bin .add (.int 2) (.pick 1 (.int 5)))) bTurn) R)) (envH ts) s =
      evSs ⟨Tt, run fns Tt 6⟩ R (envQ x3 ts ⟨ep, [], C⟩ due E C ls x10 x11 x12 x13 x14 x17 x18 x19 x20) s' ∧ Btw 0 E ep C ls due ∧ C.length ≤ 5 := by
  rcases hp5 : pickF s 5 with ⟨j, s1⟩
  have hb := pick_bounds s 5 (by omega)
  rw [hp5] at hb
  obtain ⟨h0, h3⟩ := hb
  dsimp only at h0 h3
  obtain ⟨K, hK⟩ : ∃ K, K = (2 + j - 1).toNat := ⟨_, rfl⟩
  have hK5 : K ≤ 5 := by omega
  have ro : rangeOk 1 (2 + j) = true := rng2 (by omega) (by omega) (by omega) (by omega)
  have ri : rangeItems 1 (2 + j) = (List.range K).map fun (i : Nat) => .int (1 + (i : Int)) := by rw [hK]; rfl
  have fr := r_fresh (Tt := Tt) (n := 5) (s := s)
  unfold envH
  simp only [evSs, evS, evE, evEs, evO, evAs, evT, evTs, evTo, evIt, bind_one, bind_many, binds_nil, binds_cons, Option.bind_some, Option.bind_none, Option.map_some, Option.map_none, List.getElem?_cons_zero, List.getElem?_cons_succ, List.set_cons_zero, List.set_cons_succ, List.length_cons, List.length_nil, List.replicate_succ, List.replicate_zero, List.cons_append, List.nil_append, Nat.lt_irrefl, if_true, if_false, lim_0, lim_1, lim_2, lim_3, lim_4, lim_5, lim_6, lim_7, lim_8, idx_t0, idx_t1, idx_t2, idx_t3, idx_t4, idx_l0, seqItems, Op2.F, Cm.F, Cm.T, B1.F, B2.F, tup_l, tup_t, lst_t, lst_l, len_t, len_l, truth_t, truth_l, truth_b, truth_i, truth_n, negF, addI, subI, List.append_assoc, ite_self, Bool.false_eq_true, reduceIte, sub_n, Nat.zero_add, Nat.reduceAdd, Nat.reduceLT, Nat.reduceLeDiff, Nat.reduceSub, Bool.not_true, Bool.not_false, List.isEmpty_cons, List.isEmpty_nil, idx_last, fin, wipeE, noOw, List.all_cons, List.all_nil, Bool.and_true, Bool.true_and, Bool.and_self, and_true, true_and, and_self, isE_app, cut_14, cut_1, cut_03, cut_02, eq_self_iff_true, Bool.not_eq_true, decide_true, decide_false, ltI, leI, gtI, geI, fr, setKs, mutD, big (show (5 : Int) ≤ 1000000000000 by omega), hp5, ro, ri]
  generalize hc : forLoop _ _ _ _ = c
  obtain ⟨env', s', rfl, x3, E, ep, C, ls, due, x10, x11, x12, x13, x14, x17, x18, x19, x20, rfl, b, hl, hC⟩ := for_inv hc (fun l env => ∃ (x3 : Slot) (E ep : Int) (C : List Cm') (ls : List Lt) (due : List (Int × Int × Lo)) (x10 x11 x12 x13 x14 x17 x18 x19 x20 : Slot),
      env = envQ x3 ts ⟨ep, [], C⟩ due E C ls x10 x11 x12 x13 x14 x17 x18 x19 x20 ∧ Btw 0 E ep C ls due ∧ l = (List.range K).drop C.length ∧ C.length ≤ K)
    ⟨.no, 1, 0, [], [], [], .no, .no, .no, .no, .no, .no, .no, .no, .no, rfl, .nil, rfl, Nat.zero_le _⟩ (fun a l env s hi => by
      obtain ⟨x3, E, ep, C, ls, due, x10, x11, x12, x13, x14, x17, x18, x19, x20, rfl, b, hl, hC⟩ := hi
      have hlt : C.length < K := by
        rcases Nat.lt_or_ge C.length K with z | z
        · exact z
        · rw [List.drop_eq_nil_of_le (by rw [List.length_range]; exact z)] at hl
          cases hl
      have hd : (List.range K).drop C.length = C.length :: (List.range K).drop (C.length + 1) := by
        rw [List.drop_eq_getElem_cons (by rw [List.length_range]; exact hlt), List.getElem_range]
      rw [hd] at hl
      injection hl with ha hl
      subst ha
      obtain ⟨E', ep', ps, ls', due', y10, y11, y12, y13, y14, y17, y18, y19, y20, s', e, b'⟩ := w_turn (Tt := Tt) (s := s) (N := 1 + (C.length : Int)) (x10 := x10) (x11 := x11) (x12 := x12) (x13 := x13) (x14 := x14) (x17 := x17) (x18 := x18) (x19 := x19) (x20 := x20) b ht h5 h1 (by rw [b.cnt]; omega) (by omega)
      refine ⟨envQ (.sh (.int (1 + (C.length : Int)))) ts ⟨ep', [], C ++ [(1 + (C.length : Int), ps)]⟩ due' E' (C ++ [(1 + (C.length : Int), ps)]) ls' y10 y11 y12 y13 y14 y17 y18 y19 y20, s', ?_, _, _, _, _, _, _, _, _, _, _, _, _, _, _, _, rfl, b', ?_, ?_⟩
      · rw [if_pos (show 3 < (envQ x3 ts ⟨ep, [], C⟩ due E C ls x10 x11 x12 x13 x14 x17 x18 x19 x20).length from (by show 3 < 25; omega))]
        exact e
      · rw [hl, List.length_append, List.length_singleton]
      · rw [List.length_append, List.length_singleton]; omega)
  exact ⟨x3, E, ep, C, ls, due, x10, x11, x12, x13, x14, x17, x18, x19, x20, s', rfl, b, by omega⟩
end K77
end DL
end
section
set_option Elab.async false
set_option linter.all false
set_option maxRecDepth 100000
set_option maxHeartbeats 4000000
/-! KP19: what is told at the end. -/
namespace DL
open PySem PySem.Spec PyProof.Rows L2
namespace K77
variable {Tt : Tb} {s : Src}
theorem lot_len {b : Bool} {ps : List Lo} (h : ∀ p ∈ ps, LoOk p) : (ps.flatMap (lotRows b)).length ≤ 3 * ps.length := by
  induction ps with
  | nil => exact Nat.le_refl _
  | cons p ps ih =>
    have h1 := (h p List.mem_cons_self).1
    have h2 := ih fun q hq => h q (List.mem_cons_of_mem _ hq)
    have h3 : (lotRows b p).length ≤ 3 := by
      unfold lotRows
      split
      · exact h1
      · exact Nat.zero_le _
    rw [List.flatMap_cons, List.length_append, List.length_cons]
    omega
theorem cRows_len {b : Bool} {C : List Cm'} (h : ∀ c ∈ C, c.2.length ≤ 5 ∧ ∀ p ∈ c.2, LoOk p) : (cRows b C).length ≤ 15 * C.length := by
  unfold cRows
  induction C with
  | nil => exact Nat.le_refl _
  | cons c C ih =>
    have h1 := h c List.mem_cons_self
    have h2 := ih fun q hq => h q (List.mem_cons_of_mem _ hq)
    have h3 := lot_len (b := b) h1.2
    rw [List.flatMap_cons, List.length_append, List.length_cons]
    omega
theorem cRows_ok {b : Bool} {C : List Cm'} (h : ∀ c ∈ C, c.2.length ≤ 5 ∧ ∀ p ∈ c.2, LoOk p) : ∀ r ∈ cRows b C, RowOk r := fun r hr => by
  unfold cRows at hr
  obtain ⟨c, hc, hr⟩ := List.mem_flatMap.mp hr
  obtain ⟨p, hp, hr⟩ := List.mem_flatMap.mp hr
  unfold lotRows at hr
  split at hr
  · exact ((h c hc).2 p hp).2 r hr
  · cases hr
def envE (x3 x4 : Slot) (ts : List Tk) (o : Ou) (due : List (Int × Int × Lo)) (E : Int) (C : List Cm') (ls : List Lt) (x10 x11 x12 x13 x14 x15 x16 x17 x18 x19 x20 x21 x22 : Slot) : Env' :=
  [.no, .sr, .sh (.tuple (ts.map tkD)), x3, x4, .sh o.D, .sh (.list (due.map dueD)), .sh (.int E), .sh (.tuple (C.map cmD)), .sh (.list (ls.map Lt.D)), x10, x11, x12, x13, x14, x15, x16, x17, x18, x19, x20, x21, x22, .no, .no]
def bStep : Ss := (.cons (.asg (.one 15) (.lst .nil)) (.cons (.for_ (.many (.cons (.one 21) (.cons (.one 18) (.cons (.one 22) .nil)))) (.seq (.var 6)) (.cons (.asg (.one 15) (.bin .add (.var 15) (.ifx (.cmp .eq (.idx (.var 21) (.int 0)) (.var 4)) (.b1 .list_ (.var 18)) (.lst .nil)))) .nil)) (.cons (.for_ (.one 16) (.seq (.tup (.cons (.var 5) (.cons (.idx (.call 6 (.cons (.var 5) (.cons (.var 9) .nil))) (.int 0)) .nil)))) (.cons (.iff (.cmp .ne (.call 8 (.cons (.var 16) (.cons (.var 4) .nil))) (.call 18 (.cons (.var 15) .nil))) (.cons (.ret (.bl false)) .nil) .nil) .nil)) .nil)))
def bFin : Ss := (.cons (.ret (.and (.cmp .eq (.call 9 (.cons (.var 9) .nil)) (.tup .nil)) (.cmp .eq (.idx (.call 6 (.cons (.call 0 .nil) (.cons (.var 9) .nil))) (.int 0)) (.var 5)))) .nil)
theorem bEnd_eq : bEnd = .cons (.frz 9) (.cons (.for_ (.one 4) (.seq (.tup (.cons (.str "out") (.cons (.str "a") .nil)))) bStep) bFin) := rfl
def dueG (b : Bool) (st : List D × Slot × Slot × Slot) (q : Int × Int × Lo) : List D × Slot × Slot × Slot :=
  (st.1 ++ lotRows b q.2.2, .sh (.tuple q.2.2.2), .sh (tkD q.2.2.1), .sh (toldD q.1 q.2.1 q.2.2))
theorem dueG_1 {b : Bool} {due : List (Int × Int × Lo)} {st : List D × Slot × Slot × Slot} : (due.foldl (dueG b) st).1 = st.1 ++ dRows b due := by
  induction due generalizing st with
  | nil => simp [dRows]
  | cons q due ih =>
    rw [List.foldl_cons, ih]
    unfold dueG dRows
    rw [List.flatMap_cons, List.append_assoc]
theorem w_step {bb : Bool} {x3 : Slot} {ts : List Tk} {E ep : Int} {C : List Cm'} {ls : List Lt} {due : List (Int × Int × Lo)} {x10 x11 x12 x13 x14 x15 x16 x17 x18 x19 x20 x21 x22 : Slot} (b : Btw 0 E ep C ls due) (hC : C.length ≤ 5) :
    ∃ (y15 y16 y18 y21 y22 : Slot), evSs ⟨Tt, run fns Tt 6⟩ bStep (envE x3 (.sh (.str (tkS bb))) ts ⟨ep, [], C⟩ due E C ls x10 x11 x12 x13 x14 x15 x16 x17 x18 x19 x20 x21 x22) s =
      some ((.next, envE x3 (.sh (.str (tkS bb))) ts ⟨ep, [], C⟩ due E C ls x10 x11 x12 x13 x14 y15 y16 x17 y18 x19 x20 y21 y22), s) := by
  have big5 : 100 < lim := by decide
  have cl := cRows_len (b := bb) b.rows
  have co := cRows_ok (b := bb) b.rows
  have lls : ls.length ≤ 50 := by have := b.len; omega
  have ok0 : OkO 5 ⟨ep, [], C⟩ := ⟨by simp, hC, by simp⟩
  have q1 := r_hearAll (Tt := Tt) (n := 2) (s := s) ok0 b.okl (by omega)
  rw [old_all rfl b.old] at q1
  have q2 := r_committed (Tt := Tt) (n := 4) (s := s) (ep := ep) (hs := []) co (by omega)
  have q2 : run fns Tt 6 8 [.sh (Ou.D ⟨ep, [], C⟩), .sh (.str (tkS bb))] s = _ := q2
  have q3 := r_lbag (Tt := Tt) (n := 5) (s := s) co (by omega)
  have c1 := bag_eq (bagAll_ok co)
  unfold bStep envE
  simp only [evSs, evS, evE, evEs, evO, evAs, evT, evTs, evTo, evIt, bind_one, bind_many, binds_nil, binds_cons, Option.bind_some, Option.bind_none, Option.map_some, Option.map_none, List.getElem?_cons_zero, List.getElem?_cons_succ, List.set_cons_zero, List.set_cons_succ, List.length_cons, List.length_nil, List.replicate_succ, List.replicate_zero, List.cons_append, List.nil_append, Nat.lt_irrefl, if_true, if_false, lim_0, lim_1, lim_2, lim_3, lim_4, lim_5, lim_6, lim_7, lim_8, idx_t0, idx_t1, idx_t2, idx_t3, idx_t4, idx_l0, seqItems, Op2.F, Cm.F, Cm.T, B1.F, B2.F, tup_l, tup_t, lst_t, lst_l, len_t, len_l, truth_t, truth_l, truth_b, truth_i, truth_n, negF, addI, subI, List.append_assoc, ite_self, Bool.false_eq_true, reduceIte, sub_n, Nat.zero_add, Nat.reduceAdd, Nat.reduceLT, Nat.reduceLeDiff, Nat.reduceSub, Bool.not_true, Bool.not_false, List.isEmpty_cons, List.isEmpty_nil, idx_last, fin, wipeE, noOw, List.all_cons, List.all_nil, Bool.and_true, Bool.true_and, Bool.and_self, and_true, true_and, and_self, isE_app, cut_14, cut_1, cut_03, cut_02, eq_self_iff_true, Bool.not_eq_true, decide_true, decide_false, ltI, leI, gtI, geI]
  rw [for_fold (E := fun st : List D × Slot × Slot × Slot => [.no, .sr, .sh (.tuple (ts.map tkD)), x3, .sh (.str (tkS bb)), .sh (Ou.D ⟨ep, [], C⟩), .sh (.list (due.map dueD)), .sh (.int E), .sh (.tuple (C.map cmD)), .sh (.list (ls.map Lt.D)), x10, x11, x12, x13, x14, .sh (.list st.1), x16, x17, st.2.1, x19, x20, st.2.2.1, st.2.2.2, .no, .no])
    (g := dueG bb) (st := ([], x18, x21, x22)) (Q := fun l st => st.1.length + (dRows bb l).length ≤ lim) (fun q l st hq => by
      unfold dRows at hq
      rw [List.flatMap_cons, List.length_append] at hq
      refine ⟨?_, by show (st.1 ++ lotRows bb q.2.2).length + _ ≤ _; rw [List.length_append]; unfold dRows; omega⟩
      have i0 : idxF (tkD q.2.2.1) (.int 0) = some (.str (tkS q.2.2.1.1)) := idx_t0
      unfold dueG
      unfold lotRows at hq ⊢
      by_cases z : q.2.2.1.1 = bb
      · rw [if_pos z] at hq ⊢
        simp only [evSs, evS, evE, evEs, evO, evAs, evT, evTs, evTo, evIt, bind_one, bind_many, binds_nil, binds_cons, Option.bind_some, Option.bind_none, Option.map_some, Option.map_none, List.getElem?_cons_zero, List.getElem?_cons_succ, List.set_cons_zero, List.set_cons_succ, List.length_cons, List.length_nil, List.replicate_succ, List.replicate_zero, List.cons_append, List.nil_append, Nat.lt_irrefl, if_true, if_false, lim_0, lim_1, lim_2, lim_3, lim_4, lim_5, lim_6, lim_7, lim_8, idx_t0, idx_t1, idx_t2, idx_t3, idx_t4, idx_l0, seqItems, Op2.F, Cm.F, Cm.T, B1.F, B2.F, tup_l, tup_t, lst_t, lst_l, len_t, len_l, truth_t, truth_l, truth_b, truth_i, truth_n, negF, addI, subI, List.append_assoc, ite_self, Bool.false_eq_true, reduceIte, sub_n, Nat.zero_add, Nat.reduceAdd, Nat.reduceLT, Nat.reduceLeDiff, Nat.reduceSub, Bool.not_true, Bool.not_false, List.isEmpty_cons, List.isEmpty_nil, idx_last, fin, wipeE, noOw, List.all_cons, List.all_nil, Bool.and_true, Bool.true_and, Bool.and_self, and_true, true_and, and_self, isE_app, cut_14, cut_1, cut_03, cut_02, eq_self_iff_true, Bool.not_eq_true, decide_true, decide_false, ltI, leI, gtI, geI, dueD, tellD, i0, tkS_eq, z, addL (show st.1.length + q.2.2.2.length ≤ lim by omega)]
      · rw [if_neg z] at hq ⊢
        simp only [evSs, evS, evE, evEs, evO, evAs, evT, evTs, evTo, evIt, bind_one, bind_many, binds_nil, binds_cons, Option.bind_some, Option.bind_none, Option.map_some, Option.map_none, List.getElem?_cons_zero, List.getElem?_cons_succ, List.set_cons_zero, List.set_cons_succ, List.length_cons, List.length_nil, List.replicate_succ, List.replicate_zero, List.cons_append, List.nil_append, Nat.lt_irrefl, if_true, if_false, lim_0, lim_1, lim_2, lim_3, lim_4, lim_5, lim_6, lim_7, lim_8, idx_t0, idx_t1, idx_t2, idx_t3, idx_t4, idx_l0, seqItems, Op2.F, Cm.F, Cm.T, B1.F, B2.F, tup_l, tup_t, lst_t, lst_l, len_t, len_l, truth_t, truth_l, truth_b, truth_i, truth_n, negF, addI, subI, List.append_assoc, ite_self, Bool.false_eq_true, reduceIte, sub_n, Nat.zero_add, Nat.reduceAdd, Nat.reduceLT, Nat.reduceLeDiff, Nat.reduceSub, Bool.not_true, Bool.not_false, List.isEmpty_cons, List.isEmpty_nil, idx_last, fin, wipeE, noOw, List.all_cons, List.all_nil, Bool.and_true, Bool.true_and, Bool.and_self, and_true, true_and, and_self, isE_app, cut_14, cut_1, cut_03, cut_02, eq_self_iff_true, Bool.not_eq_true, decide_true, decide_false, ltI, leI, gtI, geI, dueD, tellD, i0, tkS_eq, z, addL (show st.1.length + ([] : List D).length ≤ lim by simp at hq ⊢; omega)])
    (by rw [b.duq]; show 0 + _ ≤ _; omega)]
  have e1 := dueG_1 (b := bb) (due := due) (st := ([], x18, x21, x22))
  rw [b.duq] at e1
  simp only [evSs, evS, evE, evEs, evO, evAs, evT, evTs, evTo, evIt, bind_one, bind_many, binds_nil, binds_cons, Option.bind_some, Option.bind_none, Option.map_some, Option.map_none, List.getElem?_cons_zero, List.getElem?_cons_succ, List.set_cons_zero, List.set_cons_succ, List.length_cons, List.length_nil, List.replicate_succ, List.replicate_zero, List.cons_append, List.nil_append, Nat.lt_irrefl, if_true, if_false, lim_0, lim_1, lim_2, lim_3, lim_4, lim_5, lim_6, lim_7, lim_8, idx_t0, idx_t1, idx_t2, idx_t3, idx_t4, idx_l0, seqItems, Op2.F, Cm.F, Cm.T, B1.F, B2.F, tup_l, tup_t, lst_t, lst_l, len_t, len_l, truth_t, truth_l, truth_b, truth_i, truth_n, negF, addI, subI, List.append_assoc, ite_self, Bool.false_eq_true, reduceIte, sub_n, Nat.zero_add, Nat.reduceAdd, Nat.reduceLT, Nat.reduceLeDiff, Nat.reduceSub, Bool.not_true, Bool.not_false, List.isEmpty_cons, List.isEmpty_nil, idx_last, fin, wipeE, noOw, List.all_cons, List.all_nil, Bool.and_true, Bool.true_and, Bool.and_self, and_true, true_and, and_self, isE_app, cut_14, cut_1, cut_03, cut_02, eq_self_iff_true, Bool.not_eq_true, decide_true, decide_false, ltI, leI, gtI, geI, e1, q1, forLoop, q2, q3, c1]
  exact ⟨_, _, _, _, _, rfl⟩
theorem w_fin {x3 x4 : Slot} {ts : List Tk} {E ep : Int} {C : List Cm'} {ls : List Lt} {due : List (Int × Int × Lo)} {x10 x11 x12 x13 x14 x15 x16 x17 x18 x19 x20 x21 x22 : Slot} (b : Btw 0 E ep C ls due) (hC : C.length ≤ 5) :
    evSs ⟨Tt, run fns Tt 6⟩ bFin (envE x3 x4 ts ⟨ep, [], C⟩ due E C ls x10 x11 x12 x13 x14 x15 x16 x17 x18 x19 x20 x21 x22) s =
      some ((.ret (.bool true), envE x3 x4 ts ⟨ep, [], C⟩ due E C ls x10 x11 x12 x13 x14 x15 x16 x17 x18 x19 x20 x21 x22), s) := by
  have big5 : 100 < lim := by decide
  have lls : ls.length ≤ 50 := by have := b.len; omega
  have q1 := r_notdone (Tt := Tt) (n := 1) (s := s) b.okl (by omega) (fun l hl e k ts he => by rw [b.rep]; exact b.coms l hl e k ts he)
  have q2 := r_fresh (Tt := Tt) (n := 5) (s := s)
  have q3 := r_hearAll (Tt := Tt) (n := 2) (s := s) ok_fresh b.okl (by omega)
  rw [b.rep] at q3
  have q3 : run fns Tt 6 6 [.sh (outD 0 [] []), .sh (.list (ls.map Lt.D))] s = _ := q3
  have sO : SeqAt.shaped (Ou.D ⟨ep, [], C⟩) = true := (sm_out (by simp) fun c hc p hq => ((b.rows c hc).2 p hq).2 : Sm 8 _).shaped (by omega)
  have c1 := eqB_refl sO
  have c2 : eqB (.tuple []) (.tuple []) = some true := eqB_refl ((Sm.tup (m := 0) (by simp)).shaped (by omega))
  unfold bFin envE
  simp only [evSs, evS, evE, evEs, evO, evAs, evT, evTs, evTo, evIt, bind_one, bind_many, binds_nil, binds_cons, Option.bind_some, Option.bind_none, Option.map_some, Option.map_none, List.getElem?_cons_zero, List.getElem?_cons_succ, List.set_cons_zero, List.set_cons_succ, List.length_cons, List.length_nil, List.replicate_succ, List.replicate_zero, List.cons_append, List.nil_append, Nat.lt_irrefl, if_true, if_false, lim_0, lim_1, lim_2, lim_3, lim_4, lim_5, lim_6, lim_7, lim_8, idx_t0, idx_t1, idx_t2, idx_t3, idx_t4, idx_l0, seqItems, Op2.F, Cm.F, Cm.T, B1.F, B2.F, tup_l, tup_t, lst_t, lst_l, len_t, len_l, truth_t, truth_l, truth_b, truth_i, truth_n, negF, addI, subI, List.append_assoc, ite_self, Bool.false_eq_true, reduceIte, sub_n, Nat.zero_add, Nat.reduceAdd, Nat.reduceLT, Nat.reduceLeDiff, Nat.reduceSub, Bool.not_true, Bool.not_false, List.isEmpty_cons, List.isEmpty_nil, idx_last, fin, wipeE, noOw, List.all_cons, List.all_nil, Bool.and_true, Bool.true_and, Bool.and_self, and_true, true_and, and_self, isE_app, cut_14, cut_1, cut_03, cut_02, eq_self_iff_true, Bool.not_eq_true, decide_true, decide_false, ltI, leI, gtI, geI, q1, q2, q3, c1, c2]
theorem w_end {x3 : Slot} {ts : List Tk} {E ep : Int} {C : List Cm'} {ls : List Lt} {due : List (Int × Int × Lo)} {x10 x11 x12 x13 x14 x17 x18 x19 x20 : Slot} (b : Btw 0 E ep C ls due) (hC : C.length ≤ 5) :
    ∃ env', evSs ⟨Tt, run fns Tt 6⟩ bEnd (envQ x3 ts ⟨ep, [], C⟩ due E C ls x10 x11 x12 x13 x14 x17 x18 x19 x20) s = some ((.ret (.bool true), env'), s) := by
  obtain ⟨y15, y16, y18, y21, y22, e1⟩ := w_step (Tt := Tt) (s := s) (bb := true) (x3 := x3) (ts := ts) (x10 := x10) (x11 := x11) (x12 := x12) (x13 := x13) (x14 := x14) (x15 := .no) (x16 := .no) (x17 := x17) (x18 := x18) (x19 := x19) (x20 := x20) (x21 := .no) (x22 := .no) b hC
  obtain ⟨z15, z16, z18, z21, z22, e2⟩ := w_step (Tt := Tt) (s := s) (bb := false) (x3 := x3) (ts := ts) (x10 := x10) (x11 := x11) (x12 := x12) (x13 := x13) (x14 := x14) (x15 := y15) (x16 := y16) (x17 := x17) (x18 := y18) (x19 := x19) (x20 := x20) (x21 := y21) (x22 := y22) b hC
  have e3 := w_fin (Tt := Tt) (s := s) (x3 := x3) (x4 := .sh (.str (tkS false))) (ts := ts) (x10 := x10) (x11 := x11) (x12 := x12) (x13 := x13) (x14 := x14) (x15 := z15) (x16 := z16) (x17 := x17) (x18 := z18) (x19 := x19) (x20 := x20) (x21 := z21) (x22 := z22) b hC
  refine ⟨_, Eq.trans ?_ e3⟩
  have e1 : evSs ⟨Tt, run fns Tt 6⟩ bStep ((envE x3 .no ts ⟨ep, [], C⟩ due E C ls x10 x11 x12 x13 x14 .no .no x17 x18 x19 x20 .no .no).set 4 (.sh (.str "out"))) s = _ := e1
  have e2 : evSs ⟨Tt, run fns Tt 6⟩ bStep ((envE x3 (.sh (.str (tkS true))) ts ⟨ep, [], C⟩ due E C ls x10 x11 x12 x13 x14 y15 y16 x17 y18 x19 x20 y21 y22).set 4 (.sh (.str "a"))) s = _ := e2
  have l1 : 4 < (envE x3 .no ts ⟨ep, [], C⟩ due E C ls x10 x11 x12 x13 x14 .no .no x17 x18 x19 x20 .no .no).length := by show 4 < 25; omega
  have l2 : 4 < (envE x3 (.sh (.str (tkS true))) ts ⟨ep, [], C⟩ due E C ls x10 x11 x12 x13 x14 y15 y16 x17 y18 x19 x20 y21 y22).length := by show 4 < 25; omega
  have f9 : evS ⟨Tt, run fns Tt 6⟩ (.frz 9) (envQ x3 ts ⟨ep, [], C⟩ due E C ls x10 x11 x12 x13 x14 x17 x18 x19 x20) s = some ((.next, envE x3 .no ts ⟨ep, [], C⟩ due E C ls x10 x11 x12 x13 x14 .no .no x17 x18 x19 x20 .no .no), s) := by
    unfold evS; rfl
  simp only [bEnd_eq, evSs]
  rw [f9]
  simp only [evS, evIt, evE, evEs, Option.bind_some, Option.map_some, List.length_cons, List.length_nil, Nat.zero_add, Nat.reduceAdd, lim_2, if_true, seqItems, forLoop, bind_one, l1, l2, e1, e2]
end K77
end DL
end
section
set_option Elab.async false
set_option linter.all false
set_option maxRecDepth 100000
set_option maxHeartbeats 4000000
/-! KP20: the plain law of k77, and its row. -/
namespace DL
open PySem PySem.Spec PyProof.Rows L2
namespace K77
variable {Tt : Tb} {s : Src}
theorem w_head : ∃ (a b : Nat) (s' : Src), (∀ R : Ss, evSs ⟨Tt, run fns Tt 6⟩ (.cons (.asg (.one 2) (.b1 .tuple_ (.comp (.one 23) (.range1 (.bin .add (.int 1) (.pick 1 (.int 2)))) .nil [23] (.tup (.cons (.str "a") (.cons (.var 23) .nil)))))) (.cons (.asg (.one 2) (.bin .add (.var 2) (.b1 .tuple_ (.comp (.one 23) (.range1 (.bin .add (.int 1) (.pick 1 (.int 3)))) .nil [23] (.tup (.cons (.str "out") (.cons (.var 23) .nil))))))) R)) env0 s =
    evSs ⟨Tt, run fns Tt 6⟩ R (envH (tasksOf a b)) s') ∧ 1 ≤ a ∧ a ≤ 2 ∧ 1 ≤ b ∧ b ≤ 3 := by
  rcases hp2 : pickF s 2 with ⟨i, s1⟩
  have hb := pick_bounds s 2 (by omega)
  rw [hp2] at hb
  obtain ⟨h0, h1⟩ := hb
  rcases hp3 : pickF s1 3 with ⟨j, s2⟩
  have hb := pick_bounds s1 3 (by omega)
  rw [hp3] at hb
  obtain ⟨h2, h3⟩ := hb
  dsimp only at h0 h1 h2 h3
  obtain ⟨a, ha⟩ : ∃ a, a = (1 + i - 0).toNat := ⟨_, rfl⟩
  obtain ⟨b, hb⟩ : ∃ b, b = (1 + j - 0).toNat := ⟨_, rfl⟩
  have big5 : 100 < lim := by decide
  have ra : rangeOk 0 (1 + i) = true := range_ok (by omega) (by omega)
  have rb : rangeOk 0 (1 + j) = true := range_ok (by omega) (by omega)
  have ia : rangeItems 0 (1 + i) = (List.range a).map fun (i : Nat) => .int (0 + (i : Int)) := by rw [ha]; rfl
  have ib : rangeItems 0 (1 + j) = (List.range b).map fun (i : Nat) => .int (0 + (i : Int)) := by rw [hb]; rfl
  have la : ((List.range a).map fun (i : Nat) => PyData.int (0 + (i : Int))).length ≤ lim := by rw [List.length_map, List.length_range]; omega
  have lb : ((List.range b).map fun (i : Nat) => PyData.int (0 + (i : Int))).length ≤ lim := by rw [List.length_map, List.length_range]; omega
  refine ⟨a, b, s2, fun R => ?_, by omega, by omega, by omega, by omega⟩
  have ea : ((List.range a).filterMap fun (i : Nat) => some (tkD (false, 0 + (i : Int)))) = ((List.range a).map fun (i : Nat) => (false, (0 : Int) + (i : Int))).map tkD := by
    rw [List.map_map]; simp [Function.comp_def]
  have eb : ((List.range b).filterMap fun (i : Nat) => some (tkD (true, 0 + (i : Int)))) = ((List.range b).map fun (i : Nat) => (true, (0 : Int) + (i : Int))).map tkD := by
    rw [List.map_map]; simp [Function.comp_def]
  have ad : addF (.tuple (((List.range a).map fun (i : Nat) => (false, (0 : Int) + (i : Int))).map tkD)) (.tuple (((List.range b).map fun (i : Nat) => (true, (0 : Int) + (i : Int))).map tkD)) = some (.tuple ((tasksOf a b).map tkD)) := by
    rw [addT (by simp only [List.length_map, List.length_range]; omega), ← List.map_append]
    rfl
  unfold env0 envH
  simp only [evSs, evS, evE, evEs, evO, evAs, evT, evTs, evTo, evIt, bind_one, bind_many, binds_nil, binds_cons, Option.bind_some, Option.bind_none, Option.map_some, Option.map_none, List.getElem?_cons_zero, List.getElem?_cons_succ, List.set_cons_zero, List.set_cons_succ, List.length_cons, List.length_nil, List.replicate_succ, List.replicate_zero, List.cons_append, List.nil_append, Nat.lt_irrefl, if_true, if_false, lim_0, lim_1, lim_2, lim_3, lim_4, lim_5, lim_6, lim_7, lim_8, idx_t0, idx_t1, idx_t2, idx_t3, idx_t4, idx_l0, seqItems, Op2.F, Cm.F, Cm.T, B1.F, B2.F, tup_l, tup_t, lst_t, lst_l, len_t, len_l, truth_t, truth_l, truth_b, truth_i, truth_n, negF, addI, subI, List.append_assoc, ite_self, Bool.false_eq_true, reduceIte, sub_n, Nat.zero_add, Nat.reduceAdd, Nat.reduceLT, Nat.reduceLeDiff, Nat.reduceSub, Bool.not_true, Bool.not_false, List.isEmpty_cons, List.isEmpty_nil, idx_last, fin, wipeE, noOw, List.all_cons, List.all_nil, Bool.and_true, Bool.true_and, Bool.and_self, and_true, true_and, and_self, isE_app, cut_14, cut_1, cut_03, cut_02, eq_self_iff_true, Bool.not_eq_true, decide_true, decide_false, ltI, leI, gtI, geI, big (show (2 : Int) ≤ 1000000000000 by omega), hp2, ra, ia, la]
  rw [comp_map (g := fun (i : Nat) => some (tkD (false, 0 + (i : Int)))) (fun p _ s => rfl)]
  rw [ea]
  simp only [evSs, evS, evE, evEs, evO, evAs, evT, evTs, evTo, evIt, bind_one, bind_many, binds_nil, binds_cons, Option.bind_some, Option.bind_none, Option.map_some, Option.map_none, List.getElem?_cons_zero, List.getElem?_cons_succ, List.set_cons_zero, List.set_cons_succ, List.length_cons, List.length_nil, List.replicate_succ, List.replicate_zero, List.cons_append, List.nil_append, Nat.lt_irrefl, if_true, if_false, lim_0, lim_1, lim_2, lim_3, lim_4, lim_5, lim_6, lim_7, lim_8, idx_t0, idx_t1, idx_t2, idx_t3, idx_t4, idx_l0, seqItems, Op2.F, Cm.F, Cm.T, B1.F, B2.F, tup_l, tup_t, lst_t, lst_l, len_t, len_l, truth_t, truth_l, truth_b, truth_i, truth_n, negF, addI, subI, List.append_assoc, ite_self, Bool.false_eq_true, reduceIte, sub_n, Nat.zero_add, Nat.reduceAdd, Nat.reduceLT, Nat.reduceLeDiff, Nat.reduceSub, Bool.not_true, Bool.not_false, List.isEmpty_cons, List.isEmpty_nil, idx_last, fin, wipeE, noOw, List.all_cons, List.all_nil, Bool.and_true, Bool.true_and, Bool.and_self, and_true, true_and, and_self, isE_app, cut_14, cut_1, cut_03, cut_02, eq_self_iff_true, Bool.not_eq_true, decide_true, decide_false, ltI, leI, gtI, geI, big (show (3 : Int) ≤ 1000000000000 by omega), hp3, rb, ib, lb]
  rw [comp_map (g := fun (i : Nat) => some (tkD (true, 0 + (i : Int)))) (fun p _ s => rfl)]
  rw [eb]
  simp only [evSs, evS, evE, evEs, evO, evAs, evT, evTs, evTo, evIt, bind_one, bind_many, binds_nil, binds_cons, Option.bind_some, Option.bind_none, Option.map_some, Option.map_none, List.getElem?_cons_zero, List.getElem?_cons_succ, List.set_cons_zero, List.set_cons_succ, List.length_cons, List.length_nil, List.replicate_succ, List.replicate_zero, List.cons_append, List.nil_append, Nat.lt_irrefl, if_true, if_false, lim_0, lim_1, lim_2, lim_3, lim_4, lim_5, lim_6, lim_7, lim_8, idx_t0, idx_t1, idx_t2, idx_t3, idx_t4, idx_l0, seqItems, Op2.F, Cm.F, Cm.T, B1.F, B2.F, tup_l, tup_t, lst_t, lst_l, len_t, len_l, truth_t, truth_l, truth_b, truth_i, truth_n, negF, addI, subI, List.append_assoc, ite_self, Bool.false_eq_true, reduceIte, sub_n, Nat.zero_add, Nat.reduceAdd, Nat.reduceLT, Nat.reduceLeDiff, Nat.reduceSub, Bool.not_true, Bool.not_false, List.isEmpty_cons, List.isEmpty_nil, idx_last, fin, wipeE, noOw, List.all_cons, List.all_nil, Bool.and_true, Bool.true_and, Bool.and_self, and_true, true_and, and_self, isE_app, cut_14, cut_1, cut_03, cut_02, eq_self_iff_true, Bool.not_eq_true, decide_true, decide_false, ltI, leI, gtI, geI, ad]
theorem plain6 : Plain 6 := fun Tt ns _ => by
  obtain ⟨a, b, s1, e1, a1, a2, b1, b2⟩ := w_head (Tt := Tt) (s := openF ns)
  obtain ⟨x3, E, ep, C, ls, due, x10, x11, x12, x13, x14, x17, x18, x19, x20, s2, e2, bt, hC⟩ := w_loop (Tt := Tt) (s := s1) (R := bEnd) (tasks_ok a b) (by rw [tasks_len]; omega) (by rw [tasks_len]; omega)
  obtain ⟨env', e3⟩ := w_end (Tt := Tt) (s := s2) (x3 := x3) (ts := tasksOf a b) (x10 := x10) (x11 := x11) (x12 := x12) (x13 := x13) (x14 := x14) (x17 := x17) (x18 := x18) (x19 := x19) (x20 := x20) bt hC
  refine ⟨env', s2, ?_⟩
  rw [b_law_eq]
  exact (e1 _).trans (e2.trans e3)
end K77
end DL
end
theorem PySem.Challenge.cw_oncestream_k77_whole_numbers_held_then_c_holds : PySem.Challenge.rw_oncestream_k77_whole_numbers_held_then_c.Holds :=
  cw_of_plain DL.K77.plain6
