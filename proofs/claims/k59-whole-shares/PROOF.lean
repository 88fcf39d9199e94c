import PyProof.Rows.All
import Wide.All
import OpenK.AllK
import Wide.FinOn
import HandS.ForMost
import HandS.Exc
import HandS.TupMul
import HandS.Wide
import HandS.TupAny
import HandS.Deep
import HandS.IsInst
import HandS.SortRule
import KE.KTupSum
import HandS.Iter
import KE.GoesEnum
import HandS.NoneIn
import HandS.ExcOwn
import HandS.Ends
import PySem.Challenge.RW_almsrow_k59_whole_shares
set_option Elab.async false
set_option linter.all false
set_option maxRecDepth 100000
set_option autoImplicit false
/-! Vx: a layer of values over HandS. D: data (shared, never changed again); O: what a slot owns; R: how slots, held things and the abstract heap go together. -/
namespace Vx
open PySem PySem.Spec PyProof.Rows L2

abbrev D := PyData
abbrev Fz := Addr → Prop

/-! ### what is kept -/
/-- what is never written -/
def fixedO : HO → Bool
  | .tup _ => true
  | .frz _ _ => true
  | .xd _ => true
  | .own _ => true
  | .met _ _ => true
  | .rng _ _ => true
  | .tbl _ => true
  | _ => false
structure Kp (S S' : Fz) (H H' : Hp) : Prop where
  s : ∀ a, S a → S' a
  h : ∀ a, S a → H' a = H a
  i : ∀ a o, H a = some o → fixedO o = true → H' a = some o
theorem Kp.refl {S : Fz} {H : Hp} : Kp S S H H := ⟨fun _ h => h, fun _ _ => rfl, fun _ _ h _ => h⟩
theorem Kp.trans {S S1 S2 : Fz} {H H1 H2 : Hp} (a : Kp S S1 H H1) (b : Kp S1 S2 H1 H2) : Kp S S2 H H2 :=
  ⟨fun x h => b.s x (a.s x h), fun x h => (b.h x (a.s x h)).trans (a.h x h), fun x o h f => b.i x o (a.i x o h f) f⟩
theorem Kp.t {S S' : Fz} {H H' : Hp} (k : Kp S S' H H') (a : Addr) (xs : List V) (h : H a = some (.tup xs)) : H' a = some (.tup xs) := k.i a _ h rfl
theorem Kp.z {S S' : Fz} {H H' : Hp} (k : Kp S S' H H') (a : Addr) (o : Obj) (u : HO) (h : H a = some (.frz o u)) : H' a = some (.frz o u) := k.i a _ h rfl
theorem Kp.more {S S' : Fz} {H : Hp} (h : ∀ a, S a → S' a) : Kp S S' H H := ⟨h, fun _ _ => rfl, fun _ _ h _ => h⟩
/-- a new object -/
theorem Kp.new {S : Fz} {H : Hp} {p : Addr} {o : HO} (hp : H p = none) (hs : ∀ a, S a → H a ≠ none) : Kp S S H (upd H p o) := by
  refine ⟨fun _ h => h, fun a h => ?_, fun a ob h _ => ?_⟩
  · exact upd_ne fun e => hs a h (by rw [e]; exact hp)
  · rw [upd_ne (ne_of_none h hp)]; exact h
/-- an owned list is written -/
theorem Kp.put {S : Fz} {H : Hp} {p : Addr} {xs : List V} {o : HO} (hp : H p = some (.lst xs)) (hs : ¬ S p) : Kp S S H (upd H p o) := by
  refine ⟨fun _ h => h, fun a h => ?_, fun a ob h f => ?_⟩
  · exact upd_ne fun e => hs (by rw [← e]; exact h)
  · rw [upd_ne (ne_of h hp (by intro z; rw [z] at f; cases f))]; exact h

/-! ### data -/
def FzL (K : PySem.W.Frag) (S : Fz) (H : Hp) (a : Addr) (xs : List V) : Prop :=
  (S a ∧ H a = some (.lst xs)) ∨ (∃ o, H a = some (.frz o (.lst xs))) ∨
    ∃ (o : Obj) (its : Array Value) (n : Nat), K.lookup a = some o ∧ o.cls = .type "list" ∧ o.dict = none ∧ o.data = .seq its n ∧ its.size ≤ sizeLine ∧ Vals xs its.toList
theorem FzL.sq {K : PySem.W.Frag} {S : Fz} {H : Hp} {a : Addr} {xs : List V} (h : FzL K S H a xs) : SqL K H a xs := by
  rcases h with h | h | h
  · exact .inl (.inl h.2)
  · exact .inl (.inr h)
  · exact .inr h
theorem FzL.kp {K : PySem.W.Frag} {S S' : Fz} {H H' : Hp} {a : Addr} {xs : List V} (k : Kp S S' H H') (h : FzL K S H a xs) : FzL K S' H' a xs := by
  rcases h with h | h | h
  · exact .inl ⟨k.s _ h.1, (k.h _ h.1).trans h.2⟩
  · obtain ⟨o, h⟩ := h
    exact .inr (.inl ⟨o, k.z _ _ _ h⟩)
  · exact .inr (.inr h)
theorem sqT_kp {K : PySem.W.Frag} {S S' : Fz} {H H' : Hp} {a : Addr} {xs : List V} (k : Kp S S' H H') (h : SqT K H a xs) : SqT K H' a xs := by
  rcases h with (h | ⟨o, h⟩) | h
  · exact .inl (.inl (k.t _ _ h))
  · exact .inl (.inr ⟨o, k.z _ _ _ h⟩)
  · exact .inr h

mutual
/-- v stands for the data d -/
inductive Rp (K : PySem.W.Frag) (S : Fz) (H : Hp) : V → D → Prop
  | non : Rp K S H .non .none
  | bl (b : Bool) : Rp K S H (.bl b) (.bool b)
  | int (i : Int) : Rp K S H (.int i) (.int i)
  | str (x : Str) : Rp K S H (.str x) (.str x)
  | lst {a : Addr} {xs : List V} {ds : List D} : FzL K S H a xs → RpA K S H xs ds → Rp K S H (.ref a) (.list ds)
  | tup {a : Addr} {xs : List V} {ds : List D} : SqT K H a xs → RpA K S H xs ds → Rp K S H (.ref a) (.tuple ds)
inductive RpA (K : PySem.W.Frag) (S : Fz) (H : Hp) : List V → List D → Prop
  | nil : RpA K S H [] []
  | cons {v : V} {d : D} {vs : List V} {ds : List D} : Rp K S H v d → RpA K S H vs ds → RpA K S H (v :: vs) (d :: ds)
end
section
variable {K : PySem.W.Frag} {S S' : Fz} {H H' : Hp}
mutual
theorem Rp.kp (k : Kp S S' H H') : ∀ {v : V} {d : D}, Rp K S H v d → Rp K S' H' v d
  | _, _, .non => .non
  | _, _, .bl b => .bl b
  | _, _, .int i => .int i
  | _, _, .str x => .str x
  | _, _, .lst h r => .lst (h.kp k) (RpA.kp k r)
  | _, _, .tup h r => .tup (sqT_kp k h) (RpA.kp k r)
theorem RpA.kp (k : Kp S S' H H') : ∀ {vs : List V} {ds : List D}, RpA K S H vs ds → RpA K S' H' vs ds
  | _, _, .nil => .nil
  | _, _, .cons a b => .cons (Rp.kp k a) (RpA.kp k b)
end
mutual
theorem Rp.dp : ∀ {v : V} {d : D}, Rp K S H v d → Dp K H v d
  | _, _, .non => .non
  | _, _, .bl b => .bl b
  | _, _, .int i => .int i
  | _, _, .str x => .str x
  | _, _, .lst h r => .lst h.sq (RpA.dp r)
  | _, _, .tup h r => .tup h (RpA.dp r)
theorem RpA.dp : ∀ {vs : List V} {ds : List D}, RpA K S H vs ds → DpAll K H vs ds
  | _, _, .nil => .nil
  | _, _, .cons a b => .cons (Rp.dp a) (RpA.dp b)
end
theorem RpA.length : ∀ {vs : List V} {ds : List D}, RpA K S H vs ds → vs.length = ds.length
  | _, _, .nil => rfl
  | _, _, .cons _ b => congrArg (· + 1) (RpA.length b)
theorem RpA.get : ∀ {vs : List V} {ds : List D} {i : Nat} {v : V}, RpA K S H vs ds → vs[i]? = some v → ∃ d, ds[i]? = some d ∧ Rp K S H v d
  | _, _, _, _, .nil, e => by simp at e
  | _, _, 0, _, .cons a _, e => by simp at e; subst e; exact ⟨_, rfl, a⟩
  | _, _, i + 1, _, .cons _ b, e => by
    obtain ⟨d, h1, h2⟩ := RpA.get (i := i) b (by simpa using e)
    exact ⟨d, by simpa using h1, h2⟩
theorem RpA.getD : ∀ {vs : List V} {ds : List D} {i : Nat} {d : D}, RpA K S H vs ds → ds[i]? = some d → ∃ v, vs[i]? = some v ∧ Rp K S H v d
  | _, _, _, _, .nil, e => by simp at e
  | _, _, 0, _, .cons a _, e => by simp at e; subst e; exact ⟨_, rfl, a⟩
  | _, _, i + 1, _, .cons _ b, e => by
    obtain ⟨d, h1, h2⟩ := RpA.getD (i := i) b (by simpa using e)
    exact ⟨d, by simpa using h1, h2⟩
theorem RpA.append : ∀ {vs ws : List V} {ds es : List D}, RpA K S H vs ds → RpA K S H ws es → RpA K S H (vs ++ ws) (ds ++ es)
  | _, _, _, _, .nil, s => s
  | _, _, _, _, .cons r t, s => .cons r (RpA.append t s)
theorem RpA.take : ∀ {vs : List V} {ds : List D} (n : Nat), RpA K S H vs ds → RpA K S H (vs.take n) (ds.take n)
  | _, _, 0, _ => .nil
  | _, _, _ + 1, .nil => .nil
  | _, _, n + 1, .cons r t => .cons r (RpA.take n t)
theorem RpA.drop : ∀ {vs : List V} {ds : List D} (n : Nat), RpA K S H vs ds → RpA K S H (vs.drop n) (ds.drop n)
  | _, _, 0, r => r
  | _, _, _ + 1, .nil => .nil
  | _, _, n + 1, .cons _ t => RpA.drop n t
theorem RpA.reverse : ∀ {vs : List V} {ds : List D}, RpA K S H vs ds → RpA K S H vs.reverse ds.reverse
  | _, _, .nil => .nil
  | _, _, .cons r t => by
    rw [List.reverse_cons, List.reverse_cons]
    exact RpA.append (RpA.reverse t) (.cons r .nil)
theorem RpA.ints : ∀ {vs : List V} {ns : List Int}, RpA K S H vs (ns.map PyData.int) → vs = ns.map V.int
  | [], [], _ => rfl
  | _ :: _, [], r => nomatch r
  | [], _ :: _, r => nomatch r
  | _ :: _, n :: ns, r => by
    cases r with
    | cons a b => cases a; rw [RpA.ints b]; rfl
theorem RpA.of_ints : ∀ (ns : List Int), RpA K S H (ns.map V.int) (ns.map PyData.int)
  | [] => .nil
  | n :: ns => .cons (.int n) (RpA.of_ints ns)
theorem RpA.bools : ∀ {vs : List V} {ns : List Bool}, RpA K S H vs (ns.map PyData.bool) → vs = ns.map V.bl
  | [], [], _ => rfl
  | _ :: _, [], r => nomatch r
  | [], _ :: _, r => nomatch r
  | _ :: _, n :: ns, r => by
    cases r with
    | cons a b => cases a; rw [RpA.bools b]; rfl
theorem RpA.strs : ∀ {vs : List V} {ns : List Str}, RpA K S H vs (ns.map PyData.str) → vs = ns.map V.str
  | [], [], _ => rfl
  | _ :: _, [], r => nomatch r
  | [], _ :: _, r => nomatch r
  | _ :: _, n :: ns, r => by
    cases r with
    | cons a b => cases a; rw [RpA.strs b]; rfl
theorem RpA.of_strs : ∀ (ns : List Str), RpA K S H (ns.map V.str) (ns.map PyData.str)
  | [] => .nil
  | n :: ns => .cons (.str n) (RpA.of_strs ns)
end

/-! ### what is owned -/
inductive O where
  | d (x : D)
  | tup (xs : List O)
  | lst (a : Addr) (xs : List O)
mutual
def O.cnt (p : Addr) : O → Nat
  | .d _ => 0
  | .tup xs => O.cntL p xs
  | .lst a xs => (if a = p then 1 else 0) + O.cntL p xs
def O.cntL (p : Addr) : List O → Nat
  | [] => 0
  | x :: xs => O.cnt p x + O.cntL p xs
end
mutual
def O.toD : O → D
  | .d x => x
  | .tup xs => .tuple (O.toDs xs)
  | .lst _ xs => .list (O.toDs xs)
def O.toDs : List O → List D
  | [] => []
  | x :: xs => x.toD :: O.toDs xs
end
theorem O.toDs_map : ∀ ds : List D, O.toDs (ds.map O.d) = ds
  | [] => rfl
  | e :: es => by
    show (O.d e).toD :: O.toDs (es.map O.d) = _
    rw [O.toDs_map es]; rfl
theorem O.toDs_length : ∀ xs : List O, (O.toDs xs).length = xs.length
  | [] => rfl
  | _ :: xs => congrArg (· + 1) (O.toDs_length xs)
theorem O.cntL_map (p : Addr) : ∀ ds : List D, O.cntL p (ds.map O.d) = 0
  | [] => rfl
  | e :: es => by
    show O.cnt p (O.d e) + O.cntL p (es.map O.d) = 0
    rw [O.cntL_map p es]; rfl
theorem O.cntL_append (p : Addr) : ∀ xs ys : List O, O.cntL p (xs ++ ys) = O.cntL p xs + O.cntL p ys
  | [], ys => by show _ = 0 + _; rw [Nat.zero_add]; rfl
  | x :: xs, ys => by
    show O.cnt p x + O.cntL p (xs ++ ys) = O.cnt p x + O.cntL p xs + _
    rw [O.cntL_append p xs ys]; omega
theorem O.cntL_get {p : Addr} : ∀ {xs : List O} {i : Nat} {x : O}, xs[i]? = some x → O.cnt p x ≤ O.cntL p xs
  | [], _, _, e => by simp at e
  | y :: ys, 0, x, e => by
    simp at e; subst e
    exact Nat.le_add_right _ _
  | y :: ys, i + 1, x, e => by
    have := O.cntL_get (p := p) (xs := ys) (i := i) (x := x) (by simpa using e)
    show _ ≤ O.cnt p y + O.cntL p ys
    omega
theorem O.cntL_set {p : Addr} : ∀ {xs : List O} {i : Nat} {x y : O}, xs[i]? = some x → O.cntL p (xs.set i y) + O.cnt p x = O.cntL p xs + O.cnt p y
  | [], _, _, _, e => by simp at e
  | z :: zs, 0, x, y, e => by
    simp at e; subst e
    show O.cnt p y + O.cntL p zs + _ = O.cnt p z + O.cntL p zs + _
    omega
  | z :: zs, i + 1, x, y, e => by
    have := O.cntL_set (p := p) (xs := zs) (i := i) (x := x) (y := y) (by simpa using e)
    show O.cnt p z + O.cntL p (zs.set i y) + _ = O.cnt p z + O.cntL p zs + _
    omega

mutual
inductive OwnR (K : PySem.W.Frag) (S : Fz) (H : Hp) : V → O → Prop
  | d {v : V} {x : D} : Rp K S H v x → OwnR K S H v (.d x)
  | tup {a : Addr} {vs : List V} {os : List O} : SqT K H a vs → OwnA K S H vs os → OwnR K S H (.ref a) (.tup os)
  | lst {a : Addr} {vs : List V} {os : List O} : H a = some (.lst vs) → OwnA K S H vs os → OwnR K S H (.ref a) (.lst a os)
inductive OwnA (K : PySem.W.Frag) (S : Fz) (H : Hp) : List V → List O → Prop
  | nil : OwnA K S H [] []
  | cons {v : V} {o : O} {vs : List V} {os : List O} : OwnR K S H v o → OwnA K S H vs os → OwnA K S H (v :: vs) (o :: os)
end
section
variable {K : PySem.W.Frag} {S S' : Fz} {H H' : Hp}
mutual
theorem OwnR.kp (k : Kp S S' H H') : ∀ {v : V} {o : O}, OwnR K S H v o → (∀ a, 0 < o.cnt a → H' a = H a) → OwnR K S' H' v o
  | _, _, .d r, _ => .d (r.kp k)
  | _, _, .tup h r, q => .tup (sqT_kp k h) (OwnA.kp k r q)
  | _, _, .lst (a := a) (os := os) h r, q => .lst ((q a (by show 0 < (if a = a then 1 else 0) + O.cntL a os; rw [if_pos rfl]; omega)).trans h)
      (OwnA.kp k r fun b hb => q b (by show 0 < (if a = b then 1 else 0) + O.cntL b os; omega))
theorem OwnA.kp (k : Kp S S' H H') : ∀ {vs : List V} {os : List O}, OwnA K S H vs os → (∀ a, 0 < O.cntL a os → H' a = H a) → OwnA K S' H' vs os
  | _, _, .nil, _ => .nil
  | _, _, .cons (o := o) (os := os) a b, q => .cons (OwnR.kp k a fun x hx => q x (by show 0 < O.cnt x o + O.cntL x os; omega)) (OwnA.kp k b fun x hx => q x (by show 0 < O.cnt x o + O.cntL x os; omega))
end
mutual
theorem OwnR.live : ∀ {v : V} {o : O}, OwnR K S H v o → ∀ a, 0 < o.cnt a → ∃ xs, H a = some (.lst xs)
  | _, _, .d _, a, h => absurd h (by show ¬ 0 < 0; omega)
  | _, _, .tup _ r, a, h => OwnA.live r a h
  | _, _, .lst (a := b) (os := os) e r, a, h => by
    by_cases hb : b = a
    · subst hb; exact ⟨_, e⟩
    · have h' : 0 < (if b = a then 1 else 0) + O.cntL a os := h
      rw [if_neg hb] at h'
      exact OwnA.live r a (by omega)
theorem OwnA.live : ∀ {vs : List V} {os : List O}, OwnA K S H vs os → ∀ a, 0 < O.cntL a os → ∃ xs, H a = some (.lst xs)
  | _, _, .nil, a, h => absurd h (by show ¬ 0 < 0; omega)
  | _, _, .cons (o := o) (os := os) x y, a, h => by
    have h' : 0 < O.cnt a o + O.cntL a os := h
    by_cases hc : 0 < O.cnt a o
    · exact OwnR.live x a hc
    · exact OwnA.live y a (by omega)
end
mutual
/-- what is owned is given up: data from now on -/
theorem OwnR.froze (k : ∀ a, S a → S' a) : ∀ {v : V} {o : O}, OwnR K S H v o → (∀ a, 0 < o.cnt a → S' a) → Rp K S' H v o.toD
  | _, _, .d r, _ => r.kp (Kp.more k)
  | _, _, .tup h r, q => .tup h (OwnA.froze k r q)
  | _, _, .lst (a := a) (os := os) h r, q => .lst (.inl ⟨q a (by show 0 < (if a = a then 1 else 0) + O.cntL a os; rw [if_pos rfl]; omega), h⟩)
      (OwnA.froze k r fun b hb => q b (by show 0 < (if a = b then 1 else 0) + O.cntL b os; omega))
theorem OwnA.froze (k : ∀ a, S a → S' a) : ∀ {vs : List V} {os : List O}, OwnA K S H vs os → (∀ a, 0 < O.cntL a os → S' a) → RpA K S' H vs (O.toDs os)
  | _, _, .nil, _ => .nil
  | _, _, .cons (o := o) (os := os) a b, q => .cons (OwnR.froze k a fun x hx => q x (by show 0 < O.cnt x o + O.cntL x os; omega)) (OwnA.froze k b fun x hx => q x (by show 0 < O.cnt x o + O.cntL x os; omega))
end
mutual
theorem OwnR.dp : ∀ {v : V} {o : O}, OwnR K S H v o → Dp K H v o.toD
  | _, _, .d r => r.dp
  | _, _, .tup h r => .tup h (OwnA.dp r)
  | _, _, .lst h r => .lst (.inl (.inl h)) (OwnA.dp r)
theorem OwnA.dp : ∀ {vs : List V} {os : List O}, OwnA K S H vs os → DpAll K H vs (O.toDs os)
  | _, _, .nil => .nil
  | _, _, .cons a b => .cons (OwnR.dp a) (OwnA.dp b)
end
theorem OwnA.length : ∀ {vs : List V} {os : List O}, OwnA K S H vs os → vs.length = os.length
  | _, _, .nil => rfl
  | _, _, .cons _ b => congrArg (· + 1) (OwnA.length b)
theorem OwnA.get : ∀ {vs : List V} {os : List O} {i : Nat} {o : O}, OwnA K S H vs os → os[i]? = some o → ∃ v, vs[i]? = some v ∧ OwnR K S H v o
  | _, _, _, _, .nil, e => by simp at e
  | _, _, 0, _, .cons a _, e => by simp at e; subst e; exact ⟨_, rfl, a⟩
  | _, _, i + 1, _, .cons _ b, e => by
    obtain ⟨d, h1, h2⟩ := OwnA.get (i := i) b (by simpa using e)
    exact ⟨d, by simpa using h1, h2⟩
theorem OwnA.set : ∀ {vs : List V} {os : List O} {v : V} {o : O} (i : Nat), OwnA K S H vs os → OwnR K S H v o → OwnA K S H (vs.set i v) (os.set i o)
  | _, _, _, _, _, .nil, _ => .nil
  | _, _, _, _, 0, .cons _ t, r => .cons r t
  | _, _, _, _, i + 1, .cons q t, r => .cons q (OwnA.set i t r)
theorem OwnA.append : ∀ {vs ws : List V} {os ps : List O}, OwnA K S H vs os → OwnA K S H ws ps → OwnA K S H (vs ++ ws) (os ++ ps)
  | _, _, _, _, .nil, s => s
  | _, _, _, _, .cons r t, s => .cons r (OwnA.append t s)
theorem OwnA.of_data : ∀ {vs : List V} {ds : List D}, RpA K S H vs ds → OwnA K S H vs (ds.map O.d)
  | _, _, .nil => .nil
  | _, _, .cons a b => .cons (.d a) (OwnA.of_data b)
theorem OwnA.data : ∀ {vs : List V} {ds : List D}, OwnA K S H vs (ds.map O.d) → RpA K S H vs ds
  | [], [], _ => .nil
  | _ :: _, [], r => nomatch r
  | [], _ :: _, r => nomatch r
  | _ :: _, _ :: _, r => by
    cases r with
    | cons a b =>
      cases a with
      | d a => exact .cons a (OwnA.data b)
end
end Vx
namespace Vx
open PySem PySem.Spec PyProof.Rows L2

/-! ### paths within what is owned -/
inductive Stp where
  | ix (n : Nat)
def O.at : List Stp → O → Option O
  | [], o => some o
  | .ix n :: p, .lst _ xs => match xs[n]? with | some x => O.at p x | none => none
  | _ :: _, _ => none
def O.put : List Stp → O → O → O
  | [], _, y => y
  | .ix n :: p, .lst a xs, y => match xs[n]? with | some x => .lst a (xs.set n (O.put p x y)) | none => .lst a xs
  | _ :: _, o, _ => o
/-- the address of an owned object -/
def O.root : O → Option Addr
  | .lst a _ => some a
  | _ => none
theorem set_same {α : Type} : ∀ {xs : List α} {n : Nat} {x : α}, xs[n]? = some x → xs.set n x = xs
  | [], _, _, h => by simp at h
  | y :: ys, 0, x, h => by simp at h; subst h; rfl
  | y :: ys, n + 1, x, h => by
    show y :: ys.set n x = y :: ys
    rw [set_same (by simpa using h)]
section
variable {K : PySem.W.Frag} {S S' : Fz} {H H' : Hp}
theorem OwnR.ref {v : V} {o : O} {a : Addr} (r : OwnR K S H v o) (h : o.root = some a) : v = .ref a := by
  cases r with
  | d _ => cases h
  | tup _ _ => cases h
  | lst _ _ => cases h; rfl
theorem OwnR.at : ∀ {p : List Stp} {v : V} {o o' : O}, OwnR K S H v o → o.at p = some o' → ∃ v', OwnR K S H v' o' ∧ ∀ b, o'.cnt b ≤ o.cnt b
  | [], v, o, o', r, h => by cases h; exact ⟨v, r, fun _ => Nat.le_refl _⟩
  | .ix n :: p, _, _, o', .d _, h => nomatch h
  | .ix n :: p, _, _, o', .tup _ _, h => nomatch h
  | .ix n :: p, _, _, o', .lst (a := a) (os := os) e r, h => by
    unfold O.at at h
    cases hx : os[n]? with
    | none => rw [hx] at h; cases h
    | some x =>
      rw [hx] at h
      obtain ⟨v1, _, r1⟩ := r.get hx
      obtain ⟨v', r', c⟩ := OwnR.at (p := p) r1 h
      refine ⟨v', r', fun b => ?_⟩
      have h1 := c b
      have h2 : O.cnt b x ≤ O.cntL b os := O.cntL_get hx
      show _ ≤ (if a = b then 1 else 0) + O.cntL b os
      omega
theorem O.put_cnt : ∀ {p : List Stp} {o o' y : O}, o.at p = some o' → ∀ b, (o.put p y).cnt b + o'.cnt b = o.cnt b + y.cnt b
  | [], o, o', y, h, b => by cases h; show y.cnt b + o.cnt b = _; omega
  | .ix n :: p, .d _, o', y, h, b => nomatch h
  | .ix n :: p, .tup _, o', y, h, b => nomatch h
  | .ix n :: p, .lst a os, o', y, h, b => by
    unfold O.at at h
    cases hx : os[n]? with
    | none => rw [hx] at h; cases h
    | some x =>
      rw [hx] at h
      have h1 := O.put_cnt (p := p) (y := y) h b
      unfold O.put
      rw [hx]
      have h2 := O.cntL_set (p := b) (y := O.put p x y) hx
      show (if a = b then 1 else 0) + O.cntL b (os.set n (O.put p x y)) + _ = (if a = b then 1 else 0) + O.cntL b os + _
      omega
/-- the thing at a path is put otherwise, its own objects alone may have changed -/
theorem OwnR.putAt (k : Kp S S' H H') : ∀ {p : List Stp} {v v' : V} {o o' y : O}, OwnR K S H v o → o.at p = some o' → (∀ b, o.cnt b ≤ 1) →
    (∀ w, OwnR K S H w o' → OwnR K S' H' w y) → (∀ b, 0 < o.cnt b → o'.cnt b = 0 → H' b = H b) → OwnR K S' H' v (o.put p y)
  | [], v, v', o, o', y, r, h, one, hy, q => by cases h; exact hy v r
  | .ix n :: p, _, _, _, o', _, .d _, h, _, _, _ => nomatch h
  | .ix n :: p, _, _, _, o', _, .tup _ _, h, _, _, _ => nomatch h
  | .ix n :: p, _, v', _, o', y, .lst (a := a) (vs := vs) (os := os) e r, h, one, hy, q => by
    unfold O.at at h
    cases hx : os[n]? with
    | none => rw [hx] at h; cases h
    | some x =>
      rw [hx] at h
      obtain ⟨v1, hv1, r1⟩ := r.get hx
      have hle : ∀ b, O.cnt b x ≤ O.cntL b os := fun b => O.cntL_get hx
      have hl1 : ∀ b, (if a = b then 1 else 0) + O.cntL b os ≤ 1 := one
      obtain ⟨_, _, hc⟩ := OwnR.at r1 h
      have ih : OwnR K S' H' v1 (O.put p x y) := OwnR.putAt k (v' := v1) r1 h (fun b => by have := hl1 b; have := hle b; omega) hy (fun b hb h0 => q b (by have := hle b; show 0 < (if a = b then 1 else 0) + O.cntL b os; omega) h0)
      unfold O.put
      rw [hx]
      have ea : H' a = H a := by
        have h1 := hl1 a
        rw [if_pos rfl] at h1
        refine q a (by show 0 < (if a = a then 1 else 0) + O.cntL a os; rw [if_pos rfl]; omega) ?_
        have := hc a
        have := hle a
        omega
      refine .lst (vs := vs.set n v1) (ea.trans (e.trans ?_)) ?_
      · rw [set_same hv1]
      · -- the other items
        have other : ∀ {vs : List V} {os : List O} (n : Nat) {x : O}, OwnA K S H vs os → os[n]? = some x → (∀ b, 0 < O.cntL b os → O.cnt b x = 0 → H' b = H b) → (∀ b, O.cntL b os ≤ 1) → OwnR K S' H' v1 (O.put p x y) → OwnA K S' H' (vs.set n v1) (os.set n (O.put p x y)) := by
          intro vs os n
          induction n generalizing vs os with
          | zero =>
            intro x r hx q1 hone ih
            cases r with
            | nil => simp at hx
            | cons ra rb =>
              simp at hx; subst hx
              refine .cons ih (rb.kp k fun b hb => ?_)
              have h1 := hone b
              unfold O.cntL at h1
              exact q1 b (by unfold O.cntL; omega) (by omega)
          | succ n ihn =>
            intro x r hx q1 hone ih
            cases r with
            | nil => simp at hx
            | cons ra rb =>
              rename_i o1 _ os1
              have hx' : os1[n]? = some x := by simpa using hx
              have hle : ∀ b, O.cnt b x ≤ O.cntL b os1 := fun b => O.cntL_get hx'
              refine .cons (ra.kp k fun b hb => ?_) (ihn rb hx' (fun b hb h0 => q1 b (by unfold O.cntL; omega) h0) (fun b => by have := hone b; unfold O.cntL at this; omega) ih)
              have h1 := hone b
              unfold O.cntL at h1
              exact q1 b (by unfold O.cntL; omega) (by have := hle b; omega)
        refine other n r hx (fun b hb h0 => q b (by show 0 < (if a = b then 1 else 0) + O.cntL b os; omega) ?_) (fun b => by have := hl1 b; omega) ih
        have := hc b
        omega
end

/-! ### what an expression gives: data or something new and owned; or a name's own object, seen -/
inductive W where
  | o (x : O)
  | al (a : Addr) (i : Nat) (p : List Stp)
abbrev Env := List (Option O)
def cntO (b : Addr) : Option O → Nat
  | none => 0
  | some o => o.cnt b
def cntE (b : Addr) : Env → Nat
  | [] => 0
  | x :: xs => cntO b x + cntE b xs
def cntW (b : Addr) : W → Nat
  | .o x => x.cnt b
  | .al .. => 0
def cntT (b : Addr) : List (V × W) → Nat
  | [] => 0
  | x :: xs => cntW b x.2 + cntT b xs
theorem cntT_append (b : Addr) : ∀ xs ys : List (V × W), cntT b (xs ++ ys) = cntT b xs + cntT b ys
  | [], ys => by show _ = 0 + _; rw [Nat.zero_add]; rfl
  | x :: xs, ys => by
    show cntW b x.2 + cntT b (xs ++ ys) = cntW b x.2 + cntT b xs + _
    rw [cntT_append b xs ys]; omega
theorem cntE_get {b : Addr} : ∀ {xs : Env} {i : Nat} {x : Option O}, xs[i]? = some x → cntO b x ≤ cntE b xs
  | [], _, _, e => by simp at e
  | y :: ys, 0, x, e => by
    simp at e; subst e
    exact Nat.le_add_right _ _
  | y :: ys, i + 1, x, e => by
    have := cntE_get (b := b) (xs := ys) (i := i) (x := x) (by simpa using e)
    show _ ≤ cntO b y + cntE b ys
    omega
theorem cntE_two {b : Addr} : ∀ {xs : Env} {i j : Nat} {x y : Option O}, i ≠ j → xs[i]? = some x → xs[j]? = some y → cntO b x + cntO b y ≤ cntE b xs
  | [], _, _, _, _, _, e, _ => by simp at e
  | z :: zs, 0, 0, _, _, h, _, _ => absurd rfl h
  | z :: zs, 0, j + 1, x, y, _, e1, e2 => by
    simp at e1; subst e1
    have := cntE_get (b := b) (xs := zs) (i := j) (x := y) (by simpa using e2)
    show _ ≤ cntO b z + cntE b zs
    omega
  | z :: zs, i + 1, 0, x, y, _, e1, e2 => by
    simp at e2; subst e2
    have := cntE_get (b := b) (xs := zs) (i := i) (x := x) (by simpa using e1)
    show _ ≤ cntO b z + cntE b zs
    omega
  | z :: zs, i + 1, j + 1, x, y, h, e1, e2 => by
    have := cntE_two (b := b) (xs := zs) (i := i) (j := j) (x := x) (y := y) (fun q => h (by rw [q])) (by simpa using e1) (by simpa using e2)
    show _ ≤ cntO b z + cntE b zs
    omega
theorem cntE_set {b : Addr} : ∀ {xs : Env} {i : Nat} {x y : Option O}, xs[i]? = some x → cntE b (xs.set i y) + cntO b x = cntE b xs + cntO b y
  | [], _, _, _, e => by simp at e
  | z :: zs, 0, x, y, e => by
    simp at e; subst e
    show cntO b y + cntE b zs + _ = cntO b z + cntE b zs + _
    omega
  | z :: zs, i + 1, x, y, e => by
    have := cntE_set (b := b) (xs := zs) (i := i) (x := x) (y := y) (by simpa using e)
    show cntO b z + cntE b (zs.set i y) + _ = cntO b z + cntE b zs + _
    omega
theorem cntT_mem {b : Addr} : ∀ {T : List (V × W)} {t : V × W}, t ∈ T → cntW b t.2 ≤ cntT b T
  | [], _, h => nomatch h
  | x :: xs, t, h => by
    rcases List.mem_cons.mp h with e | h
    · subst e; exact Nat.le_add_right _ _
    · have := cntT_mem (b := b) h
      show _ ≤ cntW b x.2 + cntT b xs
      omega
/-- the thing at slot i, path p -/
def envAt (env : Env) (i : Nat) (p : List Stp) : Option O := match env[i]? with
  | some (some o) => o.at p
  | _ => none
def envPut (env : Env) (i : Nat) (p : List Stp) (y : O) : Env := match env[i]? with
  | some (some o) => env.set i (some (o.put p y))
  | _ => env
theorem envAt_some {env : Env} {i : Nat} {p : List Stp} {o' : O} (h : envAt env i p = some o') : ∃ o, env[i]? = some (some o) ∧ o.at p = some o' := by
  unfold envAt at h
  split at h
  · rename_i o e; exact ⟨o, e, h⟩
  · cases h
theorem envPut_eq {env : Env} {i : Nat} {p : List Stp} {y o : O} (h : env[i]? = some (some o)) : envPut env i p y = env.set i (some (o.put p y)) := by
  unfold envPut; rw [h]
theorem envPut_cnt {env : Env} {i : Nat} {p : List Stp} {y o' : O} (h : envAt env i p = some o') (b : Addr) : cntE b (envPut env i p y) + o'.cnt b = cntE b env + y.cnt b := by
  obtain ⟨o, e, ha⟩ := envAt_some h
  rw [envPut_eq e]
  have h1 := cntE_set (b := b) (y := some (o.put p y)) e
  have h2 := O.put_cnt (y := y) ha b
  have h3 : cntO b (some (o.put p y)) = (o.put p y).cnt b := rfl
  have h4 : cntO b (some o) = o.cnt b := rfl
  omega
theorem envPut_length {env : Env} {i : Nat} {p : List Stp} {y : O} : (envPut env i p y).length = env.length := by
  unfold envPut
  split
  · exact List.length_set
  · rfl

def TmpR (K : PySem.W.Frag) (S : Fz) (H : Hp) (t : V × W) : Prop := match t.2 with
  | .o x => OwnR K S H t.1 x
  | .al a _ _ => t.1 = .ref a
/-- a def's entry -/
structure Bs where
  S : Fz
  H : Hp
  own : Addr → Prop
structure R (K : PySem.W.Frag) (B : Bs) (S : Fz) (H : Hp) (σ : L2.St) (env : Env) (T : List (V × W)) : Prop where
  len : env.length = σ.length
  slots : ∀ (i : Nat) (o : O), env[i]? = some (some o) → ∃ v, σ[i]? = some (some v) ∧ OwnR K S H v o
  tmps : ∀ t ∈ T, TmpR K S H t
  one : ∀ a, cntE a env + cntT a T ≤ 1
  apart : ∀ a, S a → cntE a env + cntT a T = 0
  sH : ∀ a, S a → H a ≠ none
  keep : ∀ a o, B.H a = some o → ¬ B.own a → H a = some o
  dom : ∀ a, H a = none → B.H a = none
  new : ∀ a, 0 < cntE a env + cntT a T → B.own a ∨ B.H a = none
  newS : ∀ a, S a → B.S a ∨ B.own a ∨ B.H a = none
  sub : ∀ a, B.S a → S a
section
variable {K : PySem.W.Frag} {B : Bs} {S : Fz} {H : Hp} {σ : L2.St} {env : Env} {T : List (V × W)}
theorem R.live (r : R K B S H σ env T) {a : Addr} (h : 0 < cntE a env + cntT a T) : ∃ xs, H a = some (.lst xs) := by
  have inE : ∀ {l : Env}, (∀ (i : Nat) (o : O), l[i]? = some (some o) → ∃ v, OwnR K S H v o) → 0 < cntE a l → ∃ xs, H a = some (.lst xs) := by
    intro l
    induction l with
    | nil => intro _ h; exact absurd h (by show ¬ 0 < 0; omega)
    | cons x xs ih =>
      intro q h
      have h' : 0 < cntO a x + cntE a xs := h
      by_cases hx : 0 < cntO a x
      · cases x with
        | none => exact absurd hx (by show ¬ 0 < 0; omega)
        | some o =>
          obtain ⟨v, w⟩ := q 0 o rfl
          exact w.live a hx
      · exact ih (fun i o e => q (i + 1) o (by simpa using e)) (by omega)
  have inT : ∀ {l : List (V × W)}, (∀ t ∈ l, TmpR K S H t) → 0 < cntT a l → ∃ xs, H a = some (.lst xs) := by
    intro l
    induction l with
    | nil => intro _ h; exact absurd h (by show ¬ 0 < 0; omega)
    | cons x xs ih =>
      intro q h
      have h' : 0 < cntW a x.2 + cntT a xs := h
      by_cases hx : 0 < cntW a x.2
      · have q1 := q x List.mem_cons_self
        obtain ⟨v, w⟩ := x
        cases w with
        | o y => exact OwnR.live q1 a hx
        | al _ _ _ => exact absurd hx (by show ¬ 0 < 0; omega)
      · exact ih (fun t ht => q t (List.mem_cons_of_mem _ ht)) (by omega)
  by_cases h1 : 0 < cntE a env
  · exact inE (fun i o e => let ⟨v, _, w⟩ := r.slots i o e; ⟨v, w⟩) h1
  · exact inT r.tmps (by omega)
theorem R.fresh (r : R K B S H σ env T) {p : Addr} (h : H p = none) : cntE p env + cntT p T = 0 := by
  by_cases q : 0 < cntE p env + cntT p T
  · obtain ⟨xs, e⟩ := r.live q
    rw [h] at e; cases e
  · omega
/-- the temps may be any others of the same weight -/
theorem R.tmp (r : R K B S H σ env T) {T' : List (V × W)} (h : ∀ t ∈ T', TmpR K S H t) (c : ∀ b, cntT b T' ≤ cntT b T) : R K B S H σ env T' :=
  ⟨r.len, r.slots, h, fun a => by have := r.one a; have := c a; omega, fun a q => by have := r.apart a q; have := c a; omega, r.sH, r.keep, r.dom,
    fun a q => r.new a (by have := c a; omega), r.newS, r.sub⟩
theorem R.pop {t : V × W} (r : R K B S H σ env (t :: T)) : R K B S H σ env T :=
  r.tmp (fun x hx => r.tmps x (List.mem_cons_of_mem _ hx)) fun b => by show _ ≤ cntW b t.2 + cntT b T; omega
theorem R.pops {P : List (V × W)} (r : R K B S H σ env (P ++ T)) : R K B S H σ env T :=
  r.tmp (fun x hx => r.tmps x (List.mem_append_right _ hx)) fun b => by rw [cntT_append]; omega
theorem R.push (r : R K B S H σ env T) {v : V} {x : D} (h : Rp K S H v x) : R K B S H σ env ((v, .o (.d x)) :: T) :=
  r.tmp (fun t ht => by
    rcases List.mem_cons.mp ht with e | ht
    · subst e; exact OwnR.d h
    · exact r.tmps t ht) fun b => by show 0 + _ ≤ _; omega
theorem R.seen (r : R K B S H σ env T) {a : Addr} {i : Nat} {p : List Stp} : R K B S H σ env ((.ref a, .al a i p) :: T) :=
  r.tmp (fun t ht => by
    rcases List.mem_cons.mp ht with e | ht
    · subst e; rfl
    · exact r.tmps t ht) fun b => by show 0 + _ ≤ _; omega
/-- the heap has grown or what is owned by nobody here changed: all kept -/
theorem R.heap (r : R K B S H σ env T) {H' : Hp} (k : Kp S S H H') (own : ∀ a, 0 < cntE a env + cntT a T → H' a = H a)
    (old : ∀ a o, B.H a = some o → ¬ B.own a → H a = some o → H' a = some o) (dom : ∀ a, H' a = none → H a = none) : R K B S H' σ env T := by
  refine ⟨r.len, fun i o e => ?_, fun t ht => ?_, r.one, r.apart, fun a h => by rw [k.h a h]; exact r.sH a h, fun a o h1 h2 => old a o h1 h2 (r.keep a o h1 h2), fun a h => r.dom a (dom a h), r.new, r.newS, r.sub⟩
  · obtain ⟨v, e1, w⟩ := r.slots i o e
    refine ⟨v, e1, w.kp k fun a ha => own a ?_⟩
    have := cntE_get (b := a) e
    have : cntO a (some o) = o.cnt a := rfl
    omega
  · have q := r.tmps t ht
    obtain ⟨v, w⟩ := t
    cases w with
    | o x =>
      refine OwnR.kp k q fun a ha => own a ?_
      have h1 : x.cnt a ≤ cntT a T := cntT_mem (b := a) ht
      omega
    | al _ _ _ => exact q
/-- a new object that nobody holds yet -/
theorem R.alloc (r : R K B S H σ env T) {p : Addr} {o : HO} (hp : H p = none) : R K B S (upd H p o) σ env T := by
  refine r.heap (Kp.new hp r.sH) (fun a ha => ?_) (fun a o' h1 _ h2 => ?_) fun a h => ?_
  · refine upd_ne fun e => ?_
    subst e
    have := r.fresh hp
    omega
  · rw [upd_ne (ne_of_none h2 hp)]; exact h2
  · by_cases e : a = p
    · subst e; exact hp
    · rw [upd_ne e] at h; exact h
/-- a new tuple of the topmost things -/
theorem R.newTup {P : List (V × W)} {vs : List V} {os : List O} {p : Addr} (r : R K B S H σ env (P ++ T)) (hp : H p = none) (ow : OwnA K S H vs os) (c : ∀ b, O.cntL b os ≤ cntT b P) :
    R K B S (upd H p (.tup vs)) σ env ((.ref p, .o (.tup os)) :: T) := by
  have r1 := r.alloc (o := .tup vs) hp
  refine r1.tmp (fun t ht => ?_) fun b => ?_
  · rcases List.mem_cons.mp ht with e | ht
    · subst e
      refine OwnR.tup (.inl (.inl upd_same)) (ow.kp (Kp.new hp r.sH) fun a ha => upd_ne fun e => ?_)
      subst e
      have h1 := r.fresh hp
      rw [cntT_append] at h1
      have := c a
      omega
    · exact r1.tmps t (List.mem_append_right _ ht)
  · rw [cntT_append]
    have := c b
    show O.cntL b os + _ ≤ _
    omega
/-- a new list of the topmost things -/
theorem R.newLst {P : List (V × W)} {vs : List V} {os : List O} {p : Addr} (r : R K B S H σ env (P ++ T)) (hp : H p = none) (ow : OwnA K S H vs os) (c : ∀ b, O.cntL b os ≤ cntT b P) :
    R K B S (upd H p (.lst vs)) σ env ((.ref p, .o (.lst p os)) :: T) := by
  have r1 := r.alloc (o := .lst vs) hp
  have h0 := r.fresh hp
  rw [cntT_append] at h0
  have one' : ∀ a, cntE a env + (((if p = a then 1 else 0) + O.cntL a os) + cntT a T) ≤ 1 := fun a => by
    have h1 := r.one a
    rw [cntT_append] at h1
    have := c a
    by_cases e : p = a
    · subst e; rw [if_pos rfl]; omega
    · rw [if_neg e]; omega
  refine ⟨r1.len, r1.slots, fun t ht => ?_, one', fun a ha => ?_, r1.sH, r1.keep, r1.dom, fun a ha => ?_, r1.newS, r1.sub⟩
  · rcases List.mem_cons.mp ht with e | ht
    · subst e
      refine OwnR.lst upd_same (ow.kp (Kp.new hp r.sH) fun a ha => upd_ne fun e => ?_)
      subst e
      have := c a
      omega
    · exact r1.tmps t (List.mem_append_right _ ht)
  · show cntE a env + (((if p = a then 1 else 0) + O.cntL a os) + cntT a T) = 0
    have h1 := r.apart a ha
    rw [cntT_append] at h1
    have := c a
    have ne : p ≠ a := fun e => r.sH a ha (by rw [← e]; exact hp)
    rw [if_neg ne]
    omega
  · have ha' : 0 < cntE a env + (((if p = a then 1 else 0) + O.cntL a os) + cntT a T) := ha
    by_cases e : p = a
    · subst e; exact .inr (r.dom p hp)
    · rw [if_neg e] at ha'
      have := c a
      exact r.new a (by rw [cntT_append]; omega)
/-- more is given up: the topmost thing is data from now on -/
theorem R.froze {v : V} {o : O} (r : R K B S H σ env ((v, .o o) :: T)) : R K B (fun a => S a ∨ 0 < o.cnt a) H σ env ((v, .o (.d o.toD)) :: T) := by
  have k : Kp S (fun a => S a ∨ 0 < o.cnt a) H H := Kp.more fun a h => .inl h
  have hT : ∀ a, cntT a ((v, W.o o) :: T) = o.cnt a + cntT a T := fun _ => rfl
  have hT' : ∀ a, cntT a ((v, W.o (.d o.toD)) :: T) = 0 + cntT a T := fun _ => rfl
  refine ⟨r.len, fun i x e => ?_, fun t ht => ?_, fun a => ?_, fun a ha => ?_, fun a ha => ?_, r.keep, r.dom, fun a ha => r.new a ?_, fun a ha => ?_, fun a h => .inl (r.sub a h)⟩
  · obtain ⟨v, e1, w⟩ := r.slots i x e
    exact ⟨v, e1, w.kp k fun _ _ => rfl⟩
  · rcases List.mem_cons.mp ht with e | ht
    · subst e
      have q : OwnR K S H v o := r.tmps (v, .o o) List.mem_cons_self
      exact OwnR.d (q.froze (fun a h => .inl h) fun a h => .inr h)
    · have q := r.tmps t (List.mem_cons_of_mem _ ht)
      obtain ⟨u, w⟩ := t
      cases w with
      | o x => exact OwnR.kp k q fun _ _ => rfl
      | al _ _ _ => exact q
  · have := r.one a; rw [hT] at this; rw [hT']; omega
  · rcases ha with h | h
    · have := r.apart a h; rw [hT] at this; rw [hT']; omega
    · have := r.one a; rw [hT] at this; rw [hT']; omega
  · rcases ha with h | h
    · exact r.sH a h
    · obtain ⟨xs, e⟩ := r.live (a := a) (by rw [hT]; omega)
      rw [e]; simp
  · rw [hT'] at ha; rw [hT]; omega
  · rcases ha with h | h
    · exact r.newS a h
    · exact .inr (r.new a (by rw [hT]; omega))
/-- the topmost thing goes into a slot -/
theorem R.store {v : V} {o : O} {i : Nat} (r : R K B S H σ env ((v, .o o) :: T)) (hi : i < env.length) : R K B S H (σ.set i (some v)) (env.set i (some o)) T := by
  have hx : env[i]? = some env[i] := List.getElem?_eq_getElem hi
  have hc : ∀ a, cntE a (env.set i (some o)) + cntO a env[i] = cntE a env + o.cnt a := fun a => cntE_set (y := some o) hx
  have hT : ∀ a, cntT a ((v, W.o o) :: T) = o.cnt a + cntT a T := fun _ => rfl
  refine ⟨by simpa using r.len, fun j x e => ?_, fun t ht => r.tmps t (List.mem_cons_of_mem _ ht), fun a => ?_, fun a ha => ?_, r.sH, r.keep, r.dom, fun a ha => r.new a ?_, r.newS, r.sub⟩
  · by_cases hj : j = i
    · subst hj
      rw [List.getElem?_set_self hi] at e
      cases e
      exact ⟨v, List.getElem?_set_self (by rw [← r.len]; exact hi), r.tmps (v, .o o) List.mem_cons_self⟩
    · rw [List.getElem?_set_ne (Ne.symm hj)] at e
      obtain ⟨w, e1, q⟩ := r.slots j x e
      exact ⟨w, by rw [List.getElem?_set_ne (Ne.symm hj)]; exact e1, q⟩
  · have := r.one a; have := hc a; rw [hT] at *; omega
  · have := r.apart a ha; have := hc a; rw [hT] at *; omega
  · have := hc a; rw [hT]; omega
/-- a slot is forgotten -/
theorem R.forget {i : Nat} (r : R K B S H σ env T) : R K B S H (σ.set i none) (env.set i none) T := by
  by_cases hi : i < env.length
  · have hx : env[i]? = some env[i] := List.getElem?_eq_getElem hi
    have hc : ∀ a, cntE a (env.set i none) + cntO a env[i] = cntE a env + 0 := fun a => cntE_set (y := none) hx
    refine ⟨by simpa using r.len, fun j x e => ?_, r.tmps, fun a => ?_, fun a ha => ?_, r.sH, r.keep, r.dom, fun a ha => r.new a ?_, r.newS, r.sub⟩
    · by_cases hj : j = i
      · subst hj
        rw [List.getElem?_set_self hi] at e
        cases e
      · rw [List.getElem?_set_ne (Ne.symm hj)] at e
        obtain ⟨w, e1, q⟩ := r.slots j x e
        exact ⟨w, by rw [List.getElem?_set_ne (Ne.symm hj)]; exact e1, q⟩
    · have := r.one a; have := hc a; omega
    · have := r.apart a ha; have := hc a; omega
    · have := hc a; omega
  · have h1 : env.set i none = env := List.set_eq_of_length_le (by omega)
    have h2 : σ.set i none = σ := List.set_eq_of_length_le (by rw [← r.len]; omega)
    rw [h1, h2]; exact r
end
end Vx
namespace Vx
open PySem PySem.Spec L2

/-! ### the small language -/
inductive Bop where
  | add | sub | mul | fdiv | mod | pow
  deriving DecidableEq
inductive Cop where
  | eq | ne | lt | le | gt | ge | is | isNot | inn | notIn
  deriving DecidableEq
/-- the kinds of isinstance -/
inductive Ty where
  | int | bool | str | tuple | list
  deriving DecidableEq
inductive Prim where
  | len | sum | tuple | list | sorted | repr | abs | min2 | max2 | min | max | all | any | isi (t : Ty) | isis (ts : List Ty)
  deriving DecidableEq
inductive Mut where
  | append
  deriving DecidableEq
inductive Tg where
  | v (i : Nat)
  | tup (is : List Nat)
mutual
inductive E where
  | c (x : D)
  | var (i : Nat)
  | bin (op : Bop) (a b : E)
  | neg (a : E)
  | not (a : E)
  | and (a b : E)
  | or (a b : E)
  | ife (c a b : E)
  | cmp (op : Cop) (a b : E)
  | chain (op op2 : Cop) (a b c : E)
  | tup (es : Es)
  | lst (es : Es)
  | ix (a b : E)
  | sl (a : E) (lo hi : Oe)
  | prim (p : Prim) (es : Es)
  | call (f : Nat) (es : Es)
  | frz (e : E)
  | comp (own : List Nat) (t : Tg) (it : Iq) (cond : Oe) (e : E)
  | mut (m : Mut) (o : E) (es : Es)
inductive Es where
  | nil
  | cons (e : E) (es : Es)
inductive Oe where
  | non
  | som (e : E)
inductive Iq where
  | e (x : E)
  | r1 (n : E)
  | r2 (a b : E)
  | enum (x : E)
  | zip (a b : E)
end
mutual
inductive Sm where
  | asg (t : Tg) (e : E)
  | setIx (o k e : E)
  | expr (e : E)
  | ret (e : E)
  | retN
  | ifs (c : E) (a b : Sms)
  | fors (t : Tg) (it : Iq) (b : Sms)
  | whil (c : E) (b : Sms)
  | brk
  | cnt
  | pass
inductive Sms where
  | nil
  | cons (s : Sm) (r : Sms)
end

/-! ### operations on data -/
def MulOk (i j : Int) : Prop := CMul i j ∨ i.natAbs.log2 + j.natAbs.log2 < 1000000
def DivOk (j : Int) : Prop := (j ≠ 0 ∧ j.natAbs < 1073741824) ∨ (0 < j ∧ j.natAbs.log2 < 9000)
def bopW : Bop → D → D → (O → Prop) → Prop
  | .add, .int i, .int j, Q => Q (.d (.int (i + j)))
  | .add, .str x, .str y, Q => x.length + y.length ≤ sizeLine ∧ Q (.d (.str (x ++ y)))
  | .add, .tuple xs, .tuple ys, Q => xs.length + ys.length ≤ sizeLine ∧ Q (.d (.tuple (xs ++ ys)))
  | .add, .list xs, .list ys, Q => xs.length + ys.length ≤ sizeLine ∧ ∀ a, Q (.lst a ((xs ++ ys).map .d))
  | .sub, .int i, .int j, Q => Q (.d (.int (i - j)))
  | .mul, .int i, .int j, Q => MulOk i j ∧ Q (.d (.int (i * j)))
  | .mul, .tuple xs, .int k, Q => xs.isEmpty = false ∧ 1 ≤ k ∧ k ≤ 1000 ∧ xs.length ≤ 1000 ∧ Q (.d (.tuple (List.replicate k.toNat xs).flatten))
  | .fdiv, .int i, .int j, Q => DivOk j ∧ Q (.d (.int (i.fdiv j)))
  | .mod, .int i, .int j, Q => j ≠ 0 ∧ Q (.d (.int (i.fmod j)))
  | .pow, .int i, .int j, Q => CPow i j ∧ Q (.d (.int (i ^ j.toNat)))
  | _, _, _, _ => False
def isScal : D → Bool
  | .none => true
  | .bool _ => true
  | .int _ => true
  | .str _ => true
  | _ => false
def isNone : D → Bool
  | .none => true
  | _ => false
/-- what == may be asked of -/
def eqOk : D → D → Bool
  | .int _, .int _ => true
  | .str _, .str _ => true
  | .bool _, .bool _ => true
  | .none, .none => true
  | .none, .int _ => true
  | .none, .str _ => true
  | .int _, .none => true
  | .str _, .none => true
  | .int _, .str _ => true
  | .str _, .int _ => true
  | x, y => SeqAt.shaped x && SeqAt.shaped y
def cmpW : Cop → D → D → (Bool → Prop) → Prop
  | .eq, x, y, Q => eqOk x y = true ∧ Q (PyData.eqv x y)
  | .ne, x, y, Q => eqOk x y = true ∧ Q (!PyData.eqv x y)
  | .lt, .int i, .int j, Q => Q (decide (i < j))
  | .le, .int i, .int j, Q => Q (decide (i ≤ j))
  | .gt, .int i, .int j, Q => Q (decide (j < i))
  | .ge, .int i, .int j, Q => Q (decide (j ≤ i))
  | .is, x, .none, Q => Q (isNone x)
  | .isNot, x, .none, Q => Q (!isNone x)
  | .inn, x, .tuple ys, Q => isScal x = true ∧ ys.all isScal = true ∧ Q (ys.any fun y => PyData.eqv y x)
  | .inn, x, .list ys, Q => SeqAt.shaped x = true ∧ SeqAt.shaped (.list ys) = true ∧ Q (ys.any fun y => PyData.eqv y x)
  | .notIn, x, .tuple ys, Q => isScal x = true ∧ ys.all isScal = true ∧ Q (!ys.any fun y => PyData.eqv y x)
  | .notIn, x, .list ys, Q => SeqAt.shaped x = true ∧ SeqAt.shaped (.list ys) = true ∧ Q (!ys.any fun y => PyData.eqv y x)
  | _, _, _, _ => False
def intsOf : List D → Option (List Int)
  | [] => some []
  | .int i :: r => (intsOf r).map (i :: ·)
  | _ => none
def boolsOf : List D → Option (List Bool)
  | [] => some []
  | .bool i :: r => (boolsOf r).map (i :: ·)
  | _ => none
def seqOf : D → Option (List D)
  | .list xs => some xs
  | .tuple xs => some xs
  | _ => none
/-- pairs of ints, as sorted has them -/
def pairsOf : List D → Option (List (Int × Int))
  | [] => some []
  | .tuple [.int i, .int j] :: r => (pairsOf r).map ((i, j) :: ·)
  | _ => none
def tyOf : D → List Ty
  | .none => []
  | .bool _ => [.bool, .int]
  | .int _ => [.int]
  | .str _ => [.str]
  | .list _ => [.list]
  | .tuple _ => [.tuple]
  | .dict _ => []
def onSome {α : Type} (o : Option α) (Q : α → Prop) : Prop := match o with
  | some x => Q x
  | none => False
def pairLe (a b : Int × Int) : Bool := decide (a.1 < b.1) || (decide (a.1 = b.1) && decide (a.2 ≤ b.2))
def primW : Prim → List D → (O → Prop) → Prop
  | .len, [.list xs], Q => Q (.d (.int xs.length))
  | .len, [.tuple xs], Q => Q (.d (.int xs.length))
  | .len, [.str x], Q => x.length ≤ sizeLine ∧ Q (.d (.int x.length))
  | .sum, [.list xs], Q => onSome (intsOf xs) fun ns => Q (.d (.int ns.sum))
  | .sum, [.tuple xs], Q => onSome (intsOf xs) fun ns => Q (.d (.int ns.sum))
  | .tuple, [.list xs], Q => Q (.d (.tuple xs))
  | .tuple, [.tuple xs], Q => Q (.d (.tuple xs))
  | .list, [.list xs], Q => ∀ a, Q (.lst a (xs.map .d))
  | .list, [.tuple xs], Q => ∀ a, Q (.lst a (xs.map .d))
  | .sorted, [.list xs], Q => onSome (pairsOf xs) fun ps => ∀ qs : List (Int × Int), qs.Perm ps → qs.Pairwise (fun p q => pairLe p q = true) → ∀ a, Q (.lst a (qs.map fun p => O.d (.tuple [.int p.1, .int p.2])))
  | .repr, [x], Q => PyData.showable x = true ∧ x.hasDict = false ∧ x.shown.length ≤ sizeLine ∧ x.depth ≤ 64 ∧ Q (.d (.str x.shown))
  | .abs, [.int i], Q => Q (.d (.int (if i < 0 then -i else i)))
  | .max2, [.int i, .int j], Q => Q (.d (.int (if j > i then j else i)))
  | .min2, [.int i, .int j], Q => Q (.d (.int (if j < i then j else i)))
  | .all, [.list xs], Q => onSome (boolsOf xs) fun bs => Q (.d (.bool (bs.all id)))
  | .any, [.list xs], Q => onSome (boolsOf xs) fun bs => Q (.d (.bool (bs.any id)))
  | .isi t, [x], Q => Q (.d (.bool (decide (t ∈ tyOf x))))
  | .isis ts, [x], Q => Q (.d (.bool (ts.any fun t => decide (t ∈ tyOf x))))
  | _, _, _ => False
def ixW : D → D → (D → Prop) → Prop
  | .list xs, .int i, Q => onSome (atI xs i) Q
  | .tuple xs, .int i, Q => onSome (atI xs i) Q
  | .str x, .int i, Q => x.length ≤ sizeLine ∧ onSome (atI x.cps.toList i) fun c => Q (.str ⟨#[c]⟩)
  | _, _, _ => False
def cutD (xs : List D) (lo hi : Option Int) : List D := (xs.drop (HT.sIx xs.length 0 lo)).take (HT.sIx xs.length xs.length hi - HT.sIx xs.length 0 lo)
def slW : D → Option Int → Option Int → (O → Prop) → Prop
  | .list xs, lo, hi, Q => ∀ a, Q (.lst a ((cutD xs lo hi).map .d))
  | .tuple xs, lo, hi, Q => Q (.d (.tuple (cutD xs lo hi)))
  | _, _, _, _ => False

/-! ### things as they are used -/
def datas : List O → Option (List D)
  | [] => some []
  | .d x :: r => (datas r).map (x :: ·)
  | _ => none
theorem datas_map : ∀ ds : List D, datas (ds.map O.d) = some ds
  | [] => rfl
  | e :: es => by
    show (datas (es.map O.d)).map (e :: ·) = _
    rw [datas_map es]; rfl
theorem datas_eq : ∀ {os : List O} {ds : List D}, datas os = some ds → os = ds.map O.d
  | [], ds, h => by cases h; rfl
  | .d x :: r, ds, h => by
    unfold datas at h
    cases e : datas r with
    | none => rw [e] at h; cases h
    | some es =>
      rw [e] at h
      cases h
      rw [datas_eq e]; rfl
  | .tup _ :: _, _, h => nomatch h
  | .lst _ _ :: _, _, h => nomatch h
/-- a thing used at once: what is new is given up, what is seen is a list of data -/
def useW (w : W) (env : Env) (Q : D → Prop) : Prop := match w with
  | .o x => Q x.toD
  | .al a i p => match envAt env i p with
    | some (.lst b xs) => b = a ∧ onSome (datas xs) fun ds => Q (.list ds)
    | _ => False
/-- a thing given up: data from now on -/
def escW (w : W) (env : Env) (Q : D → Env → Prop) : Prop := match w with
  | .o x => Q x.toD env
  | .al a i p => match envAt env i p with
    | some (.lst b xs) => b = a ∧ Q (O.lst b xs).toD (envPut env i p (.d (O.lst b xs).toD))
    | _ => False
def useWs : List W → Env → (List D → Prop) → Prop
  | [], _, Q => Q []
  | w :: ws, env, Q => useW w env fun d => useWs ws env fun ds => Q (d :: ds)
def tst (w : W) (Q : Bool → Prop) : Prop := match w with
  | .o (.d (.bool b)) => Q b
  | _ => False
/-- a thing that goes into something: what is new keeps its objects -/
def inW (w : W) (env : Env) (Q : O → Env → Prop) : Prop := match w with
  | .o x => Q x env
  | .al .. => escW w env fun x env' => Q (.d x) env'
/-- the targets -/
def setAll : List Nat → List O → Env → (Env → Prop) → Prop
  | [], [], env, Q => Q env
  | i :: is, o :: os, env, Q => i < env.length ∧ setAll is os (env.set i (some o)) Q
  | _, _, _, _ => False
def notTup : O → Bool
  | .tup _ => false
  | _ => true
/-- no tuple of owned things stands in a slot -/
def slotO : O → O
  | .tup xs => .d (.tuple (O.toDs xs))
  | o => o
def itemsO : W → Env → (List O → Prop) → Prop
  | .o (.d (.tuple ds)), _, Q => Q (ds.map O.d)
  | .o (.tup os), _, Q => os.all notTup = true ∧ Q os
  | .o (.d (.list ds)), _, Q => Q (ds.map O.d)
  | .al a i p, env, Q => match envAt env i p with
    | some (.lst b xs) => b = a ∧ onSome (datas xs) fun ds => Q (ds.map O.d)
    | _ => False
  | _, _, _ => False
def Tg.slots : Tg → List Nat
  | .v i => [i]
  | .tup is => is
def bindT (t : Tg) (w : W) (env : Env) (Q : Env → Prop) : Prop := match t with
  | .v i => inW w env fun o env' => i < env'.length ∧ Q (env'.set i (some (slotO o)))
  | .tup is => itemsO w env fun os => setAll is os env Q

/-! ### exceptions, defs -/
structure Exn where
  cls : Str
  fs : List (Str × D)
abbrev FSem := List O → (O → List O → Prop) → (Exn → List O → Prop) → Prop
abbrev Tbl := Nat → FSem
def lend : List W → Env → Option (List O)
  | [], _ => some []
  | .o x :: r, env => if notTup x = true then (lend r env).map (x :: ·) else none
  | .al a i p :: r, env => match envAt env i p with
    | some (.lst b xs) => if b = a then (lend r env).map (.lst b xs :: ·) else none
    | _ => none
/-- the slots whose objects are lent -/
def lentAt : List W → List Nat
  | [] => []
  | .o _ :: r => lentAt r
  | .al _ i _ :: r => i :: lentAt r
def giveBack : List W → List O → Env → Option Env
  | [], _, env => some env
  | .o _ :: r, _ :: os, env => giveBack r os env
  | .al a i p :: r, .lst b xs :: os, env => if b = a then giveBack r os (envPut env i p (.lst b xs)) else none
  | _, _, _ => none
def callW (F : FSem) (ws : List W) (env : Env) (Q : W → Env → Prop) (X : Exn → Env → Prop) : Prop :=
  onSome (lend ws env) fun os => (lentAt ws).Nodup ∧ F os (fun r os' => onSome (giveBack ws os' env) fun env' => Q (.o r) env') (fun ex os' => onSome (giveBack ws os' env) fun env' => X ex env')
/-- what a list's method does: its items, the things handed in; the answer, the items behind it -/
def mutW : Mut → List O → List O → (O → List O → Prop) → Prop
  | .append, xs, [o], Q => xs.length < sizeLine ∧ Q (.d .none) (xs ++ [o])
  | _, _, _, _ => False
def inWs : List W → Env → (List O → Env → Prop) → Prop
  | [], env, Q => Q [] env
  | w :: ws, env, Q => inW w env fun o env' => inWs ws env' fun os env'' => Q (o :: os) env''
def doMut (m : Mut) (t : W) (os : List O) (env : Env) (Q : W → Env → Prop) : Prop := match t with
  | .al a i p => match envAt env i p with
    | some (.lst b xs) => b = a ∧ mutW m xs os fun r ys => Q (.o r) (envPut env i p (.lst b ys))
    | _ => False
  | _ => False
def setW (t k : W) (o : O) (env : Env) (Q : Env → Prop) : Prop := match t with
  | .al a i p => match envAt env i p with
    | some (.lst b xs) => b = a ∧ useW k env fun d => match d with
      | .int n => onSome (ixN xs.length n) fun j => Q (envPut env i p (.lst b (xs.set j o)))
      | _ => False
    | _ => False
  | _ => False
/-- an item of a thing -/
def itemW (t k : W) (env : Env) (Q : W → Prop) : Prop := match t with
  | .o (.lst _ xs) => useW k env fun d => match d with
    | .int n => onSome (atI xs n) fun o => Q (.o o)
    | _ => False
  | .o (.tup xs) => useW k env fun d => match d with
    | .int n => onSome (atI xs n) fun o => Q (.o o)
    | _ => False
  | .o (.d x) => useW k env fun d => ixW x d fun y => Q (.o (.d y))
  | .al a i p => match envAt env i p with
    | some (.lst b xs) => b = a ∧ useW k env fun d => match d with
      | .int n => onSome (ixN xs.length n) fun j => onSome xs[j]? fun y => match y with
        | .d y => Q (.o (.d y))
        | .lst c _ => Q (.al c i (p ++ [.ix j]))
        | .tup _ => False
      | _ => False
    | _ => False

/-! ### what is gone through -/
/-- its items; the list whose items they are, where that is an owned one -/
structure Src where
  xs : List D
  at? : Option (Addr × Nat × List Stp)
def Src.still (s : Src) (env : Env) : Prop := match s.at? with
  | none => True
  | some (a, i, p) => envAt env i p = some (.lst a (s.xs.map O.d))
def srcW (w : W) (env : Env) (Q : Src → Prop) : Prop := match w with
  | .o x => onSome (seqOf x.toD) fun ds => Q ⟨ds, none⟩
  | .al a i p => match envAt env i p with
    | some (.lst b xs) => b = a ∧ onSome (datas xs) fun ds => Q ⟨ds, some (a, i, p)⟩
    | _ => False
def upTo (lo : Int) (n : Nat) : List D := (List.range n).map fun (i : Nat) => PyData.int (lo + i)
def numbered (xs : List D) : List D := xs.zipIdx.map fun p => PyData.tuple [.int p.2, p.1]
def inRange (i : Int) : Prop := -(2 ^ 62) ≤ i ∧ i < 2 ^ 62
def goFor (s : Src) (step : D → Env → (Env → Prop) → Prop) : List D → Env → (Env → Prop) → Prop
  | [], env, Q => Q env
  | x :: xs, env, Q => step x env fun env' => s.still env' ∧ goFor s step xs env' Q
/-- the slots of a comprehension's own names are void -/
def void : List Nat → Env → Env
  | [], env => env
  | i :: is, env => (void is env).set i none
def restore (old : Env) : List Nat → Env → Env
  | [], env => env
  | i :: is, env => (restore old is env).set i (match old[i]? with | some o => o | none => none)
/-- data or nothing stands there -/
def plainAt (env : Env) (i : Nat) : Prop := match env[i]? with
  | some none => True
  | some (some (.d _)) => True
  | _ => False
def goComp (s : Src) (step : D → Env → List O → (Env → List O → Prop) → Prop) : List D → Env → List O → (Env → List O → Prop) → Prop
  | [], env, acc, Q => Q env acc
  | x :: xs, env, acc, Q => step x env acc fun env' acc' => s.still env' ∧ goComp s step xs env' acc' Q

structure Kt where
  nx : Env → Prop
  rt : W → Env → Prop
  bk : Env → Prop
  ct : Env → Prop

mutual
def wE (T : Tbl) (X : Exn → Env → Prop) : E → Env → (W → Env → Prop) → Prop
  | .c x, env, Q => Q (.o (.d x)) env
  | .var i, env, Q => match env[i]? with
    | some (some (.d x)) => Q (.o (.d x)) env
    | some (some (.lst a _)) => Q (.al a i []) env
    | _ => False
  | .bin op a b, env, Q => wE T X a env fun x env1 => wE T X b env1 fun y env2 => useW x env2 fun dx => useW y env2 fun dy => bopW op dx dy fun o => Q (.o o) env2
  | .neg a, env, Q => wE T X a env fun x env1 => match x with
    | .o (.d (.int i)) => Q (.o (.d (.int (-i)))) env1
    | _ => False
  | .not a, env, Q => wE T X a env fun x env1 => tst x fun b => Q (.o (.d (.bool (!b)))) env1
  | .and a b, env, Q => wE T X a env fun x env1 => tst x fun t => if t = true then wE T X b env1 Q else Q (.o (.d (.bool false))) env1
  | .or a b, env, Q => wE T X a env fun x env1 => tst x fun t => if t = true then Q (.o (.d (.bool true))) env1 else wE T X b env1 Q
  | .ife c a b, env, Q => wE T X c env fun x env1 => tst x fun t => if t = true then wE T X a env1 Q else wE T X b env1 Q
  | .cmp op a b, env, Q => wE T X a env fun x env1 => wE T X b env1 fun y env2 => useW x env2 fun dx => useW y env2 fun dy => cmpW op dx dy fun t => Q (.o (.d (.bool t))) env2
  | .chain op op2 a b c, env, Q => wE T X a env fun x env1 => wE T X b env1 fun y env2 => useW x env2 fun dx => useW y env2 fun dy => cmpW op dx dy fun t =>
      if t = true then wE T X c env2 fun z env3 => useW y env3 fun dy2 => useW z env3 fun dz => cmpW op2 dy2 dz fun t2 => Q (.o (.d (.bool t2))) env3 else Q (.o (.d (.bool false))) env2
  | .tup es, env, Q => wEs T X es env fun ws env1 => inWs ws env1 fun os env2 => os.length ≤ sizeLine ∧ match datas os with
    | some ds => Q (.o (.d (.tuple ds))) env2
    | none => Q (.o (.tup os)) env2
  | .lst es, env, Q => wEs T X es env fun ws env1 => inWs ws env1 fun os env2 => os.length ≤ sizeLine ∧ ∀ a, Q (.o (.lst a os)) env2
  | .ix a b, env, Q => wE T X a env fun x env1 => wE T X b env1 fun y env2 => itemW x y env2 fun w => Q w env2
  | .sl a lo hi, env, Q => wE T X a env fun x env1 => wO T X lo env1 fun l env2 => wO T X hi env2 fun h env3 => useW x env3 fun dx => slW dx l h fun o => Q (.o o) env3
  | .prim p es, env, Q => wEs T X es env fun ws env1 => useWs ws env1 fun ds => primW p ds fun o => Q (.o o) env1
  | .call f es, env, Q => wEs T X es env fun ws env1 => callW (T f) ws env1 Q X
  | .frz e, env, Q => wE T X e env fun w env1 => escW w env1 fun x env2 => Q (.o (.d x)) env2
  | .comp own t it cond e, env, Q => wIt T X it env fun src env1 => (∀ i ∈ own, plainAt env1 i) ∧ ∀ a, goComp src
      (fun x env acc K => bindT t (.o (.d x)) (void own env) fun env2 => wC T cond env2 fun b env3 =>
        if b = true then wE T (fun _ _ => False) e env3 fun w env4 => inW w env4 fun o env5 => acc.length < sizeLine ∧ K (void own env5) (acc ++ [o]) else K (void own env3) acc)
      src.xs (void own env1) [] fun env' acc => env'.length = env1.length → Q (.o (.lst a acc)) (restore env1 own env')
  | .mut m o es, env, Q => wE T X o env fun t env1 => wEs T X es env1 fun ws env2 => inWs ws env2 fun os env3 => doMut m t os env3 Q
def wEs (T : Tbl) (X : Exn → Env → Prop) : Es → Env → (List W → Env → Prop) → Prop
  | .nil, env, Q => Q [] env
  | .cons e es, env, Q => wE T X e env fun w env1 => wEs T X es env1 fun ws env2 => Q (w :: ws) env2
def wO (T : Tbl) (X : Exn → Env → Prop) : Oe → Env → (Option Int → Env → Prop) → Prop
  | .non, env, Q => Q none env
  | .som e, env, Q => wE T X e env fun w env1 => match w with
    | .o (.d (.int i)) => Q (some i) env1
    | _ => False
/-- a comprehension's test -/
def wC (T : Tbl) : Oe → Env → (Bool → Env → Prop) → Prop
  | .non, env, Q => Q true env
  | .som e, env, Q => wE T (fun _ _ => False) e env fun w env1 => tst w fun b => Q b env1
def wIt (T : Tbl) (X : Exn → Env → Prop) : Iq → Env → (Src → Env → Prop) → Prop
  | .e x, env, Q => wE T X x env fun w env1 => srcW w env1 fun s => Q s env1
  | .r1 n, env, Q => wE T X n env fun w env1 => match w with
    | .o (.d (.int i)) => inRange i ∧ Q ⟨upTo 0 i.toNat, none⟩ env1
    | _ => False
  | .r2 a b, env, Q => wE T X a env fun w env1 => wE T X b env1 fun u env2 => match w, u with
    | .o (.d (.int i)), .o (.d (.int j)) => inRange i ∧ inRange j ∧ Q ⟨upTo i (j - i).toNat, none⟩ env2
    | _, _ => False
  | .enum x, env, Q => wE T X x env fun w env1 => match w with
    | .o y => onSome (seqOf y.toD) fun ds => Q ⟨numbered ds, none⟩ env1
    | _ => False
  | .zip a b, env, Q => wE T X a env fun x env1 => wE T X b env1 fun y env2 => match x, y with
    | .o u, .o v => onSome (seqOf u.toD) fun ds => onSome (seqOf v.toD) fun es => Q ⟨(ds.zip es).map fun p => PyData.tuple [p.1, p.2], none⟩ env2
    | _, _ => False
end
mutual
def wS (T : Tbl) (X : Exn → Env → Prop) : Sm → Env → Kt → Prop
  | .asg t e, env, k => wE T X e env fun w env1 => bindT t w env1 k.nx
  | .setIx o i e, env, k => wE T X e env fun w env1 => inW w env1 fun x env2 => wE T X o env2 fun t env3 => wE T X i env3 fun n env4 => setW t n x env4 k.nx
  | .expr e, env, k => wE T X e env fun _ env1 => k.nx env1
  | .ret e, env, k => wE T X e env k.rt
  | .retN, env, k => k.rt (.o (.d .none)) env
  | .ifs c a b, env, k => wE T X c env fun w env1 => tst w fun t => if t = true then wSs T X a env1 k else wSs T X b env1 k
  | .fors t it b, env, k => wIt T X it env fun s env1 => goFor s (fun x env2 K => bindT t (.o (.d x)) env2 fun env3 => wSs T X b env3 { k with nx := K, ct := K, bk := k.nx }) s.xs env1 k.nx
  | .whil c b, env, k => ∃ V : Nat → Env → Prop, (∃ m, V m env) ∧ ∀ m e1, V m e1 → wE T X c e1 fun w e2 => tst w fun t =>
      if t = true then wSs T X b e2 { k with nx := fun e3 => ∃ m', m' < m ∧ V m' e3, ct := fun e3 => ∃ m', m' < m ∧ V m' e3, bk := k.nx } else k.nx e2
  | .brk, env, k => k.bk env
  | .cnt, env, k => k.ct env
  | .pass, env, k => k.nx env
def wSs (T : Tbl) (X : Exn → Env → Prop) : Sms → Env → Kt → Prop
  | .nil, env, k => k.nx env
  | .cons s r, env, k => wS T X s env { k with nx := fun env1 => wSs T X r env1 k }
end

/-! ### a def by its body -/
/-- the objects handed in, as they are at the end -/
def backs : Nat → List O → Env → Option (List O)
  | _, [], _ => some []
  | i, .lst a xs :: r, env => match env[i]? with
    | some (some (.lst b ys)) => if b = a then (backs (i + 1) r env).map (.lst b ys :: ·) else none
    | _ => none
  | i, o :: r, env => (backs (i + 1) r env).map (o :: ·)
/-- the answer: a def's own list is handed on, what was lent is given up -/
def retW (os : List O) (w : W) (env : Env) (Q : O → Env → Prop) : Prop := match w with
  | .o x => Q x env
  | .al a i [] => match os[i]? with
    | some (.lst _ _) => escW w env fun x env' => Q (.d x) env'
    | _ => match env[i]? with
      | some (some (.lst b xs)) => b = a ∧ Q (.lst b xs) (env.set i none)
      | _ => False
  | .al .. => escW w env fun x env' => Q (.d x) env'
def start (n : Nat) (os : List O) : Env := os.map some ++ List.replicate (n - os.length) none
def semF (T : Tbl) (n : Nat) (body : Sms) : FSem := fun os P PX =>
  wSs T (fun ex env => onSome (backs 0 os env) fun os' => PX ex os') body (start n os)
    { nx := fun env => onSome (backs 0 os env) fun os' => P (.d .none) os'
      rt := fun w env => retW os w env fun r env' => onSome (backs 0 os env') fun os' => P r os'
      bk := fun _ => False
      ct := fun _ => False }
end Vx
namespace Vx
open PySem PySem.Spec L2
section
variable {K : PySem.W.Frag} {B : Bs} {S S' : Fz} {H H' : Hp} {σ : L2.St} {env : Env} {T : List (V × W)}

/-! ### held things, given up -/
def fzT (t : V × W) : V × W := match t.2 with
  | .o x => (t.1, .o (.d x.toD))
  | .al a i p => (t.1, .al a i p)
theorem cntT_fz (b : Addr) : ∀ P : List (V × W), cntT b (P.map fzT) = 0
  | [] => rfl
  | (v, .o x) :: P => by show 0 + cntT b (P.map fzT) = 0; rw [cntT_fz b P]
  | (v, .al _ _ _) :: P => by show 0 + cntT b (P.map fzT) = 0; rw [cntT_fz b P]
theorem TmpR.kp {t : V × W} (k : Kp S S' H H') (q : TmpR K S H t) (c : ∀ a, 0 < cntW a t.2 → H' a = H a) : TmpR K S' H' t := by
  obtain ⟨v, w⟩ := t
  cases w with
  | o x => exact OwnR.kp k q c
  | al _ _ _ => exact q
theorem R.frozeP {P : List (V × W)} (r : R K B S H σ env (P ++ T)) : R K B (fun a => S a ∨ 0 < cntT a P) H σ env (P.map fzT ++ T) := by
  have k : Kp S (fun a => S a ∨ 0 < cntT a P) H H := Kp.more fun a h => .inl h
  have hT : ∀ a, cntT a (P ++ T) = cntT a P + cntT a T := fun a => cntT_append a P T
  have hT' : ∀ a, cntT a (P.map fzT ++ T) = cntT a T := fun a => by rw [cntT_append, cntT_fz, Nat.zero_add]
  refine ⟨r.len, fun i x e => ?_, fun t ht => ?_, fun a => ?_, fun a ha => ?_, fun a ha => ?_, r.keep, r.dom, fun a ha => r.new a ?_, fun a ha => ?_, fun a h => .inl (r.sub a h)⟩
  · obtain ⟨v, e1, w⟩ := r.slots i x e
    exact ⟨v, e1, w.kp k fun _ _ => rfl⟩
  · rcases List.mem_append.mp ht with ht | ht
    · obtain ⟨u, hu, e⟩ := List.mem_map.mp ht
      have q := r.tmps u (List.mem_append_left _ hu)
      have hm := fun b => cntT_mem (b := b) hu
      obtain ⟨v, w⟩ := u
      cases w with
      | o x =>
        subst e
        have q' : OwnR K S H v x := q
        exact OwnR.d (q'.froze (fun a h => .inl h) fun a h => .inr (Nat.lt_of_lt_of_le h (hm a)))
      | al _ _ _ => subst e; exact q
    · exact (r.tmps t (List.mem_append_right _ ht)).kp k fun _ _ => rfl
  · have := r.one a; rw [hT] at this; rw [hT']; omega
  · rcases ha with h | h
    · have := r.apart a h; rw [hT] at this; rw [hT']; omega
    · have := r.one a; rw [hT] at this; rw [hT']; omega
  · rcases ha with h | h
    · exact r.sH a h
    · obtain ⟨xs, e⟩ := r.live (a := a) (by rw [hT]; omega)
      rw [e]; simp
  · rw [hT'] at ha; rw [hT]; omega
  · rcases ha with h | h
    · exact r.newS a h
    · exact .inr (r.new a (by rw [hT]; omega))
theorem R.perm {T' : List (V × W)} (r : R K B S H σ env T) (h : ∀ t ∈ T', t ∈ T) (c : ∀ b, cntT b T' ≤ cntT b T) : R K B S H σ env T' := r.tmp (fun t ht => r.tmps t (h t ht)) c

/-! ### used at once -/
def Ud (K : PySem.W.Frag) (S : Fz) (H : Hp) (v : V) (x : D) : Prop :=
  Rp K S H v x ∨ ∃ a vs ds, v = .ref a ∧ x = .list ds ∧ H a = some (.lst vs) ∧ RpA K S H vs ds
theorem Ud.dp {v : V} {x : D} (u : Ud K S H v x) : Dp K H v x := by
  rcases u with u | ⟨a, vs, ds, rfl, rfl, e, r⟩
  · exact u.dp
  · exact .lst (.inl (.inl e)) r.dp
theorem Ud.list {v : V} {ds : List D} (u : Ud K S H v (.list ds)) : ∃ a vs, v = .ref a ∧ SqL K H a vs ∧ RpA K S H vs ds := by
  rcases u with u | ⟨a, vs, ds, rfl, h, e, r⟩
  · cases u with
    | lst f r => exact ⟨_, _, rfl, f.sq, r⟩
  · cases h; exact ⟨a, vs, rfl, .inl (.inl e), r⟩
theorem Ud.tup {v : V} {ds : List D} (u : Ud K S H v (.tuple ds)) : ∃ a vs, v = .ref a ∧ SqT K H a vs ∧ RpA K S H vs ds := by
  rcases u with u | ⟨a, vs, ds, rfl, h, e, r⟩
  · cases u with
    | tup f r => exact ⟨_, _, rfl, f, r⟩
  · cases h
theorem Ud.rp_tup {v : V} {ds : List D} (u : Ud K S H v (.tuple ds)) : Rp K S H v (.tuple ds) := by
  rcases u with u | ⟨a, vs, ds, rfl, h, e, r⟩
  · exact u
  · cases h
theorem Ud.int {v : V} {i : Int} (u : Ud K S H v (.int i)) : v = .int i := by
  rcases u with u | ⟨a, vs, ds, rfl, h, e, r⟩
  · cases u; rfl
  · cases h
theorem Ud.str {v : V} {i : Str} (u : Ud K S H v (.str i)) : v = .str i := by
  rcases u with u | ⟨a, vs, ds, rfl, h, e, r⟩
  · cases u; rfl
  · cases h
theorem Ud.bool {v : V} {i : Bool} (u : Ud K S H v (.bool i)) : v = .bl i := by
  rcases u with u | ⟨a, vs, ds, rfl, h, e, r⟩
  · cases u; rfl
  · cases h
theorem Ud.non {v : V} (u : Ud K S H v .none) : v = .non := by
  rcases u with u | ⟨a, vs, ds, rfl, h, e, r⟩
  · cases u; rfl
  · cases h
inductive UdA (K : PySem.W.Frag) (S : Fz) (H : Hp) : List V → List D → Prop
  | nil : UdA K S H [] []
  | cons {v : V} {x : D} {vs : List V} {ds : List D} : Ud K S H v x → UdA K S H vs ds → UdA K S H (v :: vs) (x :: ds)
theorem onSome_some {α : Type} {o : Option α} {Q : α → Prop} (h : onSome o Q) : ∃ x, o = some x ∧ Q x := by
  cases o with
  | none => exact h.elim
  | some x => exact ⟨x, rfl, h⟩
theorem R.slotAt (r : R K B S H σ env T) {i : Nat} {p : List Stp} {o : O} (h : envAt env i p = some o) : ∃ v, OwnR K S H v o := by
  obtain ⟨x, e, ha⟩ := envAt_some h
  obtain ⟨v, _, q⟩ := r.slots i x e
  obtain ⟨v', q', _⟩ := q.at ha
  exact ⟨v', q'⟩
/-- the thing seen, in the heap -/
theorem R.seenAt (r : R K B S H σ env T) {a : Addr} {i : Nat} {p : List Stp} {xs : List O} (h : envAt env i p = some (.lst a xs)) : ∃ vs, H a = some (.lst vs) ∧ OwnA K S H vs xs := by
  obtain ⟨v, q⟩ := r.slotAt h
  cases q with
  | lst e w => exact ⟨_, e, w⟩
theorem R.used {P : List (V × W)} (r : R K B S H σ env (P ++ T)) : ∃ S', R K B S' H σ env (P.map fzT ++ T) ∧
    ∀ t ∈ P, ∀ Q, useW t.2 env Q → ∃ x, Q x ∧ Ud K S' H t.1 x := by
  refine ⟨_, r.frozeP, fun t ht Q q => ?_⟩
  have r' := r.frozeP
  have tm := r'.tmps (fzT t) (List.mem_append_left _ (List.mem_map_of_mem ht))
  obtain ⟨v, w⟩ := t
  cases w with
  | o x =>
    refine ⟨x.toD, q, .inl ?_⟩
    cases tm with
    | d tm => exact tm
  | al a i p =>
    unfold useW at q
    cases e : envAt env i p with
    | none => simp only [e] at q
    | some y =>
      simp only [e] at q
      cases y with
      | d _ => exact q.elim
      | tup _ => exact q.elim
      | lst b xs =>
        obtain ⟨rfl, q⟩ := q
        obtain ⟨ds, hd, q⟩ := onSome_some q
        obtain ⟨vs, hv, w⟩ := r'.seenAt e
        rw [datas_eq hd] at w
        exact ⟨_, q, .inr ⟨_, vs, ds, tm, rfl, hv, w.data⟩⟩
theorem R.usedAll {P : List (V × W)} (r : R K B S H σ env (P ++ T)) {Q : List D → Prop} (h : useWs (P.map (·.2)) env Q) :
    ∃ S' ds, R K B S' H σ env (P.map fzT ++ T) ∧ Q ds ∧ UdA K S' H (P.map (·.1)) ds := by
  obtain ⟨S', r', f⟩ := r.used
  have go : ∀ (l : List (V × W)), (∀ t ∈ l, t ∈ P) → ∀ Q : List D → Prop, useWs (l.map (·.2)) env Q → ∃ ds, Q ds ∧ UdA K S' H (l.map (·.1)) ds := by
    intro l
    induction l with
    | nil => intro _ Q h; exact ⟨[], h, .nil⟩
    | cons t l ih =>
      intro hm Q h
      obtain ⟨x, h, u⟩ := f t (hm t List.mem_cons_self) _ h
      obtain ⟨ds, h, us⟩ := ih (fun u hu => hm u (List.mem_cons_of_mem _ hu)) _ h
      exact ⟨x :: ds, h, .cons u us⟩
  obtain ⟨ds, q, u⟩ := go P (fun _ h => h) Q h
  exact ⟨S', ds, r', q, u⟩

/-! ### given up where it stands -/
theorem envPut_get {i j : Nat} {p : List Stp} {y o : O} (e : env[i]? = some (some o)) (hj : j ≠ i) : (envPut env i p y)[j]? = env[j]? := by
  rw [envPut_eq e, List.getElem?_set_ne (Ne.symm hj)]
/-- the thing at a path is put otherwise: its own objects alone changed, y lies where it lay -/
theorem R.putAt {P T : List (V × W)} {i : Nat} {p : List Stp} {o' y : O} {S' : Fz} {H' : Hp} (r : R K B S H σ env (P ++ T)) (h : envAt env i p = some o') (k : Kp S S' H H')
    (hy : ∀ w, OwnR K S H w o' → OwnR K S' H' w y) (hT : ∀ t ∈ T, TmpR K S H t → TmpR K S' H' t)
    (same : ∀ b, 0 < cntE b env + cntT b (P ++ T) → o'.cnt b = 0 → cntT b P = 0 → H' b = H b)
    (cy : ∀ b, y.cnt b ≤ o'.cnt b + cntT b P)
    (sN : ∀ b, S' b → S b ∨ (0 < o'.cnt b + cntT b P ∧ y.cnt b = 0))
    (sH : ∀ b, S' b → H' b ≠ none)
    (old : ∀ b o, H b = some o → o'.cnt b = 0 → cntT b P = 0 → H' b = some o) (dom : ∀ b, H' b = none → H b = none) : R K B S' H' σ (envPut env i p y) T := by
  obtain ⟨o, e, ha⟩ := envAt_some h
  have hc := envPut_cnt (y := y) h
  have hap : ∀ b, cntT b (P ++ T) = cntT b P + cntT b T := fun b => cntT_append b P T
  have hone : ∀ b, cntE b env + (cntT b P + cntT b T) ≤ 1 := fun b => by rw [← hap]; exact r.one b
  have he : ∀ b, o.cnt b ≤ cntE b env := fun b => cntE_get e
  have hle : ∀ b, o'.cnt b ≤ o.cnt b := fun b => by
    obtain ⟨v, _, q⟩ := r.slots i o e
    obtain ⟨_, _, c⟩ := q.at ha
    exact c b
  refine ⟨by rw [envPut_length]; exact r.len, fun j x ej => ?_, fun t ht => hT t ht (r.tmps t (List.mem_append_right _ ht)), fun b => ?_, fun b hb => ?_, sH, fun b u h1 h2 => ?_, fun b hb => r.dom b (dom b hb), fun b hb => ?_, fun b hb => ?_, fun b hb => k.s b (r.sub b hb)⟩
  · by_cases hj : j = i
    · subst hj
      rw [envPut_eq e] at ej
      have hi : j < env.length := (List.getElem?_eq_some_iff.mp e).1
      rw [List.getElem?_set_self hi] at ej
      cases ej
      obtain ⟨v, e1, q⟩ := r.slots j o e
      refine ⟨v, e1, OwnR.putAt (v' := v) k q ha (fun b => by have := hone b; have := he b; omega) hy fun b h1 h2 => same b (by have := he b; omega) h2 ?_⟩
      have := hone b; have := he b; omega
    · rw [envPut_get e hj] at ej
      obtain ⟨v, e1, q⟩ := r.slots j x ej
      refine ⟨v, e1, q.kp k fun b hb => ?_⟩
      have h2 : cntO b (some x) + cntO b (some o) ≤ cntE b env := cntE_two hj ej e
      have h3 : x.cnt b + o.cnt b ≤ cntE b env := h2
      refine same b (by omega) ?_ ?_
      · have := hone b; have := hle b; omega
      · have := hone b; omega
  · have := hone b; have := hc b; have := cy b; omega
  · rcases sN b hb with q | ⟨q1, q2⟩
    · have h1 := r.apart b q
      rw [hap] at h1
      have := hc b; have := cy b
      have := he b; have := hle b
      omega
    · have := hone b; have := hc b; have := he b; have := hle b; omega
  · refine old b u (r.keep b u h1 h2) ?_ ?_
    · by_cases q : 0 < o'.cnt b
      · rcases r.new b (by have := he b; have := hle b; omega) with z | z
        · exact absurd z h2
        · rw [z] at h1; cases h1
      · omega
    · by_cases q : 0 < cntT b P
      · rcases r.new b (by rw [hap]; omega) with z | z
        · exact absurd z h2
        · rw [z] at h1; cases h1
      · omega
  · refine r.new b ?_
    rw [hap]
    have := hc b; have := cy b
    have := he b; have := hle b
    omega
  · rcases sN b hb with q | ⟨q1, _⟩
    · exact r.newS b q
    · refine .inr (r.new b ?_)
      rw [hap]
      have := he b; have := hle b
      omega
theorem R.escAt (r : R K B S H σ env T) {i : Nat} {p : List Stp} {a : Addr} {xs : List O} (h : envAt env i p = some (.lst a xs)) :
    ∃ S', R K B S' H σ (envPut env i p (.d (O.lst a xs).toD)) ((.ref a, .o (.d (O.lst a xs).toD)) :: T) := by
  refine ⟨fun b => S b ∨ 0 < (O.lst a xs).cnt b, ?_⟩
  have k : Kp S (fun b => S b ∨ 0 < (O.lst a xs).cnt b) H H := Kp.more fun b h => .inl h
  obtain ⟨o, e, ha⟩ := envAt_some h
  have hin : ∀ b, (O.lst a xs).cnt b ≤ cntE b env := fun b => by
    obtain ⟨v, _, q⟩ := r.slots i o e
    obtain ⟨_, _, c⟩ := q.at ha
    exact Nat.le_trans (c b) (cntE_get e)
  have r1 := R.putAt (P := []) (T := T) (y := .d (O.lst a xs).toD) r h k (fun w q => .d (q.froze (fun b h => .inl h) fun b h => .inr h)) (fun t _ q => q.kp k fun _ _ => rfl) (fun _ _ _ _ => rfl)
    (fun b => Nat.zero_le _) (fun b hb => hb.elim .inl fun z => .inr ⟨z, rfl⟩) (fun b hb => ?_) (fun _ _ z _ _ => z) (fun _ z => z)
  · refine r1.push ?_
    obtain ⟨vs, hv, w⟩ := r.seenAt h
    exact (OwnR.lst hv w).froze (fun b h => .inl h) fun b h => .inr h
  · rcases hb with hb | hb
    · exact r.sH b hb
    · obtain ⟨ys, e'⟩ := r.live (a := b) (by have := hin b; omega)
      rw [e']; simp
theorem R.esc {v : V} {w : W} (r : R K B S H σ env ((v, w) :: T)) {Q : D → Env → Prop} (h : escW w env Q) : ∃ x env' S', Q x env' ∧ R K B S' H σ env' ((v, .o (.d x)) :: T) := by
  cases w with
  | o x => exact ⟨x.toD, env, _, h, r.froze⟩
  | al a i p =>
    have tv : v = .ref a := r.tmps (v, .al a i p) List.mem_cons_self
    subst tv
    unfold escW at h
    cases e : envAt env i p with
    | none => simp only [e] at h
    | some y =>
      simp only [e] at h
      cases y with
      | d _ => exact h.elim
      | tup _ => exact h.elim
      | lst b xs =>
        obtain ⟨rfl, q⟩ := h
        obtain ⟨S', r'⟩ := r.pop.escAt e
        exact ⟨_, _, S', q, r'⟩
theorem R.into {v : V} {w : W} (r : R K B S H σ env ((v, w) :: T)) {Q : O → Env → Prop} (h : inW w env Q) : ∃ o env' S', Q o env' ∧ R K B S' H σ env' ((v, .o o) :: T) := by
  cases w with
  | o x => exact ⟨x, env, S, h, r⟩
  | al a i p =>
    obtain ⟨x, env', S', q, r'⟩ := r.esc (Q := fun x env' => Q (.d x) env') h
    exact ⟨_, _, S', q, r'⟩
theorem R.intos : ∀ (P : List (V × W)) {L : List (V × W)} {S : Fz} {env : Env} {Q : List O → Env → Prop}, R K B S H σ env (L ++ (P ++ T)) → inWs (P.map (·.2)) env Q →
    ∃ os env' S', Q os env' ∧ os.length = P.length ∧ R K B S' H σ env' (L ++ ((P.map (·.1)).zip (os.map W.o) ++ T))
  | [], L, S, env, Q, r, h => ⟨[], env, S, h, rfl, r⟩
  | (v, w) :: P, L, S, env, Q, r, h => by
    have r1 : R K B S H σ env ((v, w) :: (L ++ (P ++ T))) := r.perm (fun t ht => by
      rcases List.mem_cons.mp ht with e | ht
      · subst e; exact List.mem_append_right _ List.mem_cons_self
      · rcases List.mem_append.mp ht with ht | ht
        · exact List.mem_append_left _ ht
        · exact List.mem_append_right _ (List.mem_cons_of_mem _ ht)) fun b => by
        show cntW b w + cntT b (L ++ (P ++ T)) ≤ cntT b (L ++ ((v, w) :: (P ++ T)))
        rw [cntT_append, cntT_append b L ((v, w) :: (P ++ T))]
        show _ ≤ _ + (cntW b w + _)
        omega
    obtain ⟨o, env1, S1, q, r2⟩ := r1.into h
    have r3 : R K B S1 H σ env1 ((L ++ [(v, .o o)]) ++ (P ++ T)) := r2.perm (fun t ht => by
      rcases List.mem_append.mp ht with ht | ht
      · rcases List.mem_append.mp ht with ht | ht
        · exact List.mem_cons_of_mem _ (List.mem_append_left _ ht)
        · rw [List.mem_singleton.mp ht]; exact List.mem_cons_self
      · exact List.mem_cons_of_mem _ (List.mem_append_right _ ht)) fun b => by
        show _ ≤ cntW b (.o o) + cntT b (L ++ (P ++ T))
        rw [cntT_append, cntT_append b L [_], cntT_append b L]
        show _ + (cntW b (.o o) + 0) + _ ≤ _
        omega
    obtain ⟨os, env2, S2, q2, hl, r4⟩ := R.intos P r3 q
    refine ⟨o :: os, env2, S2, q2, congrArg (· + 1) hl, ?_⟩
    rw [List.append_assoc] at r4
    exact r4
theorem ownA_of : ∀ {vs : List V} {os : List O}, vs.length = os.length → (∀ t ∈ vs.zip (os.map W.o), TmpR K S H t) → OwnA K S H vs os
  | [], [], _, _ => .nil
  | _ :: _, [], h, _ => nomatch h
  | [], _ :: _, h, _ => nomatch h
  | v :: vs, o :: os, h, f => .cons (f (v, .o o) List.mem_cons_self) (ownA_of (Nat.succ.inj h) fun t ht => f t (List.mem_cons_of_mem _ ht))
theorem cntT_zip (b : Addr) : ∀ {vs : List V} {os : List O}, vs.length = os.length → cntT b (vs.zip (os.map W.o)) = O.cntL b os
  | [], [], _ => rfl
  | _ :: _, [], h => nomatch h
  | [], _ :: _, h => nomatch h
  | v :: vs, o :: os, h => by
    show o.cnt b + cntT b (vs.zip (os.map W.o)) = o.cnt b + O.cntL b os
    rw [cntT_zip b (Nat.succ.inj h)]
end
end Vx
namespace Vx
open PySem PySem.Spec L2

/-! ### readings -/
abbrev WT := (Exn → Env → Prop) → Env → (W → Env → Prop) → Prop
abbrev WA := (Exn → Env → Prop) → Env → (List W → Env → Prop) → Prop
abbrev WB := (Exn → Env → Prop) → Env → (Bool → Env → Prop) → Prop
def FsR (K : PySem.W.Frag) (S : Fz) (H : Hp) : List (Str × V) → List (Str × D) → Prop := Paired fun p q => p.1 = q.1 ∧ Rp K S H p.2 q.2
/-- how an exception lies -/
def ExR (K : PySem.W.Frag) (mg : Str → Option Value) (S : Fz) (H : Hp) (ex : Exn) (cls : Value) (d : Option Addr) : Prop :=
  ∃ (C dx : Addr) (fs : List (Str × V)), cls = .ref C ∧ d = some dx ∧ mg ex.cls = some (.ref C) ∧ H dx = some (.xd fs) ∧ FsR K S H fs ex.fs
/-- what is wished of exceptions -/
def Lets (X : Cx) (B : Bs) (Wx : WX) (PX : Exn → Env → Prop) : Prop :=
  ∀ ex env S H σ cls d, PX ex env → R X.K B S H σ env [] → ExR X.K X.mg S H ex cls d → Wx cls d σ H
section
variable (X : Cx) (B : Bs) (Wx : WX)
def tE (w : WT) : TE := fun σ H Q => ∃ S env T P PX, R X.K B S H σ env T ∧ w PX env P ∧ (∀ x env' v S' H', P x env' → R X.K B S' H' σ env' ((v, x) :: T) → Q v H') ∧ Lets X B Wx PX
def tA' (w : WA) : TA := fun σ H Q => ∃ S env T P PX, R X.K B S H σ env T ∧ w PX env P ∧
  (∀ env' Z S' H', P (Z.map (·.2)) env' → R X.K B S' H' σ env' (Z ++ T) → Q (Z.map (·.1)) H') ∧ Lets X B Wx PX
def tT (w : WB) : TT := fun σ H Q => ∃ S env T P PX, R X.K B S H σ env T ∧ w PX env P ∧ (∀ b env' S' H', P b env' → R X.K B S' H' σ env' T → Q b H') ∧ Lets X B Wx PX
end
section
variable {X : Cx} {B : Bs} {Wx : WX}
theorem PE_imp {e : Expr} {t t' : TE} (h : PE X e t) (f : ∀ σ H Q, t' σ H Q → t σ H Q) : PE X e t' := ⟨fun pins s σ H Q I q => h.run pins s σ H Q I (f σ H Q q)⟩
theorem PT_imp {e : Expr} {t t' : TT} (h : PT X e t) (f : ∀ σ H Q, t' σ H Q → t σ H Q) : PT X e t' := ⟨fun pins s σ H Q I q => h.run pins s σ H Q I (f σ H Q q)⟩
theorem PA_imp {es : List Expr} {t t' : TA} (h : PA X es t) (f : ∀ σ H Q, t' σ H Q → t σ H Q) : PA X es t' := ⟨fun pos pins s σ H Q I q => h.run pos pins s σ H Q I (f σ H Q q)⟩

variable {a b c : Expr} {wa wb wc : WT} {pos : Pos}
/-! ### constants, names -/
theorem s_const {x : D} {v : V} (h : PE X a (tC v)) (rp : ∀ K S H, Rp K S H v x) : PE X a (tE X B Wx fun _ env P => P (.o (.d x)) env) :=
  PE_imp h fun σ H Q ⟨S, env, T, P, PX, r, hw, hP, _⟩ => hP _ env v S H hw (r.push (rp _ _ _))
def wVar (i : Nat) : WT := fun _ env P => match env[i]? with
  | some (some (.d x)) => P (.o (.d x)) env
  | some (some (.lst a _)) => P (.al a i []) env
  | _ => False
theorem s_var {i : Nat} (h : PE X a (tVar i)) : PE X a (tE X B Wx (wVar i)) :=
  PE_imp h fun σ H Q ⟨S, env, T, P, PX, r, hw, hP, _⟩ => by
    unfold wVar at hw
    cases e : env[i]? with
    | none => rw [e] at hw; exact hw.elim
    | some o =>
      rw [e] at hw
      cases o with
      | none => exact hw.elim
      | some o =>
        obtain ⟨v, e1, q⟩ := r.slots i o e
        cases o with
        | d x =>
          cases q with
          | d q => exact ⟨v, e1, hP _ env v S H hw (r.push q)⟩
        | tup _ => exact hw.elim
        | lst p xs =>
          have ev := q.ref rfl
          subst ev
          exact ⟨_, e1, hP _ env _ S H hw r.seen⟩
/-! ### two operands, an operator by values -/
theorem s_two {r2 : R2} {k : W → W → Env → (W → Env → Prop) → Prop}
    (step : ∀ (S : Fz) (H : Hp) (σ : L2.St) (env : Env) (T : List (V × W)) (vx vy : V) (x y : W) (P : W → Env → Prop) (Q : VK), R X.K B S H σ env ((vy, y) :: (vx, x) :: T) → k x y env P →
      (∀ x env' v S' H', P x env' → R X.K B S' H' σ env' ((v, x) :: T) → Q v H') → r2 vx vy H Q)
    {σ : L2.St} {H : Hp} {Q : VK} (h : tE X B Wx (fun PX env P => wa PX env fun x env1 => wb PX env1 fun y env2 => k x y env2 P) σ H Q) :
    tOp r2 (tE X B Wx wa) (tE X B Wx wb) σ H Q := by
  obtain ⟨S, env, T, P, PX, r, hw, hP, hX⟩ := h
  refine ⟨S, env, T, _, PX, r, hw, fun x env1 vx S1 H1 hq r1 => ?_, hX⟩
  refine ⟨S1, env1, (vx, x) :: T, _, PX, r1, hq, fun y env2 vy S2 H2 hk r2 => ?_, hX⟩
  exact step S2 H2 σ env2 T vx vy x y P Q r2 hk hP
/-- both used at once -/
theorem use2 {S : Fz} {H : Hp} {σ : L2.St} {env : Env} {T : List (V × W)} {vx vy : V} {x y : W} {k : D → D → Prop} (r : R X.K B S H σ env ((vy, y) :: (vx, x) :: T)) (h : useW x env fun dx => useW y env fun dy => k dx dy) :
    ∃ S' dx dy, R X.K B S' H σ env T ∧ k dx dy ∧ Ud X.K S' H vx dx ∧ Ud X.K S' H vy dy := by
  obtain ⟨S', r', f⟩ := R.used (P := [(vy, y), (vx, x)]) (T := T) r
  obtain ⟨dx, h, ux⟩ := f (vx, x) (List.mem_cons_of_mem _ List.mem_cons_self) _ h
  obtain ⟨dy, h, uy⟩ := f (vy, y) List.mem_cons_self _ h
  exact ⟨S', dx, dy, R.pops r', h, ux, uy⟩
/-- a new list of data -/
theorem newData {S : Fz} {H : Hp} {σ : L2.St} {env : Env} {T : List (V × W)} {p : Addr} {vs : List V} {ds : List D} (r : R X.K B S H σ env T) (hp : H p = none) (ra : RpA X.K S H vs ds) :
    R X.K B S (upd H p (.lst vs)) σ env ((.ref p, .o (.lst p (ds.map .d))) :: T) :=
  R.newLst (P := []) (T := T) r hp (OwnA.of_data ra) fun b => by rw [O.cntL_map]; exact Nat.zero_le _
theorem newTup {S : Fz} {H : Hp} {σ : L2.St} {env : Env} {T : List (V × W)} {p : Addr} {vs : List V} {ds : List D} (r : R X.K B S H σ env T) (hp : H p = none) (ra : RpA X.K S H vs ds) :
    R X.K B S (upd H p (.tup vs)) σ env ((.ref p, .o (.d (.tuple ds))) :: T) := by
  have r1 := r.alloc (o := .tup vs) hp
  exact r1.push (.tup (.inl (.inl upd_same)) (ra.kp (Kp.new hp r.sH)))

/-- a condition with rules (two int operators) -/
theorem OpR_if {f : Value → Value → Sem Value} {C C' : Int → Int → Prop} {g : Int → Int → V} (h : OpR X f (rI C g)) (h' : OpR X f (rI C' g)) : OpR X f (rI (fun i j => C i j ∨ C' i j) g) :=
  fun pins s σ H x y v u Q I rx ry ⟨i, j, e1, e2, c, q⟩ => c.elim (fun c => h pins s σ H x y v u Q I rx ry ⟨i, j, e1, e2, c, q⟩) fun c => h' pins s σ H x y v u Q I rx ry ⟨i, j, e1, e2, c, q⟩
theorem op_mulV : OpR X (binaryOp .Mult) (rI MulOk fun i j => .int (i * j)) := OpR_if op_mul op_mulW
theorem op_fdivV : OpR X (binaryOp .FloorDiv) (rI (fun _ j => DivOk j) fun i j => .int (i.fdiv j)) := by
  intro pins s σ H x y v u Q I rx ry h
  obtain ⟨i, j, e1, e2, c, q⟩ := h
  rcases c with c | c
  · exact op_fdivN pins s σ H x y v u Q I rx ry ⟨i, j, e1, e2, c, q⟩
  · refine op_fdivW pins s σ H x y v u Q I rx ry ⟨i, j, e1, e2, c, ?_⟩
    show Q (.int (i / j)) H
    rw [← Int.fdiv_eq_ediv_of_nonneg i (Int.le_of_lt c.1)]
    exact q
/-- list + list, whatever lists they are -/
def rCatV (K : PySem.W.Frag) : R2 := fun x y H Q => ∃ l b xs zs, x = .ref l ∧ y = .ref b ∧ SqL K H l xs ∧ SqL K H b zs ∧ xs.length + zs.length ≤ sizeLine ∧ ∀ p, H p = none → Q (.ref p) (upd H p (.lst (xs ++ zs)))
theorem op_catV : OpR X (binaryOp .Add) (rCatV X.K) := by
  intro pins s σ H x y v u Q I rx ry h
  obtain ⟨l, b, xs, zs, rfl, rfl, h1, h2, hz, q⟩ := h
  cases rx
  cases ry
  obtain ⟨its, r1, ⟨⟨c1, d1, a1, sl1⟩, n1, e1, k1, k2, k3⟩, _⟩ := I.list h1
  obtain ⟨ws, r2, ⟨⟨c2, d2, a2, sl2⟩, n2, e2, m1, m2, m3⟩, _⟩ := I.list h2
  simp only at k1 k2 k3 m1 m2 m3
  subst k1 k2 k3 m1 m2 m3
  have g1 := r1.length
  have g2 := r2.length
  refine concat_meets ⟨_, e1, rfl⟩ ⟨_, e2, rfl⟩ noFill_list_add seq_list_add PySem.F.slot_list_add PySem.F.entry_list_add (PySem.F.args_list_add_2 _ _)
    (PyProof.Rows.list_addW l b its.toArray ws.toArray n1 n2 none none sl1 sl2 (by simp only [List.size_toArray]; omega)) ⟨e1, e2, ?_⟩
  have ea : its.toArray ++ ws.toArray = (its ++ ws).toArray := by simp
  rw [ea]
  exact ⟨.ref _, _, I.lnew (t' := s.toks) (r1.append r2) (by rw [List.length_append]; omega), rfl, q _ I.fresh⟩
section
open PyProof.Rows
theorem tup_mul1 (l : Addr) (items : Array Value) (n : Nat) (dd : Option Addr) (sl : Array (Option Value)) (u : Tok) :
    Meets (Builtin.«tuple.__mul__» ⟨[.ref l, .int 1 u], []⟩) (fun _ R s => s.heap.get? l = some { cls := .type "tuple", dict := dd, data := .seq items n, slots := sl } ∧ R (.ok (.ret (.ref l))) s) :=
  .of_wp fun prog w A R s h => by
    obtain ⟨hp, g, d, tk, os⟩ := s
    obtain ⟨hl, h⟩ := h
    have f1 := AutoSeq1.idx_int
    have c1 : (items.isEmpty || ((1 : Int) == 1)) = true := by simp
    wp_walk using wpAny_loadPart' hl
    exact ⟨_, rfl, h⟩
def rRep1 (K : PySem.W.Frag) : R2 := fun x y H Q => ∃ l xs, x = .ref l ∧ y = .int 1 ∧ SqT K H l xs ∧ Q (.ref l) H
theorem op_rep1 : OpR X (binaryOp .Mult) (rRep1 X.K) := by
  intro pins s σ H x y v u Q I rx ry h
  obtain ⟨l, xs, rfl, rfl, hT, q⟩ := h
  cases rx
  obtain ⟨t, rfl⟩ := ry
  obtain ⟨its, r, ⟨⟨cls, dd, data, sl⟩, ho, hc, n, hd⟩, hs⟩ := I.tuple hT
  simp only at hc hd
  subst hc hd
  exact wpAny_binaryOp_repeat_ref (T := "tuple") (U := "int") (by decide) ⟨_, ho, rfl⟩ (fun s' => typeIs_int s' 1 t) noFill_tuple_mul PySem.F.fills_int_mul PySem.F.slot_int_rmul repeat_tuple PySem.F.slot_int_index.lookup
    (call_meets PySem.F.slot_int_rmul (typeIs_int s 1 t) PySem.F.entry_int_rmul (PySem.F.args_int_rmul_2 _ _) (int_rmul_tuple 1 t l its.toArray n dd sl)
      ⟨ho, rfl, ⟨_, ho, rfl⟩, call_meets PySem.F.slot_tuple_mul ⟨_, ho, rfl⟩ PySem.F.entry_tuple_mul (PySem.F.args_tuple_mul_2 _ _) (tup_mul1 l its.toArray n dd sl t) ⟨ho, ⟨.ref l, H, I, rfl, q⟩⟩⟩)
end
def opOf : Bop → Operator
  | .add => .Add
  | .sub => .Sub
  | .mul => .Mult
  | .fdiv => .FloorDiv
  | .mod => .Mod
  | .pow => .Pow
/-- the operators by values: what the library's rules ask -/
def rBop (X : Cx) : Bop → R2
  | .add => fun x y H Q => (rI0 (fun i j => .int (i + j)) x y H Q ∨ (∃ i j, x = .str i ∧ y = .str j ∧ i.length + j.length ≤ sizeLine ∧ Q (.str (i ++ j)) H)) ∨ (rCatA X.K x y H Q ∨ rCatV X.K x y H Q)
  | .sub => rI0 fun i j => .int (i - j)
  | .mul => fun x y H Q => rI MulOk (fun i j => .int (i * j)) x y H Q ∨ (rRepT X.K x y H Q ∨ rRep1 X.K x y H Q)
  | .fdiv => rI (fun _ j => DivOk j) fun i j => .int (i.fdiv j)
  | .mod => rI (fun _ j => j ≠ 0) fun i j => .int (i.fmod j)
  | .pow => rI CPow fun i j => .int (i ^ j.toNat)
theorem op_bop (op : Bop) : OpR X (binaryOp (opOf op)) (rBop X op) := by
  cases op with
  | add => exact OpR.or (OpR.or op_add op_add_str) (OpR.or op_catA op_catV)
  | sub => exact op_sub
  | mul => exact OpR.or op_mulV (OpR.or op_repT op_rep1)
  | fdiv => exact op_fdivV
  | mod => exact op_modN
  | pow => exact op_pow
theorem bop_step (op : Bop) (S : Fz) (H : Hp) (σ : L2.St) (env : Env) (T : List (V × W)) (vx vy : V) (x y : W) (P : W → Env → Prop) (Q : VK) (r : R X.K B S H σ env ((vy, y) :: (vx, x) :: T))
    (h : useW x env fun dx => useW y env fun dy => bopW op dx dy fun o => P (.o o) env)
    (hP : ∀ x env' v S' H', P x env' → R X.K B S' H' σ env' ((v, x) :: T) → Q v H') : rBop X op vx vy H Q := by
  obtain ⟨S', dx, dy, r', h, ux, uy⟩ := use2 r h
  have dat : ∀ {v : V} {d : D}, P (.o (.d d)) env → Rp X.K S' H v d → Q v H := fun h q => hP _ _ _ _ _ h (r'.push q)
  cases op with
  | add =>
    cases dx <;> cases dy <;> first
      | exact h.elim
      | skip
    · obtain rfl := ux.int
      obtain rfl := uy.int
      exact .inl (.inl ⟨_, _, rfl, rfl, dat h (.int _)⟩)
    · obtain rfl := ux.str
      obtain rfl := uy.str
      exact .inl (.inr ⟨_, _, rfl, rfl, h.1, dat h.2 (.str _)⟩)
    · rename_i xs ys
      obtain ⟨hz, h⟩ := h
      obtain ⟨a, vs, rfl, ha, ra⟩ := ux.list
      obtain ⟨b, ws, rfl, hb, rb⟩ := uy.list
      have l1 := ra.length
      have l2 := rb.length
      exact .inr (.inr ⟨a, b, vs, ws, rfl, rfl, ha, hb, by omega, fun p hp => hP _ _ _ _ _ (h p) (newData r' hp (ra.append rb))⟩)
    · rename_i xs ys
      obtain ⟨hz, h⟩ := h
      obtain ⟨a, vs, rfl, ha, ra⟩ := ux.tup
      obtain ⟨b, ws, rfl, hb, rb⟩ := uy.tup
      have l1 := ra.length
      have l2 := rb.length
      refine .inr (.inl ⟨a, b, vs, ws, rfl, rfl, ha, hb, by omega, fun e => ?_, fun _ e => ?_, fun _ _ p hp => ?_⟩)
      · subst e
        cases ra
        exact dat h uy.rp_tup
      · subst e
        cases rb
        rw [List.append_nil] at h
        exact dat h ux.rp_tup
      · exact hP _ _ _ _ _ h (newTup r' hp (ra.append rb))
  | sub =>
    cases dx <;> cases dy <;> first
      | exact h.elim
      | skip
    obtain rfl := ux.int
    obtain rfl := uy.int
    exact ⟨_, _, rfl, rfl, dat h (.int _)⟩
  | mul =>
    cases dx <;> cases dy <;> first
      | exact h.elim
      | skip
    · obtain rfl := ux.int
      obtain rfl := uy.int
      exact .inl ⟨_, _, rfl, rfl, h.1, dat h.2 (.int _)⟩
    · rename_i xs k
      obtain ⟨h0, h1, h2, h3, h⟩ := h
      obtain ⟨a, vs, rfl, ha, ra⟩ := ux.tup
      obtain rfl := uy.int
      have hl := ra.length
      have hne : vs ≠ [] := fun z => by
        subst z
        cases xs with
        | nil => cases h0
        | cons _ _ => cases ra
      by_cases hk : k = 1
      · subst hk
        rw [show (List.replicate (1 : Int).toNat xs).flatten = xs by simp] at h
        exact .inr (.inr ⟨a, vs, rfl, rfl, ha, dat h (.tup ha ra)⟩)
      · refine .inr (.inl ⟨a, k, vs, rfl, rfl, ha, hne, by omega, h2, by omega, fun p hp => hP _ _ _ _ _ h (newTup r' hp ?_)⟩)
        have go : ∀ m : Nat, RpA X.K S' H (List.replicate m vs).flatten (List.replicate m xs).flatten := fun m => by
          induction m with
          | zero => exact .nil
          | succ m ih => rw [List.replicate_succ, List.replicate_succ, List.flatten_cons, List.flatten_cons]; exact ra.append ih
        exact go _
  | fdiv =>
    cases dx <;> cases dy <;> first
      | exact h.elim
      | skip
    obtain rfl := ux.int
    obtain rfl := uy.int
    exact ⟨_, _, rfl, rfl, h.1, dat h.2 (.int _)⟩
  | mod =>
    cases dx <;> cases dy <;> first
      | exact h.elim
      | skip
    obtain rfl := ux.int
    obtain rfl := uy.int
    exact ⟨_, _, rfl, rfl, h.1, dat h.2 (.int _)⟩
  | pow =>
    cases dx <;> cases dy <;> first
      | exact h.elim
      | skip
    obtain rfl := ux.int
    obtain rfl := uy.int
    exact ⟨_, _, rfl, rfl, h.1, dat h.2 (.int _)⟩
theorem s_bin (op : Bop) (ha : PE X a (tE X B Wx wa)) (hb : PE X b (tE X B Wx wb)) : PE X (.BinOp a (opOf op) b pos)
    (tE X B Wx fun PX env P => wa PX env fun x env1 => wb PX env1 fun y env2 => useW x env2 fun dx => useW y env2 fun dy => bopW op dx dy fun o => P (.o o) env2) :=
  PE_imp (pe_op (op_bop op) ha hb) fun σ H Q h => s_two (bop_step op) h
end
end Vx
namespace Vx
open PySem PySem.Spec L2
section
variable {X : Cx} {B : Bs} {Wx : WX}
def toB (w : WT) : WB := fun PX env P => w PX env fun x env' => tst x fun b => P b env'
/-- an expression: as a value, as a test -/
structure Snd (X : Cx) (B : Bs) (Wx : WX) (e : Expr) (w : WT) : Prop where
  pe : PE X e (tE X B Wx w)
  pt : PT X e (tT X B Wx (toB w))
theorem tst_some {x : W} {Q : Bool → Prop} (h : tst x Q) : ∃ b, x = .o (.d (.bool b)) ∧ Q b := by
  cases x with
  | o x =>
    cases x with
    | d x =>
      cases x with
      | bool b => exact ⟨b, rfl, h⟩
      | _ => exact h.elim
    | _ => exact h.elim
  | al _ _ _ => exact h.elim
theorem R.boolTop {S : Fz} {H : Hp} {σ : L2.St} {env : Env} {T : List (V × W)} {v : V} {b : Bool} {K : PySem.W.Frag} (r : R K B S H σ env ((v, .o (.d (.bool b))) :: T)) : v = .bl b := by
  have q : OwnR K S H v (.d (.bool b)) := r.tmps (v, .o (.d (.bool b))) List.mem_cons_self
  cases q with
  | d q => cases q; rfl
theorem R.intTop {S : Fz} {H : Hp} {σ : L2.St} {env : Env} {T : List (V × W)} {v : V} {b : Int} {K : PySem.W.Frag} (r : R K B S H σ env ((v, .o (.d (.int b))) :: T)) : v = .int b := by
  have q : OwnR K S H v (.d (.int b)) := r.tmps (v, .o (.d (.int b))) List.mem_cons_self
  cases q with
  | d q => cases q; rfl
theorem R.dataTop {S : Fz} {H : Hp} {σ : L2.St} {env : Env} {T : List (V × W)} {v : V} {x : D} {K : PySem.W.Frag} (r : R K B S H σ env ((v, .o (.d x)) :: T)) : Rp K S H v x := by
  have q : OwnR K S H v (.d x) := r.tmps (v, .o (.d x)) List.mem_cons_self
  cases q with
  | d q => exact q
theorem tT_tE {w : WT} {σ : L2.St} {H : Hp} {Q : Bool → Hp → Prop} (h : tT X B Wx (toB w) σ H Q) : tE X B Wx w σ H fun z H' => ∃ k, z = .bl k ∧ Q k H' := by
  obtain ⟨S, env, T, P, PX, r, hw, hP, hX⟩ := h
  refine ⟨S, env, T, _, PX, r, hw, fun x env' v S' H' q r' => ?_, hX⟩
  obtain ⟨b, rfl, q⟩ := tst_some q
  exact ⟨b, r'.boolTop, hP b env' S' H' q r'.pop⟩
theorem snd_plain {e : Expr} {w : WT} (h : PE X e (tE X B Wx w)) (he : ∀ whole, isTrue e X.env whole = (do let v ← whole; standAt e.pos; holding [v] (truthy v))) : Snd X B Wx e w :=
  ⟨h, PT_imp (pt_val h he) fun _ _ _ q => tT_tE q⟩
theorem lets_false {PX : Exn → Env → Prop} (h : ∀ ex env, ¬ PX ex env) : Lets X B Wx PX := fun ex env _ _ _ _ _ q => (h ex env q).elim

variable {a b c : Expr} {wa wb wc : WT} {pos : Pos}
/-! ### unary -/
theorem s_neg (ha : PE X a (tE X B Wx wa)) : PE X (.UnaryOp .USub a pos) (tE X B Wx fun PX env P => wa PX env fun x env1 => match x with
    | .o (.d (.int i)) => P (.o (.d (.int (-i)))) env1
    | _ => False) := by
  refine PE_imp (pe_un un_neg ha) fun σ H Q h => ?_
  obtain ⟨S, env, T, P, PX, r, hw, hP, hX⟩ := h
  refine ⟨S, env, T, _, PX, r, hw, fun x env1 vx S1 H1 hq r1 => ?_, hX⟩
  split at hq
  · exact ⟨_, r1.intTop, hP _ _ _ _ _ hq (r1.pop.push (.int _))⟩
  · exact hq.elim
theorem s_not (ha : Snd X B Wx a wa) : Snd X B Wx (.UnaryOp .Not a pos) (fun PX env P => wa PX env fun x env1 => tst x fun b => P (.o (.d (.bool (!b)))) env1) := by
  refine ⟨PE_imp (pe_not ha.pe) fun σ H Q h => ?_, PT_imp (pt_not ha.pt) fun σ H Q h => ?_⟩
  · obtain ⟨S, env, T, P, PX, r, hw, hP, hX⟩ := h
    refine ⟨S, env, T, _, PX, r, hw, fun x env1 vx S1 H1 hq r1 => ?_, hX⟩
    obtain ⟨b, rfl, hq⟩ := tst_some hq
    exact ⟨b, r1.boolTop, hP _ _ _ _ _ hq (r1.pop.push (.bl _))⟩
  · obtain ⟨S, env, T, P, PX, r, hw, hP, hX⟩ := h
    exact ⟨S, env, T, fun b env' => P (!b) env', PX, r, hw, fun b env' S' H' q r' => hP _ _ _ _ q r', hX⟩
/-! ### and, or: a list of operands -/
structure SndL (X : Cx) (B : Bs) (Wx : WX) (op : BoolOp) (es : List Expr) (pos : Pos) (w : WT) : Prop where
  pe : PE X (.BoolOp op es pos) (tE X B Wx w)
  pw : PW X (.BoolOp op es pos) (tT X B Wx (toB w))
theorem PW_imp {e : Expr} {t t' : TT} (h : PW X e t) (f : ∀ σ H Q, t' σ H Q → t σ H Q) : PW X e t' := ⟨fun wh pins s σ H Q I q => h.run wh pins s σ H Q I (f σ H Q q)⟩
theorem sl_one {op : BoolOp} (ha : Snd X B Wx a wa) : SndL X B Wx op [a] pos wa := by
  refine ⟨pe_one ha.pe, ?_⟩
  cases op with
  | And => exact pw_and1 ha.pt
  | Or => exact pw_or1 ha.pt
theorem sl_and {rest : List Expr} (ha : Snd X B Wx a wa) (hb : SndL X B Wx .And (b :: rest) pos wb) :
    SndL X B Wx .And (a :: b :: rest) pos (fun PX env P => wa PX env fun x env1 => tst x fun t => if t = true then wb PX env1 P else P (.o (.d (.bool false))) env1) := by
  refine ⟨PE_imp (pe_and ha.pe hb.pe) fun σ H Q h => ?_, PW_imp (pw_and ha.pt hb.pw) fun σ H Q h => ?_⟩
  · obtain ⟨S, env, T, P, PX, r, hw, hP, hX⟩ := h
    refine ⟨S, env, T, _, PX, r, hw, fun x env1 vx S1 H1 hq r1 => ?_, hX⟩
    obtain ⟨t, rfl, hq⟩ := tst_some hq
    refine ⟨t, r1.boolTop, ?_⟩
    cases t with
    | true => exact iteT ⟨S1, env1, T, P, PX, r1.pop, hq, hP, hX⟩
    | false => exact iteF (hP _ _ _ _ _ hq (r1.pop.push (.bl _)))
  · obtain ⟨S, env, T, P, PX, r, hw, hP, hX⟩ := h
    refine ⟨S, env, T, fun t env1 => if t = true then wb PX env1 (fun x env' => tst x fun b => P b env') else P false env1, PX, r, hw, fun t env1 S1 H1 hq r1 => ?_, hX⟩
    cases t with
    | true => exact iteT ⟨S1, env1, T, P, PX, r1, hq, hP, hX⟩
    | false => exact iteF (hP _ _ _ _ hq r1)
theorem sl_or {rest : List Expr} (ha : Snd X B Wx a wa) (hb : SndL X B Wx .Or (b :: rest) pos wb) :
    SndL X B Wx .Or (a :: b :: rest) pos (fun PX env P => wa PX env fun x env1 => tst x fun t => if t = true then P (.o (.d (.bool true))) env1 else wb PX env1 P) := by
  refine ⟨PE_imp (pe_or ha.pe hb.pe) fun σ H Q h => ?_, PW_imp (pw_or ha.pt hb.pw) fun σ H Q h => ?_⟩
  · obtain ⟨S, env, T, P, PX, r, hw, hP, hX⟩ := h
    refine ⟨S, env, T, _, PX, r, hw, fun x env1 vx S1 H1 hq r1 => ?_, hX⟩
    obtain ⟨t, rfl, hq⟩ := tst_some hq
    refine ⟨t, r1.boolTop, ?_⟩
    cases t with
    | true => exact iteT (hP _ _ _ _ _ hq (r1.pop.push (.bl _)))
    | false => exact iteF ⟨S1, env1, T, P, PX, r1.pop, hq, hP, hX⟩
  · obtain ⟨S, env, T, P, PX, r, hw, hP, hX⟩ := h
    refine ⟨S, env, T, fun t env1 => if t = true then P true env1 else wb PX env1 (fun x env' => tst x fun b => P b env'), PX, r, hw, fun t env1 S1 H1 hq r1 => ?_, hX⟩
    cases t with
    | true => exact iteT (hP _ _ _ _ hq r1)
    | false => exact iteF ⟨S1, env1, T, P, PX, r1, hq, hP, hX⟩
theorem SndL.snd {op : BoolOp} {es : List Expr} {w : WT} (h : SndL X B Wx op es pos w) : Snd X B Wx (.BoolOp op es pos) w := ⟨h.pe, h.pw.pt⟩
theorem s_ife (hc : Snd X B Wx c wc) (ha : PE X a (tE X B Wx wa)) (hb : PE X b (tE X B Wx wb)) : PE X (.IfExp c a b pos)
    (tE X B Wx fun PX env P => wc PX env fun x env1 => tst x fun t => if t = true then wa PX env1 P else wb PX env1 P) := by
  refine PE_imp (pe_ifExp hc.pt ha hb) fun σ H Q h => ?_
  obtain ⟨S, env, T, P, PX, r, hw, hP, hX⟩ := h
  refine ⟨S, env, T, fun t env1 => if t = true then wa PX env1 P else wb PX env1 P, PX, r, hw, fun t env1 S1 H1 hq r1 => ?_, hX⟩
  cases t with
  | true => exact iteT ⟨S1, env1, T, P, PX, r1, hq, hP, hX⟩
  | false => exact iteF ⟨S1, env1, T, P, PX, r1, hq, hP, hX⟩

/-! ### comparisons -/
def cmpOf : Cop → CmpOp
  | .eq => .Eq
  | .ne => .NotEq
  | .lt => .Lt
  | .le => .LtE
  | .gt => .Gt
  | .ge => .GtE
  | .is => .Is
  | .isNot => .IsNot
  | .inn => .In
  | .notIn => .NotIn
def rCop (X : Cx) : Cop → R2
  | .eq => fun x y H Q => rEq x y H Q ∨ rEqD X.K x y H Q
  | .ne => fun x y H Q => rNe x y H Q ∨ rNeD X.K x y H Q
  | .lt => rI0 fun i j => .bl (decide (i < j))
  | .le => rI0 fun i j => .bl (decide (i ≤ j))
  | .gt => rI0 fun i j => .bl (decide (j < i))
  | .ge => rI0 fun i j => .bl (decide (j ≤ i))
  | .is => fun x y H Q => y = .non ∧ Q (.bl (decide (x = .non))) H
  | .isNot => fun x y H Q => y = .non ∧ Q (.bl (!decide (x = .non))) H
  | .inn => fun x y H Q => rInD X.K x y H Q ∨ rIn X.K false x y H Q
  | .notIn => fun x y H Q => rNotInD X.K x y H Q ∨ rIn X.K true x y H Q
theorem op_cop {k : Nat} (hr : Room k X.A) : (op : Cop) → OpR X (compareOp (cmpOf op)) (rCop X op)
  | .eq => OpR.or op_eq (op_eqD hr.units)
  | .ne => OpR.or op_ne (op_neD hr.units)
  | .lt => op_lt
  | .le => op_le
  | .gt => op_gt
  | .ge => op_ge
  | .is => op_isN
  | .isNot => op_notN
  | .inn => OpR.or (op_inD (by have := hr.un; omega)) op_in_seq
  | .notIn => OpR.or (op_notInD (by have := hr.un; omega)) op_notIn_seq
theorem rp_non {K : PySem.W.Frag} {S : Fz} {H : Hp} {v : V} {x : D} (u : Ud K S H v x) : decide (v = .non) = isNone x := by
  rcases u with u | ⟨a, vs, ds, rfl, rfl, _, _⟩
  · cases u <;> rfl
  · rfl
theorem eq_scal {K : PySem.W.Frag} {S : Fz} {H : Hp} {v u : V} {x y : D} (hv : Ud K S H v x) (hu : Ud K S H u y) (h : eqOk x y = true) :
    (scal v u = true ∧ decide (v = u) = PyData.eqv x y) ∨ (SeqAt.shaped x = true ∧ SeqAt.shaped y = true) := by
  by_cases hs : SeqAt.shaped x = true ∧ SeqAt.shaped y = true
  · exact .inr hs
  · left
    have h2 : (SeqAt.shaped x && SeqAt.shaped y) = false := by
      cases e1 : SeqAt.shaped x <;> cases e2 : SeqAt.shaped y <;> simp_all
    cases x <;> cases y <;> first
      | (exfalso; simp only [eqOk] at h; rw [h2] at h; cases h; done)
      | skip
    all_goals first | (obtain rfl := hv.int) | (obtain rfl := hv.str) | (obtain rfl := hv.bool) | (obtain rfl := hv.non)
    all_goals first | (obtain rfl := hu.int) | (obtain rfl := hu.str) | (obtain rfl := hu.bool) | (obtain rfl := hu.non)
    all_goals first
      | exact ⟨rfl, rfl⟩
      | exact ⟨rfl, by rw [dec_int]; simp [PyData.eqv]⟩
      | exact ⟨rfl, by rw [dec_str]; simp [PyData.eqv]⟩
      | exact ⟨rfl, by rw [dec_bl]; simp [PyData.eqv]⟩
      | exact ⟨rfl, by simp [PyData.eqv]⟩
theorem scal_flat {K : PySem.W.Frag} {S : Fz} {H : Hp} {v : V} {x : D} (r : Rp K S H v x) (h : isScal x = true) : flatV v = true := by
  cases r <;> first | rfl | (cases h)
theorem scals_flat {K : PySem.W.Frag} {S : Fz} {H : Hp} : ∀ {vs : List V} {xs : List D}, RpA K S H vs xs → xs.all isScal = true → vs.all flatV = true
  | _, _, .nil, _ => rfl
  | _, _, .cons a b, h => by
    rw [List.all_cons, Bool.and_eq_true] at h ⊢
    exact ⟨scal_flat a h.1, scals_flat b h.2⟩
theorem eqV_eqv {K : PySem.W.Frag} {S : Fz} {H : Hp} {v u : V} {x y : D} (rv : Rp K S H v x) (ru : Rp K S H u y) (hx : isScal x = true) (hy : isScal y = true) : eqV v u = PyData.eqv x y := by
  cases rv <;> cases ru <;> first | rfl | (cases hx; done) | (cases hy; done) | (simp [eqV, PyData.eqv])
theorem inV_any {K : PySem.W.Frag} {S : Fz} {H : Hp} {u : V} {y : D} (ru : Rp K S H u y) (hy : isScal y = true) : ∀ {vs : List V} {xs : List D}, RpA K S H vs xs → xs.all isScal = true → inV u vs = xs.any fun z => PyData.eqv z y
  | _, _, .nil, _ => rfl
  | _, _, .cons a b, h => by
    rw [List.all_cons, Bool.and_eq_true] at h
    show (eqV _ u || inV u _) = (PyData.eqv _ y || List.any _ _)
    rw [inV_any ru hy b h.2, eqV_eqv a ru h.1 hy]
theorem Ud.rp_scal {K : PySem.W.Frag} {S : Fz} {H : Hp} {v : V} {x : D} (u : Ud K S H v x) (h : isScal x = true) : Rp K S H v x := by
  rcases u with u | ⟨a, vs, ds, rfl, rfl, _, _⟩
  · exact u
  · cases h
theorem cop_d (op : Cop) {S : Fz} {H : Hp} {vx vy : V} {dx dy : D} {k : Bool → Prop} {Q : VK} (ux : Ud X.K S H vx dx) (uy : Ud X.K S H vy dy) (h : cmpW op dx dy k) (hQ : ∀ t, k t → Q (.bl t) H) : rCop X op vx vy H Q := by
  cases op with
  | eq =>
    rcases eq_scal ux uy h.1 with ⟨h1, h2⟩ | ⟨h1, h2⟩
    · exact .inl ⟨h1, by rw [h2]; exact hQ _ h.2⟩
    · exact .inr ⟨dx, dy, ux.dp, uy.dp, h1, h2, hQ _ h.2⟩
  | ne =>
    rcases eq_scal ux uy h.1 with ⟨h1, h2⟩ | ⟨h1, h2⟩
    · exact .inl ⟨h1, by rw [h2]; exact hQ _ h.2⟩
    · exact .inr ⟨dx, dy, ux.dp, uy.dp, h1, h2, hQ _ h.2⟩
  | lt =>
    cases dx <;> cases dy <;> first
      | exact h.elim
      | skip
    obtain rfl := ux.int
    obtain rfl := uy.int
    exact ⟨_, _, rfl, rfl, hQ _ h⟩
  | le =>
    cases dx <;> cases dy <;> first
      | exact h.elim
      | skip
    obtain rfl := ux.int
    obtain rfl := uy.int
    exact ⟨_, _, rfl, rfl, hQ _ h⟩
  | gt =>
    cases dx <;> cases dy <;> first
      | exact h.elim
      | skip
    obtain rfl := ux.int
    obtain rfl := uy.int
    exact ⟨_, _, rfl, rfl, hQ _ h⟩
  | ge =>
    cases dx <;> cases dy <;> first
      | exact h.elim
      | skip
    obtain rfl := ux.int
    obtain rfl := uy.int
    exact ⟨_, _, rfl, rfl, hQ _ h⟩
  | is =>
    cases dy <;> first
      | (cases dx <;> exact h.elim)
      | skip
    obtain rfl := uy.non
    refine ⟨rfl, ?_⟩
    rw [rp_non ux]
    exact hQ _ (by cases dx <;> exact h)
  | isNot =>
    cases dy <;> first
      | (cases dx <;> exact h.elim)
      | skip
    obtain rfl := uy.non
    refine ⟨rfl, ?_⟩
    rw [rp_non ux]
    exact hQ _ (by cases dx <;> exact h)
  | inn =>
    cases dy <;> first
      | (cases dx <;> exact h.elim)
      | skip
    · rename_i ys
      have h' : SeqAt.shaped dx = true ∧ SeqAt.shaped (.list ys) = true ∧ k (ys.any fun y => PyData.eqv y dx) := by cases dx <;> exact h
      exact .inl ⟨dx, _, ux.dp, uy.dp, h'.1, h'.2.1, hQ _ h'.2.2⟩
    · rename_i ys
      have h' : isScal dx = true ∧ List.all ys isScal = true ∧ k (ys.any fun y => PyData.eqv y dx) := by cases dx <;> exact h
      obtain ⟨a, vs, rfl, ha, ra⟩ := uy.tup
      refine .inr ⟨a, vs, rfl, .inr ha, scal_flat (ux.rp_scal h'.1) h'.1, scals_flat ra h'.2.1, ?_⟩
      rw [inV_any (ux.rp_scal h'.1) h'.1 ra h'.2.1]
      exact hQ _ h'.2.2
  | notIn =>
    cases dy <;> first
      | (cases dx <;> exact h.elim)
      | skip
    · rename_i ys
      have h' : SeqAt.shaped dx = true ∧ SeqAt.shaped (.list ys) = true ∧ k (!ys.any fun y => PyData.eqv y dx) := by cases dx <;> exact h
      exact .inl ⟨dx, _, ux.dp, uy.dp, h'.1, h'.2.1, hQ _ h'.2.2⟩
    · rename_i ys
      have h' : isScal dx = true ∧ List.all ys isScal = true ∧ k (!ys.any fun y => PyData.eqv y dx) := by cases dx <;> exact h
      obtain ⟨a, vs, rfl, ha, ra⟩ := uy.tup
      refine .inr ⟨a, vs, rfl, .inr ha, scal_flat (ux.rp_scal h'.1) h'.1, scals_flat ra h'.2.1, ?_⟩
      rw [inV_any (ux.rp_scal h'.1) h'.1 ra h'.2.1]
      exact hQ _ h'.2.2
theorem cop_step (op : Cop) (S : Fz) (H : Hp) (σ : L2.St) (env : Env) (T : List (V × W)) (vx vy : V) (x y : W) (P : W → Env → Prop) (Q : VK) (r : R X.K B S H σ env ((vy, y) :: (vx, x) :: T))
    (h : useW x env fun dx => useW y env fun dy => cmpW op dx dy fun t => P (.o (.d (.bool t))) env)
    (hP : ∀ x env' v S' H', P x env' → R X.K B S' H' σ env' ((v, x) :: T) → Q v H') : rCop X op vx vy H Q := by
  obtain ⟨S', dx, dy, r', h, ux, uy⟩ := use2 r h
  exact cop_d op ux uy h fun t h => hP _ _ _ _ _ h (r'.push (.bl _))
theorem s_cmp {k : Nat} (hr : Room k X.A) (op : Cop) (ha : PE X a (tE X B Wx wa)) (hb : PE X b (tE X B Wx wb)) (hm : behindInMarks (cmpOf op) b = false) : Snd X B Wx (.Compare a [cmpOf op] [b] pos)
    (fun PX env P => wa PX env fun x env1 => wb PX env1 fun y env2 => useW x env2 fun dx => useW y env2 fun dy => cmpW op dx dy fun t => P (.o (.d (.bool t))) env2) :=
  ⟨PE_imp (pe_cmpR (op_cop hr op) ha hb hm) fun σ H Q h => s_two (cop_step op) h,
   PT_imp (pt_cmpR (op_cop hr op) ha hb hm) fun σ H Q h => s_two (cop_step op) (tT_tE h)⟩
theorem chain_step (op op2 : Cop) {σ : L2.St} {H : Hp} {Q : VK}
    (h : tE X B Wx (fun PX env P => wa PX env fun x env1 => wb PX env1 fun y env2 => useW x env2 fun dx => useW y env2 fun dy => cmpW op dx dy fun t =>
      if t = true then wc PX env2 fun z env3 => useW y env3 fun dy2 => useW z env3 fun dz => cmpW op2 dy2 dz fun t2 => P (.o (.d (.bool t2))) env3 else P (.o (.d (.bool false))) env2) σ H Q) :
    tChain (rCop X op) (rCop X op2) (tE X B Wx wa) (tE X B Wx wb) (tE X B Wx wc) σ H Q := by
  obtain ⟨S, env, T, P, PX, r, hw, hP, hX⟩ := h
  refine ⟨S, env, T, _, PX, r, hw, fun x env1 vx S1 H1 hq r1 => ?_, hX⟩
  refine ⟨S1, env1, (vx, x) :: T, _, PX, r1, hq, fun y env2 vy S2 H2 hk r2 => ?_, hX⟩
  obtain ⟨S3, r3, f⟩ := R.used (P := [(vy, y), (vx, x)]) (T := T) r2
  obtain ⟨dx, hk, ux⟩ := f (vx, x) (List.mem_cons_of_mem _ List.mem_cons_self) _ hk
  obtain ⟨dy, hk, uy⟩ := f (vy, y) List.mem_cons_self _ hk
  have r3' : R X.K B S3 H2 σ env2 (fzT (vy, y) :: T) := r3.perm (fun t ht => by
    rcases List.mem_cons.mp ht with e | ht
    · subst e; exact List.mem_cons_self
    · exact List.mem_cons_of_mem _ (List.mem_cons_of_mem _ ht)) fun b => by
      show cntW b (fzT (vy, y)).2 + cntT b T ≤ cntW b (fzT (vy, y)).2 + (cntW b (fzT (vx, x)).2 + cntT b T)
      omega
  have useF : ∀ {env : Env} {Q : D → Prop}, useW y env Q → useW (fzT (vy, y)).2 env Q := fun {env Q} h => by
    cases y with
    | o y => exact h
    | al _ _ _ => exact h
  have efz : fzT (vy, y) = (vy, (fzT (vy, y)).2) := by cases y <;> rfl
  refine cop_d op ux uy hk fun t ht => ⟨t, rfl, ?_⟩
  cases t with
  | false => exact iteF (hP _ _ _ _ _ ht ((r3'.pop).push (.bl _)))
  | true =>
    refine iteT ⟨S3, env2, _, _, PX, r3', ht, fun z env3 vz S4 H4 hz r4 => ?_, hX⟩
    rw [efz] at r4
    exact cop_step op2 S4 H4 σ env3 T vy vz _ z P Q r4 (useF hz) hP
theorem s_chain {k : Nat} (hr : Room k X.A) (op op2 : Cop) (ha : PE X a (tE X B Wx wa)) (hb : PE X b (tE X B Wx wb)) (hc : PE X c (tE X B Wx wc)) (hm : lastMarks [cmpOf op, cmpOf op2] [b, c] = false) : Snd X B Wx (.Compare a [cmpOf op, cmpOf op2] [b, c] pos)
    (fun PX env P => wa PX env fun x env1 => wb PX env1 fun y env2 => useW x env2 fun dx => useW y env2 fun dy => cmpW op dx dy fun t =>
      if t = true then wc PX env2 fun z env3 => useW y env3 fun dy2 => useW z env3 fun dz => cmpW op2 dy2 dz fun t2 => P (.o (.d (.bool t2))) env3 else P (.o (.d (.bool false))) env2) :=
  ⟨PE_imp (pe_chain (op_cop hr op) (op_cop hr op2) ha hb hc hm) fun σ H Q h => chain_step op op2 h,
   PT_imp (pt_chain (op_cop hr op) (op_cop hr op2) ha hb hc hm) fun σ H Q h => chain_step op op2 (tT_tE h)⟩

/-! ### arguments, displays -/
abbrev SndA (X : Cx) (B : Bs) (Wx : WX) (es : List Expr) (w : WA) : Prop := PA X es (tA' X B Wx w)
theorem sa_nil : SndA X B Wx [] fun _ env P => P [] env :=
  PA_imp pa_nil fun σ H Q ⟨S, env, T, P, PX, r, hw, hP, hX⟩ => hP env [] S H hw r
theorem sa_cons {e : Expr} {es : List Expr} {we : WT} {ws : WA} (he : PE X e (tE X B Wx we)) (hs : SndA X B Wx es ws) (st : starEach (e :: es) X.env = (false, eval e X.env) :: starEach es X.env) :
    SndA X B Wx (e :: es) fun PX env P => we PX env fun w env1 => ws PX env1 fun l env2 => P (w :: l) env2 := by
  refine PA_imp (pa_cons he hs st) fun σ H Q ⟨S, env, T, P, PX, r, hw, hP, hX⟩ => ?_
  refine ⟨S, env, T, _, PX, r, hw, fun x env1 vx S1 H1 hq r1 => ?_, hX⟩
  refine ⟨S1, env1, (vx, x) :: T, fun l env2 => P (x :: l) env2, PX, r1, hq, fun env2 Z S2 H2 h2 r2 => ?_, hX⟩
  refine hP env2 ((vx, x) :: Z) S2 H2 h2 (r2.perm (fun t ht => ?_) fun b => ?_)
  · rcases List.mem_append.mp ht with ht | ht
    · rcases List.mem_cons.mp ht with e | ht
      · subst e; exact List.mem_append_right _ List.mem_cons_self
      · exact List.mem_append_left _ ht
    · exact List.mem_append_right _ (List.mem_cons_of_mem _ ht)
  · rw [cntT_append, cntT_append]
    show cntW b x + cntT b Z + cntT b T ≤ cntT b Z + (cntW b x + cntT b T)
    omega
theorem datas_own {S : Fz} {H : Hp} {K : PySem.W.Frag} {vs : List V} {os : List O} {ds : List D} (w : OwnA K S H vs os) (h : datas os = some ds) : RpA K S H vs ds := by
  rw [datas_eq h] at w
  exact w.data
theorem intos_top {S : Fz} {H : Hp} {σ : L2.St} {env : Env} {T Z : List (V × W)} {Q : List O → Env → Prop} (r : R X.K B S H σ env (Z ++ T)) (h : inWs (Z.map (·.2)) env Q) :
    ∃ os env' S', Q os env' ∧ os.length = Z.length ∧ R X.K B S' H σ env' ((Z.map (·.1)).zip (os.map W.o) ++ T) ∧ OwnA X.K S' H (Z.map (·.1)) os ∧ ∀ b, cntT b ((Z.map (·.1)).zip (os.map W.o)) = O.cntL b os := by
  obtain ⟨os, env', S', q, hl, r0⟩ := R.intos (L := []) Z r h
  have r' : R X.K B S' H σ env' ((Z.map (·.1)).zip (os.map W.o) ++ T) := r0
  have hl' : (Z.map (·.1)).length = os.length := by rw [List.length_map]; exact hl.symm
  exact ⟨os, env', S', q, hl, r', ownA_of hl' fun t ht => r'.tmps t (List.mem_append_left _ ht), fun b => cntT_zip b hl'⟩
theorem s_tup {es : List Expr} {k : Nat} {ws : WA} (h : SndA X B Wx es ws) : PE X (.Tuple es k pos) (tE X B Wx fun PX env P => ws PX env fun l env1 => inWs l env1 fun os env2 => os.length ≤ sizeLine ∧ match datas os with
    | some ds => P (.o (.d (.tuple ds))) env2
    | none => P (.o (.tup os)) env2) := by
  refine PE_imp (pe_tup h) fun σ H Q ⟨S, env, T, P, PX, r, hw, hP, hX⟩ => ?_
  refine ⟨S, env, T, _, PX, r, hw, fun env1 Z S1 H1 hq r1 => ?_, hX⟩
  obtain ⟨os, env2, S2, ⟨hz, q⟩, hl, r2, ow, hc⟩ := intos_top r1 hq
  refine ⟨by rw [List.length_map, ← hl]; exact hz, fun p hp => ?_⟩
  cases e : datas os with
  | some ds =>
    simp only [e] at q
    exact hP _ _ _ _ _ q (newTup r2.pops hp (datas_own ow e))
  | none =>
    simp only [e] at q
    exact hP _ _ _ _ _ q (r2.newTup hp ow fun b => by rw [hc]; exact Nat.le_refl _)
theorem s_lst {es : List Expr} {ws : WA} (h : SndA X B Wx es ws) : PE X (.List es pos) (tE X B Wx fun PX env P => ws PX env fun l env1 => inWs l env1 fun os env2 => os.length ≤ sizeLine ∧ ∀ a, P (.o (.lst a os)) env2) := by
  refine PE_imp (pe_lst h) fun σ H Q ⟨S, env, T, P, PX, r, hw, hP, hX⟩ => ?_
  refine ⟨S, env, T, _, PX, r, hw, fun env1 Z S1 H1 hq r1 => ?_, hX⟩
  obtain ⟨os, env2, S2, ⟨hz, q⟩, hl, r2, ow, hc⟩ := intos_top r1 hq
  refine ⟨by rw [List.length_map, ← hl]; exact hz, fun p hp => ?_⟩
  exact hP _ _ _ _ _ (q p) (r2.newLst hp ow fun b => by rw [hc]; exact Nat.le_refl _)
theorem s_frz {e : Expr} {w : WT} (h : PE X e (tE X B Wx w)) : PE X e (tE X B Wx fun PX env P => w PX env fun x env1 => escW x env1 fun d env2 => P (.o (.d d)) env2) := by
  refine PE_imp h fun σ H Q ⟨S, env, T, P, PX, r, hw, hP, hX⟩ => ?_
  refine ⟨S, env, T, _, PX, r, hw, fun x env1 vx S1 H1 hq r1 => ?_, hX⟩
  obtain ⟨d, env2, S2, q, r2⟩ := r1.esc hq
  exact hP _ _ _ _ _ q r2
end
end Vx
namespace Vx
open PySem PySem.Spec L2
section
variable {X : Cx} {B : Bs} {Wx : WX} {a b c : Expr} {wa wb wc : WT} {pos : Pos}

/-! ### items -/
theorem atI_len {α β : Type} {xs : List α} {ys : List β} {n : Int} {x : α} (hl : xs.length = ys.length) (h : atI xs n = some x) : ∃ j y, ixN xs.length n = some j ∧ xs[j]? = some x ∧ ys[j]? = some y ∧ atI ys n = some y := by
  unfold atI at h
  cases e : ixN xs.length n with
  | none => rw [e] at h; cases h
  | some j =>
    rw [e] at h
    have hj : j < ys.length := by rw [← hl]; exact (ixN_seq e).2.1
    refine ⟨j, ys[j], rfl, h, List.getElem?_eq_getElem hj, ?_⟩
    unfold atI
    rw [← hl, e]
    exact List.getElem?_eq_getElem hj
theorem use1 {S : Fz} {H : Hp} {σ : L2.St} {env : Env} {T : List (V × W)} {v : V} {x : W} {k : D → Prop} (r : R X.K B S H σ env ((v, x) :: T)) (h : useW x env k) :
    ∃ S' dx, R X.K B S' H σ env T ∧ k dx ∧ Ud X.K S' H v dx := by
  obtain ⟨S', r', f⟩ := R.used (P := [(v, x)]) (T := T) r
  obtain ⟨dx, h, ux⟩ := f (v, x) List.mem_cons_self _ h
  exact ⟨S', dx, R.pops r', h, ux⟩
theorem rIx_l {x y : V} {H : Hp} {Q : VK} (h : rIxL X.K x y H Q) : rIx X.K x y H Q := .inl h
theorem rIx_t {x y : V} {H : Hp} {Q : VK} (h : rIxT X.K x y H Q) : rIx X.K x y H Q := .inr (.inl h)
theorem rIx_s {x y : V} {H : Hp} {Q : VK} (h : rIxS x y H Q) : rIx X.K x y H Q := .inr (.inr h)
theorem ix_step (S : Fz) (H : Hp) (σ : L2.St) (env : Env) (T : List (V × W)) (vx vy : V) (x y : W) (P : W → Env → Prop) (Q : VK) (r : R X.K B S H σ env ((vy, y) :: (vx, x) :: T))
    (h : itemW x y env fun w => P w env) (hP : ∀ x env' v S' H', P x env' → R X.K B S' H' σ env' ((v, x) :: T) → Q v H') : rIx X.K vx vy H Q := by
  have fin : ∀ {S : Fz} {v : V} {o : O}, R X.K B S H σ env ((vx, x) :: T) → OwnR X.K S H v o → (∀ b, o.cnt b ≤ cntW b x) → P (.o o) env → Q v H := fun {S v o} r q c h =>
    hP _ _ _ _ _ h (r.tmp (fun t ht => by
      rcases List.mem_cons.mp ht with e | ht
      · subst e; exact q
      · exact r.tmps t (List.mem_cons_of_mem _ ht)) fun b => by
      show o.cnt b + _ ≤ cntW b x + _
      have := c b
      omega)
  cases x with
  | o x =>
    cases x with
    | d dx =>
      obtain ⟨S', dy, r', h, uy⟩ := use1 (k := fun e => ixW dx e fun y => P (.o (.d y)) env) r h
      have rx := r'.dataTop
      cases dx with
      | list xs =>
        cases dy with
        | int n =>
          obtain ⟨z, hz, h⟩ := onSome_some h
          cases rx with
          | lst f ra =>
            obtain ⟨j, v, _, e1, e2, e3⟩ := atI_len ra.length.symm hz
            obtain ⟨v', e4, rz⟩ := ra.getD e1
            rw [e2] at e4; cases e4
            obtain rfl := uy.int
            exact rIx_l ⟨_, _, _, _, rfl, rfl, f.sq, e3, fin r' (OwnR.d rz) (fun _ => Nat.zero_le _) h⟩
        | _ => exact h.elim
      | tuple xs =>
        cases dy with
        | int n =>
          obtain ⟨z, hz, h⟩ := onSome_some h
          cases rx with
          | tup f ra =>
            obtain ⟨j, v, _, e1, e2, e3⟩ := atI_len ra.length.symm hz
            obtain ⟨v', e4, rz⟩ := ra.getD e1
            rw [e2] at e4; cases e4
            obtain rfl := uy.int
            exact rIx_t ⟨_, _, _, _, rfl, rfl, f, e3, fin r' (OwnR.d rz) (fun _ => Nat.zero_le _) h⟩
        | _ => exact h.elim
      | str z =>
        cases dy with
        | int n =>
          obtain ⟨hl, h⟩ := h
          obtain ⟨cc, hc, h⟩ := onSome_some h
          cases rx
          obtain rfl := uy.int
          exact rIx_s ⟨_, _, _, rfl, rfl, hl, hc, fin r' (OwnR.d (.str _)) (fun _ => Nat.zero_le _) h⟩
        | _ => exact h.elim
      | _ => cases dy <;> exact h.elim
    | tup xs =>
      unfold itemW at h
      obtain ⟨S', dy, r', h, uy⟩ := use1 r h
      have rx : OwnR X.K S' H vx (.tup xs) := r'.tmps (vx, .o (.tup xs)) List.mem_cons_self
      cases dy with
      | int n =>
        obtain ⟨z, hz, h⟩ := onSome_some h
        cases rx with
        | tup f ra =>
          obtain ⟨j, v, _, e1, e2, e3⟩ := atI_len ra.length.symm hz
          obtain ⟨v', e4, rz⟩ := ra.get e1
          rw [e2] at e4; cases e4
          obtain rfl := uy.int
          exact rIx_t ⟨_, _, _, _, rfl, rfl, f, e3, fin r' rz (fun b => O.cntL_get e1) h⟩
      | _ => exact h.elim
    | lst p xs =>
      unfold itemW at h
      obtain ⟨S', dy, r', h, uy⟩ := use1 r h
      have rx : OwnR X.K S' H vx (.lst p xs) := r'.tmps (vx, .o (.lst p xs)) List.mem_cons_self
      cases dy with
      | int n =>
        obtain ⟨z, hz, h⟩ := onSome_some h
        cases rx with
        | lst f ra =>
          obtain ⟨j, v, _, e1, e2, e3⟩ := atI_len ra.length.symm hz
          obtain ⟨v', e4, rz⟩ := ra.get e1
          rw [e2] at e4; cases e4
          obtain rfl := uy.int
          exact rIx_l ⟨_, _, _, _, rfl, rfl, .inl (.inl f), e3, fin r' rz (fun b => Nat.le_trans (O.cntL_get e1) (Nat.le_add_left _ _)) h⟩
      | _ => exact h.elim
  | al p i q =>
    unfold itemW at h
    cases e : envAt env i q with
    | none => simp only [e] at h
    | some z =>
      simp only [e] at h
      cases z with
      | d _ => exact h.elim
      | tup _ => exact h.elim
      | lst p' xs =>
        obtain ⟨rfl, h⟩ := h
        obtain ⟨S', dy, r', h, uy⟩ := use1 r h
        have tv : vx = .ref p' := r'.tmps (vx, .al p' i q) List.mem_cons_self
        subst tv
        cases dy with
        | int n =>
          obtain ⟨j, hj, h⟩ := onSome_some h
          obtain ⟨vs, hv, ow⟩ := r'.seenAt e
          obtain rfl := uy.int
          cases ej : xs[j]? with
          | none => rw [ej] at h; exact h.elim
          | some y =>
            rw [ej] at h
            have hat : atI xs n = some y := by unfold atI; rw [hj]; exact ej
            obtain ⟨j', v, k1, e1, e2, e3⟩ := atI_len ow.length.symm hat
            obtain ⟨v', e4, rz⟩ := ow.get e1
            rw [e2] at e4; cases e4
            refine rIx_l ⟨_, _, _, _, rfl, rfl, .inl (.inl hv), e3, ?_⟩
            cases y with
            | d y => exact fin r' rz (fun _ => Nat.zero_le _) h
            | tup _ => exact h.elim
            | lst c ys =>
              have ev := rz.ref rfl
              subst ev
              exact hP _ _ _ _ _ h r'.pop.seen
        | _ => exact h.elim
theorem s_ix (ha : PE X a (tE X B Wx wa)) (hb : PE X b (tE X B Wx wb)) (hs : PlainIx b) : PE X (.Subscript a b pos)
    (tE X B Wx fun PX env P => wa PX env fun x env1 => wb PX env1 fun y env2 => itemW x y env2 fun w => P w env2) :=
  PE_imp (pe_ix ix_seq ha hb hs) fun σ H Q h => s_two ix_step h

/-! ### slices -/
abbrev WO := (Exn → Env → Prop) → Env → (Option Int → Env → Prop) → Prop
def tO (X : Cx) (B : Bs) (Wx : WX) (w : WO) : TO := fun σ H Q => ∃ S env T P PX, R X.K B S H σ env T ∧ w PX env P ∧ (∀ x env' S' H', P x env' → R X.K B S' H' σ env' T → Q x H') ∧ Lets X B Wx PX
theorem PO_imp {e : Option Expr} {t t' : TO} (h : PO X e t) (f : ∀ σ H Q, t' σ H Q → t σ H Q) : PO X e t' := ⟨fun pins s σ H Q I q => h.run pins s σ H Q I (f σ H Q q)⟩
theorem so_none : PO X none (tO X B Wx fun _ env P => P none env) := PO_imp po_none fun σ H Q ⟨S, env, T, P, PX, r, hw, hP, hX⟩ => hP _ _ _ _ hw r
theorem so_some (ha : PE X a (tE X B Wx wa)) : PO X (some a) (tO X B Wx fun PX env P => wa PX env fun w env1 => match w with
    | .o (.d (.int i)) => P (some i) env1
    | _ => False) := by
  refine PO_imp (po_some ha) fun σ H Q ⟨S, env, T, P, PX, r, hw, hP, hX⟩ => ?_
  refine ⟨S, env, T, _, PX, r, hw, fun x env1 vx S1 H1 hq r1 => ?_, hX⟩
  split at hq
  · exact ⟨_, r1.intTop, hP _ _ _ _ hq r1.pop⟩
  · exact hq.elim
theorem cut_whole {ds : List D} {lo hi : Option Int} (h : HT.sIx ds.length 0 lo = 0 ∧ HT.sIx ds.length ds.length hi = ds.length) : cutD ds lo hi = ds := by
  unfold cutD
  rw [h.1, h.2, List.drop_zero, Nat.sub_zero, List.take_length]
theorem sl_step {S : Fz} {H : Hp} {σ : L2.St} {env : Env} {T : List (V × W)} {vx : V} {x : W} {lo hi : Option Int} {P : W → Env → Prop} {Q : VK} (r : R X.K B S H σ env ((vx, x) :: T))
    (h : useW x env fun dx => slW dx lo hi fun o => P (.o o) env) (hP : ∀ x env' v S' H', P x env' → R X.K B S' H' σ env' ((v, x) :: T) → Q v H') : rSlL X.K vx lo hi H Q ∨ rSlA X.K vx lo hi H Q := by
  obtain ⟨S', dx, r', h, ux⟩ := use1 r h
  cases dx with
  | list ds =>
    obtain ⟨p, vs, rfl, hq, ra⟩ := ux.list
    have hl := ra.length
    have rc : RpA X.K S' H (cutV vs lo hi) (cutD ds lo hi) := by
      unfold cutV cutD
      rw [hl]
      exact (ra.drop _).take _
    exact .inl ⟨p, vs, rfl, hq, fun p hp => hP _ _ _ _ _ (h p) (newData r' hp rc)⟩
  | tuple ds =>
    obtain ⟨p, vs, rfl, hq, ra⟩ := ux.tup
    have hl := ra.length
    have rc : RpA X.K S' H (cutV vs lo hi) (cutD ds lo hi) := by
      unfold cutV cutD
      rw [hl]
      exact (ra.drop _).take _
    refine .inr ⟨p, vs, rfl, hq, fun hw => ?_, fun _ p hp => hP _ _ _ _ _ h (newTup r' hp rc)⟩
    rw [hl] at hw
    have h' : P (.o (.d (.tuple ds))) env := by
      have := cut_whole hw
      rw [← this]; exact h
    exact hP _ _ _ _ _ h' (r'.push ux.rp_tup)
  | _ => exact h.elim
theorem s_sl {lo hi : Option Expr} {p2 : Pos} {wl wh : WO} (ha : PE X a (tE X B Wx wa)) (hl : PO X lo (tO X B Wx wl)) (hh : PO X hi (tO X B Wx wh)) : PE X (.Subscript a (.Slice lo hi none p2) pos)
    (tE X B Wx fun PX env P => wa PX env fun x env1 => wl PX env1 fun l env2 => wh PX env2 fun h env3 => useW x env3 fun dx => slW dx l h fun o => P (.o o) env3) := by
  refine PE_imp (pe_slice (SlR.or sl_list sl_tupA) ha hl hh) fun σ H Q ⟨S, env, T, P, PX, r, hw, hP, hX⟩ => ?_
  refine ⟨S, env, T, _, PX, r, hw, fun x env1 vx S1 H1 hq r1 => ?_, hX⟩
  refine ⟨S1, env1, (vx, x) :: T, _, PX, r1, hq, fun l env2 S2 H2 hq2 r2 => ?_, hX⟩
  refine ⟨S2, env2, (vx, x) :: T, _, PX, r2, hq2, fun h env3 S3 H3 hq3 r3 => ?_, hX⟩
  exact sl_step r3 hq3 hP

/-! ### built-in functions -/
/-- sum of a tuple -/
theorem cr_sumT (hc : X.calm = true) : CallR X (.builtin "sum") (fun vs H Q => ∃ (a : Addr) (ns : List Int), vs = [V.ref a] ∧ SqT X.K H a (ns.map V.int) ∧ Q (.int ns.sum) H) := by
  intro pins s σ H vs us Q I r h
  obtain ⟨t, ns, rfl, hs, q⟩ := h
  obtain rfl := Vals.ref1 r
  obtain ⟨its, rv, hl, _⟩ := I.tuple hs
  have hi : PyProof.Rows.IntsAre its ns := rv.ints
  obtain ⟨xs, e⟩ := hi.allInts.items
  have hn : numsOf (intItems xs).toList = ns := by rw [← e]; exact hi.numsOf
  rw [nums_intItems] at hn
  rw [e] at hl
  refine PySem.W.ktm_sumG (I.ok.hd hc) hl fun h' tk t' hk => ?_
  rw [preSum_eq, List.take_of_length_le (by simp), hn]
  exact ⟨.int ns.sum, H, I.kept (t' := tk) hk, ⟨t', rfl⟩, q⟩
theorem cr_repr {k : Nat} (hr : Room k X.A) (hg : X.A.guards = some []) : CallR X (.builtin "repr") (fun vs H Q => ∃ (v : V) (x : D), vs = [v] ∧ Dp X.K H v x ∧ PyData.showable x = true ∧ x.hasDict = false ∧ x.shown.length ≤ sizeLine ∧ x.depth ≤ 64 ∧ Q (.str x.shown) H) := by
  intro pins s σ H vs us Q I r h
  obtain ⟨v, x, rfl, dp, hs, hd, hz, hdep, q⟩ := h
  obtain ⟨u, rfl, ru⟩ := vals1 r
  obtain ⟨as, rd⟩ := Dp.reads I x v u dp ru
  have hu := hr.un
  cases dp with
  | non =>
    cases ru
    exact PySem.P.repr_of_none ⟨.str _, H, I.tok _, ⟨_, rfl⟩, q⟩
  | bl bb =>
    cases ru
    exact PySem.P.repr_of_bool ⟨.str _, H, I.tok _, ⟨_, rfl⟩, q⟩
  | int i =>
    obtain ⟨t, rfl⟩ := ru
    exact PySem.P.repr_of_int (by simpa [PyData.showable] using hs) ⟨.str _, H, I.tok _, ⟨_, rfl⟩, q⟩
  | str z =>
    obtain ⟨t, rfl⟩ := ru
    exact PySem.P.repr_of_str ⟨.str _, H, I.tok _, ⟨_, rfl⟩, q⟩ hz
  | lst f ra =>
    cases ru
    exact PySem.repr_of_reads' rd hs (PyData.noDict_hsm hd) hg (by omega) (fun _ _ e => e) (fun h' u tk hk => ⟨.str _, H, I.kept hk, ⟨_, rfl⟩, q⟩) hz
  | tup f ra =>
    cases ru
    exact PySem.repr_of_reads' rd hs (PyData.noDict_hsm hd) hg (by omega) (fun _ _ e => e) (fun h' u tk hk => ⟨.str _, H, I.kept hk, ⟨_, rfl⟩, q⟩) hz
theorem intsOf_eq : ∀ {ds : List D} {ns : List Int}, intsOf ds = some ns → ds = ns.map PyData.int
  | [], ns, h => by cases h; rfl
  | .int i :: r, ns, h => by
    unfold intsOf at h
    cases e : intsOf r with
    | none => rw [e] at h; cases h
    | some es => rw [e] at h; cases h; rw [intsOf_eq e]; rfl
  | .none :: _, _, h => nomatch h
  | .bool _ :: _, _, h => nomatch h
  | .str _ :: _, _, h => nomatch h
  | .list _ :: _, _, h => nomatch h
  | .tuple _ :: _, _, h => nomatch h
  | .dict _ :: _, _, h => nomatch h
theorem boolsOf_eq : ∀ {ds : List D} {ns : List Bool}, boolsOf ds = some ns → ds = ns.map PyData.bool
  | [], ns, h => by cases h; rfl
  | .bool i :: r, ns, h => by
    unfold boolsOf at h
    cases e : boolsOf r with
    | none => rw [e] at h; cases h
    | some es => rw [e] at h; cases h; rw [boolsOf_eq e]; rfl
  | .none :: _, _, h => nomatch h
  | .int _ :: _, _, h => nomatch h
  | .str _ :: _, _, h => nomatch h
  | .list _ :: _, _, h => nomatch h
  | .tuple _ :: _, _, h => nomatch h
  | .dict _ :: _, _, h => nomatch h
theorem UdA.one {S : Fz} {H : Hp} {K : PySem.W.Frag} {vs : List V} {x : D} (u : UdA K S H vs [x]) : ∃ v, vs = [v] ∧ Ud K S H v x := by
  cases u with
  | cons a b => cases b; exact ⟨_, rfl, a⟩
theorem UdA.two {S : Fz} {H : Hp} {K : PySem.W.Frag} {vs : List V} {x y : D} (u : UdA K S H vs [x, y]) : ∃ v w, vs = [v, w] ∧ Ud K S H v x ∧ Ud K S H w y := by
  cases u with
  | cons a b => cases b with
    | cons b c => cases c; exact ⟨_, _, rfl, a, b⟩

/-! ### sorted of pairs of ints -/
def keyP (H : Hp) : V → Int × Int
  | .ref t => match H t with
    | some (.tup [.int i, .int j]) => (i, j)
    | _ => (0, 0)
  | _ => (0, 0)
theorem pairsOf_eq : ∀ {ds : List D} {ps : List (Int × Int)}, pairsOf ds = some ps → ds = ps.map fun p => PyData.tuple [.int p.1, .int p.2]
  | [], ps, h => by cases h; rfl
  | x :: r, ps, h => by
    unfold pairsOf at h
    split at h
    · cases h
      rename_i h0
      cases h0
    · rename_i i j r' h0
      cases h0
      cases e : pairsOf r with
      | none => rw [e] at h; cases h
      | some es => rw [e] at h; cases h; rw [pairsOf_eq e]; rfl
    · cases h
end
end Vx
namespace Vx
open PySem PySem.Spec L2
section
variable {X : Cx} {B : Bs} {Wx : WX} {a b c : Expr} {wa wb wc : WT} {pos : Pos}

/-- sorted of pairs of ints, however the pairs lie -/
def rSortV (K : PySem.W.Frag) : List V → Hp → VK → Prop := fun vs H Q => ∃ (l : Addr) (xs : List V) (k : V → Int × Int), vs = [V.ref l] ∧ SqL K H l xs ∧ (∀ x ∈ xs, ∃ t, x = V.ref t ∧ SqT K H t [.int (k x).1, .int (k x).2]) ∧
  ∀ ys p, SrtO.Srtd (ltP k) ys → ys.Perm xs → H p = none → Q (.ref p) (upd H p (.lst ys))
theorem cr_sortV : CallR X (.builtin "sorted") (rSortV X.K) := by
  intro pins s σ H vs us Q I r h
  obtain ⟨l, xs, k, rfl, hs, hx, q⟩ := h
  obtain ⟨its, rv, hl, hz⟩ := I.list hs
  obtain rfl := Vals.ref1 r
  have refs : ∀ x ∈ xs, ∃ t, x = V.ref t := fun x m => let ⟨t, e, _⟩ := hx x m; ⟨t, e⟩
  obtain ⟨e1, e2⟩ := refs_back rv refs
  refine SrtO.sorted_pairsO (k := fun u => k (backV u)) hl.isList (by rw [← rv.length]; exact hz) (fun v hv => ?_) fun h' d out h1 h2 kp hd hn => ?_
  · obtain ⟨t, rfl⟩ := e2 v hv
    obtain ⟨t', e, ht⟩ := hx (V.ref t) (by rw [e1]; exact List.mem_map.mpr ⟨_, hv, rfl⟩)
    cases e
    obtain ⟨js, r2, ⟨o, ho, hc, n, hd⟩, _⟩ := I.tuple ht
    obtain ⟨t1, t2, rfl⟩ := Vals.int2 r2
    exact ⟨t, o, t1, t2, n, rfl, ho, hc, hd⟩
  · have h3 : ∀ u ∈ out, ∃ a, u = Value.ref a := fun u hu => e2 u (h2.perm.mem_iff.mp hu)
    have hp : (out.map backV).Perm xs := by rw [e1]; exact h2.perm.map backV
    obtain ⟨n, hn⟩ := hn
    refine ⟨.ref d, upd H d (.lst (out.map backV)), I.laid (t' := s.toks) kp hd ⟨?_, out, n, vals_back h3, hn⟩, rfl, q _ d (SrtO.srtd_map h1) hp (I.hok.fresh hd)⟩
    rw [hp.length_eq]
    exact hz
theorem pairLe_of {p q : Int × Int} (h : SrtO.lexB q p = false) : pairLe p q = true := by
  have h1 := SrtO.lexB_no.mp h
  unfold pairLe
  by_cases e : p.1 < q.1
  · rw [decide_eq_true e]; rfl
  · have e1 : p.1 = q.1 := by omega
    have e2 : p.2 ≤ q.2 := by omega
    rw [decide_eq_true e1, decide_eq_true e2, Bool.and_self, Bool.or_true]
/-- the pairs' values stand by a function of the value -/
theorem pairs_key {S : Fz} {H : Hp} {pins : List (Addr × Obj)} {σ : L2.St} {s : Shared} (I : L2.Inv X pins σ H s) : ∃ k : V → Int × Int, ∀ {vs : List V} {ps : List (Int × Int)}, RpA X.K S H vs (ps.map fun p => PyData.tuple [.int p.1, .int p.2]) →
    vs.map k = ps ∧ ∀ x ∈ vs, ∃ t, x = V.ref t ∧ SqT X.K H t [.int (k x).1, .int (k x).2] := by
  refine ⟨fun v => open Classical in if h : ∃ p : Int × Int, ∃ t, v = V.ref t ∧ SqT X.K H t [.int p.1, .int p.2] then h.choose else (0, 0), ?_⟩
  have key : ∀ {v : V} {p : Int × Int}, Rp X.K S H v (.tuple [.int p.1, .int p.2]) → (open Classical in if h : ∃ p : Int × Int, ∃ t, v = V.ref t ∧ SqT X.K H t [.int p.1, .int p.2] then h.choose else (0, 0)) = p ∧ ∃ t, v = V.ref t ∧ SqT X.K H t [.int p.1, .int p.2] := by
    intro v p r
    cases r with
    | tup f ra =>
      rename_i t xs
      have e : xs = [.int p.1, .int p.2] := RpA.ints (ns := [p.1, p.2]) ra
      subst e
      have h : ∃ p : Int × Int, ∃ u, V.ref t = V.ref u ∧ SqT X.K H u [.int p.1, .int p.2] := ⟨p, t, rfl, f⟩
      refine ⟨?_, t, rfl, f⟩
      rw [dif_pos h]
      obtain ⟨u, e, g⟩ := h.choose_spec
      cases e
      have e2 := I.tuple_inj g f
      injection e2 with e3 e4
      injection e4 with e5 _
      injection e3 with e3
      injection e5 with e5
      exact Prod.ext e3 e5
  intro vs ps
  induction ps generalizing vs with
  | nil => intro r; cases r; exact ⟨rfl, fun x h => nomatch h⟩
  | cons p ps ih =>
    intro r
    cases r with
    | cons ra rb =>
      obtain ⟨k1, t, e, f⟩ := key ra
      obtain ⟨h1, h2⟩ := ih rb
      refine ⟨by rw [List.map_cons, k1, h1], fun x hx => ?_⟩
      rcases List.mem_cons.mp hx with rfl | hx
      · refine ⟨t, e, ?_⟩
        simp only []
        rw [k1]; exact f
      · exact h2 x hx

/-! ### built-ins by values -/
def primV : Prim → Value
  | .len => .builtin "len"
  | .sum => .builtin "sum"
  | .tuple => .type "tuple"
  | .list => .type "list"
  | .sorted => .builtin "sorted"
  | .repr => .builtin "repr"
  | .abs => .builtin "abs"
  | .min2 => .builtin "min"
  | .max2 => .builtin "max"
  | .min => .builtin "min"
  | .max => .builtin "max"
  | .all => .builtin "all"
  | .any => .builtin "any"
  | .isi _ => .builtin "isinstance"
  | .isis _ => .builtin "isinstance"
/-- what is asked, of the values, with the heap's state at hand -/
def PrimOk (X : Cx) (p : Prim) : Prop :=
  ∀ (pins : List (Addr × Obj)) (s : Shared) (σ : L2.St) (H : Hp) (vs : List V) (us : List Value) (Q : VK) (B : Bs) (S : Fz) (env : Env) (T : List (V × W)) (ds : List D) (k : O → Prop),
    L2.Inv X pins σ H s → Vals vs us → R X.K B S H σ env T → UdA X.K S H vs ds → primW p ds k → (∀ o v S' H', k o → R X.K B S' H' σ env ((v, .o o) :: T) → Q v H') →
    wpAny (model X.prog X.w) X.A (call (primV p) us) (EP X pins σ Q) X.xe s
theorem lenV_of {S : Fz} {H : Hp} {v : V} {x : D} (u : Ud X.K S H v x) {n : Nat} (h : match x with | .list xs => n = xs.length | .tuple xs => n = xs.length | .str z => z.length ≤ sizeLine ∧ n = z.length | _ => False) : LenV X.K v H n := by
  cases x with
  | list xs =>
    obtain ⟨p, vs, rfl, hq, ra⟩ := u.list
    exact .inl ⟨vs, hq, by rw [ra.length]; exact h⟩
  | tuple xs =>
    obtain ⟨p, vs, rfl, hq, ra⟩ := u.tup
    exact .inr ⟨vs, hq, by rw [ra.length]; exact h⟩
  | str z => obtain rfl := u.str; exact h
  | _ => exact h.elim
theorem prim_ok {k : Nat} (hr : Room k X.A) (hg : X.A.guards = some []) (hc : X.calm = true) : ∀ p : Prim, (∀ t, p ≠ .isi t) → (∀ ts, p ≠ .isis ts) → PrimOk X p := by
  intro p h1 h2 pins s σ H vs us Q B S env T ds k I r rr u h hP
  have dat : ∀ {v : V} {x : D}, k (.d x) → Rp X.K S H v x → Q v H := fun h q => hP _ _ _ _ h (rr.push q)
  cases p with
  | isi t => exact absurd rfl (h1 t)
  | isis t => exact absurd rfl (h2 t)
  | len =>
    match ds, u, h with
    | [x], u, h =>
      obtain ⟨v, rfl, ux⟩ := u.one
      cases x with
      | list xs => exact call_len pins s σ H _ us Q I r ⟨v, xs.length, rfl, lenV_of ux rfl, dat h (.int _)⟩
      | tuple xs => exact call_len pins s σ H _ us Q I r ⟨v, xs.length, rfl, lenV_of ux rfl, dat h (.int _)⟩
      | str z => exact call_len pins s σ H _ us Q I r ⟨v, z.length, rfl, lenV_of ux ⟨h.1, rfl⟩, dat h.2 (.int _)⟩
      | _ => exact h.elim
    | [], _, h => exact h.elim
    | x :: y :: z, _, h => cases x <;> exact h.elim
  | sum =>
    match ds, u, h with
    | [x], u, h =>
      obtain ⟨v, rfl, ux⟩ := u.one
      cases x with
      | list xs =>
        obtain ⟨ns, e, h⟩ := onSome_some h
        obtain ⟨p, ws, rfl, hq, ra⟩ := ux.list
        rw [intsOf_eq e] at ra
        rw [ra.ints] at hq
        exact cr_sum hc pins s σ H _ us Q I r ⟨p, ns, rfl, hq, dat h (.int _)⟩
      | tuple xs =>
        obtain ⟨ns, e, h⟩ := onSome_some h
        obtain ⟨p, ws, rfl, hq, ra⟩ := ux.tup
        rw [intsOf_eq e] at ra
        rw [ra.ints] at hq
        exact cr_sumT hc pins s σ H _ us Q I r ⟨p, ns, rfl, hq, dat h (.int _)⟩
      | _ => exact h.elim
    | [], _, h => exact h.elim
    | x :: y :: z, _, h => cases x <;> exact h.elim
  | tuple =>
    match ds, u, h with
    | [x], u, h =>
      obtain ⟨v, rfl, ux⟩ := u.one
      cases x with
      | list xs =>
        obtain ⟨p, ws, rfl, hq, ra⟩ := ux.list
        exact call_tuple_of pins s σ H _ us Q I r ⟨p, ws, rfl, .inl ⟨hq, fun l hl => hP _ _ _ _ h (newTup rr hl ra)⟩⟩
      | tuple xs =>
        obtain ⟨p, ws, rfl, hq, ra⟩ := ux.tup
        exact call_tuple_of pins s σ H _ us Q I r ⟨p, ws, rfl, .inr ⟨hq, dat h ux.rp_tup⟩⟩
      | _ => exact h.elim
    | [], _, h => exact h.elim
    | x :: y :: z, _, h => cases x <;> exact h.elim
  | list =>
    match ds, u, h with
    | [x], u, h =>
      obtain ⟨v, rfl, ux⟩ := u.one
      cases x with
      | list xs =>
        obtain ⟨p, ws, rfl, hq, ra⟩ := ux.list
        exact call_list_of pins s σ H _ us Q I r ⟨p, ws, rfl, .inl hq, fun l hl => hP _ _ _ _ (h l) (newData rr hl ra)⟩
      | tuple xs =>
        obtain ⟨p, ws, rfl, hq, ra⟩ := ux.tup
        exact call_list_of pins s σ H _ us Q I r ⟨p, ws, rfl, .inr hq, fun l hl => hP _ _ _ _ (h l) (newData rr hl ra)⟩
      | _ => exact h.elim
    | [], _, h => exact h.elim
    | x :: y :: z, _, h => cases x <;> exact h.elim
  | sorted =>
    match ds, u, h with
    | [x], u, h =>
      obtain ⟨v, rfl, ux⟩ := u.one
      cases x with
      | list xs =>
        obtain ⟨ps, e, h⟩ := onSome_some h
        obtain ⟨p, ws, rfl, hq, ra⟩ := ux.list
        rw [pairsOf_eq e] at ra
        obtain ⟨kk, hk⟩ := pairs_key (S := S) I
        obtain ⟨k1, k2⟩ := hk ra
        refine cr_sortV pins s σ H _ us Q I r ⟨p, ws, kk, rfl, hq, k2, fun ys l hs hp hl => ?_⟩
        have hp2 : (ys.map kk).Perm ps := by rw [← k1]; exact hp.map kk
        have hs2 : (ys.map kk).Pairwise (fun p q => pairLe p q = true) := by
          rw [List.pairwise_map]
          exact hs.imp fun h => pairLe_of h
        have rl : ∀ (zs : List V), (∀ z ∈ zs, z ∈ ws) → RpA X.K S H zs ((zs.map kk).map fun p => PyData.tuple [.int p.1, .int p.2]) := by
          intro zs
          induction zs with
          | nil => intro _; exact .nil
          | cons z zs ih =>
            intro hm
            obtain ⟨t, e, f⟩ := k2 z (hm z List.mem_cons_self)
            refine .cons ?_ (ih fun y hy => hm y (List.mem_cons_of_mem _ hy))
            rw [e] at f ⊢
            exact .tup f (.cons (.int _) (.cons (.int _) .nil))
        have rn := newData rr hl (rl ys fun z hz => hp.mem_iff.mp hz)
        rw [List.map_map] at rn
        exact hP _ _ _ _ (h _ hp2 hs2 l) rn
      | _ => exact h.elim
    | [], _, h => exact h.elim
    | x :: y :: z, _, h => cases x <;> exact h.elim
  | repr =>
    match ds, u, h with
    | [x], u, h =>
      obtain ⟨v, rfl, ux⟩ := u.one
      have h' : PyData.showable x = true ∧ x.hasDict = false ∧ x.shown.length ≤ sizeLine ∧ x.depth ≤ 64 ∧ k (.d (.str x.shown)) := by cases x <;> exact h
      exact cr_repr hr hg pins s σ H _ us Q I r ⟨v, x, rfl, ux.dp, h'.1, h'.2.1, h'.2.2.1, h'.2.2.2.1, dat h'.2.2.2.2 (.str _)⟩
    | [], _, h => exact h.elim
    | x :: y :: z, _, h => cases x <;> exact h.elim
  | abs =>
    match ds, u, h with
    | [x], u, h =>
      obtain ⟨v, rfl, ux⟩ := u.one
      cases x with
      | int i =>
        obtain rfl := ux.int
        exact call_abs pins s σ H _ us Q I r ⟨i, rfl, dat h (.int _)⟩
      | _ => exact h.elim
    | [], _, h => exact h.elim
    | x :: y :: z, _, h => cases x <;> exact h.elim
  | max2 =>
    match ds, u, h with
    | [x, y], u, h =>
      obtain ⟨v, w, rfl, ux, uy⟩ := u.two
      cases x <;> cases y <;> first
        | exact h.elim
        | skip
      obtain rfl := ux.int
      obtain rfl := uy.int
      exact call_max2 hc pins s σ H _ us Q I r ⟨_, _, rfl, dat h (.int _)⟩
    | [], _, h => exact h.elim
    | [x], _, h => cases x <;> exact h.elim
    | x :: y :: z :: _, _, h => cases x <;> cases y <;> exact h.elim
  | min2 =>
    match ds, u, h with
    | [x, y], u, h =>
      obtain ⟨v, w, rfl, ux, uy⟩ := u.two
      cases x <;> cases y <;> first
        | exact h.elim
        | skip
      obtain rfl := ux.int
      obtain rfl := uy.int
      exact call_min2 hc pins s σ H _ us Q I r ⟨_, _, rfl, dat h (.int _)⟩
    | [], _, h => exact h.elim
    | [x], _, h => cases x <;> exact h.elim
    | x :: y :: z :: _, _, h => cases x <;> cases y <;> exact h.elim
  | all =>
    match ds, u, h with
    | [x], u, h =>
      obtain ⟨v, rfl, ux⟩ := u.one
      cases x with
      | list xs =>
        obtain ⟨ns, e, h⟩ := onSome_some h
        obtain ⟨p, ws, rfl, hq, ra⟩ := ux.list
        rw [boolsOf_eq e] at ra
        rw [ra.bools] at hq
        exact cr_all hc pins s σ H _ us Q I r ⟨p, ns, rfl, hq, dat h (.bl _)⟩
      | _ => exact h.elim
    | [], _, h => exact h.elim
    | x :: y :: z, _, h => cases x <;> exact h.elim
  | any =>
    match ds, u, h with
    | [x], u, h =>
      obtain ⟨v, rfl, ux⟩ := u.one
      cases x with
      | list xs =>
        obtain ⟨ns, e, h⟩ := onSome_some h
        obtain ⟨p, ws, rfl, hq, ra⟩ := ux.list
        rw [boolsOf_eq e] at ra
        rw [ra.bools] at hq
        exact cr_any hc pins s σ H _ us Q I r ⟨p, ns, rfl, hq, dat h (.bl _)⟩
      | _ => exact h.elim
    | [], _, h => exact h.elim
    | x :: y :: z, _, h => cases x <;> exact h.elim
  | min => cases ds <;> exact h.elim
  | max => cases ds <;> exact h.elim
end
end Vx
namespace Vx
open PySem PySem.Spec L2

/-! ### a list, a tuple, a text, gone through -/
section
variable {X : Cx} {tg : Expr}
def iSeq (K : PySem.W.Frag) (tl : TE) : TI := fun σ H Rk => tl σ H fun x H1 =>
  (∃ a, x = .ref a ∧ (∃ xs, SqL K H1 a xs) ∧ Rk (Itl K a) H1) ∨ (∃ a, x = .ref a ∧ (∃ xs, SqT K H1 a xs) ∧ Rk (Itt K a) H1)
theorem pi_seq {l : Expr} {tl : TE} (hl : PE X l tl) : PI X tg l (iSeq X.K tl) := by
  refine ⟨fun pins s σ H Rk I h => thn (hl.run pins s σ H _ I h) fun v s1 ⟨x, H1, I1, r1, q1⟩ => ?_⟩
  have new : ∀ b ∈ [s1.heap.objs.size], FpOk X pins H1 b := fun b hb => by
    rw [List.mem_singleton.mp hb]
    exact I1.fpOk (Nat.le_refl _) (I1.hok.fresh (Nat.le_refl _))
  have grown : ∀ o : Obj, L2.Inv X pins σ H1 { s1 with heap := s1.heap.push o } := fun o => I1.kept (t' := s1.toks) fun b ob e => Heap.get?_push_of_some _ e
  rcases q1 with ⟨a, rfl, ⟨xs, hq⟩, q⟩ | ⟨a, rfl, ⟨xs, hq⟩, q⟩
  · cases r1
    obtain ⟨its, rv, p, _⟩ := I1.list hq
    exact wpAny_pyIter_list p.isList ⟨_, _, _, _, H1, rfl, grown _, turn_list a _, ⟨_, Heap.get?_push_size _ rfl, rfl, rfl⟩, new, q⟩
  · cases r1
    obtain ⟨its, rv, p, _⟩ := I1.tuple hq
    exact wpAny_pyIter_tuple (show s1.heap.IsTuple a its.toArray from p) ⟨_, _, _, _, H1, rfl, grown _, turn_tuple a _, ⟨_, Heap.get?_push_size _ rfl, rfl, rfl⟩, new, q⟩
end

/-! ### enumerate of a list, of a tuple -/
section
open Sem (wp)
theorem meets_enum1 {v : Value} {o : Obj} {H : Heap → Prop} (B : Begins v o H) :
    Meets (Builtin.«enumerate.__new__» ⟨[.type "enumerate", v], []⟩) (fun _ R s => H s.heap ∧
      R (.ok (.ret (.ref (s.heap.push o).objs.size))) { s with heap := (s.heap.push o).push { cls := .type "enumerate", data := .fields #[.none, .bool false, .ref s.heap.objs.size, rawInt 0, .none, .none] } }) := by
  refine .of_wp fun prog w A R s h => ?_
  obtain ⟨hp, g, d, tk, os⟩ := s
  obtain ⟨h1, h⟩ := h
  have isEnum := sub_enumerate
  have begin_ : ∀ {A' : Around} {E : Value → Shared → Prop} {Q : Value → Shared → Prop}, Q (.ref hp.objs.size) ⟨hp.push o, g, d, tk, os⟩ → wpAny (model prog w) A' (pyIter v) Q E ⟨hp, g, d, tk, os⟩ := fun q =>
    B.iter prog w _ _ ⟨hp, g, d, tk, os⟩ _ h1 q
  wp_walk using begin_
  refine wpAny_stack_any fun st => wpAny_pure ?_
  split
  · rename_i c _ _ _ _ _
    cases (c == Value.type "enumerate") <;> (wp_walk using begin_; exact ⟨_, rfl, h⟩)
  · wp_walk using begin_
    exact ⟨_, rfl, h⟩
theorem call_enum1 {prog : Program} {w : World} {A : Around} {E : Value → Shared → Prop} {s : Shared} {v : Value} {o : Obj} {H : Heap → Prop} {Q : Value → Shared → Prop} (B : Begins v o H) (h1 : H s.heap)
    (h : ∀ h', IsEnum h' (s.heap.objs.size + 1) s.heap.objs.size 0 .none → h'.get? s.heap.objs.size = some o → (∀ b u, s.heap.get? b = some u → h'.get? b = some u) → Q (.ref (s.heap.objs.size + 1)) { s with heap := h' }) :
    wpAny (model prog w) A (call (.type "enumerate") [v]) Q E s := by
  refine callType_new F.called_enumerate (by decide) (F.typeCall_enumerate_1 _) (F.newCall_enumerate_1 _) (fun obj => F.args_object_init_2 obj _) F.entry_enumerate_new (meets_enum1 B) ⟨h1, ?_⟩
  have hz : (s.heap.push o).objs.size = s.heap.objs.size + 1 := Heap.size_push ..
  have hg := Heap.get?_push_size (s.heap.push o) (o := { cls := .type "enumerate", data := .fields #[.none, .bool false, .ref s.heap.objs.size, rawInt 0, .none, .none] }) rfl
  rw [hz] at hg
  show _ ∧ _
  rw [hz]
  exact ⟨⟨_, hg, rfl⟩, h _ hg (Heap.get?_push_of_some _ (Heap.get?_push_size _ B.free)) fun b u x => Heap.get?_push_of_some _ (Heap.get?_push_of_some _ x)⟩
end
section
theorem enumT_end {prog : Program} {w : World} {A : Around} {E : Value → Shared → Prop} {s : Shared} {e it t : Addr} {i : Nat} {items : Array Value} {old : Value} {Q : Option Value → Shared → Prop} (hh : A.handled = none)
    (he : IsEnum s.heap e it i old) (hi : s.heap.IsTupleIter it t i) (ht : s.heap.IsTuple t items) (hx : items[i]? = none) (hQ : ∀ h', Heap.ExtBut it s.heap h' → Q none { s with heap := h' }) : wpAny (model prog w) A (pyNext (.ref e)) Q E s := by
  have ty : s.TypeIs (.ref e) "enumerate" := ⟨_, he, rfl⟩
  unfold pyNext
  refine wpAny_bind (wpAny_attempt (wpAny_callSpecial?_slot (name := Str.ofString "__next__") ty F.slot_enumerate_next (wpAny_call_entry F.slot_enumerate_next ty F.entry_enumerate_next ?_ (F.args_enumerate_next_1 _))))
  show wpAny _ _ (field (.ref e) 2 >>= _) _ _ _
  refine wpAny_bind (wpAny_field he rfl (x := .ref it) rfl (wpAny_bind (wpAny_nextOf_tuple_end hh hi ht hx fun h' x eb hs => ?_)))
  obtain ⟨o, ho, hc⟩ := hs
  exact wpAny_bind (wpAny_isInstance (T := "StopIteration") (b := true) ⟨o, ho, hc⟩ isSubtype_stop (wpAny_pure (hQ _ eb)))
/-- the tuple at a, each item in a new pair with its number -/
def IteT (K : PySem.W.Frag) (a : Addr) : It :=
  ⟨fun i H => ∃ (xs : List V) (x : V), SqT K H a xs ∧ xs[i]? = some x, fun i H v H' => ∃ T x, v = .ref T ∧ H T = none ∧ H' = upd H T (.tup [.int (i : Nat), x]) ∧ ∀ xs, SqT K H a xs → xs[i]? = some x, fun i H => ∃ xs : List V, SqT K H a xs ∧ xs.length ≤ i⟩
theorem two_mem {b e it : Addr} (h : b ∈ [e, it]) : b = e ∨ b = it := by simpa using h
theorem turn_enumT {P : Program} {w : World} {K : PySem.W.Frag} {elts : List Expr} {kk : Nat} {tpos : Pos} (a e it : Addr) :
    Turn P w K (.Tuple elts kk tpos) (IteT K a) [e, it] e (fun i h => (∃ old, IsEnum h e it ((i : Nat) : Int) old) ∧ h.IsTupleIter it a i ∧ e ≠ it) := by
  refine ⟨by simp, ?_, ?_, ?_, ?_, ?_⟩
  · intro i h ⟨⟨old, he⟩, ⟨o, ho, _, hd⟩, _⟩ b hb
    rcases two_mem hb with rfl | rfl
    · exact ⟨_, he, fun v q => nomatch q⟩
    · exact ⟨o, ho, fun v q => by rw [hd] at q; cases q⟩
  · intro i h h' ⟨⟨old, he⟩, hi, hne⟩ k
    exact ⟨⟨old, k e (by simp) _ he⟩, hi.at fun o q => k it (by simp) o q, hne⟩
  · intro X hP hw hK hc i pins s σ H E I hf ⟨⟨old, he⟩, hit, hne⟩ ⟨xs, x, hq, hx⟩
    subst hP hw hK
    obtain ⟨its, rv, p, _⟩ := I.tuple hq
    have p' : s.heap.IsTuple a its.toArray := p
    obtain ⟨u, hu, ru⟩ := rv.get hx
    have hel : e < s.heap.objs.size := Heap.lt_size he
    have hil : it < s.heap.objs.size := by obtain ⟨_, q, _⟩ := hit; exact Heap.lt_size q
    have hai : a ≠ it := fun z => by
      obtain ⟨o1, q1, c1, _⟩ := hit
      obtain ⟨o2, q2, c2, _⟩ := p'
      rw [z, q1] at q2
      cases q2
      rw [c1] at c2
      exact absurd (Value.type.inj c2) (by decide)
    have hea : e ≠ a := fun z => by
      obtain ⟨o2, q2, c2, _⟩ := p'
      rw [← z, he] at q2
      cases q2
      exact absurd (Value.type.inj c2) (by decide)
    have D : Draws X.prog X.w X.A.in1 it [it, a] its.toArray.size (fun i v => its.toArray[i]? = some v) (fun i h => h.IsTupleIter it a i ∧ h.IsTuple a its.toArray) := Draws.tuple (show X.A.in1.handled = none from I.ok.hd hc) it a hai its.toArray
    have hlt : i < its.toArray.size := by
      rw [List.size_toArray]
      exact (List.getElem?_eq_some_iff.mp hu).1
    refine wpAny_pyNext_enum_itemD D he ⟨hit, p'⟩ hlt hne (fun z => (two_mem z).elim hne hea) fun y h' tk hy ho hst hT hsz hk => ?_
    have ey : y = u := by
      have hy' : its[i]? = some y := by simpa using hy
      rw [hu] at hy'
      exact (Option.some.inj hy').symm
    subst ey
    refine ⟨_, rfl, wpAny_letOwnedTupleGo_enum (s := { s with heap := h', toks := tk + 1 }) ho fun h'' he' sb => ?_⟩
    have hT2 : h''.get? s.heap.objs.size = some { cls := .type "tuple", data := .seq #[.int i tk, y] } := (sb.2 _ (Nat.ne_of_gt hel)).trans hT
    have new : ObjOk X.prog X.w (upd H s.heap.objs.size (.tup [.int (i : Nat), x])) h'' s.heap.objs.size (.tup [.int (i : Nat), x]) :=
      ⟨by show 2 ≤ sizeLine; decide, [.int i tk, y], .cons ⟨_, rfl⟩ (.cons ru .nil), ⟨_, hT2, rfl, _, rfl⟩⟩
    have I1 : L2.Inv X pins σ (upd H s.heap.objs.size (.tup [.int (i : Nat), x])) { s with heap := h'', toks := tk + 1 } :=
      I.turnedNew (ch := [e, it]) (fun b ob hb q => (sb.2 b (fun z => hb (by simp [z]))).trans (hk b ob (fun z => hb (by simp [z])) (fun z => hb (by simp [z])) q)) hf (Nat.le_refl _) new
    refine ⟨.ref s.heap.objs.size, _, I1, rfl, ⟨_, x, rfl, I.hok.fresh (Nat.le_refl _), rfl, fun ys hy => by rw [I.tuple_inj hy hq]; exact hx⟩, ⟨⟨y, ?_⟩, hst.1.at fun o q => (sb.2 it (Ne.symm hne)).trans q, hne⟩, fun b hb => ?_⟩
    · have e1 : ((i + 1 : Nat) : Int) = (i : Int) + 1 := by omega
      rw [e1]; exact he'
    · have hb' : b < s.heap.objs.size := by
        rcases two_mem hb with z | z
        · rw [z]; exact hel
        · rw [z]; exact hil
      rw [upd_ne (Nat.ne_of_lt hb')]
      exact (hf b hb).1
  · intro X hP hw hK hc i pins s σ H E I hf ⟨⟨old, he⟩, hit, hne⟩ ⟨xs, hq, hx⟩
    subst hP hw hK
    obtain ⟨its, rv, p, _⟩ := I.tuple hq
    have p' : s.heap.IsTuple a its.toArray := p
    obtain ⟨f0, f1, f2, f3, f4, f5⟩ := hf it (by simp)
    have hl := rv.length
    have hx' : its.toArray[i]? = none := by
      rw [List.getElem?_toArray]
      exact List.getElem?_eq_none (by omega)
    exact enumT_end (I.ok.hd hc) he hit p' hx' fun h' eb => ⟨rfl, I.turned (t' := s.toks) (fun b o hb q => eb b o hb q) f0 f1 f3 f4 f5⟩
  · intro A i s Q E ⟨⟨_, he⟩, _⟩ h
    exact wpAny_pyIter_enum he h
/-- enumerate(xs), of a list or a tuple -/
def iEnumV (K : PySem.W.Frag) (ta : TA) : TI := fun σ H Rk => ta σ H fun vs H1 => ∃ a xs, vs = [.ref a] ∧ ((SqL K H1 a xs ∧ Rk (Ite K a) H1) ∨ (SqT K H1 a xs ∧ Rk (IteT K a) H1))
theorem pi_enumV {X : Cx} {e : Expr} {ta : TA} {p pos tpos : Pos} {elts : List Expr} {kk : Nat} (hg : Gl X "enumerate") (hm : X.mg "enumerate" = none) (ha : PA X [e] ta) (hs : starEach [e] X.env = [(false, eval e X.env)]) :
    PI X (.Tuple elts kk tpos) (.Call (.Name "enumerate" p) [e] [] pos) (iEnumV X.K ta) := by
  refine ⟨fun pins s σ H Rk I h => ?_⟩
  refine PyProof.Rows.Call_ (ld_blt I hg hm PyProof.Rows.boot_enumerate (PyProof.Rows.callWith_type1 (thn (ha.run pos pins s σ H _ I h) fun us s1 ⟨vs, H1, I1, r1, a, xs, ex, q1⟩ => ?_) hs rfl))
  subst ex
  obtain rfl := Vals.ref1 r1
  have new : ∀ b ∈ [s1.heap.objs.size + 1, s1.heap.objs.size], FpOk X pins H1 b := fun b hb => by
    have hle : s1.heap.objs.size ≤ b := by
      rcases two_mem hb with z | z
      · rw [z]; exact Nat.le_add_right _ _
      · rw [z]; exact Nat.le_refl _
    exact I1.fpOk hle (I1.hok.fresh hle)
  rcases q1 with ⟨hq, q⟩ | ⟨hq, q⟩
  · obtain ⟨its, rv, p', _⟩ := I1.list hq
    exact call_enum1 (begins_list a its.toArray) p'.isList fun h' he hit hk => wpAny_pyIter_enum he
      ⟨_, _, _, _, H1, rfl, I1.kept (t' := s1.toks) hk, turn_enum a _ _, ⟨⟨.none, he⟩, ⟨_, hit, rfl, rfl⟩, Nat.succ_ne_self _⟩, new, q⟩
  · obtain ⟨its, rv, p', _⟩ := I1.tuple hq
    exact call_enum1 (begins_tuple a its.toArray) p' fun h' he hit hk => wpAny_pyIter_enum he
      ⟨_, _, _, _, H1, rfl, I1.kept (t' := s1.toks) hk, turn_enumT a _ _, ⟨⟨.none, he⟩, ⟨_, hit, rfl, rfl⟩, Nat.succ_ne_self _⟩, new, q⟩
end
end Vx
namespace Vx
open PySem PySem.Spec L2
section
variable {X : Cx} {B : Bs} {Wx : WX} {a b c : Expr} {wa wb wc : WT} {pos : Pos}

/-! ### targets -/
/-- the other slots stand -/
structure Else (is : List Nat) (σ σ' : L2.St) : Prop where
  len : σ'.length = σ.length
  at_ : ∀ j, j ∉ is → σ'[j]? = σ[j]?
theorem Else.set {i : Nat} {σ : L2.St} {v : Option V} {is : List Nat} (h : i ∈ is) : Else is σ (σ.set i v) :=
  ⟨List.length_set, fun j hj => List.getElem?_set_ne fun e => hj (by rw [← e]; exact h)⟩
theorem Else.trans {is : List Nat} {σ σ1 σ2 : L2.St} (x : Else is σ σ1) (y : Else is σ1 σ2) : Else is σ σ2 := ⟨y.len.trans x.len, fun j h => (y.at_ j h).trans (x.at_ j h)⟩
theorem Else.more {is js : List Nat} {σ σ1 : L2.St} (x : Else is σ σ1) (h : ∀ i ∈ is, i ∈ js) : Else js σ σ1 := ⟨x.len, fun j hj => x.at_ j fun q => hj (h j q)⟩
def gT (X : Cx) (B : Bs) (t : Tg) : TG := fun v σ H Q => ∃ S env T w P, R X.K B S H σ env ((v, w) :: T) ∧ bindT t w env P ∧
  ∀ env' S' σ', P env' → R X.K B S' H σ' env' T → Else t.slots σ σ' → env'.length = env.length → Q σ' H
theorem PG_imp {e : Expr} {t t' : TG} (h : PG X e t) (f : ∀ v σ H Q, t' v σ H Q → t v σ H Q) : PG X e t' := ⟨fun pins s σ H v u Q I r q => h.run pins s σ H v u Q I r (f v σ H Q q)⟩
theorem R.slot {S : Fz} {H : Hp} {σ : L2.St} {env : Env} {T : List (V × W)} {v : V} {o : O} {K : PySem.W.Frag} (r : R K B S H σ env ((v, .o o) :: T)) : ∃ S', R K B S' H σ env ((v, .o (slotO o)) :: T) := by
  cases o with
  | d x => exact ⟨S, r⟩
  | lst p xs => exact ⟨S, r⟩
  | tup xs => exact ⟨_, r.froze⟩
theorem escW_len {w : W} {env : Env} {Q : D → Env → Prop} (h : escW w env Q) : escW w env fun x env' => env'.length = env.length ∧ Q x env' := by
  cases w with
  | o x => exact ⟨rfl, h⟩
  | al a i p =>
    unfold escW at h ⊢
    cases e : envAt env i p with
    | none => simp only [e] at h
    | some y =>
      simp only [e] at h ⊢
      cases y with
      | d _ => exact h.elim
      | tup _ => exact h.elim
      | lst b xs => exact ⟨h.1, envPut_length, h.2⟩
theorem inW_len {w : W} {env : Env} {Q : O → Env → Prop} (h : inW w env Q) : inW w env fun x env' => env'.length = env.length ∧ Q x env' := by
  cases w with
  | o x => exact ⟨rfl, h⟩
  | al a i p =>
    have h' : escW (.al a i p) env fun x env' => Q (.d x) env' := h
    exact escW_len h'
theorem g_name {i : Nat} (h : PG X a (gName i)) : PG X a (gT X B (.v i)) := by
  refine PG_imp h fun v σ H Q ⟨S, env, T, w, P, r, hb, q⟩ => ?_
  have hb' : inW w env fun o env' => i < env'.length ∧ P (env'.set i (some (slotO o))) := hb
  obtain ⟨o, env', S', ⟨hl, hi, hp⟩, r1⟩ := r.into (inW_len hb')
  obtain ⟨S2, r2⟩ := r1.slot
  exact q _ _ _ hp (r2.store hi) (Else.set List.mem_cons_self) (by rw [List.length_set]; exact hl)
def gNames : List Nat → TGs
  | [] => gNil
  | i :: is => gCons (gName i) (gNames is)
theorem setAll_ok {K : PySem.W.Frag} {H : Hp} {T : List (V × W)} {Q : L2.St → Hp → Prop} {S : Fz} : ∀ {is : List Nat} {vs : List V} {os : List O} {σ : L2.St} {env : Env} {P : Env → Prop}, vs.length = os.length → R K B S H σ env (vs.zip (os.map W.o) ++ T) → setAll is os env P →
    (∀ env' σ', P env' → R K B S H σ' env' T → Else is σ σ' → env'.length = env.length → Q σ' H) → gNames is vs σ H Q
  | [], [], [], σ, env, P, _, r, h, q => ⟨rfl, q env σ h r ⟨rfl, fun _ _ => rfl⟩ rfl⟩
  | [], _, _ :: _, _, _, _, _, _, h, _ => h.elim
  | _ :: _, _, [], _, _, _, _, _, h, _ => h.elim
  | i :: is, v :: vs, o :: os, σ, env, P, hl, r, h, q => by
    refine ⟨v, vs, rfl, ?_⟩
    have r' : R K B S H σ env ((v, .o o) :: (vs.zip (os.map W.o) ++ T)) := r
    exact setAll_ok (Nat.succ.inj hl) (r'.store h.1) h.2 fun env' σ' hp r2 el hln => q env' σ' hp r2 (((Else.set List.mem_cons_self).more fun _ h => h).trans (el.more fun _ h => List.mem_cons_of_mem _ h)) (by rw [hln, List.length_set])
  | [], _ :: _, [], _, _, _, hl, _, _, _ => nomatch hl
  | _ :: _, [], _ :: _, _, _, _, hl, _, _, _ => nomatch hl
theorem setAll_len : ∀ {is : List Nat} {os : List O} {env : Env} {P : Env → Prop}, setAll is os env P → is.length = os.length
  | [], [], _, _, _ => rfl
  | [], _ :: _, _, _, h => h.elim
  | _ :: _, [], _, _, h => h.elim
  | _ :: _, _ :: _, _, _, h => congrArg (· + 1) (setAll_len h.2)
theorem PG_or {e : Expr} {t t' : TG} (h : PG X e t) (h' : PG X e t') : PG X e (fun v σ H Q => t v σ H Q ∨ t' v σ H Q) :=
  ⟨fun pins s σ H v u Q I r q => q.elim (h.run pins s σ H v u Q I r) (h'.run pins s σ H v u Q I r)⟩
theorem g_tup {is : List Nat} {n : Nat} (h : PG X a (gTup X.K n (gNames is))) (h2 : PG X a (gUnl X.K n (gNames is))) (hn : is.length = n) : PG X a (gT X B (.tup is)) := by
  refine PG_imp (PG_or h h2) fun v σ H Q ⟨S, env, T, w, P, r, hb, q⟩ => ?_
  have dat : ∀ {vs : List V} {ds : List D}, RpA X.K S H vs ds → setAll is (ds.map O.d) env P → gNames is vs σ H Q := by
    intro vs ds ra hs
    have hl : vs.length = (ds.map O.d).length := by rw [ra.length, List.length_map]
    refine setAll_ok (T := T) (S := S) (B := B) (K := X.K) hl ?_ hs fun env' σ' hp r2 el hln => q env' S σ' hp r2 el hln
    refine r.pop.tmp (fun t ht => ?_) fun b => ?_
    · rcases List.mem_append.mp ht with ht | ht
      · have go : ∀ {vs : List V} {ds : List D}, RpA X.K S H vs ds → ∀ t ∈ vs.zip ((ds.map O.d).map W.o), TmpR X.K S H t := by
          intro vs ds ra
          induction ds generalizing vs with
          | nil => cases ra; intro t ht; exact absurd ht (by simp)
          | cons d ds ih =>
            cases ra with
            | cons x y =>
              intro t ht
              rcases List.mem_cons.mp ht with e | ht
              · subst e; exact OwnR.d x
              · exact ih y t ht
        exact go ra t ht
      · exact r.tmps t (List.mem_cons_of_mem _ ht)
    · rw [cntT_append, cntT_zip b hl, O.cntL_map]; omega
  cases w with
  | o x =>
    cases x with
    | d x =>
      cases x with
      | tuple ds =>
        have hb' : setAll is (ds.map O.d) env P := hb
        have rx := r.dataTop
        cases rx with
        | tup f ra => exact .inl ⟨_, _, rfl, f, by rw [ra.length, ← hn, setAll_len hb', List.length_map], dat ra hb'⟩
      | list ds =>
        have hb' : setAll is (ds.map O.d) env P := hb
        have rx := r.dataTop
        cases rx with
        | lst f ra => exact .inr ⟨_, _, rfl, f.sq, by rw [ra.length, ← hn, setAll_len hb', List.length_map], dat ra hb'⟩
      | _ => exact (hb : False).elim
    | tup os =>
      obtain ⟨_, hb'⟩ : os.all notTup = true ∧ setAll is os env P := hb
      have rx : OwnR X.K S H v (.tup os) := r.tmps (v, .o (.tup os)) List.mem_cons_self
      cases rx with
      | tup f ra =>
        have hl := ra.length
        refine .inl ⟨_, _, rfl, f, by rw [hl, ← hn, setAll_len hb'], ?_⟩
        refine setAll_ok (T := T) (S := S) (B := B) (K := X.K) hl ?_ hb' fun env' σ' hp r2 el hln => q env' S σ' hp r2 el hln
        refine r.tmp (fun t ht => ?_) fun b => ?_
        · rcases List.mem_append.mp ht with ht | ht
          · have go : ∀ {vs : List V} {os : List O}, OwnA X.K S H vs os → ∀ t ∈ vs.zip (os.map W.o), TmpR X.K S H t := by
              intro vs os ra
              induction os generalizing vs with
              | nil => cases ra; intro t ht; exact absurd ht (by simp)
              | cons d ds ih =>
                cases ra with
                | cons x y =>
                  intro t ht
                  rcases List.mem_cons.mp ht with e | ht
                  · subst e; exact x
                  · exact ih y t ht
            exact go ra t ht
          · exact r.tmps t (List.mem_cons_of_mem _ ht)
        · rw [cntT_append, cntT_zip b hl]
          show _ ≤ O.cntL b os + cntT b T
          omega
    | lst p xs => exact (hb : False).elim
  | al p i q =>
    have tv : v = .ref p := r.tmps (v, .al p i q) List.mem_cons_self
    subst tv
    have hb' : itemsO (.al p i q) env fun os => setAll is os env P := hb
    unfold itemsO at hb'
    cases e : envAt env i q with
    | none => simp only [e] at hb'
    | some z =>
      simp only [e] at hb'
      cases z with
      | d _ => exact hb'.elim
      | tup _ => exact hb'.elim
      | lst p' xs =>
        obtain ⟨rfl, h3⟩ := hb'
        obtain ⟨ds, hd, h3⟩ := onSome_some h3
        obtain ⟨vs, hv, ow⟩ := r.seenAt e
        rw [datas_eq hd] at ow
        have ra := ow.data
        exact .inr ⟨_, _, rfl, .inl (.inl hv), by rw [ra.length, ← hn, setAll_len h3, List.length_map], dat ra h3⟩

/-! ### what is gone through -/
abbrev WI := (Exn → Env → Prop) → Env → (Src → Env → Prop) → Prop
/-- J goes through the items of s, while the things Z are held -/
structure Goes (X : Cx) (B : Bs) (J : L2.It) (s : Src) (Z : List (V × W)) : Prop where
  go : ∀ S H σ env T i, R X.K B S H σ env (Z ++ T) → s.still env → i < s.xs.length → J.go i H
  yl : ∀ S H σ env T i x H' d, R X.K B S H σ env (Z ++ T) → s.still env → J.yld i H x H' → s.xs[i]? = some d → R X.K B S H' σ env ((x, .o (.d d)) :: (Z ++ T))
  st : ∀ S H σ env T i, R X.K B S H σ env (Z ++ T) → s.still env → s.xs.length ≤ i → J.stop i H
def tI (X : Cx) (B : Bs) (Wx : WX) (w : WI) : TI := fun σ H Rk => ∃ S env T P PX, R X.K B S H σ env T ∧ w PX env P ∧
  (∀ s env' S' H' J Z, P s env' → R X.K B S' H' σ env' (Z ++ T) → Goes X B J s Z → s.still env' → Rk J H') ∧ Lets X B Wx PX
theorem PI_imp {tg e : Expr} {t t' : TI} (h : PI X tg e t) (f : ∀ σ H Q, t' σ H Q → t σ H Q) : PI X tg e t' := ⟨fun pins s σ H Q I q => h.run pins s σ H Q I (f σ H Q q)⟩
theorem Goes.list {v : V} {ds : List D} {p : Addr} (hv : v = .ref p) : Goes X B (Itl X.K p) ⟨ds, none⟩ [(v, .o (.d (.list ds)))] := by
  subst hv
  have key : ∀ {S H σ env T}, R X.K B S H σ env ([(V.ref p, W.o (.d (.list ds)))] ++ T) → ∃ vs, SqL X.K H p vs ∧ RpA X.K S H vs ds := by
    intro S H σ env T r
    have rx : Rp X.K S H (.ref p) (.list ds) := R.dataTop r
    cases rx with
    | lst f ra => exact ⟨_, f.sq, ra⟩
  refine ⟨fun S H σ env T i r _ hi => ?_, fun S H σ env T i x H' d r _ y hd => ?_, fun S H σ env T i r _ hi => ?_⟩
  · obtain ⟨vs, hq, ra⟩ := key r
    obtain ⟨v, hv, _⟩ := ra.getD (List.getElem?_eq_getElem hi)
    exact ⟨vs, v, hq, hv⟩
  · obtain ⟨vs, hq, ra⟩ := key r
    obtain ⟨rfl, y⟩ := y
    obtain ⟨v, hv, rv⟩ := ra.getD hd
    have e := y vs hq
    rw [hv] at e; cases e
    exact r.push rv
  · obtain ⟨vs, hq, ra⟩ := key r
    exact ⟨vs, hq, by rw [ra.length]; exact hi⟩
theorem Goes.tup {v : V} {ds : List D} {p : Addr} (hv : v = .ref p) : Goes X B (Itt X.K p) ⟨ds, none⟩ [(v, .o (.d (.tuple ds)))] := by
  subst hv
  have key : ∀ {S H σ env T}, R X.K B S H σ env ([(V.ref p, W.o (.d (.tuple ds)))] ++ T) → ∃ vs, SqT X.K H p vs ∧ RpA X.K S H vs ds := by
    intro S H σ env T r
    have rx : Rp X.K S H (.ref p) (.tuple ds) := R.dataTop r
    cases rx with
    | tup f ra => exact ⟨_, f, ra⟩
  refine ⟨fun S H σ env T i r _ hi => ?_, fun S H σ env T i x H' d r _ y hd => ?_, fun S H σ env T i r _ hi => ?_⟩
  · obtain ⟨vs, hq, ra⟩ := key r
    obtain ⟨v, hv, _⟩ := ra.getD (List.getElem?_eq_getElem hi)
    exact ⟨vs, v, hq, hv⟩
  · obtain ⟨vs, hq, ra⟩ := key r
    obtain ⟨rfl, y⟩ := y
    obtain ⟨v, hv, rv⟩ := ra.getD hd
    have e := y vs hq
    rw [hv] at e; cases e
    exact r.push rv
  · obtain ⟨vs, hq, ra⟩ := key r
    exact ⟨vs, hq, by rw [ra.length]; exact hi⟩
/-- an owned list, as it stands -/
theorem Goes.seen {v : V} {ds : List D} {p : Addr} {i : Nat} {q : List Stp} : Goes X B (Itl X.K p) ⟨ds, some (p, i, q)⟩ [] := by
  have key : ∀ {S H σ env T}, R X.K B S H σ env ([] ++ T) → envAt env i q = some (.lst p (ds.map O.d)) → ∃ vs, SqL X.K H p vs ∧ RpA X.K S H vs ds := by
    intro S H σ env T r h
    obtain ⟨vs, hv, ow⟩ := R.seenAt r h
    exact ⟨vs, .inl (.inl hv), ow.data⟩
  refine ⟨fun S H σ env T i r h hi => ?_, fun S H σ env T i x H' d r h y hd => ?_, fun S H σ env T i r h hi => ?_⟩
  · obtain ⟨vs, hq, ra⟩ := key r h
    obtain ⟨v, hv, _⟩ := ra.getD (List.getElem?_eq_getElem hi)
    exact ⟨vs, v, hq, hv⟩
  · obtain ⟨vs, hq, ra⟩ := key r h
    obtain ⟨rfl, y⟩ := y
    obtain ⟨v, hv, rv⟩ := ra.getD hd
    have e := y vs hq
    rw [hv] at e; cases e
    exact r.push rv
  · obtain ⟨vs, hq, ra⟩ := key r h
    exact ⟨vs, hq, by rw [ra.length]; exact hi⟩
theorem i_seq {tg : Expr} (h : PE X a (tE X B Wx wa)) : PI X tg a (tI X B Wx fun PX env P => wa PX env fun w env1 => srcW w env1 fun s => P s env1) := by
  refine PI_imp (pi_seq h) fun σ H Rk ⟨S, env, T, P, PX, r, hw, hP, hX⟩ => ?_
  refine ⟨S, env, T, _, PX, r, hw, fun x env1 vx S1 H1 hq r1 => ?_, hX⟩
  cases x with
  | o x =>
    obtain ⟨ds, hd, hq⟩ := onSome_some hq
    have r2 := r1.froze
    have rx := r2.dataTop
    cases hx : x.toD with
    | list es =>
      rw [hx] at hd rx r2
      cases hd
      cases rx with
      | lst f ra => exact .inl ⟨_, rfl, ⟨_, f.sq⟩, hP _ _ _ _ _ [(V.ref _, W.o (.d (.list _)))] hq r2 (Goes.list rfl) trivial⟩
    | tuple es =>
      rw [hx] at hd rx r2
      cases hd
      cases rx with
      | tup f ra => exact .inr ⟨_, rfl, ⟨_, f⟩, hP _ _ _ _ _ [(V.ref _, W.o (.d (.tuple _)))] hq r2 (Goes.tup rfl) trivial⟩
    | none => rw [hx] at hd; cases hd
    | bool _ => rw [hx] at hd; cases hd
    | int _ => rw [hx] at hd; cases hd
    | str _ => rw [hx] at hd; cases hd
    | dict _ => rw [hx] at hd; cases hd
  | al p i q =>
    have tv : vx = .ref p := r1.tmps (vx, .al p i q) List.mem_cons_self
    subst tv
    unfold srcW at hq
    cases e : envAt env1 i q with
    | none => simp only [e] at hq
    | some z =>
      simp only [e] at hq
      cases z with
      | d _ => exact hq.elim
      | tup _ => exact hq.elim
      | lst p' xs =>
        obtain ⟨rfl, hq⟩ := hq
        obtain ⟨ds, hd, hq⟩ := onSome_some hq
        obtain ⟨vs, hv, ow⟩ := r1.seenAt e
        rw [datas_eq hd] at e
        exact .inl ⟨_, rfl, ⟨vs, .inl (.inl hv)⟩, hP _ _ _ _ _ [] hq r1.pop (Goes.seen (v := .non)) e⟩
theorem upTo_get {lo : Int} {n i : Nat} {d : D} (h : (upTo lo n)[i]? = some d) : d = .int (lo + i) := by
  unfold upTo at h
  rw [List.getElem?_map] at h
  cases e : (List.range n)[i]? with
  | none => rw [e] at h; cases h
  | some j =>
    rw [e] at h
    have : j = i := by
      obtain ⟨_, h2⟩ := List.getElem?_eq_some_iff.mp e
      simpa using h2.symm
    subst this
    exact (Option.some.inj h).symm
theorem upTo_length {lo : Int} {n : Nat} : (upTo lo n).length = n := by unfold upTo; simp
theorem Goes.range {lo : Int} {n : Nat} : Goes X B (L2.Itr lo n) ⟨upTo lo n, none⟩ [] := by
  refine ⟨fun S H σ env T i r _ hi => ?_, fun S H σ env T i x H' d r _ y hd => ?_, fun S H σ env T i r _ hi => ?_⟩
  · have hi' : i < (upTo lo n).length := hi
    rw [upTo_length] at hi'; exact hi'
  · obtain ⟨rfl, rfl⟩ := y
    rw [upTo_get hd]
    exact r.push (.int _)
  · have hi' : (upTo lo n).length ≤ i := hi
    rw [upTo_length] at hi'; exact hi'
theorem i_r1 {tg : Expr} {p : Pos} (hg : Gl X "range") (hm : X.mg "range" = none) (h : PE X a (tE X B Wx wa)) (hs : starEach [a] X.env = [(false, eval a X.env)]) : PI X tg (.Call (.Name "range" p) [a] [] pos)
    (tI X B Wx fun PX env P => wa PX env fun w env1 => match w with
      | .o (.d (.int i)) => inRange i ∧ P ⟨upTo 0 i.toNat, none⟩ env1
      | _ => False) := by
  refine PI_imp (pi_range1 hg hm (pa_cons h pa_nil hs) hs) fun σ H Rk ⟨S, env, T, P, PX, r, hw, hP, hX⟩ => ?_
  refine ⟨S, env, T, _, PX, r, hw, fun x env1 vx S1 H1 hq r1 => ?_, hX⟩
  split at hq
  · have ev := r1.intTop
    subst ev
    exact ⟨_, rfl, hq.1.1, hq.1.2, hP _ _ _ _ _ [] hq.2 r1.pop Goes.range trivial⟩
  · exact hq.elim
theorem i_r2 {tg : Expr} {p : Pos} (hg : Gl X "range") (hm : X.mg "range" = none) (ha : PE X a (tE X B Wx wa)) (hb : PE X b (tE X B Wx wb)) (hs : starEach [a, b] X.env = [(false, eval a X.env), (false, eval b X.env)]) (hs2 : starEach [b] X.env = [(false, eval b X.env)]) : PI X tg (.Call (.Name "range" p) [a, b] [] pos)
    (tI X B Wx fun PX env P => wa PX env fun w env1 => wb PX env1 fun u env2 => match w, u with
      | .o (.d (.int i)), .o (.d (.int j)) => inRange i ∧ inRange j ∧ P ⟨upTo i (j - i).toNat, none⟩ env2
      | _, _ => False) := by
  refine PI_imp (pi_range2 hg hm (pa_cons ha (pa_cons hb pa_nil hs2) (by rw [hs, hs2])) hs hs2) fun σ H Rk ⟨S, env, T, P, PX, r, hw, hP, hX⟩ => ?_
  refine ⟨S, env, T, _, PX, r, hw, fun x env1 vx S1 H1 hq r1 => ?_, hX⟩
  refine ⟨S1, env1, (vx, x) :: T, _, PX, r1, hq, fun y env2 vy S2 H2 hk r2 => ?_, hX⟩
  split at hk
  · have e1 := r2.intTop
    have e2 := r2.pop.intTop
    subst e1 e2
    exact ⟨_, _, rfl, ⟨hk.1.1, hk.1.2, hk.2.1.1, hk.2.1.2⟩, hP _ _ _ _ _ [] hk.2.2 r2.pop.pop Goes.range trivial⟩
  · exact hk.elim
theorem numbered_get {xs : List D} {i : Nat} {d : D} (h : (numbered xs)[i]? = some d) : ∃ y, xs[i]? = some y ∧ d = .tuple [.int i, y] := by
  unfold numbered at h
  rw [List.getElem?_map, List.getElem?_zipIdx] at h
  cases e : xs[i]? with
  | none => rw [e] at h; cases h
  | some y =>
    rw [e] at h
    refine ⟨y, rfl, (Option.some.inj h).symm.trans ?_⟩
    simp
theorem numbered_length {xs : List D} : (numbered xs).length = xs.length := by unfold numbered; simp
theorem i_enum {p tpos : Pos} {elts : List Expr} {kk : Nat} (hg : Gl X "enumerate") (hm : X.mg "enumerate" = none) (h : PE X a (tE X B Wx wa)) (hs : starEach [a] X.env = [(false, eval a X.env)]) : PI X (.Tuple elts kk tpos) (.Call (.Name "enumerate" p) [a] [] pos)
    (tI X B Wx fun PX env P => wa PX env fun w env1 => match w with
      | .o y => onSome (seqOf y.toD) fun ds => P ⟨numbered ds, none⟩ env1
      | _ => False) := by
  refine PI_imp (pi_enumV hg hm (pa_cons h pa_nil hs) hs) fun σ H Rk ⟨S, env, T, P, PX, r, hw, hP, hX⟩ => ?_
  refine ⟨S, env, T, _, PX, r, hw, fun x env1 vx S1 H1 hq r1 => ?_, hX⟩
  cases x with
  | al _ _ _ => exact hq.elim
  | o x =>
    obtain ⟨ds, hd, hq⟩ := onSome_some hq
    have r2 := r1.froze
    have rx := r2.dataTop
    cases hx : x.toD with
    | list es =>
      rw [hx] at hd rx r2
      cases hd
      cases rx with
      | lst f ra =>
        rename_i p' vs
        refine ⟨p', vs, rfl, .inl ⟨f.sq, hP _ _ _ _ _ [(V.ref p', W.o (.d (.list _)))] hq r2 ?_ trivial⟩⟩
        have key : ∀ {S H σ env T}, R X.K B S H σ env ([(V.ref p', W.o (.d (.list ds)))] ++ T) → ∃ vs, SqL X.K H p' vs ∧ RpA X.K S H vs ds := by
          intro S H σ env T r
          have rx : Rp X.K S H (.ref p') (.list ds) := R.dataTop r
          cases rx with
          | lst f ra => exact ⟨_, f.sq, ra⟩
        refine ⟨fun S H σ env T i r _ hi => ?_, fun S H σ env T i x H' d r _ y hd => ?_, fun S H σ env T i r _ hi => ?_⟩
        · obtain ⟨vs, hq, ra⟩ := key r
          have hi' : i < (numbered ds).length := hi
          rw [numbered_length] at hi'
          obtain ⟨v, hv, _⟩ := ra.getD (List.getElem?_eq_getElem hi')
          exact ⟨vs, v, hq, hv⟩
        · obtain ⟨vs, hq, ra⟩ := key r
          obtain ⟨T', x', rfl, hT, rfl, y⟩ := y
          obtain ⟨z, hz, rfl⟩ := numbered_get hd
          obtain ⟨v, hv, rv⟩ := ra.getD hz
          have e := y vs hq
          rw [hv] at e; cases e
          exact newTup r hT (.cons (.int _) (.cons rv .nil))
        · obtain ⟨vs, hq, ra⟩ := key r
          have hi' : (numbered ds).length ≤ i := hi
          rw [numbered_length] at hi'
          exact ⟨vs, hq, by rw [ra.length]; exact hi'⟩
    | tuple es =>
      rw [hx] at hd rx r2
      cases hd
      cases rx with
      | tup f ra =>
        rename_i p' vs
        refine ⟨p', vs, rfl, .inr ⟨f, hP _ _ _ _ _ [(V.ref p', W.o (.d (.tuple _)))] hq r2 ?_ trivial⟩⟩
        have key : ∀ {S H σ env T}, R X.K B S H σ env ([(V.ref p', W.o (.d (.tuple ds)))] ++ T) → ∃ vs, SqT X.K H p' vs ∧ RpA X.K S H vs ds := by
          intro S H σ env T r
          have rx : Rp X.K S H (.ref p') (.tuple ds) := R.dataTop r
          cases rx with
          | tup f ra => exact ⟨_, f, ra⟩
        refine ⟨fun S H σ env T i r _ hi => ?_, fun S H σ env T i x H' d r _ y hd => ?_, fun S H σ env T i r _ hi => ?_⟩
        · obtain ⟨vs, hq, ra⟩ := key r
          have hi' : i < (numbered ds).length := hi
          rw [numbered_length] at hi'
          obtain ⟨v, hv, _⟩ := ra.getD (List.getElem?_eq_getElem hi')
          exact ⟨vs, v, hq, hv⟩
        · obtain ⟨vs, hq, ra⟩ := key r
          obtain ⟨T', x', rfl, hT, rfl, y⟩ := y
          obtain ⟨z, hz, rfl⟩ := numbered_get hd
          obtain ⟨v, hv, rv⟩ := ra.getD hz
          have e := y vs hq
          rw [hv] at e; cases e
          exact newTup r hT (.cons (.int _) (.cons rv .nil))
        · obtain ⟨vs, hq, ra⟩ := key r
          have hi' : (numbered ds).length ≤ i := hi
          rw [numbered_length] at hi'
          exact ⟨vs, hq, by rw [ra.length]; exact hi'⟩
    | none => rw [hx] at hd; cases hd
    | bool _ => rw [hx] at hd; cases hd
    | int _ => rw [hx] at hd; cases hd
    | str _ => rw [hx] at hd; cases hd
    | dict _ => rw [hx] at hd; cases hd
end
end Vx
namespace Vx
open PySem PySem.Spec L2

/-! ### slots made void, and put back -/
theorem wipe_at {σ : L2.St} : ∀ {vs : List Nat} {j : Nat}, j ∉ vs → (wipe σ vs)[j]? = σ[j]?
  | [], j, _ => rfl
  | v :: vs, j, h => by
    unfold wipe
    rw [List.getElem?_set_ne fun e => h (by rw [e]; exact List.mem_cons_self)]
    exact wipe_at fun q => h (List.mem_cons_of_mem _ q)
theorem wipe_in {σ : L2.St} : ∀ {vs : List Nat} {j : Nat}, j ∈ vs → j < σ.length → (wipe σ vs)[j]? = some none
  | [], j, h, _ => nomatch h
  | v :: vs, j, h, hl => by
    unfold wipe
    by_cases e : v = j
    · subst e
      exact List.getElem?_set_self (by rw [wipe_length]; exact hl)
    · rw [List.getElem?_set_ne e]
      rcases List.mem_cons.mp h with q | q
      · exact absurd q.symm e
      · exact wipe_in q hl
theorem wipe_else {σ σ2 : L2.St} {vs : List Nat} (e : Else vs σ σ2) : wipe σ2 vs = wipe σ vs := by
  refine List.ext_getElem? fun j => ?_
  by_cases h : j ∈ vs
  · by_cases hl : j < σ.length
    · rw [wipe_in h hl, wipe_in h (by rw [e.len]; exact hl)]
    · rw [List.getElem?_eq_none (by rw [wipe_length, e.len]; omega), List.getElem?_eq_none (by rw [wipe_length]; omega)]
  · rw [wipe_at h, wipe_at h, e.at_ j h]
theorem wipe_twice {σ : L2.St} {vs : List Nat} : wipe (wipe σ vs) vs = wipe σ vs := wipe_else ⟨wipe_length _ _, fun j h => wipe_at h⟩
theorem void_length {env : Env} : ∀ {is : List Nat}, (void is env).length = env.length
  | [] => rfl
  | i :: is => by unfold void; rw [List.length_set]; exact void_length
theorem restore_length {old env : Env} : ∀ {is : List Nat}, (restore old is env).length = env.length
  | [] => rfl
  | i :: is => by unfold restore; rw [List.length_set]; exact restore_length
section
variable {K : PySem.W.Frag} {B : Bs} {S : Fz} {H : Hp} {σ : L2.St} {env : Env} {T : List (V × W)}
theorem R.voided (r : R K B S H σ env T) : ∀ is : List Nat, R K B S H (wipe σ is) (void is env) T
  | [] => r
  | i :: is => (R.voided r is).forget
/-- data goes into a slot, whatever stood there -/
theorem R.storeD {v : V} {x : D} {i : Nat} (r : R K B S H σ env T) (h : Rp K S H v x) (hi : i < env.length) : R K B S H (σ.set i (some v)) (env.set i (some (.d x))) T := (r.push h).store hi
/-- the slots of own hold data or nothing; behind, what they held is put back -/
theorem R.restored {S' : Fz} {H' : Hp} {env' old : Env} {U T' : List (V × W)} (hl : old.length = σ.length) (he : env'.length = old.length) :
    ∀ {own : List Nat}, (∀ i ∈ own, plainAt old i) → (∀ i ∈ own, ∀ x, old[i]? = some (some (.d x)) → ∃ v, σ[i]? = some (some v) ∧ (v, W.o (.d x)) ∈ U) → own.Nodup →
      R K B S' H' (wipe σ own) env' (U ++ T') → R K B S' H' σ (restore old own env') (U ++ T')
  | [], _, _, _, r => r
  | i :: is, hp, hu, hn, r => by
    have hi : i ∉ is := (List.nodup_cons.mp hn).1
    have hil : i < old.length := by
      have h := hp i List.mem_cons_self
      unfold plainAt at h
      cases e : old[i]? with
      | none => simp only [e] at h
      | some _ => exact (List.getElem?_eq_some_iff.mp e).1
    have hσ : i < σ.length := by rw [← hl]; exact hil
    -- the slot i as it was, with nothing known of it: then the rest, then i itself
    have go : R K B S' H' σ (restore old is (env'.set i none)) (U ++ T') → R K B S' H' σ (restore old (i :: is) env') (U ++ T') := by
      intro r2
      have comm : ∀ (js : List Nat) (y : Option O), i ∉ js → (restore old js (env'.set i none)).set i y = (restore old js env').set i y := by
        intro js
        induction js with
        | nil => intro y _; show (env'.set i none).set i y = _; rw [List.set_set]; rfl
        | cons j js ih =>
          intro y hj
          have ne : j ≠ i := fun e => hj (by rw [e]; exact List.mem_cons_self)
          unfold restore
          rw [List.set_comm _ _ ne, ih y fun q => hj (List.mem_cons_of_mem _ q), List.set_comm _ _ ne]
      have hp' := hp i List.mem_cons_self
      unfold plainAt at hp'
      unfold restore
      cases e : old[i]? with
      | none => simp only [e] at hp'
      | some o =>
        simp only [e] at hp' ⊢
        cases o with
        | none =>
          rw [← comm is none hi]
          have hgi : (restore old is (env'.set i none))[i]? = some none := by
            have at_ : ∀ (js : List Nat), i ∉ js → ∀ {e0 : Env}, (restore old js e0)[i]? = e0[i]? := by
              intro js
              induction js with
              | nil => intro _ e0; rfl
              | cons j js ih =>
                intro hj e0
                unfold restore
                rw [List.getElem?_set_ne fun e => hj (by rw [e]; exact List.mem_cons_self)]
                exact ih fun q => hj (List.mem_cons_of_mem _ q)
            rw [at_ is hi]
            exact List.getElem?_set_self (by rw [he]; exact hil)
          rw [set_same hgi]
          exact r2
        | some o =>
          cases o with
          | tup _ => exact hp'.elim
          | lst _ _ => exact hp'.elim
          | d x =>
            obtain ⟨v, hv, hm⟩ := hu i List.mem_cons_self x e
            have rx : Rp K S' H' v x := by
              have q : OwnR K S' H' v (.d x) := r2.tmps (v, .o (.d x)) (List.mem_append_left _ hm)
              cases q with
              | d q => exact q
            rw [← comm is (some (.d x)) hi]
            have r3 := r2.storeD (i := i) rx (by rw [restore_length, List.length_set, he]; exact hil)
            rw [set_same hv] at r3
            exact r3
    refine go (R.restored hl (by rw [List.length_set]; exact he) (fun j hj => hp j (List.mem_cons_of_mem _ hj)) (fun j hj => hu j (List.mem_cons_of_mem _ hj)) (List.nodup_cons.mp hn).2 ?_)
    -- wipe σ (i :: is) with none at i: the same as wipe σ is but for i, whose slot is void
    have r1 : R K B S' H' ((wipe σ is).set i none) env' (U ++ T') := r
    have r2 := r1.forget (i := i)
    rw [List.set_set] at r2
    refine ⟨?_, fun j o ej => ?_, r2.tmps, r2.one, r2.apart, r2.sH, r2.keep, r2.dom, r2.new, r2.newS, r2.sub⟩
    · rw [List.length_set, he, hl, wipe_length]
    · by_cases hj : j = i
      · subst hj
        rw [List.getElem?_set_self (by rw [he]; exact hil)] at ej
        cases ej
      · obtain ⟨v, hv, q⟩ := r2.slots j o ej
        refine ⟨v, ?_, q⟩
        rw [List.getElem?_set_ne (Ne.symm hj)] at hv
        exact hv
/-- what the slots of own hold, held -/
theorem R.hold (r : R K B S H σ env T) : ∀ own : List Nat, (∀ i ∈ own, plainAt env i) → ∃ U, (∀ i ∈ own, ∀ x, env[i]? = some (some (.d x)) → ∃ v, σ[i]? = some (some v) ∧ (v, W.o (.d x)) ∈ U) ∧ R K B S H σ env (U ++ T)
  | [], _ => ⟨[], (fun _ h => nomatch h), r⟩
  | i :: is, hp => by
    obtain ⟨U, h1, r1⟩ := R.hold r is fun j hj => hp j (List.mem_cons_of_mem _ hj)
    cases e : env[i]? with
    | none =>
      refine ⟨U, fun j hj x ex => ?_, r1⟩
      rcases List.mem_cons.mp hj with rfl | hj
      · rw [e] at ex; cases ex
      · exact h1 j hj x ex
    | some o =>
      have hp' := hp i List.mem_cons_self
      unfold plainAt at hp'
      simp only [e] at hp'
      cases o with
      | none =>
        refine ⟨U, fun j hj x ex => ?_, r1⟩
        rcases List.mem_cons.mp hj with rfl | hj
        · rw [e] at ex; cases ex
        · exact h1 j hj x ex
      | some o =>
        cases o with
        | tup _ => exact hp'.elim
        | lst _ _ => exact hp'.elim
        | d x =>
          obtain ⟨v, hv, q⟩ := r1.slots i _ e
          cases q with
          | d q =>
            refine ⟨(v, .o (.d x)) :: U, fun j hj y ey => ?_, r1.push q⟩
            rcases List.mem_cons.mp hj with rfl | hj
            · rw [e] at ey; cases ey
              exact ⟨v, hv, List.mem_cons_self⟩
            · obtain ⟨w, a, b⟩ := h1 j hj y ey
              exact ⟨w, a, List.mem_cons_of_mem _ b⟩
/-- the topmost thing is laid into the new list beneath it -/
theorem R.appendTmp {p : Addr} {acc : List O} {v : V} {o : O} (r : R K B S H σ env ((v, .o o) :: (.ref p, .o (.lst p acc)) :: T)) :
    ∃ vs, H p = some (.lst vs) ∧ vs.length = acc.length ∧ R K B S (upd H p (.lst (vs ++ [v]))) σ env ((.ref p, .o (.lst p (acc ++ [o]))) :: T) := by
  have q : OwnR K S H (.ref p) (.lst p acc) := r.tmps (.ref p, .o (.lst p acc)) (List.mem_cons_of_mem _ List.mem_cons_self)
  have qo : OwnR K S H v o := r.tmps (v, .o o) List.mem_cons_self
  have hone : ∀ b, cntE b env + (o.cnt b + (((if p = b then 1 else 0) + O.cntL b acc) + cntT b T)) ≤ 1 := r.one
  have hp1 := hone p
  rw [if_pos rfl] at hp1
  cases q with
  | lst e ow =>
    rename_i vs
    have nS : ¬ S p := fun h => by
      have h1 : cntE p env + (o.cnt p + (((if p = p then 1 else 0) + O.cntL p acc) + cntT p T)) = 0 := r.apart p h
      rw [if_pos rfl] at h1
      omega
    have k : Kp S S H (upd H p (.lst (vs ++ [v]))) := Kp.put e nS
    have other : ∀ b, p ≠ b → upd H p (.lst (vs ++ [v])) b = H b := fun b h => upd_ne (Ne.symm h)
    refine ⟨vs, e, ow.length, r.len, fun i x ex => ?_, fun t ht => ?_, fun b => ?_, fun b hb => ?_, fun b hb => ?_, fun b u h1 h2 => ?_, fun b hb => ?_, fun b hb => ?_, r.newS, r.sub⟩
    · obtain ⟨w, h1, h2⟩ := r.slots i x ex
      refine ⟨w, h1, h2.kp k fun b hb => other b fun z => ?_⟩
      subst z
      have : x.cnt p ≤ cntE p env := cntE_get ex
      omega
    · rcases List.mem_cons.mp ht with e1 | ht
      · subst e1
        refine OwnR.lst upd_same ((ow.kp k fun b hb => other b fun z => ?_).append (.cons (qo.kp k fun b hb => other b fun z => ?_) .nil))
        · subst z; omega
        · subst z; omega
      · refine (r.tmps t (List.mem_cons_of_mem _ (List.mem_cons_of_mem _ ht))).kp k fun b hb => other b fun z => ?_
        subst z
        have := cntT_mem (b := p) ht
        omega
    · have := hone b
      show cntE b env + (((if p = b then 1 else 0) + O.cntL b (acc ++ [o])) + cntT b T) ≤ 1
      rw [O.cntL_append]
      show cntE b env + (((if p = b then 1 else 0) + (O.cntL b acc + (o.cnt b + 0))) + cntT b T) ≤ 1
      omega
    · have h1 : cntE b env + (o.cnt b + (((if p = b then 1 else 0) + O.cntL b acc) + cntT b T)) = 0 := r.apart b hb
      show cntE b env + (((if p = b then 1 else 0) + O.cntL b (acc ++ [o])) + cntT b T) = 0
      rw [O.cntL_append]
      show cntE b env + (((if p = b then 1 else 0) + (O.cntL b acc + (o.cnt b + 0))) + cntT b T) = 0
      omega
    · rw [k.h b hb]; exact r.sH b hb
    · have h3 := r.keep b u h1 h2
      by_cases z : p = b
      · subst z
        rcases r.new p (by show 0 < cntE p env + (o.cnt p + (((if p = p then 1 else 0) + O.cntL p acc) + cntT p T)); rw [if_pos rfl]; omega) with y | y
        · exact absurd y h2
        · rw [y] at h1; cases h1
      · rw [other b z]; exact h3
    · by_cases z : p = b
      · subst z; rw [upd_same] at hb; cases hb
      · rw [other b z] at hb; exact r.dom b hb
    · refine r.new b ?_
      have hb' : 0 < cntE b env + (((if p = b then 1 else 0) + O.cntL b (acc ++ [o])) + cntT b T) := hb
      rw [O.cntL_append] at hb'
      have hb2 : 0 < cntE b env + (((if p = b then 1 else 0) + (O.cntL b acc + (o.cnt b + 0))) + cntT b T) := hb'
      show 0 < cntE b env + (o.cnt b + (((if p = b then 1 else 0) + O.cntL b acc) + cntT b T))
      omega
end

/-! ### comprehensions -/
section
variable {X : Cx} {B : Bs} {Wx : WX} {a b c : Expr} {wa wb wc : WT} {pos : Pos}
abbrev W0 : WX := fun _ _ _ _ => False
abbrev WC := Env → (Bool → Env → Prop) → Prop
/-- the tests of a comprehension -/
def SndC (X : Cx) (B : Bs) (ifs : List Expr) (w : WC) : Prop := PTs X ifs fun σ H Q => ∃ S env T P, R X.K B S H σ env T ∧ w env P ∧ ∀ b env' S' H', P b env' → R X.K B S' H' σ env' T → Q b H'
theorem sc_nil : SndC X B [] fun env P => P true env := by
  have h : PTs X [] tYes := pts_nil
  exact ⟨fun pins s σ H Q I ⟨S, env, T, P, r, hw, hP⟩ => h.run pins s σ H Q I (hP _ _ _ _ hw r)⟩
theorem sc_one (h : Snd X B W0 c wc) : SndC X B [c] fun env P => wc (fun _ _ => False) env fun w env1 => tst w fun t => P t env1 := by
  have h2 : PTs X [c] (tT X B W0 (toB wc)) := pts_one h.pt
  exact ⟨fun pins s σ H Q I ⟨S, env, T, P, r, hw, hP⟩ => h2.run pins s σ H Q I ⟨S, env, T, P, _, r, hw, hP, lets_false fun _ _ h => h⟩⟩
/-- what a comprehension's turn does -/
def stepC (t : Tg) (own : List Nat) (wcnd : WC) (we : WT) : D → Env → List O → (Env → List O → Prop) → Prop := fun x env acc K =>
  bindT t (.o (.d x)) (void own env) fun env2 => wcnd env2 fun b env3 =>
    if b = true then we (fun _ _ => False) env3 fun w env4 => inW w env4 fun o env5 => acc.length < sizeLine ∧ K (void own env5) (acc ++ [o]) else K (void own env3) acc
theorem still_void {src : Src} {own : List Nat} {env : Env} (hp : ∀ i ∈ own, plainAt env i) (h : src.still env) : src.still (void own env) := by
  obtain ⟨xs, at?⟩ := src
  cases at? with
  | none => trivial
  | some q =>
    obtain ⟨a, i, p⟩ := q
    have h' : envAt env i p = some (.lst a (xs.map O.d)) := h
    have hi : i ∉ own := fun hm => by
      have h1 := hp i hm
      obtain ⟨o, e, ha⟩ := envAt_some h'
      unfold plainAt at h1
      simp only [e] at h1
      cases o with
      | d x =>
        cases p with
        | nil => cases ha
        | cons s p => cases s; cases ha
      | tup _ => exact h1.elim
      | lst _ _ => exact h1.elim
    have at_ : ∀ (js : List Nat), i ∉ js → (void js env)[i]? = env[i]? := by
      intro js
      induction js with
      | nil => intro _; rfl
      | cons j js ih =>
        intro hj
        unfold void
        rw [List.getElem?_set_ne fun e => hj (by rw [e]; exact List.mem_cons_self)]
        exact ih fun q => hj (List.mem_cons_of_mem _ q)
    show envAt (void own env) i p = _
    unfold envAt
    rw [at_ own hi]
    exact h'
def wComp (wi : WI) (own : List Nat) (t : Tg) (wcnd : WC) (we : WT) : WT := fun PX env P => wi PX env fun src env1 => (∀ i ∈ own, plainAt env1 i) ∧ ∀ a, goComp src (stepC t own wcnd we)
      src.xs (void own env1) [] fun env' acc => env'.length = env1.length → P (.o (.lst a acc)) (restore env1 own env')
abbrev tCnd (X : Cx) (B : Bs) (wcnd : WC) : TT := fun σ H Q => ∃ S env T P, R X.K B S H σ env T ∧ wcnd env P ∧ ∀ b env' S' H', P b env' → R X.K B S' H' σ env' T → Q b H'
theorem comp_reads {vs : List Nat} {t : Tg} {wi : WI} {wcnd : WC} {we : WT} (hown : vs.Nodup) (hsub : ∀ i ∈ t.slots, i ∈ vs) {σ : L2.St} {H : Hp} {Q : VK} (h : tE X B Wx (wComp wi vs t wcnd we) σ H Q) :
    tLc (tI X B Wx wi) (gT X B t) (tCnd X B wcnd) (tE X B W0 we) vs σ H Q := by
  obtain ⟨S, env, T, P, PX, r, hw, hP, hX⟩ := h
  refine ⟨S, env, T, _, PX, r, hw, fun src env1 S1 H1 J Z ⟨hpl, hgo⟩ r1 G still => ?_, hX⟩
  intro Da nD
  obtain ⟨U, hU, r2⟩ := R.hold r1 vs hpl
  have len1 : env1.length = σ.length := r1.len
  have r3 : R X.K B S1 (upd H1 Da (.lst [])) (wipe σ vs) (void vs env1) ((.ref Da, .o (.lst Da [])) :: (Z ++ (U ++ T))) := by
    have r4 := (R.newLst (P := []) (T := U ++ (Z ++ T)) r2 nD .nil (fun b => Nat.zero_le _)).voided vs
    refine r4.perm (fun t ht => ?_) fun b => ?_
    · rcases List.mem_cons.mp ht with e | ht
      · subst e; exact List.mem_cons_self
      · refine List.mem_cons_of_mem _ ?_
        rcases List.mem_append.mp ht with ht | ht
        · exact List.mem_append_right _ (List.mem_append_left _ ht)
        · rcases List.mem_append.mp ht with ht | ht
          · exact List.mem_append_left _ ht
          · exact List.mem_append_right _ (List.mem_append_right _ ht)
    · show _ + cntT b (Z ++ (U ++ T)) ≤ _ + cntT b (U ++ (Z ++ T))
      rw [cntT_append, cntT_append, cntT_append, cntT_append]; omega
  refine ⟨fun i m H => ∃ S env acc, R X.K B S H (wipe σ vs) env ((.ref Da, .o (.lst Da acc)) :: (Z ++ (U ++ T))) ∧ m = src.xs.length - i ∧ i ≤ src.xs.length ∧ src.still env ∧
      goComp src (stepC t vs wcnd we) (src.xs.drop i) env acc (fun env' acc => env'.length = env1.length → P (.o (.lst Da acc)) (restore env1 vs env')), ⟨src.xs.length, S1, _, [], r3, by simp, Nat.zero_le _, still_void hpl still, hgo Da⟩, ?_⟩
  rintro i m H2 ⟨S2, e2, acc, r4, rfl, hile, st2, hq⟩
  have r5 : R X.K B S2 H2 (wipe σ vs) e2 (Z ++ ((.ref Da, .o (.lst Da acc)) :: (U ++ T))) := r4.perm (fun t ht => by
    rcases List.mem_append.mp ht with ht | ht
    · exact List.mem_cons_of_mem _ (List.mem_append_left _ ht)
    · rcases List.mem_cons.mp ht with e | ht
      · subst e; exact List.mem_cons_self
      · exact List.mem_cons_of_mem _ (List.mem_append_right _ ht)) fun b => by
      rw [cntT_append]
      show _ ≤ _ + cntT b (Z ++ (U ++ T))
      rw [cntT_append]
      show cntT b Z + (_ + _) ≤ _
      omega
  by_cases hlt : i < src.xs.length
  · refine .inr ⟨G.go _ _ _ _ _ i r5 st2 hlt, fun H' => ∃ S env acc, R X.K B S H' (wipe σ vs) env ((.ref Da, .o (.lst Da acc)) :: (Z ++ (U ++ T))) ∧ src.still env ∧
      goComp src (stepC t vs wcnd we) (src.xs.drop (i + 1)) env acc (fun env' acc => env'.length = env1.length → P (.o (.lst Da acc)) (restore env1 vs env')), fun H' ⟨S', env', acc', a1, a2, a3⟩ => ⟨src.xs.length - (i + 1), by omega, S', env', acc', a1, rfl, hlt, a2, a3⟩, fun x H3 hy => ?_⟩
    have hd : src.xs[i]? = some src.xs[i] := List.getElem?_eq_getElem hlt
    rw [List.drop_eq_getElem_cons hlt] at hq
    have r6 := (G.yl _ _ _ _ _ i x H3 _ r5 st2 hy hd)
    have r7 : R X.K B S2 H3 (wipe σ vs) (void vs e2) ((x, .o (.d src.xs[i])) :: ((.ref Da, .o (.lst Da acc)) :: (Z ++ (U ++ T)))) := by
      have r8 := r6.voided vs
      rw [wipe_twice] at r8
      refine r8.perm (fun t ht => ?_) fun b => ?_
      · rcases List.mem_cons.mp ht with e | ht
        · subst e; exact List.mem_cons_self
        · refine List.mem_cons_of_mem _ ?_
          rcases List.mem_cons.mp ht with e | ht
          · subst e; exact List.mem_append_right _ List.mem_cons_self
          · rcases List.mem_append.mp ht with ht | ht
            · exact List.mem_append_left _ ht
            · exact List.mem_append_right _ (List.mem_cons_of_mem _ ht)
      · show _ + (_ + cntT b (Z ++ (U ++ T))) ≤ _ + cntT b (Z ++ (_ :: (U ++ T)))
        rw [cntT_append, cntT_append b Z (_ :: (U ++ T))]
        show _ ≤ _ + (_ + (_ + _))
        omega
    have hq1 : bindT t (.o (.d src.xs[i])) (void vs e2) fun e3 => wcnd e3 fun b e4 =>
        if b = true then we (fun _ _ => False) e4 fun w e5 => inW w e5 fun o e6 => acc.length < sizeLine ∧ (src.still (void vs e6) ∧ goComp src (stepC t vs wcnd we) (src.xs.drop (i + 1)) (void vs e6) (acc ++ [o]) fun env' acc => env'.length = env1.length → P (.o (.lst Da acc)) (restore env1 vs env'))
        else src.still (void vs e4) ∧ goComp src (stepC t vs wcnd we) (src.xs.drop (i + 1)) (void vs e4) acc fun env' acc => env'.length = env1.length → P (.o (.lst Da acc)) (restore env1 vs env') := hq
    refine ⟨S2, void vs e2, _, .o (.d src.xs[i]), _, r7, hq1, fun e3 S3 σ3 hc3 r8 el hl3 => ?_⟩
    have el' : Else vs (wipe σ vs) σ3 := el.more hsub
    have back : wipe σ3 vs = wipe σ vs := (wipe_else el').trans wipe_twice
    refine ⟨back, S3, e3, _, _, r8, hc3, fun bt e4 S4 H4 hb4 r9 => ?_⟩
    cases bt with
    | false =>
      refine iteF ⟨S4, void vs e4, acc, ?_, hb4.1, hb4.2⟩
      have := r9.voided vs
      rw [back] at this
      exact this
    | true =>
      refine iteT ⟨S4, e4, _, _, fun _ _ => False, r9, hb4, fun w e5 v S5 H5 hw5 r10 => ?_, lets_false fun _ _ h => h⟩
      obtain ⟨o, e6, S6, ⟨hz, h6⟩, r11⟩ := r10.into hw5
      obtain ⟨ws, hws, hwl, r12⟩ := r11.appendTmp
      refine ⟨ws, hws, by rw [hwl]; exact hz, S6, void vs e6, acc ++ [o], ?_, h6.1, h6.2⟩
      have := r12.voided vs
      rw [back] at this
      exact this
  · have hil : i = src.xs.length := by omega
    refine .inl ⟨G.st _ _ _ _ _ i r5 st2 (by omega), ?_⟩
    rw [List.drop_eq_nil_of_le (by omega)] at hq
    have len2 : e2.length = env1.length := by rw [r4.len, wipe_length, len1]
    have hq2 : P (.o (.lst Da acc)) (restore env1 vs e2) := hq len2
    have r6 : R X.K B S2 H2 (wipe σ vs) e2 (U ++ ((.ref Da, .o (.lst Da acc)) :: (Z ++ T))) := r4.perm (fun t ht => by
      rcases List.mem_append.mp ht with ht | ht
      · exact List.mem_cons_of_mem _ (List.mem_append_right _ (List.mem_append_left _ ht))
      · rcases List.mem_cons.mp ht with e | ht
        · subst e; exact List.mem_cons_self
        · rcases List.mem_append.mp ht with ht | ht
          · exact List.mem_cons_of_mem _ (List.mem_append_left _ ht)
          · exact List.mem_cons_of_mem _ (List.mem_append_right _ (List.mem_append_right _ ht))) fun b => by
        rw [cntT_append]
        show _ + (_ + cntT b (Z ++ T)) ≤ _ + cntT b (Z ++ (U ++ T))
        rw [cntT_append, cntT_append, cntT_append]
        omega
    have r7 := (R.restored (old := env1) len1 (by rw [len2]) hpl hU hown r6).pops
    refine hP _ _ _ _ _ hq2 (r7.perm (fun t ht => ?_) fun b => ?_)
    · rcases List.mem_cons.mp ht with e | ht
      · subst e; exact List.mem_cons_self
      · exact List.mem_cons_of_mem _ (List.mem_append_right _ ht)
    · show _ + cntT b T ≤ _ + cntT b (Z ++ T)
      rw [cntT_append]; omega
theorem s_comp {elt tg iter : Expr} {ifs : List Expr} {scope : Scope} {own : List (Str × Nat)} {t : Tg} {wi : WI} {wcnd : WC} {we : WT} (hc : X.calm = true) (hN : X.N.Nodup)
    (hi : PI X tg iter (tI X B Wx wi)) (ok : BlkOk X.N X.env.scope scope own) (hown : (own.map (·.2)).Nodup) (hsub : ∀ i ∈ t.slots, i ∈ own.map (·.2))
    (hg : ∀ (s : Shared) (H : Hp) (C : Addr) (cl : List (Str × Addr)) (fp : List Addr), PG (X.blk s H scope (compEnvC scope cl C X.env) fp) tg (gT X B t))
    (ht : ∀ (s : Shared) (H : Hp) (C : Addr) (cl : List (Str × Addr)) (fp : List Addr), SndC (X.blk s H scope (compEnvC scope cl C X.env) fp) B ifs wcnd)
    (he : ∀ (s : Shared) (H : Hp) (C : Addr) (cl : List (Str × Addr)) (fp : List Addr), PE (X.blk s H scope (compEnvC scope cl C X.env) fp) elt (tE X B W0 we))
    (hs : ∀ x, foldedSetIterable iter X.env x = pure x) :
    PE X (.ListComp elt [⟨tg, iter, ifs, 0⟩] scope pos) (tE X B Wx (wComp wi (own.map (·.2)) t wcnd we)) :=
  PE_imp (pe_lc (tt := tCnd X B wcnd) hc hN hi ok hg (fun s H C cl fp => ht s H C cl fp) he hs) fun _ _ _ h => comp_reads hown hsub h
end
end Vx
namespace Vx
open PySem PySem.Spec L2

/-! ### what is lent to a callee, and comes back -/
section
variable {K : PySem.W.Frag} {B : Bs} {S : Fz} {H : Hp} {σ : L2.St} {env : Env} {T : List (V × W)}
theorem envAt_at {env env' : Env} {i : Nat} {p : List Stp} (h : env'[i]? = env[i]?) : envAt env' i p = envAt env i p := by
  unfold envAt; rw [h]
theorem lend_at : ∀ {ws : List W} {env env' : Env}, (∀ i ∈ lentAt ws, env'[i]? = env[i]?) → lend ws env' = lend ws env
  | [], _, _, _ => rfl
  | .o x :: r, env, env', h => by
    unfold lend
    rw [lend_at (ws := r) fun i hi => h i hi]
  | .al a i p :: r, env, env', h => by
    unfold lend
    rw [envAt_at (h i List.mem_cons_self), lend_at (ws := r) fun j hj => h j (List.mem_cons_of_mem _ hj)]
theorem lend_o {x : O} {r : List W} {os : List O} (h : lend (.o x :: r) env = some os) : ∃ os1, notTup x = true ∧ os = x :: os1 ∧ lend r env = some os1 := by
  unfold lend at h
  by_cases hx : notTup x = true
  · rw [if_pos hx] at h
    cases e : lend r env with
    | none => rw [e] at h; cases h
    | some os1 => rw [e] at h; cases h; exact ⟨os1, hx, rfl, rfl⟩
  · rw [if_neg hx] at h; cases h
theorem lend_al {a : Addr} {i : Nat} {p : List Stp} {r : List W} {os : List O} (h : lend (.al a i p :: r) env = some os) :
    ∃ xs os1, envAt env i p = some (.lst a xs) ∧ os = .lst a xs :: os1 ∧ lend r env = some os1 := by
  unfold lend at h
  cases e : envAt env i p with
  | none => simp only [e] at h; cases h
  | some o =>
    simp only [e] at h
    cases o with
    | d _ => cases h
    | tup _ => cases h
    | lst b xs =>
      have h : (if b = a then (lend r env).map (O.lst b xs :: ·) else none) = some os := h
      by_cases q : b = a
      · subst q
        rw [if_pos rfl] at h
        cases e2 : lend r env with
        | none => rw [e2] at h; cases h
        | some os1 => rw [e2] at h; cases h; exact ⟨xs, os1, rfl, rfl, rfl⟩
      · rw [if_neg q] at h; cases h
theorem lend_notTup : ∀ {ws : List W} {os : List O}, lend ws env = some os → os.all notTup = true
  | [], os, h => by cases h; rfl
  | .o x :: r, os, h => by
    obtain ⟨os1, h1, rfl, h2⟩ := lend_o h
    show (notTup x && os1.all notTup) = true
    rw [h1, lend_notTup h2]; rfl
  | .al a i p :: r, os, h => by
    obtain ⟨xs, os1, h1, rfl, h2⟩ := lend_al h
    show (true && os1.all notTup) = true
    rw [lend_notTup (ws := r) h2]; rfl
/-- how much of a callee's things lies in slots, how much in the caller's hands -/
def inSlots (b : Addr) : List W → List O → Nat
  | .al .. :: r, o :: os => o.cnt b + inSlots b r os
  | .o _ :: r, _ :: os => inSlots b r os
  | _, _ => 0
theorem cntE_void {env : Env} {i : Nat} {o : O} (h : env[i]? = some (some o)) (b : Addr) : cntE b (env.set i none) + o.cnt b = cntE b env := by
  have := cntE_set (b := b) (y := none) h
  exact this
theorem lend_slots (K : PySem.W.Frag) (S : Fz) (H : Hp) : ∀ {ws : List W} {os : List O} {env : Env}, lend ws env = some os → (lentAt ws).Nodup →
    (∀ (i : Nat) (o : O), env[i]? = some (some o) → ∃ v, OwnR K S H v o) → ∀ b, inSlots b ws os ≤ cntE b env
  | [], os, env, h, _, _, b => by cases h; exact Nat.zero_le _
  | .o x :: r, os, env, h, hn, hR, b => by
    obtain ⟨os1, _, rfl, h2⟩ := lend_o h
    exact lend_slots K S H (ws := r) h2 hn hR b
  | .al a i p :: r, os, env, h, hn, hR, b => by
    obtain ⟨xs, os1, h1, rfl, h2⟩ := lend_al h
    obtain ⟨hi, hn2⟩ := List.nodup_cons.mp hn
    obtain ⟨o, e, ha⟩ := envAt_some h1
    have h3 : lend r (env.set i none) = some os1 := by
      rw [lend_at fun j hj => List.getElem?_set_ne fun z => hi (by rw [z]; exact hj)]; exact h2
    have ih := lend_slots K S H h3 hn2 (fun j x ej => by
      by_cases z : i = j
      · subst z
        rw [List.getElem?_set_self (List.getElem?_eq_some_iff.mp e).1] at ej; cases ej
      · rw [List.getElem?_set_ne z] at ej; exact hR j x ej) b
    have := cntE_void e b
    obtain ⟨v, q⟩ := hR i o e
    obtain ⟨_, _, c⟩ := q.at ha
    have := c b
    show (O.lst a xs).cnt b + inSlots b r os1 ≤ _
    omega
theorem lend_cnt : ∀ {Z : List (V × W)} {os : List O} {env : Env}, lend (Z.map (·.2)) env = some os → ∀ b, O.cntL b os = inSlots b (Z.map (·.2)) os + cntT b Z
  | [], os, env, h, b => by cases h; rfl
  | (v, .o x) :: r, os, env, h, b => by
    have h : lend (.o x :: r.map (·.2)) env = some os := h
    obtain ⟨os1, _, rfl, h2⟩ := lend_o h
    have := lend_cnt (Z := r) h2 b
    show x.cnt b + O.cntL b os1 = inSlots b (r.map (·.2)) os1 + (x.cnt b + cntT b r)
    omega
  | (v, .al a i p) :: r, os, env, h, b => by
    have h : lend (.al a i p :: r.map (·.2)) env = some os := h
    obtain ⟨xs, os1, _, rfl, h2⟩ := lend_al h
    have := lend_cnt (Z := r) h2 b
    show (O.lst a xs).cnt b + O.cntL b os1 = (O.lst a xs).cnt b + inSlots b (r.map (·.2)) os1 + (0 + cntT b r)
    omega
theorem lend_length : ∀ {ws : List W} {os : List O} {env : Env}, lend ws env = some os → os.length = ws.length
  | [], os, env, h => by cases h; rfl
  | .o x :: r, os, env, h => by
    obtain ⟨os1, _, rfl, h2⟩ := lend_o h
    exact congrArg (· + 1) (lend_length h2)
  | .al a i p :: r, os, env, h => by
    obtain ⟨xs, os1, _, rfl, h2⟩ := lend_al h
    exact congrArg (· + 1) (lend_length h2)
/-- the callee's things lie as it is told -/
theorem lend_own : ∀ {Z : List (V × W)} {os : List O}, lend (Z.map (·.2)) env = some os → (∀ t ∈ Z, TmpR K S H t) →
    (∀ (i : Nat) (o : O), env[i]? = some (some o) → ∃ v, OwnR K S H v o) → OwnA K S H (Z.map (·.1)) os
  | [], os, h, _, _ => by cases h; exact .nil
  | (v, .o x) :: r, os, h, ht, hR => by
    have h : lend (.o x :: r.map (·.2)) env = some os := h
    obtain ⟨os1, _, rfl, h2⟩ := lend_o h
    exact .cons (ht (v, .o x) List.mem_cons_self) (lend_own h2 (fun t q => ht t (List.mem_cons_of_mem _ q)) hR)
  | (v, .al a i p) :: r, os, h, ht, hR => by
    have h : lend (.al a i p :: r.map (·.2)) env = some os := h
    obtain ⟨xs, os1, h1, rfl, h2⟩ := lend_al h
    have e1 : v = .ref a := ht (v, .al a i p) List.mem_cons_self
    obtain ⟨o, e, ha⟩ := envAt_some h1
    obtain ⟨u, q⟩ := hR i o e
    obtain ⟨u', q', _⟩ := q.at ha
    have : u' = .ref a := q'.ref rfl
    refine .cons ?_ (lend_own h2 (fun t q => ht t (List.mem_cons_of_mem _ q)) hR)
    show OwnR K S H v (.lst a xs)
    rw [e1, ← this]; exact q'
theorem giveBack_o {x : O} {r : List W} {os' : List O} {env' : Env} (h : giveBack (.o x :: r) os' env = some env') : ∃ y os1, os' = y :: os1 ∧ giveBack r os1 env = some env' := by
  cases os' with
  | nil => unfold giveBack at h; cases h
  | cons y os1 => exact ⟨y, os1, rfl, h⟩
theorem giveBack_al {a : Addr} {i : Nat} {p : List Stp} {r : List W} {os' : List O} {env' : Env} (h : giveBack (.al a i p :: r) os' env = some env') :
    ∃ ys os1, os' = .lst a ys :: os1 ∧ giveBack r os1 (envPut env i p (.lst a ys)) = some env' := by
  cases os' with
  | nil => unfold giveBack at h; cases h
  | cons y os1 =>
    cases y with
    | d _ => unfold giveBack at h; cases h
    | tup _ => unfold giveBack at h; cases h
    | lst b ys =>
      unfold giveBack at h
      by_cases q : b = a
      · subst q; rw [if_pos rfl] at h; exact ⟨ys, os1, rfl, h⟩
      · rw [if_neg q] at h; cases h
theorem giveBack_length : ∀ {ws : List W} {os' : List O} {env env' : Env}, giveBack ws os' env = some env' → env'.length = env.length
  | [], os', env, env', h => by cases h; rfl
  | .o x :: r, os', env, env', h => by
    obtain ⟨y, os1, rfl, h2⟩ := giveBack_o h
    exact giveBack_length h2
  | .al a i p :: r, os', env, env', h => by
    obtain ⟨ys, os1, rfl, h2⟩ := giveBack_al h
    rw [giveBack_length h2, envPut_length]
theorem envPut_else {env : Env} {i j : Nat} {p : List Stp} {y : O} (hj : j ≠ i) : (envPut env i p y)[j]? = env[j]? := by
  unfold envPut
  split
  · rw [List.getElem?_set_ne (Ne.symm hj)]
  · rfl
theorem giveBack_else : ∀ {ws : List W} {os' : List O} {env env' : Env} {i : Nat}, i ∉ lentAt ws → giveBack ws os' env = some env' → env'[i]? = env[i]?
  | [], os', env, env', i, _, g => by cases g; rfl
  | .o x :: r, os', env, env', i, hi, g => by
    obtain ⟨y, os1, rfl, h2⟩ := giveBack_o g
    exact giveBack_else (ws := r) hi h2
  | .al a i0 p :: r, os', env, env', i, hi, g => by
    obtain ⟨ys, os1, rfl, h2⟩ := giveBack_al g
    rw [giveBack_else (ws := r) (fun hm => hi (List.mem_cons_of_mem _ hm)) h2, envPut_else fun z => hi (by rw [z]; exact List.mem_cons_self)]
theorem envPut_void {env : Env} {i i0 : Nat} {p : List Stp} {y : O} (h : i ≠ i0) : envPut (env.set i0 none) i p y = (envPut env i p y).set i0 none := by
  unfold envPut
  rw [List.getElem?_set_ne (Ne.symm h)]
  cases e : env[i]? with
  | none => rfl
  | some x =>
    cases x with
    | none => rfl
    | some o => exact List.set_comm _ _ (Ne.symm h)
theorem giveBack_void : ∀ {ws : List W} {os' : List O} {env env' : Env} {i0 : Nat}, i0 ∉ lentAt ws → giveBack ws os' env = some env' → giveBack ws os' (env.set i0 none) = some (env'.set i0 none)
  | [], os', env, env', i0, _, g => by cases g; rfl
  | .o x :: r, os', env, env', i0, hi, g => by
    obtain ⟨y, os1, rfl, h2⟩ := giveBack_o g
    exact giveBack_void (ws := r) hi h2
  | .al a i p :: r, os', env, env', i0, hi, g => by
    obtain ⟨ys, os1, rfl, h2⟩ := giveBack_al g
    unfold giveBack
    rw [if_pos rfl, envPut_void fun z => hi (by rw [z]; exact List.mem_cons_self)]
    exact giveBack_void (ws := r) (fun hm => hi (List.mem_cons_of_mem _ hm)) h2
theorem giveBack_cnt : ∀ {ws : List W} {os os' : List O} {env env' : Env}, lend ws env = some os → (lentAt ws).Nodup → giveBack ws os' env = some env' → ∀ b, cntE b env' + inSlots b ws os = cntE b env + inSlots b ws os'
  | [], os, os', env, env', h, _, g, b => by cases h; cases g; rfl
  | .o x :: r, os, os', env, env', h, hn, g, b => by
    obtain ⟨os1, _, rfl, h2⟩ := lend_o h
    obtain ⟨y, os2, rfl, g2⟩ := giveBack_o g
    exact giveBack_cnt (ws := r) h2 hn g2 b
  | .al a i p :: r, os, os', env, env', h, hn, g, b => by
    obtain ⟨xs, os1, h1, rfl, h2⟩ := lend_al h
    obtain ⟨ys, os2, rfl, g2⟩ := giveBack_al g
    obtain ⟨hi, hn2⟩ := List.nodup_cons.mp hn
    have h3 : lend r (envPut env i p (.lst a ys)) = some os1 := by
      rw [lend_at fun j hj => envPut_else fun z => hi (by rw [← z]; exact hj)]; exact h2
    have ih := giveBack_cnt (ws := r) h3 hn2 g2 b
    have := envPut_cnt (y := .lst a ys) h1 b
    show _ + ((O.lst a xs).cnt b + inSlots b r os1) = _ + ((O.lst a ys).cnt b + inSlots b r os2)
    omega
theorem giveBack_at (K : PySem.W.Frag) (S : Fz) (H : Hp) : ∀ {ws : List W} {os os' : List O} {env env' : Env}, lend ws env = some os → (lentAt ws).Nodup → giveBack ws os' env = some env' →
    (∀ (i : Nat) (o : O), env[i]? = some (some o) → ∃ v, OwnR K S H v o) → ∀ (i : Nat) (o' : O), env'[i]? = some (some o') →
    (env[i]? = some (some o') ∧ i ∉ lentAt ws) ∨ (i ∈ lentAt ws ∧ ∃ (o : O) (p : List Stp) (a : Addr) (xs ys : List O) (j : Nat), env[i]? = some (some o) ∧ O.at p o = some (O.lst a xs) ∧ o' = O.put p o (O.lst a ys) ∧ os[j]? = some (O.lst a xs) ∧ os'[j]? = some (O.lst a ys) ∧
      ∀ b : Addr, inSlots b ws os + o.cnt b ≤ cntE b env + (O.lst a xs).cnt b)
  | [], os, os', env, env', h, _, g, _, i, o', e => by cases h; cases g; exact .inl ⟨e, fun q => nomatch q⟩
  | .o x :: r, os, os', env, env', h, hn, g, hR, i, o', e => by
    obtain ⟨os1, _, rfl, h2⟩ := lend_o h
    obtain ⟨y, os2, rfl, g2⟩ := giveBack_o g
    rcases giveBack_at K S H (ws := r) h2 hn g2 hR i o' e with q | ⟨q1, o, p, a, xs, ys, j, a1, a2, a3, a4, a5, a6⟩
    · exact .inl q
    · exact .inr ⟨q1, o, p, a, xs, ys, j + 1, a1, a2, a3, by simpa using a4, by simpa using a5, a6⟩
  | .al a i0 p :: r, os, os', env, env', h, hn, g, hR, i, o', e => by
    obtain ⟨xs, os1, h1, rfl, h2⟩ := lend_al h
    obtain ⟨ys, os2, rfl, g2⟩ := giveBack_al g
    obtain ⟨hi, hn2⟩ := List.nodup_cons.mp hn
    obtain ⟨o0, e0, ha0⟩ := envAt_some h1
    have hv : ∀ b, cntE b (env.set i0 none) + o0.cnt b = cntE b env := fun b => cntE_void e0 b
    have i0l := (List.getElem?_eq_some_iff.mp e0).1
    -- with the slot void, both ways the same
    have h3 : lend r (env.set i0 none) = some os1 := by
      rw [lend_at fun j hj => List.getElem?_set_ne fun z => hi (by rw [z]; exact hj)]; exact h2
    have hR2 : ∀ (i : Nat) (o : O), (env.set i0 none)[i]? = some (some o) → ∃ v, OwnR K S H v o := fun j x ej => by
      by_cases z : i0 = j
      · subst z
        rw [List.getElem?_set_self i0l] at ej; cases ej
      · rw [List.getElem?_set_ne z] at ej; exact hR j x ej
    have g3 := giveBack_void (i0 := i0) (ws := r) (fun hm => hi hm) g2
    by_cases z : i = i0
    · subst z
      have e' : env'[i]? = (envPut env i p (.lst a ys))[i]? := giveBack_else (ws := r) hi g2
      rw [e', envPut_eq e0, List.getElem?_set_self i0l] at e
      cases e
      refine .inr ⟨List.mem_cons_self, o0, p, a, xs, ys, 0, e0, ha0, rfl, rfl, rfl, fun b => ?_⟩
      have := lend_slots K S H h3 hn2 hR2 b
      have := hv b
      show (O.lst a xs).cnt b + inSlots b r os1 + o0.cnt b ≤ _
      omega
    · rw [show (envPut env i0 p (.lst a ys)).set i0 none = env.set i0 none by rw [envPut_eq e0, List.set_set]] at g3
      rcases giveBack_at K S H (ws := r) h3 hn2 g3 hR2 i o' (by rw [List.getElem?_set_ne (Ne.symm z)]; exact e) with ⟨q1, q2⟩ | ⟨q1, o, p', a', xs', ys', j, a1, a2, a3, a4, a5, a6⟩
      · rw [List.getElem?_set_ne (Ne.symm z)] at q1
        exact .inl ⟨q1, fun hm => (List.mem_cons.mp hm).elim z q2⟩
      · rw [List.getElem?_set_ne (Ne.symm z)] at a1
        refine .inr ⟨List.mem_cons_of_mem _ q1, o, p', a', xs', ys', j + 1, a1, a2, a3, by simpa using a4, by simpa using a5, fun b => ?_⟩
        obtain ⟨v0, q0⟩ := hR i0 o0 e0
        obtain ⟨_, _, c0⟩ := q0.at ha0
        have := c0 b
        have := a6 b
        have := hv b
        show (O.lst a xs).cnt b + inSlots b r os1 + o.cnt b ≤ _
        omega
theorem inSlots_le : ∀ {ws : List W} {os : List O} (b : Addr), inSlots b ws os ≤ O.cntL b os
  | [], _, _ => Nat.zero_le _
  | .o _ :: r, [], _ => Nat.zero_le _
  | .al .. :: r, [], _ => Nat.zero_le _
  | .o _ :: r, o :: os, b => by
    have := inSlots_le (ws := r) (os := os) b
    show inSlots b r os ≤ o.cnt b + O.cntL b os
    omega
  | .al .. :: r, o :: os, b => by
    have := inSlots_le (ws := r) (os := os) b
    show o.cnt b + inSlots b r os ≤ o.cnt b + O.cntL b os
    omega

/-! ### the things of a call, by themselves -/
abbrev ownB (S : Fz) (H : Hp) (os : List O) : Bs := ⟨S, H, fun a => 0 < O.cntL a os⟩
abbrev RZ (K : PySem.W.Frag) (S : Fz) (H : Hp) (os : List O) (S' : Fz) (H' : Hp) (P : List (V × W)) : Prop := R K (ownB S H os) S' H' [] [] P
theorem tmp_zip : ∀ {vs : List V} {os : List O}, OwnA K S H vs os → ∀ t ∈ vs.zip (os.map W.o), TmpR K S H t
  | _, _, .nil, t, ht => nomatch ht
  | _, _, .cons r rs, t, ht => by
    rcases List.mem_cons.mp ht with e | ht
    · subst e; exact r
    · exact tmp_zip rs t ht
theorem R.lent {Z : List (V × W)} {os : List O} (r : R K B S H σ env (Z ++ T)) (h : lend (Z.map (·.2)) env = some os) (hn : (lentAt (Z.map (·.2))).Nodup) :
    OwnA K S H (Z.map (·.1)) os ∧ (∀ b, O.cntL b os ≤ cntE b env + cntT b Z) ∧ RZ K S H os S H ((Z.map (·.1)).zip (os.map W.o)) := by
  have hR : ∀ (i : Nat) (o : O), env[i]? = some (some o) → ∃ v, OwnR K S H v o := fun i o e => let ⟨v, _, q⟩ := r.slots i o e; ⟨v, q⟩
  have ow := lend_own h (fun t ht => r.tmps t (List.mem_append_left _ ht)) hR
  have c1 : ∀ b, O.cntL b os ≤ cntE b env + cntT b Z := fun b => by
    have := lend_slots K S H h hn hR b
    have := lend_cnt h b
    omega
  have hone : ∀ b, cntE b env + (cntT b Z + cntT b T) ≤ 1 := fun b => by rw [← cntT_append]; exact r.one b
  have hz : ∀ b, cntT b ((Z.map (·.1)).zip (os.map W.o)) = O.cntL b os := fun b => cntT_zip b ow.length
  refine ⟨ow, c1, ⟨rfl, (fun i o e => nomatch e), tmp_zip ow, fun b => ?_, fun b hb => ?_, r.sH, fun b o h1 _ => h1, fun b hb => hb, fun b hb => ?_, fun b hb => .inl hb, fun b hb => hb⟩⟩
  · show 0 + _ ≤ 1
    rw [hz]; have := c1 b; have := hone b; omega
  · show 0 + _ = 0
    rw [hz]
    have h1 := r.apart b hb
    rw [cntT_append] at h1
    have := c1 b
    omega
  · have hb' : 0 < 0 + cntT b ((Z.map (·.1)).zip (os.map W.o)) := hb
    rw [hz] at hb'
    exact .inl (by show 0 < O.cntL b os; omega)
theorem RZ.kp {os : List O} {S' : Fz} {H' : Hp} {P : List (V × W)} (q : RZ K S H os S' H' P) (hl : ∀ a, 0 < O.cntL a os → ∃ xs, H a = some (.lst xs)) (hS : ∀ a, S a → O.cntL a os = 0) (sH : ∀ a, S a → H a ≠ none) : Kp S S' H H' := by
  refine ⟨fun a h => q.sub a h, fun a h => ?_, fun a o h hf => ?_⟩
  · cases e : H a with
    | none => exact absurd e (sH a h)
    | some o => exact q.keep a o e (by show ¬ 0 < O.cntL a os; have := hS a h; omega)
  · refine q.keep a o h fun z => ?_
    obtain ⟨xs, e⟩ := hl a z
    rw [h] at e; cases e; cases hf
/-- behind a call: what was lent is back -/
theorem R.back {Z : List (V × W)} {os os' : List O} {env' : Env} {S' : Fz} {H' : Hp} {N : List (V × W)} (r : R K B S H σ env (Z ++ T)) (h : lend (Z.map (·.2)) env = some os) (hn : (lentAt (Z.map (·.2))).Nodup)
    (g : giveBack (Z.map (·.2)) os' env = some env') (hl : os'.length = os.length) (q : RZ K S H os S' H' (N ++ (Z.map (·.1)).zip (os'.map W.o))) : R K B S' H' σ env' (N ++ T) := by
  obtain ⟨ow, c1, r0⟩ := r.lent h hn
  have hvl : (Z.map (·.1)).length = os'.length := by rw [hl]; exact ow.length
  have hone : ∀ b, cntE b env + (cntT b Z + cntT b T) ≤ 1 := fun b => by rw [← cntT_append]; exact r.one b
  have hlive : ∀ a, 0 < O.cntL a os → ∃ xs, H a = some (.lst xs) := ow.live
  have hap : ∀ a, S a → O.cntL a os = 0 := fun a hs => by
    have h1 := r.apart a hs
    rw [cntT_append] at h1
    have := c1 a; omega
  have k : Kp S S' H H' := RZ.kp q hlive hap r.sH
  have qc : ∀ b, cntT b (N ++ (Z.map (·.1)).zip (os'.map W.o)) = cntT b N + O.cntL b os' := fun b => by rw [cntT_append, cntT_zip b hvl]
  have q1 : ∀ b, cntT b N + O.cntL b os' ≤ 1 := fun b => by
    have h1 : 0 + cntT b (N ++ (Z.map (·.1)).zip (os'.map W.o)) ≤ 1 := q.one b
    rw [qc] at h1; omega
  have q0 : ∀ b, S' b → cntT b N + O.cntL b os' = 0 := fun b hb => by
    have h1 : 0 + cntT b (N ++ (Z.map (·.1)).zip (os'.map W.o)) = 0 := q.apart b hb
    rw [qc] at h1; omega
  have qn : ∀ b, 0 < cntT b N + O.cntL b os' → 0 < O.cntL b os ∨ H b = none := fun b hb => q.new b (by
    show 0 < 0 + _
    rw [qc]; omega)
  have e1 := giveBack_cnt h hn g
  have e2 : ∀ b, inSlots b (Z.map (·.2)) os' ≤ O.cntL b os' := fun b => inSlots_le b
  have e3 := lend_cnt h
  have e4 : ∀ b, inSlots b (Z.map (·.2)) os ≤ cntE b env := lend_slots K S H h hn fun i o e => let ⟨v, _, q⟩ := r.slots i o e; ⟨v, q⟩
  -- what is not lent stays as it was
  have same : ∀ b o, O.cntL b os = 0 → H b = some o → H' b = some o := fun b o hb e => q.keep b o e (by show ¬ 0 < O.cntL b os; omega)
  have frs : ∀ b, H b = none → cntE b env + cntT b Z + cntT b T = 0 := fun b hb => by
    have := r.fresh hb
    rw [cntT_append] at this; omega
  refine ⟨by rw [giveBack_length g]; exact r.len, fun i o' ei => ?_, fun t ht => ?_, fun b => ?_, fun b hb => ?_, q.sH, fun b o h1 h2 => ?_, fun b hb => r.dom b (q.dom b hb), fun b hb => ?_, fun b hb => ?_, fun b hb => q.sub b (r.sub b hb)⟩
  · rcases giveBack_at K S H h hn g (fun i o e => let ⟨v, _, q⟩ := r.slots i o e; ⟨v, q⟩) i o' ei with ⟨a1, a2⟩ | ⟨a0, o, p, a, xs, ys, j, a1, a2, a3, a4, a5, a6⟩
    · obtain ⟨v, ev, qv⟩ := r.slots i o' a1
      refine ⟨v, ev, qv.kp k fun b hb => ?_⟩
      obtain ⟨zs, eb⟩ := qv.live b hb
      rw [eb]
      refine same b _ ?_ eb
      -- b's owner is slot i, which is not lent
      have h5 : ∀ {ws : List W} {ps : List O} {env : Env}, lend ws env = some ps → (lentAt ws).Nodup → i ∉ lentAt ws → env[i]? = some (some o') → (∀ (i : Nat) (o : O), env[i]? = some (some o) → ∃ v, OwnR K S H v o) → inSlots b ws ps + o'.cnt b ≤ cntE b env := by
        intro ws ps env hh hnn hi he hR
        have h6 : lend ws (env.set i none) = some ps := by
          rw [lend_at fun j hj => List.getElem?_set_ne fun z => hi (by rw [z]; exact hj)]; exact hh
        have := lend_slots K S H h6 hnn (fun j x ej => by
          by_cases z : i = j
          · subst z
            rw [List.getElem?_set_self (List.getElem?_eq_some_iff.mp he).1] at ej; cases ej
          · rw [List.getElem?_set_ne z] at ej; exact hR j x ej) b
        have := cntE_void he b
        omega
      have := h5 h hn a2 a1 fun i o e => let ⟨v, _, q⟩ := r.slots i o e; ⟨v, q⟩
      have := e3 b; have := hone b
      omega
    · obtain ⟨v, ev, qv⟩ := r.slots i o a1
      have hoc : ∀ b, o.cnt b ≤ cntE b env := fun b => cntE_get a1
      refine ⟨v, ev, ?_⟩
      rw [a3]
      obtain ⟨u, eu, qu⟩ := ow.get a4
      have eu2 : u = .ref a := qu.ref rfl
      have qy : OwnR K S' H' (.ref a) (.lst a ys) := by
        have hm : ((Z.map (·.1))[j]?.getD .non, W.o (.lst a ys)) ∈ (Z.map (·.1)).zip (os'.map W.o) := by
          refine List.mem_of_getElem? (i := j) ?_
          rw [List.getElem?_zip_eq_some]
          rw [eu]
          exact ⟨rfl, by rw [List.getElem?_map, a5]; rfl⟩
        rw [eu] at hm
        have := q.tmps _ (List.mem_append_right _ hm)
        rw [eu2] at this
        exact this
      refine OwnR.putAt (v' := v) k qv a2 (fun b => by have := hone b; have := hoc b; omega) (fun w qw => ?_) fun b hb hz => ?_
      · have : w = .ref a := qw.ref rfl
        rw [this]; exact qy
      · obtain ⟨zs, eb⟩ := qv.live b hb
        rw [eb]
        refine same b _ ?_ eb
        have := a6 b; have := e3 b; have := hone b; have := hoc b
        omega
  · have t1 := r.tmps
    rcases List.mem_append.mp ht with ht | ht
    · exact q.tmps t (List.mem_append_left _ ht)
    · refine (r.tmps t (List.mem_append_right _ ht)).kp k fun b hb => ?_
      have h3 : cntW b t.2 ≤ cntT b T := cntT_mem (b := b) ht
      obtain ⟨zs, eb⟩ := r.live (a := b) (by rw [cntT_append]; omega)
      rw [eb]
      refine same b _ ?_ eb
      have := hone b; have := c1 b
      omega
  · rw [cntT_append]
    have := e1 b; have := e2 b; have := e3 b; have := e4 b; have := hone b; have := q1 b; have := c1 b
    by_cases z : 0 < cntT b N + O.cntL b os'
    · rcases qn b z with z1 | z1
      · omega
      · have := frs b z1; omega
    · omega
  · rw [cntT_append]
    have := e1 b; have := e2 b; have := e3 b; have := e4 b; have := hone b; have := q0 b hb; have := c1 b
    rcases q.newS b hb with z | z | z
    · have h1 := r.apart b z
      rw [cntT_append] at h1
      omega
    · have z' : 0 < O.cntL b os := z
      omega
    · have := frs b z; omega
  · refine same b o ?_ (r.keep b o h1 h2)
    by_cases z : 0 < O.cntL b os
    · rcases r.new b (by rw [cntT_append]; have := c1 b; omega) with z1 | z1
      · exact absurd z1 h2
      · rw [z1] at h1; cases h1
    · omega
  · rw [cntT_append] at hb
    have := e1 b; have := e2 b; have := e3 b; have := e4 b
    by_cases z : 0 < cntE b env + cntT b (Z ++ T)
    · exact r.new b z
    · rw [cntT_append] at z
      rcases qn b (by omega) with z1 | z1
      · have := c1 b; omega
      · exact .inr (r.dom b z1)
  · rcases q.newS b hb with z | z | z
    · exact r.newS b z
    · exact .inr (r.new b (by rw [cntT_append]; have := c1 b; have z' : 0 < O.cntL b os := z; omega))
    · exact .inr (.inr (r.dom b z))
end
end Vx
namespace Vx
open PySem PySem.Spec L2

/-! ### statements -/
abbrev WS := (Exn → Env → Prop) → Env → Kt → Prop
structure EndsR (X : Cx) (B : Bs) (T : List (V × W)) (k : Kt) (D : L2.Ends) : Prop where
  nx : ∀ env σ S H, k.nx env → R X.K B S H σ env T → D.nx σ H
  rt : ∀ x env v σ S H, k.rt x env → R X.K B S H σ env ((v, x) :: T) → D.rt v H
  bk : ∀ env σ S H, k.bk env → R X.K B S H σ env T → D.bk σ H
  ct : ∀ env σ S H, k.ct env → R X.K B S H σ env T → D.ct σ H
def tS (X : Cx) (B : Bs) (Wx : WX) (w : WS) : TS := fun D σ H => ∃ S env T k PX, R X.K B S H σ env T ∧ w PX env k ∧ EndsR X B T k D ∧ Lets X B Wx PX
section
variable {X : Cx} {B : Bs} {Wx : WX} {a b c e : Expr} {wa wb wc we : WT} {pos : Pos} {st : Stmt} {rest : List Stmt} {w u : WS}
abbrev SS (X : Cx) (B : Bs) (Wx : WX) (l : List Stmt) (w : WS) : Prop := PSs X l (tS X B Wx w)
abbrev S1 (X : Cx) (B : Bs) (Wx : WX) (l : Stmt) (w : WS) : Prop := PS X l (tS X B Wx w)
theorem PS_imp {t t' : TS} (h : PS X st t) (f : ∀ D σ H, t' D σ H → t D σ H) : PS X st t' := ⟨fun pins s σ H D I q => h.run pins s σ H D I (f D σ H q)⟩
theorem PSs_imp {t t' : TS} (h : PSs X rest t) (f : ∀ D σ H, t' D σ H → t D σ H) : PSs X rest t' := ⟨fun pins s σ H D I q => h.run pins s σ H D I (f D σ H q)⟩
theorem ss_nil : SS X B Wx [] fun _ env k => k.nx env := PSs_imp pss_nil fun D σ H ⟨S, env, T, k, PX, r, hw, hE, hX⟩ => hE.nx _ _ _ _ hw r
theorem ss_cons (h : S1 X B Wx st w) (h2 : SS X B Wx rest u) : SS X B Wx (st :: rest) fun PX env k => w PX env { k with nx := fun env1 => u PX env1 k } :=
  PSs_imp (pss_cons h h2) fun D σ H ⟨S, env, T, k, PX, r, hw, hE, hX⟩ =>
    ⟨S, env, T, { k with nx := fun env1 => u PX env1 k }, PX, r, hw, ⟨fun env1 σ1 S1 H1 q r1 => ⟨S1, env1, T, k, PX, r1, q, hE, hX⟩, hE.rt, hE.bk, hE.ct⟩, hX⟩
theorem st_pass : S1 X B Wx (.Pass pos) fun _ env k => k.nx env := PS_imp ps_pass fun D σ H ⟨S, env, T, k, PX, r, hw, hE, hX⟩ => hE.nx _ _ _ _ hw r
theorem st_doc {x : Str} {j : Option Str} {p2 : Pos} (h : PS X st tNext) : S1 X B Wx st fun _ env k => k.nx env := PS_imp h fun D σ H ⟨S, env, T, k, PX, r, hw, hE, hX⟩ => hE.nx _ _ _ _ hw r
theorem st_brk : S1 X B Wx (.Break pos) fun _ env k => k.bk env := PS_imp ps_break fun D σ H ⟨S, env, T, k, PX, r, hw, hE, hX⟩ => hE.bk _ _ _ _ hw r
theorem st_cnt : S1 X B Wx (.Continue pos) fun _ env k => k.ct env := PS_imp ps_continue fun D σ H ⟨S, env, T, k, PX, r, hw, hE, hX⟩ => hE.ct _ _ _ _ hw r
theorem st_expr (he : PE X e (tE X B Wx we)) (hs : swapsWith e none pos.line X.env = pure false) : S1 X B Wx (.Expr e pos) fun PX env k => we PX env fun _ env1 => k.nx env1 :=
  PS_imp (ps_expr he hs) fun D σ H ⟨S, env, T, k, PX, r, hw, hE, hX⟩ => ⟨S, env, T, _, PX, r, hw, fun x env1 v S1 H1 q r1 => hE.nx _ _ _ _ q r1.pop, hX⟩
theorem st_ret (he : PE X e (tE X B Wx we)) : S1 X B Wx (.Return (some e) pos) fun PX env k => we PX env k.rt :=
  PS_imp (ps_ret he) fun D σ H ⟨S, env, T, k, PX, r, hw, hE, hX⟩ => ⟨S, env, T, _, PX, r, hw, fun x env1 v S1 H1 q r1 => hE.rt _ _ _ _ _ _ q r1, hX⟩
theorem R.pushNone {K : PySem.W.Frag} {S : Fz} {H : Hp} {σ : L2.St} {env : Env} {T : List (V × W)} (r : R K B S H σ env T) : R K B S H σ env ((.non, .o (.d .none)) :: T) := r.push .non
theorem st_retN : S1 X B Wx (.Return none pos) fun _ env k => k.rt (.o (.d .none)) env :=
  PS_imp ps_retN fun D σ H ⟨S, env, T, k, PX, r, hw, hE, hX⟩ => hE.rt _ _ _ _ _ _ hw r.pushNone
theorem st_if {xs ys : List Stmt} {wx wy : WS} (hc : Snd X B Wx c wc) (ha : SS X B Wx xs wx) (hb : SS X B Wx ys wy) : S1 X B Wx (.If c xs ys pos) fun PX env k => wc PX env fun x env1 => tst x fun t => if t = true then wx PX env1 k else wy PX env1 k := by
  refine PS_imp (ps_if hc.pt ha hb) fun D σ H ⟨S, env, T, k, PX, r, hw, hE, hX⟩ => ?_
  refine ⟨S, env, T, fun t env1 => if t = true then wx PX env1 k else wy PX env1 k, PX, r, hw, fun t env1 S1 H1 hq r1 => ?_, hX⟩
  cases t with
  | true => rw [if_pos rfl] at hq ⊢; exact ⟨S1, env1, T, k, PX, r1, hq, hE, hX⟩
  | false =>
    rw [if_neg (by decide)] at hq ⊢
    exact ⟨S1, env1, T, k, PX, r1, hq, hE, hX⟩
theorem asg_ends {t : Tg} {σ : L2.St} {H : Hp} {D : L2.Ends} (h : tS X B Wx (fun PX env k => we PX env fun w env1 => bindT t w env1 k.nx) D σ H) : tAsg (tE X B Wx we) (gT X B t) D σ H := by
  obtain ⟨S, env, T, k, PX, r, hw, hE, hX⟩ := h
  exact ⟨S, env, T, _, PX, r, hw, fun x env1 v S1 H1 q r1 => ⟨S1, env1, T, x, k.nx, r1, q, fun env2 S2 σ2 q2 r2 _ _ => hE.nx _ _ _ _ q2 r2⟩, hX⟩
theorem st_asg {tg : Expr} {t : Tg} (he : PE X e (tE X B Wx we)) (hg : PG X tg (gT X B t)) (hs : swapsWithSole [tg] e pos.line X.env = pure false) (hw : swappedStores [tg] e X.env = pure none)
    (h1 : (assignEach [tg] X.env).map (·.2) = [assign tg X.env]) : S1 X B Wx (.Assign [tg] e pos) fun PX env k => we PX env fun w env1 => bindT t w env1 k.nx :=
  PS_imp (ps_asg he hg hs hw h1) fun D σ H h => asg_ends h
theorem gT_name {i : Nat} {v : V} {σ : L2.St} {H : Hp} {Q : L2.St → Hp → Prop} (h : gT X B (.v i) v σ H Q) : gName i v σ H Q := by
  obtain ⟨S, env, T, w, P, r, hb, q⟩ := h
  have hb' : inW w env fun o env' => i < env'.length ∧ P (env'.set i (some (slotO o))) := hb
  obtain ⟨o, env', S', ⟨hl, hi, hp⟩, r1⟩ := r.into (inW_len hb')
  obtain ⟨S2, r2⟩ := r1.slot
  exact q _ _ _ hp (r2.store hi) (Else.set List.mem_cons_self) (by rw [List.length_set]; exact hl)
theorem st_setLc {i : Nat} {y : Str} {py spos : Pos} {elt tg iter : Expr} {ifs : List Expr} {scope : Scope} {own : List (Str × Nat)} {t : Tg} {wi : WI} {wcnd : WC} (hc : X.calm = true) (hN : X.N.Nodup) (hy : X.N[i]? = some y) (hyl : X.env.scope.names.lookup y = some .local)
    (hsw : swapsWith (.ListComp elt [⟨tg, iter, ifs, 0⟩] scope pos) (some (.Name y py)) spos.line X.env = pure true)
    (hi : PI X tg iter (tI X B Wx wi)) (ok : BlkOk X.N X.env.scope scope own) (hown : (own.map (·.2)).Nodup) (hsub : ∀ i ∈ t.slots, i ∈ own.map (·.2))
    (hg : ∀ (s : Shared) (H : Hp) (C : Addr) (cl : List (Str × Addr)) (fp : List Addr), PG (X.blk s H scope (compEnvC scope cl C X.env) fp) tg (gT X B t))
    (ht : ∀ (s : Shared) (H : Hp) (C : Addr) (cl : List (Str × Addr)) (fp : List Addr), SndC (X.blk s H scope (compEnvC scope cl C X.env) fp) B ifs wcnd)
    (he : ∀ (s : Shared) (H : Hp) (C : Addr) (cl : List (Str × Addr)) (fp : List Addr), PE (X.blk s H scope (compEnvC scope cl C X.env) fp) elt (tE X B W0 we))
    (hs : ∀ x, foldedSetIterable iter X.env x = pure x) :
    S1 X B Wx (.Assign [.Name y py] (.ListComp elt [⟨tg, iter, ifs, 0⟩] scope pos) spos) fun PX env k => wComp wi (own.map (·.2)) t wcnd we PX env fun w env1 => bindT (.v i) w env1 k.nx := by
  refine PS_imp (ps_setLc (tt := tCnd X B wcnd) hc hN hy hyl hsw hi ok hg (fun s H C cl fp => ht s H C cl fp) he hs) fun D σ H ⟨S, env, T, k, PX, r, hw, hE, hX⟩ => ?_
  refine comp_reads hown hsub ⟨S, env, T, _, PX, r, hw, fun x env1 v S1 H1 q r1 => ?_, hX⟩
  exact gT_name ⟨S1, env1, T, x, k.nx, r1, q, fun env2 S2 σ2 q2 r2 _ _ => hE.nx _ _ _ _ q2 r2⟩

/-! ### loops -/
theorem st_for {tg it : Expr} {t : Tg} {wi : WI} {body : List Stmt} {wb : WS} (hp : PassesOwn (model X.prog X.w) X.A X.env X.xe) (hc : X.calm = true) (hi : PI X tg it (tI X B Wx wi)) (hg : PG X tg (gT X B t)) (hb : SS X B Wx body wb)
    (hs : ∀ x, foldedSetIterable it X.env x = pure x) :
    S1 X B Wx (.For tg it body [] pos) fun PX env k => wi PX env fun s env1 => goFor s (fun x env2 K => bindT t (.o (.d x)) env2 fun env3 => wb PX env3 { k with nx := K, ct := K, bk := k.nx }) s.xs env1 k.nx := by
  refine PS_imp (ps_for hp hc hi hg hb hs) fun D σ H ⟨S, env, T, k, PX, r, hw, hE, hX⟩ => ?_
  refine ⟨S, env, T, _, PX, r, hw, fun src env1 S1 H1 J Z hgo r1 G still => ?_, hX⟩
  refine ⟨fun i m σ H => ∃ S env, R X.K B S H σ env (Z ++ T) ∧ m = src.xs.length - i ∧ i ≤ src.xs.length ∧ src.still env ∧
    goFor src (fun x env2 K => bindT t (.o (.d x)) env2 fun env3 => wb PX env3 { k with nx := K, ct := K, bk := k.nx }) (src.xs.drop i) env k.nx, ⟨src.xs.length, S1, env1, r1, by simp, Nat.zero_le _, still, hgo⟩, ?_⟩
  rintro i m σ2 H2 ⟨S2, e2, r2, rfl, hile, st2, hq⟩
  by_cases hlt : i < src.xs.length
  · have hd : src.xs[i]? = some src.xs[i] := List.getElem?_eq_getElem hlt
    rw [List.drop_eq_getElem_cons hlt] at hq
    refine .inr ⟨G.go _ _ _ _ _ i r2 st2 hlt, fun σ' H' => ∃ S env, R X.K B S H' σ' env (Z ++ T) ∧ src.still env ∧
      goFor src (fun x env2 K => bindT t (.o (.d x)) env2 fun env3 => wb PX env3 { k with nx := K, ct := K, bk := k.nx }) (src.xs.drop (i + 1)) env k.nx,
      fun σ' H' ⟨S', env', a1, a2, a3⟩ => ⟨src.xs.length - (i + 1), by omega, S', env', a1, rfl, hlt, a2, a3⟩, fun x H3 hy => ?_⟩
    have r3 := G.yl _ _ _ _ _ i x H3 _ r2 st2 hy hd
    have hq1 : bindT t (.o (.d src.xs[i])) e2 fun env3 => wb PX env3 { k with
        nx := fun e4 => src.still e4 ∧ goFor src (fun x env2 K => bindT t (.o (.d x)) env2 fun env3 => wb PX env3 { k with nx := K, ct := K, bk := k.nx }) (src.xs.drop (i + 1)) e4 k.nx,
        ct := fun e4 => src.still e4 ∧ goFor src (fun x env2 K => bindT t (.o (.d x)) env2 fun env3 => wb PX env3 { k with nx := K, ct := K, bk := k.nx }) (src.xs.drop (i + 1)) e4 k.nx, bk := k.nx } := hq
    refine ⟨S2, e2, Z ++ T, _, _, r3, hq1, fun e3 S3 σ3 h3 r4 _ _ => ?_⟩
    refine ⟨S3, e3, Z ++ T, _, PX, r4, h3, ⟨fun e4 σ4 S4 H4 q r5 => ⟨S4, e4, r5, q.1, q.2⟩, fun x e4 v σ4 S4 H4 q r5 => ?_, fun e4 σ4 S4 H4 q r5 => hE.nx _ _ _ _ q r5.pops, fun e4 σ4 S4 H4 q r5 => ⟨S4, e4, r5, q.1, q.2⟩⟩, hX⟩
    refine hE.rt _ _ _ _ _ _ q (r5.perm (fun t ht => ?_) fun b => ?_)
    · rcases List.mem_cons.mp ht with e | ht
      · rw [e]; exact List.mem_cons_self
      · exact List.mem_cons_of_mem _ (List.mem_append_right _ ht)
    · show _ + cntT b T ≤ _ + cntT b (Z ++ T)
      rw [cntT_append]; omega
  · refine .inl ⟨G.st _ _ _ _ _ i r2 st2 (by omega), ?_⟩
    rw [List.drop_eq_nil_of_le (by omega)] at hq
    exact hE.nx _ _ _ _ hq r2.pops
theorem st_while {body : List Stmt} {wb : WS} (hp : PassesOwn (model X.prog X.w) X.A X.env X.xe) (hc : Snd X B Wx c wc) (hb : SS X B Wx body wb) :
    S1 X B Wx (.While c body [] pos) fun PX env k => ∃ V : Nat → Env → Prop, (∃ m, V m env) ∧ ∀ m e1, V m e1 → wc PX e1 fun w e2 => tst w fun t =>
      if t = true then wb PX e2 { k with nx := fun e3 => ∃ m', m' < m ∧ V m' e3, ct := fun e3 => ∃ m', m' < m ∧ V m' e3, bk := k.nx } else k.nx e2 := by
  refine PS_imp (ps_while hp hc.pt hb) fun D σ H ⟨S, env, T, k, PX, r, hw, hE, hX⟩ => ?_
  obtain ⟨V, ⟨m0, hm0⟩, hV⟩ := hw
  refine ⟨fun m σ H => ∃ S env, R X.K B S H σ env T ∧ V m env, ⟨m0, S, env, r, hm0⟩, ?_⟩
  rintro m σ2 H2 ⟨S2, e2, r2, hv⟩
  refine ⟨S2, e2, T, fun t e3 => if t = true then wb PX e3 { k with nx := fun e3 => ∃ m', m' < m ∧ V m' e3, ct := fun e3 => ∃ m', m' < m ∧ V m' e3, bk := k.nx } else k.nx e3, PX, r2, hV m e2 hv, fun t e3 S3 H3 hq r3 => ?_, hX⟩
  cases t with
  | false =>
    rw [if_neg (by decide)] at hq ⊢
    exact hE.nx _ _ _ _ hq r3
  | true =>
    rw [if_pos rfl] at hq ⊢
    refine ⟨fun σ' H' => ∃ S env m', m' < m ∧ R X.K B S H' σ' env T ∧ V m' env, fun σ' H' ⟨S', env', m', a1, a2, a3⟩ => ⟨m', a1, S', env', a2, a3⟩, ?_⟩
    exact ⟨S3, e3, T, _, PX, r3, hq, ⟨fun e4 σ4 S4 H4 ⟨m', h1, h2⟩ r4 => ⟨S4, e4, m', h1, r4, h2⟩, hE.rt, hE.nx, fun e4 σ4 S4 H4 ⟨m', h1, h2⟩ r4 => ⟨S4, e4, m', h1, r4, h2⟩⟩, hX⟩
end

/-! ### a def -/
structure FnV (P : Program) (w : World) (K : PySem.W.Frag) (mg : Str → Option Value) (base : Heap) (k : Nat) (f : Addr) (fd : FuncData) (ps : List Str) (sp : Sp) : Prop where
  len : ∀ vs H Q E, sp vs H Q E → vs.length = ps.length
  run : ∀ (A : Around) (outer : List PySem.Env) (s : Shared) (H : Hp) (g : Args) (us : List Value) (vs : List V) (Q : VK) (E : XK), Room k A → A.guards = some [] → Env0 P w K mg base A outer s H → BindsTo s fd g (ps.zip us) → Vals vs us → sp vs H Q E →
    codeAny (model P w) A (.call (.ref f) g) (CR (L2.CX P w) outer P w H s Q E) s
theorem FnV.mono {P : Program} {w : World} {K : PySem.W.Frag} {mg : Str → Option Value} {base : Heap} {j k : Nat} {f : Addr} {fd : FuncData} {ps : List Str} {sp : Sp} (F : FnV P w K mg base j f fd ps sp) (h : j ≤ k) : FnV P w K mg base k f fd ps sp :=
  ⟨F.len, fun A outer s H g us vs Q E hr => F.run A outer s H g us vs Q E (hr.mono h)⟩
open PyProof.Rows in
/-- by its body -/
theorem fnV_of {P : Program} {w : World} {K : PySem.W.Frag} {mg : Str → Option Value} {base : Heap} {k : Nat} {f : Addr} {name qual : Str} {params : Arguments} {body : List Stmt} {scope : Scope} {dV kV doc pm cdv ct oc : Value} {an od : Option Addr}
    {osl : Array (Option Value)} {N ps : List Str} {sp : Sp} (lk : K.lookup f = some ⟨oc, od, .func (PySem.W.fnOf name qual params body scope dV kV doc pm an cdv ct), osl⟩) (hcd : PySem.W.codeIn K cdv qual = true) (sc : FnScope N ps scope)
    (len : ∀ vs H Q E, sp vs H Q E → vs.length = ps.length)
    (hb : ∀ (A : Around) (outer : List PySem.Env) (s : Shared) (H : Hp) (vs : List V) (Q : VK) (E : XK), Room k (A.deeper (envOfC qual scope s.heap.objs.size f cdv)) → A.guards = some [] → sp vs H Q E →
      ∃ t, PSs (cxOf (L2.CX P w) P w K mg base N qual scope f cdv A outer s H E) body t ∧ t { nx := fun _ H1 => Q .non H1, rt := Q } (L2.start N vs) H) :
    FnV P w K mg base (k + 1) f (PySem.W.fnOf name qual params body scope dV kV doc pm an cdv ct) ps sp := by
  refine ⟨len, fun A outer s H g us vs Q E hr hg e0 bnd rv q => ?_⟩
  have vl := len _ _ _ _ q
  have inK : K.In s.heap := e0.mod.kin.keeps fun b o z => (e0.bs b o z).1
  have far : s.heap.NoLimit := e0.mod.nolimit.keeps fun b o z => (e0.bs b o z).1
  have kinds : ∀ y ∈ ps.zip us, scope.names.lookup y.1 = some .local ∨ (scope.names.lookup y.1 = some .cell ∧ ((cellsFrom (s.heap.objs.size + 1) scope.names []).lookup y.1).isSome = true) := by
    intro y hy
    obtain ⟨n, u⟩ := y
    have hn : n ∈ ps := (List.of_mem_zip hy).1
    exact (sc.par n hn).imp id fun z => ⟨z, PySem.W.cellsFrom_some _ _ _ (.inl z)⟩
  refine codeAny_call_function hr.depth (inK _ _ lk) rfl sc.co sc.gen rfl (PySem.W.codeRec_of inK hcd) (bnd _ _ _ _ ?_)
  refine wpAny_newFunctionEnv_cells sc.kind kinds fun en he s1 ic => ?_
  cases he
  refine ⟨far.keeps ic.toInCall.keep, codeAny_func ?_⟩
  obtain ⟨t, ht, h2⟩ := hb A outer s H vs Q E (hr.deeper _) hg q
  have J : L2.Inv (cxOf (L2.CX P w) P w K mg base N qual scope f cdv A outer s H E) [] (L2.start N vs) H s1 := inv_start sc hr.hd e0 vl rv ic
  refine wpAny_mono (ht.run [] s1 _ H _ J h2) (fun r s2 z => ?_) fun _ _ z => z
  cases r with
  | brk => obtain ⟨_, _, _, z⟩ := z; exact z.elim
  | cont => obtain ⟨_, _, _, z⟩ := z; exact z.elim
  | next =>
    obtain ⟨σ2, H2, J2, z⟩ := z
    exact ⟨.non, H2, J2.os, J2.bare, J2.base, J2.hok, rfl, z⟩
  | ret u =>
    obtain ⟨v, σ2, H2, J2, ru, z⟩ := z
    exact ⟨v, H2, J2.os, J2.bare, J2.base, J2.hok, ru, z⟩
end Vx
namespace Vx
open PySem PySem.Spec L2

/-! ### a def's promise, by values -/
def spV (K : PySem.W.Frag) (mg : Str → Option Value) (n : Nat) (F : FSem) : Sp := fun vs H Q E => ∃ S os P PX, vs.length = n ∧ os.length = n ∧ os.all notTup = true ∧ RZ K S H os S H (vs.zip (os.map W.o)) ∧ OwnA K S H vs os ∧ F os P PX ∧
  (∀ r os' v S' H', P r os' → os'.length = os.length → RZ K S H os S' H' ((v, .o r) :: vs.zip (os'.map W.o)) → Q v H') ∧
  (∀ ex os' cls d S' H', PX ex os' → os'.length = os.length → RZ K S H os S' H' (vs.zip (os'.map W.o)) → ExR K mg S' H' ex cls d → E cls d H')
/-- of n arguments -/
def ar (n : Nat) (F : FSem) : FSem := fun os P PX => os.length = n ∧ F os P PX
section
variable {K : PySem.W.Frag} {B : Bs} {S S' : Fz} {H H' : Hp} {σ : L2.St} {env : Env} {T N : List (V × W)}
theorem R.kpB {os : List O} (q : R K (ownB S H os) S' H' σ env N) (hl : ∀ a, 0 < O.cntL a os → ∃ xs, H a = some (.lst xs)) (hS : ∀ a, S a → O.cntL a os = 0) (sH : ∀ a, S a → H a ≠ none) : Kp S S' H H' := by
  refine ⟨fun a h => q.sub a h, fun a h => ?_, fun a o h hf => ?_⟩
  · cases e : H a with
    | none => exact absurd e (sH a h)
    | some o => exact q.keep a o e (by show ¬ 0 < O.cntL a os; have := hS a h; omega)
  · refine q.keep a o h fun z => ?_
    obtain ⟨xs, e⟩ := hl a z
    rw [h] at e; cases e; cases hf
theorem R.enter {vs : List V} {os : List O} {NN : List Str} {n : Nat} (q : RZ K S H os S H (vs.zip (os.map W.o))) (ow : OwnA K S H vs os) (hn : n = NN.length) (hle : vs.length ≤ n) : R K (ownB S H os) S H (L2.start NN vs) (start n os) [] := by
  have hl := ow.length
  have hz : ∀ b, cntT b (vs.zip (os.map W.o)) = O.cntL b os := fun b => cntT_zip b hl
  have hm : ∀ (xs : List O) b, cntE b (xs.map some) = O.cntL b xs := by
    intro xs b
    induction xs with
    | nil => rfl
    | cons x xs ih => show x.cnt b + cntE b (xs.map some) = x.cnt b + O.cntL b xs; rw [ih]
  have hr : ∀ (m : Nat) b, cntE b (List.replicate m none) = 0 := by
    intro m b
    induction m with
    | zero => rfl
    | succ m ih => show 0 + cntE b (List.replicate m none) = 0; rw [ih]
  have ha : ∀ (xs ys : Env) b, cntE b (xs ++ ys) = cntE b xs + cntE b ys := by
    intro xs ys b
    induction xs with
    | nil => show cntE b ys = 0 + cntE b ys; omega
    | cons x xs ih => show cntO b x + cntE b (xs ++ ys) = cntO b x + cntE b xs + cntE b ys; rw [ih]; omega
  have hc : ∀ b, cntE b (start n os) = O.cntL b os := fun b => by unfold start; rw [ha, hm, hr]; rfl
  refine ⟨?_, fun i o e => ?_, (fun t ht => nomatch ht), fun b => ?_, fun b hb => ?_, q.sH, fun b o h1 _ => h1, fun b hb => hb, fun b hb => ?_, fun b hb => .inl hb, fun b hb => hb⟩
  · unfold start L2.start
    rw [List.length_append, List.length_append, List.length_map, List.length_map, List.length_replicate, List.length_replicate]
    omega
  · unfold start at e
    have hi : i < os.length := by
      by_cases hi : i < os.length
      · exact hi
      · rw [List.getElem?_append_right (by simpa using hi), List.getElem?_replicate] at e
        split at e <;> cases e
    rw [List.getElem?_append_left (by simpa using hi), List.getElem?_map] at e
    cases e2 : os[i]? with
    | none => rw [e2] at e; cases e
    | some o2 =>
      rw [e2] at e; cases e
      obtain ⟨v, e3, r⟩ := ow.get e2
      refine ⟨v, ?_, r⟩
      unfold L2.start
      rw [List.getElem?_append_left (by simpa [hl] using hi), List.getElem?_map, e3]
      rfl
  · rw [hc]
    have := q.one b
    have h1 : 0 + cntT b (vs.zip (os.map W.o)) ≤ 1 := this
    rw [hz] at h1
    show _ + 0 ≤ 1
    omega
  · rw [hc]
    have h1 : 0 + cntT b (vs.zip (os.map W.o)) = 0 := q.apart b hb
    rw [hz] at h1
    show _ + 0 = 0
    omega
  · rw [hc] at hb
    exact .inl (by show 0 < O.cntL b os; have hb' : 0 < O.cntL b os + 0 := hb; omega)
theorem backs_cnt : ∀ {os os' : List O} {i : Nat} {env : Env}, backs i os env = some os' → os.all notTup = true → ∀ b, O.cntL b os' ≤ cntE b (env.drop i)
  | [], os', i, env, h, _, b => by cases h; exact Nat.zero_le _
  | .lst a xs :: r, os', i, env, h, hn, b => by
    unfold backs at h
    cases e : env[i]? with
    | none => simp only [e] at h; cases h
    | some x =>
      simp only [e] at h
      cases x with
      | none => cases h
      | some o =>
        cases o with
        | d _ => cases h
        | tup _ => cases h
        | lst c ys =>
          have h : (if c = a then (backs (i + 1) r env).map (O.lst c ys :: ·) else none) = some os' := h
          by_cases q : c = a
          · rw [if_pos q] at h
            cases e2 : backs (i + 1) r env with
            | none => rw [e2] at h; cases h
            | some os1 =>
              rw [e2] at h; cases h
              have ih := backs_cnt (os := r) e2 hn b
              obtain ⟨hi, e3⟩ := List.getElem?_eq_some_iff.mp e
              rw [List.drop_eq_getElem_cons hi, e3]
              show (O.lst c ys).cnt b + O.cntL b os1 ≤ (O.lst c ys).cnt b + cntE b (env.drop (i + 1))
              omega
          · rw [if_neg q] at h; cases h
  | .d x :: r, os', i, env, h, hn, b => by
    have h : (backs (i + 1) r env).map (O.d x :: ·) = some os' := h
    cases e2 : backs (i + 1) r env with
    | none => rw [e2] at h; cases h
    | some os1 =>
      rw [e2] at h; cases h
      have ih := backs_cnt (os := r) e2 hn b
      have mono : cntE b (env.drop (i + 1)) ≤ cntE b (env.drop i) := by
        by_cases hi : i < env.length
        · rw [List.drop_eq_getElem_cons hi]
          show _ ≤ cntO b env[i] + _
          omega
        · rw [List.drop_eq_nil_of_le (by omega)]; exact Nat.zero_le _
      show 0 + O.cntL b os1 ≤ _
      omega
  | .tup xs :: r, os', i, env, h, hn, b => by
    have : (notTup (.tup xs) && r.all notTup) = true := hn
    cases this
theorem backs_at : ∀ {os os' : List O} {i : Nat} {env : Env}, backs i os env = some os' → os.all notTup = true → os'.length = os.length ∧ ∀ j o', os'[j]? = some o' → (∃ x, o' = .d x ∧ os[j]? = some (.d x)) ∨ (∃ a xs ys, o' = .lst a ys ∧ os[j]? = some (.lst a xs) ∧ env[i + j]? = some (some (.lst a ys)))
  | [], os', i, env, h, _ => by cases h; exact ⟨rfl, fun j o' e => nomatch e⟩
  | .lst a xs :: r, os', i, env, h, hn => by
    unfold backs at h
    cases e : env[i]? with
    | none => simp only [e] at h; cases h
    | some x =>
      simp only [e] at h
      cases x with
      | none => cases h
      | some o =>
        cases o with
        | d _ => cases h
        | tup _ => cases h
        | lst c ys =>
          have h : (if c = a then (backs (i + 1) r env).map (O.lst c ys :: ·) else none) = some os' := h
          by_cases q : c = a
          · subst q
            rw [if_pos rfl] at h
            cases e2 : backs (i + 1) r env with
            | none => rw [e2] at h; cases h
            | some os1 =>
              rw [e2] at h; cases h
              obtain ⟨h1, h2⟩ := backs_at (os := r) e2 hn
              refine ⟨congrArg (· + 1) h1, fun j o' ej => ?_⟩
              cases j with
              | zero => cases ej; exact .inr ⟨c, xs, ys, rfl, rfl, e⟩
              | succ j =>
                rcases h2 j o' (by simpa using ej) with ⟨x, b1, b2⟩ | ⟨a', xs', ys', b1, b2, b3⟩
                · exact .inl ⟨x, b1, by simpa using b2⟩
                · exact .inr ⟨a', xs', ys', b1, by simpa using b2, by rw [show i + (j + 1) = i + 1 + j by omega]; exact b3⟩
          · rw [if_neg q] at h; cases h
  | .d x :: r, os', i, env, h, hn => by
    have h : (backs (i + 1) r env).map (O.d x :: ·) = some os' := h
    cases e2 : backs (i + 1) r env with
    | none => rw [e2] at h; cases h
    | some os1 =>
      rw [e2] at h; cases h
      obtain ⟨h1, h2⟩ := backs_at (os := r) e2 hn
      refine ⟨congrArg (· + 1) h1, fun j o' ej => ?_⟩
      cases j with
      | zero => cases ej; exact .inl ⟨x, rfl, rfl⟩
      | succ j =>
        rcases h2 j o' (by simpa using ej) with ⟨x, b1, b2⟩ | ⟨a', xs', ys', b1, b2, b3⟩
        · exact .inl ⟨x, b1, by simpa using b2⟩
        · exact .inr ⟨a', xs', ys', b1, by simpa using b2, by rw [show i + (j + 1) = i + 1 + j by omega]; exact b3⟩
  | .tup xs :: r, os', i, env, h, hn => by
    have : (notTup (.tup xs) && r.all notTup) = true := hn
    cases this
theorem R.exit {vs : List V} {os os' : List O} (ow : OwnA K S H vs os) (hS : ∀ a, S a → O.cntL a os = 0) (sH : ∀ a, S a → H a ≠ none) (hn : os.all notTup = true) (r : R K (ownB S H os) S' H' σ env N) (hb : backs 0 os env = some os') :
    os'.length = os.length ∧ RZ K S H os S' H' (N ++ vs.zip (os'.map W.o)) := by
  have k := r.kpB ow.live hS sH
  obtain ⟨hl, hat⟩ := backs_at hb hn
  have hvl : vs.length = os'.length := ow.length.trans hl.symm
  have hc : ∀ b, cntT b (N ++ vs.zip (os'.map W.o)) ≤ cntT b N + cntE b env := fun b => by
    rw [cntT_append, cntT_zip b hvl]
    have := backs_cnt hb hn b
    rw [List.drop_zero] at this
    omega
  refine ⟨hl, rfl, (fun i o e => nomatch e), fun t ht => ?_, fun b => ?_, fun b hb => ?_, r.sH, r.keep, r.dom, fun b hb => ?_, r.newS, r.sub⟩
  · rcases List.mem_append.mp ht with ht | ht
    · exact r.tmps t ht
    · obtain ⟨j, hj⟩ := List.mem_iff_getElem?.mp ht
      rw [List.getElem?_zip_eq_some] at hj
      obtain ⟨j1, j2⟩ := hj
      rw [List.getElem?_map] at j2
      cases e : os'[j]? with
      | none => rw [e] at j2; cases j2
      | some o' =>
        rw [e] at j2
        have j3 : W.o o' = t.2 := Option.some.inj j2
        obtain ⟨v, w⟩ := t
        have j3 : W.o o' = w := j3
        subst j3
        show OwnR K S' H' v o'
        rcases hat j o' e with ⟨x, rfl, e1⟩ | ⟨a, xs, ys, rfl, e1, e2⟩
        · obtain ⟨u, eu, q⟩ := ow.get e1
          rw [j1] at eu; cases eu
          cases q with
          | d q => exact .d (q.kp k)
        · obtain ⟨u, eu, q⟩ := ow.get e1
          rw [j1] at eu; cases eu
          have ev : v = .ref a := q.ref rfl
          rw [Nat.zero_add] at e2
          obtain ⟨u2, _, q2⟩ := r.slots j _ e2
          have eu2 : u2 = .ref a := q2.ref rfl
          rw [ev, ← eu2]; exact q2
  · show 0 + _ ≤ 1
    have := hc b; have := r.one b; omega
  · show 0 + _ = 0
    have := hc b; have := r.apart b hb; omega
  · have hb' : 0 < 0 + cntT b (N ++ vs.zip (os'.map W.o)) := hb
    exact r.new b (by have := hc b; omega)
theorem R.takeOut {v : V} {a : Addr} {i : Nat} {xs : List O} (r : R K B S H σ env ((v, .al a i []) :: T)) (e : env[i]? = some (some (.lst a xs))) : R K B S H (σ.set i none) (env.set i none) ((v, .o (.lst a xs)) :: T) := by
  have hv := cntE_void e
  have ev : v = .ref a := r.tmps (v, .al a i []) List.mem_cons_self
  obtain ⟨u, eu, q⟩ := r.slots i _ e
  have eu2 : u = .ref a := q.ref rfl
  have hi := (List.getElem?_eq_some_iff.mp e).1
  refine ⟨by rw [List.length_set, List.length_set]; exact r.len, fun j o ej => ?_, fun t ht => ?_, fun b => ?_, fun b hb => ?_, r.sH, r.keep, r.dom, fun b hb => ?_, r.newS, r.sub⟩
  · by_cases z : i = j
    · subst z; rw [List.getElem?_set_self hi] at ej; cases ej
    · rw [List.getElem?_set_ne z] at ej
      obtain ⟨w, h1, h2⟩ := r.slots j o ej
      exact ⟨w, by rw [List.getElem?_set_ne z]; exact h1, h2⟩
  · rcases List.mem_cons.mp ht with h | h
    · subst h
      show OwnR K S H v _
      rw [ev, ← eu2]; exact q
    · exact r.tmps t (List.mem_cons_of_mem _ h)
  · have h1 : cntE b env + (0 + cntT b T) ≤ 1 := r.one b
    have := hv b
    show _ + ((O.lst a xs).cnt b + cntT b T) ≤ 1
    omega
  · have h1 : cntE b env + (0 + cntT b T) = 0 := r.apart b hb
    have := hv b
    show _ + ((O.lst a xs).cnt b + cntT b T) = 0
    omega
  · have hb' : 0 < cntE b (env.set i none) + ((O.lst a xs).cnt b + cntT b T) := hb
    refine r.new b ?_
    show 0 < cntE b env + (0 + cntT b T)
    have := hv b
    omega
end

/-! ### lent, back: in steps -/
def backsW : Nat → List O → Env → (List O → Prop) → Prop
  | _, [], _, Q => Q []
  | i, .lst a xs :: r, env, Q => match env[i]? with
    | some (some (.lst b ys)) => b = a ∧ backsW (i + 1) r env fun os => Q (.lst b ys :: os)
    | _ => False
  | i, o :: r, env, Q => backsW (i + 1) r env fun os => Q (o :: os)
def lendW : List W → Env → (List O → Prop) → Prop
  | [], _, Q => Q []
  | .o x :: r, env, Q => notTup x = true ∧ lendW r env fun os => Q (x :: os)
  | .al a i p :: r, env, Q => match envAt env i p with
    | some (.lst b xs) => b = a ∧ lendW r env fun os => Q (.lst b xs :: os)
    | _ => False
def giveBackW : List W → List O → Env → (Env → Prop) → Prop
  | [], _, env, Q => Q env
  | .o _ :: r, _ :: os, env, Q => giveBackW r os env Q
  | .al a i p :: r, .lst b xs :: os, env, Q => b = a ∧ giveBackW r os (envPut env i p (.lst b xs)) Q
  | _, _, _, _ => False
def callV (F : FSem) (ws : List W) (env : Env) (Q : W → Env → Prop) (X : Exn → Env → Prop) : Prop :=
  lendW ws env fun os => decide (lentAt ws).Nodup = true ∧ F os (fun r os' => giveBackW ws os' env fun env' => Q (.o r) env') (fun ex os' => giveBackW ws os' env fun env' => X ex env')
theorem onSome_map {α β : Type} {o : Option α} {f : α → β} {Q : β → Prop} (h : onSome o fun x => Q (f x)) : onSome (o.map f) Q := by
  cases o with
  | none => exact h.elim
  | some x => exact h
theorem backs_of : ∀ {os : List O} {i : Nat} {env : Env} {Q : List O → Prop}, backsW i os env Q → onSome (backs i os env) Q
  | [], i, env, Q, h => h
  | .lst a xs :: r, i, env, Q, h => by
    unfold backsW at h
    unfold backs
    cases e : env[i]? with
    | none => simp only [e] at h
    | some x =>
      simp only [e] at h ⊢
      cases x with
      | none => exact h.elim
      | some o =>
        cases o with
        | d _ => exact h.elim
        | tup _ => exact h.elim
        | lst b ys =>
          obtain ⟨h1, h2⟩ := h
          subst h1
          show onSome (if b = b then (backs (i + 1) r env).map (O.lst b ys :: ·) else none) Q
          rw [if_pos rfl]
          exact onSome_map (backs_of h2)
  | .d x :: r, i, env, Q, h => onSome_map (f := (O.d x :: ·)) (backs_of (os := r) h)
  | .tup x :: r, i, env, Q, h => onSome_map (f := (O.tup x :: ·)) (backs_of (os := r) h)
theorem lend_of : ∀ {ws : List W} {env : Env} {Q : List O → Prop}, lendW ws env Q → onSome (lend ws env) Q
  | [], env, Q, h => h
  | .o x :: r, env, Q, h => by
    have h : notTup x = true ∧ lendW r env fun os => Q (x :: os) := h
    unfold lend
    rw [if_pos h.1]
    exact onSome_map (lend_of h.2)
  | .al a i p :: r, env, Q, h => by
    unfold lendW at h
    unfold lend
    cases e : envAt env i p with
    | none => simp only [e] at h
    | some o =>
      simp only [e] at h ⊢
      cases o with
      | d _ => exact h.elim
      | tup _ => exact h.elim
      | lst b xs =>
        obtain ⟨h1, h2⟩ := h
        subst h1
        show onSome (if b = b then (lend r env).map (O.lst b xs :: ·) else none) Q
        rw [if_pos rfl]
        exact onSome_map (lend_of h2)
theorem giveBack_of : ∀ {ws : List W} {os : List O} {env : Env} {Q : Env → Prop}, giveBackW ws os env Q → onSome (giveBack ws os env) Q
  | [], os, env, Q, h => h
  | .o _ :: r, [], env, Q, h => h.elim
  | .o _ :: r, _ :: os, env, Q, h => giveBack_of (ws := r) h
  | .al a i p :: r, [], env, Q, h => h.elim
  | .al a i p :: r, .d _ :: os, env, Q, h => h.elim
  | .al a i p :: r, .tup _ :: os, env, Q, h => h.elim
  | .al a i p :: r, .lst b xs :: os, env, Q, h => by
    obtain ⟨h1, h2⟩ := h
    subst h1
    unfold giveBack
    rw [if_pos rfl]
    exact giveBack_of h2

/-- a def's meaning by its body's reading -/
def semW (w : WS) (n : Nat) : FSem := fun os P PX => w (fun ex env => backsW 0 os env fun os' => PX ex os') (start n os)
    { nx := fun env => backsW 0 os env fun os' => P (.d .none) os'
      rt := fun x env => retW os x env fun r env' => backsW 0 os env' fun os' => P r os'
      bk := fun _ => False
      ct := fun _ => False }
section
open PyProof.Rows
theorem fnV_sem {P : Program} {w : World} {K : PySem.W.Frag} {mg : Str → Option Value} {base : Heap} {k np n : Nat} {f : Addr} {name qual : Str} {params : Arguments} {body : List Stmt} {scope : Scope} {dV kV doc pm cdv ct oc : Value} {an od : Option Addr}
    {osl : Array (Option Value)} {N ps : List Str} {wb : WS} {F : FSem} (lk : K.lookup f = some ⟨oc, od, .func (PySem.W.fnOf name qual params body scope dV kV doc pm an cdv ct), osl⟩) (hcd : PySem.W.codeIn K cdv qual = true) (sc : FnScope N ps scope)
    (hnp : ps.length = np) (hn : N.length = n) (hle : np ≤ n) (imp : ∀ os Q E, F os Q E → semW wb n os Q E)
    (hb : ∀ (A : Around) (outer : List PySem.Env) (s : Shared) (H : Hp) (E : XK) (B : Bs), Room k (A.deeper (envOfC qual scope s.heap.objs.size f cdv)) → A.guards = some [] →
      SS (cxOf (L2.CX P w) P w K mg base N qual scope f cdv A outer s H E) B (fun cls d _ H1 => E cls d H1) body wb) :
    FnV P w K mg base (k + 1) f (PySem.W.fnOf name qual params body scope dV kV doc pm an cdv ct) ps (spV K mg np F) := by
  refine fnV_of lk hcd sc (fun vs H Q E ⟨_, _, _, _, h, _⟩ => by rw [h, hnp]) fun A outer s H vs Q E hr hg ⟨S, os, PP, PX, hv, ho, hnt, rz, ow, hF, hP, hE⟩ => ?_
  refine ⟨_, hb A outer s H E (ownB S H os) hr hg, ?_⟩
  have r0 : R K (ownB S H os) S H (L2.start N vs) (start n os) [] := R.enter rz ow hn.symm (by omega)
  have hS : ∀ a, S a → O.cntL a os = 0 := fun a h => by
    have h1 : 0 + cntT a (vs.zip (os.map W.o)) = 0 := rz.apart a h
    rw [cntT_zip a ow.length] at h1; omega
  have sH := rz.sH
  refine ⟨S, start n os, [], _, _, r0, imp _ _ _ hF, ⟨fun env σ S1 H1 q r1 => ?_, fun x env v σ S1 H1 q r1 => ?_, fun _ _ _ _ q _ => q.elim, fun _ _ _ _ q _ => q.elim⟩, fun ex env S1 H1 σ cls d q r1 hx => ?_⟩
  · obtain ⟨os', hbk, q⟩ := onSome_some (backs_of q)
    obtain ⟨hl, z⟩ := R.exit ow hS sH hnt r1.pushNone hbk
    exact hP _ _ _ _ _ q hl z
  · have fin : ∀ {r : O} {env' : Env} {σ' : L2.St} {S2 : Fz}, (backsW 0 os env' fun os' => PP r os') → R K (ownB S H os) S2 H1 σ' env' [(v, .o r)] → Q v H1 := by
      intro r env' σ' S2 q r2
      obtain ⟨os', hbk, q⟩ := onSome_some (backs_of q)
      obtain ⟨hl, z⟩ := R.exit ow hS sH hnt r2 hbk
      exact hP _ _ _ _ _ q hl z
    have r1 : R K (ownB S H os) S1 H1 σ env [(v, x)] := r1
    cases x with
    | o x => exact fin q r1
    | al a i p =>
      have esc : (escW (.al a i p) env fun x env' => backsW 0 os env' fun os' => PP (.d x) os') → Q v H1 := fun q => by
        obtain ⟨y, env', S2, q, r2⟩ := r1.esc q
        exact fin q r2
      cases p with
      | cons _ _ => exact esc q
      | nil =>
        have hne : (∀ b ys, os[i]? ≠ some (.lst b ys)) → Q v H1 := by
          intro hno
          have q2 : match env[i]? with
            | some (some (.lst b xs)) => b = a ∧ backsW 0 os (env.set i none) fun os' => PP (.lst b xs) os'
            | _ => False := by
            have q' : match os[i]? with
              | some (.lst _ _) => escW (.al a i []) env fun x env' => backsW 0 os env' fun os' => PP (.d x) os'
              | _ => match env[i]? with
                | some (some (.lst b xs)) => b = a ∧ backsW 0 os (env.set i none) fun os' => PP (.lst b xs) os'
                | _ => False := q
            cases e : os[i]? with
            | none => simp only [e] at q'; exact q'
            | some o =>
              cases o with
              | lst b ys => exact absurd e (hno b ys)
              | d _ => simp only [e] at q'; exact q'
              | tup _ => simp only [e] at q'; exact q'
          cases e : env[i]? with
          | none => simp only [e] at q2
          | some o =>
            simp only [e] at q2
            cases o with
            | none => exact q2.elim
            | some o =>
              cases o with
              | d _ => exact q2.elim
              | tup _ => exact q2.elim
              | lst b xs =>
                obtain ⟨hb, q2⟩ := q2
                subst hb
                exact fin q2 (r1.takeOut e)
        cases e : os[i]? with
        | none => exact hne fun b ys z => by rw [e] at z; cases z
        | some o =>
          cases o with
          | d _ => exact hne fun b ys z => by rw [e] at z; cases z
          | tup _ => exact hne fun b ys z => by rw [e] at z; cases z
          | lst b ys =>
            have q' : match os[i]? with
              | some (.lst _ _) => escW (.al a i []) env fun x env' => backsW 0 os env' fun os' => PP (.d x) os'
              | _ => match env[i]? with
                | some (some (.lst b xs)) => b = a ∧ backsW 0 os (env.set i none) fun os' => PP (.lst b xs) os'
                | _ => False := q
            simp only [e] at q'
            exact esc q'
  · obtain ⟨os', hbk, q⟩ := onSome_some (backs_of q)
    obtain ⟨hl, z⟩ := R.exit ow hS sH hnt r1 hbk
    exact hE _ _ _ _ _ _ q hl z hx

/-! ### a call -/
variable {X : Cx} {B : Bs} {Wx : WX}
theorem s_call {k n : Nat} {f : Addr} {fd : FuncData} {ps : List Str} {F : FSem} {x : Str} {p pos : Pos} {e : Expr} {es : List Expr} {wa : WA} (Fn : FnV X.prog X.w X.K X.mg X.base k f fd ps (spV X.K X.mg n F)) (hr : Room k X.A) (hgd : X.A.guards = some [])
    (tk : Takes X Wx) (hg : Gl X x) (hm : X.mg x = some (.ref f)) (hk : PySem.W.keepIn X.K (.ref f) = true) (hb : Binds X.K fd ps []) (ha : SndA X B Wx (e :: es) wa)
    (hdb : (x == ("__debug__" : Str)) = false) (he : starEach (e :: es) X.env = (false, eval e X.env) :: starEach es X.env) (hpl : (backTo pos (starEach es X.env)).any (·.1) = false) :
    PE X (.Call (.Name x p) (e :: es) [] pos) (tE X B Wx fun PX env P => wa PX env fun ws env1 => callV (ar n F) ws env1 P PX) := by
  refine ⟨fun pins s σ H Q I ⟨S, env, T, P, PX, r, hw, hP, hX⟩ => ?_⟩
  have h2 : tA' X B Wx wa σ H fun vs H1 => spV X.K X.mg n F vs H1 Q fun cls d H2 => Wx cls d σ H2 := by
    refine ⟨S, env, T, _, PX, r, hw, fun env1 Z S1 H1 hq r1 => ?_, hX⟩
    obtain ⟨os, hl, hnd, hon, hF⟩ := onSome_some (lend_of hq)
    have hnd := of_decide_eq_true hnd
    obtain ⟨ow, _, rz⟩ := r1.lent hl hnd
    refine ⟨S1, os, _, _, by rw [ow.length, hon], hon, lend_notTup hl, rz, ow, hF, fun rr os' v S2 H2 q hlen z => ?_, fun ex os' cls d S2 H2 q hlen z hx => ?_⟩
    · obtain ⟨env', g, q⟩ := onSome_some (giveBack_of q)
      exact hP _ _ _ _ _ q (R.back (N := [(v, .o rr)]) r1 hl hnd g hlen z)
    · obtain ⟨env', g, q⟩ := onSome_some (giveBack_of q)
      exact hX _ _ _ _ _ _ _ q ((R.back (N := []) r1 hl hnd g hlen z).tmp (fun t ht => nomatch ht) fun b => Nat.zero_le _) hx
  refine wpAny_Call_Name_kw (ld_glob I hg hm ?_ hdb)
  refine PySem.W.callWith_K (h₀ := X.base) I.ok.mod.kin hk (thn (ha.run pos pins s σ H _ I h2) fun us s1 ⟨vs, H1, I1, rv, q⟩ => ⟨I1.kIn, ?_⟩) he hpl
  have vl := Fn.len _ _ _ _ q
  have bd := hb s1 us I1.kIn (by rw [List.append_nil, ← rv.length]; exact vl)
  rw [List.append_nil] at bd
  refine wpAny_call (codeAny_mono (Fn.run X.A X.stack s1 H1 ⟨us, []⟩ us vs Q _ hr hgd I1.env0 bd rv q) fun rr s2 z => ?_)
  cases rr with
  | error ev => exact L2.passAt tk σ pins H1 s1 ev s2 I1 z
  | ok fl =>
    cases fl with
    | ret u => exact I1.after z
    | next => exact z.elim
    | brk => exact z.elim
    | cont => exact z.elim
end
end Vx
namespace Vx
open PySem PySem.Spec L2

/-! ### the meanings, by names -/
def wK (x : D) : WT := fun _ env P => P (.o (.d x)) env
def wBin (op : Bop) (wa wb : WT) : WT := fun PX env P => wa PX env fun x env1 => wb PX env1 fun y env2 => useW x env2 fun dx => useW y env2 fun dy => bopW op dx dy fun o => P (.o o) env2
def wNeg (wa : WT) : WT := fun PX env P => wa PX env fun x env1 => match x with
  | .o (.d (.int i)) => P (.o (.d (.int (-i)))) env1
  | _ => False
def wNot (wa : WT) : WT := fun PX env P => wa PX env fun x env1 => tst x fun b => P (.o (.d (.bool (!b)))) env1
def wAnd (wa wb : WT) : WT := fun PX env P => wa PX env fun x env1 => tst x fun t => if t = true then wb PX env1 P else P (.o (.d (.bool false))) env1
def wOr (wa wb : WT) : WT := fun PX env P => wa PX env fun x env1 => tst x fun t => if t = true then P (.o (.d (.bool true))) env1 else wb PX env1 P
def wIfe (wc wa wb : WT) : WT := fun PX env P => wc PX env fun x env1 => tst x fun t => if t = true then wa PX env1 P else wb PX env1 P
def wCmp (op : Cop) (wa wb : WT) : WT := fun PX env P => wa PX env fun x env1 => wb PX env1 fun y env2 => useW x env2 fun dx => useW y env2 fun dy => cmpW op dx dy fun t => P (.o (.d (.bool t))) env2
def wChain (op op2 : Cop) (wa wb wc : WT) : WT := fun PX env P => wa PX env fun x env1 => wb PX env1 fun y env2 => useW x env2 fun dx => useW y env2 fun dy => cmpW op dx dy fun t =>
  if t = true then wc PX env2 fun z env3 => useW y env3 fun dy2 => useW z env3 fun dz => cmpW op2 dy2 dz fun t2 => P (.o (.d (.bool t2))) env3 else P (.o (.d (.bool false))) env2
def wTup (wl : WA) : WT := fun PX env P => wl PX env fun l env1 => inWs l env1 fun os env2 => os.length ≤ sizeLine ∧ match datas os with
  | some ds => P (.o (.d (.tuple ds))) env2
  | none => P (.o (.tup os)) env2
def wLst (wl : WA) : WT := fun PX env P => wl PX env fun l env1 => inWs l env1 fun os env2 => os.length ≤ sizeLine ∧ ∀ a, P (.o (.lst a os)) env2
def wIx (wa wb : WT) : WT := fun PX env P => wa PX env fun x env1 => wb PX env1 fun y env2 => itemW x y env2 fun w => P w env2
def wSl (wa : WT) (wl wh : WO) : WT := fun PX env P => wa PX env fun x env1 => wl PX env1 fun l env2 => wh PX env2 fun h env3 => useW x env3 fun dx => slW dx l h fun o => P (.o o) env3
def wPrim (p : Prim) (wl : WA) : WT := fun PX env P => wl PX env fun ws env1 => useWs ws env1 fun ds => primW p ds fun o => P (.o o) env1
def wCall (F : FSem) (wl : WA) : WT := fun PX env P => wl PX env fun ws env1 => callV F ws env1 P PX
def wFrz (wa : WT) : WT := fun PX env P => wa PX env fun x env1 => escW x env1 fun d env2 => P (.o (.d d)) env2
def wMut (m : Mut) (wo : WT) (wl : WA) : WT := fun PX env P => wo PX env fun t env1 => wl PX env1 fun ws env2 => inWs ws env2 fun os env3 => doMut m t os env3 P
def aNil : WA := fun _ env P => P [] env
def aCons (we : WT) (ws : WA) : WA := fun PX env P => we PX env fun w env1 => ws PX env1 fun l env2 => P (w :: l) env2
def oNone : WO := fun _ env P => P none env
def oSome (wa : WT) : WO := fun PX env P => wa PX env fun w env1 => match w with
  | .o (.d (.int i)) => P (some i) env1
  | _ => False
def cAll : WC := fun env P => P true env
def cOne (wc : WT) : WC := fun env P => wc (fun _ _ => False) env fun w env1 => tst w fun t => P t env1
def iE (wa : WT) : WI := fun PX env P => wa PX env fun w env1 => srcW w env1 fun s => P s env1
def iR1 (wa : WT) : WI := fun PX env P => wa PX env fun w env1 => match w with
  | .o (.d (.int i)) => inRange i ∧ P ⟨upTo 0 i.toNat, none⟩ env1
  | _ => False
def iR2 (wa wb : WT) : WI := fun PX env P => wa PX env fun w env1 => wb PX env1 fun u env2 => match w, u with
  | .o (.d (.int i)), .o (.d (.int j)) => inRange i ∧ inRange j ∧ P ⟨upTo i (j - i).toNat, none⟩ env2
  | _, _ => False
def iEnum (wa : WT) : WI := fun PX env P => wa PX env fun w env1 => match w with
  | .o y => onSome (seqOf y.toD) fun ds => P ⟨numbered ds, none⟩ env1
  | _ => False
def sNil : WS := fun _ env k => k.nx env
def sCons (w u : WS) : WS := fun PX env k => w PX env { k with nx := fun env1 => u PX env1 k }
def sPass : WS := fun _ env k => k.nx env
def sBrk : WS := fun _ env k => k.bk env
def sCnt : WS := fun _ env k => k.ct env
def sExpr (we : WT) : WS := fun PX env k => we PX env fun _ env1 => k.nx env1
def sRet (we : WT) : WS := fun PX env k => we PX env k.rt
def sRetN : WS := fun _ env k => k.rt (.o (.d .none)) env
def sIf (wc : WT) (wx wy : WS) : WS := fun PX env k => wc PX env fun x env1 => tst x fun t => if t = true then wx PX env1 k else wy PX env1 k
def sAsg (t : Tg) (we : WT) : WS := fun PX env k => we PX env fun w env1 => bindT t w env1 k.nx
def sSetIx (we wo wi : WT) : WS := fun PX env k => we PX env fun w env1 => inW w env1 fun x env2 => wo PX env2 fun t env3 => wi PX env3 fun n env4 => setW t n x env4 k.nx
def forStep (t : Tg) (wb : WS) (PX : Exn → Env → Prop) (k : Kt) : D → Env → (Env → Prop) → Prop := fun x env2 K => bindT t (.o (.d x)) env2 fun env3 => wb PX env3 { k with nx := K, ct := K, bk := k.nx }
def sFor (t : Tg) (wi : WI) (wb : WS) : WS := fun PX env k => wi PX env fun s env1 => goFor s (forStep t wb PX k) s.xs env1 k.nx
def sWhile (wc : WT) (wb : WS) : WS := fun PX env k => ∃ V : Nat → Env → Prop, (∃ m, V m env) ∧ ∀ m e1, V m e1 → wc PX e1 fun w e2 => tst w fun t =>
  if t = true then wb PX e2 { k with nx := fun e3 => ∃ m', m' < m ∧ V m' e3, ct := fun e3 => ∃ m', m' < m ∧ V m' e3, bk := k.nx } else k.nx e2

/-! ### the rules, by names -/
section
variable {X : Cx} {B : Bs} {Wx : WX} {a b c e o : Expr} {wa wb wc we wo wi : WT} {pos : Pos} {es : List Expr} {wl : WA}
abbrev PV (X : Cx) (B : Bs) (Wx : WX) (e : Expr) (w : WT) : Prop := PE X e (tE X B Wx w)
theorem c_int {i : Int} (h : PE X a (tC (.int i))) : PV X B Wx a (wK (.int i)) := s_const h fun _ _ _ => .int _
theorem c_str {i : Str} (h : PE X a (tC (.str i))) : PV X B Wx a (wK (.str i)) := s_const h fun _ _ _ => .str _
theorem c_bool {i : Bool} (h : PE X a (tC (.bl i))) : PV X B Wx a (wK (.bool i)) := s_const h fun _ _ _ => .bl _
theorem c_none (h : PE X a (tC .non)) : PV X B Wx a (wK .none) := s_const h fun _ _ _ => .non
theorem c_var (i : Nat) {x : Str} (hN : X.N[i]? = some x) (hv : Vis X.env.scope x) (hd : (x == ("__debug__" : Str)) = false) (hcd : (x == ("__classdict__" : Str)) = false) : PV X B Wx (.Name x pos) (wVar i) := s_var (pe_var hN hv hd hcd)
theorem c_bin (op : Bop) (ha : PV X B Wx a wa) (hb : PV X B Wx b wb) : PV X B Wx (.BinOp a (opOf op) b pos) (wBin op wa wb) := s_bin op ha hb
theorem c_neg (ha : PV X B Wx a wa) : PV X B Wx (.UnaryOp .USub a pos) (wNeg wa) := s_neg ha
theorem c_not (ha : Snd X B Wx a wa) : Snd X B Wx (.UnaryOp .Not a pos) (wNot wa) := s_not ha
theorem l_one {op : BoolOp} (ha : Snd X B Wx a wa) : SndL X B Wx op [a] pos wa := sl_one ha
theorem l_and {rest : List Expr} (ha : Snd X B Wx a wa) (hb : SndL X B Wx .And (b :: rest) pos wb) : SndL X B Wx .And (a :: b :: rest) pos (wAnd wa wb) := sl_and ha hb
theorem l_or {rest : List Expr} (ha : Snd X B Wx a wa) (hb : SndL X B Wx .Or (b :: rest) pos wb) : SndL X B Wx .Or (a :: b :: rest) pos (wOr wa wb) := sl_or ha hb
theorem c_ife (hc : Snd X B Wx c wc) (ha : PV X B Wx a wa) (hb : PV X B Wx b wb) : PV X B Wx (.IfExp c a b pos) (wIfe wc wa wb) := s_ife hc ha hb
theorem c_cmp {k : Nat} (hr : Room k X.A) (op : Cop) (ha : PV X B Wx a wa) (hb : PV X B Wx b wb) (hm : behindInMarks (cmpOf op) b = false) : Snd X B Wx (.Compare a [cmpOf op] [b] pos) (wCmp op wa wb) := s_cmp hr op ha hb hm
theorem c_chain {k : Nat} (hr : Room k X.A) (op op2 : Cop) (ha : PV X B Wx a wa) (hb : PV X B Wx b wb) (hc : PV X B Wx c wc) (hm : lastMarks [cmpOf op, cmpOf op2] [b, c] = false) : Snd X B Wx (.Compare a [cmpOf op, cmpOf op2] [b, c] pos) (wChain op op2 wa wb wc) := s_chain hr op op2 ha hb hc hm
theorem c_snd (h : PV X B Wx e we) (he : ∀ whole, isTrue e X.env whole = (do let v ← whole; standAt e.pos; holding [v] (truthy v))) : Snd X B Wx e we := snd_plain h he
theorem a_nil : SndA X B Wx [] aNil := sa_nil
theorem a_cons {ws : WA} (he : PV X B Wx e we) (hs : SndA X B Wx es ws) (st : starEach (e :: es) X.env = (false, eval e X.env) :: starEach es X.env) : SndA X B Wx (e :: es) (aCons we ws) := sa_cons he hs st
theorem c_tup {k : Nat} (h : SndA X B Wx es wl) : PV X B Wx (.Tuple es k pos) (wTup wl) := s_tup h
theorem c_lst (h : SndA X B Wx es wl) : PV X B Wx (.List es pos) (wLst wl) := s_lst h
theorem c_frz (h : PV X B Wx e we) : PV X B Wx e (wFrz we) := s_frz h
theorem c_ix (ha : PV X B Wx a wa) (hb : PV X B Wx b wb) (hs : PlainIx b) : PV X B Wx (.Subscript a b pos) (wIx wa wb) := s_ix ha hb hs
theorem o_none : PO X none (tO X B Wx oNone) := so_none
theorem o_some (ha : PV X B Wx a wa) : PO X (some a) (tO X B Wx (oSome wa)) := so_some ha
theorem c_sl {lo hi : Option Expr} {p2 : Pos} {wl wh : WO} (ha : PV X B Wx a wa) (hl : PO X lo (tO X B Wx wl)) (hh : PO X hi (tO X B Wx wh)) : PV X B Wx (.Subscript a (.Slice lo hi none p2) pos) (wSl wa wl wh) := s_sl ha hl hh
theorem i_e {tg : Expr} (h : PV X B Wx a wa) : PI X tg a (tI X B Wx (iE wa)) := i_seq h
theorem i_rg1 {tg : Expr} {p : Pos} (hg : Gl X "range") (hm : X.mg "range" = none) (h : PV X B Wx a wa) (hs : starEach [a] X.env = [(false, eval a X.env)]) : PI X tg (.Call (.Name "range" p) [a] [] pos) (tI X B Wx (iR1 wa)) := i_r1 hg hm h hs
theorem i_rg2 {tg : Expr} {p : Pos} (hg : Gl X "range") (hm : X.mg "range" = none) (ha : PV X B Wx a wa) (hb : PV X B Wx b wb) (hs : starEach [a, b] X.env = [(false, eval a X.env), (false, eval b X.env)]) (hs2 : starEach [b] X.env = [(false, eval b X.env)]) :
    PI X tg (.Call (.Name "range" p) [a, b] [] pos) (tI X B Wx (iR2 wa wb)) := i_r2 hg hm ha hb hs hs2
theorem i_en {p tpos : Pos} {elts : List Expr} {kk : Nat} (hg : Gl X "enumerate") (hm : X.mg "enumerate" = none) (h : PV X B Wx a wa) (hs : starEach [a] X.env = [(false, eval a X.env)]) : PI X (.Tuple elts kk tpos) (.Call (.Name "enumerate" p) [a] [] pos) (tI X B Wx (iEnum wa)) := i_enum hg hm h hs
theorem q_all : SndC X B [] cAll := sc_nil
theorem q_one (h : Snd X B W0 c wc) : SndC X B [c] (cOne wc) := sc_one h
theorem z_nil : SS X B Wx [] sNil := ss_nil
theorem z_cons {st : Stmt} {rest : List Stmt} {w u : WS} (h : S1 X B Wx st w) (h2 : SS X B Wx rest u) : SS X B Wx (st :: rest) (sCons w u) := ss_cons (w := w) (u := u) h h2
theorem z_pass : S1 X B Wx (.Pass pos) sPass := st_pass
theorem z_brk : S1 X B Wx (.Break pos) sBrk := st_brk
theorem z_cnt : S1 X B Wx (.Continue pos) sCnt := st_cnt
theorem z_expr (he : PV X B Wx e we) (hs : swapsWith e none pos.line X.env = pure false) : S1 X B Wx (.Expr e pos) (sExpr we) := st_expr he hs
theorem z_ret (he : PV X B Wx e we) : S1 X B Wx (.Return (some e) pos) (sRet we) := st_ret he
theorem z_retN : S1 X B Wx (.Return none pos) sRetN := st_retN
theorem z_if {xs ys : List Stmt} {wx wy : WS} (hc : Snd X B Wx c wc) (ha : SS X B Wx xs wx) (hb : SS X B Wx ys wy) : S1 X B Wx (.If c xs ys pos) (sIf wc wx wy) := st_if hc ha hb
theorem z_asg {tg : Expr} {t : Tg} (he : PV X B Wx e we) (hg : PG X tg (gT X B t)) (hs : swapsWithSole [tg] e pos.line X.env = pure false) (hw : swappedStores [tg] e X.env = pure none)
    (h1 : (assignEach [tg] X.env).map (·.2) = [assign tg X.env]) : S1 X B Wx (.Assign [tg] e pos) (sAsg t we) := st_asg he hg hs hw h1
theorem z_for {tg it : Expr} {t : Tg} {wi : WI} {body : List Stmt} {wb : WS} (hp : PassesOwn (model X.prog X.w) X.A X.env X.xe) (hc : X.calm = true) (hi : PI X tg it (tI X B Wx wi)) (hg : PG X tg (gT X B t)) (hb : SS X B Wx body wb)
    (hs : ∀ x, foldedSetIterable it X.env x = pure x) : S1 X B Wx (.For tg it body [] pos) (sFor t wi wb) := st_for hp hc hi hg hb hs
theorem z_while {body : List Stmt} {wb : WS} (hp : PassesOwn (model X.prog X.w) X.A X.env X.xe) (hc : Snd X B Wx c wc) (hb : SS X B Wx body wb) : S1 X B Wx (.While c body [] pos) (sWhile wc wb) := st_while hp hc hb
theorem takes_blk (h : X.xe = fun _ _ => False) : Takes X W0 := fun u s' ⟨_, _, _, _, _, _, _, _, _, _, _, _, _, _, _, _, w⟩ => w.elim

/-! ### o[i] = e; append -/
theorem inW_split {S : Fz} {H : Hp} {σ : L2.St} {env : Env} {T : List (V × W)} {K : PySem.W.Frag} {v : V} {w : W} {Q : O → Env → Prop} (r : R K B S H σ env ((v, w) :: T)) (h : inW w env Q) : ∃ o env' S', Q o env' ∧ R K B S' H σ env' ((v, .o o) :: T) := r.into h
theorem R.setAt {S : Fz} {H : Hp} {σ : L2.St} {env : Env} {T : List (V × W)} {K : PySem.W.Frag} {v : V} {o : O} {a : Addr} {i j : Nat} {p : List Stp} {xs : List O} (r : R K B S H σ env ((v, .o o) :: T)) (h : envAt env i p = some (.lst a xs)) :
    ∃ vs, H a = some (.lst vs) ∧ vs.length = xs.length ∧ (j < xs.length → R K B S (upd H a (.lst (vs.set j v))) σ (envPut env i p (.lst a (xs.set j o))) T) ∧
      R K B S (upd H a (.lst (vs ++ [v]))) σ (envPut env i p (.lst a (xs ++ [o]))) T := by
  obtain ⟨vs, e, ow⟩ := r.seenAt h
  have qo : OwnR K S H v o := r.tmps (v, .o o) List.mem_cons_self
  obtain ⟨oo, eo, ha⟩ := envAt_some h
  have hoc : ∀ b, oo.cnt b ≤ cntE b env := fun b => cntE_get eo
  obtain ⟨vv, _, qq⟩ := r.slots i oo eo
  obtain ⟨_, q', hle⟩ := qq.at ha
  have hone : ∀ b, cntE b env + (o.cnt b + cntT b T) ≤ 1 := r.one
  have hself : 1 ≤ (O.lst a xs).cnt a := by show 1 ≤ (if a = a then 1 else 0) + O.cntL a xs; rw [if_pos rfl]; omega
  have ha1 : ∀ b, (O.lst a xs).cnt b + o.cnt b + cntT b T ≤ 1 := fun b => by have := hone b; have := hoc b; have := hle b; omega
  have nS : ¬ S a := fun z => by have h1 : cntE a env + (o.cnt a + cntT a T) = 0 := r.apart a z; have := hoc a; have := hle a; omega
  have na : o.cnt a = 0 := by have := ha1 a; omega
  have nT : cntT a T = 0 := by have := ha1 a; omega
  have cl : ∀ b, (O.lst a xs).cnt b = (if a = b then 1 else 0) + O.cntL b xs := fun b => rfl
  have nx : O.cntL a xs = 0 := by have := ha1 a; have := cl a; rw [if_pos rfl] at this; omega
  have other : ∀ (us : List V) b, a ≠ b → upd H a (.lst us) b = H b := fun us b z => upd_ne (Ne.symm z)
  have go : ∀ (us : List V) (ys : List O), (∀ H', Kp S S H H' → (∀ b, a ≠ b → H' b = H b) → H' a = some (.lst us) → OwnA K S H' us ys) → (∀ b, O.cntL b ys ≤ O.cntL b xs + o.cnt b) → R K B S (upd H a (.lst us)) σ (envPut env i p (.lst a ys)) T := by
    intro us ys how hc
    have k : Kp S S H (upd H a (.lst us)) := Kp.put e nS
    have r' : R K B S H σ env ([(v, W.o o)] ++ T) := r
    have cP : ∀ b, cntT b [(v, W.o o)] = o.cnt b := fun b => by show o.cnt b + 0 = _; omega
    refine R.putAt (P := [(v, W.o o)]) r' h k (fun w qw => ?_) (fun t ht qt => ?_) (fun b hb h0 h1 => ?_) (fun b => ?_) (fun b hb => .inl hb) (fun b hb => ?_) (fun b u hb h0 h1 => ?_) fun b hb => ?_
    · have : w = .ref a := qw.ref rfl
      rw [this]
      exact .lst upd_same (how _ k (other us) upd_same)
    · refine qt.kp k fun b hb => other us b fun z => ?_
      subst z
      have h3 : cntW a t.2 ≤ cntT a T := cntT_mem (b := a) ht
      omega
    · refine other us b fun z => ?_
      subst z; omega
    · rw [cP]
      show (if a = b then 1 else 0) + O.cntL b ys ≤ (O.lst a xs).cnt b + o.cnt b
      have := hc b; have := cl b
      omega
    · rw [k.h b hb]; exact r.sH b hb
    · rw [other us b fun z => by subst z; omega]; exact hb
    · by_cases z : a = b
      · subst z; rw [upd_same] at hb; cases hb
      · rw [other us b z] at hb; exact hb
  refine ⟨vs, e, ow.length, fun hj => go _ _ (fun H' k ot e' => ?_) fun b => ?_, go _ _ (fun H' k ot e' => ?_) fun b => ?_⟩
  · refine OwnA.set j (ow.kp k fun b hb => ot b fun z => ?_) (qo.kp k fun b hb => ot b fun z => ?_)
    · subst z; omega
    · subst z; omega
  · have hx : xs[j]? = some xs[j] := List.getElem?_eq_getElem hj
    have := O.cntL_set (p := b) (y := o) hx
    omega
  · refine (ow.kp k fun b hb => ot b fun z => ?_).append (.cons (qo.kp k fun b hb => ot b fun z => ?_) .nil)
    · subst z; omega
    · subst z; omega
  · rw [O.cntL_append]
    show O.cntL b xs + (o.cnt b + 0) ≤ _
    omega
theorem z_setIx {p2 : Pos} (he : PV X B Wx e we) (ho : PV X B Wx o wo) (hi : PV X B Wx b wb)
    (ha : ∀ v, assign (.Subscript o b p2) X.env v = (do
      let ov ← holding [v] (eval o X.env)
      let iv ← holding [v, ov] (eval b X.env)
      standAt p2
      holding [v, ov, iv] (setItem ov iv v)
      release [v, ov, iv] []))
    (hs : swapsWithSole [.Subscript o b p2] e pos.line X.env = pure false) (hw : swappedStores [.Subscript o b p2] e X.env = pure none)
    (h1 : (assignEach [.Subscript o b p2] X.env).map (·.2) = [assign (.Subscript o b p2) X.env]) : S1 X B Wx (.Assign [.Subscript o b p2] e pos) (sSetIx we wo wb) := by
  refine PS_imp (ps_asg he (pg_sub ho hi set_list ha) hs hw h1) fun D σ H ⟨S, env, T, k, PX, r, hq, hE, hX⟩ => ?_
  refine ⟨S, env, T, _, PX, r, hq, fun x env1 v S1 H1 q r1 => ?_, hX⟩
  obtain ⟨x', env2, S2, q, r2⟩ := r1.into q
  refine ⟨S2, env2, (v, .o x') :: T, _, PX, r2, q, fun t env3 vt S3 H3 q r3 => ?_, hX⟩
  refine ⟨S3, env3, (vt, t) :: (v, .o x') :: T, _, PX, r3, q, fun n env4 vn S4 H4 q r4 => ?_, hX⟩
  have q9 : setW t n x' env4 k.nx := q
  clear q
  cases t with
  | o _ => exact q9.elim
  | al a i p =>
    unfold setW at q9
    cases ee : envAt env4 i p with
    | none => simp only [ee] at q9
    | some y =>
      simp only [ee] at q9
      cases y with
      | d _ => exact q9.elim
      | tup _ => exact q9.elim
      | lst b2 xs =>
        obtain ⟨hb, q8⟩ := q9
        subst hb
        have rr : R X.K B S4 H4 σ env4 ([(vn, n)] ++ ((vt, .al b2 i p) :: (v, .o x') :: T)) := r4
        obtain ⟨S5, r5, fu⟩ := rr.used
        obtain ⟨d, q7, ud⟩ := fu (vn, n) List.mem_cons_self _ q8
        cases d with
        | int m =>
          obtain ⟨j, hj, q6⟩ := onSome_some q7
          have ev : vn = .int m := ud.int
          have et : vt = .ref b2 := r4.tmps (vt, .al b2 i p) (List.mem_cons_of_mem _ List.mem_cons_self)
          have r6 : R X.K B S5 H4 σ env4 ((v, .o x') :: T) := r5.perm (fun t ht => List.mem_cons_of_mem _ (List.mem_cons_of_mem _ ht)) fun b => by
            show _ ≤ _ + (_ + _)
            omega
          obtain ⟨vs, hv, hl, rs, _⟩ := r6.setAt (j := j) ee
          have hjl : j < xs.length := by
            exact (ixN_seq hj).2.1
          exact ⟨b2, vs, m, j, et, ev, hv, by rw [hl]; exact hj, hE.nx _ _ _ _ q6 (rs hjl)⟩
        | _ => exact q7.elim
end
end Vx
namespace Vx
open PySem PySem.Spec L2
section
variable {X : Cx} {B : Bs} {Wx : WX} {a b c e o : Expr} {wa wb wc we wo wi : WT} {pos : Pos} {es : List Expr} {wl : WA}
/-! ### calls of what is built in -/
theorem prim_run {p : Prim} (ok : PrimOk X p) (ha : SndA X B Wx es wl) {pins : List (Addr × Obj)} {s : Shared} {σ : L2.St} {H : Hp} {Q : VK} (I : L2.Inv X pins σ H s) (h : tE X B Wx (wPrim p wl) σ H Q) :
    ∃ Qa : List V → Hp → Prop, tA' X B Wx wl σ H Qa ∧ ∀ us s1 vs H1, L2.Inv X pins σ H1 s1 → Vals vs us → Qa vs H1 → wpAny (model X.prog X.w) X.A (call (primV p) us) (EP X pins σ Q) X.xe s1 := by
  obtain ⟨S, env, T, P, PX, r, hw, hP, hX⟩ := h
  refine ⟨fun vs H1 => ∃ S1 env1 ds, R X.K B S1 H1 σ env1 T ∧ UdA X.K S1 H1 vs ds ∧ primW p ds fun o => P (.o o) env1, ⟨S, env, T, _, PX, r, hw, fun env1 Z S1 H1 q r1 => ?_, hX⟩, fun us s1 vs H1 I1 rv ⟨S1, env1, ds, r1, ud, q⟩ => ?_⟩
  · obtain ⟨S2, ds, r2, q, ud⟩ := r1.usedAll q
    exact ⟨S2, env1, ds, r2.pops, ud, q⟩
  · exact ok pins s1 σ H1 vs us Q B S1 env1 T ds _ I1 rv r1 ud q fun o v S' H' q r2 => hP _ _ _ _ _ q r2
theorem c_primB {p : Prim} {id : String} {x : Str} {np : Pos} (ok : PrimOk X p) (hv : primV p = .builtin id) (hg : Gl X x) (hm : X.mg x = none) (hb : bootBuiltins x = some (.builtin id)) (ha : SndA X B Wx (e :: es) wl) (hn : x ≠ "__name__") (hd : (x == ("__debug__" : Str)) = false)
    (he : starEach (e :: es) X.env = (false, eval e X.env) :: starEach es X.env) (hpl : (backTo pos (starEach es X.env)).any (·.1) = false) : PV X B Wx (.Call (.Name x np) (e :: es) [] pos) (wPrim p wl) := by
  refine ⟨fun pins s σ H Q I h => ?_⟩
  obtain ⟨Qa, h2, run⟩ := prim_run ok ha I h
  rw [hv] at run
  exact wpAny_Call_Name_kw (ld_blt I hg hm hb (PyProof.Rows.callWith_builtin1 (thn (ha.run pos pins s σ H Qa I h2) fun us s1 ⟨vs, H1, I1, rv, q⟩ => run us s1 vs H1 I1 rv q) he hpl) hn hd)
theorem c_primT {p : Prim} {id : String} {x : Str} {np : Pos} (ok : PrimOk X p) (hv : primV p = .type id) (hg : Gl X x) (hm : X.mg x = none) (hb : bootBuiltins x = some (.type id)) (ha : SndA X B Wx (e :: es) wl) (hn : x ≠ "__name__") (hd : (x == ("__debug__" : Str)) = false)
    (he : starEach (e :: es) X.env = (false, eval e X.env) :: starEach es X.env) (hpl : (backTo pos (starEach es X.env)).any (·.1) = false) : PV X B Wx (.Call (.Name x np) (e :: es) [] pos) (wPrim p wl) := by
  refine ⟨fun pins s σ H Q I h => ?_⟩
  obtain ⟨Qa, h2, run⟩ := prim_run ok ha I h
  rw [hv] at run
  exact wpAny_Call_Name_kw (ld_blt I hg hm hb (PyProof.Rows.callWith_type1 (thn (ha.run pos pins s σ H Qa I h2) fun us s1 ⟨vs, H1, I1, rv, q⟩ => run us s1 vs H1 I1 rv q) he hpl) hn hd)

/-! ### comprehensions, by names -/
theorem c_comp {elt tg iter : Expr} {ifs : List Expr} {scope : Scope} {own : List (Str × Nat)} {t : Tg} {wi : WI} {wcnd : WC} (hc : X.calm = true) (hN : X.N.Nodup)
    (hi : PI X tg iter (tI X B Wx wi)) (ok : BlkOk X.N X.env.scope scope own) (hown : (own.map (·.2)).Nodup) (hsub : ∀ i ∈ t.slots, i ∈ own.map (·.2))
    (hb : ∀ (s : Shared) (H : Hp) (C : Addr) (cl : List (Str × Addr)) (fp : List Addr), PG (X.blk s H scope (compEnvC scope cl C X.env) fp) tg (gT X B t) ∧
      SndC (X.blk s H scope (compEnvC scope cl C X.env) fp) B ifs wcnd ∧ PE (X.blk s H scope (compEnvC scope cl C X.env) fp) elt (tE X B W0 we))
    (hs : ∀ x, foldedSetIterable iter X.env x = pure x) : PV X B Wx (.ListComp elt [⟨tg, iter, ifs, 0⟩] scope pos) (wComp wi (own.map (·.2)) t wcnd we) :=
  s_comp hc hN hi ok hown hsub (fun s H C cl fp => (hb s H C cl fp).1) (fun s H C cl fp => (hb s H C cl fp).2.1) (fun s H C cl fp => (hb s H C cl fp).2.2) hs
theorem z_setLc {i : Nat} {y : Str} {py spos : Pos} {elt tg iter : Expr} {ifs : List Expr} {scope : Scope} {own : List (Str × Nat)} {t : Tg} {wi : WI} {wcnd : WC} (hc : X.calm = true) (hN : X.N.Nodup) (hy : X.N[i]? = some y) (hyl : X.env.scope.names.lookup y = some .local)
    (hsw : swapsWith (.ListComp elt [⟨tg, iter, ifs, 0⟩] scope pos) (some (.Name y py)) spos.line X.env = pure true)
    (hi : PI X tg iter (tI X B Wx wi)) (ok : BlkOk X.N X.env.scope scope own) (hown : (own.map (·.2)).Nodup) (hsub : ∀ i ∈ t.slots, i ∈ own.map (·.2))
    (hb : ∀ (s : Shared) (H : Hp) (C : Addr) (cl : List (Str × Addr)) (fp : List Addr), PG (X.blk s H scope (compEnvC scope cl C X.env) fp) tg (gT X B t) ∧
      SndC (X.blk s H scope (compEnvC scope cl C X.env) fp) B ifs wcnd ∧ PE (X.blk s H scope (compEnvC scope cl C X.env) fp) elt (tE X B W0 we))
    (hs : ∀ x, foldedSetIterable iter X.env x = pure x) :
    S1 X B Wx (.Assign [.Name y py] (.ListComp elt [⟨tg, iter, ifs, 0⟩] scope pos) spos) (sAsg (.v i) (wComp wi (own.map (·.2)) t wcnd we)) :=
  st_setLc hc hN hy hyl hsw hi ok hown hsub (fun s H C cl fp => (hb s H C cl fp).1) (fun s H C cl fp => (hb s H C cl fp).2.1) (fun s H C cl fp => (hb s H C cl fp).2.2) hs
theorem g_nm {i : Nat} {x : Str} (hN : X.N.Nodup) (hi : X.N[i]? = some x) (hx : Loc X.env.scope x) (hf : X.fn x = true ∨ X.env.scope.names.lookup x = some .local) : PG X (.Name x pos) (gT X B (.v i)) := g_name (pg_name hN hi hx hf)
theorem g_tp {is : List Nat} {k n : Nat} (hc : X.calm = true) (h : PGs X es (gNames is)) (hn : (assignEach es X.env).length = n) (hst : (assignEach es X.env).findIdx? (·.1) = none) (hl : is.length = n) : PG X (.Tuple es k pos) (gT X B (.tup is)) :=
  g_tup (pg_tup hc h hn hst) (pg_unl hc h hn hst) hl
theorem gs_nil : PGs X [] (gNames []) := pgs_nil
theorem gs_cons {i : Nat} {is : List Nat} {x : Str} {p : Pos} (hN : X.N.Nodup) (hi : X.N[i]? = some x) (hx : Loc X.env.scope x) (hf : X.fn x = true ∨ X.env.scope.names.lookup x = some .local) (h : PGs X es (gNames is))
    (hs : (assignEach (.Name x p :: es) X.env).map (·.2) = assign (.Name x p) X.env :: (assignEach es X.env).map (·.2)) : PGs X (.Name x p :: es) (gNames (i :: is)) := pgs_cons (pg_name hN hi hx hf) h hs
end

/-! ### the law's end -/
theorem spV_law {K : PySem.W.Frag} {mg : Str → Option Value} {F : FSem} {H : Hp} {a : Addr} {ns : List Int} (hO : Only H) (hS : SqL K H a (ns.map V.int)) (hF : F [.d (.list (ns.map PyData.int))] (fun r _ => r = .d (.bool true)) fun _ _ => False) :
    spV K mg 1 F [.ref a] H (fun v _ => v = .bl true) fun _ _ _ => False := by
  have fz : FzL K (fun _ => False) H a (ns.map V.int) := by
    rcases hS with h | h
    · rcases h with h | h
      · rcases hO a with z | ⟨o, xs, z⟩
        · rw [h] at z; cases z
        · rw [h] at z; cases z
      · exact .inr (.inl h)
    · exact .inr (.inr h)
  have rp : Rp K (fun _ => False) H (.ref a) (.list (ns.map PyData.int)) := .lst fz (RpA.of_ints ns)
  refine ⟨fun _ => False, [.d (.list (ns.map PyData.int))], _, _, rfl, rfl, rfl, ⟨rfl, (fun i o e => nomatch e), fun t ht => ?_, fun b => ?_, (fun _ h => h.elim), (fun _ h => h.elim), fun _ _ h _ => h, fun _ h => h, fun b hb => ?_, (fun _ h => h.elim), fun _ h => h⟩, .cons (.d rp) .nil, hF, fun r os' v S' H' q hl z => ?_, fun _ _ _ _ _ _ q => q.elim⟩
  · rcases List.mem_cons.mp ht with e | ht
    · subst e; exact OwnR.d rp
    · exact nomatch ht
  · show 0 + (0 + 0) ≤ 1
    omega
  · have hb' : 0 < 0 + (0 + 0) := hb
    omega
  · have q : r = .d (.bool true) := q
    subst q
    exact R.boolTop z
open PyProof.Rows in
/-- the law's promise at the heap behind the top -/
theorem law_V {P : Program} {w : World} {K : PySem.W.Frag} {mg mb : Str → Option Value} {k : Nat} {fa a : Addr} {fd : FuncData} {x : Str} {F : FSem} {s₁ : Shared} {vs : List Value} {ns : List Int}
    (inK : K.In s₁.heap) (ng : s₁.heap.Ns mainGlobals mg) (nb : s₁.heap.Ns builtinsNs mb) (bb : ∀ x : Str, x ≠ "__name__" → mb x = bootBuiltins x) (far : s₁.heap.NoLimit) (gs : s₁.gens = #[])
    (ga : s₁.heap.get? a = some { cls := .type "list", data := .seq vs.toArray }) (hi : IntsAre vs ns) (hl : ns.length ≤ sizeLine) (hr : Room k callerA)
    (Fn : ∀ base : Heap, K.In base → base.Ns mainGlobals mg → FnV P w K mg base k fa fd [x] (spV K mg 1 F)) (bnd : ∀ (s : Shared) (u : Value), BindsTo s fd ⟨[u], []⟩ [(x, u)])
    (hF : F [.d (.list (ns.map PyData.int))] (fun r _ => r = .d (.bool true)) fun _ _ => False) :
    codeAny (model P w) callerA (.call (.ref fa) ⟨[.ref a], []⟩) (fun r s' => r = .ok (.ret (.bool true)) ∧ OldK s₁.heap s'.heap ∧ s'.os = s₁.os ∧ AllBare s'.gens) s₁ := by
  have iv : Vals (ns.map V.int) vs := vals_ints hi
  have nl := hi.length
  suffices main : ∀ H : Hp, Only H → SqL K H a (ns.map V.int) → HOk P w H s₁.heap → (∀ b, H b ≠ none → b = a) → (H a ≠ none → K.lookup a = none) →
      codeAny (model P w) callerA (.call (.ref fa) ⟨[.ref a], []⟩) (fun r s' => r = .ok (.ret (.bool true)) ∧ OldK s₁.heap s'.heap ∧ s'.os = s₁.os ∧ AllBare s'.gens) s₁ by
    cases ek : K.lookup a with
    | none =>
      have z1 : ∀ b, b ≠ a → (if b = a then some (HO.frz { cls := .type "list", data := .seq vs.toArray } (.lst (ns.map V.int))) else none) = none := fun b h => if_neg h
      refine main (fun b => if b = a then some (.frz { cls := .type "list", data := .seq vs.toArray } (.lst (ns.map V.int))) else none) (fun b => ?_) (.inl (.inr ⟨_, if_pos rfl⟩)) (fun b u z => ?_) (fun b z => ?_) fun _ => ek
      · by_cases h : b = a
        · exact .inr ⟨_, _, if_pos h⟩
        · exact .inl (z1 b h)
      · by_cases h : b = a
        · subst h
          have z' := (if_pos rfl).symm.trans z
          cases z'
          exact ⟨ga, by rw [List.length_map]; exact hl, vs, _, iv, ga⟩
        · cases (z1 b h).symm.trans z
      · by_cases h : b = a
        · exact h
        · exact absurd (z1 b h) z
    | some o =>
      have eo := inK a o ek
      rw [ga] at eo
      cases eo
      exact main (fun _ => none) (fun _ => .inl rfl) (.inr ⟨_, vs.toArray, _, ek, rfl, rfl, rfl, by rw [List.size_toArray, nl]; exact hl, by simpa using iv⟩) (fun b u z => nomatch (show (none : Option HO) = some u from z)) (fun b z => (z rfl).elim) fun z => (z rfl).elim
  intro H hO hS hok hA hK
  have there : ∀ {b : Addr} {o : Obj} {es : Array DictEntry} {ep : Nat}, s₁.heap.get? b = some o → o.data = .dict es ep → (hidT s₁.heap H).get? b = some o := fun {b o es ep} e d => by
    refine hidT_get e ?_
    cases q : H b with
    | none => rfl
    | some u =>
      obtain rfl : b = a := hA b (by rw [q]; exact fun z => nomatch z)
      rw [ga] at e
      cases e
      exact nomatch (show Data.seq vs.toArray _ = Data.dict es ep from d)
  have ns2 : ∀ {b : Addr} {m : Str → Option Value}, s₁.heap.Ns b m → (hidT s₁.heap H).Ns b m := fun {b m} ⟨o, es, ep, e, d, r⟩ => ⟨o, es, ep, there e d, d, r⟩
  have inB : K.In (hidT s₁.heap H) := fun b o e => hidT_get (inK b o e) (by
    cases q : H b with
    | none => rfl
    | some u =>
      obtain rfl : b = a := hA b (by rw [q]; exact fun z => nomatch z)
      rw [hK (by rw [q]; exact fun z => nomatch z)] at e
      cases e)
  obtain ⟨mc, l1, l2⟩ := far
  have md : Mod K mg (hidT s₁.heap H) := ⟨inB, ns2 ng, ⟨mb, ns2 nb, bb⟩, mc, ns2 l1, l2⟩
  have e0 : Env0 P w K mg (hidT s₁.heap H) callerA [] s₁ H := ⟨rfl, md, fun b o e => of_hidT e, Nat.le_of_eq (hidT_size _ _), trivial, (fun b hb => nomatch (show b ∈ ([] : List Addr) from hb)), hok, .of_eq gs⟩
  refine codeAny_mono ((Fn _ inB (ns2 ng)).run callerA [] s₁ H ⟨[.ref a], []⟩ [.ref a] [.ref a] _ _ hr rfl e0 (bnd s₁ (.ref a)) (.cons rfl .nil) (spV_law hO hS hF)) fun r s2 h => ?_
  cases r with
  | error e =>
    obtain ⟨_, _, _, _, _, _, _, _, _, _, _, _, z⟩ := h
    exact z.elim
  | ok fl =>
    cases fl with
    | next => exact h.elim
    | brk => exact h.elim
    | cont => exact h.elim
    | ret u =>
      obtain ⟨v, H2, os, bare, un, hok2, rv, q⟩ := h
      obtain rfl : v = .bl true := q
      obtain rfl : u = Value.bool true := rv
      refine ⟨rfl, OldK.of_keep fun b o e => ?_, os, bare⟩
      cases q : H b with
      | none => exact un.keep b o e q (fun z => nomatch (show b ∈ ([] : List Addr) from z)) (fun z => nomatch z)
      | some u =>
        rcases hO b with z | ⟨ob, xs, z⟩
        · rw [q] at z; cases z
        · obtain ⟨e1, _⟩ := hok b _ z
          obtain ⟨e2, _⟩ := hok2 b _ (un.frzs b ob _ z)
          rw [e] at e1
          cases e1
          exact e2
open PyProof.Rows in
theorem walk_V {l : PySem.W.OpenLaw} {n k : Nat} {q : Program} {loose : List Str} {XP : (Str → Option Value) → Heap → Prop} {YP : World → Heap → Prop} {d : DefRec} {K : Params → PySem.W.Frag} {F : FSem} {x : Str}
    (hn : l.most = some n) (hn2 : n ≤ sizeLine) (hdf : d.params.defaults = []) (hr : Room k callerA) (hY : ∀ (w : World) (h : Heap), YP w h → (K w.params).In h)
    (Fn : ∀ (w : World) (mg : Str → Option Value) (fa : Addr) (h : Heap), (K w.params).In h → h.Ns mainGlobals mg → mg d.name = some (.ref fa) →
      ∃ fd : FuncData, (∀ (s : Shared) (u : Value), BindsTo s fd ⟨[u], []⟩ [(x, u)]) ∧ ∀ base : Heap, (K w.params).In base → base.Ns mainGlobals mg → FnV l.prog w (K w.params) mg base k fa fd [x] (spV (K w.params) mg 1 F))
    (hF : ∀ ns : List Int, ns.length ≤ n → F [.d (.list (ns.map PyData.int))] (fun r _ => r = .d (.bool true)) fun _ _ => False) :
    PySem.W.WalkO q loose XP YP l.row.toRowW d [] (fun f vs => PySem.call f vs) := by
  refine Att.attach_call hn hdf fun w s₀ s₁ mg mb fa o pm cd doc a vs ns G Y ho hd hcd hmg hobj hints hlen hg => ?_
  obtain ⟨fd, bnd, go⟩ := Fn w mg fa _ (hY w _ Y) G.T.g hmg
  exact law_V (hY w _ Y) G.T.g G.T.b G.T.builtins G.T.nolimit hg hobj hints (Nat.le_trans hlen hn2) hr go bnd (hF ns hlen)
end Vx
namespace Vx
open PySem PySem.Spec L2
open PyProof.Rows in
theorem tkB {P : Program} {w : World} {K : PySem.W.Frag} {mg : Str → Option Value} {base : Heap} {N : List Str} {qual : Str} {scope : Scope} {f : Addr} {cdv : Value} {A : Around} {outer : List PySem.Env} {s : Shared} {H : Hp} {E : XK} :
    Takes (cxOf (L2.CX P w) P w K mg base N qual scope f cdv A outer s H E) (fun cls d _ H1 => E cls d H1) := takes_of rfl rfl rfl rfl
open PyProof.Rows in
theorem poB {P : Program} {w : World} {K : PySem.W.Frag} {mg : Str → Option Value} {base : Heap} {N : List Str} {qual : Str} {scope : Scope} {f : Addr} {cdv : Value} {A : Around} {outer : List PySem.Env} {s : Shared} {H : Hp} {E : XK} {P2 : Program} {w2 : World} {A2 : Around} {en : PySem.Env} {xe : Value → Shared → Prop}
    (h1 : P2 = P) (h2 : w2 = w) (h3 : A2 = (cxOf (L2.CX P w) P w K mg base N qual scope f cdv A outer s H E).A) (h4 : en = (cxOf (L2.CX P w) P w K mg base N qual scope f cdv A outer s H E).env) (h5 : xe = (cxOf (L2.CX P w) P w K mg base N qual scope f cdv A outer s H E).xe) :
    PassesOwn (model P2 w2) A2 en xe := by
  subst h1; subst h2; subst h3; subst h4; subst h5
  exact passes_of (X := cxOf (L2.CX P2 w2) P2 w2 K mg base N qual scope f cdv A outer s H E) (K := fun e s2 => L2.CX P2 w2 outer H s E e s2) (E₁ := fun e s2 => L2.CX P2 w2 outer H s E e s2) rfl
/-- what a body has: its names' facts -/
structure Gd (mg : Str → Option Value) (xs : List Str) : Prop where
  h : ∀ x ∈ xs, mg x = none
end Vx
namespace Vx
open PySem PySem.Spec L2

/-! ### steps of a meaning -/
theorem onSome_mk {α : Type} {o : Option α} {x : α} {Q : α → Prop} (h : o = some x) (q : Q x) : onSome o Q := by rw [h]; exact q
theorem ifB {b : Bool} {A C : Prop} (h1 : b = true → A) (h2 : b = false → C) : if b = true then A else C := by
  cases b
  · rw [if_neg (by decide)]; exact h2 rfl
  · rw [if_pos rfl]; exact h1 rfl
theorem stp {i n : Nat} {Q : Prop} (h : Nat.blt i n = true) (q : Q) : i < n ∧ Q := ⟨by simpa [Nat.blt_eq] using h, q⟩
theorem dm : ∀ cells : List Int, datas (cells.map fun i => O.d (.int i)) = some (cells.map PyData.int)
  | [] => rfl
  | i :: r => by
    show (datas (r.map fun i => O.d (.int i))).map (PyData.int i :: ·) = _
    rw [dm r]; rfl
theorem itemW_al {a : Addr} {i j : Nat} {p : List Stp} {n : Int} {env : Vx.Env} {Q : W → Prop} {xs : List O} {y : D} (h : envAt env i p = some (.lst a xs)) (h1 : ixN xs.length n = some j) (h2 : xs[j]? = some (.d y)) (q : Q (.o (.d y))) : itemW (.al a i p) (.o (.d (.int n))) env Q := by
  simp only [itemW, h, useW, O.toD, h1, onSome, h2]
  exact ⟨trivial, q⟩
theorem setW_al {a : Addr} {i j : Nat} {p : List Stp} {n : Int} {env : Vx.Env} {Q : Vx.Env → Prop} {xs : List O} {o : O} (h : envAt env i p = some (.lst a xs)) (h1 : ixN xs.length n = some j) (q : Q (envPut env i p (.lst a (xs.set j o)))) : setW (.al a i p) (.o (.d (.int n))) o env Q := by
  simp only [setW, h, useW, O.toD, h1, onSome]
  exact ⟨trivial, q⟩
theorem useW_al {a : Addr} {i : Nat} {p : List Stp} {env : Vx.Env} {Q : D → Prop} {xs : List O} {ds : List D} (h : envAt env i p = some (.lst a xs)) (h1 : datas xs = some ds) (q : Q (.list ds)) : useW (.al a i p) env Q := by
  simp only [useW, h, h1, onSome]
  exact ⟨trivial, q⟩
theorem srcW_al {a : Addr} {i : Nat} {p : List Stp} {env : Vx.Env} {Q : Src → Prop} {xs : List O} {ds : List D} (h : envAt env i p = some (.lst a xs)) (h1 : datas xs = some ds) (q : Q ⟨ds, some (a, i, p)⟩) : srcW (.al a i p) env Q := by
  simp only [srcW, h, h1, onSome]
  exact ⟨trivial, q⟩
theorem ixN_nat {j m : Nat} (h : j < m) : ixN m (j : Int) = some j := by
  unfold ixN
  rw [if_pos (by omega), if_pos (by omega)]
  rfl
theorem ixN_int {i : Int} {m : Nat} (h0 : 0 ≤ i) (h : i < m) : ixN m i = some i.toNat := by
  unfold ixN
  rw [if_pos h0, if_pos h]
theorem ixN_fmod {k : Int} {m : Nat} (hm : 0 < m) : ∃ j, j < m ∧ ixN m (k.fmod (m : Int)) = some j := by
  have h0 : 0 ≤ k.fmod m := Int.fmod_nonneg_of_pos _ (by omega)
  have h1 : k.fmod m < m := Int.fmod_lt_of_pos _ (by omega)
  exact ⟨(k.fmod m).toNat, by omega, ixN_int h0 h1⟩
theorem cpowB {i j : Int} {Q : Prop} (h : decide (0 ≤ j) && decide (j ≤ 1000000) && decide (i.natAbs < 2 ^ 64) = true) (q : Q) : CPow i j ∧ Q := by
  simp only [Bool.and_eq_true, decide_eq_true_eq] at h
  exact ⟨⟨h.1.1, h.1.2, h.2⟩, q⟩
theorem neB {j : Int} {Q : Prop} (h : decide (j ≠ 0) = true) (q : Q) : j ≠ 0 ∧ Q := ⟨of_decide_eq_true h, q⟩
theorem divB {j : Int} {Q : Prop} (h : decide (j ≠ 0) && decide (j.natAbs < 1073741824) = true) (q : Q) : DivOk j ∧ Q := by
  simp only [Bool.and_eq_true, decide_eq_true_eq] at h
  exact ⟨.inl h, q⟩
theorem mulS {i j : Int} {Q : Prop} (h : -(2 ^ 64) < i ∧ i < 2 ^ 64) (q : Q) : Vx.MulOk i j ∧ Q := ⟨.inl (.inl h), q⟩
theorem mulT {i j : Int} {Q : Prop} (h : -(2 ^ 64) < j ∧ j < 2 ^ 64) (q : Q) : Vx.MulOk i j ∧ Q := ⟨.inl (.inr h), q⟩

/-! ### loops by invariants -/
theorem goFor_run {s : Src} {step : D → Vx.Env → (Vx.Env → Prop) → Prop} (I : Nat → Vx.Env → Prop) (hs : ∀ i env, I i env → s.still env) (hstep : ∀ i x env K, s.xs[i]? = some x → I i env → (∀ env', I (i + 1) env' → K env') → step x env K) {env : Vx.Env} {Q : Vx.Env → Prop}
    (h0 : I 0 env) (hq : ∀ env', I s.xs.length env' → Q env') : goFor s step s.xs env Q := by
  have go : ∀ (n i : Nat) (env : Vx.Env), i + n = s.xs.length → I i env → goFor s step (s.xs.drop i) env Q := by
    intro n
    induction n with
    | zero =>
      intro i env e h
      rw [List.drop_eq_nil_of_le (by omega)]
      exact hq env (by rw [← e]; exact h)
    | succ n ih =>
      intro i env e h
      have hi : i < s.xs.length := by omega
      rw [List.drop_eq_getElem_cons hi]
      exact hstep i _ env _ (List.getElem?_eq_getElem hi) h fun env' h' => ⟨hs _ _ h', ih (i + 1) env' (by omega) h'⟩
  have := go s.xs.length 0 env (by omega) h0
  rwa [List.drop_zero] at this
theorem goComp_run {s : Src} {step : D → Vx.Env → List O → (Vx.Env → List O → Prop) → Prop} (I : Nat → Vx.Env → List O → Prop) (hs : ∀ i env acc, I i env acc → s.still env)
    (hstep : ∀ i x env acc K, s.xs[i]? = some x → I i env acc → (∀ env' acc', I (i + 1) env' acc' → K env' acc') → step x env acc K) {env : Vx.Env} {acc : List O} {Q : Vx.Env → List O → Prop}
    (h0 : I 0 env acc) (hq : ∀ env' acc', I s.xs.length env' acc' → Q env' acc') : goComp s step s.xs env acc Q := by
  have go : ∀ (n i : Nat) (env : Vx.Env) (acc : List O), i + n = s.xs.length → I i env acc → goComp s step (s.xs.drop i) env acc Q := by
    intro n
    induction n with
    | zero =>
      intro i env acc e h
      rw [List.drop_eq_nil_of_le (by omega)]
      exact hq env acc (by rw [← e]; exact h)
    | succ n ih =>
      intro i env acc e h
      have hi : i < s.xs.length := by omega
      rw [List.drop_eq_getElem_cons hi]
      exact hstep i _ env acc _ (List.getElem?_eq_getElem hi) h fun env' acc' h' => ⟨hs _ _ _ h', ih (i + 1) env' acc' (by omega) h'⟩
  have := go s.xs.length 0 env acc (by omega) h0
  rwa [List.drop_zero] at this
/-- a comprehension whose turns change nothing: its items by f -/
theorem goComp_map {s : Src} {own : List Nat} {t : Tg} {wcnd : WC} {we : WT} (f : D → O) {env0 : Vx.Env} (hl : s.xs.length ≤ 1000000) (hs : s.still env0)
    (hstep : ∀ x ∈ s.xs, ∀ acc (K : Vx.Env → List O → Prop), acc.length < sizeLine → K env0 (acc ++ [f x]) → stepC t own wcnd we x env0 acc K) {Q : Vx.Env → List O → Prop}
    (hq : Q env0 (s.xs.map f)) : goComp s (stepC t own wcnd we) s.xs env0 [] Q := by
  refine goComp_run (fun i env acc => env = env0 ∧ acc = (s.xs.take i).map f) (fun i env acc h => by rw [h.1]; exact hs) (fun i x env acc K hx h hk => ?_) ⟨rfl, rfl⟩ fun env' acc' h => ?_
  · obtain ⟨rfl, rfl⟩ := h
    refine hstep x (List.mem_of_getElem? hx) _ K ?_ (hk _ _ ⟨rfl, ?_⟩)
    · rw [List.length_map, List.length_take]
      have : (1000000 : Nat) < sizeLine := by decide
      omega
    · rw [List.take_add_one, hx, List.map_append]
      rfl
  · obtain ⟨rfl, rfl⟩ := h
    rw [List.take_length]
    exact hq

/-! ### what may be shown -/
theorem log2_lt {n k : Nat} (h : n < 2 ^ k) (hk : 0 < k) : n.log2 < k := by
  by_cases h0 : n = 0
  · subst h0; simpa using hk
  · exact (Nat.log2_lt h0).2 h
/-- a row of ints, not too great: it may be shown -/
theorem ints_all {xs : List Int} (h : ∀ x ∈ xs, x.natAbs < 10 ^ 30) : PyData.leavesShortAll 40 (xs.map .int) = true ∧ PyData.weightAll (xs.map .int) ≤ 101 * xs.length ∧ PyData.depthAll (xs.map .int) = 0 ∧ PyData.showableAll (xs.map .int) = true ∧ PyData.hasDictAll (xs.map .int) = false := by
  induction xs with
  | nil => exact ⟨rfl, Nat.zero_le _, rfl, rfl, rfl⟩
  | cons x xs ih =>
    obtain ⟨h1, h2, h3, h4, h5⟩ := ih fun y hy => h y (List.mem_cons_of_mem _ hy)
    have hx := h x List.mem_cons_self
    have e1 : (PyData.shown (.int x)).length ≤ 31 := by
      have e := int_text_length_le10 (by decide) hx
      show (Str.ofString (toString x)).length ≤ 31
      rw [ofString_length]; exact e
    have e2 : x.natAbs.log2 < 100 := log2_lt (Nat.lt_trans hx (by decide)) (by decide)
    refine ⟨?_, ?_, ?_, ?_, ?_⟩
    · simp only [List.map_cons, PyData.leavesShortAll, PyData.leavesShort, h1, Bool.and_true, decide_eq_true_eq]; omega
    · simp only [List.map_cons, PyData.weightAll, PyData.weight, List.length_cons]
      split <;> omega
    · simp only [List.map_cons, PyData.depthAll, PyData.depth, h3]; rfl
    · simp only [List.map_cons, PyData.showableAll, PyData.showable, h4, Bool.and_true, decide_eq_true_eq]; omega
    · simp only [List.map_cons, PyData.hasDictAll, PyData.hasDict, h5]; rfl
structure ShowOk (x : D) : Prop where
  a : PyData.showable x = true
  b : x.hasDict = false
  c : x.shown.length ≤ sizeLine
  d : x.depth ≤ 64
theorem show_ints {xs : List Int} (hl : xs.length ≤ 1000) (h : ∀ x ∈ xs, x.natAbs < 10 ^ 30) : ShowOk (.tuple (xs.map .int)) ∧ ShowOk (.list (xs.map .int)) := by
  obtain ⟨h1, h2, h3, h4, h5⟩ := ints_all h
  have big : (42 : Nat) * (101 * 1000) + 40 ≤ sizeLine := by decide
  have m : (40 + 2) * PyData.weightAll (xs.map .int) ≤ 42 * (101 * 1000) := Nat.mul_le_mul (Nat.le_refl _) (by omega)
  refine ⟨⟨?_, ?_, Nat.le_trans (PyData.shown_le 40 (by decide) _ ?_) ?_, ?_⟩, ⟨?_, ?_, Nat.le_trans (PyData.shown_le 40 (by decide) _ ?_) ?_, ?_⟩⟩
  · simp only [PyData.showable, h4]
  · simp only [PyData.hasDict, h5]
  · simp only [PyData.leavesShort, h1]
  · simp only [PyData.weight]; omega
  · simp only [PyData.depth, h3]; decide
  · simp only [PyData.showable, h4]
  · simp only [PyData.hasDict, h5]
  · simp only [PyData.leavesShort, h1]
  · simp only [PyData.weight]; omega
  · simp only [PyData.depth, h3]; decide
theorem intsOf_map : ∀ ns : List Int, intsOf (ns.map PyData.int) = some ns
  | [] => rfl
  | i :: r => by
    show (intsOf (r.map PyData.int)).map (i :: ·) = _
    rw [intsOf_map r]; rfl
end Vx
namespace Vx
open PySem PySem.Spec L2

/-! ### isinstance -/
def tyName : Ty → String
  | .int => "int"
  | .bool => "bool"
  | .str => "str"
  | .tuple => "tuple"
  | .list => "list"
def tyS : Ty → Str
  | .int => "int"
  | .bool => "bool"
  | .str => "str"
  | .tuple => "tuple"
  | .list => "list"
def kindOfD : D → String
  | .none => "NoneType"
  | .bool _ => "bool"
  | .int _ => "int"
  | .str _ => "str"
  | .list _ => "list"
  | .tuple _ => "tuple"
  | .dict _ => "dict"
def noDict : D → Bool
  | .dict _ => false
  | _ => true
theorem kit_at : ∀ (x : D) (t : Ty), noDict x = true → kitB (kindOfD x) (tyName t) = some (decide (t ∈ tyOf x))
  | .none, t, _ => (by cases t <;> decide : kitB "NoneType" (tyName t) = some (decide (t ∈ ([] : List Ty))))
  | .bool _, t, _ => (by cases t <;> decide : kitB "bool" (tyName t) = some (decide (t ∈ [Ty.bool, .int])))
  | .int _, t, _ => (by cases t <;> decide : kitB "int" (tyName t) = some (decide (t ∈ [Ty.int])))
  | .str _, t, _ => (by cases t <;> decide : kitB "str" (tyName t) = some (decide (t ∈ [Ty.str])))
  | .list _, t, _ => (by cases t <;> decide : kitB "list" (tyName t) = some (decide (t ∈ [Ty.list])))
  | .tuple _, t, _ => (by cases t <;> decide : kitB "tuple" (tyName t) = some (decide (t ∈ [Ty.tuple])))
  | .dict _, t, h => nomatch h
theorem ud_ty {K : PySem.W.Frag} {S : Fz} {H : Hp} {v : V} : ∀ {x : D}, Ud K S H v x → noDict x = true ∧ TyX K H v (.type (kindOfD x))
  | .none, u => by obtain rfl := u.non; exact ⟨rfl, .base .non⟩
  | .bool b, u => by obtain rfl := u.bool; exact ⟨rfl, .base (.bl b)⟩
  | .int i, u => by obtain rfl := u.int; exact ⟨rfl, .base (.int i)⟩
  | .str i, u => by obtain rfl := u.str; exact ⟨rfl, .base (.str i)⟩
  | .list ds, u => by
    obtain ⟨a, vs, rfl, hq, _⟩ := u.list
    refine ⟨rfl, ?_⟩
    rcases hq with (h | ⟨o, h⟩) | ⟨o, its, n, h, hc, _⟩
    · exact .base (.lst h)
    · exact .base (.frz h)
    · exact .kList h hc
  | .tuple ds, u => by
    obtain ⟨a, vs, rfl, hq, _⟩ := u.tup
    refine ⟨rfl, ?_⟩
    rcases hq with (h | ⟨o, h⟩) | ⟨o, its, n, h, hc, _⟩
    · exact .base (.tup h)
    · exact .fTuple h
    · exact .kTuple h hc
  | .dict ds, u => by
    rcases u with u | ⟨_, _, _, _, h, _⟩
    · cases u
    · cases h
section
variable {X : Cx} {B : Bs} {Wx : WX} {a b c e o : Expr} {wa wb wc we wo wi : WT} {pos : Pos} {es : List Expr} {wl : WA}
theorem c_isi (t : Ty) {tn : Str} {p p2 : Pos} (hg : Gl X "isinstance") (hm : X.mg "isinstance" = none) (hv : bootBuiltins "isinstance" = some (.builtin "isinstance")) (hg2 : Gl X tn) (hm2 : X.mg tn = none) (hv2 : bootBuiltins tn = some (.type (tyName t)))
    (hn2 : tn ≠ "__name__") (hd2 : (tn == ("__debug__" : Str)) = false) (he : PV X B Wx e we)
    (hs1 : starEach [e, .Name tn p2] X.env = (false, eval e X.env) :: starEach [.Name tn p2] X.env) (hs2 : starEach [.Name tn p2] X.env = (false, eval (.Name tn p2) X.env) :: starEach [] X.env) (hpl : (backTo pos (starEach [.Name tn p2] X.env)).any (·.1) = false) :
    Snd X B Wx (.Call (.Name "isinstance" p) [e, .Name tn p2] [] pos) (wPrim (.isi t) (aCons we aNil)) := by
  have h1 : PE X (.Call (.Name "isinstance" p) [e, .Name tn p2] [] pos) (tCB (rIsi X.K) (tCons (tE X B Wx we) (tCons (tC (.ty (tyName t))) tNil))) :=
    pe_callB call_isi hg hm hv (pa_cons he (pa_cons (pe_bltn hg2 hm2 hv2 rfl hn2 hd2) pa_nil hs2) hs1) (by decide) (by decide) hs1 hpl
  have h2 : PV X B Wx (.Call (.Name "isinstance" p) [e, .Name tn p2] [] pos) (wPrim (.isi t) (aCons we aNil)) := by
    refine PE_imp h1 fun σ H Q ⟨S, env, T, P, PX, r, hw, hP, hX⟩ => ?_
    refine ⟨S, env, T, _, PX, r, hw, fun x env1 v S1 H1 q r1 => ?_, hX⟩
    have q : useW x env1 fun d => P (.o (.d (.bool (decide (t ∈ tyOf d))))) env1 := q
    have rr : R X.K B S1 H1 σ env1 ([(v, x)] ++ T) := r1
    obtain ⟨S2, r2, f⟩ := rr.used
    obtain ⟨d, q, u⟩ := f (v, x) List.mem_cons_self _ q
    obtain ⟨nd, ty⟩ := ud_ty u
    refine ⟨v, .ty (tyName t), _, _, _, rfl, .ty _, ty, kit_ty (kit_at d t nd), ?_⟩
    exact hP _ _ _ _ _ q (r2.pops.push (.bl _))
  exact snd_plain h2 (by intro _; rfl)
end
end Vx
namespace VL
open PySem PySem.Spec L2 Vx
/-! ### the text -/
def topS (i : Nat) : Stmt := PySem.Challenge.pw_almsrow_k59_whole_shares.main.body.getD i (.Pass ⟨0, 0, 0, 0⟩)
abbrev wNone : WT := wK .none
abbrev s__law_draw : Stmt := topS 5
abbrev n__law_draw : List Str := ["_law_feed_here", "_law_many", "_law_found", "_law_at", "_law_cell", "_law_mixed"]
theorem nd__law_draw : List.Nodup n__law_draw := by decide +kernel
theorem sc__law_draw : FnScope n__law_draw ["_law_feed_here", "_law_many"] (defScope s__law_draw) := ⟨rfl, rfl, rfl, nd__law_draw, rfl, by decide +kernel, by decide +kernel⟩
abbrev s__law_dues : Stmt := topS 7
abbrev n__law_dues : List Str := ["_law_feed_here", "_law_many", "_law_way", "_law_some", "_law_k", "_law_due"]
theorem nd__law_dues : List.Nodup n__law_dues := by decide +kernel
theorem sc__law_dues : FnScope n__law_dues ["_law_feed_here"] (defScope s__law_dues) := ⟨rfl, rfl, rfl, nd__law_dues, rfl, by decide +kernel, by decide +kernel⟩
abbrev s__law_feed : Stmt := topS 4
abbrev n__law_feed : List Str := ["_law_script"]
theorem nd__law_feed : List.Nodup n__law_feed := by decide +kernel
theorem sc__law_feed : FnScope n__law_feed ["_law_script"] (defScope s__law_feed) := ⟨rfl, rfl, rfl, nd__law_feed, rfl, by decide +kernel, by decide +kernel⟩
abbrev s__law_is_right : Stmt := topS 8
abbrev n__law_is_right : List Str := ["_law_some", "_law_much", "_law_told", "_law_whole", "_law_rests", "_law_up", "_law_k", "_law_j", "_law_due"]
theorem nd__law_is_right : List.Nodup n__law_is_right := by decide +kernel
theorem sc__law_is_right : FnScope n__law_is_right ["_law_some", "_law_much", "_law_told"] (defScope s__law_is_right) := ⟨rfl, rfl, rfl, nd__law_is_right, rfl, by decide +kernel, by decide +kernel⟩
abbrev s__law_same : Stmt := topS 6
abbrev n__law_same : List Str := ["_law_found", "_law_due"]
theorem nd__law_same : List.Nodup n__law_same := by decide +kernel
theorem sc__law_same : FnScope n__law_same ["_law_found", "_law_due"] (defScope s__law_same) := ⟨rfl, rfl, rfl, nd__law_same, rfl, by decide +kernel, by decide +kernel⟩
abbrev s_parts_of : Stmt := topS 1
abbrev n_parts_of : List Str := ["some", "much", "whole", "due"]
theorem nd_parts_of : List.Nodup n_parts_of := by decide +kernel
theorem sc_parts_of : FnScope n_parts_of ["some", "much"] (defScope s_parts_of) := ⟨rfl, rfl, rfl, nd_parts_of, rfl, by decide +kernel, by decide +kernel⟩
abbrev s_shares : Stmt := topS 2
abbrev n_shares : List Str := ["some", "pence", "much", "parts", "rests", "order", "rest", "k", "due"]
theorem nd_shares : List.Nodup n_shares := by decide +kernel
theorem sc_shares : FnScope n_shares ["some", "pence"] (defScope s_shares) := ⟨rfl, rfl, rfl, nd_shares, rfl, by decide +kernel, by decide +kernel⟩
abbrev s_law : Stmt := topS 9
abbrev n_law : List Str := ["_law_script", "_law_feed_here", "_law_lap", "_law_some", "_law_whole", "_law_begin", "_law_much"]
theorem nd_law : List.Nodup n_law := by decide +kernel
theorem sc_law : FnScope n_law ["_law_script"] (defScope s_law) := ⟨rfl, rfl, rfl, nd_law, rfl, by decide +kernel, by decide +kernel⟩
/-! ### the meanings -/
def w__law_draw : WS :=
  (sCons (sSetIx (wBin .add (wIx (wVar 0) (wK (.int 3))) (wK (.int 1))) (wVar 0) (wK (.int 3))) (sCons (sIf (wCmp .gt (wIx (wVar 0) (wK (.int 2))) (wK (.int 0))) (sCons (sAsg (.v 2) (wBin .mod (wIx (wVar 0) (wK (.int 2))) (wVar 1))) (sCons (sSetIx (wBin .fdiv (wIx (wVar 0) (wK (.int 2))) (wVar 1)) (wVar 0) (wK (.int 2))) (sCons (sRet (wVar 2)) sNil))) sNil) (sCons (sAsg (.v 3) (wIx (wVar 0) (wK (.int 1)))) (sCons (sSetIx (wBin .add (wVar 3) (wK (.int 1))) (wVar 0) (wK (.int 1))) (sCons (sAsg (.v 4) (wIfe (wCmp .gt (wPrim .len (aCons (wIx (wVar 0) (wK (.int 0))) aNil)) (wK (.int 0))) (wIx (wIx (wVar 0) (wK (.int 0))) (wBin .mod (wVar 3) (wPrim .len (aCons (wIx (wVar 0) (wK (.int 0))) aNil)))) (wK (.int 7)))) (sCons (sIf (wAnd (wCmp .ge (wVar 4) (wBin .pow (wK (.int 10)) (wK (.int 18)))) (wCmp .lt (wVar 3) (wPrim .len (aCons (wIx (wVar 0) (wK (.int 0))) aNil)))) (sCons (sSetIx (wBin .fdiv (wVar 4) (wVar 1)) (wVar 0) (wK (.int 2))) (sCons (sRet (wBin .mod (wVar 4) (wVar 1))) sNil)) sNil) (sCons (sAsg (.v 5) (wBin .mod (wBin .pow (wBin .add (wBin .add (wBin .mod (wVar 4) (wK (.int 2147483629))) (wBin .mul (wK (.int 50021)) (wIx (wVar 0) (wK (.int 3))))) (wK (.int 11))) (wK (.int 5))) (wK (.int 2147483647)))) (sCons (sRet (wBin .mod (wBin .fdiv (wBin .mod (wBin .pow (wBin .add (wVar 5) (wBin .mul (wBin .mul (wK (.int 81799)) (wIx (wVar 0) (wK (.int 3)))) (wIx (wVar 0) (wK (.int 3))))) (wK (.int 5))) (wK (.int 2147483587))) (wK (.int 64))) (wVar 1))) sNil))))))))
@[irreducible] def F__law_draw : FSem := semW w__law_draw 6
def w__law_dues : WS :=
  (sCons (sAsg (.v 1) (wIx (wLst (aCons (wBin .add (wK (.int 1)) (wCall (ar 2 F__law_draw) (aCons (wVar 0) (aCons (wK (.int 5)) aNil)))) (aCons (wBin .add (wK (.int 1)) (wCall (ar 2 F__law_draw) (aCons (wVar 0) (aCons (wK (.int 16)) aNil)))) (aCons (wK (.int 16)) aNil)))) (wCall (ar 2 F__law_draw) (aCons (wVar 0) (aCons (wK (.int 3)) aNil))))) (sCons (sAsg (.v 2) (wCall (ar 2 F__law_draw) (aCons (wVar 0) (aCons (wK (.int 5)) aNil)))) (sCons (sAsg (.v 3) (wComp (iR1 (wVar 1)) [4] (.v 4) cAll (wCall (ar 2 F__law_draw) (aCons (wVar 0) (aCons (wIx (wLst (aCons (wK (.int 4)) (aCons (wK (.int 8)) (aCons (wK (.int 100)) (aCons (wBin .add (wBin .pow (wK (.int 10)) (wK (.int 9))) (wK (.int 1))) (aCons (wK (.int 2)) aNil)))))) (wVar 2)) aNil))))) (sCons (sAsg (.v 3) (wComp (iE (wVar 3)) [5] (.v 5) cAll (wBin .mul (wVar 5) (wIx (wLst (aCons (wK (.int 1)) (aCons (wK (.int 7)) (aCons (wK (.int 1)) (aCons (wK (.int 1)) (aCons (wBin .pow (wK (.int 10)) (wK (.int 9))) aNil)))))) (wVar 2))))) (sCons (sSetIx (wIx (wLst (aCons (wK (.int 1)) (aCons (wK (.int 7)) (aCons (wK (.int 97)) (aCons (wBin .pow (wK (.int 10)) (wK (.int 9))) (aCons (wK (.int 3)) aNil)))))) (wVar 2)) (wVar 3) (wCall (ar 2 F__law_draw) (aCons (wVar 0) (aCons (wVar 1) aNil)))) (sCons (sRet (wPrim .tuple (aCons (wVar 3) aNil))) sNil))))))
@[irreducible] def F__law_dues : FSem := semW w__law_dues 6
def w__law_feed : WS :=
  (sCons (sRet (wLst (aCons (wSl (wVar 0) oNone (oSome (wK (.int 63)))) (aCons (wK (.int 0)) (aCons (wK (.int 0)) (aCons (wK (.int 0)) aNil)))))) sNil)
@[irreducible] def F__law_feed : FSem := semW w__law_feed 1
def w__law_is_right : WS :=
  (sCons (sAsg (.v 3) (wPrim .sum (aCons (wVar 0) aNil))) (sCons (sIf (wOr (wNot (wPrim (.isi .tuple) (aCons (wVar 2) aNil))) (wOr (wCmp .ne (wPrim .len (aCons (wVar 2) aNil)) (wPrim .len (aCons (wVar 0) aNil))) (wCmp .ne (wPrim .sum (aCons (wVar 2) aNil)) (wVar 1)))) (sCons (sRet (wK (.bool false))) sNil) sNil) (sCons (sAsg (.v 4) (wComp (iE (wVar 0)) [8] (.v 8) cAll (wBin .sub (wBin .mul (wVar 1) (wVar 8)) (wBin .mul (wVar 3) (wBin .fdiv (wBin .mul (wVar 1) (wVar 8)) (wVar 3)))))) (sCons (sAsg (.v 5) (wComp (iR1 (wPrim .len (aCons (wVar 0) aNil))) [6] (.v 6) cAll (wCmp .gt (wBin .mul (wIx (wVar 2) (wVar 6)) (wVar 3)) (wBin .mul (wVar 1) (wIx (wVar 0) (wVar 6)))))) (sCons (sFor (.v 6) (iR1 (wPrim .len (aCons (wVar 0) aNil))) (sCons (sIf (wOr (wCmp .ge (wPrim .abs (aCons (wBin .sub (wBin .mul (wIx (wVar 2) (wVar 6)) (wVar 3)) (wBin .mul (wVar 1) (wIx (wVar 0) (wVar 6)))) aNil)) (wVar 3)) (wOr (wCmp .gt (wIx (wVar 2) (wVar 6)) (wIx (wVar 0) (wVar 6))) (wAnd (wIx (wVar 5) (wVar 6)) (wCmp .eq (wIx (wVar 4) (wVar 6)) (wK (.int 0)))))) (sCons (sRet (wK (.bool false))) sNil) sNil) (sCons (sFor (.v 7) (iR1 (wPrim .len (aCons (wVar 0) aNil))) (sCons (sIf (wOr (wAnd (wCmp .gt (wIx (wVar 0) (wVar 7)) (wIx (wVar 0) (wVar 6))) (wCmp .lt (wIx (wVar 2) (wVar 7)) (wIx (wVar 2) (wVar 6)))) (wAnd (wIx (wVar 5) (wVar 6)) (wAnd (wNot (wIx (wVar 5) (wVar 7))) (wCmp .gt (wIx (wVar 4) (wVar 7)) (wIx (wVar 4) (wVar 6)))))) (sCons (sRet (wK (.bool false))) sNil) sNil) (sCons (sIf (wAnd (wCmp .lt (wVar 7) (wVar 6)) (wAnd (wCmp .eq (wIx (wVar 0) (wVar 7)) (wIx (wVar 0) (wVar 6))) (wCmp .notIn (wBin .sub (wIx (wVar 2) (wVar 7)) (wIx (wVar 2) (wVar 6))) (wTup (aCons (wK (.int 0)) (aCons (wK (.int 1)) aNil)))))) (sCons (sRet (wK (.bool false))) sNil) sNil) sNil))) sNil))) (sCons (sRet (wK (.bool true))) sNil))))))
@[irreducible] def F__law_is_right : FSem := semW w__law_is_right 9
def w__law_same : WS :=
  (sCons (sRet (wCmp .eq (wPrim .repr (aCons (wVar 0) aNil)) (wPrim .repr (aCons (wVar 1) aNil)))) sNil)
@[irreducible] def F__law_same : FSem := semW w__law_same 2
def w_parts_of : WS :=
  (sCons (sAsg (.v 2) (wPrim .sum (aCons (wVar 0) aNil))) (sCons (sRet (wTup (aCons (wComp (iE (wVar 0)) [3] (.v 3) cAll (wBin .fdiv (wBin .mul (wVar 1) (wVar 3)) (wVar 2))) (aCons (wComp (iE (wVar 0)) [3] (.v 3) cAll (wBin .mod (wBin .mul (wVar 1) (wVar 3)) (wVar 2))) aNil)))) sNil))
@[irreducible] def F_parts_of : FSem := semW w_parts_of 4
def w_shares : WS :=
  (sCons (sAsg (.v 2) (wVar 1)) (sCons (sIf (wCmp .eq (wPrim .sum (aCons (wVar 0) aNil)) (wK (.int 0))) (sCons (sRet (wPrim .tuple (aCons (wComp (iE (wVar 0)) [8] (.v 8) cAll (wK (.int 0))) aNil))) sNil) sNil) (sCons (sAsg (.tup [3, 4]) (wCall (ar 2 F_parts_of) (aCons (wVar 0) (aCons (wVar 2) aNil)))) (sCons (sAsg (.v 5) (wPrim .sorted (aCons (wComp (iR1 (wPrim .len (aCons (wVar 0) aNil))) [7] (.v 7) cAll (wTup (aCons (wBin .sub (wK (.int 0)) (wIx (wVar 4) (wVar 7))) (aCons (wVar 7) aNil)))) aNil))) (sCons (sFor (.tup [6, 7]) (iE (wSl (wVar 5) oNone (oSome (wBin .sub (wVar 2) (wPrim .sum (aCons (wVar 3) aNil)))))) (sCons (sSetIx (wBin .add (wIx (wVar 3) (wVar 7)) (wK (.int 1))) (wVar 3) (wVar 7)) sNil)) (sCons (sRet (wPrim .tuple (aCons (wVar 3) aNil))) sNil))))))
@[irreducible] def F_shares : FSem := semW w_shares 9
def w_law : WS :=
  (sCons (sAsg (.v 1) (wCall (ar 1 F__law_feed) (aCons (wVar 0) aNil))) (sCons (sFor (.v 2) (iR1 (wK (.int 4))) (sCons (sAsg (.v 3) (wCall (ar 1 F__law_dues) (aCons (wVar 1) aNil))) (sCons (sAsg (.v 4) (wPrim .sum (aCons (wVar 3) aNil))) (sCons (sIf (wNot (wCall (ar 2 F__law_same) (aCons (wLst (aCons (wCall (ar 2 F_shares) (aCons (wVar 3) (aCons (wVar 4) aNil))) (aCons (wCall (ar 2 F_shares) (aCons (wVar 3) (aCons (wK (.int 0)) aNil))) aNil))) (aCons (wLst (aCons (wVar 3) (aCons (wBin .mul (wTup (aCons (wK (.int 0)) aNil)) (wPrim .len (aCons (wVar 3) aNil))) aNil))) aNil)))) (sCons (sRet (wK (.bool false))) sNil) sNil) (sCons (sAsg (.v 5) (wCall (ar 2 F__law_draw) (aCons (wVar 1) (aCons (wBin .add (wVar 4) (wK (.int 1))) aNil)))) (sCons (sFor (.v 6) (iE (wLst (aCons (wVar 5) (aCons (wPrim .min2 (aCons (wVar 4) (aCons (wBin .add (wVar 5) (wK (.int 1))) aNil))) (aCons (wBin .fdiv (wVar 4) (wK (.int 3))) (aCons (wPrim .max2 (aCons (wK (.int 0)) (aCons (wBin .sub (wVar 4) (wK (.int 1))) aNil))) aNil)))))) (sCons (sIf (wNot (wCall (ar 3 F__law_is_right) (aCons (wVar 3) (aCons (wVar 6) (aCons (wCall (ar 2 F_shares) (aCons (wVar 3) (aCons (wVar 6) aNil))) aNil))))) (sCons (sRet (wK (.bool false))) sNil) sNil) sNil)) sNil)))))) (sCons (sRet (wK (.bool true))) sNil)))
@[irreducible] def F_law : FSem := semW w_law 7
/-! ### the bodies -/
section
open PyProof.Rows
variable {P : Program} {w : World} {K : PySem.W.Frag} {mg : Str → Option Value} {base : Heap}
set_option maxHeartbeats 4000000 in
theorem ok__law_draw {f : Addr} {fd : FuncData} (fn : Fun K "_law_draw" "_law_draw" s__law_draw f fd) (z_len : mg "len" = none) : FnV P w K mg base 1 f fd ["_law_feed_here", "_law_many"] (spV K mg 2 F__law_draw) := by
  obtain ⟨oc, od, kV, doc, pm, an, cdv, ct, osl, rfl, lk, hcd⟩ := fn.ex
  refine fnV_sem (k := 0) (N := n__law_draw) (wb := w__law_draw) lk hcd sc__law_draw rfl rfl (by decide) (fun _ _ _ h => by unfold F__law_draw at h; exact h) fun A outer s H E B hr hgd => ?_
  exact (z_cons (z_setIx (c_bin .add (c_ix (c_var 0 (by rfl) (by first | exact Or.inl rfl | exact Or.inr (Or.inl rfl) | exact Or.inr (Or.inr rfl)) (by rfl) (by rfl)) (c_int pe_int) (fun _ _ => rfl)) (c_int pe_int)) (c_var 0 (by rfl) (by first | exact Or.inl rfl | exact Or.inr (Or.inl rfl) | exact Or.inr (Or.inr rfl)) (by rfl) (by rfl)) (c_int pe_int) (by intro _; rfl) (by rfl) (by rfl) (by rfl)) (z_cons (z_if (c_cmp hr .gt (c_ix (c_var 0 (by rfl) (by first | exact Or.inl rfl | exact Or.inr (Or.inl rfl) | exact Or.inr (Or.inr rfl)) (by rfl) (by rfl)) (c_int pe_int) (fun _ _ => rfl)) (c_int pe_int) (nomark _)) (z_cons (z_asg (c_bin .mod (c_ix (c_var 0 (by rfl) (by first | exact Or.inl rfl | exact Or.inr (Or.inl rfl) | exact Or.inr (Or.inr rfl)) (by rfl) (by rfl)) (c_int pe_int) (fun _ _ => rfl)) (c_var 1 (by rfl) (by first | exact Or.inl rfl | exact Or.inr (Or.inl rfl) | exact Or.inr (Or.inr rfl)) (by rfl) (by rfl))) (g_nm nd__law_draw (by rfl) (by first | exact Or.inl rfl | exact Or.inr rfl) (by first | exact Or.inl rfl | exact Or.inr rfl)) (by rfl) (by rfl) (by rfl)) (z_cons (z_setIx (c_bin .fdiv (c_ix (c_var 0 (by rfl) (by first | exact Or.inl rfl | exact Or.inr (Or.inl rfl) | exact Or.inr (Or.inr rfl)) (by rfl) (by rfl)) (c_int pe_int) (fun _ _ => rfl)) (c_var 1 (by rfl) (by first | exact Or.inl rfl | exact Or.inr (Or.inl rfl) | exact Or.inr (Or.inr rfl)) (by rfl) (by rfl))) (c_var 0 (by rfl) (by first | exact Or.inl rfl | exact Or.inr (Or.inl rfl) | exact Or.inr (Or.inr rfl)) (by rfl) (by rfl)) (c_int pe_int) (by intro _; rfl) (by rfl) (by rfl) (by rfl)) (z_cons (z_ret (c_var 2 (by rfl) (by first | exact Or.inl rfl | exact Or.inr (Or.inl rfl) | exact Or.inr (Or.inr rfl)) (by rfl) (by rfl))) z_nil))) z_nil) (z_cons (z_asg (c_ix (c_var 0 (by rfl) (by first | exact Or.inl rfl | exact Or.inr (Or.inl rfl) | exact Or.inr (Or.inr rfl)) (by rfl) (by rfl)) (c_int pe_int) (fun _ _ => rfl)) (g_nm nd__law_draw (by rfl) (by first | exact Or.inl rfl | exact Or.inr rfl) (by first | exact Or.inl rfl | exact Or.inr rfl)) (by rfl) (by rfl) (by rfl)) (z_cons (z_setIx (c_bin .add (c_var 3 (by rfl) (by first | exact Or.inl rfl | exact Or.inr (Or.inl rfl) | exact Or.inr (Or.inr rfl)) (by rfl) (by rfl)) (c_int pe_int)) (c_var 0 (by rfl) (by first | exact Or.inl rfl | exact Or.inr (Or.inl rfl) | exact Or.inr (Or.inr rfl)) (by rfl) (by rfl)) (c_int pe_int) (by intro _; rfl) (by rfl) (by rfl) (by rfl)) (z_cons (z_asg (c_ife (c_cmp hr .gt (c_primB (prim_ok hr hgd (by rfl) .len (fun _ => nofun) (fun _ => nofun)) rfl (by rfl) z_len (by rfl) (a_cons (c_ix (c_var 0 (by rfl) (by first | exact Or.inl rfl | exact Or.inr (Or.inl rfl) | exact Or.inr (Or.inr rfl)) (by rfl) (by rfl)) (c_int pe_int) (fun _ _ => rfl)) a_nil (by rfl)) (by decide) (by rfl) (by rfl) (by rfl)) (c_int pe_int) (nomark _)) (c_ix (c_ix (c_var 0 (by rfl) (by first | exact Or.inl rfl | exact Or.inr (Or.inl rfl) | exact Or.inr (Or.inr rfl)) (by rfl) (by rfl)) (c_int pe_int) (fun _ _ => rfl)) (c_bin .mod (c_var 3 (by rfl) (by first | exact Or.inl rfl | exact Or.inr (Or.inl rfl) | exact Or.inr (Or.inr rfl)) (by rfl) (by rfl)) (c_primB (prim_ok hr hgd (by rfl) .len (fun _ => nofun) (fun _ => nofun)) rfl (by rfl) z_len (by rfl) (a_cons (c_ix (c_var 0 (by rfl) (by first | exact Or.inl rfl | exact Or.inr (Or.inl rfl) | exact Or.inr (Or.inr rfl)) (by rfl) (by rfl)) (c_int pe_int) (fun _ _ => rfl)) a_nil (by rfl)) (by decide) (by rfl) (by rfl) (by rfl))) (fun _ _ => rfl)) (c_int pe_int)) (g_nm nd__law_draw (by rfl) (by first | exact Or.inl rfl | exact Or.inr rfl) (by first | exact Or.inl rfl | exact Or.inr rfl)) (by rfl) (by rfl) (by rfl)) (z_cons (z_if ((l_and (c_cmp hr .ge (c_var 4 (by rfl) (by first | exact Or.inl rfl | exact Or.inr (Or.inl rfl) | exact Or.inr (Or.inr rfl)) (by rfl) (by rfl)) (c_bin .pow (c_int pe_int) (c_int pe_int)) (nomark _)) (l_one (c_cmp hr .lt (c_var 3 (by rfl) (by first | exact Or.inl rfl | exact Or.inr (Or.inl rfl) | exact Or.inr (Or.inr rfl)) (by rfl) (by rfl)) (c_primB (prim_ok hr hgd (by rfl) .len (fun _ => nofun) (fun _ => nofun)) rfl (by rfl) z_len (by rfl) (a_cons (c_ix (c_var 0 (by rfl) (by first | exact Or.inl rfl | exact Or.inr (Or.inl rfl) | exact Or.inr (Or.inr rfl)) (by rfl) (by rfl)) (c_int pe_int) (fun _ _ => rfl)) a_nil (by rfl)) (by decide) (by rfl) (by rfl) (by rfl)) (nomark _))))).snd (z_cons (z_setIx (c_bin .fdiv (c_var 4 (by rfl) (by first | exact Or.inl rfl | exact Or.inr (Or.inl rfl) | exact Or.inr (Or.inr rfl)) (by rfl) (by rfl)) (c_var 1 (by rfl) (by first | exact Or.inl rfl | exact Or.inr (Or.inl rfl) | exact Or.inr (Or.inr rfl)) (by rfl) (by rfl))) (c_var 0 (by rfl) (by first | exact Or.inl rfl | exact Or.inr (Or.inl rfl) | exact Or.inr (Or.inr rfl)) (by rfl) (by rfl)) (c_int pe_int) (by intro _; rfl) (by rfl) (by rfl) (by rfl)) (z_cons (z_ret (c_bin .mod (c_var 4 (by rfl) (by first | exact Or.inl rfl | exact Or.inr (Or.inl rfl) | exact Or.inr (Or.inr rfl)) (by rfl) (by rfl)) (c_var 1 (by rfl) (by first | exact Or.inl rfl | exact Or.inr (Or.inl rfl) | exact Or.inr (Or.inr rfl)) (by rfl) (by rfl)))) z_nil)) z_nil) (z_cons (z_asg (c_bin .mod (c_bin .pow (c_bin .add (c_bin .add (c_bin .mod (c_var 4 (by rfl) (by first | exact Or.inl rfl | exact Or.inr (Or.inl rfl) | exact Or.inr (Or.inr rfl)) (by rfl) (by rfl)) (c_int pe_int)) (c_bin .mul (c_int pe_int) (c_ix (c_var 0 (by rfl) (by first | exact Or.inl rfl | exact Or.inr (Or.inl rfl) | exact Or.inr (Or.inr rfl)) (by rfl) (by rfl)) (c_int pe_int) (fun _ _ => rfl)))) (c_int pe_int)) (c_int pe_int)) (c_int pe_int)) (g_nm nd__law_draw (by rfl) (by first | exact Or.inl rfl | exact Or.inr rfl) (by first | exact Or.inl rfl | exact Or.inr rfl)) (by rfl) (by rfl) (by rfl)) (z_cons (z_ret (c_bin .mod (c_bin .fdiv (c_bin .mod (c_bin .pow (c_bin .add (c_var 5 (by rfl) (by first | exact Or.inl rfl | exact Or.inr (Or.inl rfl) | exact Or.inr (Or.inr rfl)) (by rfl) (by rfl)) (c_bin .mul (c_bin .mul (c_int pe_int) (c_ix (c_var 0 (by rfl) (by first | exact Or.inl rfl | exact Or.inr (Or.inl rfl) | exact Or.inr (Or.inr rfl)) (by rfl) (by rfl)) (c_int pe_int) (fun _ _ => rfl))) (c_ix (c_var 0 (by rfl) (by first | exact Or.inl rfl | exact Or.inr (Or.inl rfl) | exact Or.inr (Or.inr rfl)) (by rfl) (by rfl)) (c_int pe_int) (fun _ _ => rfl)))) (c_int pe_int)) (c_int pe_int)) (c_int pe_int)) (c_var 1 (by rfl) (by first | exact Or.inl rfl | exact Or.inr (Or.inl rfl) | exact Or.inr (Or.inr rfl)) (by rfl) (by rfl)))) z_nil))))))))
set_option maxHeartbeats 4000000 in
theorem ok__law_dues {f : Addr} {fd : FuncData} (fn : Fun K "_law_dues" "_law_dues" s__law_dues f fd) {f__law_draw : Addr} {d__law_draw : FuncData} (g__law_draw : FnV P w K mg base 1 f__law_draw d__law_draw ["_law_feed_here", "_law_many"] (spV K mg 2 F__law_draw)) (m__law_draw : mg "_law_draw" = some (.ref f__law_draw)) (k__law_draw : PySem.W.keepIn K (.ref f__law_draw) = true) (b__law_draw : Binds K d__law_draw ["_law_feed_here", "_law_many"] []) (z_range : mg "range" = none) (z_tuple : mg "tuple" = none) : FnV P w K mg base 2 f fd ["_law_feed_here"] (spV K mg 1 F__law_dues) := by
  obtain ⟨oc, od, kV, doc, pm, an, cdv, ct, osl, rfl, lk, hcd⟩ := fn.ex
  refine fnV_sem (k := 1) (N := n__law_dues) (wb := w__law_dues) lk hcd sc__law_dues rfl rfl (by decide) (fun _ _ _ h => by unfold F__law_dues at h; exact h) fun A outer s H E B hr hgd => ?_
  exact (z_cons (z_asg (c_ix (c_lst (a_cons (c_bin .add (c_int pe_int) (s_call g__law_draw (hr.mono (by decide)) hgd tkB (by rfl) m__law_draw k__law_draw b__law_draw (a_cons (c_var 0 (by rfl) (by first | exact Or.inl rfl | exact Or.inr (Or.inl rfl) | exact Or.inr (Or.inr rfl)) (by rfl) (by rfl)) (a_cons (c_int pe_int) a_nil (by rfl)) (by rfl)) (by rfl) (by rfl) (by rfl))) (a_cons (c_bin .add (c_int pe_int) (s_call g__law_draw (hr.mono (by decide)) hgd tkB (by rfl) m__law_draw k__law_draw b__law_draw (a_cons (c_var 0 (by rfl) (by first | exact Or.inl rfl | exact Or.inr (Or.inl rfl) | exact Or.inr (Or.inr rfl)) (by rfl) (by rfl)) (a_cons (c_int pe_int) a_nil (by rfl)) (by rfl)) (by rfl) (by rfl) (by rfl))) (a_cons (c_int pe_int) a_nil (by rfl)) (by rfl)) (by rfl))) (s_call g__law_draw (hr.mono (by decide)) hgd tkB (by rfl) m__law_draw k__law_draw b__law_draw (a_cons (c_var 0 (by rfl) (by first | exact Or.inl rfl | exact Or.inr (Or.inl rfl) | exact Or.inr (Or.inr rfl)) (by rfl) (by rfl)) (a_cons (c_int pe_int) a_nil (by rfl)) (by rfl)) (by rfl) (by rfl) (by rfl)) (fun _ _ => rfl)) (g_nm nd__law_dues (by rfl) (by first | exact Or.inl rfl | exact Or.inr rfl) (by first | exact Or.inl rfl | exact Or.inr rfl)) (by rfl) (by rfl) (by rfl)) (z_cons (z_asg (s_call g__law_draw (hr.mono (by decide)) hgd tkB (by rfl) m__law_draw k__law_draw b__law_draw (a_cons (c_var 0 (by rfl) (by first | exact Or.inl rfl | exact Or.inr (Or.inl rfl) | exact Or.inr (Or.inr rfl)) (by rfl) (by rfl)) (a_cons (c_int pe_int) a_nil (by rfl)) (by rfl)) (by rfl) (by rfl) (by rfl)) (g_nm nd__law_dues (by rfl) (by first | exact Or.inl rfl | exact Or.inr rfl) (by first | exact Or.inl rfl | exact Or.inr rfl)) (by rfl) (by rfl) (by rfl)) (z_cons (z_setLc (i := 3) (own := [("_law_k", 4)]) (by rfl) nd__law_dues (by rfl) (by rfl) (sw_true (by rfl) (by rfl) (by rfl) (by rfl)) (i_rg1 (by rfl) z_range (c_var 1 (by rfl) (by first | exact Or.inl rfl | exact Or.inr (Or.inl rfl) | exact Or.inr (Or.inr rfl)) (by rfl) (by rfl)) (by rfl)) (blkOk_by (own := [("_law_k", 4)]) (N := n__law_dues) (sc := (defScope s__law_dues)) (by decide +kernel)) (by decide) (by decide) (fun _ _ _ _ _ => ⟨(g_nm nd__law_dues (by rfl) (by first | exact Or.inl rfl | exact Or.inr rfl) (by first | exact Or.inl rfl | exact Or.inr rfl)), q_all, (s_call g__law_draw (hr.mono (by decide)) hgd (takes_blk rfl) (by rfl) m__law_draw k__law_draw b__law_draw (a_cons (c_var 0 (by rfl) (by first | exact Or.inl rfl | exact Or.inr (Or.inl rfl) | exact Or.inr (Or.inr rfl)) (by rfl) (by rfl)) (a_cons (c_ix (c_lst (a_cons (c_int pe_int) (a_cons (c_int pe_int) (a_cons (c_int pe_int) (a_cons (c_bin .add (c_bin .pow (c_int pe_int) (c_int pe_int)) (c_int pe_int)) (a_cons (c_int pe_int) a_nil (by rfl)) (by rfl)) (by rfl)) (by rfl)) (by rfl))) (c_var 2 (by rfl) (by first | exact Or.inl rfl | exact Or.inr (Or.inl rfl) | exact Or.inr (Or.inr rfl)) (by rfl) (by rfl)) (fun _ _ => rfl)) a_nil (by rfl)) (by rfl)) (by rfl) (by rfl) (by rfl))⟩) (by intro _; rfl)) (z_cons (z_setLc (i := 3) (own := [("_law_due", 5)]) (by rfl) nd__law_dues (by rfl) (by rfl) (sw_true (by rfl) (by rfl) (by rfl) (by rfl)) (i_e (c_var 3 (by rfl) (by first | exact Or.inl rfl | exact Or.inr (Or.inl rfl) | exact Or.inr (Or.inr rfl)) (by rfl) (by rfl))) (blkOk_by (own := [("_law_due", 5)]) (N := n__law_dues) (sc := (defScope s__law_dues)) (by decide +kernel)) (by decide) (by decide) (fun _ _ _ _ _ => ⟨(g_nm nd__law_dues (by rfl) (by first | exact Or.inl rfl | exact Or.inr rfl) (by first | exact Or.inl rfl | exact Or.inr rfl)), q_all, (c_bin .mul (c_var 5 (by rfl) (by first | exact Or.inl rfl | exact Or.inr (Or.inl rfl) | exact Or.inr (Or.inr rfl)) (by rfl) (by rfl)) (c_ix (c_lst (a_cons (c_int pe_int) (a_cons (c_int pe_int) (a_cons (c_int pe_int) (a_cons (c_int pe_int) (a_cons (c_bin .pow (c_int pe_int) (c_int pe_int)) a_nil (by rfl)) (by rfl)) (by rfl)) (by rfl)) (by rfl))) (c_var 2 (by rfl) (by first | exact Or.inl rfl | exact Or.inr (Or.inl rfl) | exact Or.inr (Or.inr rfl)) (by rfl) (by rfl)) (fun _ _ => rfl)))⟩) (by intro _; rfl)) (z_cons (z_setIx (c_ix (c_lst (a_cons (c_int pe_int) (a_cons (c_int pe_int) (a_cons (c_int pe_int) (a_cons (c_bin .pow (c_int pe_int) (c_int pe_int)) (a_cons (c_int pe_int) a_nil (by rfl)) (by rfl)) (by rfl)) (by rfl)) (by rfl))) (c_var 2 (by rfl) (by first | exact Or.inl rfl | exact Or.inr (Or.inl rfl) | exact Or.inr (Or.inr rfl)) (by rfl) (by rfl)) (fun _ _ => rfl)) (c_var 3 (by rfl) (by first | exact Or.inl rfl | exact Or.inr (Or.inl rfl) | exact Or.inr (Or.inr rfl)) (by rfl) (by rfl)) (s_call g__law_draw (hr.mono (by decide)) hgd tkB (by rfl) m__law_draw k__law_draw b__law_draw (a_cons (c_var 0 (by rfl) (by first | exact Or.inl rfl | exact Or.inr (Or.inl rfl) | exact Or.inr (Or.inr rfl)) (by rfl) (by rfl)) (a_cons (c_var 1 (by rfl) (by first | exact Or.inl rfl | exact Or.inr (Or.inl rfl) | exact Or.inr (Or.inr rfl)) (by rfl) (by rfl)) a_nil (by rfl)) (by rfl)) (by rfl) (by rfl) (by rfl)) (by intro _; rfl) (by rfl) (by rfl) (by rfl)) (z_cons (z_ret (c_primT (prim_ok hr hgd (by rfl) .tuple (fun _ => nofun) (fun _ => nofun)) rfl (by rfl) z_tuple (by rfl) (a_cons (c_var 3 (by rfl) (by first | exact Or.inl rfl | exact Or.inr (Or.inl rfl) | exact Or.inr (Or.inr rfl)) (by rfl) (by rfl)) a_nil (by rfl)) (by decide) (by rfl) (by rfl) (by rfl))) z_nil))))))
set_option maxHeartbeats 4000000 in
theorem ok__law_feed {f : Addr} {fd : FuncData} (fn : Fun K "_law_feed" "_law_feed" s__law_feed f fd) : FnV P w K mg base 1 f fd ["_law_script"] (spV K mg 1 F__law_feed) := by
  obtain ⟨oc, od, kV, doc, pm, an, cdv, ct, osl, rfl, lk, hcd⟩ := fn.ex
  refine fnV_sem (k := 0) (N := n__law_feed) (wb := w__law_feed) lk hcd sc__law_feed rfl rfl (by decide) (fun _ _ _ h => by unfold F__law_feed at h; exact h) fun A outer s H E B hr hgd => ?_
  exact (z_cons (z_ret (c_lst (a_cons (c_sl (c_var 0 (by rfl) (by first | exact Or.inl rfl | exact Or.inr (Or.inl rfl) | exact Or.inr (Or.inr rfl)) (by rfl) (by rfl)) o_none (o_some (c_int pe_int))) (a_cons (c_int pe_int) (a_cons (c_int pe_int) (a_cons (c_int pe_int) a_nil (by rfl)) (by rfl)) (by rfl)) (by rfl)))) z_nil)
set_option maxHeartbeats 4000000 in
theorem ok__law_is_right {f : Addr} {fd : FuncData} (fn : Fun K "_law_is_right" "_law_is_right" s__law_is_right f fd) (z_abs : mg "abs" = none) (z_isinstance : mg "isinstance" = none) (z_len : mg "len" = none) (z_range : mg "range" = none) (z_sum : mg "sum" = none) (z_tuple : mg "tuple" = none) : FnV P w K mg base 1 f fd ["_law_some", "_law_much", "_law_told"] (spV K mg 3 F__law_is_right) := by
  obtain ⟨oc, od, kV, doc, pm, an, cdv, ct, osl, rfl, lk, hcd⟩ := fn.ex
  refine fnV_sem (k := 0) (N := n__law_is_right) (wb := w__law_is_right) lk hcd sc__law_is_right rfl rfl (by decide) (fun _ _ _ h => by unfold F__law_is_right at h; exact h) fun A outer s H E B hr hgd => ?_
  exact (z_cons (z_asg (c_primB (prim_ok hr hgd (by rfl) .sum (fun _ => nofun) (fun _ => nofun)) rfl (by rfl) z_sum (by rfl) (a_cons (c_var 0 (by rfl) (by first | exact Or.inl rfl | exact Or.inr (Or.inl rfl) | exact Or.inr (Or.inr rfl)) (by rfl) (by rfl)) a_nil (by rfl)) (by decide) (by rfl) (by rfl) (by rfl)) (g_nm nd__law_is_right (by rfl) (by first | exact Or.inl rfl | exact Or.inr rfl) (by first | exact Or.inl rfl | exact Or.inr rfl)) (by rfl) (by rfl) (by rfl)) (z_cons (z_if ((l_or (c_not (c_isi .tuple (by rfl) z_isinstance (by rfl) (by rfl) z_tuple (by rfl) (by decide) (by rfl) (c_var 2 (by rfl) (by first | exact Or.inl rfl | exact Or.inr (Or.inl rfl) | exact Or.inr (Or.inr rfl)) (by rfl) (by rfl)) (by rfl) (by rfl) (by rfl))) (l_or (c_cmp hr .ne (c_primB (prim_ok hr hgd (by rfl) .len (fun _ => nofun) (fun _ => nofun)) rfl (by rfl) z_len (by rfl) (a_cons (c_var 2 (by rfl) (by first | exact Or.inl rfl | exact Or.inr (Or.inl rfl) | exact Or.inr (Or.inr rfl)) (by rfl) (by rfl)) a_nil (by rfl)) (by decide) (by rfl) (by rfl) (by rfl)) (c_primB (prim_ok hr hgd (by rfl) .len (fun _ => nofun) (fun _ => nofun)) rfl (by rfl) z_len (by rfl) (a_cons (c_var 0 (by rfl) (by first | exact Or.inl rfl | exact Or.inr (Or.inl rfl) | exact Or.inr (Or.inr rfl)) (by rfl) (by rfl)) a_nil (by rfl)) (by decide) (by rfl) (by rfl) (by rfl)) (nomark _)) (l_one (c_cmp hr .ne (c_primB (prim_ok hr hgd (by rfl) .sum (fun _ => nofun) (fun _ => nofun)) rfl (by rfl) z_sum (by rfl) (a_cons (c_var 2 (by rfl) (by first | exact Or.inl rfl | exact Or.inr (Or.inl rfl) | exact Or.inr (Or.inr rfl)) (by rfl) (by rfl)) a_nil (by rfl)) (by decide) (by rfl) (by rfl) (by rfl)) (c_var 1 (by rfl) (by first | exact Or.inl rfl | exact Or.inr (Or.inl rfl) | exact Or.inr (Or.inr rfl)) (by rfl) (by rfl)) (nomark _)))))).snd (z_cons (z_ret (c_bool pe_bl)) z_nil) z_nil) (z_cons (z_setLc (i := 4) (own := [("_law_due", 8)]) (by rfl) nd__law_is_right (by rfl) (by rfl) (sw_true (by rfl) (by rfl) (by rfl) (by rfl)) (i_e (c_var 0 (by rfl) (by first | exact Or.inl rfl | exact Or.inr (Or.inl rfl) | exact Or.inr (Or.inr rfl)) (by rfl) (by rfl))) (blkOk_by (own := [("_law_due", 8)]) (N := n__law_is_right) (sc := (defScope s__law_is_right)) (by decide +kernel)) (by decide) (by decide) (fun _ _ _ _ _ => ⟨(g_nm nd__law_is_right (by rfl) (by first | exact Or.inl rfl | exact Or.inr rfl) (by first | exact Or.inl rfl | exact Or.inr rfl)), q_all, (c_bin .sub (c_bin .mul (c_var 1 (by rfl) (by first | exact Or.inl rfl | exact Or.inr (Or.inl rfl) | exact Or.inr (Or.inr rfl)) (by rfl) (by rfl)) (c_var 8 (by rfl) (by first | exact Or.inl rfl | exact Or.inr (Or.inl rfl) | exact Or.inr (Or.inr rfl)) (by rfl) (by rfl))) (c_bin .mul (c_var 3 (by rfl) (by first | exact Or.inl rfl | exact Or.inr (Or.inl rfl) | exact Or.inr (Or.inr rfl)) (by rfl) (by rfl)) (c_bin .fdiv (c_bin .mul (c_var 1 (by rfl) (by first | exact Or.inl rfl | exact Or.inr (Or.inl rfl) | exact Or.inr (Or.inr rfl)) (by rfl) (by rfl)) (c_var 8 (by rfl) (by first | exact Or.inl rfl | exact Or.inr (Or.inl rfl) | exact Or.inr (Or.inr rfl)) (by rfl) (by rfl))) (c_var 3 (by rfl) (by first | exact Or.inl rfl | exact Or.inr (Or.inl rfl) | exact Or.inr (Or.inr rfl)) (by rfl) (by rfl)))))⟩) (by intro _; rfl)) (z_cons (z_setLc (i := 5) (own := [("_law_k", 6)]) (by rfl) nd__law_is_right (by rfl) (by rfl) (sw_true (by rfl) (by rfl) (by rfl) (by rfl)) (i_rg1 (by rfl) z_range (c_primB (prim_ok hr hgd (by rfl) .len (fun _ => nofun) (fun _ => nofun)) rfl (by rfl) z_len (by rfl) (a_cons (c_var 0 (by rfl) (by first | exact Or.inl rfl | exact Or.inr (Or.inl rfl) | exact Or.inr (Or.inr rfl)) (by rfl) (by rfl)) a_nil (by rfl)) (by decide) (by rfl) (by rfl) (by rfl)) (by rfl)) (blkOk_by (own := [("_law_k", 6)]) (N := n__law_is_right) (sc := (defScope s__law_is_right)) (by decide +kernel)) (by decide) (by decide) (fun _ _ _ _ _ => ⟨(g_nm nd__law_is_right (by rfl) (by first | exact Or.inl rfl | exact Or.inr rfl) (by first | exact Or.inl rfl | exact Or.inr rfl)), q_all, ((c_cmp hr .gt (c_bin .mul (c_ix (c_var 2 (by rfl) (by first | exact Or.inl rfl | exact Or.inr (Or.inl rfl) | exact Or.inr (Or.inr rfl)) (by rfl) (by rfl)) (c_var 6 (by rfl) (by first | exact Or.inl rfl | exact Or.inr (Or.inl rfl) | exact Or.inr (Or.inr rfl)) (by rfl) (by rfl)) (fun _ _ => rfl)) (c_var 3 (by rfl) (by first | exact Or.inl rfl | exact Or.inr (Or.inl rfl) | exact Or.inr (Or.inr rfl)) (by rfl) (by rfl))) (c_bin .mul (c_var 1 (by rfl) (by first | exact Or.inl rfl | exact Or.inr (Or.inl rfl) | exact Or.inr (Or.inr rfl)) (by rfl) (by rfl)) (c_ix (c_var 0 (by rfl) (by first | exact Or.inl rfl | exact Or.inr (Or.inl rfl) | exact Or.inr (Or.inr rfl)) (by rfl) (by rfl)) (c_var 6 (by rfl) (by first | exact Or.inl rfl | exact Or.inr (Or.inl rfl) | exact Or.inr (Or.inr rfl)) (by rfl) (by rfl)) (fun _ _ => rfl))) (nomark _))).pe⟩) (by intro _; rfl)) (z_cons (z_for (poB rfl rfl rfl rfl rfl) (by rfl) (i_rg1 (by rfl) z_range (c_primB (prim_ok hr hgd (by rfl) .len (fun _ => nofun) (fun _ => nofun)) rfl (by rfl) z_len (by rfl) (a_cons (c_var 0 (by rfl) (by first | exact Or.inl rfl | exact Or.inr (Or.inl rfl) | exact Or.inr (Or.inr rfl)) (by rfl) (by rfl)) a_nil (by rfl)) (by decide) (by rfl) (by rfl) (by rfl)) (by rfl)) (g_nm nd__law_is_right (by rfl) (by first | exact Or.inl rfl | exact Or.inr rfl) (by first | exact Or.inl rfl | exact Or.inr rfl)) (z_cons (z_if ((l_or (c_cmp hr .ge (c_primB (prim_ok hr hgd (by rfl) .abs (fun _ => nofun) (fun _ => nofun)) rfl (by rfl) z_abs (by rfl) (a_cons (c_bin .sub (c_bin .mul (c_ix (c_var 2 (by rfl) (by first | exact Or.inl rfl | exact Or.inr (Or.inl rfl) | exact Or.inr (Or.inr rfl)) (by rfl) (by rfl)) (c_var 6 (by rfl) (by first | exact Or.inl rfl | exact Or.inr (Or.inl rfl) | exact Or.inr (Or.inr rfl)) (by rfl) (by rfl)) (fun _ _ => rfl)) (c_var 3 (by rfl) (by first | exact Or.inl rfl | exact Or.inr (Or.inl rfl) | exact Or.inr (Or.inr rfl)) (by rfl) (by rfl))) (c_bin .mul (c_var 1 (by rfl) (by first | exact Or.inl rfl | exact Or.inr (Or.inl rfl) | exact Or.inr (Or.inr rfl)) (by rfl) (by rfl)) (c_ix (c_var 0 (by rfl) (by first | exact Or.inl rfl | exact Or.inr (Or.inl rfl) | exact Or.inr (Or.inr rfl)) (by rfl) (by rfl)) (c_var 6 (by rfl) (by first | exact Or.inl rfl | exact Or.inr (Or.inl rfl) | exact Or.inr (Or.inr rfl)) (by rfl) (by rfl)) (fun _ _ => rfl)))) a_nil (by rfl)) (by decide) (by rfl) (by rfl) (by rfl)) (c_var 3 (by rfl) (by first | exact Or.inl rfl | exact Or.inr (Or.inl rfl) | exact Or.inr (Or.inr rfl)) (by rfl) (by rfl)) (nomark _)) (l_or (c_cmp hr .gt (c_ix (c_var 2 (by rfl) (by first | exact Or.inl rfl | exact Or.inr (Or.inl rfl) | exact Or.inr (Or.inr rfl)) (by rfl) (by rfl)) (c_var 6 (by rfl) (by first | exact Or.inl rfl | exact Or.inr (Or.inl rfl) | exact Or.inr (Or.inr rfl)) (by rfl) (by rfl)) (fun _ _ => rfl)) (c_ix (c_var 0 (by rfl) (by first | exact Or.inl rfl | exact Or.inr (Or.inl rfl) | exact Or.inr (Or.inr rfl)) (by rfl) (by rfl)) (c_var 6 (by rfl) (by first | exact Or.inl rfl | exact Or.inr (Or.inl rfl) | exact Or.inr (Or.inr rfl)) (by rfl) (by rfl)) (fun _ _ => rfl)) (nomark _)) (l_one ((l_and (c_snd (c_ix (c_var 5 (by rfl) (by first | exact Or.inl rfl | exact Or.inr (Or.inl rfl) | exact Or.inr (Or.inr rfl)) (by rfl) (by rfl)) (c_var 6 (by rfl) (by first | exact Or.inl rfl | exact Or.inr (Or.inl rfl) | exact Or.inr (Or.inr rfl)) (by rfl) (by rfl)) (fun _ _ => rfl)) (by intro _; rfl)) (l_one (c_cmp hr .eq (c_ix (c_var 4 (by rfl) (by first | exact Or.inl rfl | exact Or.inr (Or.inl rfl) | exact Or.inr (Or.inr rfl)) (by rfl) (by rfl)) (c_var 6 (by rfl) (by first | exact Or.inl rfl | exact Or.inr (Or.inl rfl) | exact Or.inr (Or.inr rfl)) (by rfl) (by rfl)) (fun _ _ => rfl)) (c_int pe_int) (nomark _))))).snd)))).snd (z_cons (z_ret (c_bool pe_bl)) z_nil) z_nil) (z_cons (z_for (poB rfl rfl rfl rfl rfl) (by rfl) (i_rg1 (by rfl) z_range (c_primB (prim_ok hr hgd (by rfl) .len (fun _ => nofun) (fun _ => nofun)) rfl (by rfl) z_len (by rfl) (a_cons (c_var 0 (by rfl) (by first | exact Or.inl rfl | exact Or.inr (Or.inl rfl) | exact Or.inr (Or.inr rfl)) (by rfl) (by rfl)) a_nil (by rfl)) (by decide) (by rfl) (by rfl) (by rfl)) (by rfl)) (g_nm nd__law_is_right (by rfl) (by first | exact Or.inl rfl | exact Or.inr rfl) (by first | exact Or.inl rfl | exact Or.inr rfl)) (z_cons (z_if ((l_or ((l_and (c_cmp hr .gt (c_ix (c_var 0 (by rfl) (by first | exact Or.inl rfl | exact Or.inr (Or.inl rfl) | exact Or.inr (Or.inr rfl)) (by rfl) (by rfl)) (c_var 7 (by rfl) (by first | exact Or.inl rfl | exact Or.inr (Or.inl rfl) | exact Or.inr (Or.inr rfl)) (by rfl) (by rfl)) (fun _ _ => rfl)) (c_ix (c_var 0 (by rfl) (by first | exact Or.inl rfl | exact Or.inr (Or.inl rfl) | exact Or.inr (Or.inr rfl)) (by rfl) (by rfl)) (c_var 6 (by rfl) (by first | exact Or.inl rfl | exact Or.inr (Or.inl rfl) | exact Or.inr (Or.inr rfl)) (by rfl) (by rfl)) (fun _ _ => rfl)) (nomark _)) (l_one (c_cmp hr .lt (c_ix (c_var 2 (by rfl) (by first | exact Or.inl rfl | exact Or.inr (Or.inl rfl) | exact Or.inr (Or.inr rfl)) (by rfl) (by rfl)) (c_var 7 (by rfl) (by first | exact Or.inl rfl | exact Or.inr (Or.inl rfl) | exact Or.inr (Or.inr rfl)) (by rfl) (by rfl)) (fun _ _ => rfl)) (c_ix (c_var 2 (by rfl) (by first | exact Or.inl rfl | exact Or.inr (Or.inl rfl) | exact Or.inr (Or.inr rfl)) (by rfl) (by rfl)) (c_var 6 (by rfl) (by first | exact Or.inl rfl | exact Or.inr (Or.inl rfl) | exact Or.inr (Or.inr rfl)) (by rfl) (by rfl)) (fun _ _ => rfl)) (nomark _))))).snd (l_one ((l_and (c_snd (c_ix (c_var 5 (by rfl) (by first | exact Or.inl rfl | exact Or.inr (Or.inl rfl) | exact Or.inr (Or.inr rfl)) (by rfl) (by rfl)) (c_var 6 (by rfl) (by first | exact Or.inl rfl | exact Or.inr (Or.inl rfl) | exact Or.inr (Or.inr rfl)) (by rfl) (by rfl)) (fun _ _ => rfl)) (by intro _; rfl)) (l_and (c_not (c_snd (c_ix (c_var 5 (by rfl) (by first | exact Or.inl rfl | exact Or.inr (Or.inl rfl) | exact Or.inr (Or.inr rfl)) (by rfl) (by rfl)) (c_var 7 (by rfl) (by first | exact Or.inl rfl | exact Or.inr (Or.inl rfl) | exact Or.inr (Or.inr rfl)) (by rfl) (by rfl)) (fun _ _ => rfl)) (by intro _; rfl))) (l_one (c_cmp hr .gt (c_ix (c_var 4 (by rfl) (by first | exact Or.inl rfl | exact Or.inr (Or.inl rfl) | exact Or.inr (Or.inr rfl)) (by rfl) (by rfl)) (c_var 7 (by rfl) (by first | exact Or.inl rfl | exact Or.inr (Or.inl rfl) | exact Or.inr (Or.inr rfl)) (by rfl) (by rfl)) (fun _ _ => rfl)) (c_ix (c_var 4 (by rfl) (by first | exact Or.inl rfl | exact Or.inr (Or.inl rfl) | exact Or.inr (Or.inr rfl)) (by rfl) (by rfl)) (c_var 6 (by rfl) (by first | exact Or.inl rfl | exact Or.inr (Or.inl rfl) | exact Or.inr (Or.inr rfl)) (by rfl) (by rfl)) (fun _ _ => rfl)) (nomark _)))))).snd))).snd (z_cons (z_ret (c_bool pe_bl)) z_nil) z_nil) (z_cons (z_if ((l_and (c_cmp hr .lt (c_var 7 (by rfl) (by first | exact Or.inl rfl | exact Or.inr (Or.inl rfl) | exact Or.inr (Or.inr rfl)) (by rfl) (by rfl)) (c_var 6 (by rfl) (by first | exact Or.inl rfl | exact Or.inr (Or.inl rfl) | exact Or.inr (Or.inr rfl)) (by rfl) (by rfl)) (nomark _)) (l_and (c_cmp hr .eq (c_ix (c_var 0 (by rfl) (by first | exact Or.inl rfl | exact Or.inr (Or.inl rfl) | exact Or.inr (Or.inr rfl)) (by rfl) (by rfl)) (c_var 7 (by rfl) (by first | exact Or.inl rfl | exact Or.inr (Or.inl rfl) | exact Or.inr (Or.inr rfl)) (by rfl) (by rfl)) (fun _ _ => rfl)) (c_ix (c_var 0 (by rfl) (by first | exact Or.inl rfl | exact Or.inr (Or.inl rfl) | exact Or.inr (Or.inr rfl)) (by rfl) (by rfl)) (c_var 6 (by rfl) (by first | exact Or.inl rfl | exact Or.inr (Or.inl rfl) | exact Or.inr (Or.inr rfl)) (by rfl) (by rfl)) (fun _ _ => rfl)) (nomark _)) (l_one (c_cmp hr .notIn (c_bin .sub (c_ix (c_var 2 (by rfl) (by first | exact Or.inl rfl | exact Or.inr (Or.inl rfl) | exact Or.inr (Or.inr rfl)) (by rfl) (by rfl)) (c_var 7 (by rfl) (by first | exact Or.inl rfl | exact Or.inr (Or.inl rfl) | exact Or.inr (Or.inr rfl)) (by rfl) (by rfl)) (fun _ _ => rfl)) (c_ix (c_var 2 (by rfl) (by first | exact Or.inl rfl | exact Or.inr (Or.inl rfl) | exact Or.inr (Or.inr rfl)) (by rfl) (by rfl)) (c_var 6 (by rfl) (by first | exact Or.inl rfl | exact Or.inr (Or.inl rfl) | exact Or.inr (Or.inr rfl)) (by rfl) (by rfl)) (fun _ _ => rfl))) (c_tup (a_cons (c_int pe_int) (a_cons (c_int pe_int) a_nil (by rfl)) (by rfl))) (by rfl)))))).snd (z_cons (z_ret (c_bool pe_bl)) z_nil) z_nil) z_nil)) (by intro _; rfl)) z_nil)) (by intro _; rfl)) (z_cons (z_ret (c_bool pe_bl)) z_nil))))))
set_option maxHeartbeats 4000000 in
theorem ok__law_same {f : Addr} {fd : FuncData} (fn : Fun K "_law_same" "_law_same" s__law_same f fd) (z_repr : mg "repr" = none) : FnV P w K mg base 1 f fd ["_law_found", "_law_due"] (spV K mg 2 F__law_same) := by
  obtain ⟨oc, od, kV, doc, pm, an, cdv, ct, osl, rfl, lk, hcd⟩ := fn.ex
  refine fnV_sem (k := 0) (N := n__law_same) (wb := w__law_same) lk hcd sc__law_same rfl rfl (by decide) (fun _ _ _ h => by unfold F__law_same at h; exact h) fun A outer s H E B hr hgd => ?_
  exact (z_cons (z_ret ((c_cmp hr .eq (c_primB (prim_ok hr hgd (by rfl) .repr (fun _ => nofun) (fun _ => nofun)) rfl (by rfl) z_repr (by rfl) (a_cons (c_var 0 (by rfl) (by first | exact Or.inl rfl | exact Or.inr (Or.inl rfl) | exact Or.inr (Or.inr rfl)) (by rfl) (by rfl)) a_nil (by rfl)) (by decide) (by rfl) (by rfl) (by rfl)) (c_primB (prim_ok hr hgd (by rfl) .repr (fun _ => nofun) (fun _ => nofun)) rfl (by rfl) z_repr (by rfl) (a_cons (c_var 1 (by rfl) (by first | exact Or.inl rfl | exact Or.inr (Or.inl rfl) | exact Or.inr (Or.inr rfl)) (by rfl) (by rfl)) a_nil (by rfl)) (by decide) (by rfl) (by rfl) (by rfl)) (nomark _))).pe) z_nil)
set_option maxHeartbeats 4000000 in
theorem ok_parts_of {f : Addr} {fd : FuncData} (fn : Fun K "parts_of" "parts_of" s_parts_of f fd) (z_sum : mg "sum" = none) : FnV P w K mg base 1 f fd ["some", "much"] (spV K mg 2 F_parts_of) := by
  obtain ⟨oc, od, kV, doc, pm, an, cdv, ct, osl, rfl, lk, hcd⟩ := fn.ex
  refine fnV_sem (k := 0) (N := n_parts_of) (wb := w_parts_of) lk hcd sc_parts_of rfl rfl (by decide) (fun _ _ _ h => by unfold F_parts_of at h; exact h) fun A outer s H E B hr hgd => ?_
  exact (z_cons (z_asg (c_primB (prim_ok hr hgd (by rfl) .sum (fun _ => nofun) (fun _ => nofun)) rfl (by rfl) z_sum (by rfl) (a_cons (c_var 0 (by rfl) (by first | exact Or.inl rfl | exact Or.inr (Or.inl rfl) | exact Or.inr (Or.inr rfl)) (by rfl) (by rfl)) a_nil (by rfl)) (by decide) (by rfl) (by rfl) (by rfl)) (g_nm nd_parts_of (by rfl) (by first | exact Or.inl rfl | exact Or.inr rfl) (by first | exact Or.inl rfl | exact Or.inr rfl)) (by rfl) (by rfl) (by rfl)) (z_cons (z_ret (c_tup (a_cons (c_comp (own := [("due", 3)]) (by rfl) nd_parts_of (i_e (c_var 0 (by rfl) (by first | exact Or.inl rfl | exact Or.inr (Or.inl rfl) | exact Or.inr (Or.inr rfl)) (by rfl) (by rfl))) (blkOk_by (own := [("due", 3)]) (N := n_parts_of) (sc := (defScope s_parts_of)) (by decide +kernel)) (by decide) (by decide) (fun _ _ _ _ _ => ⟨(g_nm nd_parts_of (by rfl) (by first | exact Or.inl rfl | exact Or.inr rfl) (by first | exact Or.inl rfl | exact Or.inr rfl)), q_all, (c_bin .fdiv (c_bin .mul (c_var 1 (by rfl) (by first | exact Or.inl rfl | exact Or.inr (Or.inl rfl) | exact Or.inr (Or.inr rfl)) (by rfl) (by rfl)) (c_var 3 (by rfl) (by first | exact Or.inl rfl | exact Or.inr (Or.inl rfl) | exact Or.inr (Or.inr rfl)) (by rfl) (by rfl))) (c_var 2 (by rfl) (by first | exact Or.inl rfl | exact Or.inr (Or.inl rfl) | exact Or.inr (Or.inr rfl)) (by rfl) (by rfl)))⟩) (by intro _; rfl)) (a_cons (c_comp (own := [("due", 3)]) (by rfl) nd_parts_of (i_e (c_var 0 (by rfl) (by first | exact Or.inl rfl | exact Or.inr (Or.inl rfl) | exact Or.inr (Or.inr rfl)) (by rfl) (by rfl))) (blkOk_by (own := [("due", 3)]) (N := n_parts_of) (sc := (defScope s_parts_of)) (by decide +kernel)) (by decide) (by decide) (fun _ _ _ _ _ => ⟨(g_nm nd_parts_of (by rfl) (by first | exact Or.inl rfl | exact Or.inr rfl) (by first | exact Or.inl rfl | exact Or.inr rfl)), q_all, (c_bin .mod (c_bin .mul (c_var 1 (by rfl) (by first | exact Or.inl rfl | exact Or.inr (Or.inl rfl) | exact Or.inr (Or.inr rfl)) (by rfl) (by rfl)) (c_var 3 (by rfl) (by first | exact Or.inl rfl | exact Or.inr (Or.inl rfl) | exact Or.inr (Or.inr rfl)) (by rfl) (by rfl))) (c_var 2 (by rfl) (by first | exact Or.inl rfl | exact Or.inr (Or.inl rfl) | exact Or.inr (Or.inr rfl)) (by rfl) (by rfl)))⟩) (by intro _; rfl)) a_nil (by rfl)) (by rfl)))) z_nil))
set_option maxHeartbeats 4000000 in
theorem ok_shares {f : Addr} {fd : FuncData} (fn : Fun K "shares" "shares" s_shares f fd) {f_parts_of : Addr} {d_parts_of : FuncData} (g_parts_of : FnV P w K mg base 1 f_parts_of d_parts_of ["some", "much"] (spV K mg 2 F_parts_of)) (m_parts_of : mg "parts_of" = some (.ref f_parts_of)) (k_parts_of : PySem.W.keepIn K (.ref f_parts_of) = true) (b_parts_of : Binds K d_parts_of ["some", "much"] []) (z_len : mg "len" = none) (z_range : mg "range" = none) (z_sorted : mg "sorted" = none) (z_sum : mg "sum" = none) (z_tuple : mg "tuple" = none) : FnV P w K mg base 2 f fd ["some", "pence"] (spV K mg 2 F_shares) := by
  obtain ⟨oc, od, kV, doc, pm, an, cdv, ct, osl, rfl, lk, hcd⟩ := fn.ex
  refine fnV_sem (k := 1) (N := n_shares) (wb := w_shares) lk hcd sc_shares rfl rfl (by decide) (fun _ _ _ h => by unfold F_shares at h; exact h) fun A outer s H E B hr hgd => ?_
  exact (z_cons (z_asg (c_var 1 (by rfl) (by first | exact Or.inl rfl | exact Or.inr (Or.inl rfl) | exact Or.inr (Or.inr rfl)) (by rfl) (by rfl)) (g_nm nd_shares (by rfl) (by first | exact Or.inl rfl | exact Or.inr rfl) (by first | exact Or.inl rfl | exact Or.inr rfl)) (by rfl) (by rfl) (by rfl)) (z_cons (z_if (c_cmp hr .eq (c_primB (prim_ok hr hgd (by rfl) .sum (fun _ => nofun) (fun _ => nofun)) rfl (by rfl) z_sum (by rfl) (a_cons (c_var 0 (by rfl) (by first | exact Or.inl rfl | exact Or.inr (Or.inl rfl) | exact Or.inr (Or.inr rfl)) (by rfl) (by rfl)) a_nil (by rfl)) (by decide) (by rfl) (by rfl) (by rfl)) (c_int pe_int) (nomark _)) (z_cons (z_ret (c_primT (prim_ok hr hgd (by rfl) .tuple (fun _ => nofun) (fun _ => nofun)) rfl (by rfl) z_tuple (by rfl) (a_cons (c_comp (own := [("due", 8)]) (by rfl) nd_shares (i_e (c_var 0 (by rfl) (by first | exact Or.inl rfl | exact Or.inr (Or.inl rfl) | exact Or.inr (Or.inr rfl)) (by rfl) (by rfl))) (blkOk_by (own := [("due", 8)]) (N := n_shares) (sc := (defScope s_shares)) (by decide +kernel)) (by decide) (by decide) (fun _ _ _ _ _ => ⟨(g_nm nd_shares (by rfl) (by first | exact Or.inl rfl | exact Or.inr rfl) (by first | exact Or.inl rfl | exact Or.inr rfl)), q_all, (c_int pe_int)⟩) (by intro _; rfl)) a_nil (by rfl)) (by decide) (by rfl) (by rfl) (by rfl))) z_nil) z_nil) (z_cons (z_asg (s_call g_parts_of (hr.mono (by decide)) hgd tkB (by rfl) m_parts_of k_parts_of b_parts_of (a_cons (c_var 0 (by rfl) (by first | exact Or.inl rfl | exact Or.inr (Or.inl rfl) | exact Or.inr (Or.inr rfl)) (by rfl) (by rfl)) (a_cons (c_var 2 (by rfl) (by first | exact Or.inl rfl | exact Or.inr (Or.inl rfl) | exact Or.inr (Or.inr rfl)) (by rfl) (by rfl)) a_nil (by rfl)) (by rfl)) (by rfl) (by rfl) (by rfl)) (g_tp (is := [3, 4]) (by rfl) (gs_cons nd_shares (by rfl) (by first | exact Or.inl rfl | exact Or.inr rfl) (by first | exact Or.inl rfl | exact Or.inr rfl) (gs_cons nd_shares (by rfl) (by first | exact Or.inl rfl | exact Or.inr rfl) (by first | exact Or.inl rfl | exact Or.inr rfl) gs_nil (by rfl)) (by rfl)) (by rfl) (by rfl) rfl) (by rfl) (by rfl) (by rfl)) (z_cons (z_asg (c_primB (prim_ok hr hgd (by rfl) .sorted (fun _ => nofun) (fun _ => nofun)) rfl (by rfl) z_sorted (by rfl) (a_cons (c_comp (own := [("k", 7)]) (by rfl) nd_shares (i_rg1 (by rfl) z_range (c_primB (prim_ok hr hgd (by rfl) .len (fun _ => nofun) (fun _ => nofun)) rfl (by rfl) z_len (by rfl) (a_cons (c_var 0 (by rfl) (by first | exact Or.inl rfl | exact Or.inr (Or.inl rfl) | exact Or.inr (Or.inr rfl)) (by rfl) (by rfl)) a_nil (by rfl)) (by decide) (by rfl) (by rfl) (by rfl)) (by rfl)) (blkOk_by (own := [("k", 7)]) (N := n_shares) (sc := (defScope s_shares)) (by decide +kernel)) (by decide) (by decide) (fun _ _ _ _ _ => ⟨(g_nm nd_shares (by rfl) (by first | exact Or.inl rfl | exact Or.inr rfl) (by first | exact Or.inl rfl | exact Or.inr rfl)), q_all, (c_tup (a_cons (c_bin .sub (c_int pe_int) (c_ix (c_var 4 (by rfl) (by first | exact Or.inl rfl | exact Or.inr (Or.inl rfl) | exact Or.inr (Or.inr rfl)) (by rfl) (by rfl)) (c_var 7 (by rfl) (by first | exact Or.inl rfl | exact Or.inr (Or.inl rfl) | exact Or.inr (Or.inr rfl)) (by rfl) (by rfl)) (fun _ _ => rfl))) (a_cons (c_var 7 (by rfl) (by first | exact Or.inl rfl | exact Or.inr (Or.inl rfl) | exact Or.inr (Or.inr rfl)) (by rfl) (by rfl)) a_nil (by rfl)) (by rfl)))⟩) (by intro _; rfl)) a_nil (by rfl)) (by decide) (by rfl) (by rfl) (by rfl)) (g_nm nd_shares (by rfl) (by first | exact Or.inl rfl | exact Or.inr rfl) (by first | exact Or.inl rfl | exact Or.inr rfl)) (by rfl) (by rfl) (by rfl)) (z_cons (z_for (poB rfl rfl rfl rfl rfl) (by rfl) (i_e (c_sl (c_var 5 (by rfl) (by first | exact Or.inl rfl | exact Or.inr (Or.inl rfl) | exact Or.inr (Or.inr rfl)) (by rfl) (by rfl)) o_none (o_some (c_bin .sub (c_var 2 (by rfl) (by first | exact Or.inl rfl | exact Or.inr (Or.inl rfl) | exact Or.inr (Or.inr rfl)) (by rfl) (by rfl)) (c_primB (prim_ok hr hgd (by rfl) .sum (fun _ => nofun) (fun _ => nofun)) rfl (by rfl) z_sum (by rfl) (a_cons (c_var 3 (by rfl) (by first | exact Or.inl rfl | exact Or.inr (Or.inl rfl) | exact Or.inr (Or.inr rfl)) (by rfl) (by rfl)) a_nil (by rfl)) (by decide) (by rfl) (by rfl) (by rfl)))))) (g_tp (is := [6, 7]) (by rfl) (gs_cons nd_shares (by rfl) (by first | exact Or.inl rfl | exact Or.inr rfl) (by first | exact Or.inl rfl | exact Or.inr rfl) (gs_cons nd_shares (by rfl) (by first | exact Or.inl rfl | exact Or.inr rfl) (by first | exact Or.inl rfl | exact Or.inr rfl) gs_nil (by rfl)) (by rfl)) (by rfl) (by rfl) rfl) (z_cons (z_setIx (c_bin .add (c_ix (c_var 3 (by rfl) (by first | exact Or.inl rfl | exact Or.inr (Or.inl rfl) | exact Or.inr (Or.inr rfl)) (by rfl) (by rfl)) (c_var 7 (by rfl) (by first | exact Or.inl rfl | exact Or.inr (Or.inl rfl) | exact Or.inr (Or.inr rfl)) (by rfl) (by rfl)) (fun _ _ => rfl)) (c_int pe_int)) (c_var 3 (by rfl) (by first | exact Or.inl rfl | exact Or.inr (Or.inl rfl) | exact Or.inr (Or.inr rfl)) (by rfl) (by rfl)) (c_var 7 (by rfl) (by first | exact Or.inl rfl | exact Or.inr (Or.inl rfl) | exact Or.inr (Or.inr rfl)) (by rfl) (by rfl)) (by intro _; rfl) (by rfl) (by rfl) (by rfl)) z_nil) (by intro _; rfl)) (z_cons (z_ret (c_primT (prim_ok hr hgd (by rfl) .tuple (fun _ => nofun) (fun _ => nofun)) rfl (by rfl) z_tuple (by rfl) (a_cons (c_var 3 (by rfl) (by first | exact Or.inl rfl | exact Or.inr (Or.inl rfl) | exact Or.inr (Or.inr rfl)) (by rfl) (by rfl)) a_nil (by rfl)) (by decide) (by rfl) (by rfl) (by rfl))) z_nil))))))
set_option maxHeartbeats 4000000 in
theorem ok_law {f : Addr} {fd : FuncData} (fn : Fun K "law" "law" s_law f fd) {f__law_draw : Addr} {d__law_draw : FuncData} (g__law_draw : FnV P w K mg base 1 f__law_draw d__law_draw ["_law_feed_here", "_law_many"] (spV K mg 2 F__law_draw)) (m__law_draw : mg "_law_draw" = some (.ref f__law_draw)) (k__law_draw : PySem.W.keepIn K (.ref f__law_draw) = true) (b__law_draw : Binds K d__law_draw ["_law_feed_here", "_law_many"] []) {f__law_dues : Addr} {d__law_dues : FuncData} (g__law_dues : FnV P w K mg base 2 f__law_dues d__law_dues ["_law_feed_here"] (spV K mg 1 F__law_dues)) (m__law_dues : mg "_law_dues" = some (.ref f__law_dues)) (k__law_dues : PySem.W.keepIn K (.ref f__law_dues) = true) (b__law_dues : Binds K d__law_dues ["_law_feed_here"] []) {f__law_feed : Addr} {d__law_feed : FuncData} (g__law_feed : FnV P w K mg base 1 f__law_feed d__law_feed ["_law_script"] (spV K mg 1 F__law_feed)) (m__law_feed : mg "_law_feed" = some (.ref f__law_feed)) (k__law_feed : PySem.W.keepIn K (.ref f__law_feed) = true) (b__law_feed : Binds K d__law_feed ["_law_script"] []) {f__law_is_right : Addr} {d__law_is_right : FuncData} (g__law_is_right : FnV P w K mg base 1 f__law_is_right d__law_is_right ["_law_some", "_law_much", "_law_told"] (spV K mg 3 F__law_is_right)) (m__law_is_right : mg "_law_is_right" = some (.ref f__law_is_right)) (k__law_is_right : PySem.W.keepIn K (.ref f__law_is_right) = true) (b__law_is_right : Binds K d__law_is_right ["_law_some", "_law_much", "_law_told"] []) {f__law_same : Addr} {d__law_same : FuncData} (g__law_same : FnV P w K mg base 1 f__law_same d__law_same ["_law_found", "_law_due"] (spV K mg 2 F__law_same)) (m__law_same : mg "_law_same" = some (.ref f__law_same)) (k__law_same : PySem.W.keepIn K (.ref f__law_same) = true) (b__law_same : Binds K d__law_same ["_law_found", "_law_due"] []) {f_shares : Addr} {d_shares : FuncData} (g_shares : FnV P w K mg base 2 f_shares d_shares ["some", "pence"] (spV K mg 2 F_shares)) (m_shares : mg "shares" = some (.ref f_shares)) (k_shares : PySem.W.keepIn K (.ref f_shares) = true) (b_shares : Binds K d_shares ["some", "pence"] []) (z_len : mg "len" = none) (z_max : mg "max" = none) (z_min : mg "min" = none) (z_range : mg "range" = none) (z_sum : mg "sum" = none) : FnV P w K mg base 3 f fd ["_law_script"] (spV K mg 1 F_law) := by
  obtain ⟨oc, od, kV, doc, pm, an, cdv, ct, osl, rfl, lk, hcd⟩ := fn.ex
  refine fnV_sem (k := 2) (N := n_law) (wb := w_law) lk hcd sc_law rfl rfl (by decide) (fun _ _ _ h => by unfold F_law at h; exact h) fun A outer s H E B hr hgd => ?_
  exact (z_cons (z_asg (s_call g__law_feed (hr.mono (by decide)) hgd tkB (by rfl) m__law_feed k__law_feed b__law_feed (a_cons (c_var 0 (by rfl) (by first | exact Or.inl rfl | exact Or.inr (Or.inl rfl) | exact Or.inr (Or.inr rfl)) (by rfl) (by rfl)) a_nil (by rfl)) (by rfl) (by rfl) (by rfl)) (g_nm nd_law (by rfl) (by first | exact Or.inl rfl | exact Or.inr rfl) (by first | exact Or.inl rfl | exact Or.inr rfl)) (by rfl) (by rfl) (by rfl)) (z_cons (z_for (poB rfl rfl rfl rfl rfl) (by rfl) (i_rg1 (by rfl) z_range (c_int pe_int) (by rfl)) (g_nm nd_law (by rfl) (by first | exact Or.inl rfl | exact Or.inr rfl) (by first | exact Or.inl rfl | exact Or.inr rfl)) (z_cons (z_asg (s_call g__law_dues (hr.mono (by decide)) hgd tkB (by rfl) m__law_dues k__law_dues b__law_dues (a_cons (c_var 1 (by rfl) (by first | exact Or.inl rfl | exact Or.inr (Or.inl rfl) | exact Or.inr (Or.inr rfl)) (by rfl) (by rfl)) a_nil (by rfl)) (by rfl) (by rfl) (by rfl)) (g_nm nd_law (by rfl) (by first | exact Or.inl rfl | exact Or.inr rfl) (by first | exact Or.inl rfl | exact Or.inr rfl)) (by rfl) (by rfl) (by rfl)) (z_cons (z_asg (c_primB (prim_ok hr hgd (by rfl) .sum (fun _ => nofun) (fun _ => nofun)) rfl (by rfl) z_sum (by rfl) (a_cons (c_var 3 (by rfl) (by first | exact Or.inl rfl | exact Or.inr (Or.inl rfl) | exact Or.inr (Or.inr rfl)) (by rfl) (by rfl)) a_nil (by rfl)) (by decide) (by rfl) (by rfl) (by rfl)) (g_nm nd_law (by rfl) (by first | exact Or.inl rfl | exact Or.inr rfl) (by first | exact Or.inl rfl | exact Or.inr rfl)) (by rfl) (by rfl) (by rfl)) (z_cons (z_if (c_not (c_snd (s_call g__law_same (hr.mono (by decide)) hgd tkB (by rfl) m__law_same k__law_same b__law_same (a_cons (c_lst (a_cons (s_call g_shares (hr.mono (by decide)) hgd tkB (by rfl) m_shares k_shares b_shares (a_cons (c_var 3 (by rfl) (by first | exact Or.inl rfl | exact Or.inr (Or.inl rfl) | exact Or.inr (Or.inr rfl)) (by rfl) (by rfl)) (a_cons (c_var 4 (by rfl) (by first | exact Or.inl rfl | exact Or.inr (Or.inl rfl) | exact Or.inr (Or.inr rfl)) (by rfl) (by rfl)) a_nil (by rfl)) (by rfl)) (by rfl) (by rfl) (by rfl)) (a_cons (s_call g_shares (hr.mono (by decide)) hgd tkB (by rfl) m_shares k_shares b_shares (a_cons (c_var 3 (by rfl) (by first | exact Or.inl rfl | exact Or.inr (Or.inl rfl) | exact Or.inr (Or.inr rfl)) (by rfl) (by rfl)) (a_cons (c_int pe_int) a_nil (by rfl)) (by rfl)) (by rfl) (by rfl) (by rfl)) a_nil (by rfl)) (by rfl))) (a_cons (c_lst (a_cons (c_var 3 (by rfl) (by first | exact Or.inl rfl | exact Or.inr (Or.inl rfl) | exact Or.inr (Or.inr rfl)) (by rfl) (by rfl)) (a_cons (c_bin .mul (c_tup (a_cons (c_int pe_int) a_nil (by rfl))) (c_primB (prim_ok hr hgd (by rfl) .len (fun _ => nofun) (fun _ => nofun)) rfl (by rfl) z_len (by rfl) (a_cons (c_var 3 (by rfl) (by first | exact Or.inl rfl | exact Or.inr (Or.inl rfl) | exact Or.inr (Or.inr rfl)) (by rfl) (by rfl)) a_nil (by rfl)) (by decide) (by rfl) (by rfl) (by rfl))) a_nil (by rfl)) (by rfl))) a_nil (by rfl)) (by rfl)) (by rfl) (by rfl) (by rfl)) (by intro _; rfl))) (z_cons (z_ret (c_bool pe_bl)) z_nil) z_nil) (z_cons (z_asg (s_call g__law_draw (hr.mono (by decide)) hgd tkB (by rfl) m__law_draw k__law_draw b__law_draw (a_cons (c_var 1 (by rfl) (by first | exact Or.inl rfl | exact Or.inr (Or.inl rfl) | exact Or.inr (Or.inr rfl)) (by rfl) (by rfl)) (a_cons (c_bin .add (c_var 4 (by rfl) (by first | exact Or.inl rfl | exact Or.inr (Or.inl rfl) | exact Or.inr (Or.inr rfl)) (by rfl) (by rfl)) (c_int pe_int)) a_nil (by rfl)) (by rfl)) (by rfl) (by rfl) (by rfl)) (g_nm nd_law (by rfl) (by first | exact Or.inl rfl | exact Or.inr rfl) (by first | exact Or.inl rfl | exact Or.inr rfl)) (by rfl) (by rfl) (by rfl)) (z_cons (z_for (poB rfl rfl rfl rfl rfl) (by rfl) (i_e (c_lst (a_cons (c_var 5 (by rfl) (by first | exact Or.inl rfl | exact Or.inr (Or.inl rfl) | exact Or.inr (Or.inr rfl)) (by rfl) (by rfl)) (a_cons (c_primB (prim_ok hr hgd (by rfl) .min2 (fun _ => nofun) (fun _ => nofun)) rfl (by rfl) z_min (by rfl) (a_cons (c_var 4 (by rfl) (by first | exact Or.inl rfl | exact Or.inr (Or.inl rfl) | exact Or.inr (Or.inr rfl)) (by rfl) (by rfl)) (a_cons (c_bin .add (c_var 5 (by rfl) (by first | exact Or.inl rfl | exact Or.inr (Or.inl rfl) | exact Or.inr (Or.inr rfl)) (by rfl) (by rfl)) (c_int pe_int)) a_nil (by rfl)) (by rfl)) (by decide) (by rfl) (by rfl) (by rfl)) (a_cons (c_bin .fdiv (c_var 4 (by rfl) (by first | exact Or.inl rfl | exact Or.inr (Or.inl rfl) | exact Or.inr (Or.inr rfl)) (by rfl) (by rfl)) (c_int pe_int)) (a_cons (c_primB (prim_ok hr hgd (by rfl) .max2 (fun _ => nofun) (fun _ => nofun)) rfl (by rfl) z_max (by rfl) (a_cons (c_int pe_int) (a_cons (c_bin .sub (c_var 4 (by rfl) (by first | exact Or.inl rfl | exact Or.inr (Or.inl rfl) | exact Or.inr (Or.inr rfl)) (by rfl) (by rfl)) (c_int pe_int)) a_nil (by rfl)) (by rfl)) (by decide) (by rfl) (by rfl) (by rfl)) a_nil (by rfl)) (by rfl)) (by rfl)) (by rfl)))) (g_nm nd_law (by rfl) (by first | exact Or.inl rfl | exact Or.inr rfl) (by first | exact Or.inl rfl | exact Or.inr rfl)) (z_cons (z_if (c_not (c_snd (s_call g__law_is_right (hr.mono (by decide)) hgd tkB (by rfl) m__law_is_right k__law_is_right b__law_is_right (a_cons (c_var 3 (by rfl) (by first | exact Or.inl rfl | exact Or.inr (Or.inl rfl) | exact Or.inr (Or.inr rfl)) (by rfl) (by rfl)) (a_cons (c_var 6 (by rfl) (by first | exact Or.inl rfl | exact Or.inr (Or.inl rfl) | exact Or.inr (Or.inr rfl)) (by rfl) (by rfl)) (a_cons (s_call g_shares (hr.mono (by decide)) hgd tkB (by rfl) m_shares k_shares b_shares (a_cons (c_var 3 (by rfl) (by first | exact Or.inl rfl | exact Or.inr (Or.inl rfl) | exact Or.inr (Or.inr rfl)) (by rfl) (by rfl)) (a_cons (c_var 6 (by rfl) (by first | exact Or.inl rfl | exact Or.inr (Or.inl rfl) | exact Or.inr (Or.inr rfl)) (by rfl) (by rfl)) a_nil (by rfl)) (by rfl)) (by rfl) (by rfl) (by rfl)) a_nil (by rfl)) (by rfl)) (by rfl)) (by rfl) (by rfl) (by rfl)) (by intro _; rfl))) (z_cons (z_ret (c_bool pe_bl)) z_nil) z_nil) z_nil) (by intro _; rfl)) z_nil))))) (by intro _; rfl)) (z_cons (z_ret (c_bool pe_bl)) z_nil)))
end
/-! ### the head -/
open PyProof.Rows in
theorem all_mk {l : PySem.W.OpenLaw} {w : World} {K : PySem.W.Frag} {h : Heap} {mg : Str → Option Value} {fa : Addr} (X : K.In h) (G : h.Ns mainGlobals mg) (hfa : mg "law" = some (.ref fa))
    {f0 : Addr} {od0 an0 : Option Addr} {sl0 : Array (Option Value)} {oc0 kV0 dc0 pm0 cd0 ct0 : Value}
    (a0 : PySem.W.nsIn K mainGlobals "_law_draw" = some (some (.ref f0))) (l0 : K.lookup f0 = some ⟨oc0, od0, .func (PySem.W.fnOf "_law_draw" "_law_draw" (defArgs s__law_draw) (defBody s__law_draw) (defScope s__law_draw) .none kV0 dc0 pm0 an0 cd0 ct0), sl0⟩) (c0 : PySem.W.codeIn K cd0 "_law_draw" = true) (k0 : PySem.W.keepIn K (.ref f0) = true)
    {f1 : Addr} {od1 an1 : Option Addr} {sl1 : Array (Option Value)} {oc1 kV1 dc1 pm1 cd1 ct1 : Value}
    (a1 : PySem.W.nsIn K mainGlobals "_law_dues" = some (some (.ref f1))) (l1 : K.lookup f1 = some ⟨oc1, od1, .func (PySem.W.fnOf "_law_dues" "_law_dues" (defArgs s__law_dues) (defBody s__law_dues) (defScope s__law_dues) .none kV1 dc1 pm1 an1 cd1 ct1), sl1⟩) (c1 : PySem.W.codeIn K cd1 "_law_dues" = true) (k1 : PySem.W.keepIn K (.ref f1) = true)
    {f2 : Addr} {od2 an2 : Option Addr} {sl2 : Array (Option Value)} {oc2 kV2 dc2 pm2 cd2 ct2 : Value}
    (a2 : PySem.W.nsIn K mainGlobals "_law_feed" = some (some (.ref f2))) (l2 : K.lookup f2 = some ⟨oc2, od2, .func (PySem.W.fnOf "_law_feed" "_law_feed" (defArgs s__law_feed) (defBody s__law_feed) (defScope s__law_feed) .none kV2 dc2 pm2 an2 cd2 ct2), sl2⟩) (c2 : PySem.W.codeIn K cd2 "_law_feed" = true) (k2 : PySem.W.keepIn K (.ref f2) = true)
    {f3 : Addr} {od3 an3 : Option Addr} {sl3 : Array (Option Value)} {oc3 kV3 dc3 pm3 cd3 ct3 : Value}
    (a3 : PySem.W.nsIn K mainGlobals "_law_is_right" = some (some (.ref f3))) (l3 : K.lookup f3 = some ⟨oc3, od3, .func (PySem.W.fnOf "_law_is_right" "_law_is_right" (defArgs s__law_is_right) (defBody s__law_is_right) (defScope s__law_is_right) .none kV3 dc3 pm3 an3 cd3 ct3), sl3⟩) (c3 : PySem.W.codeIn K cd3 "_law_is_right" = true) (k3 : PySem.W.keepIn K (.ref f3) = true)
    {f4 : Addr} {od4 an4 : Option Addr} {sl4 : Array (Option Value)} {oc4 kV4 dc4 pm4 cd4 ct4 : Value}
    (a4 : PySem.W.nsIn K mainGlobals "_law_same" = some (some (.ref f4))) (l4 : K.lookup f4 = some ⟨oc4, od4, .func (PySem.W.fnOf "_law_same" "_law_same" (defArgs s__law_same) (defBody s__law_same) (defScope s__law_same) .none kV4 dc4 pm4 an4 cd4 ct4), sl4⟩) (c4 : PySem.W.codeIn K cd4 "_law_same" = true) (k4 : PySem.W.keepIn K (.ref f4) = true)
    {f5 : Addr} {od5 an5 : Option Addr} {sl5 : Array (Option Value)} {oc5 kV5 dc5 pm5 cd5 ct5 : Value}
    (a5 : PySem.W.nsIn K mainGlobals "parts_of" = some (some (.ref f5))) (l5 : K.lookup f5 = some ⟨oc5, od5, .func (PySem.W.fnOf "parts_of" "parts_of" (defArgs s_parts_of) (defBody s_parts_of) (defScope s_parts_of) .none kV5 dc5 pm5 an5 cd5 ct5), sl5⟩) (c5 : PySem.W.codeIn K cd5 "parts_of" = true) (k5 : PySem.W.keepIn K (.ref f5) = true)
    {f6 : Addr} {od6 an6 : Option Addr} {sl6 : Array (Option Value)} {oc6 kV6 dc6 pm6 cd6 ct6 : Value}
    (a6 : PySem.W.nsIn K mainGlobals "shares" = some (some (.ref f6))) (l6 : K.lookup f6 = some ⟨oc6, od6, .func (PySem.W.fnOf "shares" "shares" (defArgs s_shares) (defBody s_shares) (defScope s_shares) .none kV6 dc6 pm6 an6 cd6 ct6), sl6⟩) (c6 : PySem.W.codeIn K cd6 "shares" = true) (k6 : PySem.W.keepIn K (.ref f6) = true)
    {f7 : Addr} {od7 an7 : Option Addr} {sl7 : Array (Option Value)} {oc7 kV7 dc7 pm7 cd7 ct7 : Value}
    (a7 : PySem.W.nsIn K mainGlobals "law" = some (some (.ref f7))) (l7 : K.lookup f7 = some ⟨oc7, od7, .func (PySem.W.fnOf "law" "law" (defArgs s_law) (defBody s_law) (defScope s_law) .none kV7 dc7 pm7 an7 cd7 ct7), sl7⟩) (c7 : PySem.W.codeIn K cd7 "law" = true) (k7 : PySem.W.keepIn K (.ref f7) = true)
    (z_abs : PySem.W.nsIn K mainGlobals "abs" = some none)
    (z_isinstance : PySem.W.nsIn K mainGlobals "isinstance" = some none)
    (z_len : PySem.W.nsIn K mainGlobals "len" = some none)
    (z_max : PySem.W.nsIn K mainGlobals "max" = some none)
    (z_min : PySem.W.nsIn K mainGlobals "min" = some none)
    (z_range : PySem.W.nsIn K mainGlobals "range" = some none)
    (z_repr : PySem.W.nsIn K mainGlobals "repr" = some none)
    (z_sorted : PySem.W.nsIn K mainGlobals "sorted" = some none)
    (z_sum : PySem.W.nsIn K mainGlobals "sum" = some none)
    (z_tuple : PySem.W.nsIn K mainGlobals "tuple" = some none) :
    ∃ fd : FuncData, (∀ (s : Shared) (u : Value), BindsTo s fd ⟨[u], []⟩ [("_law_script", u)]) ∧ ∀ base : Heap, K.In base → base.Ns mainGlobals mg → FnV l.prog w K mg base 3 fa fd ["_law_script"] (spV K mg 1 F_law) := by
  have e := hfa.symm.trans (PySem.W.mg_of X G a7)
  cases e
  have F0 := fun_mk (st := s__law_draw) l0 c0 k0
  have b0 := F0.binds (ps := ["_law_feed_here", "_law_many"]) fun _ _ _ _ _ _ us hl => match us, hl with | [_, _], _ => rfl
  have m0 := PySem.W.mg_of X G a0
  have F1 := fun_mk (st := s__law_dues) l1 c1 k1
  have b1 := F1.binds (ps := ["_law_feed_here"]) fun _ _ _ _ _ _ us hl => match us, hl with | [_], _ => rfl
  have m1 := PySem.W.mg_of X G a1
  have F2 := fun_mk (st := s__law_feed) l2 c2 k2
  have b2 := F2.binds (ps := ["_law_script"]) fun _ _ _ _ _ _ us hl => match us, hl with | [_], _ => rfl
  have m2 := PySem.W.mg_of X G a2
  have F3 := fun_mk (st := s__law_is_right) l3 c3 k3
  have b3 := F3.binds (ps := ["_law_some", "_law_much", "_law_told"]) fun _ _ _ _ _ _ us hl => match us, hl with | [_, _, _], _ => rfl
  have m3 := PySem.W.mg_of X G a3
  have F4 := fun_mk (st := s__law_same) l4 c4 k4
  have b4 := F4.binds (ps := ["_law_found", "_law_due"]) fun _ _ _ _ _ _ us hl => match us, hl with | [_, _], _ => rfl
  have m4 := PySem.W.mg_of X G a4
  have F5 := fun_mk (st := s_parts_of) l5 c5 k5
  have b5 := F5.binds (ps := ["some", "much"]) fun _ _ _ _ _ _ us hl => match us, hl with | [_, _], _ => rfl
  have m5 := PySem.W.mg_of X G a5
  have F6 := fun_mk (st := s_shares) l6 c6 k6
  have b6 := F6.binds (ps := ["some", "pence"]) fun _ _ _ _ _ _ us hl => match us, hl with | [_, _], _ => rfl
  have m6 := PySem.W.mg_of X G a6
  have F7 := fun_mk (st := s_law) l7 c7 k7
  have m7 := PySem.W.mg_of X G a7
  have y_abs := PySem.W.mg_none_of X G z_abs
  have y_isinstance := PySem.W.mg_none_of X G z_isinstance
  have y_len := PySem.W.mg_none_of X G z_len
  have y_max := PySem.W.mg_none_of X G z_max
  have y_min := PySem.W.mg_none_of X G z_min
  have y_range := PySem.W.mg_none_of X G z_range
  have y_repr := PySem.W.mg_none_of X G z_repr
  have y_sorted := PySem.W.mg_none_of X G z_sorted
  have y_sum := PySem.W.mg_none_of X G z_sum
  have y_tuple := PySem.W.mg_none_of X G z_tuple
  refine ⟨PySem.W.fnOf "law" "law" (defArgs s_law) (defBody s_law) (defScope s_law) .none kV7 dc7 pm7 an7 cd7 ct7, fun s v => .of_eq rfl, fun base _ _ => ?_⟩
  have G0 := ok__law_draw (P := l.prog) (w := w) (mg := mg) (base := base) F0 y_len
  have G1 := ok__law_dues (P := l.prog) (w := w) (mg := mg) (base := base) F1 G0 m0 F0.kp b0 y_range y_tuple
  have G2 := ok__law_feed (P := l.prog) (w := w) (mg := mg) (base := base) F2
  have G3 := ok__law_is_right (P := l.prog) (w := w) (mg := mg) (base := base) F3 y_abs y_isinstance y_len y_range y_sum y_tuple
  have G4 := ok__law_same (P := l.prog) (w := w) (mg := mg) (base := base) F4 y_repr
  have G5 := ok_parts_of (P := l.prog) (w := w) (mg := mg) (base := base) F5 y_sum
  have G6 := ok_shares (P := l.prog) (w := w) (mg := mg) (base := base) F6 G5 m5 F5.kp b5 y_len y_range y_sorted y_sum y_tuple
  exact ok_law F7 G0 m0 F0.kp b0 G1 m1 F1.kp b1 G2 m2 F2.kp b2 G3 m3 F3.kp b3 G4 m4 F4.kp b4 G6 m6 F6.kp b6 y_len y_max y_min y_range y_sum

theorem upTo_len {lo : Int} {n : Nat} : (Vx.upTo lo n).length = n := by simp [Vx.upTo]
theorem upTo_get {lo : Int} {n i : Nat} {x : D} (h : (Vx.upTo lo n)[i]? = some x) : i < n ∧ x = .int (lo + i) := by
  obtain ⟨hi, e⟩ := List.getElem?_eq_some_iff.mp h
  rw [upTo_len] at hi
  refine ⟨hi, ?_⟩
  rw [← e]
  simp [Vx.upTo]
theorem plain1 {env : Vx.Env} {j : Nat} (h : plainAt env j) : ∀ i ∈ [j], plainAt env i := fun i hi => by rw [List.mem_singleton.mp hi]; exact h
theorem lg {x : Int} (h : x.natAbs < 2 ^ 100) : x.natAbs.log2 < 9000 := Nat.lt_trans (log2_lt h (by decide)) (by decide)
theorem small {n : Nat} (h : n ≤ 1000000) : n < sizeLine := Nat.lt_of_le_of_lt h (by decide)
theorem goComp_ints {ns : List Int} {at? : Option (Addr × Nat × List Stp)} {own : List Nat} {t : Tg} {wcnd : WC} {we : WT} (f : Int → O) {env0 : Vx.Env} (hl : ns.length ≤ 1000000) (hs : Src.still ⟨ns.map PyData.int, at?⟩ env0)
    (hstep : ∀ x ∈ ns, ∀ acc (K : Vx.Env → List O → Prop), acc.length < sizeLine → K env0 (acc ++ [f x]) → stepC t own wcnd we (.int x) env0 acc K) {Q : Vx.Env → List O → Prop}
    (hq : Q env0 (ns.map f)) : goComp ⟨ns.map PyData.int, at?⟩ (stepC t own wcnd we) (ns.map PyData.int) env0 [] Q := by
  refine goComp_map (s := ⟨ns.map PyData.int, at?⟩) (fun x => match x with | .int i => f i | _ => .d .none) (by rw [List.length_map]; exact hl) hs (fun x hx acc K h1 h2 => ?_) ?_
  · obtain ⟨i, hi, rfl⟩ := List.mem_map.mp hx
    exact hstep i hi acc K h1 h2
  · have e : (ns.map PyData.int).map (fun x => match x with | .int i => f i | _ => .d .none) = ns.map f := by rw [List.map_map]; rfl
    exact (congrArg (Q env0) e).mpr hq
theorem sum_nn : ∀ {l : List Int}, (∀ d ∈ l, 0 ≤ d) → 0 ≤ l.sum
  | [], _ => Int.le_refl _
  | x :: r, h => by
    have := sum_nn (l := r) fun d hd => h d (List.mem_cons_of_mem _ hd)
    have := h x List.mem_cons_self
    rw [List.sum_cons]; omega
theorem sum_pos : ∀ {l : List Int} {x : Int}, (∀ d ∈ l, 0 ≤ d) → x ∈ l → 1 ≤ x → 0 < l.sum
  | y :: r, x, h, hm, hx => by
    have h1 := sum_nn (l := r) fun d hd => h d (List.mem_cons_of_mem _ hd)
    have h2 := h y List.mem_cons_self
    rw [List.sum_cons]
    rcases List.mem_cons.mp hm with rfl | hm
    · omega
    · have := sum_pos (l := r) (fun d hd => h d (List.mem_cons_of_mem _ hd)) hm hx
      omega
theorem still_ints {ns : List Int} {a : Addr} {i : Nat} {p : List Stp} {env : Vx.Env} (h : envAt env i p = some (.lst a (ns.map fun i => O.d (.int i)))) : Src.still ⟨ns.map PyData.int, some (a, i, p)⟩ env := by
  show envAt env i p = some (.lst a ((ns.map PyData.int).map O.d))
  rw [List.map_map]; exact h
theorem map2 (ns : List Int) (g : Int → Int) : (ns.map fun v => O.d (.int (g v))) = (ns.map g).map fun i => O.d (.int i) := by rw [List.map_map]; rfl

def feedO (a c : Addr) (cells : List Int) (p q n : Int) : O := .lst a [.lst c (cells.map fun i => O.d (.int i)), .d (.int p), .d (.int q), .d (.int n)]
local macro_rules | `(tactic| trivial) => `(tactic| repeat (first | refine And.intro rfl ?_ | refine stp rfl ?_ | refine cpowB rfl ?_ | refine neB rfl ?_ | refine divB rfl ?_))
/-- behind the cell -/
def draw_rest : WS := (sCons (sIf (wAnd (wCmp .ge (wVar 4) (wBin .pow (wK (.int 10)) (wK (.int 18)))) (wCmp .lt (wVar 3) (wPrim .len (aCons (wIx (wVar 0) (wK (.int 0))) aNil)))) (sCons (sSetIx (wBin .fdiv (wVar 4) (wVar 1)) (wVar 0) (wK (.int 2))) (sCons (sRet (wBin .mod (wVar 4) (wVar 1))) sNil)) sNil) (sCons (sAsg (.v 5) (wBin .mod (wBin .pow (wBin .add (wBin .add (wBin .mod (wVar 4) (wK (.int 2147483629))) (wBin .mul (wK (.int 50021)) (wIx (wVar 0) (wK (.int 3))))) (wK (.int 11))) (wK (.int 5))) (wK (.int 2147483647)))) (sCons (sRet (wBin .mod (wBin .fdiv (wBin .mod (wBin .pow (wBin .add (wVar 5) (wBin .mul (wBin .mul (wK (.int 81799)) (wIx (wVar 0) (wK (.int 3)))) (wIx (wVar 0) (wK (.int 3))))) (wK (.int 5))) (wK (.int 2147483587))) (wK (.int 64))) (wVar 1))) sNil)))
theorem drest_ok {a c : Addr} {cells : List Int} {p q n many x : Int} {k : Kt} {PX : Exn → Vx.Env → Prop} (hp : 0 ≤ p) (hq : 0 ≤ q) (hn : 0 ≤ n) (hn2 : n ≤ 100000) (hm : 0 < many) (hm2 : many.natAbs.log2 < 9000)
    (h : ∀ (v q' : Int) (y : Option O), 0 ≤ v → v < many → 0 ≤ q' → k.rt (.o (.d (.int v))) [some (feedO a c cells (p + 1) q' n), some (.d (.int many)), none, some (.d (.int p)), some (.d (.int x)), y]) :
    draw_rest PX [some (feedO a c cells (p + 1) q n), some (.d (.int many)), none, some (.d (.int p)), some (.d (.int x)), none] k := by
  have tail : ∀ e : Unit, (sCons (sAsg (.v 5) (wBin .mod (wBin .pow (wBin .add (wBin .add (wBin .mod (wVar 4) (wK (.int 2147483629))) (wBin .mul (wK (.int 50021)) (wIx (wVar 0) (wK (.int 3))))) (wK (.int 11))) (wK (.int 5))) (wK (.int 2147483647)))) (sCons (sRet (wBin .mod (wBin .fdiv (wBin .mod (wBin .pow (wBin .add (wVar 5) (wBin .mul (wBin .mul (wK (.int 81799)) (wIx (wVar 0) (wK (.int 3)))) (wIx (wVar 0) (wK (.int 3))))) (wK (.int 5))) (wK (.int 2147483587))) (wK (.int 64))) (wVar 1))) sNil)) PX [some (feedO a c cells (p + 1) q n), some (.d (.int many)), none, some (.d (.int p)), some (.d (.int x)), none] k := by
    intro _
    trivial
    refine mulS ⟨by decide, by decide⟩ ?_
    have e1 : 0 ≤ x.fmod 2147483629 := Int.fmod_nonneg_of_pos _ (by decide)
    have e2 : x.fmod 2147483629 < 2147483629 := Int.fmod_lt_of_pos _ (by decide)
    refine And.intro (show CPow (x.fmod 2147483629 + 50021 * n + 11) 5 from ⟨by decide, by decide, by omega⟩) ?_
    trivial
    refine mulS ⟨by decide, by decide⟩ ?_
    trivial
    refine mulS ⟨by omega, by omega⟩ ?_
    generalize hz : ((x.fmod 2147483629 + 50021 * n + 11) ^ (5 : Int).toNat).fmod 2147483647 = z
    have e3 : 0 ≤ z := by rw [← hz]; exact Int.fmod_nonneg_of_pos _ (by decide)
    have e4 : z < 2147483647 := by rw [← hz]; exact Int.fmod_lt_of_pos _ (by decide)
    have e5 : 0 ≤ 81799 * n * n := Int.mul_nonneg (by omega) hn
    have e6 : 81799 * n * n ≤ 81799 * 100000 * 100000 := Int.mul_le_mul (by omega) hn2 hn (by decide)
    refine And.intro (show CPow (z + 81799 * n * n) 5 from ⟨by decide, by decide, by omega⟩) ?_
    trivial
    refine And.intro (show many ≠ 0 by omega) ?_
    exact h _ q (some (.d (.int z))) (Int.fmod_nonneg_of_pos _ hm) (Int.fmod_lt_of_pos _ hm) hq
  trivial
  refine ifB (fun g1 => ?_) (fun g1 => ?_)
  · trivial
    refine onSome_mk (dm cells) ?_
    refine ifB (fun g2 => ?_) (fun g2 => ?_)
    · have g3 : (10 : Int) ^ (18 : Int).toNat ≤ x := of_decide_eq_true g1
      have g4 : (0 : Int) ≤ (10 : Int) ^ (18 : Int).toNat := by decide
      refine And.intro (show DivOk many from .inr ⟨hm, hm2⟩) ?_
      trivial
      refine And.intro (show many ≠ 0 by omega) ?_
      exact h _ (x.fdiv many) none (Int.fmod_nonneg_of_pos _ hm) (Int.fmod_lt_of_pos _ hm) (Int.fdiv_nonneg (by omega) (by omega))
    · exact tail ()
  · exact tail ()
theorem draw_ok {a c : Addr} {cells : List Int} {p q n many : Int} {P : O → List O → Prop} {PX : Exn → List O → Prop} (hp : 0 ≤ p) (hq : 0 ≤ q) (hn : 0 ≤ n) (hn2 : n < 100000) (hm : 0 < many) (hm2 : many.natAbs.log2 < 9000)
    (h : ∀ v p' q' : Int, 0 ≤ v → v < many → 0 ≤ p' → 0 ≤ q' → P (.d (.int v)) [feedO a c cells p' q' (n + 1), .d (.int many)]) : F__law_draw [feedO a c cells p q n, .d (.int many)] P PX := by
  unfold F__law_draw
  trivial
  refine ifB (fun h1 => ?_) (fun h1 => ?_)
  · trivial
    refine And.intro (show many ≠ 0 by omega) ?_
    trivial
    refine And.intro (show DivOk many from .inr ⟨hm, hm2⟩) ?_
    trivial
    exact h (q.fmod many) p (q.fdiv many) (Int.fmod_nonneg_of_pos _ hm) (Int.fmod_lt_of_pos _ hm) hp (Int.fdiv_nonneg hq (by omega))
  · trivial
    refine onSome_mk (dm cells) ?_
    have fin : ∀ x : Int, draw_rest (fun ex env => backsW 0 [feedO a c cells p q n, O.d (PyData.int many)] env fun os' => PX ex os') [some (feedO a c cells (p + 1) q (n + 1)), some (.d (.int many)), none, some (.d (.int p)), some (.d (.int x)), none]
        { nx := fun env => backsW 0 [feedO a c cells p q n, O.d (PyData.int many)] env fun os' => P (O.d PyData.none) os',
          rt := fun x env => retW [feedO a c cells p q n, O.d (PyData.int many)] x env fun r env' => backsW 0 [feedO a c cells p q n, O.d (PyData.int many)] env' fun os' => P r os',
          bk := fun x => False, ct := fun x => False } := fun x =>
      drest_ok hp hq (by omega) (by omega) hm hm2 fun v q' y h1 h2 h3 => ⟨rfl, h v (p + 1) q' h1 h2 (by omega) h3⟩
    refine ifB (fun h2 => ?_) (fun h2 => ?_)
    · have h3 : (0 : Int) < ((cells.map PyData.int).length : Int) := of_decide_eq_true h2
      rw [List.length_map] at h3
      trivial
      refine onSome_mk (dm cells) ?_
      refine And.intro (show (((cells.map PyData.int).length : Nat) : Int) ≠ 0 by rw [List.length_map]; omega) ?_
      obtain ⟨j, hj, e⟩ := ixN_fmod (k := p) (m := cells.length) (by omega)
      refine itemW_al (y := .int cells[j]) rfl (j := j) (by rw [List.length_map, List.length_map]; exact e) (by rw [List.getElem?_map, List.getElem?_eq_getElem hj]; rfl) ?_
      refine stp rfl ?_
      exact fin cells[j]
    · refine stp rfl ?_
      exact fin 7

local macro_rules | `(tactic| trivial) => `(tactic| repeat (first | refine And.intro rfl ?_ | refine stp rfl ?_ | refine cpowB rfl ?_ | refine neB rfl ?_ | refine divB rfl ?_))
theorem cut63 (ns : List Int) : (cutD (ns.map PyData.int) none (some 63)).map O.d = (ns.take 63).map fun i => O.d (.int i) := by
  unfold cutD
  rw [HT.sIx_none, show HT.sIx (ns.map PyData.int).length (ns.map PyData.int).length (some 63) = min 63 (ns.map PyData.int).length from HT.sIx_nat _ _ 63, List.drop_zero, Nat.sub_zero, List.length_map, ← List.map_take, List.map_map]
  congr 1
  by_cases h : 63 ≤ ns.length
  · rw [Nat.min_eq_left h]
  · rw [Nat.min_eq_right (by omega), List.take_length, List.take_of_length_le (by omega)]
theorem feed_ok {ns : List Int} {P : O → List O → Prop} {PX : Exn → List O → Prop} (h : ∀ a c, P (feedO a c (ns.take 63) 0 0 0) [.d (.list (ns.map .int))]) : F__law_feed [.d (.list (ns.map .int))] P PX := by
  unfold F__law_feed
  intro c
  trivial
  intro a
  have := h a c
  unfold feedO at this
  rw [← cut63] at this
  exact this

theorem same_ok {x : D} {P : O → List O → Prop} {PX : Exn → List O → Prop} (k : ShowOk x) (h : P (.d (.bool true)) [.d x, .d x]) : F__law_same [.d x, .d x] P PX := by
  unfold F__law_same
  refine ⟨k.a, k.b, k.c, k.d, ⟨k.a, k.b, k.c, k.d, ?_⟩⟩
  trivial
  have e : PyData.eqv (.str x.shown) (.str x.shown) = true := by simp [PyData.eqv]
  show P (.d (.bool (PyData.eqv (.str x.shown) (.str x.shown)))) [.d x, .d x]
  rw [e]; exact h

structure GoodD (ds : List Int) : Prop where
  ne : 0 < ds.length
  le : ds.length ≤ 16
  nn : ∀ d ∈ ds, 0 ≤ d
  up : ∀ d ∈ ds, d ≤ 10 ^ 18
  pos : 0 < ds.sum
theorem pick3 {x y z v : Int} (h0 : 0 ≤ v) (h1 : v < 3) : ∃ m, atI [O.d (.int x), .d (.int y), .d (.int z)] v = some (.d (.int m)) ∧ (m = x ∨ m = y ∨ m = z) := by
  obtain rfl | rfl | rfl : v = 0 ∨ v = 1 ∨ v = 2 := by omega
  · exact ⟨_, rfl, .inl rfl⟩
  · exact ⟨_, rfl, .inr (.inl rfl)⟩
  · exact ⟨_, rfl, .inr (.inr rfl)⟩
theorem pick5 {x y z u t v : Int} (h0 : 0 ≤ v) (h1 : v < 5) : ∃ m, atI [O.d (.int x), .d (.int y), .d (.int z), .d (.int u), .d (.int t)] v = some (.d (.int m)) ∧ (m = x ∨ m = y ∨ m = z ∨ m = u ∨ m = t) := by
  obtain rfl | rfl | rfl | rfl | rfl : v = 0 ∨ v = 1 ∨ v = 2 ∨ v = 3 ∨ v = 4 := by omega
  · exact ⟨_, rfl, .inl rfl⟩
  · exact ⟨_, rfl, .inr (.inl rfl)⟩
  · exact ⟨_, rfl, .inr (.inr (.inl rfl))⟩
  · exact ⟨_, rfl, .inr (.inr (.inr (.inl rfl)))⟩
  · exact ⟨_, rfl, .inr (.inr (.inr (.inr rfl)))⟩
theorem dues_ok {a c : Addr} {cells : List Int} {p q n : Int} {P : O → List O → Prop} {PX : Exn → List O → Prop} (hp : 0 ≤ p) (hq : 0 ≤ q) (hn : 0 ≤ n) (hn2 : n < 90000)
    (h : ∀ ds p' q' n', GoodD ds → 0 ≤ p' → 0 ≤ q' → n ≤ n' → n' ≤ n + 30 → P (.d (.tuple (ds.map .int))) [feedO a c cells p' q' n']) : F__law_dues [feedO a c cells p q n] P PX := by
  unfold F__law_dues
  trivial
  refine draw_ok hp hq hn (by omega) (by decide) (by decide) fun v1 p1 q1 a1 a2 hp1 hq1 => ?_
  trivial
  refine draw_ok hp1 hq1 (by omega) (by omega) (by decide) (by decide) fun v2 p2 q2 b1 b2 hp2 hq2 => ?_
  trivial
  intro aL
  trivial
  refine draw_ok hp2 hq2 (by omega) (by omega) (by decide) (by decide) fun v3 p3 q3 c1 c2 hp3 hq3 => ?_
  trivial
  obtain ⟨m, em, hm⟩ := pick3 (x := 1 + v1) (y := 1 + v2) (z := 16) c1 c2
  refine onSome_mk em ?_
  have m1 : 1 ≤ m := by omega
  have m2 : m ≤ 16 := by omega
  clear em hm
  trivial
  -- the way
  refine draw_ok hp3 hq3 (by omega) (by omega) (by decide) (by decide) fun way p4 q4 d1 d2 hp4 hq4 => ?_
  trivial
  obtain ⟨w2, ew2, hw2⟩ := pick5 (x := 1) (y := 7) (z := 1) (u := 1) (t := 10 ^ 9) d1 d2
  obtain ⟨w3, ew3, hw3⟩ := pick5 (x := 1) (y := 7) (z := 97) (u := 10 ^ 9) (t := 3) d1 d2
  have w21 : 1 ≤ w2 := by omega
  have w22 : w2 ≤ 10 ^ 9 := by omega
  have w31 : 1 ≤ w3 := by omega
  have w32 : w3 ≤ 10 ^ 9 := by omega
  -- the first list
  refine And.intro (show inRange m from ⟨by omega, by omega⟩) (And.intro (plain1 True.intro) fun aC => ?_)
  refine goComp_run (s := ⟨Vx.upTo 0 m.toNat, none⟩) (fun i env acc => ∃ (p' q' : Int) (vs : List Int), env = [some (feedO a c cells p' q' (n + 1 + 1 + 1 + 1 + i)), some (.d (.int m)), some (.d (.int way)), none, none, none] ∧ acc = vs.map (fun v => O.d (.int v)) ∧
    vs.length = i ∧ (∀ v ∈ vs, 0 ≤ v ∧ v ≤ 10 ^ 9) ∧ 0 ≤ p' ∧ 0 ≤ q' ∧ (i : Int) ≤ m) (fun _ _ _ _ => True.intro) (fun i x env acc K hx hI hK => ?_) ⟨p4, q4, [], by rw [show n + 1 + 1 + 1 + 1 + ((0 : Nat) : Int) = n + 1 + 1 + 1 + 1 by omega]; rfl, rfl, rfl, (fun _ h => nomatch h), hp4, hq4, by omega⟩ fun env' acc' hI => ?_
  · obtain ⟨p', q', vs, rfl, rfl, hl, hv, hp', hq', him⟩ := hI
    have hi : i < m.toNat := (upTo_get hx).1
    trivial
    intro aM
    obtain ⟨w, ew, hw⟩ := pick5 (x := 4) (y := 8) (z := 100) (u := 10 ^ 9 + 1) (t := 2) d1 d2
    refine onSome_mk ew ?_
    trivial
    refine draw_ok hp' hq' (by omega) (by omega) (by omega) (lg (by omega)) fun v p5 q5 f1 f2 hp5 hq5 => ?_
    trivial
    refine And.intro (small (by rw [List.length_map]; omega)) ?_
    refine hK _ _ ⟨p5, q5, vs ++ [v], ?_, by rw [List.map_append]; rfl, by rw [List.length_append, hl]; rfl, fun u hu => ?_, hp5, hq5, by omega⟩
    · rw [show n + 1 + 1 + 1 + 1 + ((i + 1 : Nat) : Int) = n + 1 + 1 + 1 + 1 + i + 1 by omega]; rfl
    · rcases List.mem_append.mp hu with hu | hu
      · exact hv u hu
      · rw [List.mem_singleton.mp hu]; omega
  · obtain ⟨p5, q5, vs, rfl, rfl, hl, hv, hp5, hq5, _⟩ := hI
    intro _
    have hl2 : vs.length = m.toNat := by rw [hl]; exact upTo_len
    have hn5 : (((Src.mk (Vx.upTo 0 m.toNat) none).xs.length : Nat) : Int) = m := by
      show (((Vx.upTo 0 m.toNat).length : Nat) : Int) = m
      rw [upTo_len]; omega
    rw [hn5]
    clear hl hn5
    trivial
    refine onSome_mk (dm vs) ?_
    refine And.intro (plain1 True.intro) fun aD => ?_
    refine goComp_ints (ns := vs) (at? := some (aC, 3, [])) (env0 := [some (feedO a c cells p5 q5 (n + 1 + 1 + 1 + 1 + m)), some (.d (.int m)), some (.d (.int way)), some (.lst aC (vs.map fun i => O.d (.int i))), none, none]) (fun v => .d (.int (v * w2))) (by omega) (still_ints rfl) (fun x hx acc K h1 h2 => ?_) ?_
    · trivial
      intro aM
      refine onSome_mk ew2 ?_
      refine mulT ⟨by omega, by omega⟩ ?_
      exact And.intro h1 h2
    · intro _
      rw [map2 vs (· * w2)]
      trivial
      intro aM
      refine onSome_mk ew3 ?_
      trivial
      refine draw_ok hp5 hq5 (by omega) (by omega) (by omega) (lg (by omega)) fun k p6 q6 k1 k2 hp6 hq6 => ?_
      trivial
      generalize hus : vs.map (· * w2) = us
      have ul : us.length = m.toNat := by rw [← hus, List.length_map, hl2]
      refine onSome_mk (ixN_int (i := k) k1 (by rw [List.length_map]; omega)) ?_
      rw [show (us.map fun i => O.d (.int i)).set k.toNat (O.d (.int w3)) = (us.set k.toNat w3).map fun i => O.d (.int i) by rw [List.map_set]]
      trivial
      refine onSome_mk (dm _) ?_
      refine ⟨rfl, ?_⟩
      have hu : ∀ d ∈ us, 0 ≤ d ∧ d ≤ 10 ^ 18 := fun d hd => by
        rw [← hus] at hd
        obtain ⟨v, hv1, rfl⟩ := List.mem_map.mp hd
        have ⟨v0, v1⟩ := hv v hv1
        refine ⟨Int.mul_nonneg v0 (by omega), ?_⟩
        have : v * w2 ≤ 10 ^ 9 * 10 ^ 9 := Int.mul_le_mul v1 w22 (by omega) (by decide)
        exact this
      have hu2 : ∀ d ∈ us.set k.toNat w3, 0 ≤ d ∧ d ≤ 10 ^ 18 := fun d hd => by
        rcases List.mem_or_eq_of_mem_set hd with h | h
        · exact hu d h
        · subst h; omega
      have hm : w3 ∈ us.set k.toNat w3 := List.mem_set (by omega) _
      exact h (us.set k.toNat w3) p6 q6 _ ⟨by rw [List.length_set]; omega, by rw [List.length_set]; omega, fun d hd => (hu2 d hd).1, fun d hd => (hu2 d hd).2, sum_pos (fun d hd => (hu2 d hd).1) hm w31⟩ hp6 hq6 (by omega) (by omega)

theorem sum_up : ∀ {l : List Int} {b : Int}, (∀ d ∈ l, d ≤ b) → l.sum ≤ l.length * b
  | [], b, _ => by simp
  | x :: r, b, h => by
    have := sum_up (l := r) fun d hd => h d (List.mem_cons_of_mem _ hd)
    have := h x List.mem_cons_self
    rw [List.sum_cons, List.length_cons]
    have e : (((r.length + 1 : Nat) : Int)) * b = r.length * b + b := by rw [Int.natCast_add, Int.add_mul]; simp
    rw [e]; omega
theorem GoodD.whole {ds : List Int} (g : GoodD ds) : ds.sum ≤ 16 * 10 ^ 18 := by
  have h1 := sum_up g.up
  have h2 : (ds.length : Int) * 10 ^ 18 ≤ 16 * 10 ^ 18 := Int.mul_le_mul (by have := g.le; omega) (Int.le_refl _) (by decide) (by decide)
  exact Int.le_trans h1 h2

/-! ### the shares -/
def partsL (ds : List Int) (much : Int) : List Int := ds.map fun d => (much * d).fdiv ds.sum
def restsL (ds : List Int) (much : Int) : List Int := ds.map fun d => (much * d).fmod ds.sum
theorem parts_ok {ds : List Int} {much : Int} {P : O → List O → Prop} {PX : Exn → List O → Prop} (g : GoodD ds) (h0 : 0 ≤ much) (h1 : much ≤ ds.sum)
    (h : ∀ a b, P (.tup [.lst a ((partsL ds much).map fun i => O.d (.int i)), .lst b ((restsL ds much).map fun i => O.d (.int i))]) [.d (.tuple (ds.map .int)), .d (.int much)]) : F_parts_of [.d (.tuple (ds.map .int)), .d (.int much)] P PX := by
  unfold F_parts_of
  have hw := g.whole
  have hw0 := g.pos
  have hl := g.le
  refine onSome_mk (intsOf_map ds) ?_
  trivial
  refine And.intro (plain1 True.intro) fun aD => ?_
  refine goComp_ints (ns := ds) (at? := none) (env0 := [some (.d (.tuple (ds.map .int))), some (.d (.int much)), some (.d (.int ds.sum)), none]) (fun d => .d (.int ((much * d).fdiv ds.sum))) (by omega) True.intro (fun x hx acc K k1 k2 => ?_) ?_
  · trivial
    refine mulS ⟨by omega, by omega⟩ ?_
    refine And.intro (show DivOk ds.sum from .inr ⟨hw0, lg (by omega)⟩) ?_
    exact And.intro k1 k2
  · intro _
    trivial
    refine And.intro (plain1 True.intro) fun aE => ?_
    refine goComp_ints (ns := ds) (at? := none) (env0 := [some (.d (.tuple (ds.map .int))), some (.d (.int much)), some (.d (.int ds.sum)), none]) (fun d => .d (.int ((much * d).fmod ds.sum))) (by omega) True.intro (fun x hx acc K k1 k2 => ?_) ?_
    · trivial
      refine mulS ⟨by omega, by omega⟩ ?_
      refine And.intro (show ds.sum ≠ 0 by omega) ?_
      exact And.intro k1 k2
    · intro _
      rw [map2 ds fun d => (much * d).fdiv ds.sum, map2 ds fun d => (much * d).fmod ds.sum]
      trivial
      exact h aD aE

def bump (l : List Int) (k : Nat) : List Int := l.set k (l[k]?.getD 0 + 1)
def bumps (qs : List (Int × Int)) (l : List Int) : List Int := qs.foldl (fun l q => bump l q.2.toNat) l
theorem bump_len {l : List Int} {k : Nat} : (bump l k).length = l.length := by unfold bump; rw [List.length_set]
theorem bumps_len {qs : List (Int × Int)} : ∀ {l : List Int}, (bumps qs l).length = l.length := by
  induction qs with
  | nil => intro l; rfl
  | cons q qs ih => intro l; show (bumps qs (bump l q.2.toNat)).length = _; rw [ih, bump_len]
theorem bumps_snoc {qs : List (Int × Int)} {q : Int × Int} {l : List Int} : bumps (qs ++ [q]) l = bump (bumps qs l) q.2.toNat := by
  unfold bumps; rw [List.foldl_append]; rfl
def pairsL (rests : List Int) : List (Int × Int) := rests.zipIdx.map fun p => (0 - p.1, (p.2 : Int))
theorem pairsL_get {rests : List Int} {k : Nat} (h : k < rests.length) : (pairsL rests)[k]? = some (0 - rests[k], (k : Int)) := by
  unfold pairsL
  rw [List.getElem?_map, List.getElem?_zipIdx, List.getElem?_eq_getElem h]
  simp
theorem pairsL_len {rests : List Int} : (pairsL rests).length = rests.length := by simp [pairsL]
theorem mem_pairsL {rests : List Int} {q : Int × Int} (h : q ∈ pairsL rests) : ∃ k : Nat, ∃ hk : k < rests.length, q = (0 - rests[k], (k : Int)) := by
  obtain ⟨k, hk⟩ := List.mem_iff_getElem?.mp h
  have hl : k < (pairsL rests).length := (List.getElem?_eq_some_iff.mp hk).1
  rw [pairsL_len] at hl
  rw [pairsL_get hl] at hk
  exact ⟨k, hl, (Option.some.inj hk).symm⟩
theorem pairs_map (qs : List (Int × Int)) : pairsOf (qs.map fun p => PyData.tuple [.int p.1, .int p.2]) = some qs := by
  induction qs with
  | nil => rfl
  | cons q r ih =>
    show (pairsOf (r.map fun p => PyData.tuple [.int p.1, .int p.2])).map ((q.1, q.2) :: ·) = _
    rw [ih]; rfl
theorem datas_pairs (qs : List (Int × Int)) : datas (qs.map fun p => O.d (.tuple [.int p.1, .int p.2])) = some (qs.map fun p => PyData.tuple [.int p.1, .int p.2]) := by
  have := datas_map (qs.map fun p => PyData.tuple [.int p.1, .int p.2])
  rw [List.map_map] at this
  exact this
theorem toDs_pairs (qs : List (Int × Int)) : O.toDs (qs.map fun p => O.d (.tuple [.int p.1, .int p.2])) = qs.map fun p => PyData.tuple [.int p.1, .int p.2] := by
  have := O.toDs_map (qs.map fun p => PyData.tuple [.int p.1, .int p.2])
  rw [List.map_map] at this
  exact this
theorem cut_take {xs : List D} {n : Int} (h0 : 0 ≤ n) (h1 : n ≤ xs.length) : cutD xs none (some n) = xs.take n.toNat := by
  unfold cutD
  obtain ⟨k, rfl⟩ : ∃ k : Nat, n = k := ⟨n.toNat, by omega⟩
  rw [HT.sIx_none, show HT.sIx xs.length xs.length (some (k : Int)) = min k xs.length from HT.sIx_nat _ _ k, List.drop_zero, Nat.sub_zero, Nat.min_eq_left (by omega)]
  rfl
/-- how many pence are left -/
def leftN (ds : List Int) (much : Int) : Int := much - (partsL ds much).sum
theorem sum_split {ds : List Int} {much w : Int} : (ds.map fun d => much * d).sum = w * (ds.map fun d => (much * d).fdiv w).sum + (ds.map fun d => (much * d).fmod w).sum := by
  induction ds with
  | nil => simp
  | cons d r ih =>
    simp only [List.map_cons, List.sum_cons]
    rw [ih, Int.mul_add]
    have := Int.mul_fdiv_add_fmod (much * d) w
    omega
theorem sum_mul {ds : List Int} {much : Int} : (ds.map fun d => much * d).sum = much * ds.sum := by
  induction ds with
  | nil => simp
  | cons d r ih => simp only [List.map_cons, List.sum_cons]; rw [ih, Int.mul_add]
theorem rests_bd {ds : List Int} {much : Int} (hw : 0 < ds.sum) : ∀ r ∈ restsL ds much, 0 ≤ r ∧ r < ds.sum := fun r hr => by
  obtain ⟨d, _, rfl⟩ := List.mem_map.mp hr
  exact ⟨Int.fmod_nonneg_of_pos _ hw, Int.fmod_lt_of_pos _ hw⟩
theorem left_bd {ds : List Int} {much : Int} (g : GoodD ds) : 0 ≤ leftN ds much ∧ leftN ds much ≤ ds.length := by
  have hw := g.pos
  have e1 : much * ds.sum = ds.sum * (partsL ds much).sum + (restsL ds much).sum := by
    rw [← sum_mul]; exact sum_split
  have e2 : ds.sum * leftN ds much = (restsL ds much).sum := by
    unfold leftN
    rw [Int.mul_sub, Int.mul_comm ds.sum much]; omega
  have e3 := sum_nn fun r hr => (rests_bd (much := much) hw r hr).1
  have e4 : (restsL ds much).sum ≤ (restsL ds much).length * ds.sum := sum_up fun r hr => Int.le_of_lt (rests_bd hw r hr).2
  have e5 : (restsL ds much).length = ds.length := by simp [restsL]
  rw [e5] at e4
  constructor
  · exact Int.nonneg_of_mul_nonneg_right (a := ds.sum) (by rw [e2]; exact e3) hw
  · refine Int.le_of_mul_le_mul_left (a := ds.sum) ?_ hw
    rw [e2, Int.mul_comm ds.sum]; exact e4

theorem stepC_v {i : Nat} {own : List Nat} {we : WT} {x : D} {env : Vx.Env} {acc : List O} {K : Vx.Env → List O → Prop} (h : Nat.blt i (void own env).length = true)
    (q : we (fun _ _ => False) ((void own env).set i (some (.d x))) fun w env4 => inW w env4 fun o env5 => acc.length < sizeLine ∧ K (void own env5) (acc ++ [o])) : stepC (.v i) own cAll we x env acc K := by
  refine ⟨by simpa [Nat.blt_eq] using h, ?_⟩
  exact q
theorem goFor_cast {xs ys : List D} {step : D → Vx.Env → (Vx.Env → Prop) → Prop} {env : Vx.Env} {Q : Vx.Env → Prop} (e : xs = ys) (q : goFor ⟨ys, none⟩ step ys env Q) : goFor ⟨xs, none⟩ step xs env Q := by subst e; exact q

theorem shares_ok {ds : List Int} {much : Int} {P : O → List O → Prop} {PX : Exn → List O → Prop} (g : GoodD ds) (h0 : 0 ≤ much) (h1 : much ≤ ds.sum)
    (h : ∀ qs : List (Int × Int), qs.Perm (pairsL (restsL ds much)) → qs.Pairwise (fun p q => pairLe p q = true) → P (.d (.tuple ((bumps (qs.take (leftN ds much).toNat) (partsL ds much)).map .int))) [.d (.tuple (ds.map .int)), .d (.int much)]) :
    F_shares [.d (.tuple (ds.map .int)), .d (.int much)] P PX := by
  unfold F_shares
  have hw := g.whole
  have hw0 := g.pos
  have hl := g.le
  have ⟨hn0, hn1⟩ := left_bd (much := much) g
  trivial
  refine onSome_mk (intsOf_map ds) ?_
  trivial
  refine ifB (fun hc => ?_) (fun _ => ?_)
  · have : ds.sum = 0 := by
      have hc' : PyData.eqv (.int ds.sum) (.int 0) = true := hc
      simpa [PyData.eqv] using hc'
    omega
  trivial
  refine parts_ok g h0 h1 fun a b => ?_
  trivial
  refine And.intro (show inRange ((ds.map PyData.int).length : Nat) from ⟨by rw [List.length_map]; omega, by rw [List.length_map]; omega⟩) (And.intro (plain1 True.intro) fun aD => ?_)
  have rl : (restsL ds much).length = ds.length := by simp [restsL]
  have pl : (partsL ds much).length = ds.length := by simp [partsL]
  have ul : (Vx.upTo 0 (((ds.map PyData.int).length : Nat) : Int).toNat).length = ds.length := by rw [upTo_len, List.length_map]; rfl
  refine goComp_run (s := ⟨Vx.upTo 0 (((ds.map PyData.int).length : Nat) : Int).toNat, none⟩) (fun i env acc => env = [some (.d (.tuple (ds.map .int))), some (.d (.int much)), some (.d (.int much)), some (.lst a ((partsL ds much).map fun i => O.d (.int i))), some (.lst b ((restsL ds much).map fun i => O.d (.int i))), none, none, none, none] ∧
    acc = ((pairsL (restsL ds much)).take i).map fun p => O.d (.tuple [.int p.1, .int p.2])) (fun _ _ _ _ => True.intro) (fun i x env acc K hx hI hK => ?_) ⟨rfl, rfl⟩ fun env' acc' hI => ?_
  · obtain ⟨rfl, rfl⟩ := hI
    obtain ⟨hi, rfl⟩ := upTo_get hx
    rw [List.length_map] at hi
    have hi : i < ds.length := hi
    rw [Int.zero_add]
    have hri : (restsL ds much)[i]? = some (restsL ds much)[i] := List.getElem?_eq_getElem (by omega)
    refine stepC_v rfl ?_
    trivial
    refine onSome_mk (ixN_nat (j := i) (by rw [List.length_map]; omega)) ?_
    refine onSome_mk (x := .d (.int (restsL ds much)[i])) (by rw [List.getElem?_map, hri]; rfl) ?_
    trivial
    refine And.intro (small (by rw [List.length_map, List.length_take]; omega)) ?_
    refine hK _ _ ⟨rfl, ?_⟩
    rw [List.take_add_one, pairsL_get (by omega), List.map_append]
    rfl
  · obtain ⟨rfl, rfl⟩ := hI
    intro _
    have e1 : (pairsL (restsL ds much)).take (Src.mk (Vx.upTo 0 (((ds.map PyData.int).length : Nat) : Int).toNat) none).xs.length = pairsL (restsL ds much) := by
      refine List.take_of_length_le ?_
      show _ ≤ (Vx.upTo 0 (((ds.map PyData.int).length : Nat) : Int).toNat).length
      rw [ul, pairsL_len]; omega
    rw [e1]
    refine onSome_mk (o := pairsOf (O.toDs ((pairsL (restsL ds much)).map fun p => O.d (.tuple [.int p.1, .int p.2])))) (by rw [toDs_pairs, pairs_map]) ?_
    intro qs hq hs aS
    have ql : qs.length = ds.length := by rw [hq.length_eq, pairsL_len, rl]
    trivial
    refine onSome_mk (dm _) ?_
    refine onSome_mk (intsOf_map _) ?_
    trivial
    refine onSome_mk (datas_pairs qs) ?_
    intro aT
    have hcut : cutD (qs.map fun p => PyData.tuple [.int p.1, .int p.2]) none (some (leftN ds much)) = (qs.take (leftN ds much).toNat).map fun p => PyData.tuple [.int p.1, .int p.2] := by
      rw [cut_take hn0 (by rw [List.length_map, ql]; exact hn1), List.map_take]
    refine goFor_cast (ys := (qs.take (leftN ds much).toNat).map fun p => PyData.tuple [.int p.1, .int p.2]) (by
      rw [← hcut]
      exact O.toDs_map _) ?_
    refine goFor_run (s := ⟨(qs.take (leftN ds much).toNat).map fun p => PyData.tuple [.int p.1, .int p.2], none⟩) (fun i env => ∃ y6 y7, env = [some (.d (.tuple (ds.map .int))), some (.d (.int much)), some (.d (.int much)), some (.lst a ((bumps (qs.take i) (partsL ds much)).map fun i => O.d (.int i))), some (.lst b ((restsL ds much).map fun i => O.d (.int i))),
      some (.lst aS (qs.map fun p => O.d (.tuple [.int p.1, .int p.2]))), y6, y7, none] ∧ i ≤ (leftN ds much).toNat) (fun _ _ _ => True.intro) (fun i x env K hx hI hK => ?_) ⟨none, none, rfl, Nat.zero_le _⟩ fun env' hI => ?_
    · obtain ⟨y6, y7, rfl, hi⟩ := hI
      have hi' : i < (leftN ds much).toNat := by
        have := (List.getElem?_eq_some_iff.mp hx).1
        simp only [List.length_map, List.length_take] at this
        omega
      rw [List.getElem?_map, List.getElem?_take_of_lt hi'] at hx
      have hiq : i < qs.length := by omega
      rw [List.getElem?_eq_getElem hiq] at hx
      cases hx
      obtain ⟨k, hk, ek⟩ := mem_pairsL (hq.mem_iff.mp (List.getElem_mem hiq))
      rw [ek]
      have hbl : k < (bumps (qs.take i) (partsL ds much)).length := by rw [bumps_len, pl]; omega
      trivial
      refine onSome_mk (ixN_nat (j := k) (by rw [List.length_map]; exact hbl)) ?_
      refine onSome_mk (x := .d (.int (bumps (qs.take i) (partsL ds much))[k])) (by rw [List.getElem?_map, List.getElem?_eq_getElem hbl]; rfl) ?_
      trivial
      refine onSome_mk (ixN_nat (j := k) (by rw [List.length_map]; exact hbl)) ?_
      refine hK _ ⟨some (.d (.int (0 - (restsL ds much)[k]))), some (.d (.int (k : Int))), ?_, hi'⟩
      rw [List.take_add_one, List.getElem?_eq_getElem hiq, Option.toList_some, bumps_snoc, ek]
      unfold bump
      rw [show ((0 - (restsL ds much)[k], (k : Int)) : Int × Int).2.toNat = k from rfl, List.getElem?_eq_getElem hbl, Option.getD_some, List.map_set]
      rfl
    · obtain ⟨y6, y7, rfl, hi⟩ := hI
      have e5 : (Src.mk ((qs.take (leftN ds much).toNat).map fun p => PyData.tuple [.int p.1, .int p.2]) none).xs.length = (leftN ds much).toNat := by
        show ((qs.take (leftN ds much).toNat).map fun p => PyData.tuple [.int p.1, .int p.2]).length = _
        rw [List.length_map, List.length_take]; omega
      rw [e5]
      trivial
      refine onSome_mk (dm _) ?_
      exact h qs hq hs

def gat (l : List Int) (j : Nat) : Int := l[j]?.getD 0
theorem gat_get {l : List Int} {j : Nat} (h : j < l.length) : (l.map fun i => O.d (.int i))[j]? = some (.d (.int (gat l j))) := by
  unfold gat
  rw [List.getElem?_map, List.getElem?_eq_getElem h]; rfl
theorem gat_set {l : List Int} {k j : Nat} {v : Int} (h : j < l.length) : gat (l.set k v) j = if k = j then v else gat l j := by
  unfold gat
  by_cases e : k = j
  · subst e; rw [List.getElem?_set_self h, if_pos rfl]; rfl
  · rw [List.getElem?_set_ne e, if_neg e]
def dropN (qs : List (Int × Int)) (l : List Int) : List Int := qs.foldl (fun l q => l.set q.2.toNat (-1)) l
theorem dropN_len {qs : List (Int × Int)} : ∀ {l : List Int}, (dropN qs l).length = l.length := by
  induction qs with
  | nil => intro l; rfl
  | cons q qs ih => intro l; show (dropN qs (l.set q.2.toNat (-1))).length = _; rw [ih, List.length_set]
theorem dropN_snoc {qs : List (Int × Int)} {q : Int × Int} {l : List Int} : dropN (qs ++ [q]) l = (dropN qs l).set q.2.toNat (-1) := by
  unfold dropN; rw [List.foldl_append]; rfl
theorem dropN_at {qs : List (Int × Int)} : ∀ {l : List Int} {j : Nat}, j < l.length → gat (dropN qs l) j = if j ∈ qs.map (fun q => q.2.toNat) then -1 else gat l j := by
  induction qs with
  | nil => intro l j h; rfl
  | cons q qs ih =>
    intro l j h
    show gat (dropN qs (l.set q.2.toNat (-1))) j = _
    rw [ih (by rw [List.length_set]; exact h), gat_set h]
    by_cases h1 : j ∈ qs.map (fun q => q.2.toNat)
    · rw [if_pos h1, if_pos (by rw [List.map_cons]; exact List.mem_cons_of_mem _ h1)]
    · rw [if_neg h1]
      by_cases h2 : q.2.toNat = j
      · rw [if_pos h2, if_pos (by rw [List.map_cons, h2]; exact List.mem_cons_self)]
      · rw [if_neg h2, if_neg (by rw [List.map_cons]; intro hm; exact (List.mem_cons.mp hm).elim (fun e => h2 e.symm) h1)]
structure Sorted (rests : List Int) (qs : List (Int × Int)) : Prop where
  perm : qs.Perm (pairsL rests)
  srt : qs.Pairwise (fun p q => pairLe p q = true)
theorem Sorted.len {rests : List Int} {qs : List (Int × Int)} (s : Sorted rests qs) : qs.length = rests.length := by rw [s.perm.length_eq, pairsL_len]
theorem Sorted.at {rests : List Int} {qs : List (Int × Int)} (s : Sorted rests qs) {t : Nat} (h : t < qs.length) : ∃ k : Nat, k < rests.length ∧ qs[t] = (0 - gat rests k, (k : Int)) := by
  obtain ⟨k, hk, e⟩ := mem_pairsL (s.perm.mem_iff.mp (List.getElem_mem h))
  exact ⟨k, hk, by rw [e]; unfold gat; rw [List.getElem?_eq_getElem hk]; rfl⟩
theorem pairsL_keys {rests : List Int} : (pairsL rests).map (fun q => q.2.toNat) = List.range rests.length := by
  refine List.ext_getElem? fun k => ?_
  by_cases h : k < rests.length
  · rw [List.getElem?_map, pairsL_get h, List.getElem?_range h]; rfl
  · rw [List.getElem?_eq_none (by rw [List.length_map, pairsL_len]; omega), List.getElem?_eq_none (by rw [List.length_range]; omega)]
theorem Sorted.keys {rests : List Int} {qs : List (Int × Int)} (s : Sorted rests qs) : (qs.map fun q => q.2.toNat).Perm (List.range rests.length) := by
  have := s.perm.map (fun q => q.2.toNat)
  rwa [pairsL_keys] at this
/-- the greatest, the first of such -/
structure Top (l : List Int) (n b : Nat) : Prop where
  le : ∀ j, j < n → gat l j ≤ gat l b
  lt : ∀ j, j < b → gat l j < gat l b
theorem Top.uniq {l : List Int} {n b c : Nat} (h : Top l n b) (g : Top l n c) (hb : b < n) (hc : c < n) : b = c := by
  by_cases h1 : b < c
  · have := g.lt b h1; have := h.le c hc; omega
  · by_cases h2 : c < b
    · have := h.lt c h2; have := g.le b hb; omega
    · omega
theorem Sorted.top {rests : List Int} {qs : List (Int × Int)} (s : Sorted rests qs) (nn : ∀ r ∈ rests, 0 ≤ r) {t k : Nat} (ht : t < qs.length) (e : qs[t] = (0 - gat rests k, (k : Int))) (hk : k < rests.length) : Top (dropN (qs.take t) rests) rests.length k := by
  have hnd : (qs.map fun q => q.2.toNat).Nodup := s.keys.nodup_iff.mpr List.nodup_range
  have key : ∀ s2 (h2 : s2 < qs.length), (qs.map fun q => q.2.toNat)[s2]? = some (qs[s2].2.toNat) := fun s2 h2 => by rw [List.getElem?_map, List.getElem?_eq_getElem h2]; rfl
  have hkt : qs[t].2.toNat = k := by rw [e]; rfl
  have nin : ∀ j s2 (h2 : s2 < qs.length), t ≤ s2 → qs[s2].2.toNat = j → j ∉ (qs.take t).map (fun q => q.2.toNat) := by
    intro j s2 h2 hts hj hm
    rw [List.map_take] at hm
    obtain ⟨u, hu⟩ := List.mem_iff_getElem?.mp hm
    have hut : u < t := by
      have := (List.getElem?_eq_some_iff.mp hu).1
      rw [List.length_take] at this; omega
    rw [List.getElem?_take_of_lt hut] at hu
    have h3 := key s2 h2
    rw [hj] at h3
    have : u = s2 := (List.getElem?_inj (by rw [List.length_map]; omega) hnd).mp (hu.trans h3.symm)
    omega
  have gk : gat (dropN (qs.take t) rests) k = gat rests k := by
    rw [dropN_at hk, if_neg (nin k t ht (Nat.le_refl _) hkt)]
  have pos : 0 ≤ gat rests k := by
    unfold gat
    rw [List.getElem?_eq_getElem hk]
    exact nn _ (List.getElem_mem hk)
  have main : ∀ j, j < rests.length → gat (dropN (qs.take t) rests) j = -1 ∨ j = k ∨ (gat (dropN (qs.take t) rests) j = gat rests j ∧ (gat rests j < gat rests k ∨ (gat rests j = gat rests k ∧ k ≤ j))) := by
    intro j hj
    rw [dropN_at hj]
    by_cases hm : j ∈ (qs.take t).map (fun q => q.2.toNat)
    · rw [if_pos hm]; exact .inl rfl
    · rw [if_neg hm]
      have hmem : j ∈ qs.map (fun q => q.2.toNat) := s.keys.mem_iff.mpr (List.mem_range.mpr hj)
      obtain ⟨s2, hs2⟩ := List.mem_iff_getElem?.mp hmem
      have h2 : s2 < qs.length := by have := (List.getElem?_eq_some_iff.mp hs2).1; rwa [List.length_map] at this
      rw [key s2 h2] at hs2
      have hj2 := Option.some.inj hs2
      by_cases hlt : s2 < t
      · exfalso
        apply hm
        rw [List.map_take]
        refine List.mem_of_getElem? (i := s2) ?_
        rw [List.getElem?_take_of_lt hlt, key s2 h2, hj2]
      · by_cases heq : s2 = t
        · subst heq; exact .inr (.inl (by rw [← hj2, hkt]))
        · have hp := List.pairwise_iff_getElem.mp s.srt t s2 ht h2 (by omega)
          obtain ⟨k2, hk2, e2⟩ := s.at h2
          have : k2 = j := by rw [← hj2, e2]; rfl
          subst this
          rw [e, e2] at hp
          have hp' : (decide (0 - gat rests k < 0 - gat rests k2) || (decide (0 - gat rests k = 0 - gat rests k2) && decide ((k : Int) ≤ (k2 : Int)))) = true := hp
          simp only [Bool.or_eq_true, Bool.and_eq_true, decide_eq_true_eq] at hp'
          refine .inr (.inr ⟨rfl, ?_⟩)
          omega
  refine ⟨fun j hj => ?_, fun j hj => ?_⟩
  · rw [gk]
    rcases main j hj with h | h | ⟨h, h2⟩
    · omega
    · rw [h, gk]; exact Int.le_refl _
    · omega
  · rw [gk]
    rcases main j (by omega) with h | h | ⟨h, h2⟩
    · omega
    · omega
    · omega

def keysN (qs : List (Int × Int)) : List Nat := qs.map fun q => q.2.toNat
theorem bumps_at : ∀ {qs : List (Int × Int)} {l : List Int} {j : Nat}, (keysN qs).Nodup → j < l.length → gat (bumps qs l) j = gat l j + (if j ∈ keysN qs then 1 else 0)
  | [], l, j, _, h => by simp [bumps, keysN]
  | q :: qs, l, j, hn, h => by
    have hn' : (q.2.toNat :: keysN qs).Nodup := hn
    obtain ⟨h1, h2⟩ := List.nodup_cons.mp hn'
    show gat (bumps qs (bump l q.2.toNat)) j = _
    rw [bumps_at h2 (by rw [bump_len]; exact h), show bump l q.2.toNat = l.set q.2.toNat (gat l q.2.toNat + 1) from rfl, gat_set h]
    show _ = gat l j + (if j ∈ q.2.toNat :: keysN qs then 1 else 0)
    by_cases e : q.2.toNat = j
    · subst e
      rw [if_pos rfl, if_neg h1, if_pos List.mem_cons_self]; omega
    · rw [if_neg e]
      by_cases hm : j ∈ keysN qs
      · rw [if_pos hm, if_pos (List.mem_cons_of_mem _ hm)]
      · rw [if_neg hm, if_neg fun z => (List.mem_cons.mp z).elim (fun w => e w.symm) hm]
theorem sum_set : ∀ {l : List Int} {k : Nat} {v : Int}, k < l.length → (l.set k v).sum = l.sum - gat l k + v
  | x :: r, 0, v, _ => by
    simp [gat]; omega
  | x :: r, k + 1, v, h => by
    have := sum_set (l := r) (k := k) (v := v) (by simpa using h)
    rw [List.set_cons_succ, List.sum_cons, this, List.sum_cons]
    show _ = x + r.sum - gat r k + v
    omega
theorem sum_bumps : ∀ {qs : List (Int × Int)} {l : List Int}, (∀ k ∈ keysN qs, k < l.length) → (bumps qs l).sum = l.sum + qs.length
  | [], l, _ => by simp [bumps]
  | q :: qs, l, h => by
    show (bumps qs (bump l q.2.toNat)).sum = _
    rw [sum_bumps fun k hk => by rw [bump_len]; exact h k (List.mem_cons_of_mem _ hk)]
    rw [show bump l q.2.toNat = l.set q.2.toNat (gat l q.2.toNat + 1) from rfl, sum_set (show q.2.toNat < l.length from h _ List.mem_cons_self), List.length_cons]
    omega
theorem perm_sum {a b : List Int} (h : a.Perm b) : a.sum = b.sum := by
  induction h with
  | nil => rfl
  | cons x _ ih => rw [List.sum_cons, List.sum_cons, ih]
  | swap x y l => simp only [List.sum_cons]; omega
  | trans _ _ ih1 ih2 => exact ih1.trans ih2
/-- who is given one more -/
structure Given (ds : List Int) (much : Int) (told : List Int) (C : Nat → Prop) : Prop where
  len : told.length = ds.length
  sum : told.sum = much
  at_ : ∀ j, j < ds.length → (C j ∧ gat told j = gat (partsL ds much) j + 1) ∨ (¬ C j ∧ gat told j = gat (partsL ds much) j)
  ord : ∀ k j, k < ds.length → j < ds.length → C k → ¬ C j → gat (restsL ds much) j < gat (restsL ds much) k ∨ (gat (restsL ds much) j = gat (restsL ds much) k ∧ k < j)
  pos : ∀ k, k < ds.length → C k → 0 < gat (restsL ds much) k
theorem sum_take_le {w : Int} : ∀ {l : List Int}, (∀ r ∈ l, r ≤ w - 1) → l.sum ≤ l.length * (w - 1) := fun h => sum_up h
theorem gat_mem {l : List Int} {k : Nat} (h : k < l.length) : gat l k ∈ l := by
  unfold gat
  rw [List.getElem?_eq_getElem h]
  exact List.getElem_mem h
theorem given_of {ds : List Int} {much : Int} {qs : List (Int × Int)} (g : GoodD ds) (s : Sorted (restsL ds much) qs) : Given ds much (bumps (qs.take (leftN ds much).toNat) (partsL ds much)) fun k => k ∈ keysN (qs.take (leftN ds much).toNat) := by
  have hw0 := g.pos
  have ⟨hn0, hn1⟩ := left_bd (much := much) g
  have rl : (restsL ds much).length = ds.length := by simp [restsL]
  have pl : (partsL ds much).length = ds.length := by simp [partsL]
  have ql : qs.length = ds.length := by rw [s.len, rl]
  have hnd : (keysN qs).Nodup := s.keys.nodup_iff.mpr List.nodup_range
  have kt : keysN (qs.take (leftN ds much).toNat) = (keysN qs).take (leftN ds much).toNat := by unfold keysN; rw [List.map_take]
  have hnd2 : (keysN (qs.take (leftN ds much).toNat)).Nodup := by rw [kt]; exact hnd.sublist (List.take_sublist _ _)
  have tl : (qs.take (leftN ds much).toNat).length = (leftN ds much).toNat := by rw [List.length_take]; omega
  have kin : ∀ k ∈ keysN qs, k < ds.length := fun k hk => by
    have := s.keys.mem_iff.mp hk
    rw [rl] at this
    exact List.mem_range.mp this
  have key : ∀ s2 (h2 : s2 < qs.length), (keysN qs)[s2]? = some (qs[s2].2.toNat) := fun s2 h2 => by unfold keysN; rw [List.getElem?_map, List.getElem?_eq_getElem h2]; rfl
  have place : ∀ k, k < ds.length → ∃ t, ∃ ht : t < qs.length, qs[t].2.toNat = k ∧ qs[t] = (0 - gat (restsL ds much) k, (k : Int)) ∧ (k ∈ keysN (qs.take (leftN ds much).toNat) ↔ t < (leftN ds much).toNat) := by
    intro k hk
    have hm : k ∈ keysN qs := s.keys.mem_iff.mpr (List.mem_range.mpr (by omega))
    obtain ⟨t, ht⟩ := List.mem_iff_getElem?.mp hm
    have htl : t < qs.length := by have := (List.getElem?_eq_some_iff.mp ht).1; unfold keysN at this; rwa [List.length_map] at this
    have e1 := key t htl
    rw [ht] at e1
    have e2 := (Option.some.inj e1).symm
    obtain ⟨k2, _, e3⟩ := s.at htl
    have : k2 = k := by rw [← e2, e3]; rfl
    subst this
    refine ⟨t, htl, e2, e3, ?_⟩
    rw [kt]
    constructor
    · intro hm
      obtain ⟨u, hu⟩ := List.mem_iff_getElem?.mp hm
      have hul : u < (leftN ds much).toNat := by have := (List.getElem?_eq_some_iff.mp hu).1; rw [List.length_take] at this; omega
      rw [List.getElem?_take_of_lt hul] at hu
      have : u = t := (List.getElem?_inj (by unfold keysN; rw [List.length_map]; omega) hnd).mp (hu.trans ht.symm)
      omega
    · intro h
      exact List.mem_of_getElem? (i := t) (by rw [List.getElem?_take_of_lt h]; exact ht)
  refine ⟨by rw [bumps_len, pl], ?_, fun j hj => ?_, fun k j hk hj hC hC' => ?_, fun k hk hC => ?_⟩
  · rw [sum_bumps fun k hk => by rw [pl]; exact kin k (by rw [kt] at hk; exact List.mem_of_mem_take hk), tl]
    unfold leftN at hn0 ⊢
    omega
  · rw [bumps_at hnd2 (by omega)]
    by_cases h : j ∈ keysN (qs.take (leftN ds much).toNat)
    · exact .inl ⟨h, by rw [if_pos h]⟩
    · exact .inr ⟨h, by rw [if_neg h]; omega⟩
  · obtain ⟨t, ht, e1, e2, e3⟩ := place k hk
    obtain ⟨u, hu, f1, f2, f3⟩ := place j hj
    have h1 := e3.mp hC
    have h2 : ¬ u < (leftN ds much).toNat := fun z => hC' (f3.mpr z)
    have hp := List.pairwise_iff_getElem.mp s.srt t u ht hu (by omega)
    rw [e2, f2] at hp
    have hp' : (decide (0 - gat (restsL ds much) k < 0 - gat (restsL ds much) j) || (decide (0 - gat (restsL ds much) k = 0 - gat (restsL ds much) j) && decide ((k : Int) ≤ (j : Int)))) = true := hp
    simp only [Bool.or_eq_true, Bool.and_eq_true, decide_eq_true_eq] at hp'
    have : k ≠ j := fun z => hC' (by rw [← z]; exact hC)
    omega
  · obtain ⟨t, ht, e1, e2, e3⟩ := place k hk
    have h1 := e3.mp hC
    have nn := rests_bd (much := much) hw0
    have hk0 := (nn _ (gat_mem (l := restsL ds much) (k := k) (by omega))).1
    by_cases h0 : gat (restsL ds much) k = 0
    · exfalso
      -- what stands behind has nothing left
      have eq1 : (qs.map fun q : Int × Int => 0 - q.1).sum = (restsL ds much).sum := by
        have hp := perm_sum (s.perm.map fun q : Int × Int => 0 - q.1)
        rw [hp]
        congr 1
        refine List.ext_getElem? fun i => ?_
        by_cases hi : i < (restsL ds much).length
        · rw [List.getElem?_map, pairsL_get hi, List.getElem?_eq_getElem hi]
          show some (0 - (0 - _)) = _
          congr 1; omega
        · rw [List.getElem?_eq_none (by rw [List.length_map, pairsL_len]; omega), List.getElem?_eq_none (by omega)]
      have zer : ∀ q ∈ qs.drop t, 0 - q.1 ≤ 0 := fun q hq => by
        obtain ⟨u, hu⟩ := List.mem_iff_getElem?.mp hq
        rw [List.getElem?_drop] at hu
        obtain ⟨hul, hue⟩ := List.getElem?_eq_some_iff.mp hu
        subst hue
        by_cases hz : u = 0
        · subst hz
          have : qs[t + 0] = qs[t] := rfl
          rw [this, e2]; show 0 - (0 - _) ≤ 0; omega
        · have hp := List.pairwise_iff_getElem.mp s.srt t (t + u) ht hul (by omega)
          rw [e2] at hp
          have hp' : (decide (0 - gat (restsL ds much) k < qs[t + u].1) || (decide (0 - gat (restsL ds much) k = qs[t + u].1) && decide ((k : Int) ≤ qs[t + u].2))) = true := hp
          simp only [Bool.or_eq_true, Bool.and_eq_true, decide_eq_true_eq] at hp'
          omega
      have sp : (qs.map fun q : Int × Int => 0 - q.1).sum = ((qs.take t).map fun q : Int × Int => 0 - q.1).sum + ((qs.drop t).map fun q : Int × Int => 0 - q.1).sum := by
        rw [← List.sum_append, ← List.map_append, List.take_append_drop]
      have b1 : ((qs.drop t).map fun q : Int × Int => 0 - q.1).sum ≤ ((qs.drop t).map fun q : Int × Int => 0 - q.1).length * (0 : Int) := sum_up fun v hv => by
        obtain ⟨q, hq, rfl⟩ := List.mem_map.mp hv
        exact zer q hq
      have b2 : ((qs.take t).map fun q : Int × Int => 0 - q.1).sum ≤ ((qs.take t).map fun q : Int × Int => 0 - q.1).length * ds.sum := sum_up fun v hv => by
        obtain ⟨q, hq, rfl⟩ := List.mem_map.mp hv
        obtain ⟨k2, hk2, e4⟩ := mem_pairsL (s.perm.mem_iff.mp (List.mem_of_mem_take hq))
        rw [e4]
        have := (nn _ (List.getElem_mem hk2)).2
        show 0 - (0 - _) ≤ _
        omega
      rw [List.length_map, List.length_take, Nat.min_eq_left (Nat.le_of_lt ht)] at b2
      have e5 : much * ds.sum = ds.sum * (partsL ds much).sum + (restsL ds much).sum := by rw [← sum_mul]; exact sum_split
      have e6 : ds.sum * leftN ds much = (restsL ds much).sum := by
        unfold leftN
        rw [Int.mul_sub, Int.mul_comm ds.sum much]; omega
      have b3 : (t : Int) * ds.sum ≤ (leftN ds much - 1) * ds.sum := Int.mul_le_mul_of_nonneg_right (by omega) (by omega)
      rw [Int.sub_mul, Int.mul_comm (leftN ds much)] at b3
      omega
    · omega

theorem rest_eq (a w : Int) : a - w * a.fdiv w = a.fmod w := by
  have := Int.mul_fdiv_add_fmod a w
  omega
theorem mem_le_sum : ∀ {l : List Int} {x : Int}, (∀ d ∈ l, 0 ≤ d) → x ∈ l → x ≤ l.sum
  | y :: r, x, h, hm => by
    have h1 := sum_nn (l := r) fun d hd => h d (List.mem_cons_of_mem _ hd)
    have h2 := h y List.mem_cons_self
    rw [List.sum_cons]
    rcases List.mem_cons.mp hm with rfl | hm
    · omega
    · have := mem_le_sum (l := r) (fun d hd => h d (List.mem_cons_of_mem _ hd)) hm
      omega
theorem parts_bd {ds : List Int} {much : Int} (g : GoodD ds) (h0 : 0 ≤ much) : ∀ v ∈ partsL ds much, 0 ≤ v ∧ v ≤ much := fun v hv => by
  obtain ⟨d, hd, rfl⟩ := List.mem_map.mp hv
  have hw := g.pos
  rw [Int.fdiv_eq_ediv_of_nonneg _ (Int.le_of_lt hw)]
  have d0 := g.nn d hd
  have d1 := mem_le_sum g.nn hd
  refine ⟨Int.ediv_nonneg (Int.mul_nonneg h0 d0) (Int.le_of_lt hw), ?_⟩
  exact Int.ediv_le_of_le_mul hw (Int.mul_le_mul_of_nonneg_left d1 h0)
theorem bump_bd {M : Int} {l : List Int} {k : Nat} (hM : 0 ≤ M) (h : ∀ v ∈ l, 0 ≤ v ∧ v ≤ M) : ∀ v ∈ bump l k, 0 ≤ v ∧ v ≤ M + 1 := fun v hv => by
  rcases List.mem_or_eq_of_mem_set hv with h1 | h1
  · have := h v h1; omega
  · subst h1
    cases e : l[k]? with
    | none => rw [Option.getD_none]; omega
    | some x =>
      rw [Option.getD_some]
      have := h x (List.mem_of_getElem? e)
      omega
theorem bumps_bd : ∀ {qs : List (Int × Int)} {l : List Int} {M : Int}, 0 ≤ M → (∀ v ∈ l, 0 ≤ v ∧ v ≤ M) → ∀ v ∈ bumps qs l, 0 ≤ v ∧ v ≤ M + qs.length
  | [], l, M, _, h, v, hv => by have := h v hv; simp; omega
  | q :: qs, l, M, hM, h, v, hv => by
    have := bumps_bd (qs := qs) (l := bump l q.2.toNat) (M := M + 1) (by omega) (bump_bd hM h) v hv
    rw [List.length_cons]; omega

theorem gat_map {l : List Int} {f : Int → Int} {k : Nat} (h : k < l.length) : gat (l.map f) k = f (gat l k) := by
  unfold gat
  rw [List.getElem?_map, List.getElem?_eq_getElem h]; rfl
theorem at_int {l : List Int} {k : Nat} (h : k < l.length) : atI (l.map PyData.int) (k : Int) = some (.int (gat l k)) := by
  unfold atI
  rw [ixN_nat (j := k) (by rw [List.length_map]; exact h)]
  show (l.map PyData.int)[k]? = _
  unfold gat
  rw [List.getElem?_map, List.getElem?_eq_getElem h]; rfl
structure Fits (ds : List Int) (much : Int) (T : List Int) : Prop where
  len : T.length = ds.length
  sum : T.sum = much
  f1 : ∀ k, k < ds.length → -ds.sum < gat T k * ds.sum - much * gat ds k ∧ gat T k * ds.sum - much * gat ds k < ds.sum
  f2 : ∀ k, k < ds.length → gat T k ≤ gat ds k
  f3 : ∀ k, k < ds.length → much * gat ds k < gat T k * ds.sum → gat (restsL ds much) k ≠ 0
  f4 : ∀ k j, k < ds.length → j < ds.length → gat ds k < gat ds j → ¬ gat T j < gat T k
  f5 : ∀ k j, k < ds.length → j < ds.length → much * gat ds k < gat T k * ds.sum → ¬ much * gat ds j < gat T j * ds.sum → ¬ gat (restsL ds much) k < gat (restsL ds much) j
  f6 : ∀ k j, k < ds.length → j < k → gat ds j = gat ds k → gat T j - gat T k = 0 ∨ gat T j - gat T k = 1
theorem fits_of {ds T : List Int} {much : Int} {C : Nat → Prop} (g : GoodD ds) (h0 : 0 ≤ much) (h1 : much ≤ ds.sum) (G : Given ds much T C) : Fits ds much T := by
  have hw0 := g.pos
  have rl : (restsL ds much).length = ds.length := by simp [restsL]
  have gp : ∀ k, k < ds.length → gat (partsL ds much) k = (much * gat ds k).fdiv ds.sum := fun k hk => gat_map hk
  have gr : ∀ k, k < ds.length → gat (restsL ds much) k = (much * gat ds k).fmod ds.sum := fun k hk => gat_map hk
  have spl : ∀ k, k < ds.length → gat (partsL ds much) k * ds.sum + gat (restsL ds much) k = much * gat ds k := fun k hk => by
    rw [gp k hk, gr k hk, Int.mul_comm]
    exact Int.mul_fdiv_add_fmod _ _
  have rb : ∀ k, k < ds.length → 0 ≤ gat (restsL ds much) k ∧ gat (restsL ds much) k < ds.sum := fun k hk => rests_bd hw0 _ (gat_mem (by omega))
  have db : ∀ k, k < ds.length → 0 ≤ gat ds k ∧ gat ds k ≤ ds.sum := fun k hk => ⟨g.nn _ (gat_mem hk), mem_le_sum g.nn (gat_mem hk)⟩
  have up : ∀ k, k < ds.length → (C k ↔ much * gat ds k < gat T k * ds.sum) := fun k hk => by
    have e := spl k hk
    have ⟨r0, r1⟩ := rb k hk
    rcases G.at_ k hk with ⟨c, ht⟩ | ⟨c, ht⟩
    · refine ⟨fun _ => ?_, fun _ => c⟩
      rw [ht, Int.add_mul, Int.one_mul]; omega
    · refine ⟨fun z => absurd z c, fun z => ?_⟩
      rw [ht] at z; omega
  have tw : ∀ k, k < ds.length → (C k ∧ gat T k * ds.sum = gat (partsL ds much) k * ds.sum + ds.sum) ∨ (¬ C k ∧ gat T k * ds.sum = gat (partsL ds much) k * ds.sum) := fun k hk => by
    rcases G.at_ k hk with ⟨c, ht⟩ | ⟨c, ht⟩
    · exact .inl ⟨c, by rw [ht, Int.add_mul, Int.one_mul]⟩
    · exact .inr ⟨c, by rw [ht]⟩
  refine ⟨G.len, G.sum, fun k hk => ?_, fun k hk => ?_, fun k hk hu => ?_, fun k j hk hj hs ht => ?_, fun k j hk hj hu hu' => ?_, fun k j hk hj hs => ?_⟩
  · have e := spl k hk
    have ⟨r0, r1⟩ := rb k hk
    rcases tw k hk with ⟨c, ht⟩ | ⟨c, ht⟩
    · have := G.pos k hk c; omega
    · omega
  · have e := spl k hk
    have ⟨r0, r1⟩ := rb k hk
    have ⟨d0, d1⟩ := db k hk
    have b1 : much * gat ds k ≤ ds.sum * gat ds k := Int.mul_le_mul_of_nonneg_right h1 d0
    rcases G.at_ k hk with ⟨c, ht⟩ | ⟨c, ht⟩
    · have p := G.pos k hk c
      have b2 : gat (partsL ds much) k * ds.sum < gat ds k * ds.sum := by rw [Int.mul_comm (gat ds k)]; omega
      have := Int.lt_of_mul_lt_mul_right b2 (Int.le_of_lt hw0)
      omega
    · have b2 : gat (partsL ds much) k * ds.sum ≤ gat ds k * ds.sum := by rw [Int.mul_comm (gat ds k)]; omega
      have := Int.le_of_mul_le_mul_right b2 hw0
      omega
  · have := G.pos k hk ((up k hk).mpr hu); omega
  · -- more due, less told
    have e1 := spl k hk
    have e2 := spl j hj
    have ⟨r0, r1⟩ := rb k hk
    have ⟨q0, q1⟩ := rb j hj
    have mono : much * gat ds k ≤ much * gat ds j := Int.mul_le_mul_of_nonneg_left (by omega) h0
    have pm : gat (partsL ds much) k ≤ gat (partsL ds much) j := by
      have b : gat (partsL ds much) k * ds.sum < (gat (partsL ds much) j + 1) * ds.sum := by rw [Int.add_mul, Int.one_mul]; omega
      have := Int.lt_of_mul_lt_mul_right b (Int.le_of_lt hw0)
      omega
    rcases G.at_ k hk with ⟨c, t1⟩ | ⟨c, t1⟩
    · rcases G.at_ j hj with ⟨c2, t2⟩ | ⟨c2, t2⟩
      · omega
      · have eqp : gat (partsL ds much) k = gat (partsL ds much) j := by omega
        rw [eqp] at e1
        have hpos := G.pos k hk c
        have hne : much ≠ 0 := fun z => by
          have : gat (restsL ds much) k = 0 := by rw [gr k hk, z, Int.zero_mul]; simp
          omega
        have sm : much * gat ds k < much * gat ds j := Int.mul_lt_mul_of_pos_left hs (by omega)
        have := G.ord k j hk hj c c2
        omega
    · rcases G.at_ j hj with ⟨c2, t2⟩ | ⟨c2, t2⟩ <;> omega
  · have c := (up k hk).mpr hu
    have c2 : ¬ C j := fun z => hu' ((up j hj).mp z)
    have := G.ord k j hk hj c c2
    omega
  · have hjl : j < ds.length := by omega
    have p1 : gat (partsL ds much) j = gat (partsL ds much) k := by rw [gp j hjl, gp k hk, hs]
    have r1 : gat (restsL ds much) j = gat (restsL ds much) k := by rw [gr j hjl, gr k hk, hs]
    rcases G.at_ k hk with ⟨c, t1⟩ | ⟨c, t1⟩
    · rcases G.at_ j hjl with ⟨c2, t2⟩ | ⟨c2, t2⟩
      · omega
      · have := G.ord k j hk hjl c c2
        omega
    · rcases G.at_ j hjl with ⟨c2, t2⟩ | ⟨c2, t2⟩ <;> omega

theorem upD_get {ds T : List Int} {much : Int} {k : Nat} (h : k < ds.length) :
    ((Vx.upTo 0 ds.length).map fun x => match x with | .int i => O.d (.bool (decide (much * gat ds i.toNat < gat T i.toNat * ds.sum))) | _ => .d .none)[k]? = some (.d (.bool (decide (much * gat ds k < gat T k * ds.sum)))) := by
  have e : (Vx.upTo 0 ds.length)[k]? = some (.int (0 + (k : Int))) := by simp [Vx.upTo, h]
  rw [List.getElem?_map, e, Int.zero_add]
  rfl
def in_w : WS := (sFor (.v 7) (iR1 (wPrim .len (aCons (wVar 0) aNil))) (sCons (sIf (wOr (wAnd (wCmp .gt (wIx (wVar 0) (wVar 7)) (wIx (wVar 0) (wVar 6))) (wCmp .lt (wIx (wVar 2) (wVar 7)) (wIx (wVar 2) (wVar 6)))) (wAnd (wIx (wVar 5) (wVar 6)) (wAnd (wNot (wIx (wVar 5) (wVar 7))) (wCmp .gt (wIx (wVar 4) (wVar 7)) (wIx (wVar 4) (wVar 6)))))) (sCons (sRet (wK (.bool false))) sNil) sNil) (sCons (sIf (wAnd (wCmp .lt (wVar 7) (wVar 6)) (wAnd (wCmp .eq (wIx (wVar 0) (wVar 7)) (wIx (wVar 0) (wVar 6))) (wCmp .notIn (wBin .sub (wIx (wVar 2) (wVar 7)) (wIx (wVar 2) (wVar 6))) (wTup (aCons (wK (.int 0)) (aCons (wK (.int 1)) aNil)))))) (sCons (sRet (wK (.bool false))) sNil) sNil) sNil)))
theorem in_ok {ds T : List Int} {U : List O} {much : Int} {k : Nat} {aE aU : Addr} {y7 : Option O} {PX : Exn → Vx.Env → Prop} {kt : Kt} (g : GoodD ds) (h0 : 0 ≤ much) (h1 : much ≤ ds.sum) (F : Fits ds much T) (hk : k < ds.length) (Ul : U.length = ds.length)
    (Ug : ∀ k, k < ds.length → U[k]? = some (.d (.bool (decide (much * gat ds k < gat T k * ds.sum)))))
    (h : ∀ y7, kt.nx [some (.d (.tuple (ds.map .int))), some (.d (.int much)), some (.d (.tuple (T.map .int))), some (.d (.int ds.sum)), some (.lst aE ((restsL ds much).map fun i => O.d (.int i))), some (.lst aU U), some (.d (.int (k : Int))), y7, none]) :
    in_w PX [some (.d (.tuple (ds.map .int))), some (.d (.int much)), some (.d (.tuple (T.map .int))), some (.d (.int ds.sum)), some (.lst aE ((restsL ds much).map fun i => O.d (.int i))), some (.lst aU U), some (.d (.int (k : Int))), y7, none] kt := by
  unfold in_w
  have hl := g.le
  have tl := F.len
  have rl : (restsL ds much).length = ds.length := by simp [restsL]
  refine And.intro (show inRange ((ds.map PyData.int).length : Nat) from ⟨by rw [List.length_map]; omega, by rw [List.length_map]; omega⟩) ?_
  refine goFor_run (s := ⟨Vx.upTo 0 (((ds.map PyData.int).length : Nat) : Int).toNat, none⟩) (fun _ env => ∃ y7, env = [some (.d (.tuple (ds.map .int))), some (.d (.int much)), some (.d (.tuple (T.map .int))), some (.d (.int ds.sum)), some (.lst aE ((restsL ds much).map fun i => O.d (.int i))), some (.lst aU U), some (.d (.int (k : Int))), y7, none]) (fun _ _ _ => True.intro) (fun j x env K hx hI hK => ?_) ⟨y7, rfl⟩ fun env' hI => ?_
  · obtain ⟨y7, rfl⟩ := hI
    obtain ⟨hj, rfl⟩ := upTo_get hx
    rw [List.length_map] at hj
    have hj : j < ds.length := hj
    rw [Int.zero_add]
    -- the second test
    have second : ∀ _ : Unit, (sCons (sIf (wAnd (wCmp .lt (wVar 7) (wVar 6)) (wAnd (wCmp .eq (wIx (wVar 0) (wVar 7)) (wIx (wVar 0) (wVar 6))) (wCmp .notIn (wBin .sub (wIx (wVar 2) (wVar 7)) (wIx (wVar 2) (wVar 6))) (wTup (aCons (wK (.int 0)) (aCons (wK (.int 1)) aNil)))))) (sCons (sRet (wK (.bool false))) sNil) sNil) sNil) PX [some (.d (.tuple (ds.map .int))), some (.d (.int much)), some (.d (.tuple (T.map .int))), some (.d (.int ds.sum)), some (.lst aE ((restsL ds much).map fun i => O.d (.int i))), some (.lst aU U), some (.d (.int (k : Int))), some (.d (.int (j : Int))), none] { kt with nx := K, ct := K, bk := kt.nx } := by
      intro _
      trivial
      refine ifB (fun c => ?_) (fun _ => ?_)
      · have c : (j : Int) < k := of_decide_eq_true c
        trivial
        refine onSome_mk (at_int hj) ?_
        refine onSome_mk (at_int hk) ?_
        trivial
        refine ifB (fun c2 => ?_) (fun _ => ?_)
        · have c2 : PyData.eqv (.int (gat ds j)) (.int (gat ds k)) = true := c2
          have c2 : gat ds j = gat ds k := by simpa [PyData.eqv] using c2
          trivial
          refine onSome_mk (at_int (by omega)) ?_
          refine onSome_mk (at_int (by omega)) ?_
          trivial
          refine ifB (fun c3 => ?_) (fun _ => ?_)
          · exfalso
            have c3 : (!([PyData.int 0, .int 1].any fun y => PyData.eqv y (.int (gat T j - gat T k)))) = true := c3
            rcases F.f6 k j hk (by omega) c2 with e | e
            · rw [e] at c3; exact absurd c3 (by decide)
            · rw [e] at c3; exact absurd c3 (by decide)
          · exact hK _ ⟨_, rfl⟩
        · exact hK _ ⟨_, rfl⟩
      · exact hK _ ⟨_, rfl⟩
    trivial
    refine onSome_mk (at_int hj) ?_
    refine onSome_mk (at_int hk) ?_
    refine ifB (fun c => ?_) (fun _ => ?_)
    · have c : gat ds k < gat ds j := of_decide_eq_true c
      trivial
      refine onSome_mk (at_int (by omega)) ?_
      refine onSome_mk (at_int (by omega)) ?_
      refine ifB (fun c2 => ?_) (fun _ => ?_)
      · exact absurd (of_decide_eq_true c2) (F.f4 k j hk hj c)
      · trivial
        refine onSome_mk (ixN_nat (j := k) (by rw [Ul]; exact hk)) ?_
        refine onSome_mk (Ug k hk) ?_
        refine ifB (fun cu => ?_) (fun _ => ?_)
        · trivial
          refine onSome_mk (ixN_nat (j := j) (by rw [Ul]; exact hj)) ?_
          refine onSome_mk (Ug j hj) ?_
          refine ifB (fun cj => ?_) (fun _ => ?_)
          · trivial
            refine onSome_mk (ixN_nat (j := j) (by rw [List.length_map]; omega)) ?_
            refine onSome_mk (gat_get (by omega)) ?_
            trivial
            refine onSome_mk (ixN_nat (j := k) (by rw [List.length_map]; omega)) ?_
            refine onSome_mk (gat_get (by omega)) ?_
            refine ifB (fun cr => ?_) (fun _ => ?_)
            · exfalso
              have cj' : ¬ much * gat ds j < gat T j * ds.sum := by simpa using cj
              exact F.f5 k j hk hj (of_decide_eq_true cu) cj' (of_decide_eq_true cr)
            · exact second ()
          · exact second ()
        · exact second ()
    · trivial
      refine onSome_mk (ixN_nat (j := k) (by rw [Ul]; exact hk)) ?_
      refine onSome_mk (Ug k hk) ?_
      refine ifB (fun cu => ?_) (fun _ => ?_)
      · trivial
        refine onSome_mk (ixN_nat (j := j) (by rw [Ul]; exact hj)) ?_
        refine onSome_mk (Ug j hj) ?_
        refine ifB (fun cj => ?_) (fun _ => ?_)
        · trivial
          refine onSome_mk (ixN_nat (j := j) (by rw [List.length_map]; omega)) ?_
          refine onSome_mk (gat_get (by omega)) ?_
          trivial
          refine onSome_mk (ixN_nat (j := k) (by rw [List.length_map]; omega)) ?_
          refine onSome_mk (gat_get (by omega)) ?_
          refine ifB (fun cr => ?_) (fun _ => ?_)
          · exfalso
            have cj' : ¬ much * gat ds j < gat T j * ds.sum := by simpa using cj
            exact F.f5 k j hk hj (of_decide_eq_true cu) cj' (of_decide_eq_true cr)
          · exact second ()
        · exact second ()
      · exact second ()
  · obtain ⟨y7, rfl⟩ := hI
    exact h y7
theorem is_right_ok {ds T : List Int} {much : Int} {P : O → List O → Prop} {PX : Exn → List O → Prop} (g : GoodD ds) (h0 : 0 ≤ much) (h1 : much ≤ ds.sum) (F : Fits ds much T)
    (h : P (.d (.bool true)) [.d (.tuple (ds.map .int)), .d (.int much), .d (.tuple (T.map .int))]) : F__law_is_right [.d (.tuple (ds.map .int)), .d (.int much), .d (.tuple (T.map .int))] P PX := by
  unfold F__law_is_right
  have hw := g.whole
  have hw0 := g.pos
  have hl := g.le
  have tl := F.len
  have rl : (restsL ds much).length = ds.length := by simp [restsL]
  refine onSome_mk (intsOf_map ds) ?_
  trivial
  refine ifB (fun c => ?_) (fun _ => ?_)
  · have c : (!PyData.eqv (.int ((T.map PyData.int).length : Nat)) (.int ((ds.map PyData.int).length : Nat))) = true := c
    rw [List.length_map, List.length_map, tl] at c
    simp [PyData.eqv] at c
  trivial
  refine onSome_mk (intsOf_map T) ?_
  trivial
  refine ifB (fun c => ?_) (fun _ => ?_)
  · have c : (!PyData.eqv (.int T.sum) (.int much)) = true := c
    rw [F.sum] at c
    simp [PyData.eqv] at c
  trivial
  refine And.intro (plain1 True.intro) fun aE => ?_
  refine goComp_ints (ns := ds) (at? := none) (env0 := [some (.d (.tuple (ds.map .int))), some (.d (.int much)), some (.d (.tuple (T.map .int))), some (.d (.int ds.sum)), none, none, none, none, none]) (fun d => .d (.int ((much * d).fmod ds.sum))) (by omega) True.intro (fun x hx acc K k1 k2 => ?_) ?_
  · trivial
    refine mulS ⟨by omega, by omega⟩ ?_
    refine mulS ⟨by omega, by omega⟩ ?_
    refine And.intro (show DivOk ds.sum from .inr ⟨hw0, lg (by omega)⟩) ?_
    refine mulS ⟨by omega, by omega⟩ ?_
    rw [← rest_eq] at k2
    exact And.intro k1 k2
  intro _
  rw [map2 ds fun d => (much * d).fmod ds.sum, show (ds.map fun d => (much * d).fmod ds.sum) = restsL ds much from rfl]
  trivial
  refine And.intro (show inRange ((ds.map PyData.int).length : Nat) from ⟨by rw [List.length_map]; omega, by rw [List.length_map]; omega⟩) (And.intro (plain1 True.intro) fun aU => ?_)
  have hup : Vx.upTo 0 (((ds.map PyData.int).length : Nat) : Int).toNat = Vx.upTo 0 ds.length := by rw [List.length_map]; rfl
  refine goComp_map (s := ⟨Vx.upTo 0 (((ds.map PyData.int).length : Nat) : Int).toNat, none⟩) (fun x => match x with | .int i => O.d (.bool (decide (much * gat ds i.toNat < gat T i.toNat * ds.sum))) | _ => .d .none)
    (env0 := [some (.d (.tuple (ds.map .int))), some (.d (.int much)), some (.d (.tuple (T.map .int))), some (.d (.int ds.sum)), some (.lst aE ((restsL ds much).map fun i => O.d (.int i))), none, none, none, none]) (by rw [upTo_len, List.length_map]; omega) True.intro (fun x hx acc K k1 k2 => ?_) ?_
  · obtain ⟨i, hi0⟩ := List.mem_iff_getElem?.mp hx
    obtain ⟨hi, rfl⟩ := upTo_get hi0
    rw [List.length_map] at hi
    have hi : i < ds.length := hi
    rw [Int.zero_add] at k2 ⊢
    refine stepC_v rfl ?_
    refine onSome_mk (at_int (by omega)) ?_
    refine mulT ⟨by omega, by omega⟩ ?_
    refine onSome_mk (at_int hi) ?_
    refine mulS ⟨by omega, by omega⟩ ?_
    exact And.intro k1 k2
  intro _
  rw [show (Src.mk (Vx.upTo 0 (((ds.map PyData.int).length : Nat) : Int).toNat) none).xs = Vx.upTo 0 ds.length from hup]
  trivial
  refine And.intro (show inRange ((ds.map PyData.int).length : Nat) from ⟨by rw [List.length_map]; omega, by rw [List.length_map]; omega⟩) ?_
  generalize hU : ((Vx.upTo 0 ds.length).map fun x => match x with | .int i => O.d (.bool (decide (much * gat ds i.toNat < gat T i.toNat * ds.sum))) | _ => .d .none) = U
  have Ul : U.length = ds.length := by rw [← hU, List.length_map, upTo_len]
  have Ug : ∀ k, k < ds.length → U[k]? = some (.d (.bool (decide (much * gat ds k < gat T k * ds.sum)))) := fun k hk => by rw [← hU]; exact upD_get hk
  refine goFor_run (s := ⟨Vx.upTo 0 (((ds.map PyData.int).length : Nat) : Int).toNat, none⟩) (fun k env => ∃ y6 y7, env = [some (.d (.tuple (ds.map .int))), some (.d (.int much)), some (.d (.tuple (T.map .int))), some (.d (.int ds.sum)), some (.lst aE ((restsL ds much).map fun i => O.d (.int i))), some (.lst aU U), y6, y7, none]) (fun _ _ _ => True.intro) (fun k x env K hx hI hK => ?_) ⟨none, none, rfl⟩ fun env' hI => ?_
  · obtain ⟨y6, y7, rfl⟩ := hI
    obtain ⟨hk, rfl⟩ := upTo_get hx
    rw [List.length_map] at hk
    have hk : k < ds.length := hk
    rw [Int.zero_add]
    have ⟨b1, b2⟩ := F.f1 k hk
    trivial
    refine onSome_mk (at_int (by omega)) ?_
    refine mulT ⟨by omega, by omega⟩ ?_
    refine onSome_mk (at_int hk) ?_
    refine mulS ⟨by omega, by omega⟩ ?_
    refine ifB (fun c => ?_) (fun _ => ?_)
    · have c : ds.sum ≤ (if gat T k * ds.sum - much * gat ds k < 0 then -(gat T k * ds.sum - much * gat ds k) else gat T k * ds.sum - much * gat ds k) := of_decide_eq_true c
      split at c <;> omega
    trivial
    refine onSome_mk (at_int (by omega)) ?_
    refine onSome_mk (at_int hk) ?_
    refine ifB (fun c => ?_) (fun _ => ?_)
    · have c : gat ds k < gat T k := of_decide_eq_true c
      have := F.f2 k hk
      omega
    trivial
    refine onSome_mk (ixN_nat (j := k) (by rw [Ul]; exact hk)) ?_
    refine onSome_mk (Ug k hk) ?_
    refine ifB (fun cu => ?_) (fun _ => ?_)
    · trivial
      refine onSome_mk (ixN_nat (j := k) (by rw [List.length_map]; omega)) ?_
      refine onSome_mk (gat_get (by omega)) ?_
      trivial
      refine ifB (fun c => ?_) (fun _ => ?_)
      · exfalso
        have c : PyData.eqv (.int (gat (restsL ds much) k)) (.int 0) = true := c
        exact F.f3 k hk (of_decide_eq_true cu) (by simpa [PyData.eqv] using c)
      · exact in_ok g h0 h1 F hk Ul Ug fun y7 => hK _ ⟨_, _, rfl⟩
    · exact in_ok g h0 h1 F hk Ul Ug fun y7 => hK _ ⟨_, _, rfl⟩
  · obtain ⟨y6, y7, rfl⟩ := hI
    trivial
    exact h

theorem show_two {xs ys : List Int} (hx : xs.length ≤ 500) (hy : ys.length ≤ 500) (h1 : ∀ x ∈ xs, x.natAbs < 10 ^ 30) (h2 : ∀ x ∈ ys, x.natAbs < 10 ^ 30) : ShowOk (.list [.tuple (xs.map .int), .tuple (ys.map .int)]) := by
  obtain ⟨a1, a2, a3, a4, a5⟩ := ints_all h1
  obtain ⟨b1, b2, b3, b4, b5⟩ := ints_all h2
  have big : (42 : Nat) * (101 * 1001) + 40 ≤ sizeLine := by decide
  have w : (PyData.list [.tuple (xs.map .int), .tuple (ys.map .int)]).weight ≤ 101 * 1001 := by
    simp only [PyData.weight, PyData.weightAll]; omega
  have m : (40 + 2) * (PyData.list [.tuple (xs.map .int), .tuple (ys.map .int)]).weight ≤ 42 * (101 * 1001) := Nat.mul_le_mul (Nat.le_refl _) w
  refine ⟨?_, ?_, Nat.le_trans (PyData.shown_le 40 (by decide) _ ?_) (by omega), ?_⟩
  · simp only [PyData.showable, PyData.showableAll, a4, b4]; rfl
  · simp only [PyData.hasDict, PyData.hasDictAll, a5, b5]; rfl
  · simp only [PyData.leavesShort, PyData.leavesShortAll, a1, b1]; rfl
  · simp only [PyData.depth, PyData.depthAll, a3, b3]; decide
theorem same2_ok {a b : Addr} {x y : D} {P : O → List O → Prop} {PX : Exn → List O → Prop} (k : ShowOk (.list [x, y])) (h : P (.d (.bool true)) [.lst a [.d x, .d y], .lst b [.d x, .d y]]) : F__law_same [.lst a [.d x, .d y], .lst b [.d x, .d y]] P PX := by
  unfold F__law_same
  refine And.intro rfl ⟨k.a, k.b, k.c, k.d, And.intro rfl ⟨k.a, k.b, k.c, k.d, ?_⟩⟩
  trivial
  have e : PyData.eqv (.str (PyData.list [x, y]).shown) (.str (PyData.list [x, y]).shown) = true := by simp [PyData.eqv]
  show P (.d (.bool (PyData.eqv (.str (PyData.list [x, y]).shown) (.str (PyData.list [x, y]).shown)))) _
  rw [e]; exact h
theorem parts_all {ds : List Int} (g : GoodD ds) : partsL ds ds.sum = ds := by
  have hw := g.pos
  unfold partsL
  conv => rhs; rw [← List.map_id ds]
  exact List.map_congr_left fun d _ => Int.mul_fdiv_cancel_left d (by omega)
theorem parts_none {ds : List Int} : partsL ds 0 = ds.map fun _ => 0 := by
  unfold partsL
  exact List.map_congr_left fun d _ => by rw [Int.zero_mul, Int.zero_fdiv]
theorem left_all {ds : List Int} (g : GoodD ds) : leftN ds ds.sum = 0 := by unfold leftN; rw [parts_all g]; omega
theorem sum_zeros : ∀ ds : List Int, (ds.map fun _ => (0 : Int)).sum = 0
  | [] => rfl
  | _ :: r => by rw [List.map_cons, List.sum_cons, sum_zeros r]; rfl
theorem left_none {ds : List Int} : leftN ds 0 = 0 := by unfold leftN; rw [parts_none, sum_zeros]; rfl
theorem zeros_rep (ds : List Int) : (List.replicate (((ds.map PyData.int).length : Nat) : Int).toNat [PyData.int 0]).flatten = (ds.map fun _ => (0 : Int)).map PyData.int := by
  rw [List.length_map]
  show (List.replicate ds.length [PyData.int 0]).flatten = _
  induction ds with
  | nil => rfl
  | cons d r ih => rw [List.length_cons, List.replicate_succ, List.flatten_cons, ih]; rfl
theorem srcW_o {x : O} {env : Vx.Env} {Q : Src → Prop} {ds : List D} (h : seqOf x.toD = some ds) (q : ∀ ds', ds' = ds → Q ⟨ds', none⟩) : srcW (.o x) env Q := onSome_mk h (q ds rfl)
theorem holds (ns : List Int) (_ : ns.length ≤ 63) : F_law [.d (.list (ns.map PyData.int))] (fun r _ => r = .d (.bool true)) fun _ _ => False := by
  unfold F_law
  trivial
  refine feed_ok fun a c => ?_
  trivial
  refine And.intro (show inRange 4 from ⟨by decide, by decide⟩) ?_
  refine goFor_run (s := ⟨Vx.upTo 0 (4 : Int).toNat, none⟩) (fun i env => ∃ (cells : List Int) (p q n : Int) (y2 y3 y4 y5 y6 : Option O), env = [some (.d (.list (ns.map PyData.int))), some (feedO a c cells p q n), y2, y3, y4, y5, y6] ∧ 0 ≤ p ∧ 0 ≤ q ∧ 0 ≤ n ∧ n ≤ 60 * i)
    (fun _ _ _ => True.intro) (fun i x env K hx hI hK => ?_) ⟨ns.take 63, 0, 0, 0, none, none, none, none, none, rfl, Int.le_refl _, Int.le_refl _, Int.le_refl _, by omega⟩ fun env' hI => ?_
  · obtain ⟨cells, p, q, n, y2, y3, y4, y5, y6, rfl, hp, hq, hn, hn2⟩ := hI
    obtain ⟨hi, rfl⟩ := upTo_get hx
    have hi : i < 4 := hi
    trivial
    refine dues_ok hp hq hn (by omega) fun ds p1 q1 n1 g hp1 hq1 hn1 hn1' => ?_
    have hw := g.whole
    have hw0 := g.pos
    have hl := g.le
    trivial
    refine onSome_mk (intsOf_map ds) ?_
    trivial
    refine shares_ok g (Int.le_of_lt hw0) (Int.le_refl _) fun qs1 _ _ => ?_
    rw [left_all g, parts_all g, show bumps (qs1.take (0 : Int).toNat) ds = ds from rfl]
    trivial
    refine shares_ok g (Int.le_refl _) (Int.le_of_lt hw0) fun qs2 _ _ => ?_
    rw [left_none, parts_none, show bumps (qs2.take (0 : Int).toNat) (ds.map fun _ => 0) = ds.map fun _ => 0 from rfl]
    trivial
    intro aL
    trivial
    refine And.intro (show (1 : Int) ≤ ((ds.map PyData.int).length : Nat) by rw [List.length_map]; have := g.ne; omega) (And.intro (show (((ds.map PyData.int).length : Nat) : Int) ≤ 1000 by rw [List.length_map]; omega) ?_)
    refine And.intro (by decide) ?_
    rw [zeros_rep]
    trivial
    intro aM
    trivial
    have dsb : ∀ v ∈ ds, v.natAbs < 10 ^ 30 := fun v hv => by
      have h1 := g.nn v hv
      have h2 := g.up v hv
      have : v < 10 ^ 30 := by omega
      omega
    refine same2_ok (show_two (by omega) (by rw [List.length_map]; omega) dsb fun v hv => by
      obtain ⟨_, _, rfl⟩ := List.mem_map.mp hv
      decide) ?_
    trivial
    refine draw_ok hp1 hq1 (by omega) (by omega) (by omega) (lg (by omega)) fun b p2 q2 hb0 hb1 hp2 hq2 => ?_
    trivial
    intro aN
    have hd3 : ds.sum.fdiv 3 = ds.sum / 3 := Int.fdiv_eq_ediv_of_nonneg _ (by decide)
    refine srcW_o (ds := [.int b, .int (if b + 1 < ds.sum then b + 1 else ds.sum), .int (ds.sum.fdiv 3), .int (if ds.sum - 1 > 0 then ds.sum - 1 else 0)]) rfl fun ms hms => ?_
    refine goFor_run (s := ⟨ms, none⟩) (fun j env => ∃ y6, env = [some (.d (.list (ns.map PyData.int))), some (feedO a c cells p2 q2 (n1 + 1)), some (.d (.int (0 + (i : Int)))), some (.d (.tuple (ds.map .int))), some (.d (.int ds.sum)), some (.d (.int b)), y6])
      (fun _ _ _ => True.intro) (fun j x env K2 hx2 hI2 hK2 => ?_) ⟨_, rfl⟩ fun env' hI2 => ?_
    · obtain ⟨y6', rfl⟩ := hI2
      obtain ⟨m, rfl, hm0, hm1⟩ : ∃ m, x = .int m ∧ 0 ≤ m ∧ m ≤ ds.sum := by
        have hm := List.mem_of_getElem? hx2
        rw [show (Src.mk ms none).xs = ms from rfl, hms] at hm
        simp only [List.mem_cons, List.not_mem_nil, or_false] at hm
        rw [hd3] at hm
        rcases hm with h | h | h | h
        · exact ⟨_, h, hb0, by omega⟩
        · refine ⟨_, h, ?_, ?_⟩ <;> split <;> omega
        · exact ⟨_, h, by omega, by omega⟩
        · refine ⟨_, h, ?_, ?_⟩ <;> split <;> omega
      trivial
      refine shares_ok g hm0 hm1 fun qs hqp hqs => ?_
      trivial
      refine is_right_ok g hm0 hm1 (fits_of g hm0 hm1 (given_of g ⟨hqp, hqs⟩)) ?_
      trivial
      exact hK2 _ ⟨_, rfl⟩
    · obtain ⟨y6', rfl⟩ := hI2
      exact hK _ ⟨cells, p2, q2, n1 + 1, _, _, _, _, _, rfl, hp2, hq2, by omega, by omega⟩
  · obtain ⟨cells, p, q, n, y2, y3, y4, y5, y6, rfl, _⟩ := hI
    exact rfl

end VL
open PySem PySem.W PyProof.Rows
set_option maxHeartbeats 0 in
theorem PySem.Challenge.cw_almsrow_k59_whole_shares_holds : PySem.Challenge.rw_almsrow_k59_whole_shares.Holds := by
  w_on; o_law; k_head; (case hw => w_witness2)
  k_fill
  refine Vx.walk_V (l := PySem.Challenge.rw_almsrow_k59_whole_shares) (n := 63) (k := 3) (x := "_law_script") (F := VL.F_law) rfl (by decide) rfl ⟨rfl, by decide, by decide⟩ (fun w h Y => PySem.W.kIn_of Y) ?F VL.holds
  case F =>
    intro w mg fa h KX G hmg
    refine' VL.all_mk KX G hmg ?a0 ?l0 ?c0 ?k0 ?a1 ?l1 ?c1 ?k1 ?a2 ?l2 ?c2 ?k2 ?a3 ?l3 ?c3 ?k3 ?a4 ?l4 ?c4 ?k4 ?a5 ?l5 ?c5 ?k5 ?a6 ?l6 ?c6 ?k6 ?a7 ?l7 ?c7 ?k7 ?z_abs ?z_isinstance ?z_len ?z_max ?z_min ?z_range ?z_repr ?z_sorted ?z_sum ?z_tuple
    (case a0 => k_is); (case l0 => k_is); (case c0 => k_is); (case k0 => k_is); (case a1 => k_is); (case l1 => k_is); (case c1 => k_is); (case k1 => k_is); (case a2 => k_is); (case l2 => k_is); (case c2 => k_is); (case k2 => k_is); (case a3 => k_is); (case l3 => k_is); (case c3 => k_is); (case k3 => k_is); (case a4 => k_is); (case l4 => k_is); (case c4 => k_is); (case k4 => k_is); (case a5 => k_is); (case l5 => k_is); (case c5 => k_is); (case k5 => k_is); (case a6 => k_is); (case l6 => k_is); (case c6 => k_is); (case k6 => k_is); (case a7 => k_is); (case l7 => k_is); (case c7 => k_is); (case k7 => k_is); (case z_abs => k_is); (case z_isinstance => k_is); (case z_len => k_is); (case z_max => k_is); (case z_min => k_is); (case z_range => k_is); (case z_repr => k_is); (case z_sorted => k_is); (case z_sum => k_is); (case z_tuple => k_is)

