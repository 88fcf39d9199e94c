import PyProof.Rows.All
import Wide.All
import OpenK.AllK
import Wide.FinOn
import HandS.ForMost
import HandS.Exc
import HandS.ExcInit
import HandS.ExcCtx
import HandS.ExcIs
import HandS.ExcField
import KE.KExcIs
import HandS.TupMul
import HandS.Wide
import HandS.TupAny
import PyProof.StrOps2
import HandS.Deep
import HandS.IsInst
import HandS.SortRule
import KE.KTupSum
import HandS.TupLe
import HandS.Style
import HandS.Dict
import HandS.Iter
import KE.GoesEnum
import HandS.NoneIn
import HandS.ExcOwn
import HandS.Small
import HandS.Ends
import HandS.Replace
import HandS.RaiseMore
import HandS.Zip
import KE.KIntText
import KE.KStrOpen
import HandS.Strs
import HandS.ExcValue
import HandS.Hot
import HandS.TryOnly
import HandS.HotCalls
import KE.KSortTupG
import KE.DataFind
import HandS.SetFor
import HandS.Conv
import KE.DataMinMax
import HandS.SortKw
import PyProof.AutoSeq1
import PySem.Challenge.RW_almsrow_k06_contraries
set_option Elab.async false
set_option linter.all false
set_option maxRecDepth 100000
set_option autoImplicit false
/-! Vx: a layer of values over HandS. D: data (shared, never changed again); O: what a slot owns; R: how slots, held things and the abstract heap go together. -/
namespace Vx
open PySem PySem.Spec PyProof.Rows L2

abbrev D := PyData
abbrev Fz := Addr → Prop

/-! ### what is kept -/
/-- what is never written -/
def fixedO : HO → Bool
  | .tup _ => true
  | .frz _ _ => true
  | .xd _ => true
  | .own _ => true
  | .met _ _ => true
  | .rng _ _ => true
  | .tbl _ => true
  | _ => false
structure Kp (S S' : Fz) (H H' : Hp) : Prop where
  s : ∀ a, S a → S' a
  h : ∀ a, S a → H' a = H a
  i : ∀ a o, H a = some o → fixedO o = true → H' a = some o
theorem Kp.refl {S : Fz} {H : Hp} : Kp S S H H := ⟨fun _ h => h, fun _ _ => rfl, fun _ _ h _ => h⟩
theorem Kp.trans {S S1 S2 : Fz} {H H1 H2 : Hp} (a : Kp S S1 H H1) (b : Kp S1 S2 H1 H2) : Kp S S2 H H2 :=
  ⟨fun x h => b.s x (a.s x h), fun x h => (b.h x (a.s x h)).trans (a.h x h), fun x o h f => b.i x o (a.i x o h f) f⟩
theorem Kp.t {S S' : Fz} {H H' : Hp} (k : Kp S S' H H') (a : Addr) (xs : List V) (h : H a = some (.tup xs)) : H' a = some (.tup xs) := k.i a _ h rfl
theorem Kp.z {S S' : Fz} {H H' : Hp} (k : Kp S S' H H') (a : Addr) (o : Obj) (u : HO) (h : H a = some (.frz o u)) : H' a = some (.frz o u) := k.i a _ h rfl
theorem Kp.more {S S' : Fz} {H : Hp} (h : ∀ a, S a → S' a) : Kp S S' H H := ⟨h, fun _ _ => rfl, fun _ _ h _ => h⟩
/-- a new object -/
theorem Kp.new {S : Fz} {H : Hp} {p : Addr} {o : HO} (hp : H p = none) (hs : ∀ a, S a → H a ≠ none) : Kp S S H (upd H p o) := by
  refine ⟨fun _ h => h, fun a h => ?_, fun a ob h _ => ?_⟩
  · exact upd_ne fun e => hs a h (by rw [e]; exact hp)
  · rw [upd_ne (ne_of_none h hp)]; exact h
/-- an owned thing is written -/
theorem Kp.putO {S : Fz} {H : Hp} {p : Addr} {u o : HO} (hp : H p = some u) (hu : fixedO u = false) (hs : ¬ S p) : Kp S S H (upd H p o) := by
  refine ⟨fun _ h => h, fun a h => ?_, fun a ob h f => ?_⟩
  · exact upd_ne fun e => hs (by rw [← e]; exact h)
  · rw [upd_ne (ne_of h hp (by intro z; rw [z] at f; rw [f] at hu; cases hu))]; exact h
/-- an owned list is written -/
theorem Kp.put {S : Fz} {H : Hp} {p : Addr} {xs : List V} {o : HO} (hp : H p = some (.lst xs)) (hs : ¬ S p) : Kp S S H (upd H p o) := by
  refine ⟨fun _ h => h, fun a h => ?_, fun a ob h f => ?_⟩
  · exact upd_ne fun e => hs (by rw [← e]; exact h)
  · rw [upd_ne (ne_of h hp (by intro z; rw [z] at f; cases f))]; exact h

/-! ### data -/
def FzL (K : PySem.W.Frag) (S : Fz) (H : Hp) (a : Addr) (xs : List V) : Prop :=
  (S a ∧ H a = some (.lst xs)) ∨ (∃ o, H a = some (.frz o (.lst xs))) ∨
    ∃ (o : Obj) (its : Array Value) (n : Nat), K.lookup a = some o ∧ o.cls = .type "list" ∧ o.dict = none ∧ o.data = .seq its n ∧ its.size ≤ sizeLine ∧ Vals xs its.toList
theorem FzL.sq {K : PySem.W.Frag} {S : Fz} {H : Hp} {a : Addr} {xs : List V} (h : FzL K S H a xs) : SqL K H a xs := by
  rcases h with h | h | h
  · exact .inl (.inl h.2)
  · exact .inl (.inr h)
  · exact .inr h
theorem FzL.kp {K : PySem.W.Frag} {S S' : Fz} {H H' : Hp} {a : Addr} {xs : List V} (k : Kp S S' H H') (h : FzL K S H a xs) : FzL K S' H' a xs := by
  rcases h with h | h | h
  · exact .inl ⟨k.s _ h.1, (k.h _ h.1).trans h.2⟩
  · obtain ⟨o, h⟩ := h
    exact .inr (.inl ⟨o, k.z _ _ _ h⟩)
  · exact .inr (.inr h)
theorem sqT_kp {K : PySem.W.Frag} {S S' : Fz} {H H' : Hp} {a : Addr} {xs : List V} (k : Kp S S' H H') (h : SqT K H a xs) : SqT K H' a xs := by
  rcases h with (h | ⟨o, h⟩) | h
  · exact .inl (.inl (k.t _ _ h))
  · exact .inl (.inr ⟨o, k.z _ _ _ h⟩)
  · exact .inr h

/-- a dict's key as data -/
def keyD : Key → D
  | .inl i => .int i
  | .inr x => .str x
/-- a caught exception, as data: its class, its fields -/
def exD (cls : Str) (ns : List Str) (ds : List D) : D := .dict [(.none, .str cls), (.none, .tuple (ns.map PyData.str)), (.none, .tuple ds)]
/-- at a: an exception of the class at C with its dict at dx -/
def exHO (a C dx : Addr) : HO := .ext fun h => ∃ (oe : Obj) (vs : Array Value), h.get? a = some oe ∧ L2N.Zn (.ref C) (some dx) oe ∧ oe.data = .fields vs
/-- what is known of an own exception class -/
structure ExK (K : PySem.W.Frag) (C : Addr) (ns : List Str) : Prop where
  o : OexC K C
  c : ExcC K C
  f : ∀ n ∈ ns, PySem.W.findIn K (.ref C) n = some none
mutual
/-- v stands for the data d -/
inductive Rp (K : PySem.W.Frag) (S : Fz) (H : Hp) : V → D → Prop
  | non : Rp K S H .non .none
  | bl (b : Bool) : Rp K S H (.bl b) (.bool b)
  | int (i : Int) : Rp K S H (.int i) (.int i)
  | str (x : Str) : Rp K S H (.str x) (.str x)
  | lst {a : Addr} {xs : List V} {ds : List D} : FzL K S H a xs → RpA K S H xs ds → Rp K S H (.ref a) (.list ds)
  | tup {a : Addr} {xs : List V} {ds : List D} : SqT K H a xs → RpA K S H xs ds → Rp K S H (.ref a) (.tuple ds)
  | dct {a : Addr} {ks : List Key} {xs : List V} {ds : List D} : S a → H a = some (.dK (ks.zip xs)) → ks.length = xs.length → RpA K S H xs ds → Rp K S H (.ref a) (.dict ((ks.map keyD).zip ds))
  | ex {a C dx : Addr} {cls : Str} {ns : List Str} {xs : List V} {ds : List D} : S a → S dx → H a = some (exHO a C dx) → H dx = some (.xd (ns.zip xs)) → ns.length = xs.length → PySem.W.nsIn K mainGlobals cls = some (some (.ref C)) → ExK K C ns → RpA K S H xs ds → Rp K S H (.ref a) (exD cls ns ds)
inductive RpA (K : PySem.W.Frag) (S : Fz) (H : Hp) : List V → List D → Prop
  | nil : RpA K S H [] []
  | cons {v : V} {d : D} {vs : List V} {ds : List D} : Rp K S H v d → RpA K S H vs ds → RpA K S H (v :: vs) (d :: ds)
end
section
variable {K : PySem.W.Frag} {S S' : Fz} {H H' : Hp}
mutual
theorem Rp.kp (k : Kp S S' H H') : ∀ {v : V} {d : D}, Rp K S H v d → Rp K S' H' v d
  | _, _, .non => .non
  | _, _, .bl b => .bl b
  | _, _, .int i => .int i
  | _, _, .str x => .str x
  | _, _, .lst h r => .lst (h.kp k) (RpA.kp k r)
  | _, _, .tup h r => .tup (sqT_kp k h) (RpA.kp k r)
  | _, _, .dct h e hl r => .dct (k.s _ h) ((k.h _ h).trans e) hl (RpA.kp k r)
  | _, _, .ex h h2 e e2 hl hn hk r => .ex (k.s _ h) (k.s _ h2) ((k.h _ h).trans e) ((k.h _ h2).trans e2) hl hn hk (RpA.kp k r)
theorem RpA.kp (k : Kp S S' H H') : ∀ {vs : List V} {ds : List D}, RpA K S H vs ds → RpA K S' H' vs ds
  | _, _, .nil => .nil
  | _, _, .cons a b => .cons (Rp.kp k a) (RpA.kp k b)
end
mutual
theorem Rp.dp : ∀ {v : V} {d : D}, Rp K S H v d → d.hasDict = false → Dp K H v d
  | _, _, .non, _ => .non
  | _, _, .bl b, _ => .bl b
  | _, _, .int i, _ => .int i
  | _, _, .str x, _ => .str x
  | _, _, .lst h r, q => .lst h.sq (RpA.dp r (by simpa only [PyData.hasDict] using q))
  | _, _, .tup h r, q => .tup h (RpA.dp r (by simpa only [PyData.hasDict] using q))
  | _, _, .dct _ _ _ _, q => by simp only [PyData.hasDict] at q; cases q
  | _, _, .ex _ _ _ _ _ _ _ _, q => by simp only [exD, PyData.hasDict] at q; cases q
theorem RpA.dp : ∀ {vs : List V} {ds : List D}, RpA K S H vs ds → PyData.hasDictAll ds = false → DpAll K H vs ds
  | _, _, .nil, _ => .nil
  | _, _, .cons a b, q => by
    simp only [PyData.hasDictAll, Bool.or_eq_false_iff] at q
    exact .cons (Rp.dp a q.1) (RpA.dp b q.2)
end
theorem RpA.length : ∀ {vs : List V} {ds : List D}, RpA K S H vs ds → vs.length = ds.length
  | _, _, .nil => rfl
  | _, _, .cons _ b => congrArg (· + 1) (RpA.length b)
theorem RpA.get : ∀ {vs : List V} {ds : List D} {i : Nat} {v : V}, RpA K S H vs ds → vs[i]? = some v → ∃ d, ds[i]? = some d ∧ Rp K S H v d
  | _, _, _, _, .nil, e => by simp at e
  | _, _, 0, _, .cons a _, e => by simp at e; subst e; exact ⟨_, rfl, a⟩
  | _, _, i + 1, _, .cons _ b, e => by
    obtain ⟨d, h1, h2⟩ := RpA.get (i := i) b (by simpa using e)
    exact ⟨d, by simpa using h1, h2⟩
theorem RpA.getD : ∀ {vs : List V} {ds : List D} {i : Nat} {d : D}, RpA K S H vs ds → ds[i]? = some d → ∃ v, vs[i]? = some v ∧ Rp K S H v d
  | _, _, _, _, .nil, e => by simp at e
  | _, _, 0, _, .cons a _, e => by simp at e; subst e; exact ⟨_, rfl, a⟩
  | _, _, i + 1, _, .cons _ b, e => by
    obtain ⟨d, h1, h2⟩ := RpA.getD (i := i) b (by simpa using e)
    exact ⟨d, by simpa using h1, h2⟩
theorem RpA.append : ∀ {vs ws : List V} {ds es : List D}, RpA K S H vs ds → RpA K S H ws es → RpA K S H (vs ++ ws) (ds ++ es)
  | _, _, _, _, .nil, s => s
  | _, _, _, _, .cons r t, s => .cons r (RpA.append t s)
theorem RpA.take : ∀ {vs : List V} {ds : List D} (n : Nat), RpA K S H vs ds → RpA K S H (vs.take n) (ds.take n)
  | _, _, 0, _ => .nil
  | _, _, _ + 1, .nil => .nil
  | _, _, n + 1, .cons r t => .cons r (RpA.take n t)
theorem RpA.drop : ∀ {vs : List V} {ds : List D} (n : Nat), RpA K S H vs ds → RpA K S H (vs.drop n) (ds.drop n)
  | _, _, 0, r => r
  | _, _, _ + 1, .nil => .nil
  | _, _, n + 1, .cons _ t => RpA.drop n t
theorem RpA.reverse : ∀ {vs : List V} {ds : List D}, RpA K S H vs ds → RpA K S H vs.reverse ds.reverse
  | _, _, .nil => .nil
  | _, _, .cons r t => by
    rw [List.reverse_cons, List.reverse_cons]
    exact RpA.append (RpA.reverse t) (.cons r .nil)
theorem RpA.ints : ∀ {vs : List V} {ns : List Int}, RpA K S H vs (ns.map PyData.int) → vs = ns.map V.int
  | [], [], _ => rfl
  | _ :: _, [], r => nomatch r
  | [], _ :: _, r => nomatch r
  | _ :: _, n :: ns, r => by
    cases r with
    | cons a b => cases a; rw [RpA.ints b]; rfl
theorem RpA.of_ints : ∀ (ns : List Int), RpA K S H (ns.map V.int) (ns.map PyData.int)
  | [] => .nil
  | n :: ns => .cons (.int n) (RpA.of_ints ns)
theorem RpA.bools : ∀ {vs : List V} {ns : List Bool}, RpA K S H vs (ns.map PyData.bool) → vs = ns.map V.bl
  | [], [], _ => rfl
  | _ :: _, [], r => nomatch r
  | [], _ :: _, r => nomatch r
  | _ :: _, n :: ns, r => by
    cases r with
    | cons a b => cases a; rw [RpA.bools b]; rfl
theorem RpA.strs : ∀ {vs : List V} {ns : List Str}, RpA K S H vs (ns.map PyData.str) → vs = ns.map V.str
  | [], [], _ => rfl
  | _ :: _, [], r => nomatch r
  | [], _ :: _, r => nomatch r
  | _ :: _, n :: ns, r => by
    cases r with
    | cons a b => cases a; rw [RpA.strs b]; rfl
theorem RpA.of_strs : ∀ (ns : List Str), RpA K S H (ns.map V.str) (ns.map PyData.str)
  | [] => .nil
  | n :: ns => .cons (.str n) (RpA.of_strs ns)
end

/-! ### what is owned -/
/-- a list; a dict with these keys -/
inductive Kd where
  | lst
  | dct (ks : List Key)
def hoOf : Kd → List V → HO
  | .lst, vs => .lst vs
  | .dct ks, vs => .dK (ks.zip vs)
def Kd.fits : Kd → Nat → Prop
  | .lst, _ => True
  | .dct ks, n => ks.length = n ∧ ks.Nodup
theorem hoOf_loose (k : Kd) (vs : List V) : fixedO (hoOf k vs) = false := by cases k <;> rfl
inductive O where
  | d (x : D)
  | tup (xs : List O)
  | obj (a : Addr) (k : Kd) (xs : List O)
abbrev O.lst (a : Addr) (xs : List O) : O := .obj a .lst xs
abbrev O.dct (a : Addr) (ks : List Key) (xs : List O) : O := .obj a (.dct ks) xs
mutual
def O.cnt (p : Addr) : O → Nat
  | .d _ => 0
  | .tup xs => O.cntL p xs
  | .obj a _ xs => (if a = p then 1 else 0) + O.cntL p xs
def O.cntL (p : Addr) : List O → Nat
  | [] => 0
  | x :: xs => O.cnt p x + O.cntL p xs
end
mutual
def O.toD : O → D
  | .d x => x
  | .tup xs => .tuple (O.toDs xs)
  | .obj _ .lst xs => .list (O.toDs xs)
  | .obj _ (.dct ks) xs => .dict ((ks.map keyD).zip (O.toDs xs))
def O.toDs : List O → List D
  | [] => []
  | x :: xs => x.toD :: O.toDs xs
end
theorem O.toDs_map : ∀ ds : List D, O.toDs (ds.map O.d) = ds
  | [] => rfl
  | e :: es => by
    show (O.d e).toD :: O.toDs (es.map O.d) = _
    rw [O.toDs_map es]; rfl
theorem O.toDs_length : ∀ xs : List O, (O.toDs xs).length = xs.length
  | [] => rfl
  | _ :: xs => congrArg (· + 1) (O.toDs_length xs)
theorem O.cntL_map (p : Addr) : ∀ ds : List D, O.cntL p (ds.map O.d) = 0
  | [] => rfl
  | e :: es => by
    show O.cnt p (O.d e) + O.cntL p (es.map O.d) = 0
    rw [O.cntL_map p es]; rfl
theorem O.cntL_append (p : Addr) : ∀ xs ys : List O, O.cntL p (xs ++ ys) = O.cntL p xs + O.cntL p ys
  | [], ys => by show _ = 0 + _; rw [Nat.zero_add]; rfl
  | x :: xs, ys => by
    show O.cnt p x + O.cntL p (xs ++ ys) = O.cnt p x + O.cntL p xs + _
    rw [O.cntL_append p xs ys]; omega
theorem O.cntL_get {p : Addr} : ∀ {xs : List O} {i : Nat} {x : O}, xs[i]? = some x → O.cnt p x ≤ O.cntL p xs
  | [], _, _, e => by simp at e
  | y :: ys, 0, x, e => by
    simp at e; subst e
    exact Nat.le_add_right _ _
  | y :: ys, i + 1, x, e => by
    have := O.cntL_get (p := p) (xs := ys) (i := i) (x := x) (by simpa using e)
    show _ ≤ O.cnt p y + O.cntL p ys
    omega
theorem O.cntL_set {p : Addr} : ∀ {xs : List O} {i : Nat} {x y : O}, xs[i]? = some x → O.cntL p (xs.set i y) + O.cnt p x = O.cntL p xs + O.cnt p y
  | [], _, _, _, e => by simp at e
  | z :: zs, 0, x, y, e => by
    simp at e; subst e
    show O.cnt p y + O.cntL p zs + _ = O.cnt p z + O.cntL p zs + _
    omega
  | z :: zs, i + 1, x, y, e => by
    have := O.cntL_set (p := p) (xs := zs) (i := i) (x := x) (y := y) (by simpa using e)
    show O.cnt p z + O.cntL p (zs.set i y) + _ = O.cnt p z + O.cntL p zs + _
    omega

mutual
inductive OwnR (K : PySem.W.Frag) (S : Fz) (H : Hp) : V → O → Prop
  | d {v : V} {x : D} : Rp K S H v x → OwnR K S H v (.d x)
  | tup {a : Addr} {vs : List V} {os : List O} : SqT K H a vs → OwnA K S H vs os → OwnR K S H (.ref a) (.tup os)
  | obj {a : Addr} {k : Kd} {vs : List V} {os : List O} : H a = some (hoOf k vs) → k.fits vs.length → OwnA K S H vs os → OwnR K S H (.ref a) (.obj a k os)
inductive OwnA (K : PySem.W.Frag) (S : Fz) (H : Hp) : List V → List O → Prop
  | nil : OwnA K S H [] []
  | cons {v : V} {o : O} {vs : List V} {os : List O} : OwnR K S H v o → OwnA K S H vs os → OwnA K S H (v :: vs) (o :: os)
end
section
variable {K : PySem.W.Frag} {S S' : Fz} {H H' : Hp}
mutual
theorem OwnR.kp (k : Kp S S' H H') : ∀ {v : V} {o : O}, OwnR K S H v o → (∀ a, 0 < o.cnt a → H' a = H a) → OwnR K S' H' v o
  | _, _, .d r, _ => .d (r.kp k)
  | _, _, .tup h r, q => .tup (sqT_kp k h) (OwnA.kp k r q)
  | _, _, .obj (a := a) (os := os) h hf r, q => .obj ((q a (by show 0 < (if a = a then 1 else 0) + O.cntL a os; rw [if_pos rfl]; omega)).trans h) hf
      (OwnA.kp k r fun b hb => q b (by show 0 < (if a = b then 1 else 0) + O.cntL b os; omega))
theorem OwnA.kp (k : Kp S S' H H') : ∀ {vs : List V} {os : List O}, OwnA K S H vs os → (∀ a, 0 < O.cntL a os → H' a = H a) → OwnA K S' H' vs os
  | _, _, .nil, _ => .nil
  | _, _, .cons (o := o) (os := os) a b, q => .cons (OwnR.kp k a fun x hx => q x (by show 0 < O.cnt x o + O.cntL x os; omega)) (OwnA.kp k b fun x hx => q x (by show 0 < O.cnt x o + O.cntL x os; omega))
end
mutual
theorem OwnR.live : ∀ {v : V} {o : O}, OwnR K S H v o → ∀ a, 0 < o.cnt a → ∃ k xs, H a = some (hoOf k xs)
  | _, _, .d _, a, h => absurd h (by show ¬ 0 < 0; omega)
  | _, _, .tup _ r, a, h => OwnA.live r a h
  | _, _, .obj (a := b) (os := os) e _ r, a, h => by
    by_cases hb : b = a
    · subst hb; exact ⟨_, _, e⟩
    · have h' : 0 < (if b = a then 1 else 0) + O.cntL a os := h
      rw [if_neg hb] at h'
      exact OwnA.live r a (by omega)
theorem OwnA.live : ∀ {vs : List V} {os : List O}, OwnA K S H vs os → ∀ a, 0 < O.cntL a os → ∃ k xs, H a = some (hoOf k xs)
  | _, _, .nil, a, h => absurd h (by show ¬ 0 < 0; omega)
  | _, _, .cons (o := o) (os := os) x y, a, h => by
    have h' : 0 < O.cnt a o + O.cntL a os := h
    by_cases hc : 0 < O.cnt a o
    · exact OwnR.live x a hc
    · exact OwnA.live y a (by omega)
end
mutual
/-- what is owned is given up: data from now on -/
theorem OwnR.froze (k : ∀ a, S a → S' a) : ∀ {v : V} {o : O}, OwnR K S H v o → (∀ a, 0 < o.cnt a → S' a) → Rp K S' H v o.toD
  | _, _, .d r, _ => r.kp (Kp.more k)
  | _, _, .tup h r, q => .tup h (OwnA.froze k r q)
  | _, _, .obj (a := a) (k := .lst) (os := os) h _ r, q => .lst (.inl ⟨q a (by show 0 < (if a = a then 1 else 0) + O.cntL a os; rw [if_pos rfl]; omega), h⟩)
      (OwnA.froze k r fun b hb => q b (by show 0 < (if a = b then 1 else 0) + O.cntL b os; omega))
  | _, _, .obj (a := a) (k := .dct ks) (os := os) h hf r, q => .dct (q a (by show 0 < (if a = a then 1 else 0) + O.cntL a os; rw [if_pos rfl]; omega)) h hf.1
      (OwnA.froze k r fun b hb => q b (by show 0 < (if a = b then 1 else 0) + O.cntL b os; omega))
theorem OwnA.froze (k : ∀ a, S a → S' a) : ∀ {vs : List V} {os : List O}, OwnA K S H vs os → (∀ a, 0 < O.cntL a os → S' a) → RpA K S' H vs (O.toDs os)
  | _, _, .nil, _ => .nil
  | _, _, .cons (o := o) (os := os) a b, q => .cons (OwnR.froze k a fun x hx => q x (by show 0 < O.cnt x o + O.cntL x os; omega)) (OwnA.froze k b fun x hx => q x (by show 0 < O.cnt x o + O.cntL x os; omega))
end
theorem OwnA.length : ∀ {vs : List V} {os : List O}, OwnA K S H vs os → vs.length = os.length
  | _, _, .nil => rfl
  | _, _, .cons _ b => congrArg (· + 1) (OwnA.length b)
theorem OwnA.get : ∀ {vs : List V} {os : List O} {i : Nat} {o : O}, OwnA K S H vs os → os[i]? = some o → ∃ v, vs[i]? = some v ∧ OwnR K S H v o
  | _, _, _, _, .nil, e => by simp at e
  | _, _, 0, _, .cons a _, e => by simp at e; subst e; exact ⟨_, rfl, a⟩
  | _, _, i + 1, _, .cons _ b, e => by
    obtain ⟨d, h1, h2⟩ := OwnA.get (i := i) b (by simpa using e)
    exact ⟨d, by simpa using h1, h2⟩
theorem OwnA.set : ∀ {vs : List V} {os : List O} {v : V} {o : O} (i : Nat), OwnA K S H vs os → OwnR K S H v o → OwnA K S H (vs.set i v) (os.set i o)
  | _, _, _, _, _, .nil, _ => .nil
  | _, _, _, _, 0, .cons _ t, r => .cons r t
  | _, _, _, _, i + 1, .cons q t, r => .cons q (OwnA.set i t r)
theorem OwnA.append : ∀ {vs ws : List V} {os ps : List O}, OwnA K S H vs os → OwnA K S H ws ps → OwnA K S H (vs ++ ws) (os ++ ps)
  | _, _, _, _, .nil, s => s
  | _, _, _, _, .cons r t, s => .cons r (OwnA.append t s)
theorem OwnA.of_data : ∀ {vs : List V} {ds : List D}, RpA K S H vs ds → OwnA K S H vs (ds.map O.d)
  | _, _, .nil => .nil
  | _, _, .cons a b => .cons (.d a) (OwnA.of_data b)
theorem OwnA.data : ∀ {vs : List V} {ds : List D}, OwnA K S H vs (ds.map O.d) → RpA K S H vs ds
  | [], [], _ => .nil
  | _ :: _, [], r => nomatch r
  | [], _ :: _, r => nomatch r
  | _ :: _, _ :: _, r => by
    cases r with
    | cons a b =>
      cases a with
      | d a => exact .cons a (OwnA.data b)
end
end Vx
namespace Vx
open PySem PySem.Spec PyProof.Rows L2

/-! ### paths within what is owned -/
inductive Stp where
  | ix (n : Nat)
def O.at : List Stp → O → Option O
  | [], o => some o
  | .ix n :: p, .obj _ _ xs => match xs[n]? with | some x => O.at p x | none => none
  | _ :: _, _ => none
def O.put : List Stp → O → O → O
  | [], _, y => y
  | .ix n :: p, .obj a k xs, y => match xs[n]? with | some x => .obj a k (xs.set n (O.put p x y)) | none => .obj a k xs
  | _ :: _, o, _ => o
/-- the address of an owned object -/
def O.root : O → Option Addr
  | .obj a _ _ => some a
  | _ => none
theorem set_same {α : Type} : ∀ {xs : List α} {n : Nat} {x : α}, xs[n]? = some x → xs.set n x = xs
  | [], _, _, h => by simp at h
  | y :: ys, 0, x, h => by simp at h; subst h; rfl
  | y :: ys, n + 1, x, h => by
    show y :: ys.set n x = y :: ys
    rw [set_same (by simpa using h)]
section
variable {K : PySem.W.Frag} {S S' : Fz} {H H' : Hp}
theorem OwnR.ref {v : V} {o : O} {a : Addr} (r : OwnR K S H v o) (h : o.root = some a) : v = .ref a := by
  cases r with
  | d _ => cases h
  | tup _ _ => cases h
  | obj _ _ _ => cases h; rfl
theorem OwnR.at : ∀ {p : List Stp} {v : V} {o o' : O}, OwnR K S H v o → o.at p = some o' → ∃ v', OwnR K S H v' o' ∧ ∀ b, o'.cnt b ≤ o.cnt b
  | [], v, o, o', r, h => by cases h; exact ⟨v, r, fun _ => Nat.le_refl _⟩
  | .ix n :: p, _, _, o', .d _, h => nomatch h
  | .ix n :: p, _, _, o', .tup _ _, h => nomatch h
  | .ix n :: p, _, _, o', .obj (a := a) (os := os) e _ r, h => by
    unfold O.at at h
    cases hx : os[n]? with
    | none => rw [hx] at h; cases h
    | some x =>
      rw [hx] at h
      obtain ⟨v1, _, r1⟩ := r.get hx
      obtain ⟨v', r', c⟩ := OwnR.at (p := p) r1 h
      refine ⟨v', r', fun b => ?_⟩
      have h1 := c b
      have h2 : O.cnt b x ≤ O.cntL b os := O.cntL_get hx
      show _ ≤ (if a = b then 1 else 0) + O.cntL b os
      omega
theorem O.put_cnt : ∀ {p : List Stp} {o o' y : O}, o.at p = some o' → ∀ b, (o.put p y).cnt b + o'.cnt b = o.cnt b + y.cnt b
  | [], o, o', y, h, b => by cases h; show y.cnt b + o.cnt b = _; omega
  | .ix n :: p, .d _, o', y, h, b => nomatch h
  | .ix n :: p, .tup _, o', y, h, b => nomatch h
  | .ix n :: p, .obj a k os, o', y, h, b => by
    unfold O.at at h
    cases hx : os[n]? with
    | none => rw [hx] at h; cases h
    | some x =>
      rw [hx] at h
      have h1 := O.put_cnt (p := p) (y := y) h b
      unfold O.put
      rw [hx]
      have h2 := O.cntL_set (p := b) (y := O.put p x y) hx
      show (if a = b then 1 else 0) + O.cntL b (os.set n (O.put p x y)) + _ = (if a = b then 1 else 0) + O.cntL b os + _
      omega
/-- the thing at a path is put otherwise, its own objects alone may have changed -/
theorem OwnR.putAt (k : Kp S S' H H') : ∀ {p : List Stp} {v v' : V} {o o' y : O}, OwnR K S H v o → o.at p = some o' → (∀ b, o.cnt b ≤ 1) →
    (∀ w, OwnR K S H w o' → OwnR K S' H' w y) → (∀ b, 0 < o.cnt b → o'.cnt b = 0 → H' b = H b) → OwnR K S' H' v (o.put p y)
  | [], v, v', o, o', y, r, h, one, hy, q => by cases h; exact hy v r
  | .ix n :: p, _, _, _, o', _, .d _, h, _, _, _ => nomatch h
  | .ix n :: p, _, _, _, o', _, .tup _ _, h, _, _, _ => nomatch h
  | .ix n :: p, _, v', _, o', y, .obj (a := a) (k := kd) (vs := vs) (os := os) e hf r, h, one, hy, q => by
    unfold O.at at h
    cases hx : os[n]? with
    | none => rw [hx] at h; cases h
    | some x =>
      rw [hx] at h
      obtain ⟨v1, hv1, r1⟩ := r.get hx
      have hle : ∀ b, O.cnt b x ≤ O.cntL b os := fun b => O.cntL_get hx
      have hl1 : ∀ b, (if a = b then 1 else 0) + O.cntL b os ≤ 1 := one
      obtain ⟨_, _, hc⟩ := OwnR.at r1 h
      have ih : OwnR K S' H' v1 (O.put p x y) := OwnR.putAt k (v' := v1) r1 h (fun b => by have := hl1 b; have := hle b; omega) hy (fun b hb h0 => q b (by have := hle b; show 0 < (if a = b then 1 else 0) + O.cntL b os; omega) h0)
      unfold O.put
      rw [hx]
      have ea : H' a = H a := by
        have h1 := hl1 a
        rw [if_pos rfl] at h1
        refine q a (by show 0 < (if a = a then 1 else 0) + O.cntL a os; rw [if_pos rfl]; omega) ?_
        have := hc a
        have := hle a
        omega
      refine .obj (vs := vs.set n v1) (ea.trans (e.trans ?_)) (by rw [List.length_set]; exact hf) ?_
      · rw [set_same hv1]
      · -- the other items
        have other : ∀ {vs : List V} {os : List O} (n : Nat) {x : O}, OwnA K S H vs os → os[n]? = some x → (∀ b, 0 < O.cntL b os → O.cnt b x = 0 → H' b = H b) → (∀ b, O.cntL b os ≤ 1) → OwnR K S' H' v1 (O.put p x y) → OwnA K S' H' (vs.set n v1) (os.set n (O.put p x y)) := by
          intro vs os n
          induction n generalizing vs os with
          | zero =>
            intro x r hx q1 hone ih
            cases r with
            | nil => simp at hx
            | cons ra rb =>
              simp at hx; subst hx
              refine .cons ih (rb.kp k fun b hb => ?_)
              have h1 := hone b
              unfold O.cntL at h1
              exact q1 b (by unfold O.cntL; omega) (by omega)
          | succ n ihn =>
            intro x r hx q1 hone ih
            cases r with
            | nil => simp at hx
            | cons ra rb =>
              rename_i o1 _ os1
              have hx' : os1[n]? = some x := by simpa using hx
              have hle : ∀ b, O.cnt b x ≤ O.cntL b os1 := fun b => O.cntL_get hx'
              refine .cons (ra.kp k fun b hb => ?_) (ihn rb hx' (fun b hb h0 => q1 b (by unfold O.cntL; omega) h0) (fun b => by have := hone b; unfold O.cntL at this; omega) ih)
              have h1 := hone b
              unfold O.cntL at h1
              exact q1 b (by unfold O.cntL; omega) (by have := hle b; omega)
        refine other n r hx (fun b hb h0 => q b (by show 0 < (if a = b then 1 else 0) + O.cntL b os; omega) ?_) (fun b => by have := hl1 b; omega) ih
        have := hc b
        omega
end

/-! ### what an expression gives: data or something new and owned; or a name's own object, seen -/
inductive W where
  | o (x : O)
  | al (a : Addr) (i : Nat) (p : List Stp)
abbrev Env := List (Option O)
def cntO (b : Addr) : Option O → Nat
  | none => 0
  | some o => o.cnt b
def cntE (b : Addr) : Env → Nat
  | [] => 0
  | x :: xs => cntO b x + cntE b xs
def cntW (b : Addr) : W → Nat
  | .o x => x.cnt b
  | .al .. => 0
def cntT (b : Addr) : List (V × W) → Nat
  | [] => 0
  | x :: xs => cntW b x.2 + cntT b xs
theorem cntT_append (b : Addr) : ∀ xs ys : List (V × W), cntT b (xs ++ ys) = cntT b xs + cntT b ys
  | [], ys => by show _ = 0 + _; rw [Nat.zero_add]; rfl
  | x :: xs, ys => by
    show cntW b x.2 + cntT b (xs ++ ys) = cntW b x.2 + cntT b xs + _
    rw [cntT_append b xs ys]; omega
theorem cntE_get {b : Addr} : ∀ {xs : Env} {i : Nat} {x : Option O}, xs[i]? = some x → cntO b x ≤ cntE b xs
  | [], _, _, e => by simp at e
  | y :: ys, 0, x, e => by
    simp at e; subst e
    exact Nat.le_add_right _ _
  | y :: ys, i + 1, x, e => by
    have := cntE_get (b := b) (xs := ys) (i := i) (x := x) (by simpa using e)
    show _ ≤ cntO b y + cntE b ys
    omega
theorem cntE_two {b : Addr} : ∀ {xs : Env} {i j : Nat} {x y : Option O}, i ≠ j → xs[i]? = some x → xs[j]? = some y → cntO b x + cntO b y ≤ cntE b xs
  | [], _, _, _, _, _, e, _ => by simp at e
  | z :: zs, 0, 0, _, _, h, _, _ => absurd rfl h
  | z :: zs, 0, j + 1, x, y, _, e1, e2 => by
    simp at e1; subst e1
    have := cntE_get (b := b) (xs := zs) (i := j) (x := y) (by simpa using e2)
    show _ ≤ cntO b z + cntE b zs
    omega
  | z :: zs, i + 1, 0, x, y, _, e1, e2 => by
    simp at e2; subst e2
    have := cntE_get (b := b) (xs := zs) (i := i) (x := x) (by simpa using e1)
    show _ ≤ cntO b z + cntE b zs
    omega
  | z :: zs, i + 1, j + 1, x, y, h, e1, e2 => by
    have := cntE_two (b := b) (xs := zs) (i := i) (j := j) (x := x) (y := y) (fun q => h (by rw [q])) (by simpa using e1) (by simpa using e2)
    show _ ≤ cntO b z + cntE b zs
    omega
theorem cntE_set {b : Addr} : ∀ {xs : Env} {i : Nat} {x y : Option O}, xs[i]? = some x → cntE b (xs.set i y) + cntO b x = cntE b xs + cntO b y
  | [], _, _, _, e => by simp at e
  | z :: zs, 0, x, y, e => by
    simp at e; subst e
    show cntO b y + cntE b zs + _ = cntO b z + cntE b zs + _
    omega
  | z :: zs, i + 1, x, y, e => by
    have := cntE_set (b := b) (xs := zs) (i := i) (x := x) (y := y) (by simpa using e)
    show cntO b z + cntE b (zs.set i y) + _ = cntO b z + cntE b zs + _
    omega
theorem cntT_mem {b : Addr} : ∀ {T : List (V × W)} {t : V × W}, t ∈ T → cntW b t.2 ≤ cntT b T
  | [], _, h => nomatch h
  | x :: xs, t, h => by
    rcases List.mem_cons.mp h with e | h
    · subst e; exact Nat.le_add_right _ _
    · have := cntT_mem (b := b) h
      show _ ≤ cntW b x.2 + cntT b xs
      omega
/-- the thing at slot i, path p -/
def envAt (env : Env) (i : Nat) (p : List Stp) : Option O := match env[i]? with
  | some (some o) => o.at p
  | _ => none
def envPut (env : Env) (i : Nat) (p : List Stp) (y : O) : Env := match env[i]? with
  | some (some o) => env.set i (some (o.put p y))
  | _ => env
theorem envAt_some {env : Env} {i : Nat} {p : List Stp} {o' : O} (h : envAt env i p = some o') : ∃ o, env[i]? = some (some o) ∧ o.at p = some o' := by
  unfold envAt at h
  split at h
  · rename_i o e; exact ⟨o, e, h⟩
  · cases h
theorem envPut_eq {env : Env} {i : Nat} {p : List Stp} {y o : O} (h : env[i]? = some (some o)) : envPut env i p y = env.set i (some (o.put p y)) := by
  unfold envPut; rw [h]
theorem envPut_cnt {env : Env} {i : Nat} {p : List Stp} {y o' : O} (h : envAt env i p = some o') (b : Addr) : cntE b (envPut env i p y) + o'.cnt b = cntE b env + y.cnt b := by
  obtain ⟨o, e, ha⟩ := envAt_some h
  rw [envPut_eq e]
  have h1 := cntE_set (b := b) (y := some (o.put p y)) e
  have h2 := O.put_cnt (y := y) ha b
  have h3 : cntO b (some (o.put p y)) = (o.put p y).cnt b := rfl
  have h4 : cntO b (some o) = o.cnt b := rfl
  omega
theorem envPut_length {env : Env} {i : Nat} {p : List Stp} {y : O} : (envPut env i p y).length = env.length := by
  unfold envPut
  split
  · exact List.length_set
  · rfl

def TmpR (K : PySem.W.Frag) (S : Fz) (H : Hp) (t : V × W) : Prop := match t.2 with
  | .o x => OwnR K S H t.1 x
  | .al a _ _ => t.1 = .ref a
/-- a def's entry -/
structure Bs where
  S : Fz
  H : Hp
  own : Addr → Prop
structure R (K : PySem.W.Frag) (B : Bs) (S : Fz) (H : Hp) (σ : L2.St) (env : Env) (T : List (V × W)) : Prop where
  len : env.length = σ.length
  slots : ∀ (i : Nat) (o : O), env[i]? = some (some o) → ∃ v, σ[i]? = some (some v) ∧ OwnR K S H v o
  tmps : ∀ t ∈ T, TmpR K S H t
  one : ∀ a, cntE a env + cntT a T ≤ 1
  apart : ∀ a, S a → cntE a env + cntT a T = 0
  sH : ∀ a, S a → H a ≠ none
  keep : ∀ a o, B.H a = some o → ¬ B.own a → H a = some o
  dom : ∀ a, H a = none → B.H a = none
  new : ∀ a, 0 < cntE a env + cntT a T → B.own a ∨ B.H a = none
  newS : ∀ a, S a → B.S a ∨ B.own a ∨ B.H a = none
  sub : ∀ a, B.S a → S a
section
variable {K : PySem.W.Frag} {B : Bs} {S : Fz} {H : Hp} {σ : L2.St} {env : Env} {T : List (V × W)}
theorem R.live (r : R K B S H σ env T) {a : Addr} (h : 0 < cntE a env + cntT a T) : ∃ k xs, H a = some (hoOf k xs) := by
  have inE : ∀ {l : Env}, (∀ (i : Nat) (o : O), l[i]? = some (some o) → ∃ v, OwnR K S H v o) → 0 < cntE a l → ∃ k xs, H a = some (hoOf k xs) := by
    intro l
    induction l with
    | nil => intro _ h; exact absurd h (by show ¬ 0 < 0; omega)
    | cons x xs ih =>
      intro q h
      have h' : 0 < cntO a x + cntE a xs := h
      by_cases hx : 0 < cntO a x
      · cases x with
        | none => exact absurd hx (by show ¬ 0 < 0; omega)
        | some o =>
          obtain ⟨v, w⟩ := q 0 o rfl
          exact w.live a hx
      · exact ih (fun i o e => q (i + 1) o (by simpa using e)) (by omega)
  have inT : ∀ {l : List (V × W)}, (∀ t ∈ l, TmpR K S H t) → 0 < cntT a l → ∃ k xs, H a = some (hoOf k xs) := by
    intro l
    induction l with
    | nil => intro _ h; exact absurd h (by show ¬ 0 < 0; omega)
    | cons x xs ih =>
      intro q h
      have h' : 0 < cntW a x.2 + cntT a xs := h
      by_cases hx : 0 < cntW a x.2
      · have q1 := q x List.mem_cons_self
        obtain ⟨v, w⟩ := x
        cases w with
        | o y => exact OwnR.live q1 a hx
        | al _ _ _ => exact absurd hx (by show ¬ 0 < 0; omega)
      · exact ih (fun t ht => q t (List.mem_cons_of_mem _ ht)) (by omega)
  by_cases h1 : 0 < cntE a env
  · exact inE (fun i o e => let ⟨v, _, w⟩ := r.slots i o e; ⟨v, w⟩) h1
  · exact inT r.tmps (by omega)
theorem R.fresh (r : R K B S H σ env T) {p : Addr} (h : H p = none) : cntE p env + cntT p T = 0 := by
  by_cases q : 0 < cntE p env + cntT p T
  · obtain ⟨_, _, e⟩ := r.live q
    rw [h] at e; cases e
  · omega
/-- the temps may be any others of the same weight -/
theorem R.tmp (r : R K B S H σ env T) {T' : List (V × W)} (h : ∀ t ∈ T', TmpR K S H t) (c : ∀ b, cntT b T' ≤ cntT b T) : R K B S H σ env T' :=
  ⟨r.len, r.slots, h, fun a => by have := r.one a; have := c a; omega, fun a q => by have := r.apart a q; have := c a; omega, r.sH, r.keep, r.dom,
    fun a q => r.new a (by have := c a; omega), r.newS, r.sub⟩
theorem R.pop {t : V × W} (r : R K B S H σ env (t :: T)) : R K B S H σ env T :=
  r.tmp (fun x hx => r.tmps x (List.mem_cons_of_mem _ hx)) fun b => by show _ ≤ cntW b t.2 + cntT b T; omega
theorem R.pops {P : List (V × W)} (r : R K B S H σ env (P ++ T)) : R K B S H σ env T :=
  r.tmp (fun x hx => r.tmps x (List.mem_append_right _ hx)) fun b => by rw [cntT_append]; omega
theorem R.push (r : R K B S H σ env T) {v : V} {x : D} (h : Rp K S H v x) : R K B S H σ env ((v, .o (.d x)) :: T) :=
  r.tmp (fun t ht => by
    rcases List.mem_cons.mp ht with e | ht
    · subst e; exact OwnR.d h
    · exact r.tmps t ht) fun b => by show 0 + _ ≤ _; omega
theorem R.seen (r : R K B S H σ env T) {a : Addr} {i : Nat} {p : List Stp} : R K B S H σ env ((.ref a, .al a i p) :: T) :=
  r.tmp (fun t ht => by
    rcases List.mem_cons.mp ht with e | ht
    · subst e; rfl
    · exact r.tmps t ht) fun b => by show 0 + _ ≤ _; omega
/-- the heap has grown or what is owned by nobody here changed: all kept -/
theorem R.heap (r : R K B S H σ env T) {H' : Hp} (k : Kp S S H H') (own : ∀ a, 0 < cntE a env + cntT a T → H' a = H a)
    (old : ∀ a o, B.H a = some o → ¬ B.own a → H a = some o → H' a = some o) (dom : ∀ a, H' a = none → H a = none) : R K B S H' σ env T := by
  refine ⟨r.len, fun i o e => ?_, fun t ht => ?_, r.one, r.apart, fun a h => by rw [k.h a h]; exact r.sH a h, fun a o h1 h2 => old a o h1 h2 (r.keep a o h1 h2), fun a h => r.dom a (dom a h), r.new, r.newS, r.sub⟩
  · obtain ⟨v, e1, w⟩ := r.slots i o e
    refine ⟨v, e1, w.kp k fun a ha => own a ?_⟩
    have := cntE_get (b := a) e
    have : cntO a (some o) = o.cnt a := rfl
    omega
  · have q := r.tmps t ht
    obtain ⟨v, w⟩ := t
    cases w with
    | o x =>
      refine OwnR.kp k q fun a ha => own a ?_
      have h1 : x.cnt a ≤ cntT a T := cntT_mem (b := a) ht
      omega
    | al _ _ _ => exact q
/-- a new object that nobody holds yet -/
theorem R.alloc (r : R K B S H σ env T) {p : Addr} {o : HO} (hp : H p = none) : R K B S (upd H p o) σ env T := by
  refine r.heap (Kp.new hp r.sH) (fun a ha => ?_) (fun a o' h1 _ h2 => ?_) fun a h => ?_
  · refine upd_ne fun e => ?_
    subst e
    have := r.fresh hp
    omega
  · rw [upd_ne (ne_of_none h2 hp)]; exact h2
  · by_cases e : a = p
    · subst e; exact hp
    · rw [upd_ne e] at h; exact h
/-- a new tuple of the topmost things -/
theorem R.newTup {P : List (V × W)} {vs : List V} {os : List O} {p : Addr} (r : R K B S H σ env (P ++ T)) (hp : H p = none) (ow : OwnA K S H vs os) (c : ∀ b, O.cntL b os ≤ cntT b P) :
    R K B S (upd H p (.tup vs)) σ env ((.ref p, .o (.tup os)) :: T) := by
  have r1 := r.alloc (o := .tup vs) hp
  refine r1.tmp (fun t ht => ?_) fun b => ?_
  · rcases List.mem_cons.mp ht with e | ht
    · subst e
      refine OwnR.tup (.inl (.inl upd_same)) (ow.kp (Kp.new hp r.sH) fun a ha => upd_ne fun e => ?_)
      subst e
      have h1 := r.fresh hp
      rw [cntT_append] at h1
      have := c a
      omega
    · exact r1.tmps t (List.mem_append_right _ ht)
  · rw [cntT_append]
    have := c b
    show O.cntL b os + _ ≤ _
    omega
/-- a new list or dict of the topmost things -/
theorem R.newObj {P : List (V × W)} {vs : List V} {os : List O} {p : Addr} (k : Kd) (hf : k.fits vs.length) (r : R K B S H σ env (P ++ T)) (hp : H p = none) (ow : OwnA K S H vs os) (c : ∀ b, O.cntL b os ≤ cntT b P) :
    R K B S (upd H p (hoOf k vs)) σ env ((.ref p, .o (.obj p k os)) :: T) := by
  have r1 := r.alloc (o := hoOf k vs) hp
  have h0 := r.fresh hp
  rw [cntT_append] at h0
  have one' : ∀ a, cntE a env + (((if p = a then 1 else 0) + O.cntL a os) + cntT a T) ≤ 1 := fun a => by
    have h1 := r.one a
    rw [cntT_append] at h1
    have := c a
    by_cases e : p = a
    · subst e; rw [if_pos rfl]; omega
    · rw [if_neg e]; omega
  refine ⟨r1.len, r1.slots, fun t ht => ?_, one', fun a ha => ?_, r1.sH, r1.keep, r1.dom, fun a ha => ?_, r1.newS, r1.sub⟩
  · rcases List.mem_cons.mp ht with e | ht
    · subst e
      refine OwnR.obj upd_same hf (ow.kp (Kp.new hp r.sH) fun a ha => upd_ne fun e => ?_)
      subst e
      have := c a
      omega
    · exact r1.tmps t (List.mem_append_right _ ht)
  · show cntE a env + (((if p = a then 1 else 0) + O.cntL a os) + cntT a T) = 0
    have h1 := r.apart a ha
    rw [cntT_append] at h1
    have := c a
    have ne : p ≠ a := fun e => r.sH a ha (by rw [← e]; exact hp)
    rw [if_neg ne]
    omega
  · have ha' : 0 < cntE a env + (((if p = a then 1 else 0) + O.cntL a os) + cntT a T) := ha
    by_cases e : p = a
    · subst e; exact .inr (r.dom p hp)
    · rw [if_neg e] at ha'
      have := c a
      exact r.new a (by rw [cntT_append]; omega)
theorem R.newLst {P : List (V × W)} {vs : List V} {os : List O} {p : Addr} (r : R K B S H σ env (P ++ T)) (hp : H p = none) (ow : OwnA K S H vs os) (c : ∀ b, O.cntL b os ≤ cntT b P) :
    R K B S (upd H p (.lst vs)) σ env ((.ref p, .o (.lst p os)) :: T) := R.newObj .lst True.intro r hp ow c
/-- more is given up: the topmost thing is data from now on -/
theorem R.froze {v : V} {o : O} (r : R K B S H σ env ((v, .o o) :: T)) : R K B (fun a => S a ∨ 0 < o.cnt a) H σ env ((v, .o (.d o.toD)) :: T) := by
  have k : Kp S (fun a => S a ∨ 0 < o.cnt a) H H := Kp.more fun a h => .inl h
  have hT : ∀ a, cntT a ((v, W.o o) :: T) = o.cnt a + cntT a T := fun _ => rfl
  have hT' : ∀ a, cntT a ((v, W.o (.d o.toD)) :: T) = 0 + cntT a T := fun _ => rfl
  refine ⟨r.len, fun i x e => ?_, fun t ht => ?_, fun a => ?_, fun a ha => ?_, fun a ha => ?_, r.keep, r.dom, fun a ha => r.new a ?_, fun a ha => ?_, fun a h => .inl (r.sub a h)⟩
  · obtain ⟨v, e1, w⟩ := r.slots i x e
    exact ⟨v, e1, w.kp k fun _ _ => rfl⟩
  · rcases List.mem_cons.mp ht with e | ht
    · subst e
      have q : OwnR K S H v o := r.tmps (v, .o o) List.mem_cons_self
      exact OwnR.d (q.froze (fun a h => .inl h) fun a h => .inr h)
    · have q := r.tmps t (List.mem_cons_of_mem _ ht)
      obtain ⟨u, w⟩ := t
      cases w with
      | o x => exact OwnR.kp k q fun _ _ => rfl
      | al _ _ _ => exact q
  · have := r.one a; rw [hT] at this; rw [hT']; omega
  · rcases ha with h | h
    · have := r.apart a h; rw [hT] at this; rw [hT']; omega
    · have := r.one a; rw [hT] at this; rw [hT']; omega
  · rcases ha with h | h
    · exact r.sH a h
    · obtain ⟨_, _, e⟩ := r.live (a := a) (by rw [hT]; omega)
      rw [e]; simp
  · rw [hT'] at ha; rw [hT]; omega
  · rcases ha with h | h
    · exact r.newS a h
    · exact .inr (r.new a (by rw [hT]; omega))
/-- the topmost thing goes into a slot -/
theorem R.store {v : V} {o : O} {i : Nat} (r : R K B S H σ env ((v, .o o) :: T)) (hi : i < env.length) : R K B S H (σ.set i (some v)) (env.set i (some o)) T := by
  have hx : env[i]? = some env[i] := List.getElem?_eq_getElem hi
  have hc : ∀ a, cntE a (env.set i (some o)) + cntO a env[i] = cntE a env + o.cnt a := fun a => cntE_set (y := some o) hx
  have hT : ∀ a, cntT a ((v, W.o o) :: T) = o.cnt a + cntT a T := fun _ => rfl
  refine ⟨by simpa using r.len, fun j x e => ?_, fun t ht => r.tmps t (List.mem_cons_of_mem _ ht), fun a => ?_, fun a ha => ?_, r.sH, r.keep, r.dom, fun a ha => r.new a ?_, r.newS, r.sub⟩
  · by_cases hj : j = i
    · subst hj
      rw [List.getElem?_set_self hi] at e
      cases e
      exact ⟨v, List.getElem?_set_self (by rw [← r.len]; exact hi), r.tmps (v, .o o) List.mem_cons_self⟩
    · rw [List.getElem?_set_ne (Ne.symm hj)] at e
      obtain ⟨w, e1, q⟩ := r.slots j x e
      exact ⟨w, by rw [List.getElem?_set_ne (Ne.symm hj)]; exact e1, q⟩
  · have := r.one a; have := hc a; rw [hT] at *; omega
  · have := r.apart a ha; have := hc a; rw [hT] at *; omega
  · have := hc a; rw [hT]; omega
/-- a slot is forgotten -/
theorem R.forget {i : Nat} (r : R K B S H σ env T) : R K B S H (σ.set i none) (env.set i none) T := by
  by_cases hi : i < env.length
  · have hx : env[i]? = some env[i] := List.getElem?_eq_getElem hi
    have hc : ∀ a, cntE a (env.set i none) + cntO a env[i] = cntE a env + 0 := fun a => cntE_set (y := none) hx
    refine ⟨by simpa using r.len, fun j x e => ?_, r.tmps, fun a => ?_, fun a ha => ?_, r.sH, r.keep, r.dom, fun a ha => r.new a ?_, r.newS, r.sub⟩
    · by_cases hj : j = i
      · subst hj
        rw [List.getElem?_set_self hi] at e
        cases e
      · rw [List.getElem?_set_ne (Ne.symm hj)] at e
        obtain ⟨w, e1, q⟩ := r.slots j x e
        exact ⟨w, by rw [List.getElem?_set_ne (Ne.symm hj)]; exact e1, q⟩
    · have := r.one a; have := hc a; omega
    · have := r.apart a ha; have := hc a; omega
    · have := hc a; omega
  · have h1 : env.set i none = env := List.set_eq_of_length_le (by omega)
    have h2 : σ.set i none = σ := List.set_eq_of_length_le (by rw [← r.len]; omega)
    rw [h1, h2]; exact r
end
end Vx
namespace Vx
open PySem PySem.Spec L2

/-! ### the small language -/
inductive Bop where
  | add | sub | mul | fdiv | mod | pow
  deriving DecidableEq
inductive Cop where
  | eq | ne | lt | le | gt | ge | is | isNot | inn | notIn
  deriving DecidableEq
/-- the kinds of isinstance -/
inductive Ty where
  | int | bool | str | tuple | list
  deriving DecidableEq
inductive Prim where
  | len | sum | tuple | list | sorted | repr | abs | min2 | max2 | min | max | all | any | isi (t : Ty) | isis (ts : List Ty)
  deriving DecidableEq
inductive Mut where
  | append
  deriving DecidableEq
inductive Tg where
  | v (i : Nat)
  | tup (is : List Nat)
/-! ### operations on data -/
def MulOk (i j : Int) : Prop := CMul i j ∨ i.natAbs.log2 + j.natAbs.log2 < 1000000
def DivOk (j : Int) : Prop := (j ≠ 0 ∧ j.natAbs < 1073741824) ∨ (0 < j ∧ j.natAbs.log2 < 9000)
/-- a text so many times -/
def repS (x : Str) (k : Int) : Str := ⟨(List.replicate k.toNat x.cps).foldl (· ++ ·) #[]⟩
def bopW : Bop → D → D → (O → Prop) → Prop
  | .add, .int i, .int j, Q => Q (.d (.int (i + j)))
  | .add, .bool b, .int j, Q => Q (.d (.int ((if b = true then (1 : Int) else 0) + j)))
  | .add, .str x, .str y, Q => x.length + y.length ≤ sizeLine ∧ Q (.d (.str (x ++ y)))
  | .add, .tuple xs, .tuple ys, Q => xs.length + ys.length ≤ sizeLine ∧ Q (.d (.tuple (xs ++ ys)))
  | .add, .list xs, .list ys, Q => xs.length + ys.length ≤ sizeLine ∧ ∀ a, Q (.lst a ((xs ++ ys).map .d))
  | .sub, .int i, .int j, Q => Q (.d (.int (i - j)))
  | .sub, .bool b, .int j, Q => Q (.d (.int ((if b = true then (1 : Int) else 0) - j)))
  | .mul, .int i, .int j, Q => MulOk i j ∧ Q (.d (.int (i * j)))
  | .mul, .tuple xs, .int k, Q => xs.isEmpty = false ∧ 0 ≤ k ∧ k ≤ 1000 ∧ xs.length ≤ 1000 ∧ Q (.d (.tuple (List.replicate k.toNat xs).flatten))
  | .mul, .str x, .int k, Q => -1000000 ≤ k ∧ k ≤ 1000000 ∧ x.length ≤ 1000000 ∧ x.length * k.toNat ≤ 1000000 ∧ Q (.d (.str (repS x k)))
  | .mul, .list xs, .int k, Q => -1000000 ≤ k ∧ k ≤ 1000000 ∧ xs.length * k.toNat ≤ 1000000 ∧ ∀ a, Q (.lst a ((List.replicate k.toNat xs).flatten.map .d))
  | .fdiv, .int i, .int j, Q => DivOk j ∧ Q (.d (.int (i.fdiv j)))
  | .mod, .int i, .int j, Q => j ≠ 0 ∧ Q (.d (.int (i.fmod j)))
  | .pow, .int i, .int j, Q => CPow i j ∧ Q (.d (.int (i ^ j.toNat)))
  | _, _, _, _ => False
def isScal : D → Bool
  | .none => true
  | .bool _ => true
  | .int _ => true
  | .str _ => true
  | _ => false
def isNone : D → Bool
  | .none => true
  | _ => false
/-- of no great depth, without dicts -/
def plainD (x : D) : Bool := SeqAt.shaped x && !x.hasDict
/-- what == may be asked of -/
def eqOk : D → D → Bool
  | .int _, .int _ => true
  | .str _, .str _ => true
  | .bool _, .bool _ => true
  | .none, .none => true
  | .none, .int _ => true
  | .none, .str _ => true
  | .int _, .none => true
  | .str _, .none => true
  | .int _, .str _ => true
  | .str _, .int _ => true
  | x, y => plainD x && plainD y
/-- what may be looked for in a tuple -/
def inOk (x : D) (ys : List D) : Bool := (isScal x && ys.all isScal) || (plainD x && plainD (.tuple ys))
def onSome {α : Type} (o : Option α) (Q : α → Prop) : Prop := match o with
  | some x => Q x
  | none => False
def intsOf : List D → Option (List Int)
  | [] => some []
  | .int i :: r => (intsOf r).map (i :: ·)
  | _ => none
/-- lists of ints compared, from the first pair that differs on -/
def lexLt : List Int → List Int → Bool
  | [], [] => false
  | [], _ :: _ => true
  | _ :: _, [] => false
  | x :: xs, y :: ys => if x = y then lexLt xs ys else decide (x < y)
def cmpW : Cop → D → D → (Bool → Prop) → Prop
  | .eq, x, y, Q => eqOk x y = true ∧ Q (PyData.eqv x y)
  | .ne, x, y, Q => eqOk x y = true ∧ Q (!PyData.eqv x y)
  | .lt, .int i, .int j, Q => Q (decide (i < j))
  | .le, .int i, .int j, Q => Q (decide (i ≤ j))
  | .gt, .int i, .int j, Q => Q (decide (j < i))
  | .ge, .int i, .int j, Q => Q (decide (j ≤ i))
  | .lt, .tuple xs, .tuple ys, Q => onSome (intsOf xs) fun ns => onSome (intsOf ys) fun ms => Q (lexLt ns ms)
  | .lt, .str x, .str y, Q => Q (decide (x.cps.toList < y.cps.toList))
  | .le, .str x, .str y, Q => Q (!decide (y.cps.toList < x.cps.toList))
  | .gt, .str x, .str y, Q => Q (decide (y.cps.toList < x.cps.toList))
  | .ge, .str x, .str y, Q => Q (!decide (x.cps.toList < y.cps.toList))
  | .inn, .str x, .str y, Q => Q (!(Builtin.Str.occurrences y x 0 y.length 1).isEmpty)
  | .notIn, .str x, .str y, Q => Q (!(!(Builtin.Str.occurrences y x 0 y.length 1).isEmpty))
  | .is, .bool x, .bool y, Q => Q (decide (x = y))
  | .isNot, .bool x, .bool y, Q => Q (!decide (x = y))
  | .is, x, .none, Q => Q (isNone x)
  | .isNot, x, .none, Q => Q (!isNone x)
  | .inn, x, .tuple ys, Q => inOk x ys = true ∧ Q (ys.any fun y => PyData.eqv y x)
  | .inn, x, .list ys, Q => plainD x = true ∧ plainD (.list ys) = true ∧ Q (ys.any fun y => PyData.eqv y x)
  | .notIn, x, .tuple ys, Q => inOk x ys = true ∧ Q (!ys.any fun y => PyData.eqv y x)
  | .notIn, x, .list ys, Q => plainD x = true ∧ plainD (.list ys) = true ∧ Q (!ys.any fun y => PyData.eqv y x)
  | _, _, _, _ => False
def boolsOf : List D → Option (List Bool)
  | [] => some []
  | .bool i :: r => (boolsOf r).map (i :: ·)
  | _ => none
def seqOf : D → Option (List D)
  | .list xs => some xs
  | .tuple xs => some xs
  | _ => none
/-- pairs of ints, as sorted has them -/
def pairsOf : List D → Option (List (Int × Int))
  | [] => some []
  | .tuple [.int i, .int j] :: r => (pairsOf r).map ((i, j) :: ·)
  | _ => none
def tyOf : D → List Ty
  | .none => []
  | .bool _ => [.bool, .int]
  | .int _ => [.int]
  | .str _ => [.str]
  | .list _ => [.list]
  | .tuple _ => [.tuple]
  | .dict _ => []
def pairLe (a b : Int × Int) : Bool := decide (a.1 < b.1) || (decide (a.1 = b.1) && decide (a.2 ≤ b.2))
def primW : Prim → List D → (O → Prop) → Prop
  | .len, [.list xs], Q => Q (.d (.int xs.length))
  | .len, [.tuple xs], Q => Q (.d (.int xs.length))
  | .len, [.str x], Q => x.length ≤ sizeLine ∧ Q (.d (.int x.length))
  | .sum, [.list xs], Q => onSome (intsOf xs) fun ns => Q (.d (.int ns.sum))
  | .sum, [.tuple xs], Q => onSome (intsOf xs) fun ns => Q (.d (.int ns.sum))
  | .tuple, [.list xs], Q => Q (.d (.tuple xs))
  | .tuple, [.tuple xs], Q => Q (.d (.tuple xs))
  | .list, [.list xs], Q => ∀ a, Q (.lst a (xs.map .d))
  | .list, [.tuple xs], Q => ∀ a, Q (.lst a (xs.map .d))
  | .sorted, [.list xs], Q => onSome (pairsOf xs) fun ps => ∀ qs : List (Int × Int), qs.Perm ps → qs.Pairwise (fun p q => pairLe p q = true) → ∀ a, Q (.lst a (qs.map fun p => O.d (.tuple [.int p.1, .int p.2])))
  | .repr, [x], Q => PyData.showable x = true ∧ x.hasDict = false ∧ x.shown.length ≤ sizeLine ∧ x.depth ≤ 64 ∧ Q (.d (.str x.shown))
  | .abs, [.int i], Q => Q (.d (.int (if i < 0 then -i else i)))
  | .max2, [.int i, .int j], Q => Q (.d (.int (if j > i then j else i)))
  | .min2, [.int i, .int j], Q => Q (.d (.int (if j < i then j else i)))
  | .all, [.list xs], Q => onSome (boolsOf xs) fun bs => Q (.d (.bool (bs.all id)))
  | .any, [.list xs], Q => onSome (boolsOf xs) fun bs => Q (.d (.bool (bs.any id)))
  | .isi t, [x], Q => Q (.d (.bool (decide (t ∈ tyOf x))))
  | .isis ts, [x], Q => Q (.d (.bool (ts.any fun t => decide (t ∈ tyOf x))))
  | _, _, _ => False
def ixW : D → D → (D → Prop) → Prop
  | .list xs, .int i, Q => onSome (atI xs i) Q
  | .tuple xs, .int i, Q => onSome (atI xs i) Q
  | .str x, .int i, Q => x.length ≤ sizeLine ∧ onSome (atI x.cps.toList i) fun c => Q (.str ⟨#[c]⟩)
  | _, _, _ => False
def cutD (xs : List D) (lo hi : Option Int) : List D := (xs.drop (HT.sIx xs.length 0 lo)).take (HT.sIx xs.length xs.length hi - HT.sIx xs.length 0 lo)
def slW : D → Option Int → Option Int → (O → Prop) → Prop
  | .list xs, lo, hi, Q => ∀ a, Q (.lst a ((cutD xs lo hi).map .d))
  | .tuple xs, lo, hi, Q => Q (.d (.tuple (cutD xs lo hi)))
  | .str x, lo, hi, Q => x.length ≤ sizeLine ∧ Q (.d (.str (cutS x lo hi)))
  | _, _, _, _ => False

/-! ### things as they are used -/
def datas : List O → Option (List D)
  | [] => some []
  | .d x :: r => (datas r).map (x :: ·)
  | _ => none
theorem datas_map : ∀ ds : List D, datas (ds.map O.d) = some ds
  | [] => rfl
  | e :: es => by
    show (datas (es.map O.d)).map (e :: ·) = _
    rw [datas_map es]; rfl
theorem datas_eq : ∀ {os : List O} {ds : List D}, datas os = some ds → os = ds.map O.d
  | [], ds, h => by cases h; rfl
  | .d x :: r, ds, h => by
    unfold datas at h
    cases e : datas r with
    | none => rw [e] at h; cases h
    | some es =>
      rw [e] at h
      cases h
      rw [datas_eq e]; rfl
  | .tup _ :: _, _, h => nomatch h
  | .obj _ _ _ :: _, _, h => nomatch h
/-- a thing used at once: what is new is given up, what is seen is a list of data -/
def useW (w : W) (env : Env) (Q : D → Prop) : Prop := match w with
  | .o x => Q x.toD
  | .al a i p => match envAt env i p with
    | some (.obj b .lst xs) => b = a ∧ onSome (datas xs) fun ds => Q (.list ds)
    | _ => False
/-- a thing given up: data from now on -/
def escW (w : W) (env : Env) (Q : D → Env → Prop) : Prop := match w with
  | .o x => Q x.toD env
  | .al a i p => match envAt env i p with
    | some (.obj b k xs) => b = a ∧ Q (O.obj b k xs).toD (envPut env i p (.d (O.obj b k xs).toD))
    | _ => False
def useWs : List W → Env → (List D → Prop) → Prop
  | [], _, Q => Q []
  | w :: ws, env, Q => useW w env fun d => useWs ws env fun ds => Q (d :: ds)
def tst (w : W) (Q : Bool → Prop) : Prop := match w with
  | .o (.d (.bool b)) => Q b
  | _ => False
/-- a thing that goes into something: what is new keeps its objects -/
def inW (w : W) (env : Env) (Q : O → Env → Prop) : Prop := match w with
  | .o x => Q x env
  | .al .. => escW w env fun x env' => Q (.d x) env'
/-- the targets -/
def setAll : List Nat → List O → Env → (Env → Prop) → Prop
  | [], [], env, Q => Q env
  | i :: is, o :: os, env, Q => i < env.length ∧ setAll is os (env.set i (some o)) Q
  | _, _, _, _ => False
def notTup : O → Bool
  | .tup _ => false
  | _ => true
/-- no tuple of owned things stands in a slot -/
def slotO : O → O
  | .tup xs => .d (.tuple (O.toDs xs))
  | o => o
def itemsO : W → Env → (List O → Prop) → Prop
  | .o (.d (.tuple ds)), _, Q => Q (ds.map O.d)
  | .o (.tup os), _, Q => os.all notTup = true ∧ Q os
  | .o (.d (.list ds)), _, Q => Q (ds.map O.d)
  | .al a i p, env, Q => match envAt env i p with
    | some (.obj b .lst xs) => b = a ∧ onSome (datas xs) fun ds => Q (ds.map O.d)
    | _ => False
  | _, _, _ => False
def Tg.slots : Tg → List Nat
  | .v i => [i]
  | .tup is => is
def bindT (t : Tg) (w : W) (env : Env) (Q : Env → Prop) : Prop := match t with
  | .v i => inW w env fun o env' => i < env'.length ∧ Q (env'.set i (some (slotO o)))
  | .tup is => itemsO w env fun os => setAll is os env Q

/-! ### exceptions, defs -/
structure Exn where
  cls : Str
  ns : List Str
  ds : List D
abbrev FSem := List O → (O → List O → Prop) → (Exn → List O → Prop) → Prop
abbrev Tbl := Nat → FSem
def lend : List W → Env → Option (List O)
  | [], _ => some []
  | .o x :: r, env => if notTup x = true then (lend r env).map (x :: ·) else none
  | .al a i p :: r, env => match envAt env i p with
    | some (.obj b k xs) => if b = a then (lend r env).map (.obj b k xs :: ·) else none
    | _ => none
/-- the slots whose objects are lent -/
def lentAt : List W → List Nat
  | [] => []
  | .o _ :: r => lentAt r
  | .al _ i _ :: r => i :: lentAt r
def giveBack : List W → List O → Env → Option Env
  | [], _, env => some env
  | .o _ :: r, _ :: os, env => giveBack r os env
  | .al a i p :: r, .obj b k xs :: os, env => if b = a then giveBack r os (envPut env i p (.obj b k xs)) else none
  | _, _, _ => none
def callW (F : FSem) (ws : List W) (env : Env) (Q : W → Env → Prop) (X : Exn → Env → Prop) : Prop :=
  onSome (lend ws env) fun os => (lentAt ws).Nodup ∧ F os (fun r os' => onSome (giveBack ws os' env) fun env' => Q (.o r) env') (fun ex os' => onSome (giveBack ws os' env) fun env' => X ex env')
/-- what a list's method does: its items, the things handed in; the answer, the items behind it -/
def mutW : Mut → List O → List O → (O → List O → Prop) → Prop
  | .append, xs, [o], Q => xs.length < sizeLine ∧ Q (.d .none) (xs ++ [o])
  | _, _, _, _ => False
def inWs : List W → Env → (List O → Env → Prop) → Prop
  | [], env, Q => Q [] env
  | w :: ws, env, Q => inW w env fun o env' => inWs ws env' fun os env'' => Q (o :: os) env''
def doMut (m : Mut) (t : W) (os : List O) (env : Env) (Q : W → Env → Prop) : Prop := match t with
  | .al a i p => match envAt env i p with
    | some (.obj b .lst xs) => b = a ∧ mutW m xs os fun r ys => Q (.o r) (envPut env i p (.lst b ys))
    | _ => False
  | _ => False
/-- a dict's key -/
def keyOf : D → Option Key
  | .int i => some (.inl i)
  | .str x => some (.inr x)
  | _ => none
/-- where it stands -/
def keyIx (ks : List Key) (k : Key) : Option Nat := ks.findIdx? fun x => decide (x = k)
def setW (t k : W) (o : O) (env : Env) (Q : Env → Prop) : Prop := match t with
  | .al a i p => match envAt env i p with
    | some (.obj b (.dct ks) xs) => b = a ∧ useW k env fun d => onSome (keyOf d) fun key => ks.length < 1000000 ∧ match keyIx ks key with
      | some j => Q (envPut env i p (.dct b ks (xs.set j o)))
      | none => Q (envPut env i p (.dct b (ks ++ [key]) (xs ++ [o])))
    | some (.obj b .lst xs) => b = a ∧ useW k env fun d => match d with
      | .int n => onSome (ixN xs.length n) fun j => Q (envPut env i p (.lst b (xs.set j o)))
      | _ => False
    | _ => False
  | _ => False
/-- an item of a thing -/
def itemW (t k : W) (env : Env) (Q : W → Prop) : Prop := match t with
  | .o (.obj _ .lst xs) => useW k env fun d => match d with
    | .int n => onSome (atI xs n) fun o => Q (.o o)
    | _ => False
  | .o (.tup xs) => useW k env fun d => match d with
    | .int n => onSome (atI xs n) fun o => Q (.o o)
    | _ => False
  | .o (.obj _ (.dct ks) xs) => useW k env fun d => onSome (keyOf d) fun key => onSome (keyIx ks key) fun j => onSome xs[j]? fun o => Q (.o o)
  | .o (.d x) => useW k env fun d => ixW x d fun y => Q (.o (.d y))
  | .al a i p => match envAt env i p with
    | some (.obj b .lst xs) => b = a ∧ useW k env fun d => match d with
      | .int n => onSome (ixN xs.length n) fun j => onSome xs[j]? fun y => match y with
        | .d y => Q (.o (.d y))
        | .obj c _ _ => Q (.al c i (p ++ [.ix j]))
        | .tup _ => False
      | _ => False
    | some (.obj b (.dct ks) xs) => b = a ∧ useW k env fun d => onSome (keyOf d) fun key => onSome (keyIx ks key) fun j => onSome xs[j]? fun y => match y with
        | .d y => Q (.o (.d y))
        | .obj c _ _ => Q (.al c i (p ++ [.ix j]))
        | .tup _ => False
    | _ => False

/-! ### what is gone through -/
/-- its items; the list whose items they are, where that is an owned one -/
structure Src where
  xs : List D
  at? : Option (Addr × Nat × List Stp)
def Src.still (s : Src) (env : Env) : Prop := match s.at? with
  | none => True
  | some (a, i, p) => envAt env i p = some (.lst a (s.xs.map O.d))
def srcW (w : W) (env : Env) (Q : Src → Prop) : Prop := match w with
  | .o x => onSome (seqOf x.toD) fun ds => Q ⟨ds, none⟩
  | .al a i p => match envAt env i p with
    | some (.obj b .lst xs) => b = a ∧ onSome (datas xs) fun ds => Q ⟨ds, some (a, i, p)⟩
    | _ => False
def upTo (lo : Int) (n : Nat) : List D := (List.range n).map fun (i : Nat) => PyData.int (lo + i)
def numbered (xs : List D) : List D := xs.zipIdx.map fun p => PyData.tuple [.int p.2, p.1]
def inRange (i : Int) : Prop := -(2 ^ 62) ≤ i ∧ i < 2 ^ 62
def goFor (s : Src) (step : D → Env → (Env → Prop) → Prop) : List D → Env → (Env → Prop) → Prop
  | [], env, Q => Q env
  | x :: xs, env, Q => step x env fun env' => s.still env' ∧ goFor s step xs env' Q
/-- the slots of a comprehension's own names are void -/
def void : List Nat → Env → Env
  | [], env => env
  | i :: is, env => (void is env).set i none
def restore (old : Env) : List Nat → Env → Env
  | [], env => env
  | i :: is, env => (restore old is env).set i (match old[i]? with | some o => o | none => none)
/-- data or nothing stands there -/
def plainAt (env : Env) (i : Nat) : Prop := match env[i]? with
  | some none => True
  | some (some (.d _)) => True
  | _ => False
def goComp (s : Src) (step : D → Env → List O → (Env → List O → Prop) → Prop) : List D → Env → List O → (Env → List O → Prop) → Prop
  | [], env, acc, Q => Q env acc
  | x :: xs, env, acc, Q => step x env acc fun env' acc' => s.still env' ∧ goComp s step xs env' acc' Q

structure Kt where
  nx : Env → Prop
  rt : W → Env → Prop
  bk : Env → Prop
  ct : Env → Prop

/-! ### a def by its body -/
/-- the objects handed in, as they are at the end -/
def backs : Nat → List O → Env → Option (List O)
  | _, [], _ => some []
  | i, .obj a _ xs :: r, env => match env[i]? with
    | some (some (.obj b k ys)) => if b = a then (backs (i + 1) r env).map (.obj b k ys :: ·) else none
    | _ => none
  | i, o :: r, env => (backs (i + 1) r env).map (o :: ·)
/-- the answer: a def's own list is handed on, what was lent is given up -/
def retW (os : List O) (w : W) (env : Env) (Q : O → Env → Prop) : Prop := match w with
  | .o x => Q x env
  | .al a i [] => match os[i]? with
    | some (.obj _ _ _) => escW w env fun x env' => Q (.d x) env'
    | _ => match env[i]? with
      | some (some (.obj b k xs)) => b = a ∧ Q (.obj b k xs) (env.set i none)
      | _ => False
  | .al .. => escW w env fun x env' => Q (.d x) env'
def start (n : Nat) (os : List O) : Env := os.map some ++ List.replicate (n - os.length) none
end Vx
namespace Vx
open PySem PySem.Spec L2
section
variable {K : PySem.W.Frag} {B : Bs} {S S' : Fz} {H H' : Hp} {σ : L2.St} {env : Env} {T : List (V × W)}

/-! ### held things, given up -/
def fzT (t : V × W) : V × W := match t.2 with
  | .o x => (t.1, .o (.d x.toD))
  | .al a i p => (t.1, .al a i p)
theorem cntT_fz (b : Addr) : ∀ P : List (V × W), cntT b (P.map fzT) = 0
  | [] => rfl
  | (v, .o x) :: P => by show 0 + cntT b (P.map fzT) = 0; rw [cntT_fz b P]
  | (v, .al _ _ _) :: P => by show 0 + cntT b (P.map fzT) = 0; rw [cntT_fz b P]
theorem TmpR.kp {t : V × W} (k : Kp S S' H H') (q : TmpR K S H t) (c : ∀ a, 0 < cntW a t.2 → H' a = H a) : TmpR K S' H' t := by
  obtain ⟨v, w⟩ := t
  cases w with
  | o x => exact OwnR.kp k q c
  | al _ _ _ => exact q
theorem R.frozeP {P : List (V × W)} (r : R K B S H σ env (P ++ T)) : R K B (fun a => S a ∨ 0 < cntT a P) H σ env (P.map fzT ++ T) := by
  have k : Kp S (fun a => S a ∨ 0 < cntT a P) H H := Kp.more fun a h => .inl h
  have hT : ∀ a, cntT a (P ++ T) = cntT a P + cntT a T := fun a => cntT_append a P T
  have hT' : ∀ a, cntT a (P.map fzT ++ T) = cntT a T := fun a => by rw [cntT_append, cntT_fz, Nat.zero_add]
  refine ⟨r.len, fun i x e => ?_, fun t ht => ?_, fun a => ?_, fun a ha => ?_, fun a ha => ?_, r.keep, r.dom, fun a ha => r.new a ?_, fun a ha => ?_, fun a h => .inl (r.sub a h)⟩
  · obtain ⟨v, e1, w⟩ := r.slots i x e
    exact ⟨v, e1, w.kp k fun _ _ => rfl⟩
  · rcases List.mem_append.mp ht with ht | ht
    · obtain ⟨u, hu, e⟩ := List.mem_map.mp ht
      have q := r.tmps u (List.mem_append_left _ hu)
      have hm := fun b => cntT_mem (b := b) hu
      obtain ⟨v, w⟩ := u
      cases w with
      | o x =>
        subst e
        have q' : OwnR K S H v x := q
        exact OwnR.d (q'.froze (fun a h => .inl h) fun a h => .inr (Nat.lt_of_lt_of_le h (hm a)))
      | al _ _ _ => subst e; exact q
    · exact (r.tmps t (List.mem_append_right _ ht)).kp k fun _ _ => rfl
  · have := r.one a; rw [hT] at this; rw [hT']; omega
  · rcases ha with h | h
    · have := r.apart a h; rw [hT] at this; rw [hT']; omega
    · have := r.one a; rw [hT] at this; rw [hT']; omega
  · rcases ha with h | h
    · exact r.sH a h
    · obtain ⟨_, _, e⟩ := r.live (a := a) (by rw [hT]; omega)
      rw [e]; simp
  · rw [hT'] at ha; rw [hT]; omega
  · rcases ha with h | h
    · exact r.newS a h
    · exact .inr (r.new a (by rw [hT]; omega))
theorem R.perm {T' : List (V × W)} (r : R K B S H σ env T) (h : ∀ t ∈ T', t ∈ T) (c : ∀ b, cntT b T' ≤ cntT b T) : R K B S H σ env T' := r.tmp (fun t ht => r.tmps t (h t ht)) c

/-! ### used at once -/
def Ud (K : PySem.W.Frag) (S : Fz) (H : Hp) (v : V) (x : D) : Prop :=
  Rp K S H v x ∨ ∃ a vs ds, v = .ref a ∧ x = .list ds ∧ H a = some (.lst vs) ∧ RpA K S H vs ds
theorem Ud.dp {v : V} {x : D} (u : Ud K S H v x) (hd : x.hasDict = false) : Dp K H v x := by
  rcases u with u | ⟨a, vs, ds, rfl, rfl, e, r⟩
  · exact u.dp hd
  · exact .lst (.inl (.inl e)) (r.dp (by simpa only [PyData.hasDict] using hd))
theorem Ud.list {v : V} {ds : List D} (u : Ud K S H v (.list ds)) : ∃ a vs, v = .ref a ∧ SqL K H a vs ∧ RpA K S H vs ds := by
  rcases u with u | ⟨a, vs, ds, rfl, h, e, r⟩
  · cases u with
    | lst f r => exact ⟨_, _, rfl, f.sq, r⟩
  · cases h; exact ⟨a, vs, rfl, .inl (.inl e), r⟩
theorem Ud.tup {v : V} {ds : List D} (u : Ud K S H v (.tuple ds)) : ∃ a vs, v = .ref a ∧ SqT K H a vs ∧ RpA K S H vs ds := by
  rcases u with u | ⟨a, vs, ds, rfl, h, e, r⟩
  · cases u with
    | tup f r => exact ⟨_, _, rfl, f, r⟩
  · cases h
theorem Ud.rp_tup {v : V} {ds : List D} (u : Ud K S H v (.tuple ds)) : Rp K S H v (.tuple ds) := by
  rcases u with u | ⟨a, vs, ds, rfl, h, e, r⟩
  · exact u
  · cases h
theorem Ud.int {v : V} {i : Int} (u : Ud K S H v (.int i)) : v = .int i := by
  rcases u with u | ⟨a, vs, ds, rfl, h, e, r⟩
  · cases u; rfl
  · cases h
theorem Ud.str {v : V} {i : Str} (u : Ud K S H v (.str i)) : v = .str i := by
  rcases u with u | ⟨a, vs, ds, rfl, h, e, r⟩
  · cases u; rfl
  · cases h
theorem Ud.bool {v : V} {i : Bool} (u : Ud K S H v (.bool i)) : v = .bl i := by
  rcases u with u | ⟨a, vs, ds, rfl, h, e, r⟩
  · cases u; rfl
  · cases h
theorem Ud.non {v : V} (u : Ud K S H v .none) : v = .non := by
  rcases u with u | ⟨a, vs, ds, rfl, h, e, r⟩
  · cases u; rfl
  · cases h
inductive UdA (K : PySem.W.Frag) (S : Fz) (H : Hp) : List V → List D → Prop
  | nil : UdA K S H [] []
  | cons {v : V} {x : D} {vs : List V} {ds : List D} : Ud K S H v x → UdA K S H vs ds → UdA K S H (v :: vs) (x :: ds)
theorem onSome_some {α : Type} {o : Option α} {Q : α → Prop} (h : onSome o Q) : ∃ x, o = some x ∧ Q x := by
  cases o with
  | none => exact h.elim
  | some x => exact ⟨x, rfl, h⟩
theorem R.slotAt (r : R K B S H σ env T) {i : Nat} {p : List Stp} {o : O} (h : envAt env i p = some o) : ∃ v, OwnR K S H v o := by
  obtain ⟨x, e, ha⟩ := envAt_some h
  obtain ⟨v, _, q⟩ := r.slots i x e
  obtain ⟨v', q', _⟩ := q.at ha
  exact ⟨v', q'⟩
/-- the thing seen, in the heap -/
theorem R.seenObj (r : R K B S H σ env T) {a : Addr} {k : Kd} {i : Nat} {p : List Stp} {xs : List O} (h : envAt env i p = some (.obj a k xs)) : ∃ vs, H a = some (hoOf k vs) ∧ k.fits vs.length ∧ OwnA K S H vs xs := by
  obtain ⟨v, q⟩ := r.slotAt h
  cases q with
  | obj e hf w => exact ⟨_, e, hf, w⟩
theorem R.seenAt (r : R K B S H σ env T) {a : Addr} {i : Nat} {p : List Stp} {xs : List O} (h : envAt env i p = some (.lst a xs)) : ∃ vs, H a = some (.lst vs) ∧ OwnA K S H vs xs := by
  obtain ⟨vs, e, _, w⟩ := r.seenObj h
  exact ⟨vs, e, w⟩
theorem R.used {P : List (V × W)} (r : R K B S H σ env (P ++ T)) : ∃ S', R K B S' H σ env (P.map fzT ++ T) ∧
    ∀ t ∈ P, ∀ Q, useW t.2 env Q → ∃ x, Q x ∧ Ud K S' H t.1 x := by
  refine ⟨_, r.frozeP, fun t ht Q q => ?_⟩
  have r' := r.frozeP
  have tm := r'.tmps (fzT t) (List.mem_append_left _ (List.mem_map_of_mem ht))
  obtain ⟨v, w⟩ := t
  cases w with
  | o x =>
    refine ⟨x.toD, q, .inl ?_⟩
    cases tm with
    | d tm => exact tm
  | al a i p =>
    unfold useW at q
    cases e : envAt env i p with
    | none => simp only [e] at q
    | some y =>
      simp only [e] at q
      cases y with
      | d _ => exact q.elim
      | tup _ => exact q.elim
      | obj b k xs =>
        cases k with
        | dct _ => exact q.elim
        | lst =>
        obtain ⟨rfl, q⟩ := q
        obtain ⟨ds, hd, q⟩ := onSome_some q
        obtain ⟨vs, hv, w⟩ := r'.seenAt e
        rw [datas_eq hd] at w
        exact ⟨_, q, .inr ⟨_, vs, ds, tm, rfl, hv, w.data⟩⟩
theorem R.usedAll {P : List (V × W)} (r : R K B S H σ env (P ++ T)) {Q : List D → Prop} (h : useWs (P.map (·.2)) env Q) :
    ∃ S' ds, R K B S' H σ env (P.map fzT ++ T) ∧ Q ds ∧ UdA K S' H (P.map (·.1)) ds := by
  obtain ⟨S', r', f⟩ := r.used
  have go : ∀ (l : List (V × W)), (∀ t ∈ l, t ∈ P) → ∀ Q : List D → Prop, useWs (l.map (·.2)) env Q → ∃ ds, Q ds ∧ UdA K S' H (l.map (·.1)) ds := by
    intro l
    induction l with
    | nil => intro _ Q h; exact ⟨[], h, .nil⟩
    | cons t l ih =>
      intro hm Q h
      obtain ⟨x, h, u⟩ := f t (hm t List.mem_cons_self) _ h
      obtain ⟨ds, h, us⟩ := ih (fun u hu => hm u (List.mem_cons_of_mem _ hu)) _ h
      exact ⟨x :: ds, h, .cons u us⟩
  obtain ⟨ds, q, u⟩ := go P (fun _ h => h) Q h
  exact ⟨S', ds, r', q, u⟩

/-! ### given up where it stands -/
theorem envPut_get {i j : Nat} {p : List Stp} {y o : O} (e : env[i]? = some (some o)) (hj : j ≠ i) : (envPut env i p y)[j]? = env[j]? := by
  rw [envPut_eq e, List.getElem?_set_ne (Ne.symm hj)]
/-- the thing at a path is put otherwise: its own objects alone changed, y lies where it lay -/
theorem R.putAt {P T : List (V × W)} {i : Nat} {p : List Stp} {o' y : O} {S' : Fz} {H' : Hp} (r : R K B S H σ env (P ++ T)) (h : envAt env i p = some o') (k : Kp S S' H H')
    (hy : ∀ w, OwnR K S H w o' → OwnR K S' H' w y) (hT : ∀ t ∈ T, TmpR K S H t → TmpR K S' H' t)
    (same : ∀ b, 0 < cntE b env + cntT b (P ++ T) → o'.cnt b = 0 → cntT b P = 0 → H' b = H b)
    (cy : ∀ b, y.cnt b ≤ o'.cnt b + cntT b P)
    (sN : ∀ b, S' b → S b ∨ (0 < o'.cnt b + cntT b P ∧ y.cnt b = 0))
    (sH : ∀ b, S' b → H' b ≠ none)
    (old : ∀ b o, H b = some o → o'.cnt b = 0 → cntT b P = 0 → H' b = some o) (dom : ∀ b, H' b = none → H b = none) : R K B S' H' σ (envPut env i p y) T := by
  obtain ⟨o, e, ha⟩ := envAt_some h
  have hc := envPut_cnt (y := y) h
  have hap : ∀ b, cntT b (P ++ T) = cntT b P + cntT b T := fun b => cntT_append b P T
  have hone : ∀ b, cntE b env + (cntT b P + cntT b T) ≤ 1 := fun b => by rw [← hap]; exact r.one b
  have he : ∀ b, o.cnt b ≤ cntE b env := fun b => cntE_get e
  have hle : ∀ b, o'.cnt b ≤ o.cnt b := fun b => by
    obtain ⟨v, _, q⟩ := r.slots i o e
    obtain ⟨_, _, c⟩ := q.at ha
    exact c b
  refine ⟨by rw [envPut_length]; exact r.len, fun j x ej => ?_, fun t ht => hT t ht (r.tmps t (List.mem_append_right _ ht)), fun b => ?_, fun b hb => ?_, sH, fun b u h1 h2 => ?_, fun b hb => r.dom b (dom b hb), fun b hb => ?_, fun b hb => ?_, fun b hb => k.s b (r.sub b hb)⟩
  · by_cases hj : j = i
    · subst hj
      rw [envPut_eq e] at ej
      have hi : j < env.length := (List.getElem?_eq_some_iff.mp e).1
      rw [List.getElem?_set_self hi] at ej
      cases ej
      obtain ⟨v, e1, q⟩ := r.slots j o e
      refine ⟨v, e1, OwnR.putAt (v' := v) k q ha (fun b => by have := hone b; have := he b; omega) hy fun b h1 h2 => same b (by have := he b; omega) h2 ?_⟩
      have := hone b; have := he b; omega
    · rw [envPut_get e hj] at ej
      obtain ⟨v, e1, q⟩ := r.slots j x ej
      refine ⟨v, e1, q.kp k fun b hb => ?_⟩
      have h2 : cntO b (some x) + cntO b (some o) ≤ cntE b env := cntE_two hj ej e
      have h3 : x.cnt b + o.cnt b ≤ cntE b env := h2
      refine same b (by omega) ?_ ?_
      · have := hone b; have := hle b; omega
      · have := hone b; omega
  · have := hone b; have := hc b; have := cy b; omega
  · rcases sN b hb with q | ⟨q1, q2⟩
    · have h1 := r.apart b q
      rw [hap] at h1
      have := hc b; have := cy b
      have := he b; have := hle b
      omega
    · have := hone b; have := hc b; have := he b; have := hle b; omega
  · refine old b u (r.keep b u h1 h2) ?_ ?_
    · by_cases q : 0 < o'.cnt b
      · rcases r.new b (by have := he b; have := hle b; omega) with z | z
        · exact absurd z h2
        · rw [z] at h1; cases h1
      · omega
    · by_cases q : 0 < cntT b P
      · rcases r.new b (by rw [hap]; omega) with z | z
        · exact absurd z h2
        · rw [z] at h1; cases h1
      · omega
  · refine r.new b ?_
    rw [hap]
    have := hc b; have := cy b
    have := he b; have := hle b
    omega
  · rcases sN b hb with q | ⟨q1, _⟩
    · exact r.newS b q
    · refine .inr (r.new b ?_)
      rw [hap]
      have := he b; have := hle b
      omega
theorem R.escAt (r : R K B S H σ env T) {i : Nat} {p : List Stp} {a : Addr} {kd : Kd} {xs : List O} (h : envAt env i p = some (.obj a kd xs)) :
    ∃ S', R K B S' H σ (envPut env i p (.d (O.obj a kd xs).toD)) ((.ref a, .o (.d (O.obj a kd xs).toD)) :: T) := by
  refine ⟨fun b => S b ∨ 0 < (O.obj a kd xs).cnt b, ?_⟩
  have k : Kp S (fun b => S b ∨ 0 < (O.obj a kd xs).cnt b) H H := Kp.more fun b h => .inl h
  obtain ⟨o, e, ha⟩ := envAt_some h
  have hin : ∀ b, (O.obj a kd xs).cnt b ≤ cntE b env := fun b => by
    obtain ⟨v, _, q⟩ := r.slots i o e
    obtain ⟨_, _, c⟩ := q.at ha
    exact Nat.le_trans (c b) (cntE_get e)
  have r1 := R.putAt (P := []) (T := T) (y := .d (O.obj a kd xs).toD) r h k (fun w q => .d (q.froze (fun b h => .inl h) fun b h => .inr h)) (fun t _ q => q.kp k fun _ _ => rfl) (fun _ _ _ _ => rfl)
    (fun b => Nat.zero_le _) (fun b hb => hb.elim .inl fun z => .inr ⟨z, rfl⟩) (fun b hb => ?_) (fun _ _ z _ _ => z) (fun _ z => z)
  · refine r1.push ?_
    obtain ⟨vs, hv, hf, w⟩ := r.seenObj h
    exact (OwnR.obj hv hf w).froze (fun b h => .inl h) fun b h => .inr h
  · rcases hb with hb | hb
    · exact r.sH b hb
    · obtain ⟨_, _, e'⟩ := r.live (a := b) (by have := hin b; omega)
      rw [e']; simp
theorem R.esc {v : V} {w : W} (r : R K B S H σ env ((v, w) :: T)) {Q : D → Env → Prop} (h : escW w env Q) : ∃ x env' S', Q x env' ∧ R K B S' H σ env' ((v, .o (.d x)) :: T) := by
  cases w with
  | o x => exact ⟨x.toD, env, _, h, r.froze⟩
  | al a i p =>
    have tv : v = .ref a := r.tmps (v, .al a i p) List.mem_cons_self
    subst tv
    unfold escW at h
    cases e : envAt env i p with
    | none => simp only [e] at h
    | some y =>
      simp only [e] at h
      cases y with
      | d _ => exact h.elim
      | tup _ => exact h.elim
      | obj b k xs =>
        obtain ⟨rfl, q⟩ := h
        obtain ⟨S', r'⟩ := r.pop.escAt e
        exact ⟨_, _, S', q, r'⟩
theorem R.into {v : V} {w : W} (r : R K B S H σ env ((v, w) :: T)) {Q : O → Env → Prop} (h : inW w env Q) : ∃ o env' S', Q o env' ∧ R K B S' H σ env' ((v, .o o) :: T) := by
  cases w with
  | o x => exact ⟨x, env, S, h, r⟩
  | al a i p =>
    obtain ⟨x, env', S', q, r'⟩ := r.esc (Q := fun x env' => Q (.d x) env') h
    exact ⟨_, _, S', q, r'⟩
theorem R.intos : ∀ (P : List (V × W)) {L : List (V × W)} {S : Fz} {env : Env} {Q : List O → Env → Prop}, R K B S H σ env (L ++ (P ++ T)) → inWs (P.map (·.2)) env Q →
    ∃ os env' S', Q os env' ∧ os.length = P.length ∧ R K B S' H σ env' (L ++ ((P.map (·.1)).zip (os.map W.o) ++ T))
  | [], L, S, env, Q, r, h => ⟨[], env, S, h, rfl, r⟩
  | (v, w) :: P, L, S, env, Q, r, h => by
    have r1 : R K B S H σ env ((v, w) :: (L ++ (P ++ T))) := r.perm (fun t ht => by
      rcases List.mem_cons.mp ht with e | ht
      · subst e; exact List.mem_append_right _ List.mem_cons_self
      · rcases List.mem_append.mp ht with ht | ht
        · exact List.mem_append_left _ ht
        · exact List.mem_append_right _ (List.mem_cons_of_mem _ ht)) fun b => by
        show cntW b w + cntT b (L ++ (P ++ T)) ≤ cntT b (L ++ ((v, w) :: (P ++ T)))
        rw [cntT_append, cntT_append b L ((v, w) :: (P ++ T))]
        show _ ≤ _ + (cntW b w + _)
        omega
    obtain ⟨o, env1, S1, q, r2⟩ := r1.into h
    have r3 : R K B S1 H σ env1 ((L ++ [(v, .o o)]) ++ (P ++ T)) := r2.perm (fun t ht => by
      rcases List.mem_append.mp ht with ht | ht
      · rcases List.mem_append.mp ht with ht | ht
        · exact List.mem_cons_of_mem _ (List.mem_append_left _ ht)
        · rw [List.mem_singleton.mp ht]; exact List.mem_cons_self
      · exact List.mem_cons_of_mem _ (List.mem_append_right _ ht)) fun b => by
        show _ ≤ cntW b (.o o) + cntT b (L ++ (P ++ T))
        rw [cntT_append, cntT_append b L [_], cntT_append b L]
        show _ + (cntW b (.o o) + 0) + _ ≤ _
        omega
    obtain ⟨os, env2, S2, q2, hl, r4⟩ := R.intos P r3 q
    refine ⟨o :: os, env2, S2, q2, congrArg (· + 1) hl, ?_⟩
    rw [List.append_assoc] at r4
    exact r4
theorem ownA_of : ∀ {vs : List V} {os : List O}, vs.length = os.length → (∀ t ∈ vs.zip (os.map W.o), TmpR K S H t) → OwnA K S H vs os
  | [], [], _, _ => .nil
  | _ :: _, [], h, _ => nomatch h
  | [], _ :: _, h, _ => nomatch h
  | v :: vs, o :: os, h, f => .cons (f (v, .o o) List.mem_cons_self) (ownA_of (Nat.succ.inj h) fun t ht => f t (List.mem_cons_of_mem _ ht))
theorem cntT_zip (b : Addr) : ∀ {vs : List V} {os : List O}, vs.length = os.length → cntT b (vs.zip (os.map W.o)) = O.cntL b os
  | [], [], _ => rfl
  | _ :: _, [], h => nomatch h
  | [], _ :: _, h => nomatch h
  | v :: vs, o :: os, h => by
    show o.cnt b + cntT b (vs.zip (os.map W.o)) = o.cnt b + O.cntL b os
    rw [cntT_zip b (Nat.succ.inj h)]
end
end Vx
namespace Vx
open PySem PySem.Spec L2

/-! ### readings -/
abbrev WT := (Exn → Env → Prop) → Env → (W → Env → Prop) → Prop
abbrev WA := (Exn → Env → Prop) → Env → (List W → Env → Prop) → Prop
abbrev WB := (Exn → Env → Prop) → Env → (Bool → Env → Prop) → Prop
/-- how an exception lies -/
def ExR (K : PySem.W.Frag) (mg : Str → Option Value) (S : Fz) (H : Hp) (ex : Exn) (cls : Value) (d : Option Addr) : Prop :=
  ∃ (C dx : Addr) (xs : List V), cls = .ref C ∧ d = some dx ∧ S dx ∧ H dx = some (.xd (ex.ns.zip xs)) ∧ ex.ns.length = xs.length ∧ PySem.W.nsIn K mainGlobals ex.cls = some (some (.ref C)) ∧ ExK K C ex.ns ∧ RpA K S H xs ex.ds
/-- what is wished of exceptions -/
def Lets (X : Cx) (B : Bs) (Wx : WX) (PX : Exn → Env → Prop) : Prop :=
  ∀ ex env S H σ cls d, PX ex env → R X.K B S H σ env [] → ExR X.K X.mg S H ex cls d → Wx cls d σ H
section
variable (X : Cx) (B : Bs) (Wx : WX)
def tE (w : WT) : TE := fun σ H Q => ∃ S env T P PX, R X.K B S H σ env T ∧ w PX env P ∧ (∀ x env' v S' H', P x env' → R X.K B S' H' σ env' ((v, x) :: T) → Q v H') ∧ Lets X B Wx PX
def tA' (w : WA) : TA := fun σ H Q => ∃ S env T P PX, R X.K B S H σ env T ∧ w PX env P ∧
  (∀ env' Z S' H', P (Z.map (·.2)) env' → R X.K B S' H' σ env' (Z ++ T) → Q (Z.map (·.1)) H') ∧ Lets X B Wx PX
def tT (w : WB) : TT := fun σ H Q => ∃ S env T P PX, R X.K B S H σ env T ∧ w PX env P ∧ (∀ b env' S' H', P b env' → R X.K B S' H' σ env' T → Q b H') ∧ Lets X B Wx PX
end
section
variable {X : Cx} {B : Bs} {Wx : WX}
theorem PE_imp {e : Expr} {t t' : TE} (h : PE X e t) (f : ∀ σ H Q, t' σ H Q → t σ H Q) : PE X e t' := ⟨fun pins s σ H Q I q => h.run pins s σ H Q I (f σ H Q q)⟩
theorem PT_imp {e : Expr} {t t' : TT} (h : PT X e t) (f : ∀ σ H Q, t' σ H Q → t σ H Q) : PT X e t' := ⟨fun pins s σ H Q I q => h.run pins s σ H Q I (f σ H Q q)⟩
theorem PA_imp {es : List Expr} {t t' : TA} (h : PA X es t) (f : ∀ σ H Q, t' σ H Q → t σ H Q) : PA X es t' := ⟨fun pos pins s σ H Q I q => h.run pos pins s σ H Q I (f σ H Q q)⟩

variable {a b c : Expr} {wa wb wc : WT} {pos : Pos}
/-! ### constants, names -/
theorem s_const {x : D} {v : V} (h : PE X a (tC v)) (rp : ∀ K S H, Rp K S H v x) : PE X a (tE X B Wx fun _ env P => P (.o (.d x)) env) :=
  PE_imp h fun σ H Q ⟨S, env, T, P, PX, r, hw, hP, _⟩ => hP _ env v S H hw (r.push (rp _ _ _))
def wVar (i : Nat) : WT := fun _ env P => match env[i]? with
  | some (some (.d x)) => P (.o (.d x)) env
  | some (some (.obj a _ _)) => P (.al a i []) env
  | _ => False
theorem s_var {i : Nat} (h : PE X a (tVar i)) : PE X a (tE X B Wx (wVar i)) :=
  PE_imp h fun σ H Q ⟨S, env, T, P, PX, r, hw, hP, _⟩ => by
    unfold wVar at hw
    cases e : env[i]? with
    | none => rw [e] at hw; exact hw.elim
    | some o =>
      rw [e] at hw
      cases o with
      | none => exact hw.elim
      | some o =>
        obtain ⟨v, e1, q⟩ := r.slots i o e
        cases o with
        | d x =>
          cases q with
          | d q => exact ⟨v, e1, hP _ env v S H hw (r.push q)⟩
        | tup _ => exact hw.elim
        | obj p k xs =>
          have ev := q.ref rfl
          subst ev
          exact ⟨_, e1, hP _ env _ S H hw r.seen⟩
/-! ### two operands, an operator by values -/
theorem s_two {r2 : R2} {k : W → W → Env → (W → Env → Prop) → Prop}
    (step : ∀ (S : Fz) (H : Hp) (σ : L2.St) (env : Env) (T : List (V × W)) (vx vy : V) (x y : W) (P : W → Env → Prop) (Q : VK), R X.K B S H σ env ((vy, y) :: (vx, x) :: T) → k x y env P →
      (∀ x env' v S' H', P x env' → R X.K B S' H' σ env' ((v, x) :: T) → Q v H') → r2 vx vy H Q)
    {σ : L2.St} {H : Hp} {Q : VK} (h : tE X B Wx (fun PX env P => wa PX env fun x env1 => wb PX env1 fun y env2 => k x y env2 P) σ H Q) :
    tOp r2 (tE X B Wx wa) (tE X B Wx wb) σ H Q := by
  obtain ⟨S, env, T, P, PX, r, hw, hP, hX⟩ := h
  refine ⟨S, env, T, _, PX, r, hw, fun x env1 vx S1 H1 hq r1 => ?_, hX⟩
  refine ⟨S1, env1, (vx, x) :: T, _, PX, r1, hq, fun y env2 vy S2 H2 hk r2 => ?_, hX⟩
  exact step S2 H2 σ env2 T vx vy x y P Q r2 hk hP
/-- both used at once -/
theorem use2 {S : Fz} {H : Hp} {σ : L2.St} {env : Env} {T : List (V × W)} {vx vy : V} {x y : W} {k : D → D → Prop} (r : R X.K B S H σ env ((vy, y) :: (vx, x) :: T)) (h : useW x env fun dx => useW y env fun dy => k dx dy) :
    ∃ S' dx dy, R X.K B S' H σ env T ∧ k dx dy ∧ Ud X.K S' H vx dx ∧ Ud X.K S' H vy dy := by
  obtain ⟨S', r', f⟩ := R.used (P := [(vy, y), (vx, x)]) (T := T) r
  obtain ⟨dx, h, ux⟩ := f (vx, x) (List.mem_cons_of_mem _ List.mem_cons_self) _ h
  obtain ⟨dy, h, uy⟩ := f (vy, y) List.mem_cons_self _ h
  exact ⟨S', dx, dy, R.pops r', h, ux, uy⟩
/-- a new list of data -/
theorem newData {S : Fz} {H : Hp} {σ : L2.St} {env : Env} {T : List (V × W)} {p : Addr} {vs : List V} {ds : List D} (r : R X.K B S H σ env T) (hp : H p = none) (ra : RpA X.K S H vs ds) :
    R X.K B S (upd H p (.lst vs)) σ env ((.ref p, .o (.lst p (ds.map .d))) :: T) :=
  R.newLst (P := []) (T := T) r hp (OwnA.of_data ra) fun b => by rw [O.cntL_map]; exact Nat.zero_le _
theorem newTup {S : Fz} {H : Hp} {σ : L2.St} {env : Env} {T : List (V × W)} {p : Addr} {vs : List V} {ds : List D} (r : R X.K B S H σ env T) (hp : H p = none) (ra : RpA X.K S H vs ds) :
    R X.K B S (upd H p (.tup vs)) σ env ((.ref p, .o (.d (.tuple ds))) :: T) := by
  have r1 := r.alloc (o := .tup vs) hp
  exact r1.push (.tup (.inl (.inl upd_same)) (ra.kp (Kp.new hp r.sH)))

/-- a condition with rules (two int operators) -/
theorem OpR_if {f : Value → Value → Sem Value} {C C' : Int → Int → Prop} {g : Int → Int → V} (h : OpR X f (rI C g)) (h' : OpR X f (rI C' g)) : OpR X f (rI (fun i j => C i j ∨ C' i j) g) :=
  fun pins s σ H x y v u Q I rx ry ⟨i, j, e1, e2, c, q⟩ => c.elim (fun c => h pins s σ H x y v u Q I rx ry ⟨i, j, e1, e2, c, q⟩) fun c => h' pins s σ H x y v u Q I rx ry ⟨i, j, e1, e2, c, q⟩
theorem op_mulV : OpR X (binaryOp .Mult) (rI MulOk fun i j => .int (i * j)) := OpR_if op_mul op_mulW
theorem op_fdivV : OpR X (binaryOp .FloorDiv) (rI (fun _ j => DivOk j) fun i j => .int (i.fdiv j)) := by
  intro pins s σ H x y v u Q I rx ry h
  obtain ⟨i, j, e1, e2, c, q⟩ := h
  rcases c with c | c
  · exact op_fdivN pins s σ H x y v u Q I rx ry ⟨i, j, e1, e2, c, q⟩
  · refine op_fdivW pins s σ H x y v u Q I rx ry ⟨i, j, e1, e2, c, ?_⟩
    show Q (.int (i / j)) H
    rw [← Int.fdiv_eq_ediv_of_nonneg i (Int.le_of_lt c.1)]
    exact q
/-- list + list, whatever lists they are -/
def rCatV (K : PySem.W.Frag) : R2 := fun x y H Q => ∃ l b xs zs, x = .ref l ∧ y = .ref b ∧ SqL K H l xs ∧ SqL K H b zs ∧ xs.length + zs.length ≤ sizeLine ∧ ∀ p, H p = none → Q (.ref p) (upd H p (.lst (xs ++ zs)))
theorem op_catV : OpR X (binaryOp .Add) (rCatV X.K) := by
  intro pins s σ H x y v u Q I rx ry h
  obtain ⟨l, b, xs, zs, rfl, rfl, h1, h2, hz, q⟩ := h
  cases rx
  cases ry
  obtain ⟨its, r1, ⟨⟨c1, d1, a1, sl1⟩, n1, e1, k1, k2, k3⟩, _⟩ := I.list h1
  obtain ⟨ws, r2, ⟨⟨c2, d2, a2, sl2⟩, n2, e2, m1, m2, m3⟩, _⟩ := I.list h2
  simp only at k1 k2 k3 m1 m2 m3
  subst k1 k2 k3 m1 m2 m3
  have g1 := r1.length
  have g2 := r2.length
  refine concat_meets ⟨_, e1, rfl⟩ ⟨_, e2, rfl⟩ noFill_list_add seq_list_add PySem.F.slot_list_add PySem.F.entry_list_add (PySem.F.args_list_add_2 _ _)
    (PyProof.Rows.list_addW l b its.toArray ws.toArray n1 n2 none none sl1 sl2 (by simp only [List.size_toArray]; omega)) ⟨e1, e2, ?_⟩
  have ea : its.toArray ++ ws.toArray = (its ++ ws).toArray := by simp
  rw [ea]
  exact ⟨.ref _, _, I.lnew (t' := s.toks) (r1.append r2) (by rw [List.length_append]; omega), rfl, q _ I.fresh⟩
section
open PyProof.Rows
theorem tup_mul1 (l : Addr) (items : Array Value) (n : Nat) (dd : Option Addr) (sl : Array (Option Value)) (u : Tok) :
    Meets (Builtin.«tuple.__mul__» ⟨[.ref l, .int 1 u], []⟩) (fun _ R s => s.heap.get? l = some { cls := .type "tuple", dict := dd, data := .seq items n, slots := sl } ∧ R (.ok (.ret (.ref l))) s) :=
  .of_wp fun prog w A R s h => by
    obtain ⟨hp, g, d, tk, os⟩ := s
    obtain ⟨hl, h⟩ := h
    have f1 := AutoSeq1.idx_int
    have c1 : (items.isEmpty || ((1 : Int) == 1)) = true := by simp
    wp_walk using wpAny_loadPart' hl
    exact ⟨_, rfl, h⟩
def rRep1 (K : PySem.W.Frag) : R2 := fun x y H Q => ∃ l xs, x = .ref l ∧ y = .int 1 ∧ SqT K H l xs ∧ Q (.ref l) H
theorem op_rep1 : OpR X (binaryOp .Mult) (rRep1 X.K) := by
  intro pins s σ H x y v u Q I rx ry h
  obtain ⟨l, xs, rfl, rfl, hT, q⟩ := h
  cases rx
  obtain ⟨t, rfl⟩ := ry
  obtain ⟨its, r, ⟨⟨cls, dd, data, sl⟩, ho, hc, n, hd⟩, hs⟩ := I.tuple hT
  simp only at hc hd
  subst hc hd
  exact wpAny_binaryOp_repeat_ref (T := "tuple") (U := "int") (by decide) ⟨_, ho, rfl⟩ (fun s' => typeIs_int s' 1 t) noFill_tuple_mul PySem.F.fills_int_mul PySem.F.slot_int_rmul repeat_tuple PySem.F.slot_int_index.lookup
    (call_meets PySem.F.slot_int_rmul (typeIs_int s 1 t) PySem.F.entry_int_rmul (PySem.F.args_int_rmul_2 _ _) (int_rmul_tuple 1 t l its.toArray n dd sl)
      ⟨ho, rfl, ⟨_, ho, rfl⟩, call_meets PySem.F.slot_tuple_mul ⟨_, ho, rfl⟩ PySem.F.entry_tuple_mul (PySem.F.args_tuple_mul_2 _ _) (tup_mul1 l its.toArray n dd sl t) ⟨ho, ⟨.ref l, H, I, rfl, q⟩⟩⟩)
/-- tuple * 0 -/
theorem tup_mul0 (l : Addr) (items : Array Value) (n : Nat) (dd : Option Addr) (sl : Array (Option Value)) (u : Tok) (hi : items.isEmpty = false) :
    Meets (Builtin.«tuple.__mul__» ⟨[.ref l, .int 0 u], []⟩) (fun _ R s => s.heap.get? l = some { cls := .type "tuple", dict := dd, data := .seq items n, slots := sl } ∧
      R (.ok (.ret (Value.ref s.heap.objs.size))) { s with heap := s.heap.push { cls := Value.type "tuple", data := Data.seq #[] }, toks := s.toks }) :=
  .of_wp fun prog w A R s h => by
    obtain ⟨hp, g, d, tk, os⟩ := s
    obtain ⟨hl, h⟩ := h
    have f1 := AutoSeq1.idx_int
    have c1 : (items.isEmpty || ((0 : Int) == 1)) = false := by rw [hi]; rfl
    have c2 : (decide ((0 : Int) ≤ 0) || items.isEmpty) = true := by simp
    wp_walk using wpAny_loadPart' hl
    exact ⟨_, rfl, h⟩
def rRep0 (K : PySem.W.Frag) : R2 := fun x y H Q => ∃ l xs, x = .ref l ∧ y = .int 0 ∧ SqT K H l xs ∧ xs ≠ [] ∧ ∀ p, H p = none → Q (.ref p) (upd H p (.tup []))
theorem op_rep0 : OpR X (binaryOp .Mult) (rRep0 X.K) := by
  intro pins s σ H x y v u Q I rx ry h
  obtain ⟨l, xs, rfl, rfl, hT, hne, q⟩ := h
  cases rx
  obtain ⟨t, rfl⟩ := ry
  obtain ⟨its, r, ⟨⟨cls, dd, data, sl⟩, ho, hc, n, hd⟩, hs⟩ := I.tuple hT
  simp only at hc hd
  subst hc hd
  have hle : its.length = xs.length := r.length.symm
  have hi : its.toArray.isEmpty = false := by
    cases its with
    | nil => exact absurd (List.eq_nil_of_length_eq_zero hle.symm) hne
    | cons a b => rfl
  exact wpAny_binaryOp_repeat_ref (T := "tuple") (U := "int") (by decide) ⟨_, ho, rfl⟩ (fun s' => typeIs_int s' 0 t) noFill_tuple_mul PySem.F.fills_int_mul PySem.F.slot_int_rmul repeat_tuple PySem.F.slot_int_index.lookup
    (call_meets PySem.F.slot_int_rmul (typeIs_int s 0 t) PySem.F.entry_int_rmul (PySem.F.args_int_rmul_2 _ _) (int_rmul_tuple 0 t l its.toArray n dd sl)
      ⟨ho, rfl, ⟨_, ho, rfl⟩, call_meets PySem.F.slot_tuple_mul ⟨_, ho, rfl⟩ PySem.F.entry_tuple_mul (PySem.F.args_tuple_mul_2 _ _) (tup_mul0 l its.toArray n dd sl t hi)
        ⟨ho, ⟨.ref s.heap.objs.size, _, I.laid (t' := s.toks) (o := .tup []) (fun b ob q => Heap.get?_push_of_some _ q) (Nat.le_refl _) ⟨by show 0 ≤ _; exact Nat.zero_le _, [], .nil, IsTup.new _ _⟩, rfl, q _ (I.hok.fresh (Nat.le_refl _))⟩⟩⟩)
end
/-! a text, a list so many times -/
theorem foldl_app {α : Type} (a : Array α) : ∀ (m : Nat) (b : Array α), (List.replicate m a).foldl (· ++ ·) b = b ++ (List.replicate m a.toList).flatten.toArray
  | 0, b => by simp
  | m + 1, b => by
    rw [List.replicate_succ, List.foldl_cons, foldl_app a m, List.replicate_succ, List.flatten_cons]
    apply Array.toList_inj.mp
    simp
theorem repS_cps (x : Str) (k : Int) : (repS x k).cps.toList = (List.replicate k.toNat x.cps.toList).flatten := by
  unfold repS
  rw [foldl_app]
  simp
theorem repS_size (x : Str) (k : Int) : (repS x k).cps.size = x.length * k.toNat := by
  rw [← Array.length_toList, repS_cps, PyProof.Rows.lm_len_rep_flat, Array.length_toList, Nat.mul_comm]; rfl
theorem op_mulS : OpR X (binaryOp .Mult) (fun x y H Q => ∃ z k, x = .str z ∧ y = .int k ∧ k ≤ 1000000 ∧ -1000000 ≤ k ∧ z.length ≤ 1000000 ∧ z.length * k.toNat ≤ 1000000 ∧ Q (.str (repS z k)) H) := by
  intro pins s σ H x y v u Q I rx ry h
  obtain ⟨z, k, rfl, rfl, h1, h2, h4, h3, q⟩ := h
  obtain ⟨t, rfl⟩ := rx
  obtain ⟨t2, rfl⟩ := ry
  have fin : ∀ {y : Str} {t : Tok} {s' : Shared}, y = repS z k → L2.Inv X pins σ H s' → EP X pins σ Q (.str y t) s' := fun e J => ⟨.str _, H, J, ⟨_, rfl⟩, by rw [e]; exact q⟩
  refine PySem.P.mul_str ?_ (fun a b => ?_) (fun a b => ?_) ?_
  · rw [decide_eq_false (by omega), decide_eq_false (by omega)]; rfl
  · have hk : 0 < k := by omega
    have : (1000000 : Int) ≤ (2 ^ 63 - 1) / k := by
      rw [Int.le_ediv_iff_mul_le hk]; omega
    omega
  · unfold Builtin.Str.tooLong
    have : (1000000 : Nat) < sizeLine := by decide
    exact decide_eq_false (by omega)
  · by_cases a : k < 1
    · rw [if_pos a]
      refine ⟨by decide, fin ?_ (I.tok _)⟩
      unfold repS
      rw [show k.toNat = 0 by omega]; rfl
    · rw [if_neg a]
      by_cases b : (k == 1 || z.length == 0) = true
      · rw [if_pos b]
        refine fin ?_ I
        apply PySem.Str.ext'
        apply Array.toList_inj.mp
        rw [repS_cps]
        rcases (Bool.or_eq_true _ _).mp b with e | e
        · rw [show k = 1 from by simpa using e]; simp
        · have : z.cps.toList = [] := by
            have e : z.length = 0 := by simpa using e
            rw [Array.eq_empty_of_size_eq_zero (show z.cps.size = 0 from e)]
          rw [this]; simp
      · rw [if_neg b]
        refine ⟨?_, fin rfl (I.tok _)⟩
        show (repS z k).cps.size ≤ sizeLine
        rw [repS_size]
        have : (1000000 : Nat) < sizeLine := by decide
        omega
/-- a list so many times, whatever list it is -/
theorem list_mulV (l : Addr) (items : Array Value) (n : Nat) (sl : Array (Option Value)) (x : Int) (u : Tok) (c0 : ¬(!Builtin.List.listFitsIndex x) = true) (c1 : ¬items.size * x.toNat > (2 ^ 63 - 1) / 8) (c2 : ¬Builtin.List.listTooLong (items.size * x.toNat) = true) :
    Meets (Builtin.«list.__mul__» ⟨[.ref l, .int x u], []⟩) (fun _ R s => s.heap.get? l = some { cls := .type "list", dict := none, data := .seq items n, slots := sl } ∧
      R (.ok (.ret (Value.ref s.heap.objs.size))) { s with heap := s.heap.push { cls := Value.type "list", data := Data.seq (List.foldl (fun x1 x2 => x1 ++ x2) #[] (List.replicate (if items.isEmpty = true then 0 else x.toNat) items)) }, toks := s.toks }) :=
  .of_wp fun prog w A R s h => by
    obtain ⟨hp, g, d, tk, os⟩ := s
    obtain ⟨hl, h⟩ := h
    have fit := PySem.AutoListH.joined_fits c2
    wp_walk using AutoSeq1.wpAny_loadPart' hl
    refine wpAny_ite_false (decide_eq_false (Nat.not_lt.mpr fit)) ?_
    wp_walk using AutoSeq1.wpAny_loadPart' hl
    exact ⟨_, rfl, h⟩
theorem int_rmul_listV (a : Int) (t : Tok) (l : Addr) (items : Array Value) (n : Nat) (sl : Array (Option Value)) :
    Meets (Builtin.«int.__rmul__» ⟨[.int a t, .ref l], []⟩) (fun _ R s => s.heap.get? l = some { cls := .type "list", dict := none, data := .seq items n, slots := sl } ∧ R (.ok (.ret Value.notImplemented)) s) :=
  .of_wp fun prog w A R s h => by
    obtain ⟨hp, g, d, tk, os⟩ := s
    obtain ⟨hl, h⟩ := h
    wp_walk using AutoSeq1.wpAny_loadPart' hl
    exact ⟨_, rfl, h⟩
def rRepV (K : PySem.W.Frag) : R2 := fun x y H Q => ∃ l k xs, x = .ref l ∧ y = .int k ∧ SqL K H l xs ∧ -1000000 ≤ k ∧ k ≤ 1000000 ∧ xs.length * k.toNat ≤ 1000000 ∧ ∀ p, H p = none → Q (.ref p) (upd H p (.lst (List.replicate k.toNat xs).flatten))
theorem op_repV : OpR X (binaryOp .Mult) (rRepV X.K) := by
  intro pins s σ H x y v u Q I rx ry h
  obtain ⟨l, k, xs, rfl, rfl, hq, h1, h2, hz, q⟩ := h
  cases rx
  obtain ⟨t, rfl⟩ := ry
  obtain ⟨its, r, ⟨⟨cls, dd, data, sl⟩, n, e, k1, k2, k3⟩, _⟩ := I.list hq
  simp only at k1 k2 k3
  subst k1 k2 k3
  have hl := r.length
  have big : (1000000 : Nat) < sizeLine := by decide
  have size : its.toArray.size * k.toNat ≤ 1000000 := by rw [List.size_toArray, ← hl]; exact hz
  have room : ¬ its.toArray.size * k.toNat > (2 ^ 63 - 1) / 8 := by
    have : (1000000 : Nat) ≤ (2 ^ 63 - 1) / 8 := by decide
    omega
  have fits : ¬ (!Builtin.List.listFitsIndex k) = true := by
    simp only [Builtin.List.listFitsIndex]
    rw [decide_eq_true (by omega), decide_eq_true (by omega)]
    decide
  have long : ¬ Builtin.List.listTooLong (its.toArray.size * k.toNat) = true := by
    simp only [Builtin.List.listTooLong]
    rw [decide_eq_false (by omega)]
    decide
  have new : List.foldl (fun x1 x2 => x1 ++ x2) #[] (List.replicate (if its.toArray.isEmpty = true then 0 else k.toNat) its.toArray) = (List.replicate k.toNat its).flatten.toArray := by
    rw [foldl_app]
    cases its with
    | nil => simp
    | cons a z => rw [if_neg (by simp)]; simp
  refine wpAny_binaryOp_repeat_ref (T := "list") (U := "int") (by decide) ⟨_, e, rfl⟩ (fun s2 => typeIs_int s2 k t) noFill_list_mul PySem.F.fills_int_mul PySem.F.slot_int_rmul repeat_list PySem.F.slot_int_index.lookup
    (call_meets PySem.F.slot_int_rmul (typeIs_int s k t) PySem.F.entry_int_rmul (PySem.F.args_int_rmul_2 _ _) (int_rmul_listV k t l its.toArray n sl)
      ⟨e, rfl, ⟨_, e, rfl⟩, call_meets PySem.F.slot_list_mul ⟨_, e, rfl⟩ PySem.F.entry_list_mul (PySem.F.args_list_mul_2 _ _) (list_mulV l its.toArray n sl k t fits room long) ⟨e, ?_⟩⟩)
  rw [new]
  exact ⟨.ref _, _, I.lnew (t' := s.toks) (r.rep k.toNat) (by rw [PyProof.Rows.lm_len_rep_flat, Nat.mul_comm]; omega), rfl, q _ I.fresh⟩
/-- a truth and an int -/
def rBI (g : Bool → Int → Int) : R2 := fun x y H Q => ∃ b j, x = .bl b ∧ y = .int j ∧ Q (.int (g b j)) H
theorem op_addB : OpR X (binaryOp .Add) (rBI fun b j => (if b = true then (1 : Int) else 0) + j) := by
  intro pins s σ H x y v u Q I rx ry h
  obtain ⟨b, j, rfl, rfl, q⟩ := h
  cases rx
  obtain ⟨t, rfl⟩ := ry
  exact PySem.IntBool.add_bool_int ⟨.int _, H, I.tok _, ⟨_, rfl⟩, q⟩
theorem op_subB : OpR X (binaryOp .Sub) (rBI fun b j => (if b = true then (1 : Int) else 0) - j) := by
  intro pins s σ H x y v u Q I rx ry h
  obtain ⟨b, j, rfl, rfl, q⟩ := h
  cases rx
  obtain ⟨t, rfl⟩ := ry
  exact PySem.IntBool.sub_bool_int ⟨.int _, H, I.tok _, ⟨_, rfl⟩, q⟩
def opOf : Bop → Operator
  | .add => .Add
  | .sub => .Sub
  | .mul => .Mult
  | .fdiv => .FloorDiv
  | .mod => .Mod
  | .pow => .Pow
/-- the operators by values: what the library's rules ask -/
def rBop (X : Cx) : Bop → R2
  | .add => fun x y H Q => (rI0 (fun i j => .int (i + j)) x y H Q ∨ (∃ i j, x = .str i ∧ y = .str j ∧ i.length + j.length ≤ sizeLine ∧ Q (.str (i ++ j)) H)) ∨ ((rCatA X.K x y H Q ∨ rCatV X.K x y H Q) ∨ rBI (fun b j => (if b = true then (1 : Int) else 0) + j) x y H Q)
  | .sub => fun x y H Q => rI0 (fun i j => .int (i - j)) x y H Q ∨ rBI (fun b j => (if b = true then (1 : Int) else 0) - j) x y H Q
  | .mul => fun x y H Q => (rI MulOk (fun i j => .int (i * j)) x y H Q ∨ (rRepT X.K x y H Q ∨ (rRep1 X.K x y H Q ∨ rRep0 X.K x y H Q))) ∨ ((∃ z k, x = .str z ∧ y = .int k ∧ k ≤ 1000000 ∧ -1000000 ≤ k ∧ z.length ≤ 1000000 ∧ z.length * k.toNat ≤ 1000000 ∧ Q (.str (repS z k)) H) ∨ rRepV X.K x y H Q)
  | .fdiv => rI (fun _ j => DivOk j) fun i j => .int (i.fdiv j)
  | .mod => rI (fun _ j => j ≠ 0) fun i j => .int (i.fmod j)
  | .pow => rI CPow fun i j => .int (i ^ j.toNat)
theorem op_bop (op : Bop) : OpR X (binaryOp (opOf op)) (rBop X op) := by
  cases op with
  | add => exact OpR.or (OpR.or op_add op_add_str) (OpR.or (OpR.or op_catA op_catV) op_addB)
  | sub => exact OpR.or op_sub op_subB
  | mul => exact OpR.or (OpR.or op_mulV (OpR.or op_repT (OpR.or op_rep1 op_rep0))) (OpR.or op_mulS op_repV)
  | fdiv => exact op_fdivV
  | mod => exact op_modN
  | pow => exact op_pow
theorem bop_step (op : Bop) (S : Fz) (H : Hp) (σ : L2.St) (env : Env) (T : List (V × W)) (vx vy : V) (x y : W) (P : W → Env → Prop) (Q : VK) (r : R X.K B S H σ env ((vy, y) :: (vx, x) :: T))
    (h : useW x env fun dx => useW y env fun dy => bopW op dx dy fun o => P (.o o) env)
    (hP : ∀ x env' v S' H', P x env' → R X.K B S' H' σ env' ((v, x) :: T) → Q v H') : rBop X op vx vy H Q := by
  obtain ⟨S', dx, dy, r', h, ux, uy⟩ := use2 r h
  have dat : ∀ {v : V} {d : D}, P (.o (.d d)) env → Rp X.K S' H v d → Q v H := fun h q => hP _ _ _ _ _ h (r'.push q)
  cases op with
  | add =>
    cases dx <;> cases dy <;> first
      | exact h.elim
      | skip
    · obtain rfl := ux.bool
      obtain rfl := uy.int
      exact .inr (.inr ⟨_, _, rfl, rfl, dat h (.int _)⟩)
    · obtain rfl := ux.int
      obtain rfl := uy.int
      exact .inl (.inl ⟨_, _, rfl, rfl, dat h (.int _)⟩)
    · obtain rfl := ux.str
      obtain rfl := uy.str
      exact .inl (.inr ⟨_, _, rfl, rfl, h.1, dat h.2 (.str _)⟩)
    · rename_i xs ys
      obtain ⟨hz, h⟩ := h
      obtain ⟨a, vs, rfl, ha, ra⟩ := ux.list
      obtain ⟨b, ws, rfl, hb, rb⟩ := uy.list
      have l1 := ra.length
      have l2 := rb.length
      exact .inr (.inl (.inr ⟨a, b, vs, ws, rfl, rfl, ha, hb, by omega, fun p hp => hP _ _ _ _ _ (h p) (newData r' hp (ra.append rb))⟩))
    · rename_i xs ys
      obtain ⟨hz, h⟩ := h
      obtain ⟨a, vs, rfl, ha, ra⟩ := ux.tup
      obtain ⟨b, ws, rfl, hb, rb⟩ := uy.tup
      have l1 := ra.length
      have l2 := rb.length
      refine .inr (.inl (.inl ⟨a, b, vs, ws, rfl, rfl, ha, hb, by omega, fun e => ?_, fun _ e => ?_, fun _ _ p hp => ?_⟩))
      · subst e
        cases ra
        exact dat h uy.rp_tup
      · subst e
        cases rb
        rw [List.append_nil] at h
        exact dat h ux.rp_tup
      · exact hP _ _ _ _ _ h (newTup r' hp (ra.append rb))
  | sub =>
    cases dx <;> cases dy <;> first
      | exact h.elim
      | skip
    · obtain rfl := ux.bool
      obtain rfl := uy.int
      exact .inr ⟨_, _, rfl, rfl, dat h (.int _)⟩
    · obtain rfl := ux.int
      obtain rfl := uy.int
      exact .inl ⟨_, _, rfl, rfl, dat h (.int _)⟩
  | mul =>
    cases dx <;> cases dy <;> first
      | exact h.elim
      | skip
    · obtain rfl := ux.int
      obtain rfl := uy.int
      exact .inl (.inl ⟨_, _, rfl, rfl, h.1, dat h.2 (.int _)⟩)
    · obtain rfl := ux.str
      obtain rfl := uy.int
      obtain ⟨h1, h2, h3, h4, h⟩ := h
      exact .inr (.inl ⟨_, _, rfl, rfl, h2, h1, h3, h4, dat h (.str _)⟩)
    · rename_i xs k
      obtain ⟨h1, h2, h3, h⟩ := h
      obtain ⟨a, vs, rfl, ha, ra⟩ := ux.list
      obtain rfl := uy.int
      have hl := ra.length
      refine .inr (.inr ⟨a, k, vs, rfl, rfl, ha, h1, h2, by rw [hl]; exact h3, fun p hp => hP _ _ _ _ _ (h p) (newData r' hp ?_)⟩)
      have go : ∀ m : Nat, RpA X.K S' H (List.replicate m vs).flatten (List.replicate m xs).flatten := fun m => by
        induction m with
        | zero => exact .nil
        | succ m ih => rw [List.replicate_succ, List.replicate_succ, List.flatten_cons, List.flatten_cons]; exact ra.append ih
      exact go _
    · rename_i xs k
      obtain ⟨h0, h1, h2, h3, h⟩ := h
      obtain ⟨a, vs, rfl, ha, ra⟩ := ux.tup
      obtain rfl := uy.int
      have hl := ra.length
      have hne : vs ≠ [] := fun z => by
        subst z
        cases xs with
        | nil => cases h0
        | cons _ _ => cases ra
      by_cases hk : k = 1
      · subst hk
        rw [show (List.replicate (1 : Int).toNat xs).flatten = xs by simp] at h
        exact .inl (.inr (.inr (.inl ⟨a, vs, rfl, rfl, ha, dat h (.tup ha ra)⟩)))
      by_cases hk0 : k = 0
      · subst hk0
        rw [show (List.replicate (0 : Int).toNat xs).flatten = [] by rfl] at h
        exact .inl (.inr (.inr (.inr ⟨a, vs, rfl, rfl, ha, hne, fun p hp => hP _ _ _ _ _ h (newTup r' hp .nil)⟩)))
      · refine .inl (.inr (.inl ⟨a, k, vs, rfl, rfl, ha, hne, by omega, h2, by omega, fun p hp => hP _ _ _ _ _ h (newTup r' hp ?_)⟩))
        have go : ∀ m : Nat, RpA X.K S' H (List.replicate m vs).flatten (List.replicate m xs).flatten := fun m => by
          induction m with
          | zero => exact .nil
          | succ m ih => rw [List.replicate_succ, List.replicate_succ, List.flatten_cons, List.flatten_cons]; exact ra.append ih
        exact go _
  | fdiv =>
    cases dx <;> cases dy <;> first
      | exact h.elim
      | skip
    obtain rfl := ux.int
    obtain rfl := uy.int
    exact ⟨_, _, rfl, rfl, h.1, dat h.2 (.int _)⟩
  | mod =>
    cases dx <;> cases dy <;> first
      | exact h.elim
      | skip
    obtain rfl := ux.int
    obtain rfl := uy.int
    exact ⟨_, _, rfl, rfl, h.1, dat h.2 (.int _)⟩
  | pow =>
    cases dx <;> cases dy <;> first
      | exact h.elim
      | skip
    obtain rfl := ux.int
    obtain rfl := uy.int
    exact ⟨_, _, rfl, rfl, h.1, dat h.2 (.int _)⟩
theorem s_bin (op : Bop) (ha : PE X a (tE X B Wx wa)) (hb : PE X b (tE X B Wx wb)) : PE X (.BinOp a (opOf op) b pos)
    (tE X B Wx fun PX env P => wa PX env fun x env1 => wb PX env1 fun y env2 => useW x env2 fun dx => useW y env2 fun dy => bopW op dx dy fun o => P (.o o) env2) :=
  PE_imp (pe_op (op_bop op) ha hb) fun σ H Q h => s_two (bop_step op) h
end
end Vx
namespace Vx
open PySem PySem.Spec L2
section
variable {X : Cx} {B : Bs} {Wx : WX}
def toB (w : WT) : WB := fun PX env P => w PX env fun x env' => tst x fun b => P b env'
/-- an expression: as a value, as a test -/
structure Snd (X : Cx) (B : Bs) (Wx : WX) (e : Expr) (w : WT) : Prop where
  pe : PE X e (tE X B Wx w)
  pt : PT X e (tT X B Wx (toB w))
theorem tst_some {x : W} {Q : Bool → Prop} (h : tst x Q) : ∃ b, x = .o (.d (.bool b)) ∧ Q b := by
  cases x with
  | o x =>
    cases x with
    | d x =>
      cases x with
      | bool b => exact ⟨b, rfl, h⟩
      | _ => exact h.elim
    | _ => exact h.elim
  | al _ _ _ => exact h.elim
theorem R.boolTop {S : Fz} {H : Hp} {σ : L2.St} {env : Env} {T : List (V × W)} {v : V} {b : Bool} {K : PySem.W.Frag} (r : R K B S H σ env ((v, .o (.d (.bool b))) :: T)) : v = .bl b := by
  have q : OwnR K S H v (.d (.bool b)) := r.tmps (v, .o (.d (.bool b))) List.mem_cons_self
  cases q with
  | d q => cases q; rfl
theorem R.intTop {S : Fz} {H : Hp} {σ : L2.St} {env : Env} {T : List (V × W)} {v : V} {b : Int} {K : PySem.W.Frag} (r : R K B S H σ env ((v, .o (.d (.int b))) :: T)) : v = .int b := by
  have q : OwnR K S H v (.d (.int b)) := r.tmps (v, .o (.d (.int b))) List.mem_cons_self
  cases q with
  | d q => cases q; rfl
theorem R.dataTop {S : Fz} {H : Hp} {σ : L2.St} {env : Env} {T : List (V × W)} {v : V} {x : D} {K : PySem.W.Frag} (r : R K B S H σ env ((v, .o (.d x)) :: T)) : Rp K S H v x := by
  have q : OwnR K S H v (.d x) := r.tmps (v, .o (.d x)) List.mem_cons_self
  cases q with
  | d q => exact q
theorem tT_tE {w : WT} {σ : L2.St} {H : Hp} {Q : Bool → Hp → Prop} (h : tT X B Wx (toB w) σ H Q) : tE X B Wx w σ H fun z H' => ∃ k, z = .bl k ∧ Q k H' := by
  obtain ⟨S, env, T, P, PX, r, hw, hP, hX⟩ := h
  refine ⟨S, env, T, _, PX, r, hw, fun x env' v S' H' q r' => ?_, hX⟩
  obtain ⟨b, rfl, q⟩ := tst_some q
  exact ⟨b, r'.boolTop, hP b env' S' H' q r'.pop⟩
theorem snd_plain {e : Expr} {w : WT} (h : PE X e (tE X B Wx w)) (he : ∀ whole, isTrue e X.env whole = (do let v ← whole; standAt e.pos; holding [v] (truthy v))) : Snd X B Wx e w :=
  ⟨h, PT_imp (pt_val h he) fun _ _ _ q => tT_tE q⟩
theorem lets_false {PX : Exn → Env → Prop} (h : ∀ ex env, ¬ PX ex env) : Lets X B Wx PX := fun ex env _ _ _ _ _ q => (h ex env q).elim

variable {a b c : Expr} {wa wb wc : WT} {pos : Pos}
/-! ### unary -/
theorem s_neg (ha : PE X a (tE X B Wx wa)) : PE X (.UnaryOp .USub a pos) (tE X B Wx fun PX env P => wa PX env fun x env1 => match x with
    | .o (.d (.int i)) => P (.o (.d (.int (-i)))) env1
    | _ => False) := by
  refine PE_imp (pe_un un_neg ha) fun σ H Q h => ?_
  obtain ⟨S, env, T, P, PX, r, hw, hP, hX⟩ := h
  refine ⟨S, env, T, _, PX, r, hw, fun x env1 vx S1 H1 hq r1 => ?_, hX⟩
  split at hq
  · exact ⟨_, r1.intTop, hP _ _ _ _ _ hq (r1.pop.push (.int _))⟩
  · exact hq.elim
theorem s_not (ha : Snd X B Wx a wa) : Snd X B Wx (.UnaryOp .Not a pos) (fun PX env P => wa PX env fun x env1 => tst x fun b => P (.o (.d (.bool (!b)))) env1) := by
  refine ⟨PE_imp (pe_not ha.pe) fun σ H Q h => ?_, PT_imp (pt_not ha.pt) fun σ H Q h => ?_⟩
  · obtain ⟨S, env, T, P, PX, r, hw, hP, hX⟩ := h
    refine ⟨S, env, T, _, PX, r, hw, fun x env1 vx S1 H1 hq r1 => ?_, hX⟩
    obtain ⟨b, rfl, hq⟩ := tst_some hq
    exact ⟨b, r1.boolTop, hP _ _ _ _ _ hq (r1.pop.push (.bl _))⟩
  · obtain ⟨S, env, T, P, PX, r, hw, hP, hX⟩ := h
    exact ⟨S, env, T, fun b env' => P (!b) env', PX, r, hw, fun b env' S' H' q r' => hP _ _ _ _ q r', hX⟩
/-! ### and, or: a list of operands -/
structure SndL (X : Cx) (B : Bs) (Wx : WX) (op : BoolOp) (es : List Expr) (pos : Pos) (w : WT) : Prop where
  pe : PE X (.BoolOp op es pos) (tE X B Wx w)
  pw : PW X (.BoolOp op es pos) (tT X B Wx (toB w))
theorem PW_imp {e : Expr} {t t' : TT} (h : PW X e t) (f : ∀ σ H Q, t' σ H Q → t σ H Q) : PW X e t' := ⟨fun wh pins s σ H Q I q => h.run wh pins s σ H Q I (f σ H Q q)⟩
theorem sl_one {op : BoolOp} (ha : Snd X B Wx a wa) : SndL X B Wx op [a] pos wa := by
  refine ⟨pe_one ha.pe, ?_⟩
  cases op with
  | And => exact pw_and1 ha.pt
  | Or => exact pw_or1 ha.pt
theorem sl_and {rest : List Expr} (ha : Snd X B Wx a wa) (hb : SndL X B Wx .And (b :: rest) pos wb) :
    SndL X B Wx .And (a :: b :: rest) pos (fun PX env P => wa PX env fun x env1 => tst x fun t => if t = true then wb PX env1 P else P (.o (.d (.bool false))) env1) := by
  refine ⟨PE_imp (pe_and ha.pe hb.pe) fun σ H Q h => ?_, PW_imp (pw_and ha.pt hb.pw) fun σ H Q h => ?_⟩
  · obtain ⟨S, env, T, P, PX, r, hw, hP, hX⟩ := h
    refine ⟨S, env, T, _, PX, r, hw, fun x env1 vx S1 H1 hq r1 => ?_, hX⟩
    obtain ⟨t, rfl, hq⟩ := tst_some hq
    refine ⟨t, r1.boolTop, ?_⟩
    cases t with
    | true => exact iteT ⟨S1, env1, T, P, PX, r1.pop, hq, hP, hX⟩
    | false => exact iteF (hP _ _ _ _ _ hq (r1.pop.push (.bl _)))
  · obtain ⟨S, env, T, P, PX, r, hw, hP, hX⟩ := h
    refine ⟨S, env, T, fun t env1 => if t = true then wb PX env1 (fun x env' => tst x fun b => P b env') else P false env1, PX, r, hw, fun t env1 S1 H1 hq r1 => ?_, hX⟩
    cases t with
    | true => exact iteT ⟨S1, env1, T, P, PX, r1, hq, hP, hX⟩
    | false => exact iteF (hP _ _ _ _ hq r1)
theorem sl_or {rest : List Expr} (ha : Snd X B Wx a wa) (hb : SndL X B Wx .Or (b :: rest) pos wb) :
    SndL X B Wx .Or (a :: b :: rest) pos (fun PX env P => wa PX env fun x env1 => tst x fun t => if t = true then P (.o (.d (.bool true))) env1 else wb PX env1 P) := by
  refine ⟨PE_imp (pe_or ha.pe hb.pe) fun σ H Q h => ?_, PW_imp (pw_or ha.pt hb.pw) fun σ H Q h => ?_⟩
  · obtain ⟨S, env, T, P, PX, r, hw, hP, hX⟩ := h
    refine ⟨S, env, T, _, PX, r, hw, fun x env1 vx S1 H1 hq r1 => ?_, hX⟩
    obtain ⟨t, rfl, hq⟩ := tst_some hq
    refine ⟨t, r1.boolTop, ?_⟩
    cases t with
    | true => exact iteT (hP _ _ _ _ _ hq (r1.pop.push (.bl _)))
    | false => exact iteF ⟨S1, env1, T, P, PX, r1.pop, hq, hP, hX⟩
  · obtain ⟨S, env, T, P, PX, r, hw, hP, hX⟩ := h
    refine ⟨S, env, T, fun t env1 => if t = true then P true env1 else wb PX env1 (fun x env' => tst x fun b => P b env'), PX, r, hw, fun t env1 S1 H1 hq r1 => ?_, hX⟩
    cases t with
    | true => exact iteT (hP _ _ _ _ hq r1)
    | false => exact iteF ⟨S1, env1, T, P, PX, r1, hq, hP, hX⟩
theorem SndL.snd {op : BoolOp} {es : List Expr} {w : WT} (h : SndL X B Wx op es pos w) : Snd X B Wx (.BoolOp op es pos) w := ⟨h.pe, h.pw.pt⟩
theorem s_ife (hc : Snd X B Wx c wc) (ha : PE X a (tE X B Wx wa)) (hb : PE X b (tE X B Wx wb)) : PE X (.IfExp c a b pos)
    (tE X B Wx fun PX env P => wc PX env fun x env1 => tst x fun t => if t = true then wa PX env1 P else wb PX env1 P) := by
  refine PE_imp (pe_ifExp hc.pt ha hb) fun σ H Q h => ?_
  obtain ⟨S, env, T, P, PX, r, hw, hP, hX⟩ := h
  refine ⟨S, env, T, fun t env1 => if t = true then wa PX env1 P else wb PX env1 P, PX, r, hw, fun t env1 S1 H1 hq r1 => ?_, hX⟩
  cases t with
  | true => exact iteT ⟨S1, env1, T, P, PX, r1, hq, hP, hX⟩
  | false => exact iteF ⟨S1, env1, T, P, PX, r1, hq, hP, hX⟩

/-! ### comparisons -/
def cmpOf : Cop → CmpOp
  | .eq => .Eq
  | .ne => .NotEq
  | .lt => .Lt
  | .le => .LtE
  | .gt => .Gt
  | .ge => .GtE
  | .is => .Is
  | .isNot => .IsNot
  | .inn => .In
  | .notIn => .NotIn
def rStrB (f : List Nat → List Nat → Bool) : R2 := fun x y H Q => ∃ i j, x = .str i ∧ y = .str j ∧ Q (.bl (f i.cps.toList j.cps.toList)) H
def rInS (neg : Bool) : R2 := fun x y H Q => ∃ i j, x = .str i ∧ y = .str j ∧ Q (.bl (if neg then !(!(Builtin.Str.occurrences j i 0 j.length 1).isEmpty) else !(Builtin.Str.occurrences j i 0 j.length 1).isEmpty)) H
def rInT (K : PySem.W.Frag) (neg : Bool) : R2 := fun x y H Q => ∃ d ds, Dp K H x d ∧ Dp K H y (.tuple ds) ∧ SeqAt.shaped d = true ∧ SeqAt.shaped (.tuple ds) = true ∧ Q (.bl (if neg then !ds.any fun z => PyData.eqv z d else ds.any fun z => PyData.eqv z d)) H
theorem op_ltS : OpR X (compareOp .Lt) (rStrB fun a b => decide (a < b)) := op_lt_str
theorem op_leS : OpR X (compareOp .LtE) (rStrB fun a b => !decide (b < a)) := by
  intro pins s σ H x y v u Q I rx ry h
  obtain ⟨i, j, rfl, rfl, q⟩ := h
  obtain ⟨t, rfl⟩ := rx
  obtain ⟨t', rfl⟩ := ry
  exact PySem.P.le_str ⟨.bl _, H, I, rfl, q⟩
theorem op_gtS : OpR X (compareOp .Gt) (rStrB fun a b => decide (b < a)) := by
  intro pins s σ H x y v u Q I rx ry h
  obtain ⟨i, j, rfl, rfl, q⟩ := h
  obtain ⟨t, rfl⟩ := rx
  obtain ⟨t', rfl⟩ := ry
  exact PySem.P.gt_str ⟨.bl _, H, I, rfl, q⟩
theorem op_geS : OpR X (compareOp .GtE) (rStrB fun a b => !decide (a < b)) := by
  intro pins s σ H x y v u Q I rx ry h
  obtain ⟨i, j, rfl, rfl, q⟩ := h
  obtain ⟨t, rfl⟩ := rx
  obtain ⟨t', rfl⟩ := ry
  exact PySem.P.ge_str ⟨.bl _, H, I, rfl, q⟩
theorem op_inS : OpR X (compareOp .In) (rInS false) := op_in_str
theorem op_notInS : OpR X (compareOp .NotIn) (rInS true) := op_notIn_str
theorem op_inT (hu : X.A.units + 65 < cLine) : OpR X (compareOp .In) (rInT X.K false) := by
  intro pins s σ H x y v u Q I rx ry h
  obtain ⟨d, ds, hd, he, sd, se, q⟩ := h
  obtain ⟨as, r1⟩ := Dp.reads I d x v hd rx
  obtain ⟨bs, r2⟩ := Dp.reads I (.tuple ds) y u he ry
  exact SeqAt.in_tuple_reads r2 r1 (SeqAt.canLay_of_shaped se) (SeqAt.canLay_of_shaped sd) (PyProof.Rows.room_in_shaped sd hu) ⟨.bl _, H, I, rfl, q⟩
theorem op_notInT (hu : X.A.units + 65 < cLine) : OpR X (compareOp .NotIn) (rInT X.K true) := by
  intro pins s σ H x y v u Q I rx ry h
  obtain ⟨d, ds, hd, he, sd, se, q⟩ := h
  obtain ⟨as, r1⟩ := Dp.reads I d x v hd rx
  obtain ⟨bs, r2⟩ := Dp.reads I (.tuple ds) y u he ry
  exact SeqAt.notIn_tuple_reads r2 r1 (SeqAt.canLay_of_shaped se) (SeqAt.canLay_of_shaped sd) (PyProof.Rows.room_in_shaped sd hu) ⟨.bl _, H, I, rfl, q⟩
theorem intsOf_eq : ∀ {ds : List D} {ns : List Int}, intsOf ds = some ns → ds = ns.map PyData.int
  | [], ns, h => by cases h; rfl
  | .int i :: r, ns, h => by
    unfold intsOf at h
    cases e : intsOf r with
    | none => rw [e] at h; cases h
    | some es => rw [e] at h; cases h; rw [intsOf_eq e]; rfl
  | .none :: _, _, h => nomatch h
  | .bool _ :: _, _, h => nomatch h
  | .str _ :: _, _, h => nomatch h
  | .list _ :: _, _, h => nomatch h
  | .tuple _ :: _, _, h => nomatch h
  | .dict _ :: _, _, h => nomatch h
theorem lexAt_shift (e r : Nat → Bool) (z : Bool) : ∀ (k i : Nat), Ob.lexAt e r z (i + 1) k = Ob.lexAt (fun j => e (j + 1)) (fun j => r (j + 1)) z i k
  | 0, _ => rfl
  | k + 1, i => by rw [Ob.lexAt_succ, Ob.lexAt_succ, lexAt_shift e r z k (i + 1)]
theorem lexLt_at : ∀ ns ms : List Int, Ob.lexAt (fun j => decide (ns.getD j 0 = ms.getD j 0)) (fun j => decide (ns.getD j 0 < ms.getD j 0)) (decide (ns.length < ms.length)) 0 (min ns.length ms.length) = lexLt ns ms
  | [], [] => rfl
  | [], _ :: ms => by
    show decide ((0 : Nat) < ms.length + 1) = true
    exact decide_eq_true (Nat.succ_pos _)
  | _ :: ns, [] => by
    show decide (ns.length + 1 < 0) = false
    exact decide_eq_false (Nat.not_lt_zero _)
  | x :: ns, y :: ms => by
    have hm : min (x :: ns).length (y :: ms).length = min ns.length ms.length + 1 := by simp only [List.length_cons]; omega
    have hz : decide ((x :: ns).length < (y :: ms).length) = decide (ns.length < ms.length) := by simp
    rw [hm, hz, Ob.lexAt_succ, lexAt_shift]
    show (if decide (x = y) = true then Ob.lexAt (fun j => decide (ns.getD j 0 = ms.getD j 0)) (fun j => decide (ns.getD j 0 < ms.getD j 0)) _ 0 _ else decide (x < y)) = if x = y then lexLt ns ms else decide (x < y)
    rw [lexLt_at ns ms]
    by_cases h : x = y
    · rw [if_pos h, if_pos (decide_eq_true h)]
    · rw [if_neg h, if_neg (by rw [decide_eq_false h]; decide)]
def rLtT (K : PySem.W.Frag) : R2 := fun x y H Q => ∃ (a b : Addr) (ns ms : List Int), x = .ref a ∧ y = .ref b ∧ SqT K H a (ns.map V.int) ∧ SqT K H b (ms.map V.int) ∧ Q (.bl (lexLt ns ms)) H
theorem int_of {its : List Value} {ns : List Int} (r : PyProof.Rows.IntsAre its ns) {j : Nat} (h : j < its.toArray.size) : ∃ t, its.toArray[j] = .int (ns.getD j 0) t := PyProof.Rows.IntsAre.int_at r _ _ (by simp at h; simp [h])
theorem op_ltT {X : Cx} (room : X.A.units < cLine) : OpR X (compareOp .Lt) (rLtT X.K) := by
  rintro pins s σ H x y v u Q I rx ry ⟨a, b, ns, ms, rfl, rfl, ha, hb, q⟩
  obtain rfl : v = Value.ref a := rx
  obtain rfl : u = Value.ref b := ry
  obtain ⟨ia, ra, pa, _⟩ := I.tuple ha
  obtain ⟨ib, rb, pb, _⟩ := I.tuple hb
  have na : PyProof.Rows.IntsAre ia ns := Vals.ints ra
  have nb : PyProof.Rows.IntsAre ib ms := Vals.ints rb
  have la : ia.toArray.size = ns.length := by rw [List.size_toArray, na.length]
  have lb : ib.toArray.size = ms.length := by rw [List.size_toArray, nb.length]
  have same : ∀ p q : Int, (p == q) = decide (p = q) := fun p q => by
    by_cases h : p = q
    · subst h; simp
    · simp [h]
  have go := Ob.RcOp.tuples_lt (A := X.A) (s := s) (e := fun j => decide (ns.getD j 0 = ms.getD j 0)) (r := fun j => decide (ns.getD j 0 < ms.getD j 0)) pa pb room
    (fun j h h' => by
      obtain ⟨t, et⟩ := int_of na h
      obtain ⟨t2, et2⟩ := int_of nb h'
      rw [et, et2, ← same]
      exact SeqAt.EqAt.int_int _ _ _ _)
    (fun j h h' _ => by
      obtain ⟨t, et⟩ := int_of na h
      obtain ⟨t2, et2⟩ := int_of nb h'
      rw [et, et2]
      exact Ob.RcOp.lt_int _ _ t t2)
  rw [la, lb, lexLt_at] at go
  exact go X.prog X.w X.xe (EP X pins σ Q) ⟨.bl _, H, I, rfl, q⟩
def rCop (X : Cx) : Cop → R2
  | .eq => fun x y H Q => rEq x y H Q ∨ rEqD X.K x y H Q
  | .ne => fun x y H Q => rNe x y H Q ∨ rNeD X.K x y H Q
  | .lt => fun x y H Q => rI0 (fun i j => .bl (decide (i < j))) x y H Q ∨ (rStrB (fun a b => decide (a < b)) x y H Q ∨ rLtT X.K x y H Q)
  | .le => fun x y H Q => rI0 (fun i j => .bl (decide (i ≤ j))) x y H Q ∨ rStrB (fun a b => !decide (b < a)) x y H Q
  | .gt => fun x y H Q => rI0 (fun i j => .bl (decide (j < i))) x y H Q ∨ rStrB (fun a b => decide (b < a)) x y H Q
  | .ge => fun x y H Q => rI0 (fun i j => .bl (decide (j ≤ i))) x y H Q ∨ rStrB (fun a b => !decide (a < b)) x y H Q
  | .is => fun x y H Q => (y = .non ∧ Q (.bl (decide (x = .non))) H) ∨ rIsB x y H Q
  | .isNot => fun x y H Q => (y = .non ∧ Q (.bl (!decide (x = .non))) H) ∨ rNotB x y H Q
  | .inn => fun x y H Q => rInD X.K x y H Q ∨ (rIn X.K false x y H Q ∨ (rInS false x y H Q ∨ rInT X.K false x y H Q))
  | .notIn => fun x y H Q => rNotInD X.K x y H Q ∨ (rIn X.K true x y H Q ∨ (rInS true x y H Q ∨ rInT X.K true x y H Q))
theorem op_cop (hr : X.A.units + 200 < cLine) : (op : Cop) → OpR X (compareOp (cmpOf op)) (rCop X op)
  | .eq => OpR.or op_eq (op_eqD (by omega))
  | .ne => OpR.or op_ne (op_neD (by omega))
  | .lt => OpR.or op_lt (OpR.or op_ltS (op_ltT (by omega)))
  | .le => OpR.or op_le op_leS
  | .gt => OpR.or op_gt op_gtS
  | .ge => OpR.or op_ge op_geS
  | .is => OpR.or op_isN op_isBl
  | .isNot => OpR.or op_notN op_notBl
  | .inn => OpR.or (op_inD (by omega)) (OpR.or op_in_seq (OpR.or op_inS (op_inT (by omega))))
  | .notIn => OpR.or (op_notInD (by omega)) (OpR.or op_notIn_seq (OpR.or op_notInS (op_notInT (by omega))))
theorem rp_non {K : PySem.W.Frag} {S : Fz} {H : Hp} {v : V} {x : D} (u : Ud K S H v x) : decide (v = .non) = isNone x := by
  rcases u with u | ⟨a, vs, ds, rfl, rfl, _, _⟩
  · cases u <;> rfl
  · rfl
theorem plainD_sh {x : D} (h : plainD x = true) : SeqAt.shaped x = true := by
  unfold plainD at h
  exact (Bool.and_eq_true_iff.mp h).1
theorem plainD_no {x : D} (h : plainD x = true) : x.hasDict = false := by
  unfold plainD at h
  simpa using (Bool.and_eq_true_iff.mp h).2
theorem eq_scal {K : PySem.W.Frag} {S : Fz} {H : Hp} {v u : V} {x y : D} (hv : Ud K S H v x) (hu : Ud K S H u y) (h : eqOk x y = true) :
    (scal v u = true ∧ decide (v = u) = PyData.eqv x y) ∨ (plainD x = true ∧ plainD y = true) := by
  by_cases hs : plainD x = true ∧ plainD y = true
  · exact .inr hs
  · left
    have h2 : (plainD x && plainD y) = false := by
      cases e1 : plainD x <;> cases e2 : plainD y <;> simp_all
    cases x <;> cases y <;> first
      | (exfalso; simp only [eqOk] at h; rw [h2] at h; cases h; done)
      | skip
    all_goals first | (obtain rfl := hv.int) | (obtain rfl := hv.str) | (obtain rfl := hv.bool) | (obtain rfl := hv.non)
    all_goals first | (obtain rfl := hu.int) | (obtain rfl := hu.str) | (obtain rfl := hu.bool) | (obtain rfl := hu.non)
    all_goals first
      | exact ⟨rfl, rfl⟩
      | exact ⟨rfl, by rw [dec_int]; simp [PyData.eqv]⟩
      | exact ⟨rfl, by rw [dec_str]; simp [PyData.eqv]⟩
      | exact ⟨rfl, by rw [dec_bl]; simp [PyData.eqv]⟩
      | exact ⟨rfl, by simp [PyData.eqv]⟩
theorem scal_flat {K : PySem.W.Frag} {S : Fz} {H : Hp} {v : V} {x : D} (r : Rp K S H v x) (h : isScal x = true) : flatV v = true := by
  cases r <;> first | rfl | (cases h)
theorem scals_flat {K : PySem.W.Frag} {S : Fz} {H : Hp} : ∀ {vs : List V} {xs : List D}, RpA K S H vs xs → xs.all isScal = true → vs.all flatV = true
  | _, _, .nil, _ => rfl
  | _, _, .cons a b, h => by
    rw [List.all_cons, Bool.and_eq_true] at h ⊢
    exact ⟨scal_flat a h.1, scals_flat b h.2⟩
theorem eqV_eqv {K : PySem.W.Frag} {S : Fz} {H : Hp} {v u : V} {x y : D} (rv : Rp K S H v x) (ru : Rp K S H u y) (hx : isScal x = true) (hy : isScal y = true) : eqV v u = PyData.eqv x y := by
  cases rv <;> cases ru <;> first | rfl | (cases hx; done) | (cases hy; done) | (simp [eqV, PyData.eqv])
theorem inV_any {K : PySem.W.Frag} {S : Fz} {H : Hp} {u : V} {y : D} (ru : Rp K S H u y) (hy : isScal y = true) : ∀ {vs : List V} {xs : List D}, RpA K S H vs xs → xs.all isScal = true → inV u vs = xs.any fun z => PyData.eqv z y
  | _, _, .nil, _ => rfl
  | _, _, .cons a b, h => by
    rw [List.all_cons, Bool.and_eq_true] at h
    show (eqV _ u || inV u _) = (PyData.eqv _ y || List.any _ _)
    rw [inV_any ru hy b h.2, eqV_eqv a ru h.1 hy]
theorem Ud.rp_scal {K : PySem.W.Frag} {S : Fz} {H : Hp} {v : V} {x : D} (u : Ud K S H v x) (h : isScal x = true) : Rp K S H v x := by
  rcases u with u | ⟨a, vs, ds, rfl, rfl, _, _⟩
  · exact u
  · cases h
theorem cop_d (op : Cop) {S : Fz} {H : Hp} {vx vy : V} {dx dy : D} {k : Bool → Prop} {Q : VK} (ux : Ud X.K S H vx dx) (uy : Ud X.K S H vy dy) (h : cmpW op dx dy k) (hQ : ∀ t, k t → Q (.bl t) H) : rCop X op vx vy H Q := by
  cases op with
  | eq =>
    rcases eq_scal ux uy h.1 with ⟨h1, h2⟩ | ⟨h1, h2⟩
    · exact .inl ⟨h1, by rw [h2]; exact hQ _ h.2⟩
    · exact .inr ⟨dx, dy, ux.dp (plainD_no h1), uy.dp (plainD_no h2), plainD_sh h1, plainD_sh h2, hQ _ h.2⟩
  | ne =>
    rcases eq_scal ux uy h.1 with ⟨h1, h2⟩ | ⟨h1, h2⟩
    · exact .inl ⟨h1, by rw [h2]; exact hQ _ h.2⟩
    · exact .inr ⟨dx, dy, ux.dp (plainD_no h1), uy.dp (plainD_no h2), plainD_sh h1, plainD_sh h2, hQ _ h.2⟩
  | lt =>
    cases dx <;> cases dy <;> first
      | exact h.elim
      | skip
    · obtain rfl := ux.int
      obtain rfl := uy.int
      exact .inl ⟨_, _, rfl, rfl, hQ _ h⟩
    · obtain rfl := ux.str
      obtain rfl := uy.str
      exact .inr (.inl ⟨_, _, rfl, rfl, hQ _ h⟩)
    · obtain ⟨ns, e1, h⟩ := onSome_some h
      obtain ⟨ms, e2, h⟩ := onSome_some h
      obtain ⟨a, vs, rfl, qa, ra⟩ := ux.tup
      obtain ⟨b, us, rfl, qb, rb⟩ := uy.tup
      rw [intsOf_eq e1] at ra
      rw [intsOf_eq e2] at rb
      exact .inr (.inr ⟨a, b, ns, ms, rfl, rfl, by rw [← ra.ints]; exact qa, by rw [← rb.ints]; exact qb, hQ _ h⟩)
  | le =>
    cases dx <;> cases dy <;> first
      | exact h.elim
      | skip
    · obtain rfl := ux.int
      obtain rfl := uy.int
      exact .inl ⟨_, _, rfl, rfl, hQ _ h⟩
    · obtain rfl := ux.str
      obtain rfl := uy.str
      exact .inr ⟨_, _, rfl, rfl, hQ _ h⟩
  | gt =>
    cases dx <;> cases dy <;> first
      | exact h.elim
      | skip
    · obtain rfl := ux.int
      obtain rfl := uy.int
      exact .inl ⟨_, _, rfl, rfl, hQ _ h⟩
    · obtain rfl := ux.str
      obtain rfl := uy.str
      exact .inr ⟨_, _, rfl, rfl, hQ _ h⟩
  | ge =>
    cases dx <;> cases dy <;> first
      | exact h.elim
      | skip
    · obtain rfl := ux.int
      obtain rfl := uy.int
      exact .inl ⟨_, _, rfl, rfl, hQ _ h⟩
    · obtain rfl := ux.str
      obtain rfl := uy.str
      exact .inr ⟨_, _, rfl, rfl, hQ _ h⟩
  | is =>
    cases dy <;> first
      | (cases dx <;> exact h.elim)
      | skip
    · obtain rfl := uy.non
      refine .inl ⟨rfl, ?_⟩
      rw [rp_non ux]
      exact hQ _ (by cases dx <;> exact h)
    · cases dx <;> first
        | exact h.elim
        | skip
      obtain rfl := ux.bool
      obtain rfl := uy.bool
      exact .inr ⟨_, _, rfl, rfl, hQ _ h⟩
  | isNot =>
    cases dy <;> first
      | (cases dx <;> exact h.elim)
      | skip
    · obtain rfl := uy.non
      refine .inl ⟨rfl, ?_⟩
      rw [rp_non ux]
      exact hQ _ (by cases dx <;> exact h)
    · cases dx <;> first
        | exact h.elim
        | skip
      obtain rfl := ux.bool
      obtain rfl := uy.bool
      exact .inr ⟨_, _, rfl, rfl, hQ _ h⟩
  | inn =>
    cases dy <;> first
      | (cases dx <;> exact h.elim)
      | skip
    · cases dx <;> first
        | exact h.elim
        | skip
      obtain rfl := ux.str
      obtain rfl := uy.str
      exact .inr (.inr (.inl ⟨_, _, rfl, rfl, hQ _ h⟩))
    · rename_i ys
      have h' : plainD dx = true ∧ plainD (.list ys) = true ∧ k (ys.any fun y => PyData.eqv y dx) := by cases dx <;> exact h
      exact .inl ⟨dx, _, ux.dp (plainD_no h'.1), uy.dp (plainD_no h'.2.1), plainD_sh h'.1, plainD_sh h'.2.1, hQ _ h'.2.2⟩
    · rename_i ys
      have h' : inOk dx ys = true ∧ k (ys.any fun y => PyData.eqv y dx) := by cases dx <;> exact h
      rcases Bool.or_eq_true_iff.mp h'.1 with h1 | h1
      · obtain ⟨s1, s2⟩ := Bool.and_eq_true_iff.mp h1
        obtain ⟨a, vs, rfl, ha, ra⟩ := uy.tup
        refine .inr (.inl ⟨a, vs, rfl, .inr ha, scal_flat (ux.rp_scal s1) s1, scals_flat ra s2, ?_⟩)
        rw [inV_any (ux.rp_scal s1) s1 ra s2]
        exact hQ _ h'.2
      · obtain ⟨s1, s2⟩ := Bool.and_eq_true_iff.mp h1
        exact .inr (.inr (.inr ⟨dx, _, ux.dp (plainD_no s1), uy.dp (plainD_no s2), plainD_sh s1, plainD_sh s2, hQ _ h'.2⟩))
  | notIn =>
    cases dy <;> first
      | (cases dx <;> exact h.elim)
      | skip
    · cases dx <;> first
        | exact h.elim
        | skip
      obtain rfl := ux.str
      obtain rfl := uy.str
      exact .inr (.inr (.inl ⟨_, _, rfl, rfl, hQ _ h⟩))
    · rename_i ys
      have h' : plainD dx = true ∧ plainD (.list ys) = true ∧ k (!ys.any fun y => PyData.eqv y dx) := by cases dx <;> exact h
      exact .inl ⟨dx, _, ux.dp (plainD_no h'.1), uy.dp (plainD_no h'.2.1), plainD_sh h'.1, plainD_sh h'.2.1, hQ _ h'.2.2⟩
    · rename_i ys
      have h' : inOk dx ys = true ∧ k (!ys.any fun y => PyData.eqv y dx) := by cases dx <;> exact h
      rcases Bool.or_eq_true_iff.mp h'.1 with h1 | h1
      · obtain ⟨s1, s2⟩ := Bool.and_eq_true_iff.mp h1
        obtain ⟨a, vs, rfl, ha, ra⟩ := uy.tup
        refine .inr (.inl ⟨a, vs, rfl, .inr ha, scal_flat (ux.rp_scal s1) s1, scals_flat ra s2, ?_⟩)
        rw [inV_any (ux.rp_scal s1) s1 ra s2]
        exact hQ _ h'.2
      · obtain ⟨s1, s2⟩ := Bool.and_eq_true_iff.mp h1
        exact .inr (.inr (.inr ⟨dx, _, ux.dp (plainD_no s1), uy.dp (plainD_no s2), plainD_sh s1, plainD_sh s2, hQ _ h'.2⟩))
theorem cop_step (op : Cop) (S : Fz) (H : Hp) (σ : L2.St) (env : Env) (T : List (V × W)) (vx vy : V) (x y : W) (P : W → Env → Prop) (Q : VK) (r : R X.K B S H σ env ((vy, y) :: (vx, x) :: T))
    (h : useW x env fun dx => useW y env fun dy => cmpW op dx dy fun t => P (.o (.d (.bool t))) env)
    (hP : ∀ x env' v S' H', P x env' → R X.K B S' H' σ env' ((v, x) :: T) → Q v H') : rCop X op vx vy H Q := by
  obtain ⟨S', dx, dy, r', h, ux, uy⟩ := use2 r h
  exact cop_d op ux uy h fun t h => hP _ _ _ _ _ h (r'.push (.bl _))
theorem s_cmp (hr : X.A.units + 200 < cLine) (op : Cop) (ha : PE X a (tE X B Wx wa)) (hb : PE X b (tE X B Wx wb)) (hm : behindInMarks (cmpOf op) b = false) : Snd X B Wx (.Compare a [cmpOf op] [b] pos)
    (fun PX env P => wa PX env fun x env1 => wb PX env1 fun y env2 => useW x env2 fun dx => useW y env2 fun dy => cmpW op dx dy fun t => P (.o (.d (.bool t))) env2) :=
  ⟨PE_imp (pe_cmpR (op_cop hr op) ha hb hm) fun σ H Q h => s_two (cop_step op) h,
   PT_imp (pt_cmpR (op_cop hr op) ha hb hm) fun σ H Q h => s_two (cop_step op) (tT_tE h)⟩
theorem chain_step (op op2 : Cop) {σ : L2.St} {H : Hp} {Q : VK}
    (h : tE X B Wx (fun PX env P => wa PX env fun x env1 => wb PX env1 fun y env2 => useW x env2 fun dx => useW y env2 fun dy => cmpW op dx dy fun t =>
      if t = true then wc PX env2 fun z env3 => useW y env3 fun dy2 => useW z env3 fun dz => cmpW op2 dy2 dz fun t2 => P (.o (.d (.bool t2))) env3 else P (.o (.d (.bool false))) env2) σ H Q) :
    tChain (rCop X op) (rCop X op2) (tE X B Wx wa) (tE X B Wx wb) (tE X B Wx wc) σ H Q := by
  obtain ⟨S, env, T, P, PX, r, hw, hP, hX⟩ := h
  refine ⟨S, env, T, _, PX, r, hw, fun x env1 vx S1 H1 hq r1 => ?_, hX⟩
  refine ⟨S1, env1, (vx, x) :: T, _, PX, r1, hq, fun y env2 vy S2 H2 hk r2 => ?_, hX⟩
  obtain ⟨S3, r3, f⟩ := R.used (P := [(vy, y), (vx, x)]) (T := T) r2
  obtain ⟨dx, hk, ux⟩ := f (vx, x) (List.mem_cons_of_mem _ List.mem_cons_self) _ hk
  obtain ⟨dy, hk, uy⟩ := f (vy, y) List.mem_cons_self _ hk
  have r3' : R X.K B S3 H2 σ env2 (fzT (vy, y) :: T) := r3.perm (fun t ht => by
    rcases List.mem_cons.mp ht with e | ht
    · subst e; exact List.mem_cons_self
    · exact List.mem_cons_of_mem _ (List.mem_cons_of_mem _ ht)) fun b => by
      show cntW b (fzT (vy, y)).2 + cntT b T ≤ cntW b (fzT (vy, y)).2 + (cntW b (fzT (vx, x)).2 + cntT b T)
      omega
  have useF : ∀ {env : Env} {Q : D → Prop}, useW y env Q → useW (fzT (vy, y)).2 env Q := fun {env Q} h => by
    cases y with
    | o y => exact h
    | al _ _ _ => exact h
  have efz : fzT (vy, y) = (vy, (fzT (vy, y)).2) := by cases y <;> rfl
  refine cop_d op ux uy hk fun t ht => ⟨t, rfl, ?_⟩
  cases t with
  | false => exact iteF (hP _ _ _ _ _ ht ((r3'.pop).push (.bl _)))
  | true =>
    refine iteT ⟨S3, env2, _, _, PX, r3', ht, fun z env3 vz S4 H4 hz r4 => ?_, hX⟩
    rw [efz] at r4
    exact cop_step op2 S4 H4 σ env3 T vy vz _ z P Q r4 (useF hz) hP
theorem s_chain (hr : X.A.units + 200 < cLine) (op op2 : Cop) (ha : PE X a (tE X B Wx wa)) (hb : PE X b (tE X B Wx wb)) (hc : PE X c (tE X B Wx wc)) (hm : lastMarks [cmpOf op, cmpOf op2] [b, c] = false) : Snd X B Wx (.Compare a [cmpOf op, cmpOf op2] [b, c] pos)
    (fun PX env P => wa PX env fun x env1 => wb PX env1 fun y env2 => useW x env2 fun dx => useW y env2 fun dy => cmpW op dx dy fun t =>
      if t = true then wc PX env2 fun z env3 => useW y env3 fun dy2 => useW z env3 fun dz => cmpW op2 dy2 dz fun t2 => P (.o (.d (.bool t2))) env3 else P (.o (.d (.bool false))) env2) :=
  ⟨PE_imp (pe_chain (op_cop hr op) (op_cop hr op2) ha hb hc hm) fun σ H Q h => chain_step op op2 h,
   PT_imp (pt_chain (op_cop hr op) (op_cop hr op2) ha hb hc hm) fun σ H Q h => chain_step op op2 (tT_tE h)⟩

/-! ### arguments, displays -/
abbrev SndA (X : Cx) (B : Bs) (Wx : WX) (es : List Expr) (w : WA) : Prop := PA X es (tA' X B Wx w)
theorem sa_nil : SndA X B Wx [] fun _ env P => P [] env :=
  PA_imp pa_nil fun σ H Q ⟨S, env, T, P, PX, r, hw, hP, hX⟩ => hP env [] S H hw r
theorem sa_cons {e : Expr} {es : List Expr} {we : WT} {ws : WA} (he : PE X e (tE X B Wx we)) (hs : SndA X B Wx es ws) (st : starEach (e :: es) X.env = (false, eval e X.env) :: starEach es X.env) :
    SndA X B Wx (e :: es) fun PX env P => we PX env fun w env1 => ws PX env1 fun l env2 => P (w :: l) env2 := by
  refine PA_imp (pa_cons he hs st) fun σ H Q ⟨S, env, T, P, PX, r, hw, hP, hX⟩ => ?_
  refine ⟨S, env, T, _, PX, r, hw, fun x env1 vx S1 H1 hq r1 => ?_, hX⟩
  refine ⟨S1, env1, (vx, x) :: T, fun l env2 => P (x :: l) env2, PX, r1, hq, fun env2 Z S2 H2 h2 r2 => ?_, hX⟩
  refine hP env2 ((vx, x) :: Z) S2 H2 h2 (r2.perm (fun t ht => ?_) fun b => ?_)
  · rcases List.mem_append.mp ht with ht | ht
    · rcases List.mem_cons.mp ht with e | ht
      · subst e; exact List.mem_append_right _ List.mem_cons_self
      · exact List.mem_append_left _ ht
    · exact List.mem_append_right _ (List.mem_cons_of_mem _ ht)
  · rw [cntT_append, cntT_append]
    show cntW b x + cntT b Z + cntT b T ≤ cntT b Z + (cntW b x + cntT b T)
    omega
theorem datas_own {S : Fz} {H : Hp} {K : PySem.W.Frag} {vs : List V} {os : List O} {ds : List D} (w : OwnA K S H vs os) (h : datas os = some ds) : RpA K S H vs ds := by
  rw [datas_eq h] at w
  exact w.data
theorem intos_top {S : Fz} {H : Hp} {σ : L2.St} {env : Env} {T Z : List (V × W)} {Q : List O → Env → Prop} (r : R X.K B S H σ env (Z ++ T)) (h : inWs (Z.map (·.2)) env Q) :
    ∃ os env' S', Q os env' ∧ os.length = Z.length ∧ R X.K B S' H σ env' ((Z.map (·.1)).zip (os.map W.o) ++ T) ∧ OwnA X.K S' H (Z.map (·.1)) os ∧ ∀ b, cntT b ((Z.map (·.1)).zip (os.map W.o)) = O.cntL b os := by
  obtain ⟨os, env', S', q, hl, r0⟩ := R.intos (L := []) Z r h
  have r' : R X.K B S' H σ env' ((Z.map (·.1)).zip (os.map W.o) ++ T) := r0
  have hl' : (Z.map (·.1)).length = os.length := by rw [List.length_map]; exact hl.symm
  exact ⟨os, env', S', q, hl, r', ownA_of hl' fun t ht => r'.tmps t (List.mem_append_left _ ht), fun b => cntT_zip b hl'⟩
theorem s_tup {es : List Expr} {k : Nat} {ws : WA} (h : SndA X B Wx es ws) : PE X (.Tuple es k pos) (tE X B Wx fun PX env P => ws PX env fun l env1 => inWs l env1 fun os env2 => os.length ≤ sizeLine ∧ match datas os with
    | some ds => P (.o (.d (.tuple ds))) env2
    | none => P (.o (.tup os)) env2) := by
  refine PE_imp (pe_tup h) fun σ H Q ⟨S, env, T, P, PX, r, hw, hP, hX⟩ => ?_
  refine ⟨S, env, T, _, PX, r, hw, fun env1 Z S1 H1 hq r1 => ?_, hX⟩
  obtain ⟨os, env2, S2, ⟨hz, q⟩, hl, r2, ow, hc⟩ := intos_top r1 hq
  refine ⟨by rw [List.length_map, ← hl]; exact hz, fun p hp => ?_⟩
  cases e : datas os with
  | some ds =>
    simp only [e] at q
    exact hP _ _ _ _ _ q (newTup r2.pops hp (datas_own ow e))
  | none =>
    simp only [e] at q
    exact hP _ _ _ _ _ q (r2.newTup hp ow fun b => by rw [hc]; exact Nat.le_refl _)
theorem s_lst {es : List Expr} {ws : WA} (h : SndA X B Wx es ws) : PE X (.List es pos) (tE X B Wx fun PX env P => ws PX env fun l env1 => inWs l env1 fun os env2 => os.length ≤ sizeLine ∧ ∀ a, P (.o (.lst a os)) env2) := by
  refine PE_imp (pe_lst h) fun σ H Q ⟨S, env, T, P, PX, r, hw, hP, hX⟩ => ?_
  refine ⟨S, env, T, _, PX, r, hw, fun env1 Z S1 H1 hq r1 => ?_, hX⟩
  obtain ⟨os, env2, S2, ⟨hz, q⟩, hl, r2, ow, hc⟩ := intos_top r1 hq
  refine ⟨by rw [List.length_map, ← hl]; exact hz, fun p hp => ?_⟩
  exact hP _ _ _ _ _ (q p) (r2.newLst hp ow fun b => by rw [hc]; exact Nat.le_refl _)
theorem s_frz {e : Expr} {w : WT} (h : PE X e (tE X B Wx w)) : PE X e (tE X B Wx fun PX env P => w PX env fun x env1 => escW x env1 fun d env2 => P (.o (.d d)) env2) := by
  refine PE_imp h fun σ H Q ⟨S, env, T, P, PX, r, hw, hP, hX⟩ => ?_
  refine ⟨S, env, T, _, PX, r, hw, fun x env1 vx S1 H1 hq r1 => ?_, hX⟩
  obtain ⟨d, env2, S2, q, r2⟩ := r1.esc hq
  exact hP _ _ _ _ _ q r2
end
end Vx
namespace Vx
open PySem PySem.Spec L2
section
variable {X : Cx} {B : Bs} {Wx : WX} {a b c : Expr} {wa wb wc : WT} {pos : Pos}

/-! ### items -/
theorem atI_len {α β : Type} {xs : List α} {ys : List β} {n : Int} {x : α} (hl : xs.length = ys.length) (h : atI xs n = some x) : ∃ j y, ixN xs.length n = some j ∧ xs[j]? = some x ∧ ys[j]? = some y ∧ atI ys n = some y := by
  unfold atI at h
  cases e : ixN xs.length n with
  | none => rw [e] at h; cases h
  | some j =>
    rw [e] at h
    have hj : j < ys.length := by rw [← hl]; exact (ixN_seq e).2.1
    refine ⟨j, ys[j], rfl, h, List.getElem?_eq_getElem hj, ?_⟩
    unfold atI
    rw [← hl, e]
    exact List.getElem?_eq_getElem hj
theorem use1 {S : Fz} {H : Hp} {σ : L2.St} {env : Env} {T : List (V × W)} {v : V} {x : W} {k : D → Prop} (r : R X.K B S H σ env ((v, x) :: T)) (h : useW x env k) :
    ∃ S' dx, R X.K B S' H σ env T ∧ k dx ∧ Ud X.K S' H v dx := by
  obtain ⟨S', r', f⟩ := R.used (P := [(v, x)]) (T := T) r
  obtain ⟨dx, h, ux⟩ := f (v, x) List.mem_cons_self _ h
  exact ⟨S', dx, R.pops r', h, ux⟩
/-! items of dicts -/
def rIxDk : R2 := fun x y H Q => ∃ a kvs k v, x = .ref a ∧ H a = some (.dK kvs) ∧ y = kV k ∧ valV kvs k = some v ∧ Q v H
section
open PyProof.Rows
theorem ix_dk : IxR X rIxDk := by
  intro value slice pins s σ H x y v u Q I rx ry h hs
  obtain ⟨a, kvs, k, z, rfl, e, rfl, l, q⟩ := h
  obtain rfl : v = Value.ref a := rx
  obtain ⟨_, hd, vs, rel, dd⟩ := dk_of I.hok e
  obtain ⟨w', hw, rw'⟩ := RelO.some_of (v := z) (o := valueAt vs k) (by rw [← l]; exact rel.val k)
  exact tail_any dd.mapOf.typeIs slot_dict_getitem.lookup (wpAny_getItem_of (kV_is ry) dd.mapOf hw ⟨z, H, I.tok _, rw', q⟩) hs
end
def rIxA (K : PySem.W.Frag) : R2 := fun x y H Q => rIx K x y H Q ∨ rIxDk x y H Q
theorem ix_all : IxR X (rIxA X.K) := ix_seq.or ix_dk
theorem rIx_l {x y : V} {H : Hp} {Q : VK} (h : rIxL X.K x y H Q) : rIxA X.K x y H Q := .inl (.inl h)
theorem rIx_t {x y : V} {H : Hp} {Q : VK} (h : rIxT X.K x y H Q) : rIxA X.K x y H Q := .inl (.inr (.inl h))
theorem rIx_s {x y : V} {H : Hp} {Q : VK} (h : rIxS x y H Q) : rIxA X.K x y H Q := .inl (.inr (.inr h))
theorem rIx_d {x y : V} {H : Hp} {Q : VK} (h : rIxDk x y H Q) : rIxA X.K x y H Q := .inr h
theorem keyIx_cons {k k' : Key} {ks : List Key} : keyIx (k' :: ks) k = if k' = k then some 0 else (keyIx ks k).map (· + 1) := by
  unfold keyIx
  rw [List.findIdx?_cons]
  by_cases h : k' = k
  · rw [if_pos h, if_pos (by simpa using h)]
  · rw [if_neg h, if_neg (by simpa using h)]
theorem keyIx_lt {k : Key} : ∀ {ks : List Key} {j : Nat}, keyIx ks k = some j → j < ks.length ∧ ks[j]? = some k
  | [], j, h => by cases h
  | k' :: ks, j, h => by
    rw [keyIx_cons] at h
    by_cases e : k' = k
    · rw [if_pos e] at h; cases h; subst e; exact ⟨by simp, rfl⟩
    · rw [if_neg e] at h
      cases e2 : keyIx ks k with
      | none => rw [e2] at h; cases h
      | some i =>
        rw [e2] at h; cases h
        obtain ⟨h1, h2⟩ := keyIx_lt e2
        exact ⟨by show i + 1 < _; rw [List.length_cons]; omega, by simpa using h2⟩
theorem keyIx_none {k : Key} : ∀ {ks : List Key}, keyIx ks k = none → k ∉ ks
  | [], _, h => nomatch h
  | k' :: ks, h, hm => by
    rw [keyIx_cons] at h
    by_cases e : k' = k
    · rw [if_pos e] at h; cases h
    · rw [if_neg e] at h
      cases e2 : keyIx ks k with
      | none => exact (List.mem_cons.mp hm).elim (fun z => e z.symm) (keyIx_none e2)
      | some i => rw [e2] at h; cases h
theorem valV_ix {k : Key} : ∀ {ks : List Key} {vs : List V} {j : Nat}, ks.length = vs.length → keyIx ks k = some j → valV (ks.zip vs) k = vs[j]?
  | [], vs, j, _, h => by cases h
  | k' :: ks, [], j, hl, h => nomatch hl
  | k' :: ks, v :: vs, j, hl, h => by
    rw [keyIx_cons] at h
    show valV ((k', v) :: ks.zip vs) k = _
    by_cases e : k' = k
    · rw [if_pos e] at h; cases h
      rw [valV_pos (p := (k', v)) e]; rfl
    · rw [if_neg e] at h
      cases e2 : keyIx ks k with
      | none => rw [e2] at h; cases h
      | some i =>
        rw [e2] at h; cases h
        rw [valV_neg (p := (k', v)) e, valV_ix (Nat.succ.inj hl) e2]; rfl
theorem putK_ix {k : Key} {v : V} : ∀ {ks : List Key} {vs : List V} {j : Nat}, ks.length = vs.length → ks.Nodup → keyIx ks k = some j → (ks.zip vs).map (fun kv => if kv.1 = k then (kv.1, v) else kv) = ks.zip (vs.set j v)
  | [], vs, j, _, _, h => by cases h
  | k' :: ks, [], j, hl, _, h => nomatch hl
  | k' :: ks, u :: vs, j, hl, hn, h => by
    obtain ⟨h1, h2⟩ := List.nodup_cons.mp hn
    rw [keyIx_cons] at h
    show (if k' = k then (k', v) else (k', u)) :: (ks.zip vs).map _ = _
    by_cases e : k' = k
    · rw [if_pos e] at h; cases h
      rw [if_pos e]
      subst e
      have same : ∀ {ks : List Key} {vs : List V}, k' ∉ ks → (ks.zip vs).map (fun kv => if kv.1 = k' then (kv.1, v) else kv) = ks.zip vs := by
        intro ks vs hk
        conv => rhs; rw [← List.map_id (ks.zip vs)]
        refine List.map_congr_left fun kv hkv => ?_
        have : kv.1 ∈ ks := (List.of_mem_zip hkv).1
        rw [if_neg fun z => hk (by rw [← z]; exact this)]; rfl
      rw [same h1]; rfl
    · rw [if_neg e] at h
      cases e2 : keyIx ks k with
      | none => rw [e2] at h; cases h
      | some i =>
        rw [e2] at h; cases h
        rw [if_neg e, putK_ix (Nat.succ.inj hl) h2 e2]; rfl
theorem keyOf_ud {K : PySem.W.Frag} {S : Fz} {H : Hp} {v : V} {d : D} {k : Key} (u : Ud K S H v d) (h : keyOf d = some k) : v = kV k := by
  cases d with
  | int i => cases h; exact u.int
  | str i => cases h; exact u.str
  | _ => cases h
theorem ix_step (S : Fz) (H : Hp) (σ : L2.St) (env : Env) (T : List (V × W)) (vx vy : V) (x y : W) (P : W → Env → Prop) (Q : VK) (r : R X.K B S H σ env ((vy, y) :: (vx, x) :: T))
    (h : itemW x y env fun w => P w env) (hP : ∀ x env' v S' H', P x env' → R X.K B S' H' σ env' ((v, x) :: T) → Q v H') : rIxA X.K vx vy H Q := by
  have fin : ∀ {S : Fz} {v : V} {o : O}, R X.K B S H σ env ((vx, x) :: T) → OwnR X.K S H v o → (∀ b, o.cnt b ≤ cntW b x) → P (.o o) env → Q v H := fun {S v o} r q c h =>
    hP _ _ _ _ _ h (r.tmp (fun t ht => by
      rcases List.mem_cons.mp ht with e | ht
      · subst e; exact q
      · exact r.tmps t (List.mem_cons_of_mem _ ht)) fun b => by
      show o.cnt b + _ ≤ cntW b x + _
      have := c b
      omega)
  cases x with
  | o x =>
    cases x with
    | d dx =>
      obtain ⟨S', dy, r', h, uy⟩ := use1 (k := fun e => ixW dx e fun y => P (.o (.d y)) env) r h
      have rx := r'.dataTop
      cases dx with
      | list xs =>
        cases dy with
        | int n =>
          obtain ⟨z, hz, h⟩ := onSome_some h
          cases rx with
          | lst f ra =>
            obtain ⟨j, v, _, e1, e2, e3⟩ := atI_len ra.length.symm hz
            obtain ⟨v', e4, rz⟩ := ra.getD e1
            rw [e2] at e4; cases e4
            obtain rfl := uy.int
            exact rIx_l ⟨_, _, _, _, rfl, rfl, f.sq, e3, fin r' (OwnR.d rz) (fun _ => Nat.zero_le _) h⟩
        | _ => exact h.elim
      | tuple xs =>
        cases dy with
        | int n =>
          obtain ⟨z, hz, h⟩ := onSome_some h
          cases rx with
          | tup f ra =>
            obtain ⟨j, v, _, e1, e2, e3⟩ := atI_len ra.length.symm hz
            obtain ⟨v', e4, rz⟩ := ra.getD e1
            rw [e2] at e4; cases e4
            obtain rfl := uy.int
            exact rIx_t ⟨_, _, _, _, rfl, rfl, f, e3, fin r' (OwnR.d rz) (fun _ => Nat.zero_le _) h⟩
        | _ => exact h.elim
      | str z =>
        cases dy with
        | int n =>
          obtain ⟨hl, h⟩ := h
          obtain ⟨cc, hc, h⟩ := onSome_some h
          cases rx
          obtain rfl := uy.int
          exact rIx_s ⟨_, _, _, rfl, rfl, hl, hc, fin r' (OwnR.d (.str _)) (fun _ => Nat.zero_le _) h⟩
        | _ => exact h.elim
      | _ => cases dy <;> exact h.elim
    | tup xs =>
      unfold itemW at h
      obtain ⟨S', dy, r', h, uy⟩ := use1 r h
      have rx : OwnR X.K S' H vx (.tup xs) := r'.tmps (vx, .o (.tup xs)) List.mem_cons_self
      cases dy with
      | int n =>
        obtain ⟨z, hz, h⟩ := onSome_some h
        cases rx with
        | tup f ra =>
          obtain ⟨j, v, _, e1, e2, e3⟩ := atI_len ra.length.symm hz
          obtain ⟨v', e4, rz⟩ := ra.get e1
          rw [e2] at e4; cases e4
          obtain rfl := uy.int
          exact rIx_t ⟨_, _, _, _, rfl, rfl, f, e3, fin r' rz (fun b => O.cntL_get e1) h⟩
      | _ => exact h.elim
    | obj p kd xs =>
      cases kd with
      | dct ks =>
        unfold itemW at h
        obtain ⟨S', dy, r', h, uy⟩ := use1 r h
        have rx : OwnR X.K S' H vx (.dct p ks xs) := r'.tmps (vx, .o (.dct p ks xs)) List.mem_cons_self
        obtain ⟨key, hk, h⟩ := onSome_some h
        obtain ⟨j, hj, h⟩ := onSome_some h
        obtain ⟨z, hz, h⟩ := onSome_some h
        cases rx with
        | obj f hf ra =>
          rename_i vs
          obtain ⟨v', e4, rz⟩ := ra.get hz
          refine rIx_d ⟨p, _, key, v', rfl, f, keyOf_ud uy hk, ?_, fin r' rz (fun b => Nat.le_trans (O.cntL_get hz) (Nat.le_add_left _ _)) h⟩
          rw [valV_ix hf.1 hj]; exact e4
      | lst =>
      unfold itemW at h
      obtain ⟨S', dy, r', h, uy⟩ := use1 r h
      have rx : OwnR X.K S' H vx (.lst p xs) := r'.tmps (vx, .o (.lst p xs)) List.mem_cons_self
      cases dy with
      | int n =>
        obtain ⟨z, hz, h⟩ := onSome_some h
        cases rx with
        | obj f _ ra =>
          obtain ⟨j, v, _, e1, e2, e3⟩ := atI_len ra.length.symm hz
          obtain ⟨v', e4, rz⟩ := ra.get e1
          rw [e2] at e4; cases e4
          obtain rfl := uy.int
          exact rIx_l ⟨_, _, _, _, rfl, rfl, .inl (.inl f), e3, fin r' rz (fun b => Nat.le_trans (O.cntL_get e1) (Nat.le_add_left _ _)) h⟩
      | _ => exact h.elim
  | al p i q =>
    unfold itemW at h
    cases e : envAt env i q with
    | none => simp only [e] at h
    | some z =>
      simp only [e] at h
      cases z with
      | d _ => exact h.elim
      | tup _ => exact h.elim
      | obj p' kd xs =>
       cases kd with
       | dct ks =>
        obtain ⟨rfl, h⟩ := h
        obtain ⟨S', dy, r', h, uy⟩ := use1 r h
        have tv : vx = .ref p' := r'.tmps (vx, .al p' i q) List.mem_cons_self
        subst tv
        obtain ⟨key, hk, h⟩ := onSome_some h
        obtain ⟨j, hj, h⟩ := onSome_some h
        obtain ⟨y, hz, h⟩ := onSome_some h
        obtain ⟨vs, hv, hf, ow⟩ := r'.seenObj e
        obtain ⟨v', e4, rz⟩ := ow.get hz
        refine rIx_d ⟨p', _, key, v', rfl, hv, keyOf_ud uy hk, by rw [valV_ix hf.1 hj]; exact e4, ?_⟩
        cases y with
        | d y => exact fin r' rz (fun _ => Nat.zero_le _) h
        | tup _ => exact h.elim
        | obj c _ ys =>
          have ev := rz.ref rfl
          subst ev
          exact hP _ _ _ _ _ h r'.pop.seen
       | lst =>
        obtain ⟨rfl, h⟩ := h
        obtain ⟨S', dy, r', h, uy⟩ := use1 r h
        have tv : vx = .ref p' := r'.tmps (vx, .al p' i q) List.mem_cons_self
        subst tv
        cases dy with
        | int n =>
          obtain ⟨j, hj, h⟩ := onSome_some h
          obtain ⟨vs, hv, ow⟩ := r'.seenAt e
          obtain rfl := uy.int
          cases ej : xs[j]? with
          | none => rw [ej] at h; exact h.elim
          | some y =>
            rw [ej] at h
            have hat : atI xs n = some y := by unfold atI; rw [hj]; exact ej
            obtain ⟨j', v, k1, e1, e2, e3⟩ := atI_len ow.length.symm hat
            obtain ⟨v', e4, rz⟩ := ow.get e1
            rw [e2] at e4; cases e4
            refine rIx_l ⟨_, _, _, _, rfl, rfl, .inl (.inl hv), e3, ?_⟩
            cases y with
            | d y => exact fin r' rz (fun _ => Nat.zero_le _) h
            | tup _ => exact h.elim
            | obj c _ ys =>
              have ev := rz.ref rfl
              subst ev
              exact hP _ _ _ _ _ h r'.pop.seen
        | _ => exact h.elim
theorem s_ix (ha : PE X a (tE X B Wx wa)) (hb : PE X b (tE X B Wx wb)) (hs : PlainIx b) : PE X (.Subscript a b pos)
    (tE X B Wx fun PX env P => wa PX env fun x env1 => wb PX env1 fun y env2 => itemW x y env2 fun w => P w env2) :=
  PE_imp (pe_ix ix_all ha hb hs) fun σ H Q h => s_two ix_step h

/-! ### slices -/
abbrev WO := (Exn → Env → Prop) → Env → (Option Int → Env → Prop) → Prop
def tO (X : Cx) (B : Bs) (Wx : WX) (w : WO) : TO := fun σ H Q => ∃ S env T P PX, R X.K B S H σ env T ∧ w PX env P ∧ (∀ x env' S' H', P x env' → R X.K B S' H' σ env' T → Q x H') ∧ Lets X B Wx PX
theorem PO_imp {e : Option Expr} {t t' : TO} (h : PO X e t) (f : ∀ σ H Q, t' σ H Q → t σ H Q) : PO X e t' := ⟨fun pins s σ H Q I q => h.run pins s σ H Q I (f σ H Q q)⟩
theorem so_none : PO X none (tO X B Wx fun _ env P => P none env) := PO_imp po_none fun σ H Q ⟨S, env, T, P, PX, r, hw, hP, hX⟩ => hP _ _ _ _ hw r
theorem so_some (ha : PE X a (tE X B Wx wa)) : PO X (some a) (tO X B Wx fun PX env P => wa PX env fun w env1 => match w with
    | .o (.d (.int i)) => P (some i) env1
    | _ => False) := by
  refine PO_imp (po_some ha) fun σ H Q ⟨S, env, T, P, PX, r, hw, hP, hX⟩ => ?_
  refine ⟨S, env, T, _, PX, r, hw, fun x env1 vx S1 H1 hq r1 => ?_, hX⟩
  split at hq
  · exact ⟨_, r1.intTop, hP _ _ _ _ hq r1.pop⟩
  · exact hq.elim
theorem cut_whole {ds : List D} {lo hi : Option Int} (h : HT.sIx ds.length 0 lo = 0 ∧ HT.sIx ds.length ds.length hi = ds.length) : cutD ds lo hi = ds := by
  unfold cutD
  rw [h.1, h.2, List.drop_zero, Nat.sub_zero, List.take_length]
theorem sl_step {S : Fz} {H : Hp} {σ : L2.St} {env : Env} {T : List (V × W)} {vx : V} {x : W} {lo hi : Option Int} {P : W → Env → Prop} {Q : VK} (r : R X.K B S H σ env ((vx, x) :: T))
    (h : useW x env fun dx => slW dx lo hi fun o => P (.o o) env) (hP : ∀ x env' v S' H', P x env' → R X.K B S' H' σ env' ((v, x) :: T) → Q v H') : rSlL X.K vx lo hi H Q ∨ (rSlA X.K vx lo hi H Q ∨ rSlS vx lo hi H Q) := by
  obtain ⟨S', dx, r', h, ux⟩ := use1 r h
  cases dx with
  | list ds =>
    obtain ⟨p, vs, rfl, hq, ra⟩ := ux.list
    have hl := ra.length
    have rc : RpA X.K S' H (cutV vs lo hi) (cutD ds lo hi) := by
      unfold cutV cutD
      rw [hl]
      exact (ra.drop _).take _
    exact .inl ⟨p, vs, rfl, hq, fun p hp => hP _ _ _ _ _ (h p) (newData r' hp rc)⟩
  | tuple ds =>
    obtain ⟨p, vs, rfl, hq, ra⟩ := ux.tup
    have hl := ra.length
    have rc : RpA X.K S' H (cutV vs lo hi) (cutD ds lo hi) := by
      unfold cutV cutD
      rw [hl]
      exact (ra.drop _).take _
    refine .inr (.inl ⟨p, vs, rfl, hq, fun hw => ?_, fun _ p hp => hP _ _ _ _ _ h (newTup r' hp rc)⟩)
    rw [hl] at hw
    have h' : P (.o (.d (.tuple ds))) env := by
      have := cut_whole hw
      rw [← this]; exact h
    exact hP _ _ _ _ _ h' (r'.push ux.rp_tup)
  | str x =>
    obtain rfl := ux.str
    exact .inr (.inr ⟨x, rfl, h.1, hP _ _ _ _ _ h.2 (r'.push (.str _))⟩)
  | _ => exact h.elim
theorem s_sl {lo hi : Option Expr} {p2 : Pos} {wl wh : WO} (ha : PE X a (tE X B Wx wa)) (hl : PO X lo (tO X B Wx wl)) (hh : PO X hi (tO X B Wx wh)) : PE X (.Subscript a (.Slice lo hi none p2) pos)
    (tE X B Wx fun PX env P => wa PX env fun x env1 => wl PX env1 fun l env2 => wh PX env2 fun h env3 => useW x env3 fun dx => slW dx l h fun o => P (.o o) env3) := by
  refine PE_imp (pe_slice (SlR.or sl_list (SlR.or sl_tupA sl_str)) ha hl hh) fun σ H Q ⟨S, env, T, P, PX, r, hw, hP, hX⟩ => ?_
  refine ⟨S, env, T, _, PX, r, hw, fun x env1 vx S1 H1 hq r1 => ?_, hX⟩
  refine ⟨S1, env1, (vx, x) :: T, _, PX, r1, hq, fun l env2 S2 H2 hq2 r2 => ?_, hX⟩
  refine ⟨S2, env2, (vx, x) :: T, _, PX, r2, hq2, fun h env3 S3 H3 hq3 r3 => ?_, hX⟩
  exact sl_step r3 hq3 hP

/-! ### built-in functions -/
/-- sum of a tuple -/
theorem cr_sumT (hc : X.calm = true) : CallR X (.builtin "sum") (fun vs H Q => ∃ (a : Addr) (ns : List Int), vs = [V.ref a] ∧ SqT X.K H a (ns.map V.int) ∧ Q (.int ns.sum) H) := by
  intro pins s σ H vs us Q I r h
  obtain ⟨t, ns, rfl, hs, q⟩ := h
  obtain rfl := Vals.ref1 r
  obtain ⟨its, rv, hl, _⟩ := I.tuple hs
  have hi : PyProof.Rows.IntsAre its ns := rv.ints
  obtain ⟨xs, e⟩ := hi.allInts.items
  have hn : numsOf (intItems xs).toList = ns := by rw [← e]; exact hi.numsOf
  rw [nums_intItems] at hn
  rw [e] at hl
  refine PySem.W.ktm_sumG (I.ok.hd hc) hl fun h' tk t' hk => ?_
  rw [preSum_eq, List.take_of_length_le (by simp), hn]
  exact ⟨.int ns.sum, H, I.kept (t' := tk) hk, ⟨t', rfl⟩, q⟩
theorem cr_repr {k : Nat} (hr : Room k X.A) (hg : X.A.guards = some []) : CallR X (.builtin "repr") (fun vs H Q => ∃ (v : V) (x : D), vs = [v] ∧ Dp X.K H v x ∧ PyData.showable x = true ∧ x.hasDict = false ∧ x.shown.length ≤ sizeLine ∧ x.depth ≤ 64 ∧ Q (.str x.shown) H) := by
  intro pins s σ H vs us Q I r h
  obtain ⟨v, x, rfl, dp, hs, hd, hz, hdep, q⟩ := h
  obtain ⟨u, rfl, ru⟩ := vals1 r
  obtain ⟨as, rd⟩ := Dp.reads I x v u dp ru
  have hu := hr.un
  cases dp with
  | non =>
    cases ru
    exact PySem.P.repr_of_none ⟨.str _, H, I.tok _, ⟨_, rfl⟩, q⟩
  | bl bb =>
    cases ru
    exact PySem.P.repr_of_bool ⟨.str _, H, I.tok _, ⟨_, rfl⟩, q⟩
  | int i =>
    obtain ⟨t, rfl⟩ := ru
    exact PySem.P.repr_of_int (by simpa [PyData.showable] using hs) ⟨.str _, H, I.tok _, ⟨_, rfl⟩, q⟩
  | str z =>
    obtain ⟨t, rfl⟩ := ru
    exact PySem.P.repr_of_str ⟨.str _, H, I.tok _, ⟨_, rfl⟩, q⟩ hz
  | lst f ra =>
    cases ru
    exact PySem.repr_of_reads' rd hs (PyData.noDict_hsm hd) hg (by omega) (fun _ _ e => e) (fun h' u tk hk => ⟨.str _, H, I.kept hk, ⟨_, rfl⟩, q⟩) hz
  | tup f ra =>
    cases ru
    exact PySem.repr_of_reads' rd hs (PyData.noDict_hsm hd) hg (by omega) (fun _ _ e => e) (fun h' u tk hk => ⟨.str _, H, I.kept hk, ⟨_, rfl⟩, q⟩) hz
theorem boolsOf_eq : ∀ {ds : List D} {ns : List Bool}, boolsOf ds = some ns → ds = ns.map PyData.bool
  | [], ns, h => by cases h; rfl
  | .bool i :: r, ns, h => by
    unfold boolsOf at h
    cases e : boolsOf r with
    | none => rw [e] at h; cases h
    | some es => rw [e] at h; cases h; rw [boolsOf_eq e]; rfl
  | .none :: _, _, h => nomatch h
  | .int _ :: _, _, h => nomatch h
  | .str _ :: _, _, h => nomatch h
  | .list _ :: _, _, h => nomatch h
  | .tuple _ :: _, _, h => nomatch h
  | .dict _ :: _, _, h => nomatch h
theorem UdA.one {S : Fz} {H : Hp} {K : PySem.W.Frag} {vs : List V} {x : D} (u : UdA K S H vs [x]) : ∃ v, vs = [v] ∧ Ud K S H v x := by
  cases u with
  | cons a b => cases b; exact ⟨_, rfl, a⟩
theorem UdA.two {S : Fz} {H : Hp} {K : PySem.W.Frag} {vs : List V} {x y : D} (u : UdA K S H vs [x, y]) : ∃ v w, vs = [v, w] ∧ Ud K S H v x ∧ Ud K S H w y := by
  cases u with
  | cons a b => cases b with
    | cons b c => cases c; exact ⟨_, _, rfl, a, b⟩

/-! ### sorted of pairs of ints -/
def keyP (H : Hp) : V → Int × Int
  | .ref t => match H t with
    | some (.tup [.int i, .int j]) => (i, j)
    | _ => (0, 0)
  | _ => (0, 0)
theorem pairsOf_eq : ∀ {ds : List D} {ps : List (Int × Int)}, pairsOf ds = some ps → ds = ps.map fun p => PyData.tuple [.int p.1, .int p.2]
  | [], ps, h => by cases h; rfl
  | x :: r, ps, h => by
    unfold pairsOf at h
    split at h
    · cases h
      rename_i h0
      cases h0
    · rename_i i j r' h0
      cases h0
      cases e : pairsOf r with
      | none => rw [e] at h; cases h
      | some es => rw [e] at h; cases h; rw [pairsOf_eq e]; rfl
    · cases h
end
end Vx
namespace Vx
open PySem PySem.Spec L2
section
variable {X : Cx} {B : Bs} {Wx : WX} {a b c : Expr} {wa wb wc : WT} {pos : Pos}

/-- sorted of pairs of ints, however the pairs lie -/
def rSortV (K : PySem.W.Frag) : List V → Hp → VK → Prop := fun vs H Q => ∃ (l : Addr) (xs : List V) (k : V → Int × Int), vs = [V.ref l] ∧ SqL K H l xs ∧ (∀ x ∈ xs, ∃ t, x = V.ref t ∧ SqT K H t [.int (k x).1, .int (k x).2]) ∧
  ∀ ys p, SrtO.Srtd (ltP k) ys → ys.Perm xs → H p = none → Q (.ref p) (upd H p (.lst ys))
theorem cr_sortV : CallR X (.builtin "sorted") (rSortV X.K) := by
  intro pins s σ H vs us Q I r h
  obtain ⟨l, xs, k, rfl, hs, hx, q⟩ := h
  obtain ⟨its, rv, hl, hz⟩ := I.list hs
  obtain rfl := Vals.ref1 r
  have refs : ∀ x ∈ xs, ∃ t, x = V.ref t := fun x m => let ⟨t, e, _⟩ := hx x m; ⟨t, e⟩
  obtain ⟨e1, e2⟩ := refs_back rv refs
  refine SrtO.sorted_pairsO (k := fun u => k (backV u)) hl.isList (by rw [← rv.length]; exact hz) (fun v hv => ?_) fun h' d out h1 h2 kp hd hn => ?_
  · obtain ⟨t, rfl⟩ := e2 v hv
    obtain ⟨t', e, ht⟩ := hx (V.ref t) (by rw [e1]; exact List.mem_map.mpr ⟨_, hv, rfl⟩)
    cases e
    obtain ⟨js, r2, ⟨o, ho, hc, n, hd⟩, _⟩ := I.tuple ht
    obtain ⟨t1, t2, rfl⟩ := Vals.int2 r2
    exact ⟨t, o, t1, t2, n, rfl, ho, hc, hd⟩
  · have h3 : ∀ u ∈ out, ∃ a, u = Value.ref a := fun u hu => e2 u (h2.perm.mem_iff.mp hu)
    have hp : (out.map backV).Perm xs := by rw [e1]; exact h2.perm.map backV
    obtain ⟨n, hn⟩ := hn
    refine ⟨.ref d, upd H d (.lst (out.map backV)), I.laid (t' := s.toks) kp hd ⟨?_, out, n, vals_back h3, hn⟩, rfl, q _ d (SrtO.srtd_map h1) hp (I.hok.fresh hd)⟩
    rw [hp.length_eq]
    exact hz
theorem pairLe_of {p q : Int × Int} (h : SrtO.lexB q p = false) : pairLe p q = true := by
  have h1 := SrtO.lexB_no.mp h
  unfold pairLe
  by_cases e : p.1 < q.1
  · rw [decide_eq_true e]; rfl
  · have e1 : p.1 = q.1 := by omega
    have e2 : p.2 ≤ q.2 := by omega
    rw [decide_eq_true e1, decide_eq_true e2, Bool.and_self, Bool.or_true]
/-- the pairs' values stand by a function of the value -/
theorem pairs_key {S : Fz} {H : Hp} {pins : List (Addr × Obj)} {σ : L2.St} {s : Shared} (I : L2.Inv X pins σ H s) : ∃ k : V → Int × Int, ∀ {vs : List V} {ps : List (Int × Int)}, RpA X.K S H vs (ps.map fun p => PyData.tuple [.int p.1, .int p.2]) →
    vs.map k = ps ∧ ∀ x ∈ vs, ∃ t, x = V.ref t ∧ SqT X.K H t [.int (k x).1, .int (k x).2] := by
  refine ⟨fun v => open Classical in if h : ∃ p : Int × Int, ∃ t, v = V.ref t ∧ SqT X.K H t [.int p.1, .int p.2] then h.choose else (0, 0), ?_⟩
  have key : ∀ {v : V} {p : Int × Int}, Rp X.K S H v (.tuple [.int p.1, .int p.2]) → (open Classical in if h : ∃ p : Int × Int, ∃ t, v = V.ref t ∧ SqT X.K H t [.int p.1, .int p.2] then h.choose else (0, 0)) = p ∧ ∃ t, v = V.ref t ∧ SqT X.K H t [.int p.1, .int p.2] := by
    intro v p r
    cases r with
    | tup f ra =>
      rename_i t xs
      have e : xs = [.int p.1, .int p.2] := RpA.ints (ns := [p.1, p.2]) ra
      subst e
      have h : ∃ p : Int × Int, ∃ u, V.ref t = V.ref u ∧ SqT X.K H u [.int p.1, .int p.2] := ⟨p, t, rfl, f⟩
      refine ⟨?_, t, rfl, f⟩
      rw [dif_pos h]
      obtain ⟨u, e, g⟩ := h.choose_spec
      cases e
      have e2 := I.tuple_inj g f
      injection e2 with e3 e4
      injection e4 with e5 _
      injection e3 with e3
      injection e5 with e5
      exact Prod.ext e3 e5
  intro vs ps
  induction ps generalizing vs with
  | nil => intro r; cases r; exact ⟨rfl, fun x h => nomatch h⟩
  | cons p ps ih =>
    intro r
    cases r with
    | cons ra rb =>
      obtain ⟨k1, t, e, f⟩ := key ra
      obtain ⟨h1, h2⟩ := ih rb
      refine ⟨by rw [List.map_cons, k1, h1], fun x hx => ?_⟩
      rcases List.mem_cons.mp hx with rfl | hx
      · refine ⟨t, e, ?_⟩
        simp only []
        rw [k1]; exact f
      · exact h2 x hx

/-! ### built-ins by values -/
def primV : Prim → Value
  | .len => .builtin "len"
  | .sum => .builtin "sum"
  | .tuple => .type "tuple"
  | .list => .type "list"
  | .sorted => .builtin "sorted"
  | .repr => .builtin "repr"
  | .abs => .builtin "abs"
  | .min2 => .builtin "min"
  | .max2 => .builtin "max"
  | .min => .builtin "min"
  | .max => .builtin "max"
  | .all => .builtin "all"
  | .any => .builtin "any"
  | .isi _ => .builtin "isinstance"
  | .isis _ => .builtin "isinstance"
/-- what is asked, of the values, with the heap's state at hand -/
def PrimOk (X : Cx) (p : Prim) : Prop :=
  ∀ (pins : List (Addr × Obj)) (s : Shared) (σ : L2.St) (H : Hp) (vs : List V) (us : List Value) (Q : VK) (B : Bs) (S : Fz) (env : Env) (T : List (V × W)) (ds : List D) (k : O → Prop),
    L2.Inv X pins σ H s → Vals vs us → R X.K B S H σ env T → UdA X.K S H vs ds → primW p ds k → (∀ o v S' H', k o → R X.K B S' H' σ env ((v, .o o) :: T) → Q v H') →
    wpAny (model X.prog X.w) X.A (call (primV p) us) (EP X pins σ Q) X.xe s
theorem lenV_of {S : Fz} {H : Hp} {v : V} {x : D} (u : Ud X.K S H v x) {n : Nat} (h : match x with | .list xs => n = xs.length | .tuple xs => n = xs.length | .str z => z.length ≤ sizeLine ∧ n = z.length | _ => False) : LenV X.K v H n := by
  cases x with
  | list xs =>
    obtain ⟨p, vs, rfl, hq, ra⟩ := u.list
    exact .inl ⟨vs, hq, by rw [ra.length]; exact h⟩
  | tuple xs =>
    obtain ⟨p, vs, rfl, hq, ra⟩ := u.tup
    exact .inr ⟨vs, hq, by rw [ra.length]; exact h⟩
  | str z => obtain rfl := u.str; exact h
  | _ => exact h.elim
theorem prim_ok {k : Nat} (hr : Room k X.A) (hg : X.A.guards = some []) (hc : X.calm = true) : ∀ p : Prim, (∀ t, p ≠ .isi t) → (∀ ts, p ≠ .isis ts) → PrimOk X p := by
  intro p h1 h2 pins s σ H vs us Q B S env T ds k I r rr u h hP
  have dat : ∀ {v : V} {x : D}, k (.d x) → Rp X.K S H v x → Q v H := fun h q => hP _ _ _ _ h (rr.push q)
  cases p with
  | isi t => exact absurd rfl (h1 t)
  | isis t => exact absurd rfl (h2 t)
  | len =>
    match ds, u, h with
    | [x], u, h =>
      obtain ⟨v, rfl, ux⟩ := u.one
      cases x with
      | list xs => exact call_len pins s σ H _ us Q I r ⟨v, xs.length, rfl, lenV_of ux rfl, dat h (.int _)⟩
      | tuple xs => exact call_len pins s σ H _ us Q I r ⟨v, xs.length, rfl, lenV_of ux rfl, dat h (.int _)⟩
      | str z => exact call_len pins s σ H _ us Q I r ⟨v, z.length, rfl, lenV_of ux ⟨h.1, rfl⟩, dat h.2 (.int _)⟩
      | _ => exact h.elim
    | [], _, h => exact h.elim
    | x :: y :: z, _, h => cases x <;> exact h.elim
  | sum =>
    match ds, u, h with
    | [x], u, h =>
      obtain ⟨v, rfl, ux⟩ := u.one
      cases x with
      | list xs =>
        obtain ⟨ns, e, h⟩ := onSome_some h
        obtain ⟨p, ws, rfl, hq, ra⟩ := ux.list
        rw [intsOf_eq e] at ra
        rw [ra.ints] at hq
        exact cr_sum hc pins s σ H _ us Q I r ⟨p, ns, rfl, hq, dat h (.int _)⟩
      | tuple xs =>
        obtain ⟨ns, e, h⟩ := onSome_some h
        obtain ⟨p, ws, rfl, hq, ra⟩ := ux.tup
        rw [intsOf_eq e] at ra
        rw [ra.ints] at hq
        exact cr_sumT hc pins s σ H _ us Q I r ⟨p, ns, rfl, hq, dat h (.int _)⟩
      | _ => exact h.elim
    | [], _, h => exact h.elim
    | x :: y :: z, _, h => cases x <;> exact h.elim
  | tuple =>
    match ds, u, h with
    | [x], u, h =>
      obtain ⟨v, rfl, ux⟩ := u.one
      cases x with
      | list xs =>
        obtain ⟨p, ws, rfl, hq, ra⟩ := ux.list
        exact call_tuple_of pins s σ H _ us Q I r ⟨p, ws, rfl, .inl ⟨hq, fun l hl => hP _ _ _ _ h (newTup rr hl ra)⟩⟩
      | tuple xs =>
        obtain ⟨p, ws, rfl, hq, ra⟩ := ux.tup
        exact call_tuple_of pins s σ H _ us Q I r ⟨p, ws, rfl, .inr ⟨hq, dat h ux.rp_tup⟩⟩
      | _ => exact h.elim
    | [], _, h => exact h.elim
    | x :: y :: z, _, h => cases x <;> exact h.elim
  | list =>
    match ds, u, h with
    | [x], u, h =>
      obtain ⟨v, rfl, ux⟩ := u.one
      cases x with
      | list xs =>
        obtain ⟨p, ws, rfl, hq, ra⟩ := ux.list
        exact call_list_of pins s σ H _ us Q I r ⟨p, ws, rfl, .inl hq, fun l hl => hP _ _ _ _ (h l) (newData rr hl ra)⟩
      | tuple xs =>
        obtain ⟨p, ws, rfl, hq, ra⟩ := ux.tup
        exact call_list_of pins s σ H _ us Q I r ⟨p, ws, rfl, .inr hq, fun l hl => hP _ _ _ _ (h l) (newData rr hl ra)⟩
      | _ => exact h.elim
    | [], _, h => exact h.elim
    | x :: y :: z, _, h => cases x <;> exact h.elim
  | sorted =>
    match ds, u, h with
    | [x], u, h =>
      obtain ⟨v, rfl, ux⟩ := u.one
      cases x with
      | list xs =>
        obtain ⟨ps, e, h⟩ := onSome_some h
        obtain ⟨p, ws, rfl, hq, ra⟩ := ux.list
        rw [pairsOf_eq e] at ra
        obtain ⟨kk, hk⟩ := pairs_key (S := S) I
        obtain ⟨k1, k2⟩ := hk ra
        refine cr_sortV pins s σ H _ us Q I r ⟨p, ws, kk, rfl, hq, k2, fun ys l hs hp hl => ?_⟩
        have hp2 : (ys.map kk).Perm ps := by rw [← k1]; exact hp.map kk
        have hs2 : (ys.map kk).Pairwise (fun p q => pairLe p q = true) := by
          rw [List.pairwise_map]
          exact hs.imp fun h => pairLe_of h
        have rl : ∀ (zs : List V), (∀ z ∈ zs, z ∈ ws) → RpA X.K S H zs ((zs.map kk).map fun p => PyData.tuple [.int p.1, .int p.2]) := by
          intro zs
          induction zs with
          | nil => intro _; exact .nil
          | cons z zs ih =>
            intro hm
            obtain ⟨t, e, f⟩ := k2 z (hm z List.mem_cons_self)
            refine .cons ?_ (ih fun y hy => hm y (List.mem_cons_of_mem _ hy))
            rw [e] at f ⊢
            exact .tup f (.cons (.int _) (.cons (.int _) .nil))
        have rn := newData rr hl (rl ys fun z hz => hp.mem_iff.mp hz)
        rw [List.map_map] at rn
        exact hP _ _ _ _ (h _ hp2 hs2 l) rn
      | _ => exact h.elim
    | [], _, h => exact h.elim
    | x :: y :: z, _, h => cases x <;> exact h.elim
  | repr =>
    match ds, u, h with
    | [x], u, h =>
      obtain ⟨v, rfl, ux⟩ := u.one
      have h' : PyData.showable x = true ∧ x.hasDict = false ∧ x.shown.length ≤ sizeLine ∧ x.depth ≤ 64 ∧ k (.d (.str x.shown)) := by cases x <;> exact h
      exact cr_repr hr hg pins s σ H _ us Q I r ⟨v, x, rfl, ux.dp h'.2.1, h'.1, h'.2.1, h'.2.2.1, h'.2.2.2.1, dat h'.2.2.2.2 (.str _)⟩
    | [], _, h => exact h.elim
    | x :: y :: z, _, h => cases x <;> exact h.elim
  | abs =>
    match ds, u, h with
    | [x], u, h =>
      obtain ⟨v, rfl, ux⟩ := u.one
      cases x with
      | int i =>
        obtain rfl := ux.int
        exact call_abs pins s σ H _ us Q I r ⟨i, rfl, dat h (.int _)⟩
      | _ => exact h.elim
    | [], _, h => exact h.elim
    | x :: y :: z, _, h => cases x <;> exact h.elim
  | max2 =>
    match ds, u, h with
    | [x, y], u, h =>
      obtain ⟨v, w, rfl, ux, uy⟩ := u.two
      cases x <;> cases y <;> first
        | exact h.elim
        | skip
      obtain rfl := ux.int
      obtain rfl := uy.int
      exact call_max2 hc pins s σ H _ us Q I r ⟨_, _, rfl, dat h (.int _)⟩
    | [], _, h => exact h.elim
    | [x], _, h => cases x <;> exact h.elim
    | x :: y :: z :: _, _, h => cases x <;> cases y <;> exact h.elim
  | min2 =>
    match ds, u, h with
    | [x, y], u, h =>
      obtain ⟨v, w, rfl, ux, uy⟩ := u.two
      cases x <;> cases y <;> first
        | exact h.elim
        | skip
      obtain rfl := ux.int
      obtain rfl := uy.int
      exact call_min2 hc pins s σ H _ us Q I r ⟨_, _, rfl, dat h (.int _)⟩
    | [], _, h => exact h.elim
    | [x], _, h => cases x <;> exact h.elim
    | x :: y :: z :: _, _, h => cases x <;> cases y <;> exact h.elim
  | all =>
    match ds, u, h with
    | [x], u, h =>
      obtain ⟨v, rfl, ux⟩ := u.one
      cases x with
      | list xs =>
        obtain ⟨ns, e, h⟩ := onSome_some h
        obtain ⟨p, ws, rfl, hq, ra⟩ := ux.list
        rw [boolsOf_eq e] at ra
        rw [ra.bools] at hq
        exact cr_all hc pins s σ H _ us Q I r ⟨p, ns, rfl, hq, dat h (.bl _)⟩
      | _ => exact h.elim
    | [], _, h => exact h.elim
    | x :: y :: z, _, h => cases x <;> exact h.elim
  | any =>
    match ds, u, h with
    | [x], u, h =>
      obtain ⟨v, rfl, ux⟩ := u.one
      cases x with
      | list xs =>
        obtain ⟨ns, e, h⟩ := onSome_some h
        obtain ⟨p, ws, rfl, hq, ra⟩ := ux.list
        rw [boolsOf_eq e] at ra
        rw [ra.bools] at hq
        exact cr_any hc pins s σ H _ us Q I r ⟨p, ns, rfl, hq, dat h (.bl _)⟩
      | _ => exact h.elim
    | [], _, h => exact h.elim
    | x :: y :: z, _, h => cases x <;> exact h.elim
  | min => cases ds <;> exact h.elim
  | max => cases ds <;> exact h.elim
end
end Vx
namespace Vx
open PySem PySem.Spec L2

/-! ### a list, a tuple, a text, gone through -/
section
variable {X : Cx} {tg : Expr}
def iSeq (K : PySem.W.Frag) (tl : TE) : TI := fun σ H Rk => tl σ H fun x H1 =>
  (∃ a, x = .ref a ∧ (∃ xs, SqL K H1 a xs) ∧ Rk (Itl K a) H1) ∨ (∃ a, x = .ref a ∧ (∃ xs, SqT K H1 a xs) ∧ Rk (Itt K a) H1)
theorem pi_seq {l : Expr} {tl : TE} (hl : PE X l tl) : PI X tg l (iSeq X.K tl) := by
  refine ⟨fun pins s σ H Rk I h => thn (hl.run pins s σ H _ I h) fun v s1 ⟨x, H1, I1, r1, q1⟩ => ?_⟩
  have new : ∀ b ∈ [s1.heap.objs.size], FpOk X pins H1 b := fun b hb => by
    rw [List.mem_singleton.mp hb]
    exact I1.fpOk (Nat.le_refl _) (I1.hok.fresh (Nat.le_refl _))
  have grown : ∀ o : Obj, L2.Inv X pins σ H1 { s1 with heap := s1.heap.push o } := fun o => I1.kept (t' := s1.toks) fun b ob e => Heap.get?_push_of_some _ e
  rcases q1 with ⟨a, rfl, ⟨xs, hq⟩, q⟩ | ⟨a, rfl, ⟨xs, hq⟩, q⟩
  · cases r1
    obtain ⟨its, rv, p, _⟩ := I1.list hq
    exact wpAny_pyIter_list p.isList ⟨_, _, _, _, H1, rfl, grown _, turn_list a _, ⟨_, Heap.get?_push_size _ rfl, rfl, rfl⟩, new, q⟩
  · cases r1
    obtain ⟨its, rv, p, _⟩ := I1.tuple hq
    exact wpAny_pyIter_tuple (show s1.heap.IsTuple a its.toArray from p) ⟨_, _, _, _, H1, rfl, grown _, turn_tuple a _, ⟨_, Heap.get?_push_size _ rfl, rfl, rfl⟩, new, q⟩
end

/-! ### enumerate of a list, of a tuple -/
section
open Sem (wp)
theorem meets_enum1 {v : Value} {o : Obj} {H : Heap → Prop} (B : Begins v o H) :
    Meets (Builtin.«enumerate.__new__» ⟨[.type "enumerate", v], []⟩) (fun _ R s => H s.heap ∧
      R (.ok (.ret (.ref (s.heap.push o).objs.size))) { s with heap := (s.heap.push o).push { cls := .type "enumerate", data := .fields #[.none, .bool false, .ref s.heap.objs.size, rawInt 0, .none, .none] } }) := by
  refine .of_wp fun prog w A R s h => ?_
  obtain ⟨hp, g, d, tk, os⟩ := s
  obtain ⟨h1, h⟩ := h
  have isEnum := sub_enumerate
  have begin_ : ∀ {A' : Around} {E : Value → Shared → Prop} {Q : Value → Shared → Prop}, Q (.ref hp.objs.size) ⟨hp.push o, g, d, tk, os⟩ → wpAny (model prog w) A' (pyIter v) Q E ⟨hp, g, d, tk, os⟩ := fun q =>
    B.iter prog w _ _ ⟨hp, g, d, tk, os⟩ _ h1 q
  wp_walk using begin_
  refine wpAny_stack_any fun st => wpAny_pure ?_
  split
  · rename_i c _ _ _ _ _
    cases (c == Value.type "enumerate") <;> (wp_walk using begin_; exact ⟨_, rfl, h⟩)
  · wp_walk using begin_
    exact ⟨_, rfl, h⟩
theorem call_enum1 {prog : Program} {w : World} {A : Around} {E : Value → Shared → Prop} {s : Shared} {v : Value} {o : Obj} {H : Heap → Prop} {Q : Value → Shared → Prop} (B : Begins v o H) (h1 : H s.heap)
    (h : ∀ h', IsEnum h' (s.heap.objs.size + 1) s.heap.objs.size 0 .none → h'.get? s.heap.objs.size = some o → (∀ b u, s.heap.get? b = some u → h'.get? b = some u) → Q (.ref (s.heap.objs.size + 1)) { s with heap := h' }) :
    wpAny (model prog w) A (call (.type "enumerate") [v]) Q E s := by
  refine callType_new F.called_enumerate (by decide) (F.typeCall_enumerate_1 _) (F.newCall_enumerate_1 _) (fun obj => F.args_object_init_2 obj _) F.entry_enumerate_new (meets_enum1 B) ⟨h1, ?_⟩
  have hz : (s.heap.push o).objs.size = s.heap.objs.size + 1 := Heap.size_push ..
  have hg := Heap.get?_push_size (s.heap.push o) (o := { cls := .type "enumerate", data := .fields #[.none, .bool false, .ref s.heap.objs.size, rawInt 0, .none, .none] }) rfl
  rw [hz] at hg
  show _ ∧ _
  rw [hz]
  exact ⟨⟨_, hg, rfl⟩, h _ hg (Heap.get?_push_of_some _ (Heap.get?_push_size _ B.free)) fun b u x => Heap.get?_push_of_some _ (Heap.get?_push_of_some _ x)⟩
end
section
theorem enumT_end {prog : Program} {w : World} {A : Around} {E : Value → Shared → Prop} {s : Shared} {e it t : Addr} {i : Nat} {items : Array Value} {old : Value} {Q : Option Value → Shared → Prop} (hh : A.handled = none)
    (he : IsEnum s.heap e it i old) (hi : s.heap.IsTupleIter it t i) (ht : s.heap.IsTuple t items) (hx : items[i]? = none) (hQ : ∀ h', Heap.ExtBut it s.heap h' → Q none { s with heap := h' }) : wpAny (model prog w) A (pyNext (.ref e)) Q E s := by
  have ty : s.TypeIs (.ref e) "enumerate" := ⟨_, he, rfl⟩
  unfold pyNext
  refine wpAny_bind (wpAny_attempt (wpAny_callSpecial?_slot (name := Str.ofString "__next__") ty F.slot_enumerate_next (wpAny_call_entry F.slot_enumerate_next ty F.entry_enumerate_next ?_ (F.args_enumerate_next_1 _))))
  show wpAny _ _ (field (.ref e) 2 >>= _) _ _ _
  refine wpAny_bind (wpAny_field he rfl (x := .ref it) rfl (wpAny_bind (wpAny_nextOf_tuple_end hh hi ht hx fun h' x eb hs => ?_)))
  obtain ⟨o, ho, hc⟩ := hs
  exact wpAny_bind (wpAny_isInstance (T := "StopIteration") (b := true) ⟨o, ho, hc⟩ isSubtype_stop (wpAny_pure (hQ _ eb)))
/-- the tuple at a, each item in a new pair with its number -/
def IteT (K : PySem.W.Frag) (a : Addr) : It :=
  ⟨fun i H => ∃ (xs : List V) (x : V), SqT K H a xs ∧ xs[i]? = some x, fun i H v H' => ∃ T x, v = .ref T ∧ H T = none ∧ H' = upd H T (.tup [.int (i : Nat), x]) ∧ ∀ xs, SqT K H a xs → xs[i]? = some x, fun i H => ∃ xs : List V, SqT K H a xs ∧ xs.length ≤ i⟩
theorem two_mem {b e it : Addr} (h : b ∈ [e, it]) : b = e ∨ b = it := by simpa using h
theorem turn_enumT {P : Program} {w : World} {K : PySem.W.Frag} {elts : List Expr} {kk : Nat} {tpos : Pos} (a e it : Addr) :
    Turn P w K (.Tuple elts kk tpos) (IteT K a) [e, it] e (fun i h => (∃ old, IsEnum h e it ((i : Nat) : Int) old) ∧ h.IsTupleIter it a i ∧ e ≠ it) := by
  refine ⟨by simp, ?_, ?_, ?_, ?_, ?_⟩
  · intro i h ⟨⟨old, he⟩, ⟨o, ho, _, hd⟩, _⟩ b hb
    rcases two_mem hb with rfl | rfl
    · exact ⟨_, he, fun v q => nomatch q⟩
    · exact ⟨o, ho, fun v q => by rw [hd] at q; cases q⟩
  · intro i h h' ⟨⟨old, he⟩, hi, hne⟩ k
    exact ⟨⟨old, k e (by simp) _ he⟩, hi.at fun o q => k it (by simp) o q, hne⟩
  · intro X hP hw hK hc i pins s σ H E I hf ⟨⟨old, he⟩, hit, hne⟩ ⟨xs, x, hq, hx⟩
    subst hP hw hK
    obtain ⟨its, rv, p, _⟩ := I.tuple hq
    have p' : s.heap.IsTuple a its.toArray := p
    obtain ⟨u, hu, ru⟩ := rv.get hx
    have hel : e < s.heap.objs.size := Heap.lt_size he
    have hil : it < s.heap.objs.size := by obtain ⟨_, q, _⟩ := hit; exact Heap.lt_size q
    have hai : a ≠ it := fun z => by
      obtain ⟨o1, q1, c1, _⟩ := hit
      obtain ⟨o2, q2, c2, _⟩ := p'
      rw [z, q1] at q2
      cases q2
      rw [c1] at c2
      exact absurd (Value.type.inj c2) (by decide)
    have hea : e ≠ a := fun z => by
      obtain ⟨o2, q2, c2, _⟩ := p'
      rw [← z, he] at q2
      cases q2
      exact absurd (Value.type.inj c2) (by decide)
    have D : Draws X.prog X.w X.A.in1 it [it, a] its.toArray.size (fun i v => its.toArray[i]? = some v) (fun i h => h.IsTupleIter it a i ∧ h.IsTuple a its.toArray) := Draws.tuple (show X.A.in1.handled = none from I.ok.hd hc) it a hai its.toArray
    have hlt : i < its.toArray.size := by
      rw [List.size_toArray]
      exact (List.getElem?_eq_some_iff.mp hu).1
    refine wpAny_pyNext_enum_itemD D he ⟨hit, p'⟩ hlt hne (fun z => (two_mem z).elim hne hea) fun y h' tk hy ho hst hT hsz hk => ?_
    have ey : y = u := by
      have hy' : its[i]? = some y := by simpa using hy
      rw [hu] at hy'
      exact (Option.some.inj hy').symm
    subst ey
    refine ⟨_, rfl, wpAny_letOwnedTupleGo_enum (s := { s with heap := h', toks := tk + 1 }) ho fun h'' he' sb => ?_⟩
    have hT2 : h''.get? s.heap.objs.size = some { cls := .type "tuple", data := .seq #[.int i tk, y] } := (sb.2 _ (Nat.ne_of_gt hel)).trans hT
    have new : ObjOk X.prog X.w (upd H s.heap.objs.size (.tup [.int (i : Nat), x])) h'' s.heap.objs.size (.tup [.int (i : Nat), x]) :=
      ⟨by show 2 ≤ sizeLine; decide, [.int i tk, y], .cons ⟨_, rfl⟩ (.cons ru .nil), ⟨_, hT2, rfl, _, rfl⟩⟩
    have I1 : L2.Inv X pins σ (upd H s.heap.objs.size (.tup [.int (i : Nat), x])) { s with heap := h'', toks := tk + 1 } :=
      I.turnedNew (ch := [e, it]) (fun b ob hb q => (sb.2 b (fun z => hb (by simp [z]))).trans (hk b ob (fun z => hb (by simp [z])) (fun z => hb (by simp [z])) q)) hf (Nat.le_refl _) new
    refine ⟨.ref s.heap.objs.size, _, I1, rfl, ⟨_, x, rfl, I.hok.fresh (Nat.le_refl _), rfl, fun ys hy => by rw [I.tuple_inj hy hq]; exact hx⟩, ⟨⟨y, ?_⟩, hst.1.at fun o q => (sb.2 it (Ne.symm hne)).trans q, hne⟩, fun b hb => ?_⟩
    · have e1 : ((i + 1 : Nat) : Int) = (i : Int) + 1 := by omega
      rw [e1]; exact he'
    · have hb' : b < s.heap.objs.size := by
        rcases two_mem hb with z | z
        · rw [z]; exact hel
        · rw [z]; exact hil
      rw [upd_ne (Nat.ne_of_lt hb')]
      exact (hf b hb).1
  · intro X hP hw hK hc i pins s σ H E I hf ⟨⟨old, he⟩, hit, hne⟩ ⟨xs, hq, hx⟩
    subst hP hw hK
    obtain ⟨its, rv, p, _⟩ := I.tuple hq
    have p' : s.heap.IsTuple a its.toArray := p
    obtain ⟨f0, f1, f2, f3, f4, f5⟩ := hf it (by simp)
    have hl := rv.length
    have hx' : its.toArray[i]? = none := by
      rw [List.getElem?_toArray]
      exact List.getElem?_eq_none (by omega)
    exact enumT_end (I.ok.hd hc) he hit p' hx' fun h' eb => ⟨rfl, I.turned (t' := s.toks) (fun b o hb q => eb b o hb q) f0 f1 f3 f4 f5⟩
  · intro A i s Q E ⟨⟨_, he⟩, _⟩ h
    exact wpAny_pyIter_enum he h
/-- enumerate(xs), of a list or a tuple -/
def iEnumV (K : PySem.W.Frag) (ta : TA) : TI := fun σ H Rk => ta σ H fun vs H1 => ∃ a xs, vs = [.ref a] ∧ ((SqL K H1 a xs ∧ Rk (Ite K a) H1) ∨ (SqT K H1 a xs ∧ Rk (IteT K a) H1))
theorem pi_enumV {X : Cx} {e : Expr} {ta : TA} {p pos tpos : Pos} {elts : List Expr} {kk : Nat} (hg : Gl X "enumerate") (hm : X.mg "enumerate" = none) (ha : PA X [e] ta) (hs : starEach [e] X.env = [(false, eval e X.env)]) :
    PI X (.Tuple elts kk tpos) (.Call (.Name "enumerate" p) [e] [] pos) (iEnumV X.K ta) := by
  refine ⟨fun pins s σ H Rk I h => ?_⟩
  refine PyProof.Rows.Call_ (ld_blt I hg hm PyProof.Rows.boot_enumerate (PyProof.Rows.callWith_type1 (thn (ha.run pos pins s σ H _ I h) fun us s1 ⟨vs, H1, I1, r1, a, xs, ex, q1⟩ => ?_) hs rfl))
  subst ex
  obtain rfl := Vals.ref1 r1
  have new : ∀ b ∈ [s1.heap.objs.size + 1, s1.heap.objs.size], FpOk X pins H1 b := fun b hb => by
    have hle : s1.heap.objs.size ≤ b := by
      rcases two_mem hb with z | z
      · rw [z]; exact Nat.le_add_right _ _
      · rw [z]; exact Nat.le_refl _
    exact I1.fpOk hle (I1.hok.fresh hle)
  rcases q1 with ⟨hq, q⟩ | ⟨hq, q⟩
  · obtain ⟨its, rv, p', _⟩ := I1.list hq
    exact call_enum1 (begins_list a its.toArray) p'.isList fun h' he hit hk => wpAny_pyIter_enum he
      ⟨_, _, _, _, H1, rfl, I1.kept (t' := s1.toks) hk, turn_enum a _ _, ⟨⟨.none, he⟩, ⟨_, hit, rfl, rfl⟩, Nat.succ_ne_self _⟩, new, q⟩
  · obtain ⟨its, rv, p', _⟩ := I1.tuple hq
    exact call_enum1 (begins_tuple a its.toArray) p' fun h' he hit hk => wpAny_pyIter_enum he
      ⟨_, _, _, _, H1, rfl, I1.kept (t' := s1.toks) hk, turn_enumT a _ _, ⟨⟨.none, he⟩, ⟨_, hit, rfl, rfl⟩, Nat.succ_ne_self _⟩, new, q⟩
end
end Vx
namespace Vx
open PySem PySem.Spec L2
section
variable {X : Cx} {B : Bs} {Wx : WX} {a b c : Expr} {wa wb wc : WT} {pos : Pos}

/-! ### targets -/
/-- the other slots stand -/
structure Else (is : List Nat) (σ σ' : L2.St) : Prop where
  len : σ'.length = σ.length
  at_ : ∀ j, j ∉ is → σ'[j]? = σ[j]?
theorem Else.set {i : Nat} {σ : L2.St} {v : Option V} {is : List Nat} (h : i ∈ is) : Else is σ (σ.set i v) :=
  ⟨List.length_set, fun j hj => List.getElem?_set_ne fun e => hj (by rw [← e]; exact h)⟩
theorem Else.trans {is : List Nat} {σ σ1 σ2 : L2.St} (x : Else is σ σ1) (y : Else is σ1 σ2) : Else is σ σ2 := ⟨y.len.trans x.len, fun j h => (y.at_ j h).trans (x.at_ j h)⟩
theorem Else.more {is js : List Nat} {σ σ1 : L2.St} (x : Else is σ σ1) (h : ∀ i ∈ is, i ∈ js) : Else js σ σ1 := ⟨x.len, fun j hj => x.at_ j fun q => hj (h j q)⟩
def gT (X : Cx) (B : Bs) (t : Tg) : TG := fun v σ H Q => ∃ S env T w P, R X.K B S H σ env ((v, w) :: T) ∧ bindT t w env P ∧
  ∀ env' S' σ', P env' → R X.K B S' H σ' env' T → Else t.slots σ σ' → env'.length = env.length → Q σ' H
theorem PG_imp {e : Expr} {t t' : TG} (h : PG X e t) (f : ∀ v σ H Q, t' v σ H Q → t v σ H Q) : PG X e t' := ⟨fun pins s σ H v u Q I r q => h.run pins s σ H v u Q I r (f v σ H Q q)⟩
theorem R.slot {S : Fz} {H : Hp} {σ : L2.St} {env : Env} {T : List (V × W)} {v : V} {o : O} {K : PySem.W.Frag} (r : R K B S H σ env ((v, .o o) :: T)) : ∃ S', R K B S' H σ env ((v, .o (slotO o)) :: T) := by
  cases o with
  | d x => exact ⟨S, r⟩
  | obj p k xs => exact ⟨S, r⟩
  | tup xs => exact ⟨_, r.froze⟩
theorem escW_len {w : W} {env : Env} {Q : D → Env → Prop} (h : escW w env Q) : escW w env fun x env' => env'.length = env.length ∧ Q x env' := by
  cases w with
  | o x => exact ⟨rfl, h⟩
  | al a i p =>
    unfold escW at h ⊢
    cases e : envAt env i p with
    | none => simp only [e] at h
    | some y =>
      simp only [e] at h ⊢
      cases y with
      | d _ => exact h.elim
      | tup _ => exact h.elim
      | obj b k xs => exact ⟨h.1, envPut_length, h.2⟩
theorem inW_len {w : W} {env : Env} {Q : O → Env → Prop} (h : inW w env Q) : inW w env fun x env' => env'.length = env.length ∧ Q x env' := by
  cases w with
  | o x => exact ⟨rfl, h⟩
  | al a i p =>
    have h' : escW (.al a i p) env fun x env' => Q (.d x) env' := h
    exact escW_len h'
theorem g_name {i : Nat} (h : PG X a (gName i)) : PG X a (gT X B (.v i)) := by
  refine PG_imp h fun v σ H Q ⟨S, env, T, w, P, r, hb, q⟩ => ?_
  have hb' : inW w env fun o env' => i < env'.length ∧ P (env'.set i (some (slotO o))) := hb
  obtain ⟨o, env', S', ⟨hl, hi, hp⟩, r1⟩ := r.into (inW_len hb')
  obtain ⟨S2, r2⟩ := r1.slot
  exact q _ _ _ hp (r2.store hi) (Else.set List.mem_cons_self) (by rw [List.length_set]; exact hl)
def gNames : List Nat → TGs
  | [] => gNil
  | i :: is => gCons (gName i) (gNames is)
theorem setAll_ok {K : PySem.W.Frag} {H : Hp} {T : List (V × W)} {Q : L2.St → Hp → Prop} {S : Fz} : ∀ {is : List Nat} {vs : List V} {os : List O} {σ : L2.St} {env : Env} {P : Env → Prop}, vs.length = os.length → R K B S H σ env (vs.zip (os.map W.o) ++ T) → setAll is os env P →
    (∀ env' σ', P env' → R K B S H σ' env' T → Else is σ σ' → env'.length = env.length → Q σ' H) → gNames is vs σ H Q
  | [], [], [], σ, env, P, _, r, h, q => ⟨rfl, q env σ h r ⟨rfl, fun _ _ => rfl⟩ rfl⟩
  | [], _, _ :: _, _, _, _, _, _, h, _ => h.elim
  | _ :: _, _, [], _, _, _, _, _, h, _ => h.elim
  | i :: is, v :: vs, o :: os, σ, env, P, hl, r, h, q => by
    refine ⟨v, vs, rfl, ?_⟩
    have r' : R K B S H σ env ((v, .o o) :: (vs.zip (os.map W.o) ++ T)) := r
    exact setAll_ok (Nat.succ.inj hl) (r'.store h.1) h.2 fun env' σ' hp r2 el hln => q env' σ' hp r2 (((Else.set List.mem_cons_self).more fun _ h => h).trans (el.more fun _ h => List.mem_cons_of_mem _ h)) (by rw [hln, List.length_set])
  | [], _ :: _, [], _, _, _, hl, _, _, _ => nomatch hl
  | _ :: _, [], _ :: _, _, _, _, hl, _, _, _ => nomatch hl
theorem setAll_len : ∀ {is : List Nat} {os : List O} {env : Env} {P : Env → Prop}, setAll is os env P → is.length = os.length
  | [], [], _, _, _ => rfl
  | [], _ :: _, _, _, h => h.elim
  | _ :: _, [], _, _, h => h.elim
  | _ :: _, _ :: _, _, _, h => congrArg (· + 1) (setAll_len h.2)
theorem PG_or {e : Expr} {t t' : TG} (h : PG X e t) (h' : PG X e t') : PG X e (fun v σ H Q => t v σ H Q ∨ t' v σ H Q) :=
  ⟨fun pins s σ H v u Q I r q => q.elim (h.run pins s σ H v u Q I r) (h'.run pins s σ H v u Q I r)⟩
theorem gT_tup {is : List Nat} {n : Nat} {v : V} {σ : L2.St} {H : Hp} {Q : L2.St → Hp → Prop} (hn : is.length = n) (z : gT X B (.tup is) v σ H Q) : gTup X.K n (gNames is) v σ H Q ∨ gUnl X.K n (gNames is) v σ H Q := by
  obtain ⟨S, env, T, w, P, r, hb, q⟩ := z
  have dat : ∀ {vs : List V} {ds : List D}, RpA X.K S H vs ds → setAll is (ds.map O.d) env P → gNames is vs σ H Q := by
    intro vs ds ra hs
    have hl : vs.length = (ds.map O.d).length := by rw [ra.length, List.length_map]
    refine setAll_ok (T := T) (S := S) (B := B) (K := X.K) hl ?_ hs fun env' σ' hp r2 el hln => q env' S σ' hp r2 el hln
    refine r.pop.tmp (fun t ht => ?_) fun b => ?_
    · rcases List.mem_append.mp ht with ht | ht
      · have go : ∀ {vs : List V} {ds : List D}, RpA X.K S H vs ds → ∀ t ∈ vs.zip ((ds.map O.d).map W.o), TmpR X.K S H t := by
          intro vs ds ra
          induction ds generalizing vs with
          | nil => cases ra; intro t ht; exact absurd ht (by simp)
          | cons d ds ih =>
            cases ra with
            | cons x y =>
              intro t ht
              rcases List.mem_cons.mp ht with e | ht
              · subst e; exact OwnR.d x
              · exact ih y t ht
        exact go ra t ht
      · exact r.tmps t (List.mem_cons_of_mem _ ht)
    · rw [cntT_append, cntT_zip b hl, O.cntL_map]; omega
  cases w with
  | o x =>
    cases x with
    | d x =>
      cases x with
      | tuple ds =>
        have hb' : setAll is (ds.map O.d) env P := hb
        have rx := r.dataTop
        cases rx with
        | tup f ra => exact .inl ⟨_, _, rfl, f, by rw [ra.length, ← hn, setAll_len hb', List.length_map], dat ra hb'⟩
      | list ds =>
        have hb' : setAll is (ds.map O.d) env P := hb
        have rx := r.dataTop
        cases rx with
        | lst f ra => exact .inr ⟨_, _, rfl, f.sq, by rw [ra.length, ← hn, setAll_len hb', List.length_map], dat ra hb'⟩
      | _ => exact (hb : False).elim
    | tup os =>
      obtain ⟨_, hb'⟩ : os.all notTup = true ∧ setAll is os env P := hb
      have rx : OwnR X.K S H v (.tup os) := r.tmps (v, .o (.tup os)) List.mem_cons_self
      cases rx with
      | tup f ra =>
        have hl := ra.length
        refine .inl ⟨_, _, rfl, f, by rw [hl, ← hn, setAll_len hb'], ?_⟩
        refine setAll_ok (T := T) (S := S) (B := B) (K := X.K) hl ?_ hb' fun env' σ' hp r2 el hln => q env' S σ' hp r2 el hln
        refine r.tmp (fun t ht => ?_) fun b => ?_
        · rcases List.mem_append.mp ht with ht | ht
          · have go : ∀ {vs : List V} {os : List O}, OwnA X.K S H vs os → ∀ t ∈ vs.zip (os.map W.o), TmpR X.K S H t := by
              intro vs os ra
              induction os generalizing vs with
              | nil => cases ra; intro t ht; exact absurd ht (by simp)
              | cons d ds ih =>
                cases ra with
                | cons x y =>
                  intro t ht
                  rcases List.mem_cons.mp ht with e | ht
                  · subst e; exact x
                  · exact ih y t ht
            exact go ra t ht
          · exact r.tmps t (List.mem_cons_of_mem _ ht)
        · rw [cntT_append, cntT_zip b hl]
          show _ ≤ O.cntL b os + cntT b T
          omega
    | obj p k xs => exact (hb : False).elim
  | al p i q =>
    have tv : v = .ref p := r.tmps (v, .al p i q) List.mem_cons_self
    subst tv
    have hb' : itemsO (.al p i q) env fun os => setAll is os env P := hb
    unfold itemsO at hb'
    cases e : envAt env i q with
    | none => simp only [e] at hb'
    | some z =>
      simp only [e] at hb'
      cases z with
      | d _ => exact hb'.elim
      | tup _ => exact hb'.elim
      | obj p' k xs =>
        cases k with
        | dct _ => exact hb'.elim
        | lst =>
        obtain ⟨rfl, h3⟩ := hb'
        obtain ⟨ds, hd, h3⟩ := onSome_some h3
        obtain ⟨vs, hv, ow⟩ := r.seenAt e
        rw [datas_eq hd] at ow
        have ra := ow.data
        exact .inr ⟨_, _, rfl, .inl (.inl hv), by rw [ra.length, ← hn, setAll_len h3, List.length_map], dat ra h3⟩

theorem g_tup {is : List Nat} {n : Nat} (h : PG X a (gTup X.K n (gNames is))) (h2 : PG X a (gUnl X.K n (gNames is))) (hn : is.length = n) : PG X a (gT X B (.tup is)) :=
  PG_imp (PG_or h h2) fun _ _ _ _ z => gT_tup hn z
/-! ### what is gone through -/
abbrev WI := (Exn → Env → Prop) → Env → (Src → Env → Prop) → Prop
/-- J goes through the items of s, while the things Z are held -/
structure Goes (X : Cx) (B : Bs) (J : L2.It) (s : Src) (Z : List (V × W)) : Prop where
  go : ∀ S H σ env T i, R X.K B S H σ env (Z ++ T) → s.still env → i < s.xs.length → J.go i H
  yl : ∀ S H σ env T i x H' d, R X.K B S H σ env (Z ++ T) → s.still env → J.yld i H x H' → s.xs[i]? = some d → R X.K B S H' σ env ((x, .o (.d d)) :: (Z ++ T))
  st : ∀ S H σ env T i, R X.K B S H σ env (Z ++ T) → s.still env → s.xs.length ≤ i → J.stop i H
def tI (X : Cx) (B : Bs) (Wx : WX) (w : WI) : TI := fun σ H Rk => ∃ S env T P PX, R X.K B S H σ env T ∧ w PX env P ∧
  (∀ s env' S' H' J Z, P s env' → R X.K B S' H' σ env' (Z ++ T) → Goes X B J s Z → s.still env' → Rk J H') ∧ Lets X B Wx PX
theorem PI_imp {tg e : Expr} {t t' : TI} (h : PI X tg e t) (f : ∀ σ H Q, t' σ H Q → t σ H Q) : PI X tg e t' := ⟨fun pins s σ H Q I q => h.run pins s σ H Q I (f σ H Q q)⟩
theorem Goes.list {v : V} {ds : List D} {p : Addr} (hv : v = .ref p) : Goes X B (Itl X.K p) ⟨ds, none⟩ [(v, .o (.d (.list ds)))] := by
  subst hv
  have key : ∀ {S H σ env T}, R X.K B S H σ env ([(V.ref p, W.o (.d (.list ds)))] ++ T) → ∃ vs, SqL X.K H p vs ∧ RpA X.K S H vs ds := by
    intro S H σ env T r
    have rx : Rp X.K S H (.ref p) (.list ds) := R.dataTop r
    cases rx with
    | lst f ra => exact ⟨_, f.sq, ra⟩
  refine ⟨fun S H σ env T i r _ hi => ?_, fun S H σ env T i x H' d r _ y hd => ?_, fun S H σ env T i r _ hi => ?_⟩
  · obtain ⟨vs, hq, ra⟩ := key r
    obtain ⟨v, hv, _⟩ := ra.getD (List.getElem?_eq_getElem hi)
    exact ⟨vs, v, hq, hv⟩
  · obtain ⟨vs, hq, ra⟩ := key r
    obtain ⟨rfl, y⟩ := y
    obtain ⟨v, hv, rv⟩ := ra.getD hd
    have e := y vs hq
    rw [hv] at e; cases e
    exact r.push rv
  · obtain ⟨vs, hq, ra⟩ := key r
    exact ⟨vs, hq, by rw [ra.length]; exact hi⟩
theorem Goes.tup {v : V} {ds : List D} {p : Addr} (hv : v = .ref p) : Goes X B (Itt X.K p) ⟨ds, none⟩ [(v, .o (.d (.tuple ds)))] := by
  subst hv
  have key : ∀ {S H σ env T}, R X.K B S H σ env ([(V.ref p, W.o (.d (.tuple ds)))] ++ T) → ∃ vs, SqT X.K H p vs ∧ RpA X.K S H vs ds := by
    intro S H σ env T r
    have rx : Rp X.K S H (.ref p) (.tuple ds) := R.dataTop r
    cases rx with
    | tup f ra => exact ⟨_, f, ra⟩
  refine ⟨fun S H σ env T i r _ hi => ?_, fun S H σ env T i x H' d r _ y hd => ?_, fun S H σ env T i r _ hi => ?_⟩
  · obtain ⟨vs, hq, ra⟩ := key r
    obtain ⟨v, hv, _⟩ := ra.getD (List.getElem?_eq_getElem hi)
    exact ⟨vs, v, hq, hv⟩
  · obtain ⟨vs, hq, ra⟩ := key r
    obtain ⟨rfl, y⟩ := y
    obtain ⟨v, hv, rv⟩ := ra.getD hd
    have e := y vs hq
    rw [hv] at e; cases e
    exact r.push rv
  · obtain ⟨vs, hq, ra⟩ := key r
    exact ⟨vs, hq, by rw [ra.length]; exact hi⟩
/-- an owned list, as it stands -/
theorem Goes.seen {v : V} {ds : List D} {p : Addr} {i : Nat} {q : List Stp} : Goes X B (Itl X.K p) ⟨ds, some (p, i, q)⟩ [] := by
  have key : ∀ {S H σ env T}, R X.K B S H σ env ([] ++ T) → envAt env i q = some (.lst p (ds.map O.d)) → ∃ vs, SqL X.K H p vs ∧ RpA X.K S H vs ds := by
    intro S H σ env T r h
    obtain ⟨vs, hv, ow⟩ := R.seenAt r h
    exact ⟨vs, .inl (.inl hv), ow.data⟩
  refine ⟨fun S H σ env T i r h hi => ?_, fun S H σ env T i x H' d r h y hd => ?_, fun S H σ env T i r h hi => ?_⟩
  · obtain ⟨vs, hq, ra⟩ := key r h
    obtain ⟨v, hv, _⟩ := ra.getD (List.getElem?_eq_getElem hi)
    exact ⟨vs, v, hq, hv⟩
  · obtain ⟨vs, hq, ra⟩ := key r h
    obtain ⟨rfl, y⟩ := y
    obtain ⟨v, hv, rv⟩ := ra.getD hd
    have e := y vs hq
    rw [hv] at e; cases e
    exact r.push rv
  · obtain ⟨vs, hq, ra⟩ := key r h
    exact ⟨vs, hq, by rw [ra.length]; exact hi⟩
theorem i_seq {tg : Expr} (h : PE X a (tE X B Wx wa)) : PI X tg a (tI X B Wx fun PX env P => wa PX env fun w env1 => srcW w env1 fun s => P s env1) := by
  refine PI_imp (pi_seq h) fun σ H Rk ⟨S, env, T, P, PX, r, hw, hP, hX⟩ => ?_
  refine ⟨S, env, T, _, PX, r, hw, fun x env1 vx S1 H1 hq r1 => ?_, hX⟩
  cases x with
  | o x =>
    obtain ⟨ds, hd, hq⟩ := onSome_some hq
    have r2 := r1.froze
    have rx := r2.dataTop
    cases hx : x.toD with
    | list es =>
      rw [hx] at hd rx r2
      cases hd
      cases rx with
      | lst f ra => exact .inl ⟨_, rfl, ⟨_, f.sq⟩, hP _ _ _ _ _ [(V.ref _, W.o (.d (.list _)))] hq r2 (Goes.list rfl) trivial⟩
    | tuple es =>
      rw [hx] at hd rx r2
      cases hd
      cases rx with
      | tup f ra => exact .inr ⟨_, rfl, ⟨_, f⟩, hP _ _ _ _ _ [(V.ref _, W.o (.d (.tuple _)))] hq r2 (Goes.tup rfl) trivial⟩
    | none => rw [hx] at hd; cases hd
    | bool _ => rw [hx] at hd; cases hd
    | int _ => rw [hx] at hd; cases hd
    | str _ => rw [hx] at hd; cases hd
    | dict _ => rw [hx] at hd; cases hd
  | al p i q =>
    have tv : vx = .ref p := r1.tmps (vx, .al p i q) List.mem_cons_self
    subst tv
    unfold srcW at hq
    cases e : envAt env1 i q with
    | none => simp only [e] at hq
    | some z =>
      simp only [e] at hq
      cases z with
      | d _ => exact hq.elim
      | tup _ => exact hq.elim
      | obj p' k xs =>
        cases k with
        | dct _ => exact hq.elim
        | lst =>
        obtain ⟨rfl, hq⟩ := hq
        obtain ⟨ds, hd, hq⟩ := onSome_some hq
        obtain ⟨vs, hv, ow⟩ := r1.seenAt e
        rw [datas_eq hd] at e
        exact .inl ⟨_, rfl, ⟨vs, .inl (.inl hv)⟩, hP _ _ _ _ _ [] hq r1.pop (Goes.seen (v := .non)) e⟩
theorem upTo_get {lo : Int} {n i : Nat} {d : D} (h : (upTo lo n)[i]? = some d) : d = .int (lo + i) := by
  unfold upTo at h
  rw [List.getElem?_map] at h
  cases e : (List.range n)[i]? with
  | none => rw [e] at h; cases h
  | some j =>
    rw [e] at h
    have : j = i := by
      obtain ⟨_, h2⟩ := List.getElem?_eq_some_iff.mp e
      simpa using h2.symm
    subst this
    exact (Option.some.inj h).symm
theorem upTo_length {lo : Int} {n : Nat} : (upTo lo n).length = n := by unfold upTo; simp
theorem Goes.range {lo : Int} {n : Nat} : Goes X B (L2.Itr lo n) ⟨upTo lo n, none⟩ [] := by
  refine ⟨fun S H σ env T i r _ hi => ?_, fun S H σ env T i x H' d r _ y hd => ?_, fun S H σ env T i r _ hi => ?_⟩
  · have hi' : i < (upTo lo n).length := hi
    rw [upTo_length] at hi'; exact hi'
  · obtain ⟨rfl, rfl⟩ := y
    rw [upTo_get hd]
    exact r.push (.int _)
  · have hi' : (upTo lo n).length ≤ i := hi
    rw [upTo_length] at hi'; exact hi'
theorem i_r1 {tg : Expr} {p : Pos} (hg : Gl X "range") (hm : X.mg "range" = none) (h : PE X a (tE X B Wx wa)) (hs : starEach [a] X.env = [(false, eval a X.env)]) : PI X tg (.Call (.Name "range" p) [a] [] pos)
    (tI X B Wx fun PX env P => wa PX env fun w env1 => match w with
      | .o (.d (.int i)) => inRange i ∧ P ⟨upTo 0 i.toNat, none⟩ env1
      | _ => False) := by
  refine PI_imp (pi_range1 hg hm (pa_cons h pa_nil hs) hs) fun σ H Rk ⟨S, env, T, P, PX, r, hw, hP, hX⟩ => ?_
  refine ⟨S, env, T, _, PX, r, hw, fun x env1 vx S1 H1 hq r1 => ?_, hX⟩
  split at hq
  · have ev := r1.intTop
    subst ev
    exact ⟨_, rfl, hq.1.1, hq.1.2, hP _ _ _ _ _ [] hq.2 r1.pop Goes.range trivial⟩
  · exact hq.elim
theorem i_r2 {tg : Expr} {p : Pos} (hg : Gl X "range") (hm : X.mg "range" = none) (ha : PE X a (tE X B Wx wa)) (hb : PE X b (tE X B Wx wb)) (hs : starEach [a, b] X.env = [(false, eval a X.env), (false, eval b X.env)]) (hs2 : starEach [b] X.env = [(false, eval b X.env)]) : PI X tg (.Call (.Name "range" p) [a, b] [] pos)
    (tI X B Wx fun PX env P => wa PX env fun w env1 => wb PX env1 fun u env2 => match w, u with
      | .o (.d (.int i)), .o (.d (.int j)) => inRange i ∧ inRange j ∧ P ⟨upTo i (j - i).toNat, none⟩ env2
      | _, _ => False) := by
  refine PI_imp (pi_range2 hg hm (pa_cons ha (pa_cons hb pa_nil hs2) (by rw [hs, hs2])) hs hs2) fun σ H Rk ⟨S, env, T, P, PX, r, hw, hP, hX⟩ => ?_
  refine ⟨S, env, T, _, PX, r, hw, fun x env1 vx S1 H1 hq r1 => ?_, hX⟩
  refine ⟨S1, env1, (vx, x) :: T, _, PX, r1, hq, fun y env2 vy S2 H2 hk r2 => ?_, hX⟩
  split at hk
  · have e1 := r2.intTop
    have e2 := r2.pop.intTop
    subst e1 e2
    exact ⟨_, _, rfl, ⟨hk.1.1, hk.1.2, hk.2.1.1, hk.2.1.2⟩, hP _ _ _ _ _ [] hk.2.2 r2.pop.pop Goes.range trivial⟩
  · exact hk.elim
theorem numbered_get {xs : List D} {i : Nat} {d : D} (h : (numbered xs)[i]? = some d) : ∃ y, xs[i]? = some y ∧ d = .tuple [.int i, y] := by
  unfold numbered at h
  rw [List.getElem?_map, List.getElem?_zipIdx] at h
  cases e : xs[i]? with
  | none => rw [e] at h; cases h
  | some y =>
    rw [e] at h
    refine ⟨y, rfl, (Option.some.inj h).symm.trans ?_⟩
    simp
theorem numbered_length {xs : List D} : (numbered xs).length = xs.length := by unfold numbered; simp
theorem i_enum {p tpos : Pos} {elts : List Expr} {kk : Nat} (hg : Gl X "enumerate") (hm : X.mg "enumerate" = none) (h : PE X a (tE X B Wx wa)) (hs : starEach [a] X.env = [(false, eval a X.env)]) : PI X (.Tuple elts kk tpos) (.Call (.Name "enumerate" p) [a] [] pos)
    (tI X B Wx fun PX env P => wa PX env fun w env1 => match w with
      | .o y => onSome (seqOf y.toD) fun ds => P ⟨numbered ds, none⟩ env1
      | _ => False) := by
  refine PI_imp (pi_enumV hg hm (pa_cons h pa_nil hs) hs) fun σ H Rk ⟨S, env, T, P, PX, r, hw, hP, hX⟩ => ?_
  refine ⟨S, env, T, _, PX, r, hw, fun x env1 vx S1 H1 hq r1 => ?_, hX⟩
  cases x with
  | al _ _ _ => exact hq.elim
  | o x =>
    obtain ⟨ds, hd, hq⟩ := onSome_some hq
    have r2 := r1.froze
    have rx := r2.dataTop
    cases hx : x.toD with
    | list es =>
      rw [hx] at hd rx r2
      cases hd
      cases rx with
      | lst f ra =>
        rename_i p' vs
        refine ⟨p', vs, rfl, .inl ⟨f.sq, hP _ _ _ _ _ [(V.ref p', W.o (.d (.list _)))] hq r2 ?_ trivial⟩⟩
        have key : ∀ {S H σ env T}, R X.K B S H σ env ([(V.ref p', W.o (.d (.list ds)))] ++ T) → ∃ vs, SqL X.K H p' vs ∧ RpA X.K S H vs ds := by
          intro S H σ env T r
          have rx : Rp X.K S H (.ref p') (.list ds) := R.dataTop r
          cases rx with
          | lst f ra => exact ⟨_, f.sq, ra⟩
        refine ⟨fun S H σ env T i r _ hi => ?_, fun S H σ env T i x H' d r _ y hd => ?_, fun S H σ env T i r _ hi => ?_⟩
        · obtain ⟨vs, hq, ra⟩ := key r
          have hi' : i < (numbered ds).length := hi
          rw [numbered_length] at hi'
          obtain ⟨v, hv, _⟩ := ra.getD (List.getElem?_eq_getElem hi')
          exact ⟨vs, v, hq, hv⟩
        · obtain ⟨vs, hq, ra⟩ := key r
          obtain ⟨T', x', rfl, hT, rfl, y⟩ := y
          obtain ⟨z, hz, rfl⟩ := numbered_get hd
          obtain ⟨v, hv, rv⟩ := ra.getD hz
          have e := y vs hq
          rw [hv] at e; cases e
          exact newTup r hT (.cons (.int _) (.cons rv .nil))
        · obtain ⟨vs, hq, ra⟩ := key r
          have hi' : (numbered ds).length ≤ i := hi
          rw [numbered_length] at hi'
          exact ⟨vs, hq, by rw [ra.length]; exact hi'⟩
    | tuple es =>
      rw [hx] at hd rx r2
      cases hd
      cases rx with
      | tup f ra =>
        rename_i p' vs
        refine ⟨p', vs, rfl, .inr ⟨f, hP _ _ _ _ _ [(V.ref p', W.o (.d (.tuple _)))] hq r2 ?_ trivial⟩⟩
        have key : ∀ {S H σ env T}, R X.K B S H σ env ([(V.ref p', W.o (.d (.tuple ds)))] ++ T) → ∃ vs, SqT X.K H p' vs ∧ RpA X.K S H vs ds := by
          intro S H σ env T r
          have rx : Rp X.K S H (.ref p') (.tuple ds) := R.dataTop r
          cases rx with
          | tup f ra => exact ⟨_, f, ra⟩
        refine ⟨fun S H σ env T i r _ hi => ?_, fun S H σ env T i x H' d r _ y hd => ?_, fun S H σ env T i r _ hi => ?_⟩
        · obtain ⟨vs, hq, ra⟩ := key r
          have hi' : i < (numbered ds).length := hi
          rw [numbered_length] at hi'
          obtain ⟨v, hv, _⟩ := ra.getD (List.getElem?_eq_getElem hi')
          exact ⟨vs, v, hq, hv⟩
        · obtain ⟨vs, hq, ra⟩ := key r
          obtain ⟨T', x', rfl, hT, rfl, y⟩ := y
          obtain ⟨z, hz, rfl⟩ := numbered_get hd
          obtain ⟨v, hv, rv⟩ := ra.getD hz
          have e := y vs hq
          rw [hv] at e; cases e
          exact newTup r hT (.cons (.int _) (.cons rv .nil))
        · obtain ⟨vs, hq, ra⟩ := key r
          have hi' : (numbered ds).length ≤ i := hi
          rw [numbered_length] at hi'
          exact ⟨vs, hq, by rw [ra.length]; exact hi'⟩
    | none => rw [hx] at hd; cases hd
    | bool _ => rw [hx] at hd; cases hd
    | int _ => rw [hx] at hd; cases hd
    | str _ => rw [hx] at hd; cases hd
    | dict _ => rw [hx] at hd; cases hd
end
end Vx
namespace Vx
open PySem PySem.Spec L2

/-! ### slots made void, and put back -/
theorem wipe_at {σ : L2.St} : ∀ {vs : List Nat} {j : Nat}, j ∉ vs → (wipe σ vs)[j]? = σ[j]?
  | [], j, _ => rfl
  | v :: vs, j, h => by
    unfold wipe
    rw [List.getElem?_set_ne fun e => h (by rw [e]; exact List.mem_cons_self)]
    exact wipe_at fun q => h (List.mem_cons_of_mem _ q)
theorem wipe_in {σ : L2.St} : ∀ {vs : List Nat} {j : Nat}, j ∈ vs → j < σ.length → (wipe σ vs)[j]? = some none
  | [], j, h, _ => nomatch h
  | v :: vs, j, h, hl => by
    unfold wipe
    by_cases e : v = j
    · subst e
      exact List.getElem?_set_self (by rw [wipe_length]; exact hl)
    · rw [List.getElem?_set_ne e]
      rcases List.mem_cons.mp h with q | q
      · exact absurd q.symm e
      · exact wipe_in q hl
theorem wipe_else {σ σ2 : L2.St} {vs : List Nat} (e : Else vs σ σ2) : wipe σ2 vs = wipe σ vs := by
  refine List.ext_getElem? fun j => ?_
  by_cases h : j ∈ vs
  · by_cases hl : j < σ.length
    · rw [wipe_in h hl, wipe_in h (by rw [e.len]; exact hl)]
    · rw [List.getElem?_eq_none (by rw [wipe_length, e.len]; omega), List.getElem?_eq_none (by rw [wipe_length]; omega)]
  · rw [wipe_at h, wipe_at h, e.at_ j h]
theorem wipe_twice {σ : L2.St} {vs : List Nat} : wipe (wipe σ vs) vs = wipe σ vs := wipe_else ⟨wipe_length _ _, fun j h => wipe_at h⟩
theorem void_length {env : Env} : ∀ {is : List Nat}, (void is env).length = env.length
  | [] => rfl
  | i :: is => by unfold void; rw [List.length_set]; exact void_length
theorem restore_length {old env : Env} : ∀ {is : List Nat}, (restore old is env).length = env.length
  | [] => rfl
  | i :: is => by unfold restore; rw [List.length_set]; exact restore_length
section
variable {K : PySem.W.Frag} {B : Bs} {S : Fz} {H : Hp} {σ : L2.St} {env : Env} {T : List (V × W)}
theorem R.voided (r : R K B S H σ env T) : ∀ is : List Nat, R K B S H (wipe σ is) (void is env) T
  | [] => r
  | i :: is => (R.voided r is).forget
/-- data goes into a slot, whatever stood there -/
theorem R.storeD {v : V} {x : D} {i : Nat} (r : R K B S H σ env T) (h : Rp K S H v x) (hi : i < env.length) : R K B S H (σ.set i (some v)) (env.set i (some (.d x))) T := (r.push h).store hi
/-- the slots of own hold data or nothing; behind, what they held is put back -/
theorem R.restored {S' : Fz} {H' : Hp} {env' old : Env} {U T' : List (V × W)} (hl : old.length = σ.length) (he : env'.length = old.length) :
    ∀ {own : List Nat}, (∀ i ∈ own, plainAt old i) → (∀ i ∈ own, ∀ x, old[i]? = some (some (.d x)) → ∃ v, σ[i]? = some (some v) ∧ (v, W.o (.d x)) ∈ U) → own.Nodup →
      R K B S' H' (wipe σ own) env' (U ++ T') → R K B S' H' σ (restore old own env') (U ++ T')
  | [], _, _, _, r => r
  | i :: is, hp, hu, hn, r => by
    have hi : i ∉ is := (List.nodup_cons.mp hn).1
    have hil : i < old.length := by
      have h := hp i List.mem_cons_self
      unfold plainAt at h
      cases e : old[i]? with
      | none => simp only [e] at h
      | some _ => exact (List.getElem?_eq_some_iff.mp e).1
    have hσ : i < σ.length := by rw [← hl]; exact hil
    -- the slot i as it was, with nothing known of it: then the rest, then i itself
    have go : R K B S' H' σ (restore old is (env'.set i none)) (U ++ T') → R K B S' H' σ (restore old (i :: is) env') (U ++ T') := by
      intro r2
      have comm : ∀ (js : List Nat) (y : Option O), i ∉ js → (restore old js (env'.set i none)).set i y = (restore old js env').set i y := by
        intro js
        induction js with
        | nil => intro y _; show (env'.set i none).set i y = _; rw [List.set_set]; rfl
        | cons j js ih =>
          intro y hj
          have ne : j ≠ i := fun e => hj (by rw [e]; exact List.mem_cons_self)
          unfold restore
          rw [List.set_comm _ _ ne, ih y fun q => hj (List.mem_cons_of_mem _ q), List.set_comm _ _ ne]
      have hp' := hp i List.mem_cons_self
      unfold plainAt at hp'
      unfold restore
      cases e : old[i]? with
      | none => simp only [e] at hp'
      | some o =>
        simp only [e] at hp' ⊢
        cases o with
        | none =>
          rw [← comm is none hi]
          have hgi : (restore old is (env'.set i none))[i]? = some none := by
            have at_ : ∀ (js : List Nat), i ∉ js → ∀ {e0 : Env}, (restore old js e0)[i]? = e0[i]? := by
              intro js
              induction js with
              | nil => intro _ e0; rfl
              | cons j js ih =>
                intro hj e0
                unfold restore
                rw [List.getElem?_set_ne fun e => hj (by rw [e]; exact List.mem_cons_self)]
                exact ih fun q => hj (List.mem_cons_of_mem _ q)
            rw [at_ is hi]
            exact List.getElem?_set_self (by rw [he]; exact hil)
          rw [set_same hgi]
          exact r2
        | some o =>
          cases o with
          | tup _ => exact hp'.elim
          | obj _ _ _ => exact hp'.elim
          | d x =>
            obtain ⟨v, hv, hm⟩ := hu i List.mem_cons_self x e
            have rx : Rp K S' H' v x := by
              have q : OwnR K S' H' v (.d x) := r2.tmps (v, .o (.d x)) (List.mem_append_left _ hm)
              cases q with
              | d q => exact q
            rw [← comm is (some (.d x)) hi]
            have r3 := r2.storeD (i := i) rx (by rw [restore_length, List.length_set, he]; exact hil)
            rw [set_same hv] at r3
            exact r3
    refine go (R.restored hl (by rw [List.length_set]; exact he) (fun j hj => hp j (List.mem_cons_of_mem _ hj)) (fun j hj => hu j (List.mem_cons_of_mem _ hj)) (List.nodup_cons.mp hn).2 ?_)
    -- wipe σ (i :: is) with none at i: the same as wipe σ is but for i, whose slot is void
    have r1 : R K B S' H' ((wipe σ is).set i none) env' (U ++ T') := r
    have r2 := r1.forget (i := i)
    rw [List.set_set] at r2
    refine ⟨?_, fun j o ej => ?_, r2.tmps, r2.one, r2.apart, r2.sH, r2.keep, r2.dom, r2.new, r2.newS, r2.sub⟩
    · rw [List.length_set, he, hl, wipe_length]
    · by_cases hj : j = i
      · subst hj
        rw [List.getElem?_set_self (by rw [he]; exact hil)] at ej
        cases ej
      · obtain ⟨v, hv, q⟩ := r2.slots j o ej
        refine ⟨v, ?_, q⟩
        rw [List.getElem?_set_ne (Ne.symm hj)] at hv
        exact hv
/-- what the slots of own hold, held -/
theorem R.hold (r : R K B S H σ env T) : ∀ own : List Nat, (∀ i ∈ own, plainAt env i) → ∃ U, (∀ i ∈ own, ∀ x, env[i]? = some (some (.d x)) → ∃ v, σ[i]? = some (some v) ∧ (v, W.o (.d x)) ∈ U) ∧ R K B S H σ env (U ++ T)
  | [], _ => ⟨[], (fun _ h => nomatch h), r⟩
  | i :: is, hp => by
    obtain ⟨U, h1, r1⟩ := R.hold r is fun j hj => hp j (List.mem_cons_of_mem _ hj)
    cases e : env[i]? with
    | none =>
      refine ⟨U, fun j hj x ex => ?_, r1⟩
      rcases List.mem_cons.mp hj with rfl | hj
      · rw [e] at ex; cases ex
      · exact h1 j hj x ex
    | some o =>
      have hp' := hp i List.mem_cons_self
      unfold plainAt at hp'
      simp only [e] at hp'
      cases o with
      | none =>
        refine ⟨U, fun j hj x ex => ?_, r1⟩
        rcases List.mem_cons.mp hj with rfl | hj
        · rw [e] at ex; cases ex
        · exact h1 j hj x ex
      | some o =>
        cases o with
        | tup _ => exact hp'.elim
        | obj _ _ _ => exact hp'.elim
        | d x =>
          obtain ⟨v, hv, q⟩ := r1.slots i _ e
          cases q with
          | d q =>
            refine ⟨(v, .o (.d x)) :: U, fun j hj y ey => ?_, r1.push q⟩
            rcases List.mem_cons.mp hj with rfl | hj
            · rw [e] at ey; cases ey
              exact ⟨v, hv, List.mem_cons_self⟩
            · obtain ⟨w, a, b⟩ := h1 j hj y ey
              exact ⟨w, a, List.mem_cons_of_mem _ b⟩
/-- the topmost thing is laid into the new list beneath it -/
theorem R.appendTmp {p : Addr} {acc : List O} {v : V} {o : O} (r : R K B S H σ env ((v, .o o) :: (.ref p, .o (.lst p acc)) :: T)) :
    ∃ vs, H p = some (.lst vs) ∧ vs.length = acc.length ∧ R K B S (upd H p (.lst (vs ++ [v]))) σ env ((.ref p, .o (.lst p (acc ++ [o]))) :: T) := by
  have q : OwnR K S H (.ref p) (.lst p acc) := r.tmps (.ref p, .o (.lst p acc)) (List.mem_cons_of_mem _ List.mem_cons_self)
  have qo : OwnR K S H v o := r.tmps (v, .o o) List.mem_cons_self
  have hone : ∀ b, cntE b env + (o.cnt b + (((if p = b then 1 else 0) + O.cntL b acc) + cntT b T)) ≤ 1 := r.one
  have hp1 := hone p
  rw [if_pos rfl] at hp1
  cases q with
  | obj e hfit ow =>
    rename_i vs
    have e : H p = some (.lst vs) := e
    have nS : ¬ S p := fun h => by
      have h1 : cntE p env + (o.cnt p + (((if p = p then 1 else 0) + O.cntL p acc) + cntT p T)) = 0 := r.apart p h
      rw [if_pos rfl] at h1
      omega
    have k : Kp S S H (upd H p (.lst (vs ++ [v]))) := Kp.put e nS
    have other : ∀ b, p ≠ b → upd H p (.lst (vs ++ [v])) b = H b := fun b h => upd_ne (Ne.symm h)
    refine ⟨vs, e, ow.length, r.len, fun i x ex => ?_, fun t ht => ?_, fun b => ?_, fun b hb => ?_, fun b hb => ?_, fun b u h1 h2 => ?_, fun b hb => ?_, fun b hb => ?_, r.newS, r.sub⟩
    · obtain ⟨w, h1, h2⟩ := r.slots i x ex
      refine ⟨w, h1, h2.kp k fun b hb => other b fun z => ?_⟩
      subst z
      have : x.cnt p ≤ cntE p env := cntE_get ex
      omega
    · rcases List.mem_cons.mp ht with e1 | ht
      · subst e1
        refine OwnR.obj (k := .lst) upd_same True.intro ((ow.kp k fun b hb => other b fun z => ?_).append (.cons (qo.kp k fun b hb => other b fun z => ?_) .nil))
        · subst z; omega
        · subst z; omega
      · refine (r.tmps t (List.mem_cons_of_mem _ (List.mem_cons_of_mem _ ht))).kp k fun b hb => other b fun z => ?_
        subst z
        have := cntT_mem (b := p) ht
        omega
    · have := hone b
      show cntE b env + (((if p = b then 1 else 0) + O.cntL b (acc ++ [o])) + cntT b T) ≤ 1
      rw [O.cntL_append]
      show cntE b env + (((if p = b then 1 else 0) + (O.cntL b acc + (o.cnt b + 0))) + cntT b T) ≤ 1
      omega
    · have h1 : cntE b env + (o.cnt b + (((if p = b then 1 else 0) + O.cntL b acc) + cntT b T)) = 0 := r.apart b hb
      show cntE b env + (((if p = b then 1 else 0) + O.cntL b (acc ++ [o])) + cntT b T) = 0
      rw [O.cntL_append]
      show cntE b env + (((if p = b then 1 else 0) + (O.cntL b acc + (o.cnt b + 0))) + cntT b T) = 0
      omega
    · rw [k.h b hb]; exact r.sH b hb
    · have h3 := r.keep b u h1 h2
      by_cases z : p = b
      · subst z
        rcases r.new p (by show 0 < cntE p env + (o.cnt p + (((if p = p then 1 else 0) + O.cntL p acc) + cntT p T)); rw [if_pos rfl]; omega) with y | y
        · exact absurd y h2
        · rw [y] at h1; cases h1
      · rw [other b z]; exact h3
    · by_cases z : p = b
      · subst z; rw [upd_same] at hb; cases hb
      · rw [other b z] at hb; exact r.dom b hb
    · refine r.new b ?_
      have hb' : 0 < cntE b env + (((if p = b then 1 else 0) + O.cntL b (acc ++ [o])) + cntT b T) := hb
      rw [O.cntL_append] at hb'
      have hb2 : 0 < cntE b env + (((if p = b then 1 else 0) + (O.cntL b acc + (o.cnt b + 0))) + cntT b T) := hb'
      show 0 < cntE b env + (o.cnt b + (((if p = b then 1 else 0) + O.cntL b acc) + cntT b T))
      omega
end

/-! ### comprehensions -/
section
variable {X : Cx} {B : Bs} {Wx : WX} {a b c : Expr} {wa wb wc : WT} {pos : Pos}
abbrev W0 : WX := fun _ _ _ _ => False
abbrev WC := Env → (Bool → Env → Prop) → Prop
/-- the tests of a comprehension -/
def SndC (X : Cx) (B : Bs) (ifs : List Expr) (w : WC) : Prop := PTs X ifs fun σ H Q => ∃ S env T P, R X.K B S H σ env T ∧ w env P ∧ ∀ b env' S' H', P b env' → R X.K B S' H' σ env' T → Q b H'
theorem sc_nil : SndC X B [] fun env P => P true env := by
  have h : PTs X [] tYes := pts_nil
  exact ⟨fun pins s σ H Q I ⟨S, env, T, P, r, hw, hP⟩ => h.run pins s σ H Q I (hP _ _ _ _ hw r)⟩
theorem sc_one (h : Snd X B W0 c wc) : SndC X B [c] fun env P => wc (fun _ _ => False) env fun w env1 => tst w fun t => P t env1 := by
  have h2 : PTs X [c] (tT X B W0 (toB wc)) := pts_one h.pt
  exact ⟨fun pins s σ H Q I ⟨S, env, T, P, r, hw, hP⟩ => h2.run pins s σ H Q I ⟨S, env, T, P, _, r, hw, hP, lets_false fun _ _ h => h⟩⟩
/-- what a comprehension's turn does -/
def stepC (t : Tg) (own : List Nat) (wcnd : WC) (we : WT) : D → Env → List O → (Env → List O → Prop) → Prop := fun x env acc K =>
  bindT t (.o (.d x)) (void own env) fun env2 => wcnd env2 fun b env3 =>
    if b = true then we (fun _ _ => False) env3 fun w env4 => inW w env4 fun o env5 => acc.length < sizeLine ∧ K (void own env5) (acc ++ [o]) else K (void own env3) acc
theorem still_void {src : Src} {own : List Nat} {env : Env} (hp : ∀ i ∈ own, plainAt env i) (h : src.still env) : src.still (void own env) := by
  obtain ⟨xs, at?⟩ := src
  cases at? with
  | none => trivial
  | some q =>
    obtain ⟨a, i, p⟩ := q
    have h' : envAt env i p = some (.lst a (xs.map O.d)) := h
    have hi : i ∉ own := fun hm => by
      have h1 := hp i hm
      obtain ⟨o, e, ha⟩ := envAt_some h'
      unfold plainAt at h1
      simp only [e] at h1
      cases o with
      | d x =>
        cases p with
        | nil => cases ha
        | cons s p => cases s; cases ha
      | tup _ => exact h1.elim
      | obj _ _ _ => exact h1.elim
    have at_ : ∀ (js : List Nat), i ∉ js → (void js env)[i]? = env[i]? := by
      intro js
      induction js with
      | nil => intro _; rfl
      | cons j js ih =>
        intro hj
        unfold void
        rw [List.getElem?_set_ne fun e => hj (by rw [e]; exact List.mem_cons_self)]
        exact ih fun q => hj (List.mem_cons_of_mem _ q)
    show envAt (void own env) i p = _
    unfold envAt
    rw [at_ own hi]
    exact h'
def wComp (wi : WI) (own : List Nat) (t : Tg) (wcnd : WC) (we : WT) : WT := fun PX env P => wi PX env fun src env1 => (∀ i ∈ own, plainAt env1 i) ∧ ∀ a, goComp src (stepC t own wcnd we)
      src.xs (void own env1) [] fun env' acc => env'.length = env1.length → P (.o (.lst a acc)) (restore env1 own env')
abbrev tCnd (X : Cx) (B : Bs) (wcnd : WC) : TT := fun σ H Q => ∃ S env T P, R X.K B S H σ env T ∧ wcnd env P ∧ ∀ b env' S' H', P b env' → R X.K B S' H' σ env' T → Q b H'
theorem comp_reads {vs : List Nat} {t : Tg} {wi : WI} {wcnd : WC} {we : WT} (hown : vs.Nodup) (hsub : ∀ i ∈ t.slots, i ∈ vs) {σ : L2.St} {H : Hp} {Q : VK} (h : tE X B Wx (wComp wi vs t wcnd we) σ H Q) :
    tLc (tI X B Wx wi) (gT X B t) (tCnd X B wcnd) (tE X B W0 we) vs σ H Q := by
  obtain ⟨S, env, T, P, PX, r, hw, hP, hX⟩ := h
  refine ⟨S, env, T, _, PX, r, hw, fun src env1 S1 H1 J Z ⟨hpl, hgo⟩ r1 G still => ?_, hX⟩
  intro Da nD
  obtain ⟨U, hU, r2⟩ := R.hold r1 vs hpl
  have len1 : env1.length = σ.length := r1.len
  have r3 : R X.K B S1 (upd H1 Da (.lst [])) (wipe σ vs) (void vs env1) ((.ref Da, .o (.lst Da [])) :: (Z ++ (U ++ T))) := by
    have r4 := (R.newLst (P := []) (T := U ++ (Z ++ T)) r2 nD .nil (fun b => Nat.zero_le _)).voided vs
    refine r4.perm (fun t ht => ?_) fun b => ?_
    · rcases List.mem_cons.mp ht with e | ht
      · subst e; exact List.mem_cons_self
      · refine List.mem_cons_of_mem _ ?_
        rcases List.mem_append.mp ht with ht | ht
        · exact List.mem_append_right _ (List.mem_append_left _ ht)
        · rcases List.mem_append.mp ht with ht | ht
          · exact List.mem_append_left _ ht
          · exact List.mem_append_right _ (List.mem_append_right _ ht)
    · show _ + cntT b (Z ++ (U ++ T)) ≤ _ + cntT b (U ++ (Z ++ T))
      rw [cntT_append, cntT_append, cntT_append, cntT_append]; omega
  refine ⟨fun i m H => ∃ S env acc, R X.K B S H (wipe σ vs) env ((.ref Da, .o (.lst Da acc)) :: (Z ++ (U ++ T))) ∧ m = src.xs.length - i ∧ i ≤ src.xs.length ∧ src.still env ∧
      goComp src (stepC t vs wcnd we) (src.xs.drop i) env acc (fun env' acc => env'.length = env1.length → P (.o (.lst Da acc)) (restore env1 vs env')), ⟨src.xs.length, S1, _, [], r3, by simp, Nat.zero_le _, still_void hpl still, hgo Da⟩, ?_⟩
  rintro i m H2 ⟨S2, e2, acc, r4, rfl, hile, st2, hq⟩
  have r5 : R X.K B S2 H2 (wipe σ vs) e2 (Z ++ ((.ref Da, .o (.lst Da acc)) :: (U ++ T))) := r4.perm (fun t ht => by
    rcases List.mem_append.mp ht with ht | ht
    · exact List.mem_cons_of_mem _ (List.mem_append_left _ ht)
    · rcases List.mem_cons.mp ht with e | ht
      · subst e; exact List.mem_cons_self
      · exact List.mem_cons_of_mem _ (List.mem_append_right _ ht)) fun b => by
      rw [cntT_append]
      show _ ≤ _ + cntT b (Z ++ (U ++ T))
      rw [cntT_append]
      show cntT b Z + (_ + _) ≤ _
      omega
  by_cases hlt : i < src.xs.length
  · refine .inr ⟨G.go _ _ _ _ _ i r5 st2 hlt, fun H' => ∃ S env acc, R X.K B S H' (wipe σ vs) env ((.ref Da, .o (.lst Da acc)) :: (Z ++ (U ++ T))) ∧ src.still env ∧
      goComp src (stepC t vs wcnd we) (src.xs.drop (i + 1)) env acc (fun env' acc => env'.length = env1.length → P (.o (.lst Da acc)) (restore env1 vs env')), fun H' ⟨S', env', acc', a1, a2, a3⟩ => ⟨src.xs.length - (i + 1), by omega, S', env', acc', a1, rfl, hlt, a2, a3⟩, fun x H3 hy => ?_⟩
    have hd : src.xs[i]? = some src.xs[i] := List.getElem?_eq_getElem hlt
    rw [List.drop_eq_getElem_cons hlt] at hq
    have r6 := (G.yl _ _ _ _ _ i x H3 _ r5 st2 hy hd)
    have r7 : R X.K B S2 H3 (wipe σ vs) (void vs e2) ((x, .o (.d src.xs[i])) :: ((.ref Da, .o (.lst Da acc)) :: (Z ++ (U ++ T)))) := by
      have r8 := r6.voided vs
      rw [wipe_twice] at r8
      refine r8.perm (fun t ht => ?_) fun b => ?_
      · rcases List.mem_cons.mp ht with e | ht
        · subst e; exact List.mem_cons_self
        · refine List.mem_cons_of_mem _ ?_
          rcases List.mem_cons.mp ht with e | ht
          · subst e; exact List.mem_append_right _ List.mem_cons_self
          · rcases List.mem_append.mp ht with ht | ht
            · exact List.mem_append_left _ ht
            · exact List.mem_append_right _ (List.mem_cons_of_mem _ ht)
      · show _ + (_ + cntT b (Z ++ (U ++ T))) ≤ _ + cntT b (Z ++ (_ :: (U ++ T)))
        rw [cntT_append, cntT_append b Z (_ :: (U ++ T))]
        show _ ≤ _ + (_ + (_ + _))
        omega
    have hq1 : bindT t (.o (.d src.xs[i])) (void vs e2) fun e3 => wcnd e3 fun b e4 =>
        if b = true then we (fun _ _ => False) e4 fun w e5 => inW w e5 fun o e6 => acc.length < sizeLine ∧ (src.still (void vs e6) ∧ goComp src (stepC t vs wcnd we) (src.xs.drop (i + 1)) (void vs e6) (acc ++ [o]) fun env' acc => env'.length = env1.length → P (.o (.lst Da acc)) (restore env1 vs env'))
        else src.still (void vs e4) ∧ goComp src (stepC t vs wcnd we) (src.xs.drop (i + 1)) (void vs e4) acc fun env' acc => env'.length = env1.length → P (.o (.lst Da acc)) (restore env1 vs env') := hq
    refine ⟨S2, void vs e2, _, .o (.d src.xs[i]), _, r7, hq1, fun e3 S3 σ3 hc3 r8 el hl3 => ?_⟩
    have el' : Else vs (wipe σ vs) σ3 := el.more hsub
    have back : wipe σ3 vs = wipe σ vs := (wipe_else el').trans wipe_twice
    refine ⟨back, S3, e3, _, _, r8, hc3, fun bt e4 S4 H4 hb4 r9 => ?_⟩
    cases bt with
    | false =>
      refine iteF ⟨S4, void vs e4, acc, ?_, hb4.1, hb4.2⟩
      have := r9.voided vs
      rw [back] at this
      exact this
    | true =>
      refine iteT ⟨S4, e4, _, _, fun _ _ => False, r9, hb4, fun w e5 v S5 H5 hw5 r10 => ?_, lets_false fun _ _ h => h⟩
      obtain ⟨o, e6, S6, ⟨hz, h6⟩, r11⟩ := r10.into hw5
      obtain ⟨ws, hws, hwl, r12⟩ := r11.appendTmp
      refine ⟨ws, hws, by rw [hwl]; exact hz, S6, void vs e6, acc ++ [o], ?_, h6.1, h6.2⟩
      have := r12.voided vs
      rw [back] at this
      exact this
  · have hil : i = src.xs.length := by omega
    refine .inl ⟨G.st _ _ _ _ _ i r5 st2 (by omega), ?_⟩
    rw [List.drop_eq_nil_of_le (by omega)] at hq
    have len2 : e2.length = env1.length := by rw [r4.len, wipe_length, len1]
    have hq2 : P (.o (.lst Da acc)) (restore env1 vs e2) := hq len2
    have r6 : R X.K B S2 H2 (wipe σ vs) e2 (U ++ ((.ref Da, .o (.lst Da acc)) :: (Z ++ T))) := r4.perm (fun t ht => by
      rcases List.mem_append.mp ht with ht | ht
      · exact List.mem_cons_of_mem _ (List.mem_append_right _ (List.mem_append_left _ ht))
      · rcases List.mem_cons.mp ht with e | ht
        · subst e; exact List.mem_cons_self
        · rcases List.mem_append.mp ht with ht | ht
          · exact List.mem_cons_of_mem _ (List.mem_append_left _ ht)
          · exact List.mem_cons_of_mem _ (List.mem_append_right _ (List.mem_append_right _ ht))) fun b => by
        rw [cntT_append]
        show _ + (_ + cntT b (Z ++ T)) ≤ _ + cntT b (Z ++ (U ++ T))
        rw [cntT_append, cntT_append, cntT_append]
        omega
    have r7 := (R.restored (old := env1) len1 (by rw [len2]) hpl hU hown r6).pops
    refine hP _ _ _ _ _ hq2 (r7.perm (fun t ht => ?_) fun b => ?_)
    · rcases List.mem_cons.mp ht with e | ht
      · subst e; exact List.mem_cons_self
      · exact List.mem_cons_of_mem _ (List.mem_append_right _ ht)
    · show _ + cntT b T ≤ _ + cntT b (Z ++ T)
      rw [cntT_append]; omega
theorem s_comp {elt tg iter : Expr} {ifs : List Expr} {scope : Scope} {own : List (Str × Nat)} {t : Tg} {wi : WI} {wcnd : WC} {we : WT} (hc : X.calm = true) (hN : X.N.Nodup)
    (hi : PI X tg iter (tI X B Wx wi)) (ok : BlkOk X.N X.env.scope scope own) (hown : (own.map (·.2)).Nodup) (hsub : ∀ i ∈ t.slots, i ∈ own.map (·.2))
    (hg : ∀ (s : Shared) (H : Hp) (C : Addr) (cl : List (Str × Addr)) (fp : List Addr), PG (X.blk s H scope (compEnvC scope cl C X.env) fp) tg (gT X B t))
    (ht : ∀ (s : Shared) (H : Hp) (C : Addr) (cl : List (Str × Addr)) (fp : List Addr), SndC (X.blk s H scope (compEnvC scope cl C X.env) fp) B ifs wcnd)
    (he : ∀ (s : Shared) (H : Hp) (C : Addr) (cl : List (Str × Addr)) (fp : List Addr), PE (X.blk s H scope (compEnvC scope cl C X.env) fp) elt (tE X B W0 we))
    (hs : ∀ x, foldedSetIterable iter X.env x = pure x) :
    PE X (.ListComp elt [⟨tg, iter, ifs, 0⟩] scope pos) (tE X B Wx (wComp wi (own.map (·.2)) t wcnd we)) :=
  PE_imp (pe_lc (tt := tCnd X B wcnd) hc hN hi ok hg (fun s H C cl fp => ht s H C cl fp) he hs) fun _ _ _ h => comp_reads hown hsub h
end
end Vx
namespace Vx
open PySem PySem.Spec L2

/-! ### what is lent to a callee, and comes back -/
section
variable {K : PySem.W.Frag} {B : Bs} {S : Fz} {H : Hp} {σ : L2.St} {env : Env} {T : List (V × W)}
theorem envAt_at {env env' : Env} {i : Nat} {p : List Stp} (h : env'[i]? = env[i]?) : envAt env' i p = envAt env i p := by
  unfold envAt; rw [h]
theorem lend_at : ∀ {ws : List W} {env env' : Env}, (∀ i ∈ lentAt ws, env'[i]? = env[i]?) → lend ws env' = lend ws env
  | [], _, _, _ => rfl
  | .o x :: r, env, env', h => by
    unfold lend
    rw [lend_at (ws := r) fun i hi => h i hi]
  | .al a i p :: r, env, env', h => by
    unfold lend
    rw [envAt_at (h i List.mem_cons_self), lend_at (ws := r) fun j hj => h j (List.mem_cons_of_mem _ hj)]
theorem lend_o {x : O} {r : List W} {os : List O} (h : lend (.o x :: r) env = some os) : ∃ os1, notTup x = true ∧ os = x :: os1 ∧ lend r env = some os1 := by
  unfold lend at h
  by_cases hx : notTup x = true
  · rw [if_pos hx] at h
    cases e : lend r env with
    | none => rw [e] at h; cases h
    | some os1 => rw [e] at h; cases h; exact ⟨os1, hx, rfl, rfl⟩
  · rw [if_neg hx] at h; cases h
theorem lend_al {a : Addr} {i : Nat} {p : List Stp} {r : List W} {os : List O} (h : lend (.al a i p :: r) env = some os) :
    ∃ kd xs os1, envAt env i p = some (O.obj a kd xs) ∧ os = .obj a kd xs :: os1 ∧ lend r env = some os1 := by
  unfold lend at h
  cases e : envAt env i p with
  | none => simp only [e] at h; cases h
  | some o =>
    simp only [e] at h
    cases o with
    | d _ => cases h
    | tup _ => cases h
    | obj b kd xs =>
      have h : (if b = a then (lend r env).map (O.obj b kd xs :: ·) else none) = some os := h
      by_cases q : b = a
      · subst q
        rw [if_pos rfl] at h
        cases e2 : lend r env with
        | none => rw [e2] at h; cases h
        | some os1 => rw [e2] at h; cases h; exact ⟨kd, xs, os1, rfl, rfl, rfl⟩
      · rw [if_neg q] at h; cases h
theorem lend_notTup : ∀ {ws : List W} {os : List O}, lend ws env = some os → os.all notTup = true
  | [], os, h => by cases h; rfl
  | .o x :: r, os, h => by
    obtain ⟨os1, h1, rfl, h2⟩ := lend_o h
    show (notTup x && os1.all notTup) = true
    rw [h1, lend_notTup h2]; rfl
  | .al a i p :: r, os, h => by
    obtain ⟨kd, xs, os1, h1, rfl, h2⟩ := lend_al h
    show (true && os1.all notTup) = true
    rw [lend_notTup (ws := r) h2]; rfl
/-- how much of a callee's things lies in slots, how much in the caller's hands -/
def inSlots (b : Addr) : List W → List O → Nat
  | .al .. :: r, o :: os => o.cnt b + inSlots b r os
  | .o _ :: r, _ :: os => inSlots b r os
  | _, _ => 0
theorem cntE_void {env : Env} {i : Nat} {o : O} (h : env[i]? = some (some o)) (b : Addr) : cntE b (env.set i none) + o.cnt b = cntE b env := by
  have := cntE_set (b := b) (y := none) h
  exact this
theorem lend_slots (K : PySem.W.Frag) (S : Fz) (H : Hp) : ∀ {ws : List W} {os : List O} {env : Env}, lend ws env = some os → (lentAt ws).Nodup →
    (∀ (i : Nat) (o : O), env[i]? = some (some o) → ∃ v, OwnR K S H v o) → ∀ b, inSlots b ws os ≤ cntE b env
  | [], os, env, h, _, _, b => by cases h; exact Nat.zero_le _
  | .o x :: r, os, env, h, hn, hR, b => by
    obtain ⟨os1, _, rfl, h2⟩ := lend_o h
    exact lend_slots K S H (ws := r) h2 hn hR b
  | .al a i p :: r, os, env, h, hn, hR, b => by
    obtain ⟨kd, xs, os1, h1, rfl, h2⟩ := lend_al h
    obtain ⟨hi, hn2⟩ := List.nodup_cons.mp hn
    obtain ⟨o, e, ha⟩ := envAt_some h1
    have h3 : lend r (env.set i none) = some os1 := by
      rw [lend_at fun j hj => List.getElem?_set_ne fun z => hi (by rw [z]; exact hj)]; exact h2
    have ih := lend_slots K S H h3 hn2 (fun j x ej => by
      by_cases z : i = j
      · subst z
        rw [List.getElem?_set_self (List.getElem?_eq_some_iff.mp e).1] at ej; cases ej
      · rw [List.getElem?_set_ne z] at ej; exact hR j x ej) b
    have := cntE_void e b
    obtain ⟨v, q⟩ := hR i o e
    obtain ⟨_, _, c⟩ := q.at ha
    have := c b
    show (O.obj a kd xs).cnt b + inSlots b r os1 ≤ _
    omega
theorem lend_cnt : ∀ {Z : List (V × W)} {os : List O} {env : Env}, lend (Z.map (·.2)) env = some os → ∀ b, O.cntL b os = inSlots b (Z.map (·.2)) os + cntT b Z
  | [], os, env, h, b => by cases h; rfl
  | (v, .o x) :: r, os, env, h, b => by
    have h : lend (.o x :: r.map (·.2)) env = some os := h
    obtain ⟨os1, _, rfl, h2⟩ := lend_o h
    have := lend_cnt (Z := r) h2 b
    show x.cnt b + O.cntL b os1 = inSlots b (r.map (·.2)) os1 + (x.cnt b + cntT b r)
    omega
  | (v, .al a i p) :: r, os, env, h, b => by
    have h : lend (.al a i p :: r.map (·.2)) env = some os := h
    obtain ⟨kd, xs, os1, _, rfl, h2⟩ := lend_al h
    have := lend_cnt (Z := r) h2 b
    show (O.obj a kd xs).cnt b + O.cntL b os1 = (O.obj a kd xs).cnt b + inSlots b (r.map (·.2)) os1 + (0 + cntT b r)
    omega
theorem lend_length : ∀ {ws : List W} {os : List O} {env : Env}, lend ws env = some os → os.length = ws.length
  | [], os, env, h => by cases h; rfl
  | .o x :: r, os, env, h => by
    obtain ⟨os1, _, rfl, h2⟩ := lend_o h
    exact congrArg (· + 1) (lend_length h2)
  | .al a i p :: r, os, env, h => by
    obtain ⟨kd, xs, os1, _, rfl, h2⟩ := lend_al h
    exact congrArg (· + 1) (lend_length h2)
/-- the callee's things lie as it is told -/
theorem lend_own : ∀ {Z : List (V × W)} {os : List O}, lend (Z.map (·.2)) env = some os → (∀ t ∈ Z, TmpR K S H t) →
    (∀ (i : Nat) (o : O), env[i]? = some (some o) → ∃ v, OwnR K S H v o) → OwnA K S H (Z.map (·.1)) os
  | [], os, h, _, _ => by cases h; exact .nil
  | (v, .o x) :: r, os, h, ht, hR => by
    have h : lend (.o x :: r.map (·.2)) env = some os := h
    obtain ⟨os1, _, rfl, h2⟩ := lend_o h
    exact .cons (ht (v, .o x) List.mem_cons_self) (lend_own h2 (fun t q => ht t (List.mem_cons_of_mem _ q)) hR)
  | (v, .al a i p) :: r, os, h, ht, hR => by
    have h : lend (.al a i p :: r.map (·.2)) env = some os := h
    obtain ⟨kd, xs, os1, h1, rfl, h2⟩ := lend_al h
    have e1 : v = .ref a := ht (v, .al a i p) List.mem_cons_self
    obtain ⟨o, e, ha⟩ := envAt_some h1
    obtain ⟨u, q⟩ := hR i o e
    obtain ⟨u', q', _⟩ := q.at ha
    have : u' = .ref a := q'.ref rfl
    refine .cons ?_ (lend_own h2 (fun t q => ht t (List.mem_cons_of_mem _ q)) hR)
    show OwnR K S H v (O.obj a kd xs)
    rw [e1, ← this]; exact q'
theorem giveBack_o {x : O} {r : List W} {os' : List O} {env' : Env} (h : giveBack (.o x :: r) os' env = some env') : ∃ y os1, os' = y :: os1 ∧ giveBack r os1 env = some env' := by
  cases os' with
  | nil => unfold giveBack at h; cases h
  | cons y os1 => exact ⟨y, os1, rfl, h⟩
theorem giveBack_al {a : Addr} {i : Nat} {p : List Stp} {r : List W} {os' : List O} {env' : Env} (h : giveBack (.al a i p :: r) os' env = some env') :
    ∃ ke ys os1, os' = .obj a ke ys :: os1 ∧ giveBack r os1 (envPut env i p (O.obj a ke ys)) = some env' := by
  cases os' with
  | nil => unfold giveBack at h; cases h
  | cons y os1 =>
    cases y with
    | d _ => unfold giveBack at h; cases h
    | tup _ => unfold giveBack at h; cases h
    | obj b ke ys =>
      unfold giveBack at h
      by_cases q : b = a
      · subst q; rw [if_pos rfl] at h; exact ⟨ke, ys, os1, rfl, h⟩
      · rw [if_neg q] at h; cases h
theorem giveBack_length : ∀ {ws : List W} {os' : List O} {env env' : Env}, giveBack ws os' env = some env' → env'.length = env.length
  | [], os', env, env', h => by cases h; rfl
  | .o x :: r, os', env, env', h => by
    obtain ⟨y, os1, rfl, h2⟩ := giveBack_o h
    exact giveBack_length h2
  | .al a i p :: r, os', env, env', h => by
    obtain ⟨ke, ys, os1, rfl, h2⟩ := giveBack_al h
    rw [giveBack_length h2, envPut_length]
theorem envPut_else {env : Env} {i j : Nat} {p : List Stp} {y : O} (hj : j ≠ i) : (envPut env i p y)[j]? = env[j]? := by
  unfold envPut
  split
  · rw [List.getElem?_set_ne (Ne.symm hj)]
  · rfl
theorem giveBack_else : ∀ {ws : List W} {os' : List O} {env env' : Env} {i : Nat}, i ∉ lentAt ws → giveBack ws os' env = some env' → env'[i]? = env[i]?
  | [], os', env, env', i, _, g => by cases g; rfl
  | .o x :: r, os', env, env', i, hi, g => by
    obtain ⟨y, os1, rfl, h2⟩ := giveBack_o g
    exact giveBack_else (ws := r) hi h2
  | .al a i0 p :: r, os', env, env', i, hi, g => by
    obtain ⟨ke, ys, os1, rfl, h2⟩ := giveBack_al g
    rw [giveBack_else (ws := r) (fun hm => hi (List.mem_cons_of_mem _ hm)) h2, envPut_else fun z => hi (by rw [z]; exact List.mem_cons_self)]
theorem envPut_void {env : Env} {i i0 : Nat} {p : List Stp} {y : O} (h : i ≠ i0) : envPut (env.set i0 none) i p y = (envPut env i p y).set i0 none := by
  unfold envPut
  rw [List.getElem?_set_ne (Ne.symm h)]
  cases e : env[i]? with
  | none => rfl
  | some x =>
    cases x with
    | none => rfl
    | some o => exact List.set_comm _ _ (Ne.symm h)
theorem giveBack_void : ∀ {ws : List W} {os' : List O} {env env' : Env} {i0 : Nat}, i0 ∉ lentAt ws → giveBack ws os' env = some env' → giveBack ws os' (env.set i0 none) = some (env'.set i0 none)
  | [], os', env, env', i0, _, g => by cases g; rfl
  | .o x :: r, os', env, env', i0, hi, g => by
    obtain ⟨y, os1, rfl, h2⟩ := giveBack_o g
    exact giveBack_void (ws := r) hi h2
  | .al a i p :: r, os', env, env', i0, hi, g => by
    obtain ⟨ke, ys, os1, rfl, h2⟩ := giveBack_al g
    unfold giveBack
    rw [if_pos rfl, envPut_void fun z => hi (by rw [z]; exact List.mem_cons_self)]
    exact giveBack_void (ws := r) (fun hm => hi (List.mem_cons_of_mem _ hm)) h2
theorem giveBack_cnt : ∀ {ws : List W} {os os' : List O} {env env' : Env}, lend ws env = some os → (lentAt ws).Nodup → giveBack ws os' env = some env' → ∀ b, cntE b env' + inSlots b ws os = cntE b env + inSlots b ws os'
  | [], os, os', env, env', h, _, g, b => by cases h; cases g; rfl
  | .o x :: r, os, os', env, env', h, hn, g, b => by
    obtain ⟨os1, _, rfl, h2⟩ := lend_o h
    obtain ⟨y, os2, rfl, g2⟩ := giveBack_o g
    exact giveBack_cnt (ws := r) h2 hn g2 b
  | .al a i p :: r, os, os', env, env', h, hn, g, b => by
    obtain ⟨kd, xs, os1, h1, rfl, h2⟩ := lend_al h
    obtain ⟨ke, ys, os2, rfl, g2⟩ := giveBack_al g
    obtain ⟨hi, hn2⟩ := List.nodup_cons.mp hn
    have h3 : lend r (envPut env i p (O.obj a ke ys)) = some os1 := by
      rw [lend_at fun j hj => envPut_else fun z => hi (by rw [← z]; exact hj)]; exact h2
    have ih := giveBack_cnt (ws := r) h3 hn2 g2 b
    have := envPut_cnt (y := .obj a ke ys) h1 b
    show _ + ((O.obj a kd xs).cnt b + inSlots b r os1) = _ + ((O.obj a ke ys).cnt b + inSlots b r os2)
    omega
theorem giveBack_at (K : PySem.W.Frag) (S : Fz) (H : Hp) : ∀ {ws : List W} {os os' : List O} {env env' : Env}, lend ws env = some os → (lentAt ws).Nodup → giveBack ws os' env = some env' →
    (∀ (i : Nat) (o : O), env[i]? = some (some o) → ∃ v, OwnR K S H v o) → ∀ (i : Nat) (o' : O), env'[i]? = some (some o') →
    (env[i]? = some (some o') ∧ i ∉ lentAt ws) ∨ (i ∈ lentAt ws ∧ ∃ (o : O) (p : List Stp) (a : Addr) (kd ke : Kd) (xs ys : List O) (j : Nat), env[i]? = some (some o) ∧ O.at p o = some (O.obj a kd xs) ∧ o' = O.put p o (O.obj a ke ys) ∧ os[j]? = some (O.obj a kd xs) ∧ os'[j]? = some (O.obj a ke ys) ∧
      ∀ b : Addr, inSlots b ws os + o.cnt b ≤ cntE b env + (O.obj a kd xs).cnt b)
  | [], os, os', env, env', h, _, g, _, i, o', e => by cases h; cases g; exact .inl ⟨e, fun q => nomatch q⟩
  | .o x :: r, os, os', env, env', h, hn, g, hR, i, o', e => by
    obtain ⟨os1, _, rfl, h2⟩ := lend_o h
    obtain ⟨y, os2, rfl, g2⟩ := giveBack_o g
    rcases giveBack_at K S H (ws := r) h2 hn g2 hR i o' e with q | ⟨q1, o, p, a, kd, ke, xs, ys, j, a1, a2, a3, a4, a5, a6⟩
    · exact .inl q
    · exact .inr ⟨q1, o, p, a, kd, ke, xs, ys, j + 1, a1, a2, a3, by simpa using a4, by simpa using a5, a6⟩
  | .al a i0 p :: r, os, os', env, env', h, hn, g, hR, i, o', e => by
    obtain ⟨kd, xs, os1, h1, rfl, h2⟩ := lend_al h
    obtain ⟨ke, ys, os2, rfl, g2⟩ := giveBack_al g
    obtain ⟨hi, hn2⟩ := List.nodup_cons.mp hn
    obtain ⟨o0, e0, ha0⟩ := envAt_some h1
    have hv : ∀ b, cntE b (env.set i0 none) + o0.cnt b = cntE b env := fun b => cntE_void e0 b
    have i0l := (List.getElem?_eq_some_iff.mp e0).1
    -- with the slot void, both ways the same
    have h3 : lend r (env.set i0 none) = some os1 := by
      rw [lend_at fun j hj => List.getElem?_set_ne fun z => hi (by rw [z]; exact hj)]; exact h2
    have hR2 : ∀ (i : Nat) (o : O), (env.set i0 none)[i]? = some (some o) → ∃ v, OwnR K S H v o := fun j x ej => by
      by_cases z : i0 = j
      · subst z
        rw [List.getElem?_set_self i0l] at ej; cases ej
      · rw [List.getElem?_set_ne z] at ej; exact hR j x ej
    have g3 := giveBack_void (i0 := i0) (ws := r) (fun hm => hi hm) g2
    by_cases z : i = i0
    · subst z
      have e' : env'[i]? = (envPut env i p (O.obj a ke ys))[i]? := giveBack_else (ws := r) hi g2
      rw [e', envPut_eq e0, List.getElem?_set_self i0l] at e
      cases e
      refine .inr ⟨List.mem_cons_self, o0, p, a, kd, ke, xs, ys, 0, e0, ha0, rfl, rfl, rfl, fun b => ?_⟩
      have := lend_slots K S H h3 hn2 hR2 b
      have := hv b
      show (O.obj a kd xs).cnt b + inSlots b r os1 + o0.cnt b ≤ _
      omega
    · rw [show (envPut env i0 p (O.obj a ke ys)).set i0 none = env.set i0 none by rw [envPut_eq e0, List.set_set]] at g3
      rcases giveBack_at K S H (ws := r) h3 hn2 g3 hR2 i o' (by rw [List.getElem?_set_ne (Ne.symm z)]; exact e) with ⟨q1, q2⟩ | ⟨q1, o, p', a', kd', ke', xs', ys', j, a1, a2, a3, a4, a5, a6⟩
      · rw [List.getElem?_set_ne (Ne.symm z)] at q1
        exact .inl ⟨q1, fun hm => (List.mem_cons.mp hm).elim z q2⟩
      · rw [List.getElem?_set_ne (Ne.symm z)] at a1
        refine .inr ⟨List.mem_cons_of_mem _ q1, o, p', a', kd', ke', xs', ys', j + 1, a1, a2, a3, by simpa using a4, by simpa using a5, fun b => ?_⟩
        obtain ⟨v0, q0⟩ := hR i0 o0 e0
        obtain ⟨_, _, c0⟩ := q0.at ha0
        have := c0 b
        have := a6 b
        have := hv b
        show (O.obj a kd xs).cnt b + inSlots b r os1 + o.cnt b ≤ _
        omega
theorem inSlots_le : ∀ {ws : List W} {os : List O} (b : Addr), inSlots b ws os ≤ O.cntL b os
  | [], _, _ => Nat.zero_le _
  | .o _ :: r, [], _ => Nat.zero_le _
  | .al .. :: r, [], _ => Nat.zero_le _
  | .o _ :: r, o :: os, b => by
    have := inSlots_le (ws := r) (os := os) b
    show inSlots b r os ≤ o.cnt b + O.cntL b os
    omega
  | .al .. :: r, o :: os, b => by
    have := inSlots_le (ws := r) (os := os) b
    show o.cnt b + inSlots b r os ≤ o.cnt b + O.cntL b os
    omega

/-! ### the things of a call, by themselves -/
abbrev ownB (S : Fz) (H : Hp) (os : List O) : Bs := ⟨S, H, fun a => 0 < O.cntL a os⟩
abbrev RZ (K : PySem.W.Frag) (S : Fz) (H : Hp) (os : List O) (S' : Fz) (H' : Hp) (P : List (V × W)) : Prop := R K (ownB S H os) S' H' [] [] P
theorem tmp_zip : ∀ {vs : List V} {os : List O}, OwnA K S H vs os → ∀ t ∈ vs.zip (os.map W.o), TmpR K S H t
  | _, _, .nil, t, ht => nomatch ht
  | _, _, .cons r rs, t, ht => by
    rcases List.mem_cons.mp ht with e | ht
    · subst e; exact r
    · exact tmp_zip rs t ht
theorem R.lent {Z : List (V × W)} {os : List O} (r : R K B S H σ env (Z ++ T)) (h : lend (Z.map (·.2)) env = some os) (hn : (lentAt (Z.map (·.2))).Nodup) :
    OwnA K S H (Z.map (·.1)) os ∧ (∀ b, O.cntL b os ≤ cntE b env + cntT b Z) ∧ RZ K S H os S H ((Z.map (·.1)).zip (os.map W.o)) := by
  have hR : ∀ (i : Nat) (o : O), env[i]? = some (some o) → ∃ v, OwnR K S H v o := fun i o e => let ⟨v, _, q⟩ := r.slots i o e; ⟨v, q⟩
  have ow := lend_own h (fun t ht => r.tmps t (List.mem_append_left _ ht)) hR
  have c1 : ∀ b, O.cntL b os ≤ cntE b env + cntT b Z := fun b => by
    have := lend_slots K S H h hn hR b
    have := lend_cnt h b
    omega
  have hone : ∀ b, cntE b env + (cntT b Z + cntT b T) ≤ 1 := fun b => by rw [← cntT_append]; exact r.one b
  have hz : ∀ b, cntT b ((Z.map (·.1)).zip (os.map W.o)) = O.cntL b os := fun b => cntT_zip b ow.length
  refine ⟨ow, c1, ⟨rfl, (fun i o e => nomatch e), tmp_zip ow, fun b => ?_, fun b hb => ?_, r.sH, fun b o h1 _ => h1, fun b hb => hb, fun b hb => ?_, fun b hb => .inl hb, fun b hb => hb⟩⟩
  · show 0 + _ ≤ 1
    rw [hz]; have := c1 b; have := hone b; omega
  · show 0 + _ = 0
    rw [hz]
    have h1 := r.apart b hb
    rw [cntT_append] at h1
    have := c1 b
    omega
  · have hb' : 0 < 0 + cntT b ((Z.map (·.1)).zip (os.map W.o)) := hb
    rw [hz] at hb'
    exact .inl (by show 0 < O.cntL b os; omega)
theorem RZ.kp {os : List O} {S' : Fz} {H' : Hp} {P : List (V × W)} (q : RZ K S H os S' H' P) (hl : ∀ a, 0 < O.cntL a os → ∃ k xs, H a = some (hoOf k xs)) (hS : ∀ a, S a → O.cntL a os = 0) (sH : ∀ a, S a → H a ≠ none) : Kp S S' H H' := by
  refine ⟨fun a h => q.sub a h, fun a h => ?_, fun a o h hf => ?_⟩
  · cases e : H a with
    | none => exact absurd e (sH a h)
    | some o => exact q.keep a o e (by show ¬ 0 < O.cntL a os; have := hS a h; omega)
  · refine q.keep a o h fun z => ?_
    obtain ⟨k, xs, e⟩ := hl a z
    rw [h] at e; cases e; rw [hoOf_loose] at hf; cases hf
/-- behind a call: what was lent is back -/
theorem R.back {Z : List (V × W)} {os os' : List O} {env' : Env} {S' : Fz} {H' : Hp} {N : List (V × W)} (r : R K B S H σ env (Z ++ T)) (h : lend (Z.map (·.2)) env = some os) (hn : (lentAt (Z.map (·.2))).Nodup)
    (g : giveBack (Z.map (·.2)) os' env = some env') (hl : os'.length = os.length) (q : RZ K S H os S' H' (N ++ (Z.map (·.1)).zip (os'.map W.o))) : R K B S' H' σ env' (N ++ T) := by
  obtain ⟨ow, c1, r0⟩ := r.lent h hn
  have hvl : (Z.map (·.1)).length = os'.length := by rw [hl]; exact ow.length
  have hone : ∀ b, cntE b env + (cntT b Z + cntT b T) ≤ 1 := fun b => by rw [← cntT_append]; exact r.one b
  have hlive : ∀ a, 0 < O.cntL a os → ∃ k xs, H a = some (hoOf k xs) := ow.live
  have hap : ∀ a, S a → O.cntL a os = 0 := fun a hs => by
    have h1 := r.apart a hs
    rw [cntT_append] at h1
    have := c1 a; omega
  have k : Kp S S' H H' := RZ.kp q hlive hap r.sH
  have qc : ∀ b, cntT b (N ++ (Z.map (·.1)).zip (os'.map W.o)) = cntT b N + O.cntL b os' := fun b => by rw [cntT_append, cntT_zip b hvl]
  have q1 : ∀ b, cntT b N + O.cntL b os' ≤ 1 := fun b => by
    have h1 : 0 + cntT b (N ++ (Z.map (·.1)).zip (os'.map W.o)) ≤ 1 := q.one b
    rw [qc] at h1; omega
  have q0 : ∀ b, S' b → cntT b N + O.cntL b os' = 0 := fun b hb => by
    have h1 : 0 + cntT b (N ++ (Z.map (·.1)).zip (os'.map W.o)) = 0 := q.apart b hb
    rw [qc] at h1; omega
  have qn : ∀ b, 0 < cntT b N + O.cntL b os' → 0 < O.cntL b os ∨ H b = none := fun b hb => q.new b (by
    show 0 < 0 + _
    rw [qc]; omega)
  have e1 := giveBack_cnt h hn g
  have e2 : ∀ b, inSlots b (Z.map (·.2)) os' ≤ O.cntL b os' := fun b => inSlots_le b
  have e3 := lend_cnt h
  have e4 : ∀ b, inSlots b (Z.map (·.2)) os ≤ cntE b env := lend_slots K S H h hn fun i o e => let ⟨v, _, q⟩ := r.slots i o e; ⟨v, q⟩
  -- what is not lent stays as it was
  have same : ∀ b o, O.cntL b os = 0 → H b = some o → H' b = some o := fun b o hb e => q.keep b o e (by show ¬ 0 < O.cntL b os; omega)
  have frs : ∀ b, H b = none → cntE b env + cntT b Z + cntT b T = 0 := fun b hb => by
    have := r.fresh hb
    rw [cntT_append] at this; omega
  refine ⟨by rw [giveBack_length g]; exact r.len, fun i o' ei => ?_, fun t ht => ?_, fun b => ?_, fun b hb => ?_, q.sH, fun b o h1 h2 => ?_, fun b hb => r.dom b (q.dom b hb), fun b hb => ?_, fun b hb => ?_, fun b hb => q.sub b (r.sub b hb)⟩
  · rcases giveBack_at K S H h hn g (fun i o e => let ⟨v, _, q⟩ := r.slots i o e; ⟨v, q⟩) i o' ei with ⟨a1, a2⟩ | ⟨a0, o, p, a, kd, ke, xs, ys, j, a1, a2, a3, a4, a5, a6⟩
    · obtain ⟨v, ev, qv⟩ := r.slots i o' a1
      refine ⟨v, ev, qv.kp k fun b hb => ?_⟩
      obtain ⟨_, zs, eb⟩ := qv.live b hb
      rw [eb]
      refine same b _ ?_ eb
      -- b's owner is slot i, which is not lent
      have h5 : ∀ {ws : List W} {ps : List O} {env : Env}, lend ws env = some ps → (lentAt ws).Nodup → i ∉ lentAt ws → env[i]? = some (some o') → (∀ (i : Nat) (o : O), env[i]? = some (some o) → ∃ v, OwnR K S H v o) → inSlots b ws ps + o'.cnt b ≤ cntE b env := by
        intro ws ps env hh hnn hi he hR
        have h6 : lend ws (env.set i none) = some ps := by
          rw [lend_at fun j hj => List.getElem?_set_ne fun z => hi (by rw [z]; exact hj)]; exact hh
        have := lend_slots K S H h6 hnn (fun j x ej => by
          by_cases z : i = j
          · subst z
            rw [List.getElem?_set_self (List.getElem?_eq_some_iff.mp he).1] at ej; cases ej
          · rw [List.getElem?_set_ne z] at ej; exact hR j x ej) b
        have := cntE_void he b
        omega
      have := h5 h hn a2 a1 fun i o e => let ⟨v, _, q⟩ := r.slots i o e; ⟨v, q⟩
      have := e3 b; have := hone b
      omega
    · obtain ⟨v, ev, qv⟩ := r.slots i o a1
      have hoc : ∀ b, o.cnt b ≤ cntE b env := fun b => cntE_get a1
      refine ⟨v, ev, ?_⟩
      rw [a3]
      obtain ⟨u, eu, qu⟩ := ow.get a4
      have eu2 : u = .ref a := qu.ref rfl
      have qy : OwnR K S' H' (.ref a) (O.obj a ke ys) := by
        have hm : ((Z.map (·.1))[j]?.getD .non, W.o (O.obj a ke ys)) ∈ (Z.map (·.1)).zip (os'.map W.o) := by
          refine List.mem_of_getElem? (i := j) ?_
          rw [List.getElem?_zip_eq_some]
          rw [eu]
          exact ⟨rfl, by rw [List.getElem?_map, a5]; rfl⟩
        rw [eu] at hm
        have := q.tmps _ (List.mem_append_right _ hm)
        rw [eu2] at this
        exact this
      refine OwnR.putAt (v' := v) k qv a2 (fun b => by have := hone b; have := hoc b; omega) (fun w qw => ?_) fun b hb hz => ?_
      · have : w = .ref a := qw.ref rfl
        rw [this]; exact qy
      · obtain ⟨_, zs, eb⟩ := qv.live b hb
        rw [eb]
        refine same b _ ?_ eb
        have := a6 b; have := e3 b; have := hone b; have := hoc b
        omega
  · have t1 := r.tmps
    rcases List.mem_append.mp ht with ht | ht
    · exact q.tmps t (List.mem_append_left _ ht)
    · refine (r.tmps t (List.mem_append_right _ ht)).kp k fun b hb => ?_
      have h3 : cntW b t.2 ≤ cntT b T := cntT_mem (b := b) ht
      obtain ⟨_, zs, eb⟩ := r.live (a := b) (by rw [cntT_append]; omega)
      rw [eb]
      refine same b _ ?_ eb
      have := hone b; have := c1 b
      omega
  · rw [cntT_append]
    have := e1 b; have := e2 b; have := e3 b; have := e4 b; have := hone b; have := q1 b; have := c1 b
    by_cases z : 0 < cntT b N + O.cntL b os'
    · rcases qn b z with z1 | z1
      · omega
      · have := frs b z1; omega
    · omega
  · rw [cntT_append]
    have := e1 b; have := e2 b; have := e3 b; have := e4 b; have := hone b; have := q0 b hb; have := c1 b
    rcases q.newS b hb with z | z | z
    · have h1 := r.apart b z
      rw [cntT_append] at h1
      omega
    · have z' : 0 < O.cntL b os := z
      omega
    · have := frs b z; omega
  · refine same b o ?_ (r.keep b o h1 h2)
    by_cases z : 0 < O.cntL b os
    · rcases r.new b (by rw [cntT_append]; have := c1 b; omega) with z1 | z1
      · exact absurd z1 h2
      · rw [z1] at h1; cases h1
    · omega
  · rw [cntT_append] at hb
    have := e1 b; have := e2 b; have := e3 b; have := e4 b
    by_cases z : 0 < cntE b env + cntT b (Z ++ T)
    · exact r.new b z
    · rw [cntT_append] at z
      rcases qn b (by omega) with z1 | z1
      · have := c1 b; omega
      · exact .inr (r.dom b z1)
  · rcases q.newS b hb with z | z | z
    · exact r.newS b z
    · exact .inr (r.new b (by rw [cntT_append]; have := c1 b; have z' : 0 < O.cntL b os := z; omega))
    · exact .inr (.inr (r.dom b z))
end
end Vx
namespace Vx
open PySem PySem.Spec L2

/-! ### statements -/
abbrev WS := (Exn → Env → Prop) → Env → Kt → Prop
structure EndsR (X : Cx) (B : Bs) (T : List (V × W)) (k : Kt) (D : L2.Ends) : Prop where
  nx : ∀ env σ S H, k.nx env → R X.K B S H σ env T → D.nx σ H
  rt : ∀ x env v σ S H, k.rt x env → R X.K B S H σ env ((v, x) :: T) → D.rt v H
  bk : ∀ env σ S H, k.bk env → R X.K B S H σ env T → D.bk σ H
  ct : ∀ env σ S H, k.ct env → R X.K B S H σ env T → D.ct σ H
def tS (X : Cx) (B : Bs) (Wx : WX) (w : WS) : TS := fun D σ H => ∃ S env T k PX, R X.K B S H σ env T ∧ w PX env k ∧ EndsR X B T k D ∧ Lets X B Wx PX
section
variable {X : Cx} {B : Bs} {Wx : WX} {a b c e : Expr} {wa wb wc we : WT} {pos : Pos} {st : Stmt} {rest : List Stmt} {w u : WS}
abbrev SS (X : Cx) (B : Bs) (Wx : WX) (l : List Stmt) (w : WS) : Prop := PSs X l (tS X B Wx w)
abbrev S1 (X : Cx) (B : Bs) (Wx : WX) (l : Stmt) (w : WS) : Prop := PS X l (tS X B Wx w)
theorem PS_imp {t t' : TS} (h : PS X st t) (f : ∀ D σ H, t' D σ H → t D σ H) : PS X st t' := ⟨fun pins s σ H D I q => h.run pins s σ H D I (f D σ H q)⟩
theorem PSs_imp {t t' : TS} (h : PSs X rest t) (f : ∀ D σ H, t' D σ H → t D σ H) : PSs X rest t' := ⟨fun pins s σ H D I q => h.run pins s σ H D I (f D σ H q)⟩
theorem ss_nil : SS X B Wx [] fun _ env k => k.nx env := PSs_imp pss_nil fun D σ H ⟨S, env, T, k, PX, r, hw, hE, hX⟩ => hE.nx _ _ _ _ hw r
theorem ss_cons (h : S1 X B Wx st w) (h2 : SS X B Wx rest u) : SS X B Wx (st :: rest) fun PX env k => w PX env { k with nx := fun env1 => u PX env1 k } :=
  PSs_imp (pss_cons h h2) fun D σ H ⟨S, env, T, k, PX, r, hw, hE, hX⟩ =>
    ⟨S, env, T, { k with nx := fun env1 => u PX env1 k }, PX, r, hw, ⟨fun env1 σ1 S1 H1 q r1 => ⟨S1, env1, T, k, PX, r1, q, hE, hX⟩, hE.rt, hE.bk, hE.ct⟩, hX⟩
theorem st_pass : S1 X B Wx (.Pass pos) fun _ env k => k.nx env := PS_imp ps_pass fun D σ H ⟨S, env, T, k, PX, r, hw, hE, hX⟩ => hE.nx _ _ _ _ hw r
theorem st_doc {x : Str} {j : Option Str} {p2 : Pos} (h : PS X st tNext) : S1 X B Wx st fun _ env k => k.nx env := PS_imp h fun D σ H ⟨S, env, T, k, PX, r, hw, hE, hX⟩ => hE.nx _ _ _ _ hw r
theorem st_brk : S1 X B Wx (.Break pos) fun _ env k => k.bk env := PS_imp ps_break fun D σ H ⟨S, env, T, k, PX, r, hw, hE, hX⟩ => hE.bk _ _ _ _ hw r
theorem st_cnt : S1 X B Wx (.Continue pos) fun _ env k => k.ct env := PS_imp ps_continue fun D σ H ⟨S, env, T, k, PX, r, hw, hE, hX⟩ => hE.ct _ _ _ _ hw r
theorem st_expr (he : PE X e (tE X B Wx we)) (hs : swapsWith e none pos.line X.env = pure false) : S1 X B Wx (.Expr e pos) fun PX env k => we PX env fun _ env1 => k.nx env1 :=
  PS_imp (ps_expr he hs) fun D σ H ⟨S, env, T, k, PX, r, hw, hE, hX⟩ => ⟨S, env, T, _, PX, r, hw, fun x env1 v S1 H1 q r1 => hE.nx _ _ _ _ q r1.pop, hX⟩
theorem st_ret (he : PE X e (tE X B Wx we)) : S1 X B Wx (.Return (some e) pos) fun PX env k => we PX env k.rt :=
  PS_imp (ps_ret he) fun D σ H ⟨S, env, T, k, PX, r, hw, hE, hX⟩ => ⟨S, env, T, _, PX, r, hw, fun x env1 v S1 H1 q r1 => hE.rt _ _ _ _ _ _ q r1, hX⟩
theorem R.pushNone {K : PySem.W.Frag} {S : Fz} {H : Hp} {σ : L2.St} {env : Env} {T : List (V × W)} (r : R K B S H σ env T) : R K B S H σ env ((.non, .o (.d .none)) :: T) := r.push .non
theorem st_retN : S1 X B Wx (.Return none pos) fun _ env k => k.rt (.o (.d .none)) env :=
  PS_imp ps_retN fun D σ H ⟨S, env, T, k, PX, r, hw, hE, hX⟩ => hE.rt _ _ _ _ _ _ hw r.pushNone
theorem st_if {xs ys : List Stmt} {wx wy : WS} (hc : Snd X B Wx c wc) (ha : SS X B Wx xs wx) (hb : SS X B Wx ys wy) : S1 X B Wx (.If c xs ys pos) fun PX env k => wc PX env fun x env1 => tst x fun t => if t = true then wx PX env1 k else wy PX env1 k := by
  refine PS_imp (ps_if hc.pt ha hb) fun D σ H ⟨S, env, T, k, PX, r, hw, hE, hX⟩ => ?_
  refine ⟨S, env, T, fun t env1 => if t = true then wx PX env1 k else wy PX env1 k, PX, r, hw, fun t env1 S1 H1 hq r1 => ?_, hX⟩
  cases t with
  | true => rw [if_pos rfl] at hq ⊢; exact ⟨S1, env1, T, k, PX, r1, hq, hE, hX⟩
  | false =>
    rw [if_neg (by decide)] at hq ⊢
    exact ⟨S1, env1, T, k, PX, r1, hq, hE, hX⟩
theorem asg_ends {t : Tg} {σ : L2.St} {H : Hp} {D : L2.Ends} (h : tS X B Wx (fun PX env k => we PX env fun w env1 => bindT t w env1 k.nx) D σ H) : tAsg (tE X B Wx we) (gT X B t) D σ H := by
  obtain ⟨S, env, T, k, PX, r, hw, hE, hX⟩ := h
  exact ⟨S, env, T, _, PX, r, hw, fun x env1 v S1 H1 q r1 => ⟨S1, env1, T, x, k.nx, r1, q, fun env2 S2 σ2 q2 r2 _ _ => hE.nx _ _ _ _ q2 r2⟩, hX⟩
theorem st_asg {tg : Expr} {t : Tg} (he : PE X e (tE X B Wx we)) (hg : PG X tg (gT X B t)) (hs : swapsWithSole [tg] e pos.line X.env = pure false) (hw : swappedStores [tg] e X.env = pure none)
    (h1 : (assignEach [tg] X.env).map (·.2) = [assign tg X.env]) : S1 X B Wx (.Assign [tg] e pos) fun PX env k => we PX env fun w env1 => bindT t w env1 k.nx :=
  PS_imp (ps_asg he hg hs hw h1) fun D σ H h => asg_ends h
theorem gT_name {i : Nat} {v : V} {σ : L2.St} {H : Hp} {Q : L2.St → Hp → Prop} (h : gT X B (.v i) v σ H Q) : gName i v σ H Q := by
  obtain ⟨S, env, T, w, P, r, hb, q⟩ := h
  have hb' : inW w env fun o env' => i < env'.length ∧ P (env'.set i (some (slotO o))) := hb
  obtain ⟨o, env', S', ⟨hl, hi, hp⟩, r1⟩ := r.into (inW_len hb')
  obtain ⟨S2, r2⟩ := r1.slot
  exact q _ _ _ hp (r2.store hi) (Else.set List.mem_cons_self) (by rw [List.length_set]; exact hl)
theorem st_setLc {i : Nat} {y : Str} {py spos : Pos} {elt tg iter : Expr} {ifs : List Expr} {scope : Scope} {own : List (Str × Nat)} {t : Tg} {wi : WI} {wcnd : WC} (hc : X.calm = true) (hN : X.N.Nodup) (hy : X.N[i]? = some y) (hyl : X.env.scope.names.lookup y = some .local)
    (hsw : swapsWith (.ListComp elt [⟨tg, iter, ifs, 0⟩] scope pos) (some (.Name y py)) spos.line X.env = pure true)
    (hi : PI X tg iter (tI X B Wx wi)) (ok : BlkOk X.N X.env.scope scope own) (hown : (own.map (·.2)).Nodup) (hsub : ∀ i ∈ t.slots, i ∈ own.map (·.2))
    (hg : ∀ (s : Shared) (H : Hp) (C : Addr) (cl : List (Str × Addr)) (fp : List Addr), PG (X.blk s H scope (compEnvC scope cl C X.env) fp) tg (gT X B t))
    (ht : ∀ (s : Shared) (H : Hp) (C : Addr) (cl : List (Str × Addr)) (fp : List Addr), SndC (X.blk s H scope (compEnvC scope cl C X.env) fp) B ifs wcnd)
    (he : ∀ (s : Shared) (H : Hp) (C : Addr) (cl : List (Str × Addr)) (fp : List Addr), PE (X.blk s H scope (compEnvC scope cl C X.env) fp) elt (tE X B W0 we))
    (hs : ∀ x, foldedSetIterable iter X.env x = pure x) :
    S1 X B Wx (.Assign [.Name y py] (.ListComp elt [⟨tg, iter, ifs, 0⟩] scope pos) spos) fun PX env k => wComp wi (own.map (·.2)) t wcnd we PX env fun w env1 => bindT (.v i) w env1 k.nx := by
  refine PS_imp (ps_setLc (tt := tCnd X B wcnd) hc hN hy hyl hsw hi ok hg (fun s H C cl fp => ht s H C cl fp) he hs) fun D σ H ⟨S, env, T, k, PX, r, hw, hE, hX⟩ => ?_
  refine comp_reads hown hsub ⟨S, env, T, _, PX, r, hw, fun x env1 v S1 H1 q r1 => ?_, hX⟩
  exact gT_name ⟨S1, env1, T, x, k.nx, r1, q, fun env2 S2 σ2 q2 r2 _ _ => hE.nx _ _ _ _ q2 r2⟩

/-! ### loops -/
theorem st_for {tg it : Expr} {t : Tg} {wi : WI} {body : List Stmt} {wb : WS} (hp : PassesOwn (model X.prog X.w) X.A X.env X.xe) (hc : X.calm = true) (hi : PI X tg it (tI X B Wx wi)) (hg : PG X tg (gT X B t)) (hb : SS X B Wx body wb)
    (hs : ∀ x, foldedSetIterable it X.env x = pure x) :
    S1 X B Wx (.For tg it body [] pos) fun PX env k => wi PX env fun s env1 => goFor s (fun x env2 K => bindT t (.o (.d x)) env2 fun env3 => wb PX env3 { k with nx := K, ct := K, bk := k.nx }) s.xs env1 k.nx := by
  refine PS_imp (ps_for hp hc hi hg hb hs) fun D σ H ⟨S, env, T, k, PX, r, hw, hE, hX⟩ => ?_
  refine ⟨S, env, T, _, PX, r, hw, fun src env1 S1 H1 J Z hgo r1 G still => ?_, hX⟩
  refine ⟨fun i m σ H => ∃ S env, R X.K B S H σ env (Z ++ T) ∧ m = src.xs.length - i ∧ i ≤ src.xs.length ∧ src.still env ∧
    goFor src (fun x env2 K => bindT t (.o (.d x)) env2 fun env3 => wb PX env3 { k with nx := K, ct := K, bk := k.nx }) (src.xs.drop i) env k.nx, ⟨src.xs.length, S1, env1, r1, by simp, Nat.zero_le _, still, hgo⟩, ?_⟩
  rintro i m σ2 H2 ⟨S2, e2, r2, rfl, hile, st2, hq⟩
  by_cases hlt : i < src.xs.length
  · have hd : src.xs[i]? = some src.xs[i] := List.getElem?_eq_getElem hlt
    rw [List.drop_eq_getElem_cons hlt] at hq
    refine .inr ⟨G.go _ _ _ _ _ i r2 st2 hlt, fun σ' H' => ∃ S env, R X.K B S H' σ' env (Z ++ T) ∧ src.still env ∧
      goFor src (fun x env2 K => bindT t (.o (.d x)) env2 fun env3 => wb PX env3 { k with nx := K, ct := K, bk := k.nx }) (src.xs.drop (i + 1)) env k.nx,
      fun σ' H' ⟨S', env', a1, a2, a3⟩ => ⟨src.xs.length - (i + 1), by omega, S', env', a1, rfl, hlt, a2, a3⟩, fun x H3 hy => ?_⟩
    have r3 := G.yl _ _ _ _ _ i x H3 _ r2 st2 hy hd
    have hq1 : bindT t (.o (.d src.xs[i])) e2 fun env3 => wb PX env3 { k with
        nx := fun e4 => src.still e4 ∧ goFor src (fun x env2 K => bindT t (.o (.d x)) env2 fun env3 => wb PX env3 { k with nx := K, ct := K, bk := k.nx }) (src.xs.drop (i + 1)) e4 k.nx,
        ct := fun e4 => src.still e4 ∧ goFor src (fun x env2 K => bindT t (.o (.d x)) env2 fun env3 => wb PX env3 { k with nx := K, ct := K, bk := k.nx }) (src.xs.drop (i + 1)) e4 k.nx, bk := k.nx } := hq
    refine ⟨S2, e2, Z ++ T, _, _, r3, hq1, fun e3 S3 σ3 h3 r4 _ _ => ?_⟩
    refine ⟨S3, e3, Z ++ T, _, PX, r4, h3, ⟨fun e4 σ4 S4 H4 q r5 => ⟨S4, e4, r5, q.1, q.2⟩, fun x e4 v σ4 S4 H4 q r5 => ?_, fun e4 σ4 S4 H4 q r5 => hE.nx _ _ _ _ q r5.pops, fun e4 σ4 S4 H4 q r5 => ⟨S4, e4, r5, q.1, q.2⟩⟩, hX⟩
    refine hE.rt _ _ _ _ _ _ q (r5.perm (fun t ht => ?_) fun b => ?_)
    · rcases List.mem_cons.mp ht with e | ht
      · rw [e]; exact List.mem_cons_self
      · exact List.mem_cons_of_mem _ (List.mem_append_right _ ht)
    · show _ + cntT b T ≤ _ + cntT b (Z ++ T)
      rw [cntT_append]; omega
  · refine .inl ⟨G.st _ _ _ _ _ i r2 st2 (by omega), ?_⟩
    rw [List.drop_eq_nil_of_le (by omega)] at hq
    exact hE.nx _ _ _ _ hq r2.pops
theorem st_while {body : List Stmt} {wb : WS} (hp : PassesOwn (model X.prog X.w) X.A X.env X.xe) (hc : Snd X B Wx c wc) (hb : SS X B Wx body wb) :
    S1 X B Wx (.While c body [] pos) fun PX env k => ∃ V : Nat → Env → Prop, (∃ m, V m env) ∧ ∀ m e1, V m e1 → wc PX e1 fun w e2 => tst w fun t =>
      if t = true then wb PX e2 { k with nx := fun e3 => ∃ m', m' < m ∧ V m' e3, ct := fun e3 => ∃ m', m' < m ∧ V m' e3, bk := k.nx } else k.nx e2 := by
  refine PS_imp (ps_while hp hc.pt hb) fun D σ H ⟨S, env, T, k, PX, r, hw, hE, hX⟩ => ?_
  obtain ⟨V, ⟨m0, hm0⟩, hV⟩ := hw
  refine ⟨fun m σ H => ∃ S env, R X.K B S H σ env T ∧ V m env, ⟨m0, S, env, r, hm0⟩, ?_⟩
  rintro m σ2 H2 ⟨S2, e2, r2, hv⟩
  refine ⟨S2, e2, T, fun t e3 => if t = true then wb PX e3 { k with nx := fun e3 => ∃ m', m' < m ∧ V m' e3, ct := fun e3 => ∃ m', m' < m ∧ V m' e3, bk := k.nx } else k.nx e3, PX, r2, hV m e2 hv, fun t e3 S3 H3 hq r3 => ?_, hX⟩
  cases t with
  | false =>
    rw [if_neg (by decide)] at hq ⊢
    exact hE.nx _ _ _ _ hq r3
  | true =>
    rw [if_pos rfl] at hq ⊢
    refine ⟨fun σ' H' => ∃ S env m', m' < m ∧ R X.K B S H' σ' env T ∧ V m' env, fun σ' H' ⟨S', env', m', a1, a2, a3⟩ => ⟨m', a1, S', env', a2, a3⟩, ?_⟩
    exact ⟨S3, e3, T, _, PX, r3, hq, ⟨fun e4 σ4 S4 H4 ⟨m', h1, h2⟩ r4 => ⟨S4, e4, m', h1, r4, h2⟩, hE.rt, hE.nx, fun e4 σ4 S4 H4 ⟨m', h1, h2⟩ r4 => ⟨S4, e4, m', h1, r4, h2⟩⟩, hX⟩
end

/-! ### a def -/
structure FnV (P : Program) (w : World) (K : PySem.W.Frag) (mg : Str → Option Value) (base : Heap) (k : Nat) (f : Addr) (fd : FuncData) (ps : List Str) (sp : Sp) : Prop where
  len : ∀ vs H Q E, sp vs H Q E → vs.length = ps.length
  run : ∀ (A : Around) (outer : List PySem.Env) (s : Shared) (H : Hp) (g : Args) (us : List Value) (vs : List V) (Q : VK) (E : XK), Room k A → A.guards = some [] → Env0 P w K mg base A outer s H → BindsTo s fd g (ps.zip us) → Vals vs us → sp vs H Q E →
    codeAny (model P w) A (.call (.ref f) g) (CR (L2N.CX P w) outer P w H s Q E) s
theorem FnV.mono {P : Program} {w : World} {K : PySem.W.Frag} {mg : Str → Option Value} {base : Heap} {j k : Nat} {f : Addr} {fd : FuncData} {ps : List Str} {sp : Sp} (F : FnV P w K mg base j f fd ps sp) (h : j ≤ k) : FnV P w K mg base k f fd ps sp :=
  ⟨F.len, fun A outer s H g us vs Q E hr => F.run A outer s H g us vs Q E (hr.mono h)⟩
open PyProof.Rows in
/-- by its body -/
theorem fnV_of {P : Program} {w : World} {K : PySem.W.Frag} {mg : Str → Option Value} {base : Heap} {k : Nat} {f : Addr} {name qual : Str} {params : Arguments} {body : List Stmt} {scope : Scope} {dV kV doc pm cdv ct oc : Value} {an od : Option Addr}
    {osl : Array (Option Value)} {N ps : List Str} {sp : Sp} (lk : K.lookup f = some ⟨oc, od, .func (PySem.W.fnOf name qual params body scope dV kV doc pm an cdv ct), osl⟩) (hcd : PySem.W.codeIn K cdv qual = true) (sc : FnScope N ps scope)
    (len : ∀ vs H Q E, sp vs H Q E → vs.length = ps.length)
    (hb : ∀ (A : Around) (outer : List PySem.Env) (s : Shared) (H : Hp) (vs : List V) (Q : VK) (E : XK), Room k (A.deeper (envOfC qual scope s.heap.objs.size f cdv)) → A.guards = some [] → sp vs H Q E →
      ∃ t, PSs (cxOf (L2N.CX P w) P w K mg base N qual scope f cdv A outer s H E) body t ∧ t { nx := fun _ H1 => Q .non H1, rt := Q } (L2.start N vs) H) :
    FnV P w K mg base (k + 1) f (PySem.W.fnOf name qual params body scope dV kV doc pm an cdv ct) ps sp := by
  refine ⟨len, fun A outer s H g us vs Q E hr hg e0 bnd rv q => ?_⟩
  have vl := len _ _ _ _ q
  have inK : K.In s.heap := e0.mod.kin.keeps fun b o z => (e0.bs b o z).1
  have far : s.heap.NoLimit := e0.mod.nolimit.keeps fun b o z => (e0.bs b o z).1
  have kinds : ∀ y ∈ ps.zip us, scope.names.lookup y.1 = some .local ∨ (scope.names.lookup y.1 = some .cell ∧ ((cellsFrom (s.heap.objs.size + 1) scope.names []).lookup y.1).isSome = true) := by
    intro y hy
    obtain ⟨n, u⟩ := y
    have hn : n ∈ ps := (List.of_mem_zip hy).1
    exact (sc.par n hn).imp id fun z => ⟨z, PySem.W.cellsFrom_some _ _ _ (.inl z)⟩
  refine codeAny_call_function hr.depth (inK _ _ lk) rfl sc.co sc.gen rfl (PySem.W.codeRec_of inK hcd) (bnd _ _ _ _ ?_)
  refine wpAny_newFunctionEnv_cells sc.kind kinds fun en he s1 ic => ?_
  cases he
  refine ⟨far.keeps ic.toInCall.keep, codeAny_func ?_⟩
  obtain ⟨t, ht, h2⟩ := hb A outer s H vs Q E (hr.deeper _) hg q
  have J : L2.Inv (cxOf (L2N.CX P w) P w K mg base N qual scope f cdv A outer s H E) [] (L2.start N vs) H s1 := inv_start sc hr.hd e0 vl rv ic
  refine wpAny_mono (ht.run [] s1 _ H _ J h2) (fun r s2 z => ?_) fun _ _ z => z
  cases r with
  | brk => obtain ⟨_, _, _, z⟩ := z; exact z.elim
  | cont => obtain ⟨_, _, _, z⟩ := z; exact z.elim
  | next =>
    obtain ⟨σ2, H2, J2, z⟩ := z
    exact ⟨.non, H2, J2.os, J2.bare, J2.base, J2.hok, rfl, z⟩
  | ret u =>
    obtain ⟨v, σ2, H2, J2, ru, z⟩ := z
    exact ⟨v, H2, J2.os, J2.bare, J2.base, J2.hok, ru, z⟩
end Vx
namespace Vx
open PySem PySem.Spec L2

/-! ### a def's promise, by values -/
def spV (K : PySem.W.Frag) (mg : Str → Option Value) (n : Nat) (F : FSem) : Sp := fun vs H Q E => ∃ S os P PX, vs.length = n ∧ os.length = n ∧ os.all notTup = true ∧ RZ K S H os S H (vs.zip (os.map W.o)) ∧ OwnA K S H vs os ∧ F os P PX ∧
  (∀ r os' v S' H', P r os' → os'.length = os.length → RZ K S H os S' H' ((v, .o r) :: vs.zip (os'.map W.o)) → Q v H') ∧
  (∀ ex os' cls d S' H', PX ex os' → os'.length = os.length → RZ K S H os S' H' (vs.zip (os'.map W.o)) → ExR K mg S' H' ex cls d → E cls d H')
/-- of n arguments -/
def ar (n : Nat) (F : FSem) : FSem := fun os P PX => os.length = n ∧ F os P PX
section
variable {K : PySem.W.Frag} {B : Bs} {S S' : Fz} {H H' : Hp} {σ : L2.St} {env : Env} {T N : List (V × W)}
theorem R.kpB {os : List O} (q : R K (ownB S H os) S' H' σ env N) (hl : ∀ a, 0 < O.cntL a os → ∃ k xs, H a = some (hoOf k xs)) (hS : ∀ a, S a → O.cntL a os = 0) (sH : ∀ a, S a → H a ≠ none) : Kp S S' H H' := by
  refine ⟨fun a h => q.sub a h, fun a h => ?_, fun a o h hf => ?_⟩
  · cases e : H a with
    | none => exact absurd e (sH a h)
    | some o => exact q.keep a o e (by show ¬ 0 < O.cntL a os; have := hS a h; omega)
  · refine q.keep a o h fun z => ?_
    obtain ⟨k, xs, e⟩ := hl a z
    rw [h] at e; cases e; rw [hoOf_loose] at hf; cases hf
theorem R.enter {vs : List V} {os : List O} {NN : List Str} {n : Nat} (q : RZ K S H os S H (vs.zip (os.map W.o))) (ow : OwnA K S H vs os) (hn : n = NN.length) (hle : vs.length ≤ n) : R K (ownB S H os) S H (L2.start NN vs) (start n os) [] := by
  have hl := ow.length
  have hz : ∀ b, cntT b (vs.zip (os.map W.o)) = O.cntL b os := fun b => cntT_zip b hl
  have hm : ∀ (xs : List O) b, cntE b (xs.map some) = O.cntL b xs := by
    intro xs b
    induction xs with
    | nil => rfl
    | cons x xs ih => show x.cnt b + cntE b (xs.map some) = x.cnt b + O.cntL b xs; rw [ih]
  have hr : ∀ (m : Nat) b, cntE b (List.replicate m none) = 0 := by
    intro m b
    induction m with
    | zero => rfl
    | succ m ih => show 0 + cntE b (List.replicate m none) = 0; rw [ih]
  have ha : ∀ (xs ys : Env) b, cntE b (xs ++ ys) = cntE b xs + cntE b ys := by
    intro xs ys b
    induction xs with
    | nil => show cntE b ys = 0 + cntE b ys; omega
    | cons x xs ih => show cntO b x + cntE b (xs ++ ys) = cntO b x + cntE b xs + cntE b ys; rw [ih]; omega
  have hc : ∀ b, cntE b (start n os) = O.cntL b os := fun b => by unfold start; rw [ha, hm, hr]; rfl
  refine ⟨?_, fun i o e => ?_, (fun t ht => nomatch ht), fun b => ?_, fun b hb => ?_, q.sH, fun b o h1 _ => h1, fun b hb => hb, fun b hb => ?_, fun b hb => .inl hb, fun b hb => hb⟩
  · unfold start L2.start
    rw [List.length_append, List.length_append, List.length_map, List.length_map, List.length_replicate, List.length_replicate]
    omega
  · unfold start at e
    have hi : i < os.length := by
      by_cases hi : i < os.length
      · exact hi
      · rw [List.getElem?_append_right (by simpa using hi), List.getElem?_replicate] at e
        split at e <;> cases e
    rw [List.getElem?_append_left (by simpa using hi), List.getElem?_map] at e
    cases e2 : os[i]? with
    | none => rw [e2] at e; cases e
    | some o2 =>
      rw [e2] at e; cases e
      obtain ⟨v, e3, r⟩ := ow.get e2
      refine ⟨v, ?_, r⟩
      unfold L2.start
      rw [List.getElem?_append_left (by simpa [hl] using hi), List.getElem?_map, e3]
      rfl
  · rw [hc]
    have := q.one b
    have h1 : 0 + cntT b (vs.zip (os.map W.o)) ≤ 1 := this
    rw [hz] at h1
    show _ + 0 ≤ 1
    omega
  · rw [hc]
    have h1 : 0 + cntT b (vs.zip (os.map W.o)) = 0 := q.apart b hb
    rw [hz] at h1
    show _ + 0 = 0
    omega
  · rw [hc] at hb
    exact .inl (by show 0 < O.cntL b os; have hb' : 0 < O.cntL b os + 0 := hb; omega)
theorem backs_cnt : ∀ {os os' : List O} {i : Nat} {env : Env}, backs i os env = some os' → os.all notTup = true → ∀ b, O.cntL b os' ≤ cntE b (env.drop i)
  | [], os', i, env, h, _, b => by cases h; exact Nat.zero_le _
  | .obj a kd xs :: r, os', i, env, h, hn, b => by
    unfold backs at h
    cases e : env[i]? with
    | none => simp only [e] at h; cases h
    | some x =>
      simp only [e] at h
      cases x with
      | none => cases h
      | some o =>
        cases o with
        | d _ => cases h
        | tup _ => cases h
        | obj c ke ys =>
          have h : (if c = a then (backs (i + 1) r env).map (O.obj c ke ys :: ·) else none) = some os' := h
          by_cases q : c = a
          · rw [if_pos q] at h
            cases e2 : backs (i + 1) r env with
            | none => rw [e2] at h; cases h
            | some os1 =>
              rw [e2] at h; cases h
              have ih := backs_cnt (os := r) e2 hn b
              obtain ⟨hi, e3⟩ := List.getElem?_eq_some_iff.mp e
              rw [List.drop_eq_getElem_cons hi, e3]
              show (O.obj c ke ys).cnt b + O.cntL b os1 ≤ (O.obj c ke ys).cnt b + cntE b (env.drop (i + 1))
              omega
          · rw [if_neg q] at h; cases h
  | .d x :: r, os', i, env, h, hn, b => by
    have h : (backs (i + 1) r env).map (O.d x :: ·) = some os' := h
    cases e2 : backs (i + 1) r env with
    | none => rw [e2] at h; cases h
    | some os1 =>
      rw [e2] at h; cases h
      have ih := backs_cnt (os := r) e2 hn b
      have mono : cntE b (env.drop (i + 1)) ≤ cntE b (env.drop i) := by
        by_cases hi : i < env.length
        · rw [List.drop_eq_getElem_cons hi]
          show _ ≤ cntO b env[i] + _
          omega
        · rw [List.drop_eq_nil_of_le (by omega)]; exact Nat.zero_le _
      show 0 + O.cntL b os1 ≤ _
      omega
  | .tup xs :: r, os', i, env, h, hn, b => by
    have : (notTup (.tup xs) && r.all notTup) = true := hn
    cases this
theorem backs_at : ∀ {os os' : List O} {i : Nat} {env : Env}, backs i os env = some os' → os.all notTup = true → os'.length = os.length ∧ ∀ j o', os'[j]? = some o' → (∃ x, o' = .d x ∧ os[j]? = some (.d x)) ∨ (∃ a kd ke xs ys, o' = .obj a ke ys ∧ os[j]? = some (.obj a kd xs) ∧ env[i + j]? = some (some (.obj a ke ys)))
  | [], os', i, env, h, _ => by cases h; exact ⟨rfl, fun j o' e => nomatch e⟩
  | .obj a kd xs :: r, os', i, env, h, hn => by
    unfold backs at h
    cases e : env[i]? with
    | none => simp only [e] at h; cases h
    | some x =>
      simp only [e] at h
      cases x with
      | none => cases h
      | some o =>
        cases o with
        | d _ => cases h
        | tup _ => cases h
        | obj c ke ys =>
          have h : (if c = a then (backs (i + 1) r env).map (O.obj c ke ys :: ·) else none) = some os' := h
          by_cases q : c = a
          · subst q
            rw [if_pos rfl] at h
            cases e2 : backs (i + 1) r env with
            | none => rw [e2] at h; cases h
            | some os1 =>
              rw [e2] at h; cases h
              obtain ⟨h1, h2⟩ := backs_at (os := r) e2 hn
              refine ⟨congrArg (· + 1) h1, fun j o' ej => ?_⟩
              cases j with
              | zero => cases ej; exact .inr ⟨c, kd, ke, xs, ys, rfl, rfl, e⟩
              | succ j =>
                rcases h2 j o' (by simpa using ej) with ⟨x, b1, b2⟩ | ⟨a', kd', ke', xs', ys', b1, b2, b3⟩
                · exact .inl ⟨x, b1, by simpa using b2⟩
                · exact .inr ⟨a', kd', ke', xs', ys', b1, by simpa using b2, by rw [show i + (j + 1) = i + 1 + j by omega]; exact b3⟩
          · rw [if_neg q] at h; cases h
  | .d x :: r, os', i, env, h, hn => by
    have h : (backs (i + 1) r env).map (O.d x :: ·) = some os' := h
    cases e2 : backs (i + 1) r env with
    | none => rw [e2] at h; cases h
    | some os1 =>
      rw [e2] at h; cases h
      obtain ⟨h1, h2⟩ := backs_at (os := r) e2 hn
      refine ⟨congrArg (· + 1) h1, fun j o' ej => ?_⟩
      cases j with
      | zero => cases ej; exact .inl ⟨x, rfl, rfl⟩
      | succ j =>
        rcases h2 j o' (by simpa using ej) with ⟨x, b1, b2⟩ | ⟨a', kd', ke', xs', ys', b1, b2, b3⟩
        · exact .inl ⟨x, b1, by simpa using b2⟩
        · exact .inr ⟨a', kd', ke', xs', ys', b1, by simpa using b2, by rw [show i + (j + 1) = i + 1 + j by omega]; exact b3⟩
  | .tup xs :: r, os', i, env, h, hn => by
    have : (notTup (.tup xs) && r.all notTup) = true := hn
    cases this
theorem R.exit {vs : List V} {os os' : List O} (ow : OwnA K S H vs os) (hS : ∀ a, S a → O.cntL a os = 0) (sH : ∀ a, S a → H a ≠ none) (hn : os.all notTup = true) (r : R K (ownB S H os) S' H' σ env N) (hb : backs 0 os env = some os') :
    os'.length = os.length ∧ RZ K S H os S' H' (N ++ vs.zip (os'.map W.o)) := by
  have k := r.kpB ow.live hS sH
  obtain ⟨hl, hat⟩ := backs_at hb hn
  have hvl : vs.length = os'.length := ow.length.trans hl.symm
  have hc : ∀ b, cntT b (N ++ vs.zip (os'.map W.o)) ≤ cntT b N + cntE b env := fun b => by
    rw [cntT_append, cntT_zip b hvl]
    have := backs_cnt hb hn b
    rw [List.drop_zero] at this
    omega
  refine ⟨hl, rfl, (fun i o e => nomatch e), fun t ht => ?_, fun b => ?_, fun b hb => ?_, r.sH, r.keep, r.dom, fun b hb => ?_, r.newS, r.sub⟩
  · rcases List.mem_append.mp ht with ht | ht
    · exact r.tmps t ht
    · obtain ⟨j, hj⟩ := List.mem_iff_getElem?.mp ht
      rw [List.getElem?_zip_eq_some] at hj
      obtain ⟨j1, j2⟩ := hj
      rw [List.getElem?_map] at j2
      cases e : os'[j]? with
      | none => rw [e] at j2; cases j2
      | some o' =>
        rw [e] at j2
        have j3 : W.o o' = t.2 := Option.some.inj j2
        obtain ⟨v, w⟩ := t
        have j3 : W.o o' = w := j3
        subst j3
        show OwnR K S' H' v o'
        rcases hat j o' e with ⟨x, rfl, e1⟩ | ⟨a, kd, ke, xs, ys, rfl, e1, e2⟩
        · obtain ⟨u, eu, q⟩ := ow.get e1
          rw [j1] at eu; cases eu
          cases q with
          | d q => exact .d (q.kp k)
        · obtain ⟨u, eu, q⟩ := ow.get e1
          rw [j1] at eu; cases eu
          have ev : v = .ref a := q.ref rfl
          rw [Nat.zero_add] at e2
          obtain ⟨u2, _, q2⟩ := r.slots j _ e2
          have eu2 : u2 = .ref a := q2.ref rfl
          rw [ev, ← eu2]; exact q2
  · show 0 + _ ≤ 1
    have := hc b; have := r.one b; omega
  · show 0 + _ = 0
    have := hc b; have := r.apart b hb; omega
  · have hb' : 0 < 0 + cntT b (N ++ vs.zip (os'.map W.o)) := hb
    exact r.new b (by have := hc b; omega)
theorem R.takeOut {v : V} {a : Addr} {kd : Kd} {i : Nat} {xs : List O} (r : R K B S H σ env ((v, .al a i []) :: T)) (e : env[i]? = some (some (.obj a kd xs))) : R K B S H (σ.set i none) (env.set i none) ((v, .o (.obj a kd xs)) :: T) := by
  have hv := cntE_void e
  have ev : v = .ref a := r.tmps (v, .al a i []) List.mem_cons_self
  obtain ⟨u, eu, q⟩ := r.slots i _ e
  have eu2 : u = .ref a := q.ref rfl
  have hi := (List.getElem?_eq_some_iff.mp e).1
  refine ⟨by rw [List.length_set, List.length_set]; exact r.len, fun j o ej => ?_, fun t ht => ?_, fun b => ?_, fun b hb => ?_, r.sH, r.keep, r.dom, fun b hb => ?_, r.newS, r.sub⟩
  · by_cases z : i = j
    · subst z; rw [List.getElem?_set_self hi] at ej; cases ej
    · rw [List.getElem?_set_ne z] at ej
      obtain ⟨w, h1, h2⟩ := r.slots j o ej
      exact ⟨w, by rw [List.getElem?_set_ne z]; exact h1, h2⟩
  · rcases List.mem_cons.mp ht with h | h
    · subst h
      show OwnR K S H v _
      rw [ev, ← eu2]; exact q
    · exact r.tmps t (List.mem_cons_of_mem _ h)
  · have h1 : cntE b env + (0 + cntT b T) ≤ 1 := r.one b
    have := hv b
    show _ + ((O.obj a kd xs).cnt b + cntT b T) ≤ 1
    omega
  · have h1 : cntE b env + (0 + cntT b T) = 0 := r.apart b hb
    have := hv b
    show _ + ((O.obj a kd xs).cnt b + cntT b T) = 0
    omega
  · have hb' : 0 < cntE b (env.set i none) + ((O.obj a kd xs).cnt b + cntT b T) := hb
    refine r.new b ?_
    show 0 < cntE b env + (0 + cntT b T)
    have := hv b
    omega
end

/-! ### lent, back: in steps -/
def backsW : Nat → List O → Env → (List O → Prop) → Prop
  | _, [], _, Q => Q []
  | i, .obj a kd xs :: r, env, Q => match env[i]? with
    | some (some (.obj b ke ys)) => b = a ∧ backsW (i + 1) r env fun os => Q (.obj b ke ys :: os)
    | _ => False
  | i, o :: r, env, Q => backsW (i + 1) r env fun os => Q (o :: os)
def lendW : List W → Env → (List O → Prop) → Prop
  | [], _, Q => Q []
  | .o x :: r, env, Q => notTup x = true ∧ lendW r env fun os => Q (x :: os)
  | .al a i p :: r, env, Q => match envAt env i p with
    | some (.obj b kd xs) => b = a ∧ lendW r env fun os => Q (.obj b kd xs :: os)
    | _ => False
def giveBackW : List W → List O → Env → (Env → Prop) → Prop
  | [], _, env, Q => Q env
  | .o _ :: r, _ :: os, env, Q => giveBackW r os env Q
  | .al a i p :: r, .obj b kd xs :: os, env, Q => b = a ∧ giveBackW r os (envPut env i p (.obj b kd xs)) Q
  | _, _, _, _ => False
def callV (F : FSem) (ws : List W) (env : Env) (Q : W → Env → Prop) (X : Exn → Env → Prop) : Prop :=
  lendW ws env fun os => decide (lentAt ws).Nodup = true ∧ F os (fun r os' => giveBackW ws os' env fun env' => Q (.o r) env') (fun ex os' => giveBackW ws os' env fun env' => X ex env')
theorem onSome_map {α β : Type} {o : Option α} {f : α → β} {Q : β → Prop} (h : onSome o fun x => Q (f x)) : onSome (o.map f) Q := by
  cases o with
  | none => exact h.elim
  | some x => exact h
theorem backs_of : ∀ {os : List O} {i : Nat} {env : Env} {Q : List O → Prop}, backsW i os env Q → onSome (backs i os env) Q
  | [], i, env, Q, h => h
  | .obj a kd xs :: r, i, env, Q, h => by
    unfold backsW at h
    unfold backs
    cases e : env[i]? with
    | none => simp only [e] at h
    | some x =>
      simp only [e] at h ⊢
      cases x with
      | none => exact h.elim
      | some o =>
        cases o with
        | d _ => exact h.elim
        | tup _ => exact h.elim
        | obj b ke ys =>
          obtain ⟨h1, h2⟩ := h
          subst h1
          show onSome (if b = b then (backs (i + 1) r env).map (O.obj b ke ys :: ·) else none) Q
          rw [if_pos rfl]
          exact onSome_map (backs_of h2)
  | .d x :: r, i, env, Q, h => onSome_map (f := (O.d x :: ·)) (backs_of (os := r) h)
  | .tup x :: r, i, env, Q, h => onSome_map (f := (O.tup x :: ·)) (backs_of (os := r) h)
theorem lend_of : ∀ {ws : List W} {env : Env} {Q : List O → Prop}, lendW ws env Q → onSome (lend ws env) Q
  | [], env, Q, h => h
  | .o x :: r, env, Q, h => by
    have h : notTup x = true ∧ lendW r env fun os => Q (x :: os) := h
    unfold lend
    rw [if_pos h.1]
    exact onSome_map (lend_of h.2)
  | .al a i p :: r, env, Q, h => by
    unfold lendW at h
    unfold lend
    cases e : envAt env i p with
    | none => simp only [e] at h
    | some o =>
      simp only [e] at h ⊢
      cases o with
      | d _ => exact h.elim
      | tup _ => exact h.elim
      | obj b kd xs =>
        obtain ⟨h1, h2⟩ := h
        subst h1
        show onSome (if b = b then (lend r env).map (O.obj b kd xs :: ·) else none) Q
        rw [if_pos rfl]
        exact onSome_map (lend_of h2)
theorem giveBack_of : ∀ {ws : List W} {os : List O} {env : Env} {Q : Env → Prop}, giveBackW ws os env Q → onSome (giveBack ws os env) Q
  | [], os, env, Q, h => h
  | .o _ :: r, [], env, Q, h => h.elim
  | .o _ :: r, _ :: os, env, Q, h => giveBack_of (ws := r) h
  | .al a i p :: r, [], env, Q, h => h.elim
  | .al a i p :: r, .d _ :: os, env, Q, h => h.elim
  | .al a i p :: r, .tup _ :: os, env, Q, h => h.elim
  | .al a i p :: r, .obj b kd xs :: os, env, Q, h => by
    obtain ⟨h1, h2⟩ := h
    subst h1
    unfold giveBack
    rw [if_pos rfl]
    exact giveBack_of h2

/-- a def's meaning by its body's reading -/
def semW (w : WS) (n : Nat) : FSem := fun os P PX => w (fun ex env => backsW 0 os env fun os' => PX ex os') (start n os)
    { nx := fun env => backsW 0 os env fun os' => P (.d .none) os'
      rt := fun x env => retW os x env fun r env' => backsW 0 os env' fun os' => P r os'
      bk := fun _ => False
      ct := fun _ => False }
/-- statements of a def's own block: nothing is held beside the names -/
def tS0 (X : Cx) (B : Bs) (Wx : WX) (w : WS) : TS := fun D σ H => ∃ S env k PX, R X.K B S H σ env [] ∧ w PX env k ∧ EndsR X B [] k D ∧ Lets X B Wx PX
abbrev SS0 (X : Cx) (B : Bs) (Wx : WX) (l : List Stmt) (w : WS) : Prop := PSs X l (tS0 X B Wx w)
abbrev S10 (X : Cx) (B : Bs) (Wx : WX) (l : Stmt) (w : WS) : Prop := PS X l (tS0 X B Wx w)
section
variable {X : Cx} {B : Bs} {Wx : WX} {st : Stmt} {rest : List Stmt} {w u : WS}
theorem s0_of (h : S1 X B Wx st w) : S10 X B Wx st w := PS_imp h fun D σ H ⟨S, env, k, PX, r, hw, hE, hX⟩ => ⟨S, env, [], k, PX, r, hw, hE, hX⟩
theorem ss0_of (h : SS X B Wx rest w) : SS0 X B Wx rest w := PSs_imp h fun D σ H ⟨S, env, k, PX, r, hw, hE, hX⟩ => ⟨S, env, [], k, PX, r, hw, hE, hX⟩
theorem ss0_cons (h : S10 X B Wx st w) (h2 : SS0 X B Wx rest u) : SS0 X B Wx (st :: rest) fun PX env k => w PX env { k with nx := fun env1 => u PX env1 k } :=
  PSs_imp (pss_cons h h2) fun D σ H ⟨S, env, k, PX, r, hw, hE, hX⟩ =>
    ⟨S, env, { k with nx := fun env1 => u PX env1 k }, PX, r, hw, ⟨fun env1 σ1 S1 H1 q r1 => ⟨S1, env1, k, PX, r1, q, hE, hX⟩, hE.rt, hE.bk, hE.ct⟩, hX⟩
theorem s0_if {c : Expr} {wc : WT} {pos : Pos} {xs ys : List Stmt} {wx wy : WS} (hc : Snd X B Wx c wc) (ha : SS0 X B Wx xs wx) (hb : SS0 X B Wx ys wy) : S10 X B Wx (.If c xs ys pos) fun PX env k => wc PX env fun x env1 => tst x fun t => if t = true then wx PX env1 k else wy PX env1 k := by
  refine PS_imp (ps_if hc.pt ha hb) fun D σ H ⟨S, env, k, PX, r, hw, hE, hX⟩ => ?_
  refine ⟨S, env, [], fun t env1 => if t = true then wx PX env1 k else wy PX env1 k, PX, r, hw, fun t env1 S1 H1 hq r1 => ?_, hX⟩
  cases t with
  | true => rw [if_pos rfl] at hq ⊢; exact ⟨S1, env1, k, PX, r1, hq, hE, hX⟩
  | false =>
    rw [if_neg (by decide)] at hq ⊢
    exact ⟨S1, env1, k, PX, r1, hq, hE, hX⟩
end
section
open PyProof.Rows
/-- a body's reading, at its start -/
theorem sem_body {X : Cx} {N : List Str} {n : Nat} {wb : WS} {F : FSem} {vs : List V} {H : Hp} {Q : VK} {E : XK} {S : Fz} {os : List O} {PP : O → List O → Prop} {PX : Exn → List O → Prop} (hn : N.length = n) (hle : vs.length ≤ n) (imp : ∀ os Q E, F os Q E → semW wb n os Q E)
    (hnt : os.all notTup = true) (rz : RZ X.K S H os S H (vs.zip (os.map W.o))) (ow : OwnA X.K S H vs os) (hF : F os PP PX)
    (hP : ∀ r os' v S' H', PP r os' → os'.length = os.length → RZ X.K S H os S' H' ((v, .o r) :: vs.zip (os'.map W.o)) → Q v H')
    (hE : ∀ ex os' cls d S' H', PX ex os' → os'.length = os.length → RZ X.K S H os S' H' (vs.zip (os'.map W.o)) → ExR X.K X.mg S' H' ex cls d → E cls d H') :
    tS0 X (ownB S H os) (fun cls d _ H1 => E cls d H1) wb { nx := fun _ H1 => Q .non H1, rt := Q } (L2.start N vs) H := by
  have r0 : R X.K (ownB S H os) S H (L2.start N vs) (start n os) [] := R.enter rz ow hn.symm hle
  have hS : ∀ a, S a → O.cntL a os = 0 := fun a h => by
    have h1 : 0 + cntT a (vs.zip (os.map W.o)) = 0 := rz.apart a h
    rw [cntT_zip a ow.length] at h1; omega
  have sH := rz.sH
  refine ⟨S, start n os, _, _, r0, imp _ _ _ hF, ⟨fun env σ S1 H1 q r1 => ?_, fun x env v σ S1 H1 q r1 => ?_, fun _ _ _ _ q _ => q.elim, fun _ _ _ _ q _ => q.elim⟩, fun ex env S1 H1 σ cls d q r1 hx => ?_⟩
  · obtain ⟨os', hbk, q⟩ := onSome_some (backs_of q)
    obtain ⟨hl, z⟩ := R.exit ow hS sH hnt r1.pushNone hbk
    exact hP _ _ _ _ _ q hl z
  · have fin : ∀ {r : O} {env' : Env} {σ' : L2.St} {S2 : Fz}, (backsW 0 os env' fun os' => PP r os') → R X.K (ownB S H os) S2 H1 σ' env' [(v, .o r)] → Q v H1 := by
      intro r env' σ' S2 q r2
      obtain ⟨os', hbk, q⟩ := onSome_some (backs_of q)
      obtain ⟨hl, z⟩ := R.exit ow hS sH hnt r2 hbk
      exact hP _ _ _ _ _ q hl z
    have r1 : R X.K (ownB S H os) S1 H1 σ env [(v, x)] := r1
    cases x with
    | o x => exact fin q r1
    | al a i p =>
      have esc : (escW (.al a i p) env fun x env' => backsW 0 os env' fun os' => PP (.d x) os') → Q v H1 := fun q => by
        obtain ⟨y, env', S2, q, r2⟩ := r1.esc q
        exact fin q r2
      cases p with
      | cons _ _ => exact esc q
      | nil =>
        have hne : (∀ b ke ys, os[i]? ≠ some (.obj b ke ys)) → Q v H1 := by
          intro hno
          have q2 : match env[i]? with
            | some (some (.obj b kd xs)) => b = a ∧ backsW 0 os (env.set i none) fun os' => PP (.obj b kd xs) os'
            | _ => False := by
            have q' : match os[i]? with
              | some (.obj _ _ _) => escW (.al a i []) env fun x env' => backsW 0 os env' fun os' => PP (.d x) os'
              | _ => match env[i]? with
                | some (some (.obj b kd xs)) => b = a ∧ backsW 0 os (env.set i none) fun os' => PP (.obj b kd xs) os'
                | _ => False := q
            cases e : os[i]? with
            | none => simp only [e] at q'; exact q'
            | some o =>
              cases o with
              | obj b ke ys => exact absurd e (hno b ke ys)
              | d _ => simp only [e] at q'; exact q'
              | tup _ => simp only [e] at q'; exact q'
          cases e : env[i]? with
          | none => simp only [e] at q2
          | some o =>
            simp only [e] at q2
            cases o with
            | none => exact q2.elim
            | some o =>
              cases o with
              | d _ => exact q2.elim
              | tup _ => exact q2.elim
              | obj b kd xs =>
                obtain ⟨hb, q2⟩ := q2
                subst hb
                exact fin q2 (r1.takeOut e)
        cases e : os[i]? with
        | none => exact hne fun b ke ys z => by rw [e] at z; cases z
        | some o =>
          cases o with
          | d _ => exact hne fun b ke ys z => by rw [e] at z; cases z
          | tup _ => exact hne fun b ke ys z => by rw [e] at z; cases z
          | obj b ke ys =>
            have q' : match os[i]? with
              | some (.obj _ _ _) => escW (.al a i []) env fun x env' => backsW 0 os env' fun os' => PP (.d x) os'
              | _ => match env[i]? with
                | some (some (.obj b kd xs)) => b = a ∧ backsW 0 os (env.set i none) fun os' => PP (.obj b kd xs) os'
                | _ => False := q
            simp only [e] at q'
            exact esc q'
  · obtain ⟨os', hbk, q⟩ := onSome_some (backs_of q)
    obtain ⟨hl, z⟩ := R.exit ow hS sH hnt r1 hbk
    exact hE _ _ _ _ _ _ q hl z hx
theorem fnV_sem0 {P : Program} {w : World} {K : PySem.W.Frag} {mg : Str → Option Value} {base : Heap} {k np n : Nat} {f : Addr} {name qual : Str} {params : Arguments} {body : List Stmt} {scope : Scope} {dV kV doc pm cdv ct oc : Value} {an od : Option Addr}
    {osl : Array (Option Value)} {N ps : List Str} {wb : WS} {F : FSem} (lk : K.lookup f = some ⟨oc, od, .func (PySem.W.fnOf name qual params body scope dV kV doc pm an cdv ct), osl⟩) (hcd : PySem.W.codeIn K cdv qual = true) (sc : FnScope N ps scope)
    (hnp : ps.length = np) (hn : N.length = n) (hle : np ≤ n) (imp : ∀ os Q E, F os Q E → semW wb n os Q E)
    (hb : ∀ (A : Around) (outer : List PySem.Env) (s : Shared) (H : Hp) (E : XK) (B : Bs), Room k (A.deeper (envOfC qual scope s.heap.objs.size f cdv)) → A.guards = some [] →
      SS0 (cxOf (L2N.CX P w) P w K mg base N qual scope f cdv A outer s H E) B (fun cls d _ H1 => E cls d H1) body wb) :
    FnV P w K mg base (k + 1) f (PySem.W.fnOf name qual params body scope dV kV doc pm an cdv ct) ps (spV K mg np F) := by
  refine fnV_of lk hcd sc (fun vs H Q E ⟨_, _, _, _, h, _⟩ => by rw [h, hnp]) fun A outer s H vs Q E hr hg ⟨S, os, PP, PX, hv, ho, hnt, rz, ow, hF, hP, hE⟩ => ?_
  exact ⟨_, hb A outer s H E (ownB S H os) hr hg, sem_body hn (by rw [hv]; exact hle) imp hnt rz ow hF hP hE⟩
theorem fnV_sem {P : Program} {w : World} {K : PySem.W.Frag} {mg : Str → Option Value} {base : Heap} {k np n : Nat} {f : Addr} {name qual : Str} {params : Arguments} {body : List Stmt} {scope : Scope} {dV kV doc pm cdv ct oc : Value} {an od : Option Addr}
    {osl : Array (Option Value)} {N ps : List Str} {wb : WS} {F : FSem} (lk : K.lookup f = some ⟨oc, od, .func (PySem.W.fnOf name qual params body scope dV kV doc pm an cdv ct), osl⟩) (hcd : PySem.W.codeIn K cdv qual = true) (sc : FnScope N ps scope)
    (hnp : ps.length = np) (hn : N.length = n) (hle : np ≤ n) (imp : ∀ os Q E, F os Q E → semW wb n os Q E)
    (hb : ∀ (A : Around) (outer : List PySem.Env) (s : Shared) (H : Hp) (E : XK) (B : Bs), Room k (A.deeper (envOfC qual scope s.heap.objs.size f cdv)) → A.guards = some [] →
      SS (cxOf (L2N.CX P w) P w K mg base N qual scope f cdv A outer s H E) B (fun cls d _ H1 => E cls d H1) body wb) :
    FnV P w K mg base (k + 1) f (PySem.W.fnOf name qual params body scope dV kV doc pm an cdv ct) ps (spV K mg np F) :=
  fnV_sem0 lk hcd sc hnp hn hle imp fun A outer s H E B hr hg => ss0_of (hb A outer s H E B hr hg)

/-! ### a call -/
variable {X : Cx} {B : Bs} {Wx : WX}
theorem s_call {k n : Nat} {f : Addr} {fd : FuncData} {ps : List Str} {F : FSem} {x : Str} {p pos : Pos} {e : Expr} {es : List Expr} {wa : WA} (Fn : FnV X.prog X.w X.K X.mg X.base k f fd ps (spV X.K X.mg n F)) (hr : Room k X.A) (hgd : X.A.guards = some [])
    (tk : L2N.Takes X Wx) (hg : Gl X x) (hm : X.mg x = some (.ref f)) (hk : PySem.W.keepIn X.K (.ref f) = true) (hb : Binds X.K fd ps []) (ha : SndA X B Wx (e :: es) wa)
    (hdb : (x == ("__debug__" : Str)) = false) (he : starEach (e :: es) X.env = (false, eval e X.env) :: starEach es X.env) (hpl : (backTo pos (starEach es X.env)).any (·.1) = false) :
    PE X (.Call (.Name x p) (e :: es) [] pos) (tE X B Wx fun PX env P => wa PX env fun ws env1 => callV (ar n F) ws env1 P PX) := by
  refine ⟨fun pins s σ H Q I ⟨S, env, T, P, PX, r, hw, hP, hX⟩ => ?_⟩
  have h2 : tA' X B Wx wa σ H fun vs H1 => spV X.K X.mg n F vs H1 Q fun cls d H2 => Wx cls d σ H2 := by
    refine ⟨S, env, T, _, PX, r, hw, fun env1 Z S1 H1 hq r1 => ?_, hX⟩
    obtain ⟨os, hl, hnd, hon, hF⟩ := onSome_some (lend_of hq)
    have hnd := of_decide_eq_true hnd
    obtain ⟨ow, _, rz⟩ := r1.lent hl hnd
    refine ⟨S1, os, _, _, by rw [ow.length, hon], hon, lend_notTup hl, rz, ow, hF, fun rr os' v S2 H2 q hlen z => ?_, fun ex os' cls d S2 H2 q hlen z hx => ?_⟩
    · obtain ⟨env', g, q⟩ := onSome_some (giveBack_of q)
      exact hP _ _ _ _ _ q (R.back (N := [(v, .o rr)]) r1 hl hnd g hlen z)
    · obtain ⟨env', g, q⟩ := onSome_some (giveBack_of q)
      exact hX _ _ _ _ _ _ _ q ((R.back (N := []) r1 hl hnd g hlen z).tmp (fun t ht => nomatch ht) fun b => Nat.zero_le _) hx
  refine wpAny_Call_Name_kw (ld_glob I hg hm ?_ hdb)
  refine PySem.W.callWith_K (h₀ := X.base) I.ok.mod.kin hk (thn (ha.run pos pins s σ H _ I h2) fun us s1 ⟨vs, H1, I1, rv, q⟩ => ⟨I1.kIn, ?_⟩) he hpl
  have vl := Fn.len _ _ _ _ q
  have bd := hb s1 us I1.kIn (by rw [List.append_nil, ← rv.length]; exact vl)
  rw [List.append_nil] at bd
  refine wpAny_call (codeAny_mono (Fn.run X.A X.stack s1 H1 ⟨us, []⟩ us vs Q _ hr hgd I1.env0 bd rv q) fun rr s2 z => ?_)
  cases rr with
  | error ev => exact L2N.passAt tk σ pins H1 s1 ev s2 I1 z
  | ok fl =>
    cases fl with
    | ret u => exact I1.after z
    | next => exact z.elim
    | brk => exact z.elim
    | cont => exact z.elim
end
end Vx
namespace Vx
open PySem PySem.Spec L2

/-! ### the meanings, by names -/
def wK (x : D) : WT := fun _ env P => P (.o (.d x)) env
def wBin (op : Bop) (wa wb : WT) : WT := fun PX env P => wa PX env fun x env1 => wb PX env1 fun y env2 => useW x env2 fun dx => useW y env2 fun dy => bopW op dx dy fun o => P (.o o) env2
def wNeg (wa : WT) : WT := fun PX env P => wa PX env fun x env1 => match x with
  | .o (.d (.int i)) => P (.o (.d (.int (-i)))) env1
  | _ => False
def wNot (wa : WT) : WT := fun PX env P => wa PX env fun x env1 => tst x fun b => P (.o (.d (.bool (!b)))) env1
def wAnd (wa wb : WT) : WT := fun PX env P => wa PX env fun x env1 => tst x fun t => if t = true then wb PX env1 P else P (.o (.d (.bool false))) env1
def wOr (wa wb : WT) : WT := fun PX env P => wa PX env fun x env1 => tst x fun t => if t = true then P (.o (.d (.bool true))) env1 else wb PX env1 P
def wIfe (wc wa wb : WT) : WT := fun PX env P => wc PX env fun x env1 => tst x fun t => if t = true then wa PX env1 P else wb PX env1 P
def wCmp (op : Cop) (wa wb : WT) : WT := fun PX env P => wa PX env fun x env1 => wb PX env1 fun y env2 => useW x env2 fun dx => useW y env2 fun dy => cmpW op dx dy fun t => P (.o (.d (.bool t))) env2
def wChain (op op2 : Cop) (wa wb wc : WT) : WT := fun PX env P => wa PX env fun x env1 => wb PX env1 fun y env2 => useW x env2 fun dx => useW y env2 fun dy => cmpW op dx dy fun t =>
  if t = true then wc PX env2 fun z env3 => useW y env3 fun dy2 => useW z env3 fun dz => cmpW op2 dy2 dz fun t2 => P (.o (.d (.bool t2))) env3 else P (.o (.d (.bool false))) env2
def wTup (wl : WA) : WT := fun PX env P => wl PX env fun l env1 => inWs l env1 fun os env2 => os.length ≤ sizeLine ∧ match datas os with
  | some ds => P (.o (.d (.tuple ds))) env2
  | none => P (.o (.tup os)) env2
def wLst (wl : WA) : WT := fun PX env P => wl PX env fun l env1 => inWs l env1 fun os env2 => os.length ≤ sizeLine ∧ ∀ a, P (.o (.lst a os)) env2
def wIx (wa wb : WT) : WT := fun PX env P => wa PX env fun x env1 => wb PX env1 fun y env2 => itemW x y env2 fun w => P w env2
def wSl (wa : WT) (wl wh : WO) : WT := fun PX env P => wa PX env fun x env1 => wl PX env1 fun l env2 => wh PX env2 fun h env3 => useW x env3 fun dx => slW dx l h fun o => P (.o o) env3
def wPrim (p : Prim) (wl : WA) : WT := fun PX env P => wl PX env fun ws env1 => useWs ws env1 fun ds => primW p ds fun o => P (.o o) env1
def wCall (F : FSem) (wl : WA) : WT := fun PX env P => wl PX env fun ws env1 => callV F ws env1 P PX
def wFrz (wa : WT) : WT := fun PX env P => wa PX env fun x env1 => escW x env1 fun d env2 => P (.o (.d d)) env2
def wMut (m : Mut) (wo : WT) (wl : WA) : WT := fun PX env P => wo PX env fun t env1 => wl PX env1 fun ws env2 => inWs ws env2 fun os env3 => doMut m t os env3 P
def aNil : WA := fun _ env P => P [] env
def aCons (we : WT) (ws : WA) : WA := fun PX env P => we PX env fun w env1 => ws PX env1 fun l env2 => P (w :: l) env2
def oNone : WO := fun _ env P => P none env
def oSome (wa : WT) : WO := fun PX env P => wa PX env fun w env1 => match w with
  | .o (.d (.int i)) => P (some i) env1
  | _ => False
def cAll : WC := fun env P => P true env
def cOne (wc : WT) : WC := fun env P => wc (fun _ _ => False) env fun w env1 => tst w fun t => P t env1
def iE (wa : WT) : WI := fun PX env P => wa PX env fun w env1 => srcW w env1 fun s => P s env1
def iR1 (wa : WT) : WI := fun PX env P => wa PX env fun w env1 => match w with
  | .o (.d (.int i)) => inRange i ∧ P ⟨upTo 0 i.toNat, none⟩ env1
  | _ => False
def iR2 (wa wb : WT) : WI := fun PX env P => wa PX env fun w env1 => wb PX env1 fun u env2 => match w, u with
  | .o (.d (.int i)), .o (.d (.int j)) => inRange i ∧ inRange j ∧ P ⟨upTo i (j - i).toNat, none⟩ env2
  | _, _ => False
def iEnum (wa : WT) : WI := fun PX env P => wa PX env fun w env1 => match w with
  | .o y => onSome (seqOf y.toD) fun ds => P ⟨numbered ds, none⟩ env1
  | _ => False
def sNil : WS := fun _ env k => k.nx env
def sCons (w u : WS) : WS := fun PX env k => w PX env { k with nx := fun env1 => u PX env1 k }
def sPass : WS := fun _ env k => k.nx env
def sBrk : WS := fun _ env k => k.bk env
def sCnt : WS := fun _ env k => k.ct env
def sExpr (we : WT) : WS := fun PX env k => we PX env fun _ env1 => k.nx env1
def sRet (we : WT) : WS := fun PX env k => we PX env k.rt
def sRetN : WS := fun _ env k => k.rt (.o (.d .none)) env
def sIf (wc : WT) (wx wy : WS) : WS := fun PX env k => wc PX env fun x env1 => tst x fun t => if t = true then wx PX env1 k else wy PX env1 k
def sAsg (t : Tg) (we : WT) : WS := fun PX env k => we PX env fun w env1 => bindT t w env1 k.nx
def sSetIx (we wo wi : WT) : WS := fun PX env k => we PX env fun w env1 => inW w env1 fun x env2 => wo PX env2 fun t env3 => wi PX env3 fun n env4 => setW t n x env4 k.nx
def forStep (t : Tg) (wb : WS) (PX : Exn → Env → Prop) (k : Kt) : D → Env → (Env → Prop) → Prop := fun x env2 K => bindT t (.o (.d x)) env2 fun env3 => wb PX env3 { k with nx := K, ct := K, bk := k.nx }
def sFor (t : Tg) (wi : WI) (wb : WS) : WS := fun PX env k => wi PX env fun s env1 => goFor s (forStep t wb PX k) s.xs env1 k.nx
def sWhile (wc : WT) (wb : WS) : WS := fun PX env k => ∃ V : Nat → Env → Prop, (∃ m, V m env) ∧ ∀ m e1, V m e1 → wc PX e1 fun w e2 => tst w fun t =>
  if t = true then wb PX e2 { k with nx := fun e3 => ∃ m', m' < m ∧ V m' e3, ct := fun e3 => ∃ m', m' < m ∧ V m' e3, bk := k.nx } else k.nx e2

/-! ### the rules, by names -/
section
variable {X : Cx} {B : Bs} {Wx : WX} {a b c e o : Expr} {wa wb wc we wo wi : WT} {pos : Pos} {es : List Expr} {wl : WA}
abbrev PV (X : Cx) (B : Bs) (Wx : WX) (e : Expr) (w : WT) : Prop := PE X e (tE X B Wx w)
theorem c_int {i : Int} (h : PE X a (tC (.int i))) : PV X B Wx a (wK (.int i)) := s_const h fun _ _ _ => .int _
theorem c_str {i : Str} (h : PE X a (tC (.str i))) : PV X B Wx a (wK (.str i)) := s_const h fun _ _ _ => .str _
theorem c_bool {i : Bool} (h : PE X a (tC (.bl i))) : PV X B Wx a (wK (.bool i)) := s_const h fun _ _ _ => .bl _
theorem c_none (h : PE X a (tC .non)) : PV X B Wx a (wK .none) := s_const h fun _ _ _ => .non
theorem c_var (i : Nat) {x : Str} (hN : X.N[i]? = some x) (hv : Vis X.env.scope x) (hd : (x == ("__debug__" : Str)) = false) (hcd : (x == ("__classdict__" : Str)) = false) : PV X B Wx (.Name x pos) (wVar i) := s_var (pe_var hN hv hd hcd)
theorem c_bin (op : Bop) (ha : PV X B Wx a wa) (hb : PV X B Wx b wb) : PV X B Wx (.BinOp a (opOf op) b pos) (wBin op wa wb) := s_bin op ha hb
theorem c_neg (ha : PV X B Wx a wa) : PV X B Wx (.UnaryOp .USub a pos) (wNeg wa) := s_neg ha
theorem c_not (ha : Snd X B Wx a wa) : Snd X B Wx (.UnaryOp .Not a pos) (wNot wa) := s_not ha
theorem l_one {op : BoolOp} (ha : Snd X B Wx a wa) : SndL X B Wx op [a] pos wa := sl_one ha
theorem l_and {rest : List Expr} (ha : Snd X B Wx a wa) (hb : SndL X B Wx .And (b :: rest) pos wb) : SndL X B Wx .And (a :: b :: rest) pos (wAnd wa wb) := sl_and ha hb
theorem l_or {rest : List Expr} (ha : Snd X B Wx a wa) (hb : SndL X B Wx .Or (b :: rest) pos wb) : SndL X B Wx .Or (a :: b :: rest) pos (wOr wa wb) := sl_or ha hb
theorem c_ife (hc : Snd X B Wx c wc) (ha : PV X B Wx a wa) (hb : PV X B Wx b wb) : PV X B Wx (.IfExp c a b pos) (wIfe wc wa wb) := s_ife hc ha hb
theorem c_cmp {k : Nat} (hr : Room k X.A) (op : Cop) (ha : PV X B Wx a wa) (hb : PV X B Wx b wb) (hm : behindInMarks (cmpOf op) b = false) : Snd X B Wx (.Compare a [cmpOf op] [b] pos) (wCmp op wa wb) := s_cmp (by have := hr.un; omega) op ha hb hm
theorem c_chain {k : Nat} (hr : Room k X.A) (op op2 : Cop) (ha : PV X B Wx a wa) (hb : PV X B Wx b wb) (hc : PV X B Wx c wc) (hm : lastMarks [cmpOf op, cmpOf op2] [b, c] = false) : Snd X B Wx (.Compare a [cmpOf op, cmpOf op2] [b, c] pos) (wChain op op2 wa wb wc) := s_chain (by have := hr.un; omega) op op2 ha hb hc hm
theorem c_cmpU (hu : X.A.units + 200 < cLine) (op : Cop) (ha : PV X B Wx a wa) (hb : PV X B Wx b wb) (hm : behindInMarks (cmpOf op) b = false) : Snd X B Wx (.Compare a [cmpOf op] [b] pos) (wCmp op wa wb) := s_cmp hu op ha hb hm
theorem c_snd (h : PV X B Wx e we) (he : ∀ whole, isTrue e X.env whole = (do let v ← whole; standAt e.pos; holding [v] (truthy v))) : Snd X B Wx e we := snd_plain h he
theorem a_nil : SndA X B Wx [] aNil := sa_nil
theorem a_cons {ws : WA} (he : PV X B Wx e we) (hs : SndA X B Wx es ws) (st : starEach (e :: es) X.env = (false, eval e X.env) :: starEach es X.env) : SndA X B Wx (e :: es) (aCons we ws) := sa_cons he hs st
theorem c_tup {k : Nat} (h : SndA X B Wx es wl) : PV X B Wx (.Tuple es k pos) (wTup wl) := s_tup h
theorem c_lst (h : SndA X B Wx es wl) : PV X B Wx (.List es pos) (wLst wl) := s_lst h
theorem c_frz (h : PV X B Wx e we) : PV X B Wx e (wFrz we) := s_frz h
theorem c_ix (ha : PV X B Wx a wa) (hb : PV X B Wx b wb) (hs : PlainIx b) : PV X B Wx (.Subscript a b pos) (wIx wa wb) := s_ix ha hb hs
theorem o_none : PO X none (tO X B Wx oNone) := so_none
theorem o_some (ha : PV X B Wx a wa) : PO X (some a) (tO X B Wx (oSome wa)) := so_some ha
theorem c_sl {lo hi : Option Expr} {p2 : Pos} {wl wh : WO} (ha : PV X B Wx a wa) (hl : PO X lo (tO X B Wx wl)) (hh : PO X hi (tO X B Wx wh)) : PV X B Wx (.Subscript a (.Slice lo hi none p2) pos) (wSl wa wl wh) := s_sl ha hl hh
theorem i_e {tg : Expr} (h : PV X B Wx a wa) : PI X tg a (tI X B Wx (iE wa)) := i_seq h
theorem i_rg1 {tg : Expr} {p : Pos} (hg : Gl X "range") (hm : X.mg "range" = none) (h : PV X B Wx a wa) (hs : starEach [a] X.env = [(false, eval a X.env)]) : PI X tg (.Call (.Name "range" p) [a] [] pos) (tI X B Wx (iR1 wa)) := i_r1 hg hm h hs
theorem i_rg2 {tg : Expr} {p : Pos} (hg : Gl X "range") (hm : X.mg "range" = none) (ha : PV X B Wx a wa) (hb : PV X B Wx b wb) (hs : starEach [a, b] X.env = [(false, eval a X.env), (false, eval b X.env)]) (hs2 : starEach [b] X.env = [(false, eval b X.env)]) :
    PI X tg (.Call (.Name "range" p) [a, b] [] pos) (tI X B Wx (iR2 wa wb)) := i_r2 hg hm ha hb hs hs2
theorem i_en {p tpos : Pos} {elts : List Expr} {kk : Nat} (hg : Gl X "enumerate") (hm : X.mg "enumerate" = none) (h : PV X B Wx a wa) (hs : starEach [a] X.env = [(false, eval a X.env)]) : PI X (.Tuple elts kk tpos) (.Call (.Name "enumerate" p) [a] [] pos) (tI X B Wx (iEnum wa)) := i_enum hg hm h hs
theorem q_all : SndC X B [] cAll := sc_nil
theorem q_one (h : Snd X B W0 c wc) : SndC X B [c] (cOne wc) := sc_one h
theorem z_nil : SS X B Wx [] sNil := ss_nil
theorem z_cons {st : Stmt} {rest : List Stmt} {w u : WS} (h : S1 X B Wx st w) (h2 : SS X B Wx rest u) : SS X B Wx (st :: rest) (sCons w u) := ss_cons (w := w) (u := u) h h2
theorem z_pass : S1 X B Wx (.Pass pos) sPass := st_pass
theorem z_brk : S1 X B Wx (.Break pos) sBrk := st_brk
theorem z_cnt : S1 X B Wx (.Continue pos) sCnt := st_cnt
theorem z_expr (he : PV X B Wx e we) (hs : swapsWith e none pos.line X.env = pure false) : S1 X B Wx (.Expr e pos) (sExpr we) := st_expr he hs
theorem z_ret (he : PV X B Wx e we) : S1 X B Wx (.Return (some e) pos) (sRet we) := st_ret he
theorem z_retN : S1 X B Wx (.Return none pos) sRetN := st_retN
theorem z_if {xs ys : List Stmt} {wx wy : WS} (hc : Snd X B Wx c wc) (ha : SS X B Wx xs wx) (hb : SS X B Wx ys wy) : S1 X B Wx (.If c xs ys pos) (sIf wc wx wy) := st_if hc ha hb
theorem z_asg {tg : Expr} {t : Tg} (he : PV X B Wx e we) (hg : PG X tg (gT X B t)) (hs : swapsWithSole [tg] e pos.line X.env = pure false) (hw : swappedStores [tg] e X.env = pure none)
    (h1 : (assignEach [tg] X.env).map (·.2) = [assign tg X.env]) : S1 X B Wx (.Assign [tg] e pos) (sAsg t we) := st_asg he hg hs hw h1
theorem z_for {tg it : Expr} {t : Tg} {wi : WI} {body : List Stmt} {wb : WS} (hp : PassesOwn (model X.prog X.w) X.A X.env X.xe) (hc : X.calm = true) (hi : PI X tg it (tI X B Wx wi)) (hg : PG X tg (gT X B t)) (hb : SS X B Wx body wb)
    (hs : ∀ x, foldedSetIterable it X.env x = pure x) : S1 X B Wx (.For tg it body [] pos) (sFor t wi wb) := st_for hp hc hi hg hb hs
theorem z_while {body : List Stmt} {wb : WS} (hp : PassesOwn (model X.prog X.w) X.A X.env X.xe) (hc : Snd X B Wx c wc) (hb : SS X B Wx body wb) : S1 X B Wx (.While c body [] pos) (sWhile wc wb) := st_while hp hc hb
theorem takes_blk (h : X.xe = fun _ _ => False) : L2N.Takes X W0 := fun u s' ⟨_, _, _, _, _, _, _, _, _, _, _, _, _, _, _, _, w⟩ => w.elim

/-! ### o[i] = e; append -/
theorem inW_split {S : Fz} {H : Hp} {σ : L2.St} {env : Env} {T : List (V × W)} {K : PySem.W.Frag} {v : V} {w : W} {Q : O → Env → Prop} (r : R K B S H σ env ((v, w) :: T)) (h : inW w env Q) : ∃ o env' S', Q o env' ∧ R K B S' H σ env' ((v, .o o) :: T) := r.into h
theorem R.setAt {S : Fz} {H : Hp} {σ : L2.St} {env : Env} {T : List (V × W)} {K : PySem.W.Frag} {v : V} {o : O} {a : Addr} {i : Nat} {p : List Stp} {k : Kd} {xs : List O} (r : R K B S H σ env ((v, .o o) :: T)) (h : envAt env i p = some (.obj a k xs)) :
    ∃ vs, H a = some (hoOf k vs) ∧ vs.length = xs.length ∧ k.fits vs.length ∧ (∀ j, j < xs.length → R K B S (upd H a (hoOf k (vs.set j v))) σ (envPut env i p (.obj a k (xs.set j o))) T) ∧
      ∀ k' : Kd, k'.fits (vs.length + 1) → R K B S (upd H a (hoOf k' (vs ++ [v]))) σ (envPut env i p (.obj a k' (xs ++ [o]))) T := by
  obtain ⟨vs, e, hf, ow⟩ := r.seenObj h
  have qo : OwnR K S H v o := r.tmps (v, .o o) List.mem_cons_self
  obtain ⟨oo, eo, ha⟩ := envAt_some h
  have hoc : ∀ b, oo.cnt b ≤ cntE b env := fun b => cntE_get eo
  obtain ⟨vv, _, qq⟩ := r.slots i oo eo
  obtain ⟨_, q', hle⟩ := qq.at ha
  have hone : ∀ b, cntE b env + (o.cnt b + cntT b T) ≤ 1 := r.one
  have hself : 1 ≤ (O.obj a k xs).cnt a := by show 1 ≤ (if a = a then 1 else 0) + O.cntL a xs; rw [if_pos rfl]; omega
  have ha1 : ∀ b, (O.obj a k xs).cnt b + o.cnt b + cntT b T ≤ 1 := fun b => by have := hone b; have := hoc b; have := hle b; omega
  have nS : ¬ S a := fun z => by have h1 : cntE a env + (o.cnt a + cntT a T) = 0 := r.apart a z; have := hoc a; have := hle a; omega
  have na : o.cnt a = 0 := by have := ha1 a; omega
  have nT : cntT a T = 0 := by have := ha1 a; omega
  have cl : ∀ b, (O.obj a k xs).cnt b = (if a = b then 1 else 0) + O.cntL b xs := fun b => rfl
  have nx : O.cntL a xs = 0 := by have := ha1 a; have := cl a; rw [if_pos rfl] at this; omega
  have other : ∀ (u : HO) b, a ≠ b → upd H a u b = H b := fun us b z => upd_ne (Ne.symm z)
  have go : ∀ (k' : Kd) (us : List V) (ys : List O), k'.fits us.length → (∀ H', Kp S S H H' → (∀ b, a ≠ b → H' b = H b) → OwnA K S H' us ys) → (∀ b, O.cntL b ys ≤ O.cntL b xs + o.cnt b) → R K B S (upd H a (hoOf k' us)) σ (envPut env i p (.obj a k' ys)) T := by
    intro k' us ys hf' how hc
    have kp : Kp S S H (upd H a (hoOf k' us)) := Kp.putO e (hoOf_loose _ _) nS
    have r' : R K B S H σ env ([(v, W.o o)] ++ T) := r
    have cP : ∀ b, cntT b [(v, W.o o)] = o.cnt b := fun b => by show o.cnt b + 0 = _; omega
    refine R.putAt (P := [(v, W.o o)]) r' h kp (fun w qw => ?_) (fun t ht qt => ?_) (fun b hb h0 h1 => ?_) (fun b => ?_) (fun b hb => .inl hb) (fun b hb => ?_) (fun b u hb h0 h1 => ?_) fun b hb => ?_
    · have : w = .ref a := qw.ref rfl
      rw [this]
      exact .obj upd_same hf' (how _ kp (other _))
    · refine qt.kp kp fun b hb => other _ b fun z => ?_
      subst z
      have h3 : cntW a t.2 ≤ cntT a T := cntT_mem (b := a) ht
      omega
    · refine other _ b fun z => ?_
      subst z; omega
    · rw [cP]
      show (if a = b then 1 else 0) + O.cntL b ys ≤ (O.obj a k xs).cnt b + o.cnt b
      have := hc b; have := cl b
      omega
    · rw [kp.h b hb]; exact r.sH b hb
    · rw [other _ b fun z => by subst z; omega]; exact hb
    · by_cases z : a = b
      · subst z; rw [upd_same] at hb; cases hb
      · rw [other _ b z] at hb; exact hb
  refine ⟨vs, e, ow.length, hf, fun j hj => go _ _ _ (by rw [List.length_set]; exact hf) (fun H' k ot => ?_) fun b => ?_, fun k' hf' => go _ _ _ (by rw [List.length_append]; exact hf') (fun H' k ot => ?_) fun b => ?_⟩
  · refine OwnA.set j (ow.kp k fun b hb => ot b fun z => ?_) (qo.kp k fun b hb => ot b fun z => ?_)
    · subst z; omega
    · subst z; omega
  · have hx : xs[j]? = some xs[j] := List.getElem?_eq_getElem hj
    have := O.cntL_set (p := b) (y := o) hx
    omega
  · refine (ow.kp k fun b hb => ot b fun z => ?_).append (.cons (qo.kp k fun b hb => ot b fun z => ?_) .nil)
    · subst z; omega
    · subst z; omega
  · rw [O.cntL_append]
    show O.cntL b xs + (o.cnt b + 0) ≤ _
    omega
theorem PSet.or {t u : TSet} (h : PSet X t) (h' : PSet X u) : PSet X fun o i v H Q => t o i v H Q ∨ u o i v H Q := by
  intro pins s σ H o i v ov iv w Q I ro ri rv q
  rcases q with q | q
  · exact h pins s σ H o i v ov iv w Q I ro ri rv q
  · exact h' pins s σ H o i v ov iv w Q I ro ri rv q
theorem any_ix {k : Key} {ks : List Key} {vs : List V} (hl : ks.length = vs.length) : ((ks.zip vs).any fun kv => decide (kv.1 = k)) = (keyIx ks k).isSome := by
  induction ks generalizing vs with
  | nil => rfl
  | cons k' ks ih =>
    cases vs with
    | nil => cases hl
    | cons v vs =>
      rw [keyIx_cons, List.zip_cons_cons, List.any_cons, ih (Nat.succ.inj hl)]
      by_cases e : k' = k
      · rw [if_pos e, decide_eq_true e]; rfl
      · rw [if_neg e, decide_eq_false e, Bool.false_or]
        cases keyIx ks k <;> rfl
theorem z_setIx {p2 : Pos} {kr : Nat} (hrm : Room kr X.A) (he : PV X B Wx e we) (ho : PV X B Wx o wo) (hi : PV X B Wx b wb)
    (ha : ∀ v, assign (.Subscript o b p2) X.env v = (do
      let ov ← holding [v] (eval o X.env)
      let iv ← holding [v, ov] (eval b X.env)
      standAt p2
      holding [v, ov, iv] (setItem ov iv v)
      release [v, ov, iv] []))
    (hs : swapsWithSole [.Subscript o b p2] e pos.line X.env = pure false) (hw : swappedStores [.Subscript o b p2] e X.env = pure none)
    (h1 : (assignEach [.Subscript o b p2] X.env).map (·.2) = [assign (.Subscript o b p2) X.env]) : S1 X B Wx (.Assign [.Subscript o b p2] e pos) (sSetIx we wo wb) := by
  have hu : X.A.units + 1 < cLine := hu_of hrm
  refine PS_imp (ps_asg he (pg_sub ho hi (PSet.or set_list (set_dict hu)) ha) hs hw h1) fun D σ H ⟨S, env, T, k, PX, r, hq, hE, hX⟩ => ?_
  refine ⟨S, env, T, _, PX, r, hq, fun x env1 v S1 H1 q r1 => ?_, hX⟩
  obtain ⟨x', env2, S2, q, r2⟩ := r1.into q
  refine ⟨S2, env2, (v, .o x') :: T, _, PX, r2, q, fun t env3 vt S3 H3 q r3 => ?_, hX⟩
  refine ⟨S3, env3, (vt, t) :: (v, .o x') :: T, _, PX, r3, q, fun n env4 vn S4 H4 q r4 => ?_, hX⟩
  have q9 : setW t n x' env4 k.nx := q
  clear q
  cases t with
  | o _ => exact q9.elim
  | al a i p =>
    unfold setW at q9
    cases ee : envAt env4 i p with
    | none => simp only [ee] at q9
    | some y =>
      simp only [ee] at q9
      cases y with
      | d _ => exact q9.elim
      | tup _ => exact q9.elim
      | obj b2 kd xs =>
        cases kd with
        | lst =>
          obtain ⟨hb, q8⟩ := q9
          subst hb
          have rr : R X.K B S4 H4 σ env4 ([(vn, n)] ++ ((vt, .al b2 i p) :: (v, .o x') :: T)) := r4
          obtain ⟨S5, r5, fu⟩ := rr.used
          obtain ⟨d, q7, ud⟩ := fu (vn, n) List.mem_cons_self _ q8
          cases d with
          | int m =>
            obtain ⟨j, hj, q6⟩ := onSome_some q7
            have ev : vn = .int m := ud.int
            have et : vt = .ref b2 := r4.tmps (vt, .al b2 i p) (List.mem_cons_of_mem _ List.mem_cons_self)
            have r6 : R X.K B S5 H4 σ env4 ((v, .o x') :: T) := r5.perm (fun t ht => List.mem_cons_of_mem _ (List.mem_cons_of_mem _ ht)) fun b => by
              show _ ≤ _ + (_ + _)
              omega
            obtain ⟨vs, hv, hl, _, rs, _⟩ := r6.setAt ee
            exact .inl ⟨b2, vs, m, j, et, ev, hv, by rw [hl]; exact hj, hE.nx _ _ _ _ q6 (rs j (ixN_seq hj).2.1)⟩
          | _ => exact q7.elim
        | dct ks =>
          obtain ⟨hb, q8⟩ := q9
          subst hb
          have rr : R X.K B S4 H4 σ env4 ([(vn, n)] ++ ((vt, .al b2 i p) :: (v, .o x') :: T)) := r4
          obtain ⟨S5, r5, fu⟩ := rr.used
          obtain ⟨d, q7, ud⟩ := fu (vn, n) List.mem_cons_self _ q8
          obtain ⟨key, hk, hz, q6⟩ := onSome_some q7
          have ev : vn = kV key := keyOf_ud ud hk
          have et : vt = .ref b2 := r4.tmps (vt, .al b2 i p) (List.mem_cons_of_mem _ List.mem_cons_self)
          have r6 : R X.K B S5 H4 σ env4 ((v, .o x') :: T) := r5.perm (fun t ht => List.mem_cons_of_mem _ (List.mem_cons_of_mem _ ht)) fun b => by
            show _ ≤ _ + (_ + _)
            omega
          obtain ⟨vs, hv, hl, hf, rs, ra⟩ := r6.setAt ee
          have hzl : (ks.zip vs).length < sizeLine := by
            rw [List.length_zip]
            have : (1000000 : Nat) < sizeLine := by decide
            omega
          refine .inr ⟨b2, _, et, by rw [ev]; exact DPut.k hv hzl, ?_⟩
          unfold putK
          rw [any_ix hf.1]
          cases ej : keyIx ks key with
          | some j =>
            rw [ej] at q6
            rw [if_pos (by rfl), putK_ix hf.1 hf.2 ej]
            exact hE.nx _ _ _ _ q6 (rs j (by rw [← hl, ← hf.1]; exact (keyIx_lt ej).1))
          | none =>
            rw [ej] at q6
            rw [if_neg (by decide), show ks.zip vs ++ [(key, v)] = (ks ++ [key]).zip (vs ++ [v]) by rw [List.zip_append hf.1]; rfl]
            refine hE.nx _ _ _ _ q6 (ra (.dct (ks ++ [key])) ⟨by rw [List.length_append, hf.1]; rfl, ?_⟩)
            exact List.nodup_append.mpr ⟨hf.2, by simp, fun a ha b hb => by rw [List.mem_singleton.mp hb]; exact fun z => keyIx_none ej (by rw [← z]; exact ha)⟩
end
end Vx
namespace Vx
open PySem PySem.Spec L2
section
variable {X : Cx} {B : Bs} {Wx : WX} {a b c e o : Expr} {wa wb wc we wo wi : WT} {pos : Pos} {es : List Expr} {wl : WA}
/-! ### calls of what is built in -/
theorem prim_run {p : Prim} (ok : PrimOk X p) (ha : SndA X B Wx es wl) {pins : List (Addr × Obj)} {s : Shared} {σ : L2.St} {H : Hp} {Q : VK} (I : L2.Inv X pins σ H s) (h : tE X B Wx (wPrim p wl) σ H Q) :
    ∃ Qa : List V → Hp → Prop, tA' X B Wx wl σ H Qa ∧ ∀ us s1 vs H1, L2.Inv X pins σ H1 s1 → Vals vs us → Qa vs H1 → wpAny (model X.prog X.w) X.A (call (primV p) us) (EP X pins σ Q) X.xe s1 := by
  obtain ⟨S, env, T, P, PX, r, hw, hP, hX⟩ := h
  refine ⟨fun vs H1 => ∃ S1 env1 ds, R X.K B S1 H1 σ env1 T ∧ UdA X.K S1 H1 vs ds ∧ primW p ds fun o => P (.o o) env1, ⟨S, env, T, _, PX, r, hw, fun env1 Z S1 H1 q r1 => ?_, hX⟩, fun us s1 vs H1 I1 rv ⟨S1, env1, ds, r1, ud, q⟩ => ?_⟩
  · obtain ⟨S2, ds, r2, q, ud⟩ := r1.usedAll q
    exact ⟨S2, env1, ds, r2.pops, ud, q⟩
  · exact ok pins s1 σ H1 vs us Q B S1 env1 T ds _ I1 rv r1 ud q fun o v S' H' q r2 => hP _ _ _ _ _ q r2
theorem c_primB {p : Prim} {id : String} {x : Str} {np : Pos} (ok : PrimOk X p) (hv : primV p = .builtin id) (hg : Gl X x) (hm : X.mg x = none) (hb : bootBuiltins x = some (.builtin id)) (ha : SndA X B Wx (e :: es) wl) (hn : x ≠ "__name__") (hd : (x == ("__debug__" : Str)) = false)
    (he : starEach (e :: es) X.env = (false, eval e X.env) :: starEach es X.env) (hpl : (backTo pos (starEach es X.env)).any (·.1) = false) : PV X B Wx (.Call (.Name x np) (e :: es) [] pos) (wPrim p wl) := by
  refine ⟨fun pins s σ H Q I h => ?_⟩
  obtain ⟨Qa, h2, run⟩ := prim_run ok ha I h
  rw [hv] at run
  exact wpAny_Call_Name_kw (ld_blt I hg hm hb (PyProof.Rows.callWith_builtin1 (thn (ha.run pos pins s σ H Qa I h2) fun us s1 ⟨vs, H1, I1, rv, q⟩ => run us s1 vs H1 I1 rv q) he hpl) hn hd)
theorem c_primT {p : Prim} {id : String} {x : Str} {np : Pos} (ok : PrimOk X p) (hv : primV p = .type id) (hg : Gl X x) (hm : X.mg x = none) (hb : bootBuiltins x = some (.type id)) (ha : SndA X B Wx (e :: es) wl) (hn : x ≠ "__name__") (hd : (x == ("__debug__" : Str)) = false)
    (he : starEach (e :: es) X.env = (false, eval e X.env) :: starEach es X.env) (hpl : (backTo pos (starEach es X.env)).any (·.1) = false) : PV X B Wx (.Call (.Name x np) (e :: es) [] pos) (wPrim p wl) := by
  refine ⟨fun pins s σ H Q I h => ?_⟩
  obtain ⟨Qa, h2, run⟩ := prim_run ok ha I h
  rw [hv] at run
  exact wpAny_Call_Name_kw (ld_blt I hg hm hb (PyProof.Rows.callWith_type1 (thn (ha.run pos pins s σ H Qa I h2) fun us s1 ⟨vs, H1, I1, rv, q⟩ => run us s1 vs H1 I1 rv q) he hpl) hn hd)

/-! ### comprehensions, by names -/
theorem c_comp {elt tg iter : Expr} {ifs : List Expr} {scope : Scope} {own : List (Str × Nat)} {t : Tg} {wi : WI} {wcnd : WC} (hc : X.calm = true) (hN : X.N.Nodup)
    (hi : PI X tg iter (tI X B Wx wi)) (ok : BlkOk X.N X.env.scope scope own) (hown : (own.map (·.2)).Nodup) (hsub : ∀ i ∈ t.slots, i ∈ own.map (·.2))
    (hb : ∀ (s : Shared) (H : Hp) (C : Addr) (cl : List (Str × Addr)) (fp : List Addr), PG (X.blk s H scope (compEnvC scope cl C X.env) fp) tg (gT X B t) ∧
      SndC (X.blk s H scope (compEnvC scope cl C X.env) fp) B ifs wcnd ∧ PE (X.blk s H scope (compEnvC scope cl C X.env) fp) elt (tE X B W0 we))
    (hs : ∀ x, foldedSetIterable iter X.env x = pure x) : PV X B Wx (.ListComp elt [⟨tg, iter, ifs, 0⟩] scope pos) (wComp wi (own.map (·.2)) t wcnd we) :=
  s_comp hc hN hi ok hown hsub (fun s H C cl fp => (hb s H C cl fp).1) (fun s H C cl fp => (hb s H C cl fp).2.1) (fun s H C cl fp => (hb s H C cl fp).2.2) hs
theorem z_setLc {i : Nat} {y : Str} {py spos : Pos} {elt tg iter : Expr} {ifs : List Expr} {scope : Scope} {own : List (Str × Nat)} {t : Tg} {wi : WI} {wcnd : WC} (hc : X.calm = true) (hN : X.N.Nodup) (hy : X.N[i]? = some y) (hyl : X.env.scope.names.lookup y = some .local)
    (hsw : swapsWith (.ListComp elt [⟨tg, iter, ifs, 0⟩] scope pos) (some (.Name y py)) spos.line X.env = pure true)
    (hi : PI X tg iter (tI X B Wx wi)) (ok : BlkOk X.N X.env.scope scope own) (hown : (own.map (·.2)).Nodup) (hsub : ∀ i ∈ t.slots, i ∈ own.map (·.2))
    (hb : ∀ (s : Shared) (H : Hp) (C : Addr) (cl : List (Str × Addr)) (fp : List Addr), PG (X.blk s H scope (compEnvC scope cl C X.env) fp) tg (gT X B t) ∧
      SndC (X.blk s H scope (compEnvC scope cl C X.env) fp) B ifs wcnd ∧ PE (X.blk s H scope (compEnvC scope cl C X.env) fp) elt (tE X B W0 we))
    (hs : ∀ x, foldedSetIterable iter X.env x = pure x) :
    S1 X B Wx (.Assign [.Name y py] (.ListComp elt [⟨tg, iter, ifs, 0⟩] scope pos) spos) (sAsg (.v i) (wComp wi (own.map (·.2)) t wcnd we)) :=
  st_setLc hc hN hy hyl hsw hi ok hown hsub (fun s H C cl fp => (hb s H C cl fp).1) (fun s H C cl fp => (hb s H C cl fp).2.1) (fun s H C cl fp => (hb s H C cl fp).2.2) hs
theorem g_nm {i : Nat} {x : Str} (hN : X.N.Nodup) (hi : X.N[i]? = some x) (hx : Loc X.env.scope x) (hf : X.fn x = true ∨ X.env.scope.names.lookup x = some .local) : PG X (.Name x pos) (gT X B (.v i)) := g_name (pg_name hN hi hx hf)
theorem g_tp {is : List Nat} {k n : Nat} (hc : X.calm = true) (h : PGs X es (gNames is)) (hn : (assignEach es X.env).length = n) (hst : (assignEach es X.env).findIdx? (·.1) = none) (hl : is.length = n) : PG X (.Tuple es k pos) (gT X B (.tup is)) :=
  g_tup (pg_tup hc h hn hst) (pg_unl hc h hn hst) hl
theorem gs_nil : PGs X [] (gNames []) := pgs_nil
theorem gs_cons {i : Nat} {is : List Nat} {x : Str} {p : Pos} (hN : X.N.Nodup) (hi : X.N[i]? = some x) (hx : Loc X.env.scope x) (hf : X.fn x = true ∨ X.env.scope.names.lookup x = some .local) (h : PGs X es (gNames is))
    (hs : (assignEach (.Name x p :: es) X.env).map (·.2) = assign (.Name x p) X.env :: (assignEach es X.env).map (·.2)) : PGs X (.Name x p :: es) (gNames (i :: is)) := pgs_cons (pg_name hN hi hx hf) h hs
end

/-! ### the law's end -/
theorem spV_law {K : PySem.W.Frag} {mg : Str → Option Value} {F : FSem} {H : Hp} {a : Addr} {ns : List Int} (hO : Only H) (hS : SqL K H a (ns.map V.int)) (hF : F [.d (.list (ns.map PyData.int))] (fun r _ => r = .d (.bool true)) fun _ _ => False) :
    spV K mg 1 F [.ref a] H (fun v _ => v = .bl true) fun _ _ _ => False := by
  have fz : FzL K (fun _ => False) H a (ns.map V.int) := by
    rcases hS with h | h
    · rcases h with h | h
      · rcases hO a with z | ⟨o, xs, z⟩
        · rw [h] at z; cases z
        · rw [h] at z; cases z
      · exact .inr (.inl h)
    · exact .inr (.inr h)
  have rp : Rp K (fun _ => False) H (.ref a) (.list (ns.map PyData.int)) := .lst fz (RpA.of_ints ns)
  refine ⟨fun _ => False, [.d (.list (ns.map PyData.int))], _, _, rfl, rfl, rfl, ⟨rfl, (fun i o e => nomatch e), fun t ht => ?_, fun b => ?_, (fun _ h => h.elim), (fun _ h => h.elim), fun _ _ h _ => h, fun _ h => h, fun b hb => ?_, (fun _ h => h.elim), fun _ h => h⟩, .cons (.d rp) .nil, hF, fun r os' v S' H' q hl z => ?_, fun _ _ _ _ _ _ q => q.elim⟩
  · rcases List.mem_cons.mp ht with e | ht
    · subst e; exact OwnR.d rp
    · exact nomatch ht
  · show 0 + (0 + 0) ≤ 1
    omega
  · have hb' : 0 < 0 + (0 + 0) := hb
    omega
  · have q : r = .d (.bool true) := q
    subst q
    exact R.boolTop z
open PyProof.Rows in
/-- the law's promise at the heap behind the top -/
theorem law_V {P : Program} {w : World} {K : PySem.W.Frag} {mg mb : Str → Option Value} {k : Nat} {fa a : Addr} {fd : FuncData} {x : Str} {F : FSem} {s₁ : Shared} {vs : List Value} {ns : List Int}
    (inK : K.In s₁.heap) (ng : s₁.heap.Ns mainGlobals mg) (nb : s₁.heap.Ns builtinsNs mb) (bb : ∀ x : Str, x ≠ "__name__" → mb x = bootBuiltins x) (far : s₁.heap.NoLimit) (gs : s₁.gens = #[])
    (ga : s₁.heap.get? a = some { cls := .type "list", data := .seq vs.toArray }) (hi : IntsAre vs ns) (hl : ns.length ≤ sizeLine) (hr : Room k callerA)
    (Fn : ∀ base : Heap, K.In base → base.Ns mainGlobals mg → FnV P w K mg base k fa fd [x] (spV K mg 1 F)) (bnd : ∀ (s : Shared) (u : Value), BindsTo s fd ⟨[u], []⟩ [(x, u)])
    (hF : F [.d (.list (ns.map PyData.int))] (fun r _ => r = .d (.bool true)) fun _ _ => False) :
    codeAny (model P w) callerA (.call (.ref fa) ⟨[.ref a], []⟩) (fun r s' => r = .ok (.ret (.bool true)) ∧ OldK s₁.heap s'.heap ∧ s'.os = s₁.os ∧ AllBare s'.gens) s₁ := by
  have iv : Vals (ns.map V.int) vs := vals_ints hi
  have nl := hi.length
  suffices main : ∀ H : Hp, Only H → SqL K H a (ns.map V.int) → HOk P w H s₁.heap → (∀ b, H b ≠ none → b = a) → (H a ≠ none → K.lookup a = none) →
      codeAny (model P w) callerA (.call (.ref fa) ⟨[.ref a], []⟩) (fun r s' => r = .ok (.ret (.bool true)) ∧ OldK s₁.heap s'.heap ∧ s'.os = s₁.os ∧ AllBare s'.gens) s₁ by
    cases ek : K.lookup a with
    | none =>
      have z1 : ∀ b, b ≠ a → (if b = a then some (HO.frz { cls := .type "list", data := .seq vs.toArray } (.lst (ns.map V.int))) else none) = none := fun b h => if_neg h
      refine main (fun b => if b = a then some (.frz { cls := .type "list", data := .seq vs.toArray } (.lst (ns.map V.int))) else none) (fun b => ?_) (.inl (.inr ⟨_, if_pos rfl⟩)) (fun b u z => ?_) (fun b z => ?_) fun _ => ek
      · by_cases h : b = a
        · exact .inr ⟨_, _, if_pos h⟩
        · exact .inl (z1 b h)
      · by_cases h : b = a
        · subst h
          have z' := (if_pos rfl).symm.trans z
          cases z'
          exact ⟨ga, by rw [List.length_map]; exact hl, vs, _, iv, ga⟩
        · cases (z1 b h).symm.trans z
      · by_cases h : b = a
        · exact h
        · exact absurd (z1 b h) z
    | some o =>
      have eo := inK a o ek
      rw [ga] at eo
      cases eo
      exact main (fun _ => none) (fun _ => .inl rfl) (.inr ⟨_, vs.toArray, _, ek, rfl, rfl, rfl, by rw [List.size_toArray, nl]; exact hl, by simpa using iv⟩) (fun b u z => nomatch (show (none : Option HO) = some u from z)) (fun b z => (z rfl).elim) fun z => (z rfl).elim
  intro H hO hS hok hA hK
  have there : ∀ {b : Addr} {o : Obj} {es : Array DictEntry} {ep : Nat}, s₁.heap.get? b = some o → o.data = .dict es ep → (hidT s₁.heap H).get? b = some o := fun {b o es ep} e d => by
    refine hidT_get e ?_
    cases q : H b with
    | none => rfl
    | some u =>
      obtain rfl : b = a := hA b (by rw [q]; exact fun z => nomatch z)
      rw [ga] at e
      cases e
      exact nomatch (show Data.seq vs.toArray _ = Data.dict es ep from d)
  have ns2 : ∀ {b : Addr} {m : Str → Option Value}, s₁.heap.Ns b m → (hidT s₁.heap H).Ns b m := fun {b m} ⟨o, es, ep, e, d, r⟩ => ⟨o, es, ep, there e d, d, r⟩
  have inB : K.In (hidT s₁.heap H) := fun b o e => hidT_get (inK b o e) (by
    cases q : H b with
    | none => rfl
    | some u =>
      obtain rfl : b = a := hA b (by rw [q]; exact fun z => nomatch z)
      rw [hK (by rw [q]; exact fun z => nomatch z)] at e
      cases e)
  obtain ⟨mc, l1, l2⟩ := far
  have md : Mod K mg (hidT s₁.heap H) := ⟨inB, ns2 ng, ⟨mb, ns2 nb, bb⟩, mc, ns2 l1, l2⟩
  have e0 : Env0 P w K mg (hidT s₁.heap H) callerA [] s₁ H := ⟨rfl, md, fun b o e => of_hidT e, Nat.le_of_eq (hidT_size _ _), trivial, (fun b hb => nomatch (show b ∈ ([] : List Addr) from hb)), hok, .of_eq gs⟩
  refine codeAny_mono ((Fn _ inB (ns2 ng)).run callerA [] s₁ H ⟨[.ref a], []⟩ [.ref a] [.ref a] _ _ hr rfl e0 (bnd s₁ (.ref a)) (.cons rfl .nil) (spV_law hO hS hF)) fun r s2 h => ?_
  cases r with
  | error e =>
    obtain ⟨_, _, _, _, _, _, _, _, _, _, _, _, z⟩ := h
    exact z.elim
  | ok fl =>
    cases fl with
    | next => exact h.elim
    | brk => exact h.elim
    | cont => exact h.elim
    | ret u =>
      obtain ⟨v, H2, os, bare, un, hok2, rv, q⟩ := h
      obtain rfl : v = .bl true := q
      obtain rfl : u = Value.bool true := rv
      refine ⟨rfl, OldK.of_keep fun b o e => ?_, os, bare⟩
      cases q : H b with
      | none => exact un.keep b o e q (fun z => nomatch (show b ∈ ([] : List Addr) from z)) (fun z => nomatch z)
      | some u =>
        rcases hO b with z | ⟨ob, xs, z⟩
        · rw [q] at z; cases z
        · obtain ⟨e1, _⟩ := hok b _ z
          obtain ⟨e2, _⟩ := hok2 b _ (un.frzs b ob _ z)
          rw [e] at e1
          cases e1
          exact e2
open PyProof.Rows in
theorem walk_V {l : PySem.W.OpenLaw} {n k : Nat} {q : Program} {loose : List Str} {XP : (Str → Option Value) → Heap → Prop} {YP : World → Heap → Prop} {d : DefRec} {K : Params → PySem.W.Frag} {F : FSem} {x : Str}
    (hn : l.most = some n) (hn2 : n ≤ sizeLine) (hdf : d.params.defaults = []) (hr : Room k callerA) (hY : ∀ (w : World) (h : Heap), YP w h → (K w.params).In h)
    (Fn : ∀ (w : World) (mg : Str → Option Value) (fa : Addr) (h : Heap), (K w.params).In h → h.Ns mainGlobals mg → mg d.name = some (.ref fa) →
      ∃ fd : FuncData, (∀ (s : Shared) (u : Value), BindsTo s fd ⟨[u], []⟩ [(x, u)]) ∧ ∀ base : Heap, (K w.params).In base → base.Ns mainGlobals mg → FnV l.prog w (K w.params) mg base k fa fd [x] (spV (K w.params) mg 1 F))
    (hF : ∀ ns : List Int, ns.length ≤ n → F [.d (.list (ns.map PyData.int))] (fun r _ => r = .d (.bool true)) fun _ _ => False) :
    PySem.W.WalkO q loose XP YP l.row.toRowW d [] (fun f vs => PySem.call f vs) := by
  refine Att.attach_call hn hdf fun w s₀ s₁ mg mb fa o pm cd doc a vs ns G Y ho hd hcd hmg hobj hints hlen hg => ?_
  obtain ⟨fd, bnd, go⟩ := Fn w mg fa _ (hY w _ Y) G.T.g hmg
  exact law_V (hY w _ Y) G.T.g G.T.b G.T.builtins G.T.nolimit hg hobj hints (Nat.le_trans hlen hn2) hr go bnd (hF ns hlen)
end Vx
namespace Vx
open PySem PySem.Spec L2
open PyProof.Rows in
theorem tkB {P : Program} {w : World} {K : PySem.W.Frag} {mg : Str → Option Value} {base : Heap} {N : List Str} {qual : Str} {scope : Scope} {f : Addr} {cdv : Value} {A : Around} {outer : List PySem.Env} {s : Shared} {H : Hp} {E : XK} :
    L2N.Takes (cxOf (L2N.CX P w) P w K mg base N qual scope f cdv A outer s H E) (fun cls d _ H1 => E cls d H1) := L2N.takes_of rfl rfl rfl rfl
open PyProof.Rows in
theorem poB {P : Program} {w : World} {K : PySem.W.Frag} {mg : Str → Option Value} {base : Heap} {N : List Str} {qual : Str} {scope : Scope} {f : Addr} {cdv : Value} {A : Around} {outer : List PySem.Env} {s : Shared} {H : Hp} {E : XK} {P2 : Program} {w2 : World} {A2 : Around} {en : PySem.Env} {xe : Value → Shared → Prop}
    (h1 : P2 = P) (h2 : w2 = w) (h3 : A2 = (cxOf (L2N.CX P w) P w K mg base N qual scope f cdv A outer s H E).A) (h4 : en = (cxOf (L2N.CX P w) P w K mg base N qual scope f cdv A outer s H E).env) (h5 : xe = (cxOf (L2N.CX P w) P w K mg base N qual scope f cdv A outer s H E).xe) :
    PassesOwn (model P2 w2) A2 en xe := by
  subst h1; subst h2; subst h3; subst h4; subst h5
  exact passes_of (X := cxOf (L2N.CX P2 w2) P2 w2 K mg base N qual scope f cdv A outer s H E) (K := fun e s2 => L2N.CX P2 w2 outer H s E e s2) (E₁ := fun e s2 => L2N.CX P2 w2 outer H s E e s2) rfl
/-- what a body has: its names' facts -/
structure Gd (mg : Str → Option Value) (xs : List Str) : Prop where
  h : ∀ x ∈ xs, mg x = none
end Vx
namespace Vx
open PySem PySem.Spec L2

/-! ### steps of a meaning -/
theorem onSome_mk {α : Type} {o : Option α} {x : α} {Q : α → Prop} (h : o = some x) (q : Q x) : onSome o Q := by rw [h]; exact q
theorem ifB {b : Bool} {A C : Prop} (h1 : b = true → A) (h2 : b = false → C) : if b = true then A else C := by
  cases b
  · rw [if_neg (by decide)]; exact h2 rfl
  · rw [if_pos rfl]; exact h1 rfl
theorem stp {i n : Nat} {Q : Prop} (h : Nat.blt i n = true) (q : Q) : i < n ∧ Q := ⟨by simpa [Nat.blt_eq] using h, q⟩
theorem dm : ∀ cells : List Int, datas (cells.map fun i => O.d (.int i)) = some (cells.map PyData.int)
  | [] => rfl
  | i :: r => by
    show (datas (r.map fun i => O.d (.int i))).map (PyData.int i :: ·) = _
    rw [dm r]; rfl
theorem itemW_al {a : Addr} {i j : Nat} {p : List Stp} {n : Int} {env : Vx.Env} {Q : W → Prop} {xs : List O} {y : D} (h : envAt env i p = some (.lst a xs)) (h1 : ixN xs.length n = some j) (h2 : xs[j]? = some (.d y)) (q : Q (.o (.d y))) : itemW (.al a i p) (.o (.d (.int n))) env Q := by
  simp only [itemW, h, useW, O.toD, h1, onSome, h2]
  exact ⟨trivial, q⟩
theorem setW_al {a : Addr} {i j : Nat} {p : List Stp} {n : Int} {env : Vx.Env} {Q : Vx.Env → Prop} {xs : List O} {o : O} (h : envAt env i p = some (.lst a xs)) (h1 : ixN xs.length n = some j) (q : Q (envPut env i p (.lst a (xs.set j o)))) : setW (.al a i p) (.o (.d (.int n))) o env Q := by
  simp only [setW, h, useW, O.toD, h1, onSome]
  exact ⟨trivial, q⟩
theorem useW_al {a : Addr} {i : Nat} {p : List Stp} {env : Vx.Env} {Q : D → Prop} {xs : List O} {ds : List D} (h : envAt env i p = some (.lst a xs)) (h1 : datas xs = some ds) (q : Q (.list ds)) : useW (.al a i p) env Q := by
  simp only [useW, h, h1, onSome]
  exact ⟨trivial, q⟩
theorem srcW_al {a : Addr} {i : Nat} {p : List Stp} {env : Vx.Env} {Q : Src → Prop} {xs : List O} {ds : List D} (h : envAt env i p = some (.lst a xs)) (h1 : datas xs = some ds) (q : Q ⟨ds, some (a, i, p)⟩) : srcW (.al a i p) env Q := by
  simp only [srcW, h, h1, onSome]
  exact ⟨trivial, q⟩
theorem ixN_nat {j m : Nat} (h : j < m) : ixN m (j : Int) = some j := by
  unfold ixN
  rw [if_pos (by omega), if_pos (by omega)]
  rfl
theorem ixN_int {i : Int} {m : Nat} (h0 : 0 ≤ i) (h : i < m) : ixN m i = some i.toNat := by
  unfold ixN
  rw [if_pos h0, if_pos h]
theorem ixN_fmod {k : Int} {m : Nat} (hm : 0 < m) : ∃ j, j < m ∧ ixN m (k.fmod (m : Int)) = some j := by
  have h0 : 0 ≤ k.fmod m := Int.fmod_nonneg_of_pos _ (by omega)
  have h1 : k.fmod m < m := Int.fmod_lt_of_pos _ (by omega)
  exact ⟨(k.fmod m).toNat, by omega, ixN_int h0 h1⟩
theorem cpowB {i j : Int} {Q : Prop} (h : decide (0 ≤ j) && decide (j ≤ 1000000) && decide (i.natAbs < 2 ^ 64) = true) (q : Q) : CPow i j ∧ Q := by
  simp only [Bool.and_eq_true, decide_eq_true_eq] at h
  exact ⟨⟨h.1.1, h.1.2, h.2⟩, q⟩
theorem neB {j : Int} {Q : Prop} (h : decide (j ≠ 0) = true) (q : Q) : j ≠ 0 ∧ Q := ⟨of_decide_eq_true h, q⟩
theorem divB {j : Int} {Q : Prop} (h : decide (j ≠ 0) && decide (j.natAbs < 1073741824) = true) (q : Q) : DivOk j ∧ Q := by
  simp only [Bool.and_eq_true, decide_eq_true_eq] at h
  exact ⟨.inl h, q⟩
theorem mulS {i j : Int} {Q : Prop} (h : -(2 ^ 64) < i ∧ i < 2 ^ 64) (q : Q) : Vx.MulOk i j ∧ Q := ⟨.inl (.inl h), q⟩
theorem mulT {i j : Int} {Q : Prop} (h : -(2 ^ 64) < j ∧ j < 2 ^ 64) (q : Q) : Vx.MulOk i j ∧ Q := ⟨.inl (.inr h), q⟩

/-! ### loops by invariants -/
theorem goFor_run {s : Src} {step : D → Vx.Env → (Vx.Env → Prop) → Prop} (I : Nat → Vx.Env → Prop) (hs : ∀ i env, I i env → s.still env) (hstep : ∀ i x env K, s.xs[i]? = some x → I i env → (∀ env', I (i + 1) env' → K env') → step x env K) {env : Vx.Env} {Q : Vx.Env → Prop}
    (h0 : I 0 env) (hq : ∀ env', I s.xs.length env' → Q env') : goFor s step s.xs env Q := by
  have go : ∀ (n i : Nat) (env : Vx.Env), i + n = s.xs.length → I i env → goFor s step (s.xs.drop i) env Q := by
    intro n
    induction n with
    | zero =>
      intro i env e h
      rw [List.drop_eq_nil_of_le (by omega)]
      exact hq env (by rw [← e]; exact h)
    | succ n ih =>
      intro i env e h
      have hi : i < s.xs.length := by omega
      rw [List.drop_eq_getElem_cons hi]
      exact hstep i _ env _ (List.getElem?_eq_getElem hi) h fun env' h' => ⟨hs _ _ h', ih (i + 1) env' (by omega) h'⟩
  have := go s.xs.length 0 env (by omega) h0
  rwa [List.drop_zero] at this
theorem goComp_run {s : Src} {step : D → Vx.Env → List O → (Vx.Env → List O → Prop) → Prop} (I : Nat → Vx.Env → List O → Prop) (hs : ∀ i env acc, I i env acc → s.still env)
    (hstep : ∀ i x env acc K, s.xs[i]? = some x → I i env acc → (∀ env' acc', I (i + 1) env' acc' → K env' acc') → step x env acc K) {env : Vx.Env} {acc : List O} {Q : Vx.Env → List O → Prop}
    (h0 : I 0 env acc) (hq : ∀ env' acc', I s.xs.length env' acc' → Q env' acc') : goComp s step s.xs env acc Q := by
  have go : ∀ (n i : Nat) (env : Vx.Env) (acc : List O), i + n = s.xs.length → I i env acc → goComp s step (s.xs.drop i) env acc Q := by
    intro n
    induction n with
    | zero =>
      intro i env acc e h
      rw [List.drop_eq_nil_of_le (by omega)]
      exact hq env acc (by rw [← e]; exact h)
    | succ n ih =>
      intro i env acc e h
      have hi : i < s.xs.length := by omega
      rw [List.drop_eq_getElem_cons hi]
      exact hstep i _ env acc _ (List.getElem?_eq_getElem hi) h fun env' acc' h' => ⟨hs _ _ _ h', ih (i + 1) env' acc' (by omega) h'⟩
  have := go s.xs.length 0 env acc (by omega) h0
  rwa [List.drop_zero] at this
/-- a comprehension whose turns change nothing: its items by f -/
theorem goComp_map {s : Src} {own : List Nat} {t : Tg} {wcnd : WC} {we : WT} (f : D → O) {env0 : Vx.Env} (hl : s.xs.length ≤ 1000000) (hs : s.still env0)
    (hstep : ∀ x ∈ s.xs, ∀ acc (K : Vx.Env → List O → Prop), acc.length < sizeLine → K env0 (acc ++ [f x]) → stepC t own wcnd we x env0 acc K) {Q : Vx.Env → List O → Prop}
    (hq : Q env0 (s.xs.map f)) : goComp s (stepC t own wcnd we) s.xs env0 [] Q := by
  refine goComp_run (fun i env acc => env = env0 ∧ acc = (s.xs.take i).map f) (fun i env acc h => by rw [h.1]; exact hs) (fun i x env acc K hx h hk => ?_) ⟨rfl, rfl⟩ fun env' acc' h => ?_
  · obtain ⟨rfl, rfl⟩ := h
    refine hstep x (List.mem_of_getElem? hx) _ K ?_ (hk _ _ ⟨rfl, ?_⟩)
    · rw [List.length_map, List.length_take]
      have : (1000000 : Nat) < sizeLine := by decide
      omega
    · rw [List.take_add_one, hx, List.map_append]
      rfl
  · obtain ⟨rfl, rfl⟩ := h
    rw [List.take_length]
    exact hq

/-! ### what may be shown -/
theorem log2_lt {n k : Nat} (h : n < 2 ^ k) (hk : 0 < k) : n.log2 < k := by
  by_cases h0 : n = 0
  · subst h0; simpa using hk
  · exact (Nat.log2_lt h0).2 h
/-- a row of ints, not too great: it may be shown -/
theorem ints_all {xs : List Int} (h : ∀ x ∈ xs, x.natAbs < 10 ^ 30) : PyData.leavesShortAll 40 (xs.map .int) = true ∧ PyData.weightAll (xs.map .int) ≤ 101 * xs.length ∧ PyData.depthAll (xs.map .int) = 0 ∧ PyData.showableAll (xs.map .int) = true ∧ PyData.hasDictAll (xs.map .int) = false := by
  induction xs with
  | nil => exact ⟨rfl, Nat.zero_le _, rfl, rfl, rfl⟩
  | cons x xs ih =>
    obtain ⟨h1, h2, h3, h4, h5⟩ := ih fun y hy => h y (List.mem_cons_of_mem _ hy)
    have hx := h x List.mem_cons_self
    have e1 : (PyData.shown (.int x)).length ≤ 31 := by
      have e := int_text_length_le10 (by decide) hx
      show (Str.ofString (toString x)).length ≤ 31
      rw [ofString_length]; exact e
    have e2 : x.natAbs.log2 < 100 := log2_lt (Nat.lt_trans hx (by decide)) (by decide)
    refine ⟨?_, ?_, ?_, ?_, ?_⟩
    · simp only [List.map_cons, PyData.leavesShortAll, PyData.leavesShort, h1, Bool.and_true, decide_eq_true_eq]; omega
    · simp only [List.map_cons, PyData.weightAll, PyData.weight, List.length_cons]
      split <;> omega
    · simp only [List.map_cons, PyData.depthAll, PyData.depth, h3]; rfl
    · simp only [List.map_cons, PyData.showableAll, PyData.showable, h4, Bool.and_true, decide_eq_true_eq]; omega
    · simp only [List.map_cons, PyData.hasDictAll, PyData.hasDict, h5]; rfl
structure ShowOk (x : D) : Prop where
  a : PyData.showable x = true
  b : x.hasDict = false
  c : x.shown.length ≤ sizeLine
  d : x.depth ≤ 64
theorem show_ints {xs : List Int} (hl : xs.length ≤ 1000) (h : ∀ x ∈ xs, x.natAbs < 10 ^ 30) : ShowOk (.tuple (xs.map .int)) ∧ ShowOk (.list (xs.map .int)) := by
  obtain ⟨h1, h2, h3, h4, h5⟩ := ints_all h
  have big : (42 : Nat) * (101 * 1000) + 40 ≤ sizeLine := by decide
  have m : (40 + 2) * PyData.weightAll (xs.map .int) ≤ 42 * (101 * 1000) := Nat.mul_le_mul (Nat.le_refl _) (by omega)
  refine ⟨⟨?_, ?_, Nat.le_trans (PyData.shown_le 40 (by decide) _ ?_) ?_, ?_⟩, ⟨?_, ?_, Nat.le_trans (PyData.shown_le 40 (by decide) _ ?_) ?_, ?_⟩⟩
  · simp only [PyData.showable, h4]
  · simp only [PyData.hasDict, h5]
  · simp only [PyData.leavesShort, h1]
  · simp only [PyData.weight]; omega
  · simp only [PyData.depth, h3]; decide
  · simp only [PyData.showable, h4]
  · simp only [PyData.hasDict, h5]
  · simp only [PyData.leavesShort, h1]
  · simp only [PyData.weight]; omega
  · simp only [PyData.depth, h3]; decide
theorem intsOf_map : ∀ ns : List Int, intsOf (ns.map PyData.int) = some ns
  | [] => rfl
  | i :: r => by
    show (intsOf (r.map PyData.int)).map (i :: ·) = _
    rw [intsOf_map r]; rfl
end Vx
namespace Vx
open PySem PySem.Spec L2

/-! ### isinstance -/
def tyName : Ty → String
  | .int => "int"
  | .bool => "bool"
  | .str => "str"
  | .tuple => "tuple"
  | .list => "list"
def tyS : Ty → Str
  | .int => "int"
  | .bool => "bool"
  | .str => "str"
  | .tuple => "tuple"
  | .list => "list"
def kindOfD : D → String
  | .none => "NoneType"
  | .bool _ => "bool"
  | .int _ => "int"
  | .str _ => "str"
  | .list _ => "list"
  | .tuple _ => "tuple"
  | .dict _ => "dict"
def noDict : D → Bool
  | .dict _ => false
  | _ => true
theorem kit_at : ∀ (x : D) (t : Ty), kitB (kindOfD x) (tyName t) = some (decide (t ∈ tyOf x))
  | .none, t => (by cases t <;> decide : kitB "NoneType" (tyName t) = some (decide (t ∈ ([] : List Ty))))
  | .bool _, t => (by cases t <;> decide : kitB "bool" (tyName t) = some (decide (t ∈ [Ty.bool, .int])))
  | .int _, t => (by cases t <;> decide : kitB "int" (tyName t) = some (decide (t ∈ [Ty.int])))
  | .str _, t => (by cases t <;> decide : kitB "str" (tyName t) = some (decide (t ∈ [Ty.str])))
  | .list _, t => (by cases t <;> decide : kitB "list" (tyName t) = some (decide (t ∈ [Ty.list])))
  | .tuple _, t => (by cases t <;> decide : kitB "tuple" (tyName t) = some (decide (t ∈ [Ty.tuple])))
  | .dict _, t => (by cases t <;> decide : kitB "dict" (tyName t) = some (decide (t ∈ ([] : List Ty))))
/-- a thing's class, as isinstance asks it -/
inductive KdX (K : PySem.W.Frag) (H : Hp) : V → Value → Prop
  | ty {v : V} {t : Value} (h : TyX K H v t) : KdX K H v t
  | ex {a C dx : Addr} {fs : List (Str × V)} {ns : List Str} (h : H a = some (exHO a C dx)) (h2 : H dx = some (.xd fs)) (k : ExK K C ns) : KdX K H (.ref a) (.ref C)
theorem kit_ofX {X : Cx} {pins : List (Addr × Obj)} {σ : L2.St} {H : Hp} {s : Shared} {x : V} {u t : Value} (I : L2.Inv X pins σ H s) (rx : RelV x u) (ty : KdX X.K H x t) : ∃ P : Heap → Prop, PySem.W.KitX X.K u t P ∧ P s.heap ∧ u ≠ .builtin "__main__.__loader__#opaque" := by
  cases ty with
  | ty h => exact kit_of I rx h
  | @ex a C dx fs ns h h2 k =>
    obtain rfl : u = Value.ref a := rx
    have z : ObjOk X.prog X.w H s.heap a (.ext fun h => ∃ (oe : Obj) (vs : Array Value), h.get? a = some oe ∧ L2N.Zn (.ref C) (some dx) oe ∧ oe.data = .fields vs) := I.hok a _ h
    obtain ⟨oe, vs, ha, hz, hd⟩ := z.1
    have hx : ObjOk X.prog X.w H s.heap dx (.xd fs) := I.hok dx _ h2
    obtain ⟨mA, hns, hr⟩ := hx
    obtain ⟨od, ho, hl⟩ := lookIn_ns hns
    have J : PySem.W.InstAt s.heap a oe C (some od) := ⟨ha, hz.1, by unfold PySem.W.notCls; rw [hd] <;> rfl, by rw [hz.2.1]; exact ho⟩
    have c := k.c
    obtain ⟨cd, hc, _⟩ := PySem.W.any_some c.hd
    exact ⟨_, PySem.W.kitx_exc (by rw [hc]; rfl) c.hg c.hk c.hs c.ha c.hn c.ht c.hm, J, fun z => nomatch z⟩
/-- isinstance(x, c), one class -/
def rIsiX (K : PySem.W.Frag) : List V → Hp → VK → Prop := fun xs H Q => ∃ (x c : V) (t u : Value) (b : Bool), xs = [x, c] ∧ ClsV c u ∧ KdX K H x t ∧ PySem.W.kitOne K t u = some b ∧ Q (.bl b) H
def rIsiTX (K : PySem.W.Frag) : List V → Hp → VK → Prop := fun xs H Q => ∃ (x : V) (tp : Addr) (cs : List V) (t : Value) (us : List Value) (b : Bool), xs = [x, .ref tp] ∧ H tp = some (.tup cs) ∧ Paired ClsV cs us ∧ KdX K H x t ∧ PySem.W.kitAny K t us = some b ∧ Q (.bl b) H
theorem call_isiX {X : Cx} : CallR X (.builtin "isinstance") (rIsiX X.K) := by
  intro pins s σ H xs us Q I r h
  obtain ⟨x, c, t, u, b, rfl, k, ty, e, q⟩ := h
  obtain ⟨u1, u2, rfl, r1, r2⟩ := vals2 r
  have e2 := k.eq r2
  subst e2
  obtain ⟨P, Z, p, hx⟩ := kit_ofX I r1 ty
  exact PySem.W.kia_one Z I.kIn p e hx fun tk => ⟨.bl b, H, I.tok tk, rfl, q⟩
theorem call_isiTX {X : Cx} : CallR X (.builtin "isinstance") (rIsiTX X.K) := by
  intro pins s σ H xs us Q I r h
  obtain ⟨x, tp, cs, t, ws, b, rfl, hT, k, ty, e, q⟩ := h
  obtain ⟨u1, u2, rfl, r1, r2⟩ := vals2 r
  cases (show u2 = Value.ref tp from r2)
  obtain ⟨P, Z, p, hx⟩ := kit_ofX I r1 ty
  obtain ⟨_, its, rv, o, h1, h2, n, h3⟩ := (show ObjOk X.prog X.w H s.heap tp (.tup cs) from I.hok tp _ hT)
  have e3 := ClsV.all k rv
  subst e3
  obtain ⟨oc, od, dt, sl⟩ := o
  simp only at h2 h3
  subst h2 h3
  exact PySem.W.kia_tup Z I.kIn p h1 e hx fun tk => ⟨.bl b, H, I.tok tk, rfl, q⟩
theorem exK_sub {K : PySem.W.Frag} {C : Addr} {ns : List Str} (k : ExK K C ns) (T : String) : PySem.W.subIn K (.ref C) (.type T) = some (PySem.HandSPX.veTail.contains (.type T)) := by
  obtain ⟨nm, q, N, bs, bm, sn, sub, ab, col, dd, k0, k1, k2, k3, k5, hC, hbm⟩ := k.o.cls
  show PySem.W.mroIn K C (.type T) = _
  unfold PySem.W.mroIn PySem.W.clsIn
  rw [hC]
  show (if (Value.ref C :: bm).isEmpty = true then none else some ((Value.ref C :: bm).contains (.type T))) = _
  rw [if_neg (fun h : (Value.ref C :: bm).isEmpty = true => by cases h)]
  rw [List.contains_cons, show ((Value.type T) == Value.ref C) = false from rfl, Bool.false_or, PySem.HandSPX.refsVE_contains T bm hbm]
theorem exK_ty {K : PySem.W.Frag} {C : Addr} {ns : List Str} (k : ExK K C ns) {T : String} (hm : PySem.W.kitMeta T = true) : PySem.W.kitOne K (.ref C) (.type T) = some (PySem.HandSPX.veTail.contains (.type T)) := by
  show (if (Value.ref C == Value.type T) = true then some true else if PySem.W.kitMeta T = true then PySem.W.subIn K (.ref C) (.type T) else none) = _
  rw [if_neg (by rw [show (Value.ref C == Value.type T) = false from rfl]; decide), if_pos hm, exK_sub k]
theorem ud_tyD {K : PySem.W.Frag} {S : Fz} {H : Hp} {v : V} : ∀ {x : D}, noDict x = true → Ud K S H v x → TyX K H v (.type (kindOfD x))
  | .dict _, h, _ => nomatch h
  | .none, _, u => by obtain rfl := u.non; exact .base .non
  | .bool b, _, u => by obtain rfl := u.bool; exact .base (.bl b)
  | .int i, _, u => by obtain rfl := u.int; exact .base (.int i)
  | .str i, _, u => by obtain rfl := u.str; exact .base (.str i)
  | .list ds, _, u => by
    obtain ⟨a, vs, rfl, hq, _⟩ := u.list
    rcases hq with (h | ⟨o, h⟩) | ⟨o, its, n, h, hc, _⟩
    · exact .base (.lst h)
    · exact .base (.frz h)
    · exact .kList h hc
  | .tuple ds, _, u => by
    obtain ⟨a, vs, rfl, hq, _⟩ := u.tup
    rcases hq with (h | ⟨o, h⟩) | ⟨o, its, n, h, hc, _⟩
    · exact .base (.tup h)
    · exact .fTuple h
    · exact .kTuple h hc
theorem ud_kd {K : PySem.W.Frag} {S : Fz} {H : Hp} {v : V} {x : D} (u : Ud K S H v x) : ∃ t, KdX K H v t ∧ ∀ ty : Ty, PySem.W.kitOne K t (.type (tyName ty)) = some (decide (ty ∈ tyOf x)) := by
  cases hx : noDict x with
  | true => exact ⟨_, .ty (ud_tyD hx u), fun ty => kit_ty (kit_at x ty)⟩
  | false =>
    cases x with
    | dict ds =>
      rcases u with u | ⟨_, _, _, _, h, _⟩
      · cases u with
        | dct _ e _ _ => exact ⟨_, .ty (.base (.dK e)), fun ty => kit_ty (kit_at (.dict []) ty)⟩
        | ex _ _ e e2 _ _ k _ => exact ⟨_, .ex e e2 k, fun ty => by rw [exK_ty k (by cases ty <;> decide +kernel)]; cases ty <;> rfl⟩
      · cases h
    | _ => cases hx
section
variable {X : Cx} {B : Bs} {Wx : WX} {a b c e o : Expr} {wa wb wc we wo wi : WT} {pos : Pos} {es : List Expr} {wl : WA}
theorem c_isi (t : Ty) {tn : Str} {p p2 : Pos} (hg : Gl X "isinstance") (hm : X.mg "isinstance" = none) (hv : bootBuiltins "isinstance" = some (.builtin "isinstance")) (hg2 : Gl X tn) (hm2 : X.mg tn = none) (hv2 : bootBuiltins tn = some (.type (tyName t)))
    (hn2 : tn ≠ "__name__") (hd2 : (tn == ("__debug__" : Str)) = false) (he : PV X B Wx e we)
    (hs1 : starEach [e, .Name tn p2] X.env = (false, eval e X.env) :: starEach [.Name tn p2] X.env) (hs2 : starEach [.Name tn p2] X.env = (false, eval (.Name tn p2) X.env) :: starEach [] X.env) (hpl : (backTo pos (starEach [.Name tn p2] X.env)).any (·.1) = false) :
    Snd X B Wx (.Call (.Name "isinstance" p) [e, .Name tn p2] [] pos) (wPrim (.isi t) (aCons we aNil)) := by
  have h1 : PE X (.Call (.Name "isinstance" p) [e, .Name tn p2] [] pos) (tCB (rIsiX X.K) (tCons (tE X B Wx we) (tCons (tC (.ty (tyName t))) tNil))) :=
    pe_callB call_isiX hg hm hv (pa_cons he (pa_cons (pe_bltn hg2 hm2 hv2 rfl hn2 hd2) pa_nil hs2) hs1) (by decide) (by decide) hs1 hpl
  have h2 : PV X B Wx (.Call (.Name "isinstance" p) [e, .Name tn p2] [] pos) (wPrim (.isi t) (aCons we aNil)) := by
    refine PE_imp h1 fun σ H Q ⟨S, env, T, P, PX, r, hw, hP, hX⟩ => ?_
    refine ⟨S, env, T, _, PX, r, hw, fun x env1 v S1 H1 q r1 => ?_, hX⟩
    have q : useW x env1 fun d => P (.o (.d (.bool (decide (t ∈ tyOf d))))) env1 := q
    have rr : R X.K B S1 H1 σ env1 ([(v, x)] ++ T) := r1
    obtain ⟨S2, r2, f⟩ := rr.used
    obtain ⟨d, q, u⟩ := f (v, x) List.mem_cons_self _ q
    obtain ⟨tv, ty, hk⟩ := ud_kd u
    refine ⟨v, .ty (tyName t), _, _, _, rfl, .ty _, ty, hk t, ?_⟩
    exact hP _ _ _ _ _ q (r2.pops.push (.bl _))
  exact snd_plain h2 (by intro _; rfl)
end
end Vx
namespace Vx
open PySem PySem.Spec L2

/-! ### statements that are never reached -/
def sNever : WS := fun _ _ _ => False
section
variable {X : Cx} {B : Bs} {Wx : WX} {a b c e o : Expr} {wa wb wc we wo wi : WT} {pos : Pos} {es : List Expr} {wl : WA}
theorem z_never {st : Stmt} : S1 X B Wx st sNever := PS_imp ps_never fun D σ H ⟨_, _, _, _, _, _, hw, _⟩ => hw

/-! ### dicts laid -/
theorem R.fillTmp {S : Fz} {H : Hp} {σ : L2.St} {env : Env} {T P : List (V × W)} {K : PySem.W.Frag} {p : Addr} {k0 k : Kd} {vs : List V} {os : List O} (r : R K B S H σ env (P ++ ((.ref p, .o (.obj p k0 [])) :: T))) (ow : OwnA K S H vs os)
    (c : ∀ b, O.cntL b os ≤ cntT b P) (hf : k.fits vs.length) : R K B S (upd H p (hoOf k vs)) σ env ((.ref p, .o (.obj p k os)) :: T) := by
  have q : OwnR K S H (.ref p) (.obj p k0 []) := r.tmps (.ref p, .o (.obj p k0 [])) (List.mem_append_right _ List.mem_cons_self)
  have hT : ∀ b, cntT b (P ++ ((V.ref p, W.o (.obj p k0 [])) :: T)) = cntT b P + (((if p = b then 1 else 0) + 0) + cntT b T) := fun b => cntT_append b P _
  have hone : ∀ b, cntE b env + (cntT b P + (((if p = b then 1 else 0) + 0) + cntT b T)) ≤ 1 := fun b => by rw [← hT]; exact r.one b
  have hp1 := hone p
  rw [if_pos rfl] at hp1
  cases q with
  | obj e _ ow0 =>
    have nS : ¬ S p := fun h => by
      have h1 := r.apart p h
      rw [hT, if_pos rfl] at h1
      omega
    have kp : Kp S S H (upd H p (hoOf k vs)) := Kp.putO e (hoOf_loose _ _) nS
    have other : ∀ b, p ≠ b → upd H p (hoOf k vs) b = H b := fun b h => upd_ne (Ne.symm h)
    refine ⟨r.len, fun i x ex => ?_, fun t ht => ?_, fun b => ?_, fun b hb => ?_, fun b hb => ?_, fun b u h1 h2 => ?_, fun b hb => ?_, fun b hb => ?_, r.newS, r.sub⟩
    · obtain ⟨w, h1, h2⟩ := r.slots i x ex
      refine ⟨w, h1, h2.kp kp fun b hb => other b fun z => ?_⟩
      subst z
      have : x.cnt p ≤ cntE p env := cntE_get ex
      omega
    · rcases List.mem_cons.mp ht with e1 | ht
      · subst e1
        refine OwnR.obj upd_same hf (ow.kp kp fun b hb => other b fun z => ?_)
        subst z
        have := c p
        omega
      · refine (r.tmps t (List.mem_append_right _ (List.mem_cons_of_mem _ ht))).kp kp fun b hb => other b fun z => ?_
        subst z
        have : cntW p t.2 ≤ cntT p T := cntT_mem (b := p) ht
        omega
    · have := hone b; have := c b
      show cntE b env + (((if p = b then 1 else 0) + O.cntL b os) + cntT b T) ≤ 1
      omega
    · have h1 := r.apart b hb
      rw [hT] at h1
      have := c b
      show cntE b env + (((if p = b then 1 else 0) + O.cntL b os) + cntT b T) = 0
      omega
    · rw [kp.h b hb]; exact r.sH b hb
    · have h3 := r.keep b u h1 h2
      by_cases z : p = b
      · subst z
        rcases r.new p (by rw [hT, if_pos rfl]; omega) with y | y
        · exact absurd y h2
        · rw [y] at h1; cases h1
      · rw [other b z]; exact h3
    · by_cases z : p = b
      · subst z; rw [upd_same] at hb; cases hb
      · rw [other b z] at hb; exact r.dom b hb
    · refine r.new b ?_
      have hb' : 0 < cntE b env + (((if p = b then 1 else 0) + O.cntL b os) + cntT b T) := hb
      have := c b
      rw [hT]
      omega
theorem mergeK_zip : ∀ {ks : List Key} {vs : List V} {acc : List (Key × V)}, ks.length = vs.length → ks.Nodup → (∀ k ∈ ks, ∀ kv ∈ acc, kv.1 ≠ k) → mergeK acc (ks.zip vs) = acc ++ ks.zip vs
  | [], [], acc, _, _, _ => by simp [mergeK]
  | [], _ :: _, _, h, _, _ => nomatch h
  | _ :: _, [], _, h, _, _ => nomatch h
  | k :: ks, v :: vs, acc, h, hn, ha => by
    obtain ⟨h1, h2⟩ := List.nodup_cons.mp hn
    have hp : putK acc k v = acc ++ [(k, v)] := by
      unfold putK
      rw [if_neg]
      intro z
      obtain ⟨kv, hkv, hk⟩ := List.any_eq_true.mp z
      exact ha k List.mem_cons_self kv hkv (of_decide_eq_true hk)
    show mergeK (putK acc k v) (ks.zip vs) = _
    rw [hp, mergeK_zip (Nat.succ.inj h) h2 fun k' hk' kv hkv => ?_]
    · simp
    · rcases List.mem_append.mp hkv with hkv | hkv
      · exact ha k' (List.mem_cons_of_mem _ hk') kv hkv
      · rw [List.mem_singleton.mp hkv]; exact fun z => h1 (by rw [show k = k' from z]; exact hk')
theorem kV_map_eq : ∀ {ks : List Key} {vs : List V}, ks.length = vs.length → (ks.map kV).zip vs = (ks.zip vs).map fun kv => (kV kv.1, kv.2)
  | [], _, _ => by simp
  | _ :: _, [], h => nomatch h
  | k :: ks, v :: vs, h => by
    show (kV k, v) :: (ks.map kV).zip vs = (kV k, v) :: (ks.zip vs).map _
    rw [kV_map_eq (Nat.succ.inj h)]
/-- the pairs: keys that are constants, the values -/
structure SndD (X : Cx) (B : Bs) (Wx : WX) (pos : Pos) (keys : List (Option Expr)) (values : List Expr) (ks : List Key) (wl : WA) : Prop where
  ex : ∃ trs, PPs X pos keys values trs ∧ ∀ σ H Q, tA' X B Wx wl σ H (fun vs H1 => vs.length = ks.length → Q ((ks.map kV).zip vs) H1) → tPairs trs σ H Q
  all : keys.all (·.isSome) = true
  len : keys.length = values.length
  num : keys.length = ks.length
theorem d_nil : SndD X B Wx pos [] [] [] aNil := ⟨⟨[], pps_nil, fun σ H Q ⟨S, env, T, P, PX, r, hw, hP, hX⟩ => hP env [] S H hw r rfl⟩, rfl, rfl, rfl⟩
theorem d_cons {kx v : Expr} {k : Key} {keys : List (Option Expr)} {values : List Expr} {ks : List Key} {wv : WT} (hk : PE X kx (tC (kV k))) (hv : PV X B Wx v wv) (hr : SndD X B Wx pos keys values ks wl) :
    SndD X B Wx pos (some kx :: keys) (v :: values) (k :: ks) (aCons wv wl) := by
  obtain ⟨⟨trs, hp, hi⟩, h1, h2, h3⟩ := hr
  refine ⟨⟨_, pps_cons hk hv hp, fun σ H Q ⟨S, env, T, P, PX, r, hw, hP, hX⟩ => ?_⟩, ?_, congrArg (· + 1) h2, congrArg (· + 1) h3⟩
  · refine ⟨S, env, T, _, PX, r, hw, fun x env1 vx S1 H1 hq r1 => ?_, hX⟩
    refine hi σ H1 _ ⟨S1, env1, (vx, x) :: T, fun l env2 => P (x :: l) env2, PX, r1, hq, fun env2 Z S2 H2 h2 r2 hl => ?_, hX⟩
    refine hP env2 ((vx, x) :: Z) S2 H2 h2 (r2.perm (fun t ht => ?_) fun b => ?_) (congrArg (· + 1) hl)
    · rcases List.mem_append.mp ht with ht | ht
      · rcases List.mem_cons.mp ht with e | ht
        · subst e; exact List.mem_append_right _ List.mem_cons_self
        · exact List.mem_append_left _ ht
      · exact List.mem_append_right _ (List.mem_cons_of_mem _ ht)
    · rw [cntT_append, cntT_append]
      show cntW b x + cntT b Z + cntT b T ≤ cntT b Z + (cntW b x + cntT b T)
      omega
  · show (true && keys.all (·.isSome)) = true
    rw [h1]; rfl
def wDct (ks : List Key) (wl : WA) : WT := fun PX env P => wl PX env fun l env1 => inWs l env1 fun os env2 => os.length = ks.length ∧ ∀ a, P (.o (.dct a ks os)) env2
theorem c_dct {keys : List (Option Expr)} {values : List Expr} {ks : List Key} (h : SndD X B Wx pos keys values ks wl) (hn : ks.Nodup) (h0 : keys ≠ []) (h15 : keys.length ≤ 15) : PV X B Wx (.Dict keys values pos) (wDct ks wl) := by
  obtain ⟨⟨trs, hp, hi⟩, h1, h2, h3⟩ := h
  refine PE_imp (pe_disp hp h1 h2 h0 h15) fun σ H Q ⟨S, env, T, P, PX, r, hw, hP, hX⟩ => ?_
  intro p hnp
  have r0 : R X.K B S (upd H p (.dK [])) σ env ((.ref p, .o (.obj p (.dct []) [])) :: T) := R.newObj (P := []) (.dct []) ⟨rfl, List.nodup_nil⟩ r hnp .nil fun b => Nat.zero_le _
  refine hi σ _ _ ⟨S, env, _, _, PX, r0, hw, fun env1 Z S1 H1 hq r1 hl => ?_, hX⟩
  obtain ⟨os, env2, S2, ⟨ho, q⟩, hlo, r2, ow, hc⟩ := intos_top r1 hq
  have hl' : ks.length = (Z.map (·.1)).length := hl.symm
  have hT : OwnR X.K S2 H1 (.ref p) (.obj p (.dct []) []) := r2.tmps (.ref p, .o (.obj p (.dct []) [])) (List.mem_append_right _ List.mem_cons_self)
  refine ⟨?_, ks.zip (Z.map (·.1)), kV_map_eq hl', by rw [List.length_zip, ← h3]; omega, ?_⟩
  · cases hT with
    | obj e hf oa =>
      cases oa
      exact e
  · rw [mergeK_zip hl' hn (fun _ _ kv hkv => absurd hkv (by simp)), List.nil_append]
    exact hP _ _ _ _ _ (q p) (R.fillTmp (k := .dct ks) r2 ow (fun b => by rw [hc]; exact Nat.le_refl _) ⟨hl', hn⟩)

/-! ### append -/
def listAt (env : Env) (i : Nat) (p : List Stp) (a : Addr) : Prop := match envAt env i p with
  | some (.obj b .lst _) => b = a
  | _ => False
def wAppend (wo : WT) (wl : WA) : WT := fun PX env P => wo PX env fun t env1 => match t with
  | .al a i p => listAt env1 i p a ∧ wl PX env1 fun ws env2 => inWs ws env2 fun os env3 => match os with
    | [o] => match envAt env3 i p with
      | some (.obj b .lst xs) => b = a ∧ xs.length < sizeLine ∧ P (.o (.d .none)) (envPut env3 i p (.lst b (xs ++ [o])))
      | _ => False
    | _ => False
  | _ => False
theorem c_append {cpos apos : Pos} (ho : PV X B Wx o wo) (ha : SndA X B Wx [e] wl) (hbase : attributeBase o "append" X.env (eval o X.env) = eval o X.env)
    (hfew : ((backTo cpos (starEach [e] X.env)).all (fun x => !x.1) && (backToKw cpos (keywordEach [] X.env)).all (fun x => x.1.isSome) && decide ([e].length + ([] : List Keyword).length + (if ([] : List Keyword).isEmpty then 0 else 1) < 30)) = true)
    (hline : (apos.endLine == cpos.line) = true) (hs : starEach [e] X.env = (false, eval e X.env) :: starEach [] X.env) (hplain : (backTo cpos (starEach [] X.env)).any (·.1) = false) :
    PV X B Wx (.Call (.Attribute o "append" apos) [e] [] cpos) (wAppend wo wl) := by
  refine PE_imp (pe_bm PySem.F.plainAttrs_list PySem.F.slot_list_append PySem.F.type_list_append mt_append ho ha hbase hfew hline hs hplain) fun σ H Q ⟨S, env, T, P, PX, r, hw, hP, hX⟩ => ?_
  refine ⟨S, env, T, _, PX, r, hw, fun t env1 vt S1 H1 hq r1 => ?_, hX⟩
  cases t with
  | o _ => exact hq.elim
  | al a i p =>
    have et : vt = .ref a := r1.tmps (vt, .al a i p) List.mem_cons_self
    subst et
    obtain ⟨hat, hq⟩ := hq
    refine ⟨?_, ?_⟩
    · unfold listAt at hat
      cases ee : envAt env1 i p with
      | none => simp only [ee] at hat
      | some y =>
        simp only [ee] at hat
        cases y with
        | d _ => exact hat.elim
        | tup _ => exact hat.elim
        | obj b k xs =>
          cases k with
          | dct _ => exact hat.elim
          | lst =>
            have hat : b = a := hat
            subst hat
            obtain ⟨vs, hv, _⟩ := r1.seenAt ee
            exact .inl ⟨rfl, vs, .inl (.inl hv)⟩
    · refine ⟨S1, env1, (.ref a, .al a i p) :: T, _, PX, r1, hq, fun env2 Z S2 H2 h2 r2 => ?_, hX⟩
      obtain ⟨os, env3, S3, q, hl, r3, ow, hc⟩ := intos_top r2 h2
      cases os with
      | nil => exact q.elim
      | cons o1 os =>
        cases os with
        | cons _ _ => exact q.elim
        | nil =>
          cases Z with
          | nil => cases hl
          | cons z Z =>
            cases Z with
            | cons _ _ => cases hl
            | nil =>
              obtain ⟨y, w⟩ := z
              have r4 : R X.K B S3 H2 σ env3 ((y, .o o1) :: (.ref a, .al a i p) :: T) := r3
              have r5 : R X.K B S3 H2 σ env3 ((y, .o o1) :: T) := r4.perm (fun t ht => by
                rcases List.mem_cons.mp ht with e | ht
                · rw [e]; exact List.mem_cons_self
                · exact List.mem_cons_of_mem _ (List.mem_cons_of_mem _ ht)) fun b => by
                show o1.cnt b + cntT b T ≤ o1.cnt b + (0 + cntT b T)
                omega
              cases ee : envAt env3 i p with
              | none => simp only [ee] at q
              | some y2 =>
                simp only [ee] at q
                cases y2 with
                | d _ => exact q.elim
                | tup _ => exact q.elim
                | obj b k xs =>
                  cases k with
                  | dct _ => exact q.elim
                  | lst =>
                    obtain ⟨hb, hz, q⟩ := q
                    subst hb
                    obtain ⟨vs, hv, hvl, _, _, ra⟩ := r5.setAt ee
                    exact ⟨b, vs, y, rfl, rfl, hv, by rw [hvl]; exact hz, hP _ _ _ _ _ q (ra .lst True.intro).pushNone⟩
end
end Vx
namespace Vx
open PySem PySem.Spec L2

/-! ### list.pop(i) of a list of data -/
theorem OwnA.eraseIdx {K : PySem.W.Frag} {S : Fz} {H : Hp} : ∀ {vs : List V} {os : List O} (i : Nat), OwnA K S H vs os → OwnA K S H (vs.eraseIdx i) (os.eraseIdx i)
  | _, _, _, .nil => .nil
  | _, _, 0, .cons _ t => t
  | _, _, i + 1, .cons q t => .cons q (OwnA.eraseIdx i t)
theorem O.cntL_eraseIdx {b : Addr} : ∀ (os : List O) (i : Nat), O.cntL b (os.eraseIdx i) ≤ O.cntL b os
  | [], _ => Nat.le_refl _
  | o :: os, 0 => by show O.cntL b os ≤ O.cnt b o + O.cntL b os; omega
  | o :: os, i + 1 => by
    have := O.cntL_eraseIdx (b := b) os i
    show O.cnt b o + O.cntL b (os.eraseIdx i) ≤ O.cnt b o + O.cntL b os
    omega
theorem R.popAt {B : Bs} {S : Fz} {H : Hp} {σ : L2.St} {env : Env} {T : List (V × W)} {K : PySem.W.Frag} {a : Addr} {i : Nat} {p : List Stp} {xs : List O} {j : Nat} {x : D} (r : R K B S H σ env T) (h : envAt env i p = some (.lst a xs)) (hx : xs[j]? = some (.d x)) :
    ∃ vs v, H a = some (.lst vs) ∧ vs.length = xs.length ∧ vs[j]? = some v ∧ R K B S (upd H a (.lst (vs.eraseIdx j))) σ (envPut env i p (.lst a (xs.eraseIdx j))) ((v, .o (.d x)) :: T) := by
  obtain ⟨vs, e, ow⟩ := r.seenAt h
  obtain ⟨v, ev, qv⟩ := ow.get hx
  have rv : Rp K S H v x := by cases qv; assumption
  refine ⟨vs, v, e, ow.length, ev, ?_⟩
  have r1 : R K B S H σ env ((v, .o (.d x)) :: T) := r.push rv
  obtain ⟨oo, eo, ha⟩ := envAt_some h
  have hoc : ∀ b, oo.cnt b ≤ cntE b env := fun b => cntE_get eo
  obtain ⟨vv, _, qq⟩ := r.slots i oo eo
  obtain ⟨_, q', hle⟩ := qq.at ha
  have hone : ∀ b, cntE b env + cntT b T ≤ 1 := r.one
  have hself : 1 ≤ (O.lst a xs).cnt a := by show 1 ≤ (if a = a then 1 else 0) + O.cntL a xs; rw [if_pos rfl]; omega
  have ha1 : ∀ b, (O.lst a xs).cnt b + cntT b T ≤ 1 := fun b => by have := hone b; have := hoc b; have := hle b; omega
  have nS : ¬ S a := fun z => by have h1 : cntE a env + cntT a T = 0 := r.apart a z; have := hoc a; have := hle a; omega
  have nT : cntT a T = 0 := by have := ha1 a; omega
  have cl : ∀ b, (O.lst a xs).cnt b = (if a = b then 1 else 0) + O.cntL b xs := fun b => rfl
  have nx : O.cntL a xs = 0 := by have := ha1 a; have := cl a; rw [if_pos rfl] at this; omega
  have other : ∀ (u : HO) b, a ≠ b → upd H a u b = H b := fun us b z => upd_ne (Ne.symm z)
  have kp : Kp S S H (upd H a (.lst (vs.eraseIdx j))) := Kp.putO e rfl nS
  have r' : R K B S H σ env ([] ++ ((v, W.o (.d x)) :: T)) := r1
  refine R.putAt (P := []) r' h kp (fun w qw => ?_) (fun t ht qt => ?_) (fun b hb h0 h1 => ?_) (fun b => ?_) (fun b hb => .inl hb) (fun b hb => ?_) (fun b u hb h0 h1 => ?_) fun b hb => ?_
  · have : w = .ref a := qw.ref rfl
    rw [this]
    refine .obj upd_same True.intro ((ow.eraseIdx j).kp kp fun b hb => other _ b fun z => ?_)
    subst z
    have := O.cntL_eraseIdx (b := a) xs j
    omega
  · refine qt.kp kp fun b hb => other _ b fun z => ?_
    subst z
    rcases List.mem_cons.mp ht with e1 | ht
    · subst e1; exact absurd hb (by show ¬ 0 < 0; omega)
    · have h3 : cntW a t.2 ≤ cntT a T := cntT_mem (b := a) ht
      omega
  · refine other _ b fun z => ?_
    subst z; omega
  · show (if a = b then 1 else 0) + O.cntL b (xs.eraseIdx j) ≤ (O.lst a xs).cnt b + 0
    have := O.cntL_eraseIdx (b := b) xs j; have := cl b
    omega
  · rw [kp.h b hb]; exact r.sH b hb
  · rw [other _ b fun z => by subst z; omega]; exact hb
  · by_cases z : a = b
    · subst z; rw [upd_same] at hb; cases hb
    · rw [other _ b z] at hb; exact hb
def wPop (wo : WT) (wl : WA) : WT := fun PX env P => wo PX env fun t env1 => match t with
  | .al a i p => listAt env1 i p a ∧ wl PX env1 fun ws env2 => inWs ws env2 fun os env3 => match os with
    | [.d (.int n)] => match envAt env3 i p with
      | some (.obj b .lst xs) => b = a ∧ (-(2 ^ 63) ≤ n ∧ n < 2 ^ 63) ∧ onSome (ixN xs.length n) fun j => onSome xs[j]? fun y => match y with
        | .d y => P (.o (.d y)) (envPut env3 i p (.lst b (xs.eraseIdx j)))
        | _ => False
      | _ => False
    | _ => False
  | _ => False
section
variable {X : Cx} {B : Bs} {Wx : WX} {a b c e o : Expr} {wa wb wc we wo wi : WT} {pos : Pos} {es : List Expr} {wl : WA}
theorem c_pop {cpos apos : Pos} (ho : PV X B Wx o wo) (ha : SndA X B Wx [e] wl) (hbase : attributeBase o "pop" X.env (eval o X.env) = eval o X.env)
    (hfew : ((backTo cpos (starEach [e] X.env)).all (fun x => !x.1) && (backToKw cpos (keywordEach [] X.env)).all (fun x => x.1.isSome) && decide ([e].length + ([] : List Keyword).length + (if ([] : List Keyword).isEmpty then 0 else 1) < 30)) = true)
    (hline : (apos.endLine == cpos.line) = true) (hs : starEach [e] X.env = (false, eval e X.env) :: starEach [] X.env) (hplain : (backTo cpos (starEach [] X.env)).any (·.1) = false) :
    PV X B Wx (.Call (.Attribute o "pop" apos) [e] [] cpos) (wPop wo wl) := by
  refine PE_imp (pe_bm PySem.F.plainAttrs_list PySem.F.slot_list_pop PySem.F.type_list_pop mt_popAt ho ha hbase hfew hline hs hplain) fun σ H Q ⟨S, env, T, P, PX, r, hw, hP, hX⟩ => ?_
  refine ⟨S, env, T, _, PX, r, hw, fun t env1 vt S1 H1 hq r1 => ?_, hX⟩
  cases t with
  | o _ => exact hq.elim
  | al a i p =>
    have et : vt = .ref a := r1.tmps (vt, .al a i p) List.mem_cons_self
    subst et
    obtain ⟨hat, hq⟩ := hq
    refine ⟨?_, ?_⟩
    · unfold listAt at hat
      cases ee : envAt env1 i p with
      | none => simp only [ee] at hat
      | some y =>
        simp only [ee] at hat
        cases y with
        | d _ => exact hat.elim
        | tup _ => exact hat.elim
        | obj b k xs =>
          cases k with
          | dct _ => exact hat.elim
          | lst =>
            have hat : b = a := hat
            subst hat
            obtain ⟨vs, hv, _⟩ := r1.seenAt ee
            exact .inl ⟨rfl, vs, .inl (.inl hv)⟩
    · refine ⟨S1, env1, (.ref a, .al a i p) :: T, _, PX, r1, hq, fun env2 Z S2 H2 h2 r2 => ?_, hX⟩
      obtain ⟨os, env3, S3, q, hl, r3, ow, hc⟩ := intos_top r2 h2
      cases os with
      | nil => exact q.elim
      | cons o1 os =>
        cases os with
        | cons _ _ => cases o1 with
          | d d => cases d <;> exact q.elim
          | tup _ => exact q.elim
          | obj _ _ _ => exact q.elim
        | nil =>
          cases Z with
          | nil => cases hl
          | cons z Z =>
            cases Z with
            | cons _ _ => cases hl
            | nil =>
              obtain ⟨y, w⟩ := z
              have r4 : R X.K B S3 H2 σ env3 ((y, .o o1) :: (.ref a, .al a i p) :: T) := r3
              cases o1 with
              | tup _ => exact q.elim
              | obj _ _ _ => exact q.elim
              | d d =>
                cases d with
                | int n =>
                  have ey : y = .int n := by
                    have z : OwnR X.K S3 H2 y (.d (.int n)) := r4.tmps (y, .o (.d (.int n))) List.mem_cons_self
                    cases z with
                    | d z => cases z; rfl
                  subst ey
                  have r5 : R X.K B S3 H2 σ env3 T := r4.perm (fun t ht => List.mem_cons_of_mem _ (List.mem_cons_of_mem _ ht)) fun b => by
                    show cntT b T ≤ 0 + (0 + cntT b T)
                    omega
                  cases ee : envAt env3 i p with
                  | none => simp only [ee] at q
                  | some y2 =>
                    simp only [ee] at q
                    cases y2 with
                    | d _ => exact q.elim
                    | tup _ => exact q.elim
                    | obj b k xs =>
                      cases k with
                      | dct _ => exact q.elim
                      | lst =>
                        obtain ⟨hb, ⟨hn0, hn1⟩, q⟩ := q
                        subst hb
                        cases ej : ixN xs.length n with
                        | none => rw [ej] at q; exact q.elim
                        | some j =>
                          rw [ej] at q
                          have q : onSome xs[j]? _ := q
                          cases ex : xs[j]? with
                          | none => rw [ex] at q; exact q.elim
                          | some x =>
                            rw [ex] at q
                            cases x with
                            | tup _ => exact q.elim
                            | obj _ _ _ => exact q.elim
                            | d x =>
                              obtain ⟨vs, v, hv, hvl, evj, ra⟩ := r5.popAt ee ex
                              exact ⟨b, vs, n, j, v, rfl, rfl, hv, hn0, hn1, by rw [hvl]; exact (ixN_seq ej).1, evj, hP _ _ _ _ _ q ra⟩
                | _ => exact q.elim
end
end Vx
namespace Vx
open PySem PySem.Spec L2

/-! ### a text's methods with one argument -/
def strsOf : List D → Option (List Str)
  | [] => some []
  | .str x :: ds => (strsOf ds).map (x :: ·)
  | _ :: _ => none
theorem strsOf_eq : ∀ {ds : List D} {ys : List Str}, strsOf ds = some ys → ds = ys.map PyData.str
  | [], _, h => by cases h; rfl
  | d :: ds, ys, h => by
    cases d with
    | str x =>
      have h : (strsOf ds).map (x :: ·) = some ys := h
      cases e : strsOf ds with
      | none => rw [e] at h; cases h
      | some zs =>
        rw [e] at h
        cases h
        rw [strsOf_eq e]; rfl
    | _ => cases h
theorem strsOf_map : ∀ (ys : List Str), strsOf (ys.map PyData.str) = some ys
  | [] => rfl
  | y :: ys => by
    show (strsOf (ys.map PyData.str)).map (y :: ·) = _
    rw [strsOf_map ys]; rfl
inductive SMeth | index | join
def SMeth.run : SMeth → Str → D → (D → Prop) → Prop
  | .index, x, .str b, Q => onSome (Builtin.Str.occurrences x b 0 x.length 1).head? fun i => Q (.int (i : Nat))
  | .join, x, .list ds, Q => onSome (strsOf ds) fun ys => (ys.map (·.length)).sum + ys.length * x.length ≤ 16777216 ∧ Q (.str (Txt.join x ys))
  | .join, x, .tuple ds, Q => onSome (strsOf ds) fun ys => (ys.map (·.length)).sum + ys.length * x.length ≤ 16777216 ∧ Q (.str (Txt.join x ys))
  | _, _, _, _ => False
def wSm (m : SMeth) (wo : WT) (wl : WA) : WT := fun PX env P => wo PX env fun t env1 => match t with
  | .o (.d (.str x)) => wl PX env1 fun ws env2 => useWs ws env2 fun ds => match ds with
    | [d] => m.run x d fun y => P (.o (.d y)) env2
    | _ => False
  | _ => False
/-- what a method's rule is to say -/
def SmOk (K : PySem.W.Frag) (m : SMeth) (r : V → List V → Hp → VK → Prop) : Prop :=
  ∀ {S : Fz} {H : Hp} {x : Str} {v : V} {d : D} {QD : D → Prop} {Q : VK}, Ud K S H v d → m.run x d QD → (∀ v' y, Rp K S H v' y → QD y → Q v' H) → r (.str x) [v] H Q
section
variable {X : Cx} {B : Bs} {Wx : WX} {a b c e o : Expr} {wa wb wc we wo wi : WT} {pos : Pos} {es : List Expr} {wl : WA}
theorem ok_sindex {K : PySem.W.Frag} : SmOk K .index (fun x xs H Q => ∃ a b i rest, x = .str a ∧ xs = [.str b] ∧ Builtin.Str.occurrences a b 0 a.length 1 = i :: rest ∧ Q (.int (i : Nat)) H) := by
  intro S H x v d QD Q ud q hQ
  cases d with
  | str b =>
    have q : onSome (Builtin.Str.occurrences x b 0 x.length 1).head? fun i => QD (.int (i : Nat)) := q
    have ev : v = .str b := by
      rcases ud with z | ⟨_, _, _, _, z, _⟩
      · cases z; rfl
      · cases z
    subst ev
    cases e : Builtin.Str.occurrences x b 0 x.length 1 with
    | nil => rw [e] at q; exact q.elim
    | cons i rest =>
      rw [e] at q
      exact ⟨x, b, i, rest, rfl, rfl, e, hQ _ _ (.int _) q⟩
  | _ => exact q.elim
theorem ok_join {K : PySem.W.Frag} : SmOk K .join (fun x xs H Q => ∃ a p, ∃ ys : List Str, x = .str a ∧ xs = [.ref p] ∧ (SqL K H p (ys.map V.str) ∨ SqT K H p (ys.map V.str)) ∧
    (ys.map (·.length)).sum + ys.length * a.length ≤ 16777216 ∧ Q (.str (Txt.join a ys)) H) := by
  intro S H x v d QD Q ud q hQ
  have go : ∀ {p : Addr} {vs : List V} {ds : List D}, v = .ref p → SqL K H p vs ∨ SqT K H p vs → RpA K S H vs ds →
      (onSome (strsOf ds) fun ys => (ys.map (·.length)).sum + ys.length * x.length ≤ 16777216 ∧ QD (.str (Txt.join x ys))) → ∃ a p, ∃ ys : List Str, V.str x = .str a ∧ [v] = [.ref p] ∧ (SqL K H p (ys.map V.str) ∨ SqT K H p (ys.map V.str)) ∧
        (ys.map (·.length)).sum + ys.length * a.length ≤ 16777216 ∧ Q (.str (Txt.join a ys)) H := by
    intro p vs ds ev hs rs q
    obtain ⟨ys, e, hz, q⟩ := onSome_some q
    rw [strsOf_eq e] at rs
    have := rs.strs
    subst this
    subst ev
    exact ⟨x, p, ys, rfl, rfl, hs, hz, hQ _ _ (.str _) q⟩
  cases d with
  | list ds =>
    rcases ud with z | ⟨a, vs, ds', e1, z, h, rs⟩
    · cases z with
      | lst h rs => exact go rfl (.inl h.sq) rs q
    · cases z
      exact go e1 (.inl (.inl (.inl h))) rs q
  | tuple ds =>
    rcases ud with z | ⟨a, vs, ds', e1, z, h, rs⟩
    · cases z with
      | tup h rs => exact go rfl (.inr h) rs q
    · cases z
  | _ => exact q.elim
theorem c_sm {m : SMeth} {r : V → List V → Hp → VK → Prop} {name : Str} {id : String} {cpos apos : Pos} (ok : SmOk X.K m r) (hm : MtR X id r) (slot : Slot "str" name id) (hty : typeOf (.builtin id) = pure (.type "method_descriptor")) (ho : PV X B Wx o wo) (ha : SndA X B Wx [e] wl) (hbase : attributeBase o name X.env (eval o X.env) = eval o X.env)
    (hfew : ((backTo cpos (starEach [e] X.env)).all (fun x => !x.1) && (backToKw cpos (keywordEach [] X.env)).all (fun x => x.1.isSome) && decide ([e].length + ([] : List Keyword).length + (if ([] : List Keyword).isEmpty then 0 else 1) < 30)) = true)
    (hline : (apos.endLine == cpos.line) = true) (hs : starEach [e] X.env = (false, eval e X.env) :: starEach [] X.env) (hplain : (backTo cpos (starEach [] X.env)).any (·.1) = false) :
    PV X B Wx (.Call (.Attribute o name apos) [e] [] cpos) (wSm m wo wl) := by
  refine PE_imp (pe_bm PySem.F.plainAttrs_str slot hty hm ho ha hbase hfew hline hs hplain) fun σ H Q ⟨S, env, T, P, PX, r, hw, hP, hX⟩ => ?_
  refine ⟨S, env, T, _, PX, r, hw, fun t env1 vt S1 H1 hq r1 => ?_, hX⟩
  cases t with
  | al a i p => exact hq.elim
  | o t =>
    cases t with
    | tup _ => exact hq.elim
    | obj _ _ _ => exact hq.elim
    | d d =>
      cases d with
      | str x =>
        have ev : vt = .str x := by
          have z : OwnR X.K S1 H1 vt (.d (.str x)) := r1.tmps (vt, .o (.d (.str x))) List.mem_cons_self
          cases z with
          | d z => cases z; rfl
        subst ev
        refine ⟨rfl, S1, env1, T, _, PX, r1.perm (fun t ht => List.mem_cons_of_mem _ ht) fun b => by show cntT b T ≤ 0 + cntT b T; omega, hq, fun env2 Z S2 H2 h2 r2 => ?_, hX⟩
        obtain ⟨S3, ds, r3, q, ud⟩ := r2.usedAll h2
        have r4 : R X.K B S3 H2 σ env2 T := r3.pops
        generalize Z.map (·.1) = vs at ud ⊢
        cases ud with
        | nil => exact q.elim
        | cons u us =>
          cases us with
          | cons _ _ => exact q.elim
          | nil => exact ok u q fun v' y rp q => hP _ _ _ _ _ q (r4.push rp)
      | _ => exact hq.elim
theorem c_sindex {cpos apos : Pos} (ho : PV X B Wx o wo) (ha : SndA X B Wx [e] wl) (hbase : attributeBase o "index" X.env (eval o X.env) = eval o X.env)
    (hfew : ((backTo cpos (starEach [e] X.env)).all (fun x => !x.1) && (backToKw cpos (keywordEach [] X.env)).all (fun x => x.1.isSome) && decide ([e].length + ([] : List Keyword).length + (if ([] : List Keyword).isEmpty then 0 else 1) < 30)) = true)
    (hline : (apos.endLine == cpos.line) = true) (hs : starEach [e] X.env = (false, eval e X.env) :: starEach [] X.env) (hplain : (backTo cpos (starEach [] X.env)).any (·.1) = false) :
    PV X B Wx (.Call (.Attribute o "index" apos) [e] [] cpos) (wSm .index wo wl) := c_sm (m := .index) ok_sindex mt_sindex PySem.F.slot_str_index PySem.F.type_str_index ho ha hbase hfew hline hs hplain
theorem c_join {cpos apos : Pos} (ho : PV X B Wx o wo) (ha : SndA X B Wx [e] wl) (hbase : attributeBase o "join" X.env (eval o X.env) = eval o X.env)
    (hfew : ((backTo cpos (starEach [e] X.env)).all (fun x => !x.1) && (backToKw cpos (keywordEach [] X.env)).all (fun x => x.1.isSome) && decide ([e].length + ([] : List Keyword).length + (if ([] : List Keyword).isEmpty then 0 else 1) < 30)) = true)
    (hline : (apos.endLine == cpos.line) = true) (hs : starEach [e] X.env = (false, eval e X.env) :: starEach [] X.env) (hplain : (backTo cpos (starEach [] X.env)).any (·.1) = false) :
    PV X B Wx (.Call (.Attribute o "join" apos) [e] [] cpos) (wSm .join wo wl) := c_sm (m := .join) ok_join mt_join PySem.F.slot_str_join PySem.F.type_str_join ho ha hbase hfew hline hs hplain
end
end Vx
namespace Vx
open PySem PySem.Spec L2

/-! ### a text gone through -/
def letters (x : Str) : List D := x.cps.toList.map fun c => PyData.str ⟨#[c]⟩
section
variable {X : Cx} {B : Bs} {Wx : WX} {a b c e o : Expr} {wa wb wc we wo wi : WT} {pos : Pos} {es : List Expr} {wl : WA}
theorem Goes.str {x : Str} : Goes X B (L2.Its x) ⟨letters x, none⟩ [] := by
  refine ⟨fun S H σ env T i r _ hi => ?_, fun S H σ env T i v H' d r _ y hd => ?_, fun S H σ env T i r _ hi => ?_⟩
  · have hi' : i < (letters x).length := hi
    unfold letters at hi'
    rw [List.length_map, Array.length_toList] at hi'; exact hi'
  · obtain ⟨rfl, c, hc, rfl⟩ := y
    have hd' : (letters x)[i]? = some d := hd
    unfold letters at hd'
    rw [List.getElem?_map, Array.getElem?_toList, hc] at hd'
    cases hd'
    exact r.push (.str _)
  · have hi' : (letters x).length ≤ i := hi
    unfold letters at hi'
    rw [List.length_map, Array.length_toList] at hi'; exact hi'
def iS (we : WT) : WI := fun PX env P => we PX env fun w env1 => match w with
  | .o (.d (.str x)) => P ⟨letters x, none⟩ env1
  | _ => False
theorem i_s {tg : Expr} (h : PV X B Wx a wa) : PI X tg a (tI X B Wx (iS wa)) := by
  refine PI_imp (pi_str h) fun σ H Rk ⟨S, env, T, P, PX, r, hw, hP, hX⟩ => ?_
  refine ⟨S, env, T, _, PX, r, hw, fun x env1 vx S1 H1 hq r1 => ?_, hX⟩
  cases x with
  | al _ _ _ => exact hq.elim
  | o x =>
    cases x with
    | tup _ => exact hq.elim
    | obj _ _ _ => exact hq.elim
    | d d =>
      cases d with
      | str x =>
        have rx := r1.dataTop
        cases rx
        exact ⟨x, rfl, hP _ _ _ _ _ [] hq r1.pop Goes.str trivial⟩
      | _ => exact hq.elim
end
end Vx
namespace Vx
open PySem PySem.Spec L2

/-! ### more of what is built in -/
abbrev DSem := List D → (O → Prop) → Prop
def BltOk (X : Cx) (fv : Value) (f : DSem) : Prop :=
  ∀ (pins : List (Addr × Obj)) (s : Shared) (σ : L2.St) (H : Hp) (vs : List V) (us : List Value) (Q : VK) (B : Bs) (S : Fz) (env : Env) (T : List (V × W)) (ds : List D) (k : O → Prop),
    L2.Inv X pins σ H s → Vals vs us → R X.K B S H σ env T → UdA X.K S H vs ds → f ds k → (∀ o v S' H', k o → R X.K B S' H' σ env ((v, .o o) :: T) → Q v H') →
    wpAny (model X.prog X.w) X.A (call fv us) (EP X pins σ Q) X.xe s
def wBlt (f : DSem) (wl : WA) : WT := fun PX env P => wl PX env fun ws env1 => useWs ws env1 fun ds => f ds fun o => P (.o o) env1
def fSortS : DSem
  | [.list ds], Q => onSome (strsOf ds) fun xs => xs.length < 64 ∧ ∀ ys : List Str, ys.Perm xs → PyProof.Rows.sortedS ys = true → ∀ a, Q (.lst a (ys.map fun y => O.d (.str y)))
  | _, _ => False
def fInt : DSem
  | [.int i], Q => Q (.d (.int i))
  | [.bool b], Q => Q (.d (.int (if b then 1 else 0)))
  | _, _ => False
section
variable {X : Cx} {B : Bs} {Wx : WX} {a b c e o : Expr} {wa wb wc we wo wi : WT} {pos : Pos} {es : List Expr} {wl : WA}
theorem blt_run {f : DSem} {fv : Value} (ok : BltOk X fv f) (ha : SndA X B Wx es wl) {pins : List (Addr × Obj)} {s : Shared} {σ : L2.St} {H : Hp} {Q : VK} (I : L2.Inv X pins σ H s) (h : tE X B Wx (wBlt f wl) σ H Q) :
    ∃ Qa : List V → Hp → Prop, tA' X B Wx wl σ H Qa ∧ ∀ us s1 vs H1, L2.Inv X pins σ H1 s1 → Vals vs us → Qa vs H1 → wpAny (model X.prog X.w) X.A (call fv us) (EP X pins σ Q) X.xe s1 := by
  obtain ⟨S, env, T, P, PX, r, hw, hP, hX⟩ := h
  refine ⟨fun vs H1 => ∃ S1 env1 ds, R X.K B S1 H1 σ env1 T ∧ UdA X.K S1 H1 vs ds ∧ f ds fun o => P (.o o) env1, ⟨S, env, T, _, PX, r, hw, fun env1 Z S1 H1 q r1 => ?_, hX⟩, fun us s1 vs H1 I1 rv ⟨S1, env1, ds, r1, ud, q⟩ => ?_⟩
  · obtain ⟨S2, ds, r2, q, ud⟩ := r1.usedAll q
    exact ⟨S2, env1, ds, r2.pops, ud, q⟩
  · exact ok pins s1 σ H1 vs us Q B S1 env1 T ds _ I1 rv r1 ud q fun o v S' H' q r2 => hP _ _ _ _ _ q r2
theorem c_bltB {f : DSem} {id : String} {x : Str} {np : Pos} (ok : BltOk X (.builtin id) f) (hg : Gl X x) (hm : X.mg x = none) (hb : bootBuiltins x = some (.builtin id)) (ha : SndA X B Wx (e :: es) wl) (hn : x ≠ "__name__") (hd : (x == ("__debug__" : Str)) = false)
    (he : starEach (e :: es) X.env = (false, eval e X.env) :: starEach es X.env) (hpl : (backTo pos (starEach es X.env)).any (·.1) = false) : PV X B Wx (.Call (.Name x np) (e :: es) [] pos) (wBlt f wl) := by
  refine ⟨fun pins s σ H Q I h => ?_⟩
  obtain ⟨Qa, h2, run⟩ := blt_run ok ha I h
  exact wpAny_Call_Name_kw (ld_blt I hg hm hb (PyProof.Rows.callWith_builtin1 (thn (ha.run pos pins s σ H Qa I h2) fun us s1 ⟨vs, H1, I1, rv, q⟩ => run us s1 vs H1 I1 rv q) he hpl) hn hd)
theorem c_bltT {f : DSem} {id : String} {x : Str} {np : Pos} (ok : BltOk X (.type id) f) (hg : Gl X x) (hm : X.mg x = none) (hb : bootBuiltins x = some (.type id)) (ha : SndA X B Wx (e :: es) wl) (hn : x ≠ "__name__") (hd : (x == ("__debug__" : Str)) = false)
    (he : starEach (e :: es) X.env = (false, eval e X.env) :: starEach es X.env) (hpl : (backTo pos (starEach es X.env)).any (·.1) = false) : PV X B Wx (.Call (.Name x np) (e :: es) [] pos) (wBlt f wl) := by
  refine ⟨fun pins s σ H Q I h => ?_⟩
  obtain ⟨Qa, h2, run⟩ := blt_run ok ha I h
  exact wpAny_Call_Name_kw (ld_blt I hg hm hb (PyProof.Rows.callWith_type1 (thn (ha.run pos pins s σ H Qa I h2) fun us s1 ⟨vs, H1, I1, rv, q⟩ => run us s1 vs H1 I1 rv q) he hpl) hn hd)
theorem ok_sortS : BltOk X (.builtin "sorted") fSortS := by
  intro pins s σ H vs us Q B S env T ds k I rv r ud q hQ
  cases ud with
  | nil => exact q.elim
  | cons u us' =>
    rename_i v d vs' ds'
    cases us' with
    | cons _ _ => cases d <;> exact q.elim
    | nil =>
      cases d with
      | list ds =>
        obtain ⟨xs, e, h64, q⟩ := onSome_some q
        obtain ⟨a, ws, rfl, hs, rs⟩ := u.list
        rw [strsOf_eq e] at rs
        have := rs.strs
        subst this
        refine cr_sortedS pins s σ H _ us Q I rv ⟨a, xs, rfl, hs, h64, fun ys p h1 h2 hp => ?_⟩
        have r' : R X.K B S H σ env ([] ++ T) := r
        refine hQ _ _ _ _ (q ys h1 h2 p) (R.newLst (P := []) r' hp (vs := ys.map V.str) (os := ys.map fun y => O.d (.str y)) ?_ fun b => ?_)
        · have := OwnA.of_data (K := X.K) (S := S) (H := H) (RpA.of_strs ys)
          rw [List.map_map] at this
          exact this
        · have : ∀ zs : List Str, O.cntL b (zs.map fun y => O.d (.str y)) = 0 := by
            intro zs
            induction zs with
            | nil => rfl
            | cons z zs ih => show 0 + O.cntL b (zs.map fun y => O.d (.str y)) = 0; rw [ih]
          rw [this]; exact Nat.zero_le _
      | _ => exact q.elim
theorem ok_int : BltOk X (.type "int") fInt := by
  intro pins s σ H vs us Q B S env T ds k I rv r ud q hQ
  cases ud with
  | nil => exact q.elim
  | cons u us' =>
    rename_i v d vs' ds'
    cases us' with
    | cons _ _ => cases d <;> exact q.elim
    | nil =>
      cases d with
      | int i =>
        have ev : v = .int i := by
          rcases u with z | ⟨_, _, _, _, z, _⟩
          · cases z; rfl
          · cases z
        subst ev
        exact call_int1 pins s σ H _ us Q I rv (.inl ⟨i, rfl, hQ _ _ _ _ q (r.push (.int i))⟩)
      | bool b =>
        have ev : v = .bl b := by
          rcases u with z | ⟨_, _, _, _, z, _⟩
          · cases z; rfl
          · cases z
        subst ev
        exact call_int1 pins s σ H _ us Q I rv (.inr ⟨b, rfl, hQ _ _ _ _ q (r.push (.int _))⟩)
      | _ => exact q.elim
end
end Vx
namespace Vx
open PySem PySem.Spec L2

/-! ### xs[::-1] of a list -/
def wRevL (we : WT) : WT := fun PX env P => we PX env fun w env1 => useWs [w] env1 fun ds => match ds with
  | [.list xs] => ∀ a, P (.o (.lst a (xs.reverse.map O.d))) env1
  | _ => False
section
variable {X : Cx} {B : Bs} {Wx : WX} {a b c e o : Expr} {wa wb wc we wo wi : WT} {pos : Pos} {es : List Expr} {wl : WA}
theorem cntL_data {b : Addr} : ∀ ds : List D, O.cntL b (ds.map O.d) = 0
  | [] => rfl
  | d :: ds => by show 0 + O.cntL b (ds.map O.d) = 0; rw [cntL_data ds]
theorem RpA.rev {K : PySem.W.Frag} {S : Fz} {H : Hp} : ∀ {vs : List V} {ds : List D}, RpA K S H vs ds → OwnA K S H vs.reverse (ds.reverse.map O.d)
  | _, _, .nil => .nil
  | v :: vs, d :: ds, .cons r t => by
    rw [List.reverse_cons, List.reverse_cons, List.map_append]
    exact (RpA.rev t).append (.cons (.d r) .nil)
theorem c_revL {k : Nat} {p1 p2 p3 : Pos} (h : PV X B Wx e we) : PV X B Wx (.Subscript e (.Slice none none (some (.UnaryOp .USub (.Constant (.int 1) k p1) p2)) p3) pos) (wRevL we) := by
  refine PE_imp (pe_revL h) fun σ H Q ⟨S, env, T, P, PX, r, hw, hP, hX⟩ => ?_
  refine ⟨S, env, T, _, PX, r, hw, fun w env1 v S1 H1 hq r1 => ?_, hX⟩
  have r1' : R X.K B S1 H1 σ env1 ([(v, w)] ++ T) := r1
  obtain ⟨S2, ds, r2, q, ud⟩ := r1'.usedAll hq
  have r3 : R X.K B S2 H1 σ env1 T := r2.pops
  replace ud : UdA X.K S2 H1 [v] ds := ud
  cases ud with
  | cons u us =>
    cases us
    rename_i d
    cases d with
    | list xs =>
      obtain ⟨p, vs, rfl, hq, ra⟩ := u.list
      refine ⟨p, vs, rfl, hq, fun p' hp => ?_⟩
      have r4 : R X.K B S2 H1 σ env1 ([] ++ T) := r3
      exact hP _ _ _ _ _ (q p') (R.newLst (P := []) r4 hp ra.rev fun b => by rw [cntL_data]; exact Nat.zero_le _)
    | _ => exact q.elim
end
end Vx
namespace Vx
open PySem PySem.Spec L2

/-! ### an owned list gets other contents -/
theorem R.renewAt {B : Bs} {S : Fz} {H : Hp} {σ : L2.St} {env : Env} {T : List (V × W)} {K : PySem.W.Frag} {a : Addr} {i : Nat} {p : List Stp} {xs : List O} (r : R K B S H σ env T) (h : envAt env i p = some (.lst a xs)) {us : List V} {ys : List O}
    (how : ∀ {vs : List V} {H' : Hp}, H a = some (.lst vs) → OwnA K S H vs xs → OwnA K S H us ys) (hc : ∀ b, O.cntL b ys ≤ O.cntL b xs) :
    R K B S (upd H a (.lst us)) σ (envPut env i p (.lst a ys)) T := by
  obtain ⟨vs, e, ow⟩ := r.seenAt h
  obtain ⟨oo, eo, ha⟩ := envAt_some h
  have hoc : ∀ b, oo.cnt b ≤ cntE b env := fun b => cntE_get eo
  obtain ⟨vv, _, qq⟩ := r.slots i oo eo
  obtain ⟨_, q', hle⟩ := qq.at ha
  have hone : ∀ b, cntE b env + cntT b T ≤ 1 := r.one
  have hself : 1 ≤ (O.lst a xs).cnt a := by show 1 ≤ (if a = a then 1 else 0) + O.cntL a xs; rw [if_pos rfl]; omega
  have ha1 : ∀ b, (O.lst a xs).cnt b + cntT b T ≤ 1 := fun b => by have := hone b; have := hoc b; have := hle b; omega
  have nS : ¬ S a := fun z => by have h1 : cntE a env + cntT a T = 0 := r.apart a z; have := hoc a; have := hle a; omega
  have nT : cntT a T = 0 := by have := ha1 a; omega
  have cl : ∀ b, (O.lst a xs).cnt b = (if a = b then 1 else 0) + O.cntL b xs := fun b => rfl
  have nx : O.cntL a xs = 0 := by have := ha1 a; have := cl a; rw [if_pos rfl] at this; omega
  have other : ∀ (u : HO) b, a ≠ b → upd H a u b = H b := fun us b z => upd_ne (Ne.symm z)
  have kp : Kp S S H (upd H a (.lst us)) := Kp.putO e rfl nS
  have r' : R K B S H σ env ([] ++ T) := r
  refine R.putAt (P := []) r' h kp (fun w qw => ?_) (fun t ht qt => ?_) (fun b hb h0 h1 => ?_) (fun b => ?_) (fun b hb => .inl hb) (fun b hb => ?_) (fun b u hb h0 h1 => ?_) fun b hb => ?_
  · have : w = .ref a := qw.ref rfl
    rw [this]
    refine .obj upd_same True.intro ((how (H' := H) e ow).kp kp fun b hb => other _ b fun z => ?_)
    subst z
    have := hc a
    omega
  · refine qt.kp kp fun b hb => other _ b fun z => ?_
    subst z
    have h3 : cntW a t.2 ≤ cntT a T := cntT_mem (b := a) ht
    omega
  · refine other _ b fun z => ?_
    subst z; omega
  · show (if a = b then 1 else 0) + O.cntL b ys ≤ (O.lst a xs).cnt b + 0
    have := hc b; have := cl b
    omega
  · rw [kp.h b hb]; exact r.sH b hb
  · rw [other _ b fun z => by subst z; omega]; exact hb
  · by_cases z : a = b
    · subst z; rw [upd_same] at hb; cases hb
    · rw [other _ b z] at hb; exact hb

/-! ### extend by a new list of data -/
def wExtend (wo : WT) (wl : WA) : WT := fun PX env P => wo PX env fun t env1 => match t with
  | .al a i p => listAt env1 i p a ∧ wl PX env1 fun ws env2 => match ws with
    | [.o (.obj _ .lst os)] => onSome (datas os) fun ds => match envAt env2 i p with
      | some (.obj b .lst xs) => b = a ∧ xs.length + ds.length ≤ sizeLine ∧ P (.o (.d .none)) (envPut env2 i p (.lst b (xs ++ ds.map O.d)))
      | _ => False
    | _ => False
  | _ => False
section
variable {X : Cx} {B : Bs} {Wx : WX} {a b c e o : Expr} {wa wb wc we wo wi : WT} {pos : Pos} {es : List Expr} {wl : WA}
theorem c_extend {cpos apos : Pos} (ho : PV X B Wx o wo) (ha : SndA X B Wx [e] wl) (hbase : attributeBase o "extend" X.env (eval o X.env) = eval o X.env)
    (hfew : ((backTo cpos (starEach [e] X.env)).all (fun x => !x.1) && (backToKw cpos (keywordEach [] X.env)).all (fun x => x.1.isSome) && decide ([e].length + ([] : List Keyword).length + (if ([] : List Keyword).isEmpty then 0 else 1) < 30)) = true)
    (hline : (apos.endLine == cpos.line) = true) (hs : starEach [e] X.env = (false, eval e X.env) :: starEach [] X.env) (hplain : (backTo cpos (starEach [] X.env)).any (·.1) = false) :
    PV X B Wx (.Call (.Attribute o "extend" apos) [e] [] cpos) (wExtend wo wl) := by
  refine PE_imp (pe_bm PySem.F.plainAttrs_list PySem.F.slot_list_extend PySem.F.type_list_extend mt_extend ho ha hbase hfew hline hs hplain) fun σ H Q ⟨S, env, T, P, PX, r, hw, hP, hX⟩ => ?_
  refine ⟨S, env, T, _, PX, r, hw, fun t env1 vt S1 H1 hq r1 => ?_, hX⟩
  cases t with
  | o _ => exact hq.elim
  | al a i p =>
    have et : vt = .ref a := r1.tmps (vt, .al a i p) List.mem_cons_self
    subst et
    obtain ⟨hat, hq⟩ := hq
    refine ⟨?_, ?_⟩
    · unfold listAt at hat
      cases ee : envAt env1 i p with
      | none => simp only [ee] at hat
      | some y =>
        simp only [ee] at hat
        cases y with
        | d _ => exact hat.elim
        | tup _ => exact hat.elim
        | obj b k xs =>
          cases k with
          | dct _ => exact hat.elim
          | lst =>
            have hat : b = a := hat
            subst hat
            obtain ⟨vs, hv, _⟩ := r1.seenAt ee
            exact .inl ⟨rfl, vs, .inl (.inl hv)⟩
    · refine ⟨S1, env1, (.ref a, .al a i p) :: T, _, PX, r1, hq, fun env2 Z S2 H2 h2 r2 => ?_, hX⟩
      cases Z with
      | nil => exact h2.elim
      | cons z Z =>
        obtain ⟨y, w⟩ := z
        cases Z with
        | cons _ _ =>
          cases w with
          | al _ _ _ => exact h2.elim
          | o w =>
            cases w with
            | d _ => exact h2.elim
            | tup _ => exact h2.elim
            | obj _ k _ => cases k <;> exact h2.elim
        | nil =>
          cases w with
          | al _ _ _ => exact h2.elim
          | o w =>
            cases w with
            | d _ => exact h2.elim
            | tup _ => exact h2.elim
            | obj c k os =>
              cases k with
              | dct _ => exact h2.elim
              | lst =>
                obtain ⟨ds, hd, h2⟩ := onSome_some (show onSome (datas os) _ from h2)
                rw [datas_eq hd] at r2
                have r4 : R X.K B S2 H2 σ env2 ((y, .o (.obj c .lst (ds.map O.d))) :: (.ref a, .al a i p) :: T) := r2
                have z : OwnR X.K S2 H2 y (.obj c .lst (ds.map O.d)) := r4.tmps (y, .o (.obj c .lst (ds.map O.d))) List.mem_cons_self
                have r5 : R X.K B S2 H2 σ env2 T := r4.perm (fun t ht => List.mem_cons_of_mem _ (List.mem_cons_of_mem _ ht)) fun b => by
                  show cntT b T ≤ _ + (0 + cntT b T)
                  omega
                cases ee : envAt env2 i p with
                | none => simp only [ee] at h2
                | some y2 =>
                  simp only [ee] at h2
                  cases y2 with
                  | d _ => exact h2.elim
                  | tup _ => exact h2.elim
                  | obj b k xs =>
                    cases k with
                    | dct _ => exact h2.elim
                    | lst =>
                      obtain ⟨hb, hz, q⟩ := h2
                      subst hb
                      cases z with
                      | obj ec hf oc =>
                        rename_i zs
                        obtain ⟨vs, hv, ow⟩ := r5.seenAt ee
                        have r6 := r5.renewAt ee (us := vs ++ zs) (ys := xs ++ ds.map O.d) (fun {vs'} {H'} e2 o2 => ow.append oc) fun b => by
                          rw [O.cntL_append, cntL_data]; exact Nat.le_refl _
                        exact ⟨b, c, vs, zs, rfl, rfl, hv, ec, by rw [ow.length, oc.length, List.length_map]; exact hz, hP _ _ _ _ _ q r6.pushNone⟩
end
end Vx
namespace Vx
open PySem PySem.Spec L2

/-! ### xs.reverse(), xs.clear() -/
theorem OwnA.reverse {K : PySem.W.Frag} {S : Fz} {H : Hp} : ∀ {vs : List V} {os : List O}, OwnA K S H vs os → OwnA K S H vs.reverse os.reverse
  | _, _, .nil => .nil
  | _, _, .cons r t => by
    rw [List.reverse_cons, List.reverse_cons]
    exact (OwnA.reverse t).append (.cons r .nil)
theorem O.cntL_reverse {b : Addr} : ∀ (os : List O), O.cntL b os.reverse = O.cntL b os
  | [] => rfl
  | o :: os => by
    rw [List.reverse_cons, O.cntL_append, O.cntL_reverse os]
    show O.cntL b os + (O.cnt b o + 0) = O.cnt b o + O.cntL b os
    omega
def wReverse (wo : WT) : WT := fun PX env P => wo PX env fun t env1 => match t with
  | .al a i p => match envAt env1 i p with
    | some (.obj b .lst xs) => b = a ∧ P (.o (.d .none)) (envPut env1 i p (.lst b xs.reverse))
    | _ => False
  | _ => False
def wClear (wo : WT) : WT := fun PX env P => wo PX env fun t env1 => match t with
  | .al a i p => match envAt env1 i p with
    | some (.obj b .lst xs) => b = a ∧ P (.o (.d .none)) (envPut env1 i p (.lst b []))
    | _ => False
  | _ => False
section
variable {X : Cx} {B : Bs} {Wx : WX} {a b c e o : Expr} {wa wb wc we wo wi : WT} {pos : Pos} {es : List Expr} {wl : WA}
theorem alTop {S : Fz} {H : Hp} {σ : L2.St} {env : Env} {T : List (V × W)} {K : PySem.W.Frag} {v : V} {t : W} {f : Addr → List O → Nat → List Stp → Prop} (r : R K B S H σ env ((v, t) :: T))
    (q : match (motive := W → Prop) t with
      | .al a i p => match envAt env i p with
        | some (.obj b .lst xs) => b = a ∧ f b xs i p
        | _ => False
      | _ => False) : ∃ a i p xs vs, v = .ref a ∧ envAt env i p = some (.lst a xs) ∧ H a = some (.lst vs) ∧ OwnA K S H vs xs ∧ R K B S H σ env T ∧ f a xs i p := by
  cases t with
  | o _ => exact q.elim
  | al a i p =>
    have et : v = .ref a := r.tmps (v, .al a i p) List.mem_cons_self
    cases ee : envAt env i p with
    | none => simp only [ee] at q
    | some y =>
      simp only [ee] at q
      cases y with
      | d _ => exact q.elim
      | tup _ => exact q.elim
      | obj b k xs =>
        cases k with
        | dct _ => exact q.elim
        | lst =>
          obtain ⟨hb, q⟩ := q
          subst hb
          obtain ⟨vs, hv, ow⟩ := r.seenAt ee
          exact ⟨b, i, p, xs, vs, et, ee, hv, ow, r.perm (fun t ht => List.mem_cons_of_mem _ ht) fun c => by show cntT c T ≤ 0 + cntT c T; omega, q⟩
theorem c_reverse {cpos apos : Pos} (ho : PV X B Wx o wo) (hbase : attributeBase o "reverse" X.env (eval o X.env) = eval o X.env) (hline : (apos.endLine == cpos.line) = true) :
    PV X B Wx (.Call (.Attribute o "reverse" apos) [] [] cpos) (wReverse wo) := by
  refine PE_imp (pe_bm0 PySem.F.plainAttrs_list PySem.F.slot_list_reverse PySem.F.type_list_reverse mt_reverse ho hbase hline) fun σ H Q ⟨S, env, T, P, PX, r, hw, hP, hX⟩ => ?_
  refine ⟨S, env, T, _, PX, r, hw, fun t env1 vt S1 H1 hq r1 => ?_, hX⟩
  obtain ⟨a, i, p, xs, vs, rfl, ee, hv, ow, r2, q⟩ := alTop r1 (f := fun b xs i p => P (.o (.d .none)) (envPut env1 i p (.lst b xs.reverse))) hq
  refine ⟨.inl ⟨rfl, vs, .inl (.inl hv)⟩, a, vs, rfl, rfl, hv, hP _ _ _ _ _ q (r2.renewAt ee (fun {vs'} {_} e2 o2 => ow.reverse) fun b => ?_).pushNone⟩
  rw [O.cntL_reverse]; exact Nat.le_refl _
theorem c_clear {cpos apos : Pos} (ho : PV X B Wx o wo) (hbase : attributeBase o "clear" X.env (eval o X.env) = eval o X.env) (hline : (apos.endLine == cpos.line) = true) :
    PV X B Wx (.Call (.Attribute o "clear" apos) [] [] cpos) (wClear wo) := by
  refine PE_imp (pe_bm0 PySem.F.plainAttrs_list PySem.F.slot_list_clear PySem.F.type_list_clear mt_clear ho hbase hline) fun σ H Q ⟨S, env, T, P, PX, r, hw, hP, hX⟩ => ?_
  refine ⟨S, env, T, _, PX, r, hw, fun t env1 vt S1 H1 hq r1 => ?_, hX⟩
  obtain ⟨a, i, p, xs, vs, rfl, ee, hv, ow, r2, q⟩ := alTop r1 (f := fun b xs i p => P (.o (.d .none)) (envPut env1 i p (.lst b []))) hq
  exact ⟨.inl ⟨rfl, vs, .inl (.inl hv)⟩, a, vs, rfl, rfl, hv, hP _ _ _ _ _ q (r2.renewAt ee (fun {vs'} {_} e2 o2 => .nil) fun b => Nat.zero_le _).pushNone⟩
end
end Vx
namespace Vx
open PySem PySem.Spec L2

/-! ### a body gone through, statement by statement -/
@[irreducible] def Nx (u : WS) (PX : Exn → Env → Prop) (env : Env) (k : Kt) : Prop := u PX env k
theorem nx_in {u : WS} {PX : Exn → Env → Prop} {env : Env} {k : Kt} (h : u PX env k) : Nx u PX env k := by unfold Nx; exact h
theorem nx_out {u : WS} {PX : Exn → Env → Prop} {env : Env} {k : Kt} (h : Nx u PX env k) : u PX env k := by unfold Nx at h; exact h
theorem nx_eq {u : WS} {PX : Exn → Env → Prop} {env : Env} {k : Kt} : Nx u PX env k = u PX env k := by unfold Nx; rfl
/-- what the end of a def is to say -/
structure KOk (k : Kt) (X : Exn → Env → Prop) (os : List O) (P : O → List O → Prop) (PX : Exn → List O → Prop) : Prop where
  rt : ∀ x env, (retW os x env fun r env' => backsW 0 os env' fun os' => P r os') → k.rt x env
  nx : ∀ env, (backsW 0 os env fun os' => P (.d .none) os') → k.nx env
  ex : ∀ ex env, (backsW 0 os env fun os' => PX ex os') → X ex env
theorem sem_go {w : WS} {n : Nat} {os : List O} {P : O → List O → Prop} {PX : Exn → List O → Prop} (h : ∀ (k : Kt) (X : Exn → Env → Prop), KOk k X os P PX → Nx w X (start n os) k) : semW w n os P PX :=
  nx_out (h _ _ ⟨fun _ _ h => h, fun _ h => h, fun _ _ h => h⟩)
theorem rt_go {k : Kt} {X : Exn → Env → Prop} {os : List O} {P : O → List O → Prop} {PX : Exn → List O → Prop} {x : W} {env : Env} (h : KOk k X os P PX) (q : retW os x env fun r env' => backsW 0 os env' fun os' => P r os') : k.rt x env := h.rt x env q
theorem nx_go {k : Kt} {X : Exn → Env → Prop} {os : List O} {P : O → List O → Prop} {PX : Exn → List O → Prop} {env : Env} (h : KOk k X os P PX) (q : backsW 0 os env fun os' => P (.d .none) os') : k.nx env := h.nx env q
section
variable {u wb wx wy : WS} {we wo wi wc : WT} {wI : WI} {t : Tg} {PX : Exn → Env → Prop} {env : Env} {k : Kt}
theorem nx_nil (h : k.nx env) : Nx sNil PX env k := nx_in h
theorem nx_asg (h : we PX env fun w env1 => bindT t w env1 fun env2 => Nx u PX env2 k) : Nx (sCons (sAsg t we) u) PX env k := nx_in (by
  rw [show (fun w env1 => bindT t w env1 fun env2 => Nx u PX env2 k) = (fun w env1 => bindT t w env1 fun env2 => u PX env2 k) from by funext w env1; congr; funext env2; exact nx_eq] at h
  exact h)
theorem nx_set (h : we PX env fun w env1 => inW w env1 fun x env2 => wo PX env2 fun t env3 => wi PX env3 fun n env4 => setW t n x env4 fun env5 => Nx u PX env5 k) : Nx (sCons (sSetIx we wo wi) u) PX env k := nx_in (by
  have e : (fun env5 => Nx u PX env5 k) = fun env5 => u PX env5 k := by funext env5; exact nx_eq
  rw [e] at h
  exact h)
theorem nx_expr (h : we PX env fun _ env1 => Nx u PX env1 k) : Nx (sCons (sExpr we) u) PX env k := nx_in (by
  have e : (fun (_ : W) env5 => Nx u PX env5 k) = fun _ env5 => u PX env5 k := by funext _ env5; exact nx_eq
  rw [e] at h
  exact h)
theorem nx_ret (h : we PX env k.rt) : Nx (sCons (sRet we) u) PX env k := nx_in h
theorem nx_retN (h : k.rt (.o (.d .none)) env) : Nx (sCons sRetN u) PX env k := nx_in h
theorem nx_pass (h : Nx u PX env k) : Nx (sCons sPass u) PX env k := nx_in (by rw [nx_eq] at h; exact h)
theorem nx_brk (h : k.bk env) : Nx (sCons sBrk u) PX env k := nx_in h
theorem nx_cnt (h : k.ct env) : Nx (sCons sCnt u) PX env k := nx_in h
theorem nx_if (h : wc PX env fun x env1 => tst x fun t => if t = true then Nx wx PX env1 ⟨fun env2 => Nx u PX env2 k, k.rt, k.bk, k.ct⟩ else Nx wy PX env1 ⟨fun env2 => Nx u PX env2 k, k.rt, k.bk, k.ct⟩) : Nx (sCons (sIf wc wx wy) u) PX env k := nx_in (by
  have e : (fun env5 => Nx u PX env5 k) = fun env5 => u PX env5 k := by funext env5; exact nx_eq
  rw [e] at h
  simp only [nx_eq] at h
  exact h)
/-- a turn of a loop -/
def stepN (t : Tg) (wb u : WS) (PX : Exn → Env → Prop) (k : Kt) : D → Env → (Env → Prop) → Prop := fun x env2 K => bindT t (.o (.d x)) env2 fun env3 => Nx wb PX env3 ⟨K, k.rt, fun env4 => Nx u PX env4 k, K⟩
theorem nx_for0 (h : wI PX env fun s env1 => goFor s (stepN t wb u PX k) s.xs env1 fun env2 => Nx u PX env2 k) : Nx (sCons (sFor t wI wb) u) PX env k := nx_in (by
  have e : (fun env5 => Nx u PX env5 k) = fun env5 => u PX env5 k := by funext env5; exact nx_eq
  have e2 : (fun s env1 => goFor s (stepN t wb u PX k) s.xs env1 fun env2 => Nx u PX env2 k) = fun s env1 => goFor s (forStep t wb PX { k with nx := fun env1 => u PX env1 k }) s.xs env1 fun env2 => u PX env2 k := by
    have e3 : stepN t wb u PX k = forStep t wb PX { k with nx := fun env1 => u PX env1 k } := by
      funext x env2 K
      unfold stepN forStep
      rw [e]
      congr
      funext env3
      exact nx_eq
    rw [e3, e]
  rw [e2] at h
  exact h)
@[irreducible] def LoopF (s : Src) (step : D → Env → (Env → Prop) → Prop) (env : Env) (Q : Env → Prop) : Prop := goFor s step s.xs env Q
theorem loop_go {s : Src} {step : D → Env → (Env → Prop) → Prop} {env : Env} {Q : Env → Prop} (h : goFor s step s.xs env Q) : LoopF s step env Q := by unfold LoopF; exact h
theorem loop_eq {s : Src} {step : D → Env → (Env → Prop) → Prop} {env : Env} {Q : Env → Prop} : LoopF s step env Q = goFor s step s.xs env Q := by unfold LoopF; rfl
theorem nx_for (h : wI PX env fun s env1 => LoopF s (stepN t wb u PX k) env1 fun env2 => Nx u PX env2 k) : Nx (sCons (sFor t wI wb) u) PX env k := nx_for0 (by
  simp only [loop_eq] at h
  exact h)
/-- a loop by its invariant -/
theorem loop_run {s : Src} {step : D → Env → (Env → Prop) → Prop} (I : Nat → Env → Prop) (hs : ∀ i env, I i env → s.still env) (hstep : ∀ i x env K, s.xs[i]? = some x → I i env → (∀ env', I (i + 1) env' → K env') → step x env K) {env : Env} {Q : Env → Prop}
    (h0 : I 0 env) (hq : ∀ env', I s.xs.length env' → Q env') : LoopF s step env Q := loop_go (goFor_run I hs hstep h0 hq)
theorem nx_while (V : Nat → Env → Prop) (h0 : ∃ m, V m env) (h : ∀ m e1, V m e1 → wc PX e1 fun w e2 => tst w fun t => if t = true then Nx wb PX e2 ⟨fun e3 => ∃ m', m' < m ∧ V m' e3, k.rt, fun e3 => Nx u PX e3 k, fun e3 => ∃ m', m' < m ∧ V m' e3⟩ else Nx u PX e2 k) : Nx (sCons (sWhile wc wb) u) PX env k := nx_in (by
  refine ⟨V, h0, fun m e1 hv => ?_⟩
  have h1 := h m e1 hv
  have e : (fun env5 => Nx u PX env5 k) = fun env5 => u PX env5 k := by funext env5; exact nx_eq
  rw [e] at h1
  simp only [nx_eq] at h1
  exact h1)
theorem useO {x : O} {Q : D → Prop} (q : Q x.toD) : useW (.o x) env Q := q
theorem keyS {x : Str} {Q : Key → Prop} (q : Q (.inr x)) : onSome (keyOf (O.toD (.d (.str x)))) Q := q
theorem keyI {x : Int} {Q : Key → Prop} (q : Q (.inl x)) : onSome (keyOf (O.toD (.d (.int x)))) Q := q
theorem mulA {i j : Int} {Q : Prop} (h : (-18446744073709551616 < i ∧ i < 18446744073709551616) ∨ (-18446744073709551616 < j ∧ j < 18446744073709551616)) (q : Q) : Vx.MulOk i j ∧ Q := by
  rcases h with h | h
  · exact mulS h q
  · exact mulT h q
theorem divA {j : Int} {Q : Prop} (h : 0 < j ∧ j < 1073741824) (q : Q) : DivOk j ∧ Q := ⟨.inl ⟨by omega, by omega⟩, q⟩
theorem rangeA {i : Int} {Q : Prop} (h : -4611686018427387904 ≤ i ∧ i < 4611686018427387904) (q : Q) : inRange i ∧ Q := ⟨h, q⟩
theorem powA {i j : Int} {Q : Prop} (h : 0 ≤ j ∧ j ≤ 1000000 ∧ -18446744073709551616 < i ∧ i < 18446744073709551616) (q : Q) : CPow i j ∧ Q := ⟨⟨h.1, h.2.1, by omega⟩, q⟩
theorem atI_mod {cells : List Int} {p : Int} (h : 0 < cells.length) : ∃ c, atI (cells.map PyData.int) (p.fmod ((cells.map PyData.int).length : Int)) = some (.int c) := by
  obtain ⟨j, hj, e⟩ := ixN_fmod (k := p) (m := cells.length) h
  refine ⟨cells[j], ?_⟩
  unfold atI
  rw [List.length_map, e]
  simp [List.getElem?_eq_getElem hj]
theorem fmod_bd {a b : Int} (h : 0 < b) : 0 ≤ a.fmod b ∧ a.fmod b < b := ⟨Int.fmod_nonneg_of_pos _ h, Int.fmod_lt_of_pos _ h⟩
theorem fdiv_nn {a b : Int} (h : 0 < b) (h2 : 0 ≤ a) : 0 ≤ a.fdiv b := Int.fdiv_nonneg h2 (by omega)
theorem ste {i n : Nat} {Q : Prop} (h : Nat.ble i n = true) (q : Q) : i ≤ n ∧ Q := ⟨Nat.le_of_ble_eq_true h, q⟩
theorem ifF {b : Bool} {A C : Prop} (e : b = false) (h : C) : if b = true then A else C := by subst e; exact h
theorem ifT {b : Bool} {A C : Prop} (e : b = true) (h : A) : if b = true then A else C := by subst e; exact h
end
end Vx
namespace Vx
open PySem PySem.Spec L2
theorem upTo_len {lo : Int} {n : Nat} : (upTo lo n).length = n := by simp [upTo]
theorem upTo_at {lo : Int} {n i : Nat} {x : D} (h : (upTo lo n)[i]? = some x) : i < n ∧ x = .int (lo + i) := by
  obtain ⟨hi, e⟩ := List.getElem?_eq_some_iff.mp h
  rw [upTo_len] at hi
  refine ⟨hi, ?_⟩
  rw [← e]
  simp [upTo]
theorem upTo_mem {lo : Int} {n : Nat} {x : D} (h : x ∈ upTo lo n) : ∃ i : Nat, i < n ∧ x = .int (lo + i) := by
  obtain ⟨i, hi, e⟩ := List.getElem_of_mem h
  have := upTo_at (List.getElem?_eq_some_iff.mpr ⟨hi, e⟩)
  exact ⟨i, this⟩
theorem plain1 {env : Env} {j : Nat} (h : plainAt env j) : ∀ i ∈ [j], plainAt env i := fun i hi => by rw [List.mem_singleton.mp hi]; exact h
theorem plain2 {env : Env} {j k : Nat} (h : plainAt env j) (h2 : plainAt env k) : ∀ i ∈ [j, k], plainAt env i := fun i hi => by
  rcases List.mem_cons.mp hi with rfl | hi
  · exact h
  · rw [List.mem_singleton.mp hi]; exact h2
theorem small {n : Nat} (h : n ≤ 1000000) : n < sizeLine := Nat.lt_of_le_of_lt h (by decide)
theorem smallB {n : Nat} {Q : Prop} (h : n ≤ 1000000) (q : Q) : n < sizeLine ∧ Q := ⟨small h, q⟩
theorem smallE {n : Nat} {Q : Prop} (h : n ≤ 1000000) (q : Q) : n ≤ sizeLine ∧ Q := ⟨Nat.le_of_lt (small h), q⟩
theorem stepC_v {i : Nat} {own : List Nat} {we : WT} {x : D} {env : Env} {acc : List O} {K : Env → List O → Prop} (h : Nat.blt i (void own env).length = true)
    (q : we (fun _ _ => False) ((void own env).set i (some (.d x))) fun w env4 => inW w env4 fun o env5 => acc.length < sizeLine ∧ K (void own env5) (acc ++ [o])) : stepC (.v i) own cAll we x env acc K := by
  refine ⟨by simpa [Nat.blt_eq] using h, ?_⟩
  exact q
theorem stepC_c {i : Nat} {own : List Nat} {wc we : WT} {x : D} {env : Env} {acc : List O} {K : Env → List O → Prop} (h : Nat.blt i (void own env).length = true)
    (q : wc (fun _ _ => False) ((void own env).set i (some (.d x))) fun w env3 => tst w fun b => if b = true then we (fun _ _ => False) env3 fun w env4 => inW w env4 fun o env5 => acc.length < sizeLine ∧ K (void own env5) (acc ++ [o]) else K (void own env3) acc) : stepC (.v i) own (cOne wc) we x env acc K := by
  refine ⟨by simpa [Nat.blt_eq] using h, ?_⟩
  exact q
theorem goFor_cast {xs ys : List D} {step : D → Env → (Env → Prop) → Prop} {env : Env} {Q : Env → Prop} (e : xs = ys) (q : goFor ⟨ys, none⟩ step ys env Q) : goFor ⟨xs, none⟩ step xs env Q := by subst e; exact q
theorem goComp_cast {xs ys : List D} {step : D → Env → List O → (Env → List O → Prop) → Prop} {env : Env} {acc : List O} {Q : Env → List O → Prop} (e : xs = ys) (q : goComp ⟨ys, none⟩ step ys env acc Q) : goComp ⟨xs, none⟩ step xs env acc Q := by subst e; exact q

/-! ### lists of texts, of ints -/
theorem datas_strs (ys : List Str) : datas (ys.map fun y => O.d (.str y)) = some (ys.map PyData.str) := by
  have := datas_map (ys.map PyData.str)
  rw [List.map_map] at this
  exact this
theorem strs_get {ys : List Str} {i : Nat} {x : D} (h : (ys.map PyData.str)[i]? = some x) : ∃ y, ys[i]? = some y ∧ x = .str y := by
  rw [List.getElem?_map] at h
  cases e : ys[i]? with
  | none => rw [e] at h; cases h
  | some y => rw [e] at h; cases h; exact ⟨y, rfl, rfl⟩
theorem ints_get {ys : List Int} {i : Nat} {x : D} (h : (ys.map PyData.int)[i]? = some x) : ∃ y, ys[i]? = some y ∧ x = .int y := by
  rw [List.getElem?_map] at h
  cases e : ys[i]? with
  | none => rw [e] at h; cases h
  | some y => rw [e] at h; cases h; exact ⟨y, rfl, rfl⟩
theorem sub_snoc {α : Type} {ys sub : List α} {i : Nat} {y : α} (h : sub.Sublist (ys.take i)) (e : ys[i]? = some y) : (sub ++ [y]).Sublist (ys.take (i + 1)) := by
  rw [List.take_add_one, e]
  exact h.append (List.Sublist.refl _)
theorem sub_step {α : Type} {ys sub : List α} {i : Nat} (h : sub.Sublist (ys.take i)) : sub.Sublist (ys.take (i + 1)) := h.trans (List.take_sublist_take_left (Nat.le_succ i))
theorem still_strs {ys : List Str} {a : Addr} {i : Nat} {p : List Stp} {env : Env} (h : envAt env i p = some (.lst a (ys.map fun y => O.d (.str y)))) : Src.still ⟨ys.map PyData.str, some (a, i, p)⟩ env := by
  show envAt env i p = some (.lst a ((ys.map PyData.str).map O.d))
  rw [List.map_map]; exact h
theorem still_ints {ns : List Int} {a : Addr} {i : Nat} {p : List Stp} {env : Env} (h : envAt env i p = some (.lst a (ns.map fun i => O.d (.int i)))) : Src.still ⟨ns.map PyData.int, some (a, i, p)⟩ env := by
  show envAt env i p = some (.lst a ((ns.map PyData.int).map O.d))
  rw [List.map_map]; exact h
/-- an item of a list of data by a drawn place -/
theorem at_draw {α : Type} {f : α → D} {ys : List α} {v : Int} (h0 : 0 ≤ v) (h1 : v < ys.length) : ∃ (j : Nat) (y : α), v = j ∧ ys[j]? = some y ∧ atI (ys.map f) v = some (f y) := by
  refine ⟨v.toNat, ys[v.toNat]'(by omega), by omega, List.getElem?_eq_getElem _, ?_⟩
  unfold atI
  rw [ixN_int h0 (by rw [List.length_map]; exact h1)]
  simp [List.getElem?_eq_getElem (show v.toNat < ys.length by omega)]
theorem ix_draw {α : Type} {f : α → O} {ys : List α} {v : Int} (h0 : 0 ≤ v) (h1 : v < ys.length) : ixN (ys.map f).length v = some v.toNat := ixN_int h0 (by rw [List.length_map]; exact h1)
theorem get_draw {α : Type} {f : α → O} {ys : List α} {v : Int} (h0 : 0 ≤ v) (h1 : v < ys.length) : ∃ y, ys[v.toNat]? = some y ∧ (ys.map f)[v.toNat]? = some (f y) :=
  ⟨ys[v.toNat]'(by omega), List.getElem?_eq_getElem _, by simp [List.getElem?_eq_getElem (show v.toNat < ys.length by omega)]⟩
end Vx
namespace Vx
open PySem PySem.Spec L2

/-! ### data of no great size -/
structure Mo (n w : Nat) (d : D) : Prop where
  lay : PyData.canLay0 d = true
  dep : d.depth ≤ n
  shw : PyData.showable d = true
  shr : PyData.leavesShort 90 d = true
  wt : d.weight ≤ w
structure MoA (n w : Nat) (ds : List D) : Prop where
  lay : PyData.canLayAll0 ds = true
  dep : PyData.depthAll ds ≤ n
  shw : PyData.showableAll ds = true
  shr : PyData.leavesShortAll 90 ds = true
  wt : PyData.weightAll ds ≤ w
/-- a text of plain signs -/
def plainS (x : Str) : Prop := ∀ c ∈ x.cps.toList, c < 128
theorem plainS_lit {x : Str} (h : (x.cps.toList.all fun c => decide (c < 128)) = true) : plainS x := fun c hc => of_decide_eq_true (List.all_eq_true.mp h c hc)
theorem Mo.non {n w : Nat} : Mo n w .none := ⟨by simp only [PyData.canLay0], by simp only [PyData.depth]; omega, by simp only [PyData.showable], by simp only [PyData.leavesShort], by simp only [PyData.weight]; omega⟩
theorem Mo.bool {n w : Nat} {b : Bool} : Mo n w (.bool b) := ⟨by simp only [PyData.canLay0], by simp only [PyData.depth]; omega, by simp only [PyData.showable], by simp only [PyData.leavesShort], by simp only [PyData.weight]; omega⟩
theorem Mo.int {n w : Nat} {i : Int} (h : i.natAbs < 10 ^ 80) (hw : 300 ≤ w) : Mo n w (.int i) := by
  have e2 : i.natAbs.log2 < 270 := log2_lt (Nat.lt_trans h (by decide +kernel)) (by decide)
  refine ⟨by simp only [PyData.canLay0], by simp only [PyData.depth]; omega, ?_, ?_, ?_⟩
  · simp only [PyData.showable, decide_eq_true_eq]; omega
  · have e1 : (PyData.shown (.int i)).length ≤ 81 := by
      have e := int_text_length_le10 (by decide) h
      simp only [PyData.shown]
      rw [ofString_length]; exact e
    simp only [PyData.leavesShort, decide_eq_true_eq]; omega
  · simp only [PyData.weight]
    split <;> omega
/-- a small number -/
theorem Mo.intS {n w : Nat} {i : Int} (k : Nat) (h : i.natAbs < 2 ^ k) (hk : 0 < k) (hk2 : k ≤ 200) (hw : k ≤ w) : Mo n w (.int i) := by
  have h80 : i.natAbs < 10 ^ 80 := Nat.lt_of_lt_of_le h (Nat.le_trans (Nat.pow_le_pow_right (by decide) hk2) (by decide +kernel))
  have z := Mo.int (n := n) h80 (Nat.le_refl 300)
  refine ⟨z.lay, z.dep, z.shw, z.shr, ?_⟩
  have e2 : i.natAbs.log2 < k := log2_lt h hk
  simp only [PyData.weight]
  split <;> omega
theorem Mo.str {n w : Nat} {x : Str} (h : plainS x) (hw : x.length ≤ w) : Mo n w (.str x) := by
  refine ⟨?_, by simp only [PyData.depth]; omega, by simp only [PyData.showable], ?_, ?_⟩
  · simp only [PyData.canLay0, PyData.strOk]
    rw [← Array.all_toList]
    exact List.all_eq_true.mpr fun c hc => decide_eq_true (Nat.lt_trans (h c hc) (by decide))
  · simp only [PyData.leavesShort]
    exact List.all_eq_true.mpr fun c hc => decide_eq_true (Nat.lt_trans (h c hc) (by decide))
  · simp only [PyData.weight]; exact hw
theorem MoA.nil {n w : Nat} : MoA n w [] := ⟨by simp only [PyData.canLayAll0], by simp only [PyData.depthAll]; omega, by simp only [PyData.showableAll], by simp only [PyData.leavesShortAll], by simp only [PyData.weightAll]; omega⟩
theorem MoA.cons {n w1 w2 : Nat} {d : D} {ds : List D} (h : Mo n w1 d) (h2 : MoA n w2 ds) : MoA n (w1 + 1 + w2) (d :: ds) := by
  refine ⟨?_, ?_, ?_, ?_, ?_⟩
  · simp only [PyData.canLayAll0, h.lay, h2.lay, Bool.and_self]
  · simp only [PyData.depthAll]; have := h.dep; have := h2.dep; omega
  · simp only [PyData.showableAll, h.shw, h2.shw, Bool.and_self]
  · simp only [PyData.leavesShortAll, h.shr, h2.shr, Bool.and_self]
  · simp only [PyData.weightAll]; have := h.wt; have := h2.wt; omega
theorem Mo.mono {n m w v : Nat} {d : D} (h : Mo n w d) (hn : n ≤ m) (hw : w ≤ v) : Mo m v d := ⟨h.lay, Nat.le_trans h.dep hn, h.shw, h.shr, Nat.le_trans h.wt hw⟩
theorem MoA.mono {n m w v : Nat} {d : List D} (h : MoA n w d) (hn : n ≤ m) (hw : w ≤ v) : MoA m v d := ⟨h.lay, Nat.le_trans h.dep hn, h.shw, h.shr, Nat.le_trans h.wt hw⟩
theorem MoA.of {n w : Nat} : ∀ {ds : List D}, (∀ d ∈ ds, Mo n w d) → MoA n ((w + 1) * ds.length) ds
  | [], _ => MoA.nil
  | d :: ds, h => (MoA.cons (h d List.mem_cons_self) (MoA.of fun x hx => h x (List.mem_cons_of_mem _ hx))).mono (Nat.le_refl _) (by rw [List.length_cons, Nat.mul_succ]; omega)
theorem Mo.tup {n w : Nat} {ds : List D} (h : MoA n w ds) : Mo (n + 1) w (.tuple ds) := by
  refine ⟨by simp only [PyData.canLay0, h.lay], ?_, by simp only [PyData.showable, h.shw], by simp only [PyData.leavesShort, h.shr], ?_⟩
  · simp only [PyData.depth]; have := h.dep; omega
  · simp only [PyData.weight]; exact h.wt
theorem Mo.lst {n w : Nat} {ds : List D} (h : MoA n w ds) : Mo (n + 1) w (.list ds) := by
  refine ⟨by simp only [PyData.canLay0, h.lay], ?_, by simp only [PyData.showable, h.shw], by simp only [PyData.leavesShort, h.shr], ?_⟩
  · simp only [PyData.depth]; have := h.dep; omega
  · simp only [PyData.weight]; exact h.wt
theorem Mo.plain {n w : Nat} {d : D} (h : Mo n w d) (hn : n ≤ 64) : plainD d = true := by
  unfold plainD SeqAt.shaped
  rw [h.lay, PyData.hasDict_of_canLay d h.lay, decide_eq_true (Nat.le_trans h.dep hn)]
  rfl
theorem Mo.show {n w : Nat} {d : D} (h : Mo n w d) (hn : n ≤ 64) (hw : w ≤ 180000) : ShowOk d := by
  refine ⟨h.shw, PyData.hasDict_of_canLay d h.lay, Nat.le_trans (PyData.shown_le 90 (by decide) _ h.shr) ?_, Nat.le_trans h.dep hn⟩
  have m : (90 + 2) * d.weight ≤ 92 * 180000 := Nat.mul_le_mul (by omega) (Nat.le_trans h.wt hw)
  have : (92 : Nat) * 180000 + 200 ≤ sizeLine := by decide
  omega
theorem eqOk_of {x y : D} (hx : plainD x = true) (hy : plainD y = true) : eqOk x y = true := by
  have : (plainD x && plainD y) = true := by rw [hx, hy]; rfl
  cases x <;> cases y <;> first | rfl | exact this
/-- repr of such a thing -/
theorem reprB {d : D} {Q : Prop} (s : ShowOk d) (q : Q) : PyData.showable d = true ∧ d.hasDict = false ∧ d.shown.length ≤ sizeLine ∧ d.depth ≤ 64 ∧ Q := ⟨s.a, s.b, s.c, s.d, q⟩

/-! ### == -/
theorem eqv_int {i j : Int} : PyData.eqv (.int i) (.int j) = decide (i = j) := by simp only [PyData.eqv]; rfl
theorem eqv_str {x y : Str} : PyData.eqv (.str x) (.str y) = decide (x = y) := by simp only [PyData.eqv]; rfl
theorem ne_str_same {x : Str} : (!PyData.eqv (.str x) (.str x)) = false := by rw [eqv_str]; simp
theorem ne_str_eq {x y : Str} (h : x = y) : (!PyData.eqv (.str x) (.str y)) = false := by rw [h]; exact ne_str_same
theorem eqv_bool {x y : Bool} : PyData.eqv (.bool x) (.bool y) = decide (x = y) := by simp only [PyData.eqv]; cases x <;> cases y <;> rfl

/-! ### slices -/
theorem cut_to {xs : List D} {n : Int} (h0 : 0 ≤ n) : cutD xs none (some n) = xs.take n.toNat := by
  unfold cutD
  obtain ⟨k, rfl⟩ : ∃ k : Nat, n = k := ⟨n.toNat, by omega⟩
  rw [HT.sIx_none, show HT.sIx xs.length xs.length (some (k : Int)) = min k xs.length from HT.sIx_nat _ _ k, List.drop_zero, Nat.sub_zero]
  rw [Int.toNat_natCast]
  by_cases h : k ≤ xs.length
  · rw [Nat.min_eq_left h]
  · rw [Nat.min_eq_right (by omega), List.take_length, List.take_of_length_le (by omega)]
theorem cut_from {xs : List D} {n : Int} (h0 : 0 ≤ n) : cutD xs (some n) none = xs.drop n.toNat := by
  unfold cutD
  obtain ⟨k, rfl⟩ : ∃ k : Nat, n = k := ⟨n.toNat, by omega⟩
  rw [HT.sIx_none, show HT.sIx xs.length 0 (some (k : Int)) = min k xs.length from HT.sIx_nat _ _ k, Int.toNat_natCast]
  by_cases h : k ≤ xs.length
  · rw [Nat.min_eq_left h, List.take_of_length_le (by rw [List.length_drop]; omega)]
  · rw [Nat.min_eq_right (by omega), List.drop_length, List.drop_of_length_le (by omega), List.take_nil]
theorem cut_all {xs : List D} : cutD xs none none = xs := by
  unfold cutD
  rw [HT.sIx_none, HT.sIx_none, List.drop_zero, Nat.sub_zero, List.take_length]
theorem cut_mid {xs : List D} {m n : Int} (h0 : 0 ≤ m) (h1 : 0 ≤ n) : cutD xs (some m) (some n) = (xs.drop m.toNat).take (n.toNat - m.toNat) := by
  unfold cutD
  obtain ⟨k, rfl⟩ : ∃ k : Nat, m = k := ⟨m.toNat, by omega⟩
  obtain ⟨l, rfl⟩ : ∃ k : Nat, n = k := ⟨n.toNat, by omega⟩
  rw [show HT.sIx xs.length 0 (some (k : Int)) = min k xs.length from HT.sIx_nat _ _ k, show HT.sIx xs.length xs.length (some (l : Int)) = min l xs.length from HT.sIx_nat _ _ l, Int.toNat_natCast, Int.toNat_natCast]
  by_cases h : k ≤ xs.length
  · rw [Nat.min_eq_left h]
    by_cases h2 : l ≤ xs.length
    · rw [Nat.min_eq_left h2]
    · rw [Nat.min_eq_right (by omega), List.take_of_length_le (by rw [List.length_drop]; omega), List.take_of_length_le (by rw [List.length_drop]; omega)]
  · rw [Nat.min_eq_right (show xs.length ≤ k by omega), List.drop_length, List.drop_of_length_le (show xs.length ≤ k by omega), List.take_nil, List.take_nil]
/-- a comprehension with a test whose turns change nothing -/
theorem goComp_filter {s : Src} {own : List Nat} {t : Tg} {wcnd : WC} {we : WT} (p : D → Bool) (f : D → O) {env0 : Env} (hl : s.xs.length ≤ 1000000) (hs : s.still env0)
    (hstep : ∀ x ∈ s.xs, ∀ acc (K : Env → List O → Prop), acc.length < sizeLine → (p x = true → K env0 (acc ++ [f x])) → (p x = false → K env0 acc) → stepC t own wcnd we x env0 acc K) {Q : Env → List O → Prop}
    (hq : Q env0 ((s.xs.filter p).map f)) : goComp s (stepC t own wcnd we) s.xs env0 [] Q := by
  refine goComp_run (fun i env acc => env = env0 ∧ acc = ((s.xs.take i).filter p).map f) (fun i env acc h => by rw [h.1]; exact hs) (fun i x env acc K hx h hk => ?_) ⟨rfl, rfl⟩ fun env' acc' h => ?_
  · obtain ⟨rfl, rfl⟩ := h
    refine hstep x (List.mem_of_getElem? hx) _ K ?_ (fun hp => hk _ _ ⟨rfl, ?_⟩) fun hp => hk _ _ ⟨rfl, ?_⟩
    · have h1 : ((s.xs.take i).filter p).length ≤ (s.xs.take i).length := List.length_filter_le ..
      rw [List.length_map]
      rw [List.length_take] at h1
      have : (1000000 : Nat) < sizeLine := by decide
      omega
    · rw [List.take_add_one, hx, List.filter_append, List.map_append]
      simp [hp]
    · rw [List.take_add_one, hx, List.filter_append, List.map_append]
      simp [hp]
  · obtain ⟨rfl, rfl⟩ := h
    rw [List.take_length]
    exact hq
theorem goComp_of {α : Type} {ls : List α} {f : α → D} {at? : Option (Addr × Nat × List Stp)} {own : List Nat} {t : Tg} {wcnd : WC} {we : WT} (g : α → O) {env0 : Env} (hl : ls.length ≤ 1000000) (hs : Src.still ⟨ls.map f, at?⟩ env0)
    (hstep : ∀ x ∈ ls, ∀ acc (K : Env → List O → Prop), acc.length < sizeLine → K env0 (acc ++ [g x]) → stepC t own wcnd we (f x) env0 acc K) {Q : Env → List O → Prop}
    (hq : Q env0 (ls.map g)) : goComp ⟨ls.map f, at?⟩ (stepC t own wcnd we) (ls.map f) env0 [] Q := by
  refine goComp_run (s := ⟨ls.map f, at?⟩) (fun i env acc => env = env0 ∧ acc = (ls.take i).map g) (fun i env acc h => by rw [h.1]; exact hs) (fun i x env acc K hx h hk => ?_) ⟨rfl, rfl⟩ fun env' acc' h => ?_
  · obtain ⟨rfl, rfl⟩ := h
    have hx : (ls.map f)[i]? = some x := hx
    rw [List.getElem?_map] at hx
    cases e : ls[i]? with
    | none => rw [e] at hx; cases hx
    | some y =>
      rw [e] at hx
      cases hx
      refine hstep y (List.mem_of_getElem? e) _ K ?_ (hk _ _ ⟨rfl, ?_⟩)
      · rw [List.length_map, List.length_take]
        have : (1000000 : Nat) < sizeLine := by decide
        omega
      · rw [List.take_add_one, e, List.map_append]; rfl
  · obtain ⟨rfl, rfl⟩ := h
    have : (ls.take (Src.mk (ls.map f) at?).xs.length) = ls := List.take_of_length_le (by show _ ≤ (ls.map f).length; rw [List.length_map]; omega)
    rw [this]
    exact hq
theorem goComp_ofF {α : Type} {ls : List α} {f : α → D} {at? : Option (Addr × Nat × List Stp)} {own : List Nat} {t : Tg} {wcnd : WC} {we : WT} (p : α → Bool) (g : α → O) {env0 : Env} (hl : ls.length ≤ 1000000) (hs : Src.still ⟨ls.map f, at?⟩ env0)
    (hstep : ∀ x ∈ ls, ∀ acc (K : Env → List O → Prop), acc.length < sizeLine → (p x = true → K env0 (acc ++ [g x])) → (p x = false → K env0 acc) → stepC t own wcnd we (f x) env0 acc K) {Q : Env → List O → Prop}
    (hq : Q env0 ((ls.filter p).map g)) : goComp ⟨ls.map f, at?⟩ (stepC t own wcnd we) (ls.map f) env0 [] Q := by
  refine goComp_run (s := ⟨ls.map f, at?⟩) (fun i env acc => env = env0 ∧ acc = ((ls.take i).filter p).map g) (fun i env acc h => by rw [h.1]; exact hs) (fun i x env acc K hx h hk => ?_) ⟨rfl, rfl⟩ fun env' acc' h => ?_
  · obtain ⟨rfl, rfl⟩ := h
    have hx : (ls.map f)[i]? = some x := hx
    rw [List.getElem?_map] at hx
    cases e : ls[i]? with
    | none => rw [e] at hx; cases hx
    | some y =>
      rw [e] at hx
      cases hx
      refine hstep y (List.mem_of_getElem? e) _ K ?_ (fun hp => hk _ _ ⟨rfl, ?_⟩) fun hp => hk _ _ ⟨rfl, ?_⟩
      · have h1 : ((ls.take i).filter p).length ≤ (ls.take i).length := List.length_filter_le ..
        rw [List.length_map]
        rw [List.length_take] at h1
        have : (1000000 : Nat) < sizeLine := by decide
        omega
      · rw [List.take_add_one, e, List.filter_append, List.map_append]; simp [hp]
      · rw [List.take_add_one, e, List.filter_append, List.map_append]; simp [hp]
  · obtain ⟨rfl, rfl⟩ := h
    have : (ls.take (Src.mk (ls.map f) at?).xs.length) = ls := List.take_of_length_le (by show _ ≤ (ls.map f).length; rw [List.length_map]; omega)
    rw [this]
    exact hq
theorem boolsOf_map {α : Type} (f : α → Bool) : ∀ ls : List α, boolsOf (ls.map fun l => PyData.bool (f l)) = some (ls.map f)
  | [] => rfl
  | l :: ls => by
    show (boolsOf (ls.map fun l => PyData.bool (f l))).map (f l :: ·) = _
    rw [boolsOf_map f ls]; rfl
theorem any_eqv_str {t : Str} : ∀ {zs : List Str}, ((zs.map PyData.str).any fun y => PyData.eqv y (.str t)) = decide (t ∈ zs)
  | [] => by simp
  | z :: zs => by
    rw [List.map_cons, List.any_cons, any_eqv_str, eqv_str]
    by_cases h : z = t
    · subst h; simp
    · simp [h, Ne.symm h, List.mem_cons, show ¬ t = z from fun e => h e.symm]
theorem all_scal_str : ∀ {zs : List Str}, (zs.map PyData.str).all isScal = true
  | [] => rfl
  | z :: zs => by rw [List.map_cons, List.all_cons, all_scal_str]; rfl
theorem map_erase {α β : Type} (f : α → β) : ∀ (l : List α) (i : Nat), (l.map f).eraseIdx i = (l.eraseIdx i).map f
  | [], _ => rfl
  | _ :: _, 0 => rfl
  | x :: l, i + 1 => by
    show f x :: (l.map f).eraseIdx i = f x :: (l.eraseIdx i).map f
    rw [map_erase f l i]
theorem erase_perm {α : Type} : ∀ {l : List α} {i : Nat} {x : α}, l[i]? = some x → (x :: l.eraseIdx i).Perm l
  | [], _, _, h => by simp at h
  | y :: l, 0, x, h => by
    simp at h; subst h
    exact List.Perm.refl _
  | y :: l, i + 1, x, h => by
    have ih := erase_perm (l := l) (i := i) (x := x) (by simpa using h)
    show (x :: y :: l.eraseIdx i).Perm (y :: l)
    exact (List.Perm.swap y x _).trans (ih.cons y)
theorem toDs_of {α : Type} (f : α → D) : ∀ ls : List α, O.toDs (ls.map fun l => O.d (f l)) = ls.map f
  | [] => rfl
  | l :: ls => by
    show (O.d (f l)).toD :: O.toDs (ls.map fun l => O.d (f l)) = _
    rw [toDs_of f ls]; rfl
theorem srcL {a : Addr} {ds : List D} {env : Env} {Q : Src → Prop} (q : Q ⟨ds, none⟩) : srcW (.o (.obj a .lst (ds.map O.d))) env Q := by
  show onSome (seqOf (.list (O.toDs (ds.map O.d)))) fun ds => Q ⟨ds, none⟩
  rw [O.toDs_map]; exact q
theorem srcLf {α : Type} {f : α → D} {a : Addr} {xs : List α} {env : Env} {Q : Src → Prop} (q : Q ⟨xs.map f, none⟩) : srcW (.o (.obj a .lst (xs.map fun x => O.d (f x)))) env Q := by
  show onSome (seqOf (.list (O.toDs (xs.map fun x => O.d (f x))))) fun ds => Q ⟨ds, none⟩
  rw [toDs_of]; exact q
theorem at_drawO {α : Type} {f : α → O} {ys : List α} {v : Int} (h0 : 0 ≤ v) (h1 : v < ys.length) : ∃ (j : Nat) (y : α), v = j ∧ ys[j]? = some y ∧ atI (ys.map f) v = some (f y) := by
  refine ⟨v.toNat, ys[v.toNat]'(by omega), by omega, List.getElem?_eq_getElem _, ?_⟩
  unfold atI
  rw [ixN_int h0 (by rw [List.length_map]; exact h1)]
  simp [List.getElem?_eq_getElem (show v.toNat < ys.length by omega)]
theorem datas_of {α : Type} (f : α → D) : ∀ ls : List α, datas (ls.map fun l => O.d (f l)) = some (ls.map f)
  | [] => rfl
  | l :: ls => by
    show (datas (ls.map fun l => O.d (f l))).map (f l :: ·) = _
    rw [datas_of f ls]; rfl
end Vx
namespace Vx
open PySem PySem.Spec L2
/-! ### a comprehension within a comprehension -/
theorem relabel_lookup {env : PySem.Env} {x : Str} : ∀ {names : List (Str × NameKind)}, names.lookup x = some .cell ∨ names.lookup x = some .free →
    (names.map fun (n, k) => if (k == NameKind.free && env.scope.kind == .function && env.kindOf n == some .cell) then (n, NameKind.cell) else (n, k)).lookup x = some .cell ∨
    (names.map fun (n, k) => if (k == NameKind.free && env.scope.kind == .function && env.kindOf n == some .cell) then (n, NameKind.cell) else (n, k)).lookup x = some .free
  | [], h => by rcases h with h | h <;> cases h
  | (n, k) :: r, h => by
    have ih := relabel_lookup (env := env) (x := x) (names := r)
    rw [List.map_cons]
    by_cases e : x = n
    · subst e
      have h : k = .cell ∨ k = .free := by
        rcases h with h | h
        · rw [List.lookup_cons_self] at h; exact .inl (Option.some.inj h)
        · rw [List.lookup_cons_self] at h; exact .inr (Option.some.inj h)
      by_cases c : (k == NameKind.free && env.scope.kind == .function && env.kindOf x == some .cell) = true
      · dsimp only
        rw [if_pos c, List.lookup_cons_self]
        exact .inl rfl
      · dsimp only
        rw [if_neg c, List.lookup_cons_self]
        rcases h with h | h
        · exact .inl (by rw [h])
        · exact .inr (by rw [h])
    · have en : (x == n) = false := by simpa using e
      have h : r.lookup x = some .cell ∨ r.lookup x = some .free := by
        simpa [List.lookup, en] using h
      have ih := ih h
      by_cases c : (k == NameKind.free && env.scope.kind == .function && env.kindOf n == some .cell) = true
      · dsimp only
        rw [if_pos c]
        simpa [List.lookup, en] using ih
      · dsimp only
        rw [if_neg c]
        simpa [List.lookup, en] using ih
theorem blk_in {N : List Str} {scope scope' : Scope} {cl : List (Str × Addr)} {C : Addr} {env : PySem.Env} {own : List (Str × Nat)} (h : BlkOk N scope scope' own) : BlkOk N (compEnvC scope cl C env).scope scope' own :=
  ⟨h.kind, h.uniq, h.ix, fun y hy e => relabel_lookup (h.free y hy e), h.own⟩
end Vx
namespace Vx
open PySem PySem.Spec L2
section
variable {X : Cx} {B : Bs} {Wx : WX} {a b c e o : Expr} {wa wb wc we wo wi : WT} {pos : Pos} {es : List Expr} {wl : WA}

/-! ### names of the top: texts, numbers -/
theorem pe_gc {x : Str} {v : V} {u : Value} {p : Pos} (hg : Gl X x) (hm : X.mg x = some u) (r : RelV v u) (hdb : (x == ("__debug__" : Str)) = false) : PE X (.Name x p) (tC v) :=
  ⟨fun pins s σ H Q I h => ld_glob I hg hm ⟨v, H, I, r, h⟩ hdb⟩
theorem c_gstr {x s : Str} {t : Tok} {p : Pos} (hg : Gl X x) (hm : X.mg x = some (.str s t)) (hdb : (x == ("__debug__" : Str)) = false) : PV X B Wx (.Name x p) (wK (.str s)) := c_str (pe_gc hg hm ⟨t, rfl⟩ hdb)
theorem c_gint {x : Str} {i : Int} {t : Tok} {p : Pos} (hg : Gl X x) (hm : X.mg x = some (.int i t)) (hdb : (x == ("__debug__" : Str)) = false) : PV X B Wx (.Name x p) (wK (.int i)) := c_int (pe_gc hg hm ⟨t, rfl⟩ hdb)
end

/-! ### t[::-1] of a tuple -/
section
open PyProof.Rows HT
variable {prog : Program} {w : World} {A : Around} {E : Value → Shared → Prop} {s : Shared}
theorem sliceApplied_rev {sl : Addr} {vl vu vs : Value} {n : Nat} {Q : Int × Int × Nat → Shared → Prop} (hs : s.heap.IsSliceOf sl vl vu vs) (pl : IsPart vl none) (pu : IsPart vu none) (ps : IsPart vs (some (-1)))
    (h : Q ((n : Int) - 1, -1, n) s) : wpAny (model prog w) A (Builtin.Slice.sliceApplied (.ref sl) (pure (n : Int))) Q E s := by
  obtain ⟨os, hos, hcs, hds⟩ := id hs
  unfold Builtin.Slice.sliceApplied Builtin.Slice.sliceFields
  refine wpAny_bind (wpAny_bind (wpAny_field hos hds (x := vl) rfl (wpAny_bind (wpAny_field hos hds (x := vu) rfl (wpAny_bind (wpAny_field hos hds (x := vs) rfl (wpAny_pure ?_)))))))
  refine wpAny_bind (HT.slicePart_ ps ?_)
  show wpAny _ _ (if ((-1 : Int) == 0) = true then _ else _) _ _ s
  rw [if_neg (by decide)]
  refine wpAny_bind (HT.slicePart_ pl (wpAny_bind (HT.slicePart_ pu (wpAny_bind (wpAny_pure ?_)))))
  have e : Builtin.Slice.sliceAdjust none none (-1) (n : Int) = ((n : Int) - 1, -1) := rfl
  have e2 : Builtin.Slice.slicePlaces ((n : Int) - 1) (-1) (-1) = n := by
    unfold Builtin.Slice.slicePlaces
    rw [if_neg (by decide)]
    by_cases h : (n : Int) - 1 > -1
    · rw [if_pos h, show (- -1 : Int) = 1 by decide, Int.ediv_one]; omega
    · rw [if_neg h]; omega
  show wpAny _ _ (match Builtin.Slice.sliceAdjust none none (-1) (n : Int) with | (lo, hi) => pure (lo, (-1 : Int), Builtin.Slice.slicePlaces lo hi (-1))) _ _ s
  rw [e]
  show wpAny _ _ (pure ((n : Int) - 1, (-1 : Int), Builtin.Slice.slicePlaces ((n : Int) - 1) (-1) (-1))) _ _ s
  rw [e2]
  exact wpAny_pure h
theorem fm_congr {α β : Type} {f g : α → Option β} : ∀ {l : List α}, (∀ x ∈ l, f x = g x) → l.filterMap f = l.filterMap g
  | [], _ => rfl
  | x :: l, h => by
    rw [List.filterMap_cons, List.filterMap_cons, h x List.mem_cons_self, fm_congr fun y hy => h y (List.mem_cons_of_mem _ hy)]
theorem pick_rev (xs : Array Value) : ((List.range xs.size).filterMap fun (m : Nat) => xs[((xs.size : Int) - 1 + (m : Int) * (-1)).toNat]?).toArray = xs.toList.reverse.toArray := by
  congr 1
  have e : ((List.range xs.size).filterMap fun (m : Nat) => xs[((xs.size : Int) - 1 + (m : Int) * (-1)).toNat]?) = ((List.range xs.size).map fun k => xs.size - 1 - k).filterMap (xs[·]?) := by
    rw [List.filterMap_map]
    refine fm_congr fun m hm => ?_
    have := List.mem_range.mp hm
    show xs[((xs.size : Int) - 1 + (m : Int) * (-1)).toNat]? = xs[xs.size - 1 - m]?
    congr 1
    omega
  rw [e, PySem.W.krv_range, List.filterMap_reverse, PySem.W.krv_all]
theorem getItem_tuple_rev {t sl : Addr} {items : Array Value} {vl vu vs : Value} {Q : Value → Shared → Prop} (ht : PyProof.Rows.IsTup s.heap t items) (hs : s.heap.IsSliceOf sl vl vu vs) (pl : IsPart vl none) (pu : IsPart vu none) (ps : IsPart vs (some (-1)))
    (h : Q (.ref s.heap.objs.size) { s with heap := s.heap.push { cls := .type "tuple", data := .seq items.toList.reverse.toArray } })
    (hsz : items.size ≤ sizeLine) : wpAny (model prog w) A (getItem (.ref t) (.ref sl)) Q E s := by
  have htake : sizeOk (.seq items.toList.reverse.toArray) := by
    show items.toList.reverse.toArray.size ≤ sizeLine
    rw [List.size_toArray, List.length_reverse, Array.length_toList]
    exact hsz
  obtain ⟨os, hos, hcs, hds⟩ := id hs
  have hTs : s.TypeIs (.ref sl) "slice" := ⟨os, hos, hcs⟩
  unfold getItem
  try with_reducible refine wpAny_holding ?_
  first | refine wpAny_bind (wpAny_pure ?_) | skip
  refine wpAny_bind (wpAny_sequenceKey ht.typeIs (by decide) ?_)
  refine wpAny_bind (wpAny_callSpecial?_slot (name := Str.ofString "__getitem__") ht.typeIs PyProof.Rows.slot_tuple_getitem
    (wpAny_call_entry PyProof.Rows.slot_tuple_getitem ht.typeIs entry_tuple_getitem ?_ (args_tuple_getitem _ _)))
  show wpAny _ _ (Builtin.Tuple.tupleItemsOf (.ref t) >>= _) _ _ s
  refine wpAny_bind (tupleItemsOf_ ht ?_)
  refine wpAny_bind (wpAny_typeOf hTs ?_)
  rw [if_pos (by decide)]
  refine wpAny_bind (sliceApplied_rev hs pl pu ps ?_)
  have hno : ¬ ((((items.size : Int) - 1) == 0 && (-1 : Int) == 1 && items.size == items.size) = true) := by
    intro q
    rw [Bool.and_eq_true, Bool.and_eq_true] at q
    exact absurd (eq_of_beq q.1.2) (by decide)
  show wpAny _ _ (if (((items.size : Int) - 1) == 0 && (-1 : Int) == 1 && items.size == items.size) = true then _ else _) _ _ s
  rw [if_neg hno, pick_rev]
  first
    | exact wpAny_bind (m := Builtin.Tuple.tupleExact _) (wpAny_newObj_type (wpAny_pure ⟨_, rfl, wpAny_pure h⟩) htake)
    | exact wpAny_bind (m := Builtin.Tuple.tupleExact _) (wpAny_newObj_type (wpAny_bind (wpAny_pure (wpAny_pure ⟨_, rfl, wpAny_pure h⟩))) htake)
    | exact wpAny_bind (m := Builtin.Tuple.tupleExact _) (wpAny_newObj_type (wpAny_pure (wpAny_pure h)) htake)
end

section
open PyProof.Rows HT
variable {X : Cx} {B : Bs} {Wx : WX} {a b c e o : Expr} {wa wb wc we wo wi : WT} {pos : Pos} {es : List Expr} {wl : WA}
def tRevT (K : PySem.W.Frag) (te : TE) : TE := fun σ H Q => te σ H fun x H1 => ∃ a xs, x = .ref a ∧ SqT K H1 a xs ∧ ∀ p, H1 p = none → Q (.ref p) (upd H1 p (.tup xs.reverse))
theorem pe_revT {te : TE} {k : Nat} {p1 p2 p3 : Pos} (he : PE X e te) : PE X (.Subscript e (.Slice none none (some (.UnaryOp .USub (.Constant (.int 1) k p1) p2)) p3) pos) (tRevT X.K te) := by
  refine ⟨fun pins s σ H Q I h => ?_⟩
  refine Subscript_ (thn (he.run pins s σ H _ I h) fun v s1 ⟨x, H1, I1, r1, q1⟩ => ?_)
  obtain ⟨a, xs, ex, hx, q⟩ := q1
  subst ex
  cases r1
  have hst : PO X (some (.UnaryOp .USub (.Constant (.int 1) k p1) p2)) (tPart (tUn (rU fun i => .int (-i)) (tC (.int 1)))) := po_some (pe_un un_neg pe_int)
  refine wpAny_Slice (thn (po_none.run pins s1 σ H1 (fun o H2 => o = none ∧ H2 = H1) I1 ⟨rfl, rfl⟩) fun vl s2 ⟨l, H2, I2, pl, el, e2⟩ => ?_)
  subst el e2
  refine thn (po_none.run pins s2 σ H2 (fun o H3 => o = none ∧ H3 = H2) I2 ⟨rfl, rfl⟩) fun vu s3 ⟨u, H3, I3, pu, eu, e3⟩ => ?_
  subst eu e3
  refine thn (hst.run pins s3 σ H3 (fun o H4 => o = some (-1) ∧ H4 = H3) I3 ⟨1, rfl, -1, rfl, rfl, rfl⟩) fun vs s4 ⟨o, H4, I4, ps, eo, e4⟩ => ?_
  subst eo e4
  have I5 : Inv X pins σ H4 { s4 with heap := s4.heap.push { cls := .type "slice", data := .fields #[vl, vu, vs] } } := I4.kept (t' := s4.toks) fun b ob q => Heap.get?_push_of_some _ q
  obtain ⟨its, r, ht, hz⟩ := I5.tuple hx
  have hlen := r.length
  show wpAny (model X.prog X.w) X.A (subscriptTail e (.Slice none none (some (.UnaryOp .USub (.Constant (.int 1) k p1) p2)) p3) (.ref a) (.ref s4.heap.objs.size)) (EP X pins σ Q) X.xe { s4 with heap := s4.heap.push { cls := .type "slice", data := .fields #[vl, vu, vs] } }
  refine tail_any (ops := [.ref a, .ref s4.heap.objs.size]) ht.typeIs (PyProof.Rows.slot_tuple_getitem.lookup) ?_ (by with_unfolding_all rfl)
  refine getItem_tuple_rev ht (Heap.IsSliceOf.new _ vl vu vs) pl pu ps ?_ (by rw [List.size_toArray]; omega)
  refine ⟨.ref _, _, I5.laid (t' := s4.toks) (o := .tup xs.reverse) (fun b ob q => Heap.get?_push_of_some _ q) (Nat.le_refl _) ?_, rfl, q _ (I5.hok.fresh (Nat.le_refl _))⟩
  exact ⟨by rw [List.length_reverse]; exact hz, _, r.reverse, IsTup.new _ _⟩
def wRevT (we : WT) : WT := fun PX env P => we PX env fun w env1 => useWs [w] env1 fun ds => match ds with
  | [.tuple xs] => P (.o (.d (.tuple xs.reverse))) env1
  | _ => False
theorem c_revT {k : Nat} {p1 p2 p3 : Pos} (h : PV X B Wx e we) : PV X B Wx (.Subscript e (.Slice none none (some (.UnaryOp .USub (.Constant (.int 1) k p1) p2)) p3) pos) (wRevT we) := by
  refine PE_imp (pe_revT h) fun σ H Q ⟨S, env, T, P, PX, r, hw, hP, hX⟩ => ?_
  refine ⟨S, env, T, _, PX, r, hw, fun w env1 v S1 H1 hq r1 => ?_, hX⟩
  have r1' : R X.K B S1 H1 σ env1 ([(v, w)] ++ T) := r1
  obtain ⟨S2, ds, r2, q, ud⟩ := r1'.usedAll hq
  have r3 : R X.K B S2 H1 σ env1 T := r2.pops
  replace ud : UdA X.K S2 H1 [v] ds := ud
  cases ud with
  | cons u us =>
    cases us
    rename_i d
    cases d with
    | tuple xs =>
      obtain ⟨p, vs, rfl, hq, ra⟩ := u.tup
      refine ⟨p, vs, rfl, hq, fun p' hp => ?_⟩
      exact hP _ _ _ _ _ q (newTup r3 hp ra.reverse)
    | _ => exact q.elim

/-! ### isinstance(x, (A, B)) -/
theorem ty_up {K : PySem.W.Frag} {H : Hp} {v : V} {t : Value} {p : Addr} {o : HO} (h : TyX K H v t) (hp : H p = none) : TyX K (upd H p o) v t := by
  cases h with
  | base b =>
    refine .base ?_
    cases b with
    | lst e => exact .lst ((upd_ne (ne_of_none e hp)).trans e)
    | frz e => exact .frz ((upd_ne (ne_of_none e hp)).trans e)
    | tup e => exact .tup ((upd_ne (ne_of_none e hp)).trans e)
    | dK e => exact .dK ((upd_ne (ne_of_none e hp)).trans e)
    | dT e => exact .dT ((upd_ne (ne_of_none e hp)).trans e)
    | ins e c1 c2 c3 c4 c5 => exact .ins ((upd_ne (ne_of_none e hp)).trans e) c1 c2 c3 c4 c5
    | _ => constructor
  | byt b => exact .byt b
  | set e => exact .set ((upd_ne (ne_of_none e hp)).trans e)
  | kList e c => exact .kList e c
  | kTuple e c => exact .kTuple e c
  | kDict e c => exact .kDict e c
  | fTuple e => exact .fTuple ((upd_ne (ne_of_none e hp)).trans e)
  | fDict e => exact .fDict ((upd_ne (ne_of_none e hp)).trans e)
theorem kd_up {K : PySem.W.Frag} {H : Hp} {v : V} {t : Value} {p : Addr} {o : HO} (h : KdX K H v t) (hp : H p = none) : KdX K (upd H p o) v t := by
  cases h with
  | ty h => exact .ty (ty_up h hp)
  | ex h h2 k => exact .ex ((upd_ne (ne_of_none h hp)).trans h) ((upd_ne (ne_of_none h2 hp)).trans h2) k
theorem kit_twoX {K : PySem.W.Frag} {a b c : Value} {r1 r2 : Bool} (e1 : PySem.W.kitOne K a b = some r1) (e2 : PySem.W.kitOne K a c = some r2) : PySem.W.kitAny K a [b, c] = some (r1 || r2) := by
  unfold PySem.W.kitAny
  rw [e1]
  cases r1
  · show PySem.W.kitAny K a [c] = _
    unfold PySem.W.kitAny
    rw [e2]
    cases r2
    · rfl
    · rfl
  · rfl
theorem kit_two {K : PySem.W.Frag} {a b c : String} {r1 r2 : Bool} (h1 : kitB a b = some r1) (h2 : kitB a c = some r2) : PySem.W.kitAny K (.type a) [.type b, .type c] = some (r1 || r2) := by
  have e1 := kit_ty (K := K) h1
  have e2 := kit_ty (K := K) h2
  unfold PySem.W.kitAny
  rw [e1]
  cases r1
  · show PySem.W.kitAny K (.type a) [.type c] = _
    unfold PySem.W.kitAny
    rw [e2]
    cases r2
    · rfl
    · rfl
  · rfl
theorem c_isis {t1 t2 : Ty} {n1 n2 : Str} {p pt p1 p2 : Pos} {kt : Nat} (hg : Gl X "isinstance") (hm : X.mg "isinstance" = none) (hv : bootBuiltins "isinstance" = some (.builtin "isinstance"))
    (hg1 : Gl X n1) (hm1 : X.mg n1 = none) (hv1 : bootBuiltins n1 = some (.type (tyName t1))) (hn1 : n1 ≠ "__name__") (hd1 : (n1 == ("__debug__" : Str)) = false)
    (hg2 : Gl X n2) (hm2 : X.mg n2 = none) (hv2 : bootBuiltins n2 = some (.type (tyName t2))) (hn2 : n2 ≠ "__name__") (hd2 : (n2 == ("__debug__" : Str)) = false)
    (he : PV X B Wx e we) (hs1 : starEach [e, .Tuple [.Name n1 p1, .Name n2 p2] kt pt] X.env = (false, eval e X.env) :: starEach [.Tuple [.Name n1 p1, .Name n2 p2] kt pt] X.env)
    (hs2 : starEach [.Tuple [.Name n1 p1, .Name n2 p2] kt pt] X.env = (false, eval (.Tuple [.Name n1 p1, .Name n2 p2] kt pt) X.env) :: starEach [] X.env)
    (hs3 : starEach [.Name n1 p1, .Name n2 p2] X.env = (false, eval (.Name n1 p1) X.env) :: starEach [.Name n2 p2] X.env) (hs4 : starEach [.Name n2 p2] X.env = (false, eval (.Name n2 p2) X.env) :: starEach [] X.env)
    (hpl : (backTo pos (starEach [.Tuple [.Name n1 p1, .Name n2 p2] kt pt] X.env)).any (·.1) = false) :
    Snd X B Wx (.Call (.Name "isinstance" p) [e, .Tuple [.Name n1 p1, .Name n2 p2] kt pt] [] pos) (wPrim (.isis [t1, t2]) (aCons we aNil)) := by
  have ht : PE X (.Tuple [.Name n1 p1, .Name n2 p2] kt pt) (tTup (tCons (tC (.ty (tyName t1))) (tCons (tC (.ty (tyName t2))) tNil))) :=
    pe_tup (pa_cons (pe_bltn hg1 hm1 hv1 rfl hn1 hd1) (pa_cons (pe_bltn hg2 hm2 hv2 rfl hn2 hd2) pa_nil hs4) hs3)
  have h1 := pe_callB (X := X) (p := p) call_isiTX hg hm hv (pa_cons he (pa_cons ht pa_nil hs2) hs1) (by decide) (by decide) hs1 hpl
  have h2 : PV X B Wx (.Call (.Name "isinstance" p) [e, .Tuple [.Name n1 p1, .Name n2 p2] kt pt] [] pos) (wPrim (.isis [t1, t2]) (aCons we aNil)) := by
    refine PE_imp h1 fun σ H Q ⟨S, env, T, P, PX, r, hw, hP, hX⟩ => ?_
    refine ⟨S, env, T, _, PX, r, hw, fun x env1 v S1 H1 q r1 => ?_, hX⟩
    have q : useW x env1 fun d => P (.o (.d (.bool ([t1, t2].any fun t => decide (t ∈ tyOf d))))) env1 := q
    have rr : R X.K B S1 H1 σ env1 ([(v, x)] ++ T) := r1
    obtain ⟨S2, r2, f⟩ := rr.used
    obtain ⟨d, q, u⟩ := f (v, x) List.mem_cons_self _ q
    refine ⟨show 2 ≤ sizeLine by decide, fun p' hp => ?_⟩
    have r3 : R X.K B S2 (upd H1 p' (.tup [.ty (tyName t1), .ty (tyName t2)])) σ env1 T := r2.pops.alloc (o := .tup [.ty (tyName t1), .ty (tyName t2)]) hp
    obtain ⟨tv, ty, hk⟩ := ud_kd u
    refine ⟨v, p', _, _, [.type (tyName t1), .type (tyName t2)], _, rfl, upd_same, .cons (.ty _) (.cons (.ty _) .nil), kd_up ty hp, kit_twoX (hk t1) (hk t2), ?_⟩
    have e : ([t1, t2].any fun t => decide (t ∈ tyOf d)) = (decide (t1 ∈ tyOf d) || decide (t2 ∈ tyOf d)) := by
      simp [List.any]
    rw [e] at q
    exact hP _ _ _ _ _ q (r3.push (.bl _))
  exact snd_plain h2 (by intro _; rfl)
end
end Vx
namespace Vx
open PySem PySem.Spec L2

/-! ### a def that calls itself: by how deep it may go -/
theorem fnV_zero {P : Program} {w : World} {K : PySem.W.Frag} {mg : Str → Option Value} {base : Heap} {k np : Nat} {f : Addr} {fd : FuncData} {ps : List Str} : FnV P w K mg base k f fd ps (spV K mg np fun _ _ _ => False) :=
  ⟨fun vs H Q E ⟨_, _, _, _, _, _, _, _, _, h, _⟩ => h.elim, fun A outer s H g us vs Q E _ _ _ _ _ ⟨_, _, _, _, _, _, _, _, _, h, _⟩ => h.elim⟩
def fixF (w : FSem → WS) (n : Nat) : Nat → FSem
  | 0 => fun _ _ _ => False
  | m + 1 => semW (w (fixF w n m)) n
theorem fixF_s {w : FSem → WS} {n m : Nat} : fixF w n (m + 1) = semW (w (fixF w n m)) n := rfl
section
variable {X : Cx} {B : Bs} {Wx : WX} {a b c e o : Expr} {wa wb wc we wo wi : WT} {pos : Pos} {es : List Expr} {wl : WA}

/-! ### {} -/
def wDct0 : WT := fun _ env P => ∀ a, P (.o (.dct a [] [])) env
theorem c_dct0 : PV X B Wx (.Dict [] [] pos) wDct0 := by
  refine PE_imp pe_dnewK fun σ H Q ⟨S, env, T, P, PX, r, hw, hP, hX⟩ => ?_
  intro p hnp
  exact hP _ _ _ _ _ (hw p) (R.newObj (P := []) (.dct []) ⟨rfl, List.nodup_nil⟩ r hnp .nil fun b => Nat.zero_le _)

/-! ### zip of two lists, of two tuples: data from then on -/
def zipD (xs ys : List D) : List D := (xs.zip ys).map fun p => PyData.tuple [p.1, p.2]
theorem zipD_get {xs ys : List D} {i : Nat} {d : D} (h : (zipD xs ys)[i]? = some d) : ∃ x y, xs[i]? = some x ∧ ys[i]? = some y ∧ d = .tuple [x, y] := by
  unfold zipD at h
  rw [List.getElem?_map] at h
  cases e : (xs.zip ys)[i]? with
  | none => rw [e] at h; cases h
  | some p =>
    rw [e] at h
    obtain ⟨x, y⟩ := p
    rw [List.getElem?_zip_eq_some] at e
    exact ⟨x, y, e.1, e.2, (Option.some.inj h).symm⟩
theorem zipD_length {xs ys : List D} : (zipD xs ys).length = min xs.length ys.length := by unfold zipD; simp
def zipW : D → D → (Src → Prop) → Prop
  | .list xs, .list ys, Q => Q ⟨zipD xs ys, none⟩
  | .tuple xs, .tuple ys, Q => Q ⟨zipD xs ys, none⟩
  | _, _, _ => False
def iZip2 (wa wb : WT) : WI := fun PX env P => wa PX env fun w env1 => wb PX env1 fun u env2 => escW w env2 fun dx env3 => escW u env3 fun dy env4 => zipW dx dy fun s => P s env4
theorem i_zip2 {p tpos : Pos} {elts : List Expr} {kk : Nat} (hg : Gl X "zip") (hm : X.mg "zip" = none) (ha : PV X B Wx a wa) (hb : PV X B Wx b wb) (hs : starEach [a, b] X.env = (false, eval a X.env) :: starEach [b] X.env) (hs2 : starEach [b] X.env = (false, eval b X.env) :: starEach [] X.env) (hpl : (backTo pos (starEach [b] X.env)).any (·.1) = false) :
    PI X (.Tuple elts kk tpos) (.Call (.Name "zip" p) [a, b] [] pos) (tI X B Wx (iZip2 wa wb)) := by
  refine PI_imp (RZ.pi_zipA hg hm (pa_cons ha (pa_cons hb pa_nil hs2) hs) hs hpl) fun σ H Rk ⟨S, env, T, P, PX, r, hw, hP, hX⟩ => ?_
  refine ⟨S, env, T, _, PX, r, hw, fun x env1 vx S1 H1 hq r1 => ?_, hX⟩
  refine ⟨S1, env1, (vx, x) :: T, _, PX, r1, hq, fun u env2 vu S2 H2 hk r2 => ?_, hX⟩
  have r3 : R X.K B S2 H2 σ env2 ((vx, x) :: (vu, u) :: T) := r2.perm (fun t ht => by
    rcases List.mem_cons.mp ht with e | ht
    · subst e; exact List.mem_cons_of_mem _ List.mem_cons_self
    · rcases List.mem_cons.mp ht with e | ht
      · subst e; exact List.mem_cons_self
      · exact List.mem_cons_of_mem _ (List.mem_cons_of_mem _ ht)) fun b => by
    show cntW b x + (cntW b u + cntT b T) ≤ cntW b u + (cntW b x + cntT b T)
    omega
  obtain ⟨dx, env3, S3, hk, r4⟩ := r3.esc hk
  have r5 : R X.K B S3 H2 σ env3 ((vu, u) :: (vx, .o (.d dx)) :: T) := r4.perm (fun t ht => by
    rcases List.mem_cons.mp ht with e | ht
    · subst e; exact List.mem_cons_of_mem _ List.mem_cons_self
    · rcases List.mem_cons.mp ht with e | ht
      · subst e; exact List.mem_cons_self
      · exact List.mem_cons_of_mem _ (List.mem_cons_of_mem _ ht)) fun b => by
    show cntW b u + (0 + cntT b T) ≤ 0 + (cntW b u + cntT b T)
    omega
  obtain ⟨dy, env4, S4, hk, r6⟩ := r5.esc hk
  have ry := r6.dataTop
  have rx := r6.pop.dataTop
  have r7 : R X.K B S4 H2 σ env4 ([(vu, .o (.d dy)), (vx, .o (.d dx))] ++ T) := r6
  cases dx with
  | list xs =>
    cases dy with
    | list ys =>
      cases rx with
      | @lst px vxs _ fx rax =>
        cases ry with
        | @lst py vys _ fy ray =>
          refine ⟨px, py, vxs, vys, rfl, .inl ⟨fx.sq, fy.sq, hP _ _ _ _ _ [(V.ref py, W.o (.d (.list ys))), (V.ref px, W.o (.d (.list xs)))] hk r7 ?_ trivial⟩⟩
          have key : ∀ {S H σ env T}, R X.K B S H σ env ([(V.ref py, W.o (.d (.list ys))), (V.ref px, W.o (.d (.list xs)))] ++ T) → ∃ vs us, SqL X.K H px vs ∧ RpA X.K S H vs xs ∧ SqL X.K H py us ∧ RpA X.K S H us ys := by
            intro S H σ env T r
            have ry : Rp X.K S H (.ref py) (.list ys) := R.dataTop r
            have rx : Rp X.K S H (.ref px) (.list xs) := R.dataTop (R.pop r)
            cases rx with
            | lst f ra =>
              cases ry with
              | lst g rb => exact ⟨_, _, f.sq, ra, g.sq, rb⟩
          refine ⟨fun S H σ env T i r _ hi => ?_, fun S H σ env T i x H' d r _ y hd => ?_, fun S H σ env T i r _ hi => ?_⟩
          · obtain ⟨vs, us, hq, ra, hq2, rb⟩ := key r
            have hi' : i < (zipD xs ys).length := hi
            rw [zipD_length] at hi'
            obtain ⟨v, hv, _⟩ := ra.getD (List.getElem?_eq_getElem (show i < xs.length by omega))
            obtain ⟨u, hu, _⟩ := rb.getD (List.getElem?_eq_getElem (show i < ys.length by omega))
            exact ⟨vs, us, v, u, hq, hq2, hv, hu⟩
          · obtain ⟨vs, us, hq, ra, hq2, rb⟩ := key r
            obtain ⟨T', x', y', rfl, hT, rfl, hx', hy'⟩ := y
            obtain ⟨zx, zy, hzx, hzy, rfl⟩ := zipD_get hd
            obtain ⟨v, hv, rv⟩ := ra.getD hzx
            obtain ⟨u, hu, ru⟩ := rb.getD hzy
            have e1 := hx' vs hq
            rw [hv] at e1; cases e1
            have e2 := hy' us hq2
            rw [hu] at e2; cases e2
            exact newTup r hT (.cons rv (.cons ru .nil))
          · obtain ⟨vs, us, hq, ra, hq2, rb⟩ := key r
            have hi' : (zipD xs ys).length ≤ i := hi
            rw [zipD_length] at hi'
            exact ⟨vs, us, hq, hq2, by rw [ra.length, rb.length]; omega⟩
    | _ => exact hk.elim
  | tuple xs =>
    cases dy with
    | tuple ys =>
      cases rx with
      | @tup px vxs _ fx rax =>
        cases ry with
        | @tup py vys _ fy ray =>
          refine ⟨px, py, vxs, vys, rfl, .inr ⟨fx, fy, hP _ _ _ _ _ [(V.ref py, W.o (.d (.tuple ys))), (V.ref px, W.o (.d (.tuple xs)))] hk r7 ?_ trivial⟩⟩
          have key : ∀ {S H σ env T}, R X.K B S H σ env ([(V.ref py, W.o (.d (.tuple ys))), (V.ref px, W.o (.d (.tuple xs)))] ++ T) → ∃ vs us, SqT X.K H px vs ∧ RpA X.K S H vs xs ∧ SqT X.K H py us ∧ RpA X.K S H us ys := by
            intro S H σ env T r
            have ry : Rp X.K S H (.ref py) (.tuple ys) := R.dataTop r
            have rx : Rp X.K S H (.ref px) (.tuple xs) := R.dataTop (R.pop r)
            cases rx with
            | tup f ra =>
              cases ry with
              | tup g rb => exact ⟨_, _, f, ra, g, rb⟩
          refine ⟨fun S H σ env T i r _ hi => ?_, fun S H σ env T i x H' d r _ y hd => ?_, fun S H σ env T i r _ hi => ?_⟩
          · obtain ⟨vs, us, hq, ra, hq2, rb⟩ := key r
            have hi' : i < (zipD xs ys).length := hi
            rw [zipD_length] at hi'
            obtain ⟨v, hv, _⟩ := ra.getD (List.getElem?_eq_getElem (show i < xs.length by omega))
            obtain ⟨u, hu, _⟩ := rb.getD (List.getElem?_eq_getElem (show i < ys.length by omega))
            exact ⟨vs, us, v, u, hq, hq2, hv, hu⟩
          · obtain ⟨vs, us, hq, ra, hq2, rb⟩ := key r
            obtain ⟨T', x', y', rfl, hT, rfl, hx', hy'⟩ := y
            obtain ⟨zx, zy, hzx, hzy, rfl⟩ := zipD_get hd
            obtain ⟨v, hv, rv⟩ := ra.getD hzx
            obtain ⟨u, hu, ru⟩ := rb.getD hzy
            have e1 := hx' vs hq
            rw [hv] at e1; cases e1
            have e2 := hy' us hq2
            rw [hu] at e2; cases e2
            exact newTup r hT (.cons rv (.cons ru .nil))
          · obtain ⟨vs, us, hq, ra, hq2, rb⟩ := key r
            have hi' : (zipD xs ys).length ≤ i := hi
            rw [zipD_length] at hi'
            exact ⟨vs, us, hq, hq2, by rw [ra.length, rb.length]; omega⟩
    | _ => exact hk.elim
  | _ => exact hk.elim

/-! ### a, b = x, y -/
def sPar (is : List Nat) (wl : WA) : WS := fun PX env k => wl PX env fun ws env1 => inWs ws env1 fun os env2 => os.all notTup = true ∧ setAll is os env2 k.nx
theorem z_par {i j : Nat} {x y : Str} {px py pt : Pos} {kt k2 : Nat} {pt2 : Pos} (hc : X.calm = true) (hN : X.N.Nodup) (hi : X.N[i]? = some x) (hj : X.N[j]? = some y) (hij : i ≠ j)
    (hx : X.env.scope.names.lookup x = some .local) (hy : X.env.scope.names.lookup y = some .local) (ha : SndA X B Wx [a, b] wl)
    (hw : swappedStores [.Tuple [.Name x px, .Name y py] kt pt] (.Tuple [a, b] k2 pt2) X.env = pure (some [x, y]))
    (hs : swapsWithSole [.Tuple [.Name x px, .Name y py] kt pt] (.Tuple [a, b] k2 pt2) pos.line X.env = pure false) :
    S1 X B Wx (.Assign [.Tuple [.Name x px, .Name y py] kt pt] (.Tuple [a, b] k2 pt2) pos) (sPar [i, j] wl) := by
  refine PS_imp (ps_par hc hN hi hj hij hx hy ha hw hs) fun D σ H ⟨S, env, T, k, PX, r, hq, hE, hX⟩ => ?_
  refine ⟨S, env, T, _, PX, r, hq, fun env1 Z S1 H1 hq r1 => ?_, hX⟩
  obtain ⟨os, env2, S2, ⟨_, q⟩, hl, r2, _, _⟩ := intos_top r1 hq
  have h2 := setAll_len q
  cases os with
  | nil => cases h2
  | cons o1 os =>
    cases os with
    | nil => cases h2
    | cons o2 os =>
      cases os with
      | cons _ _ => cases h2
      | nil =>
        cases Z with
        | nil => cases hl
        | cons z1 Z =>
          cases Z with
          | nil => cases hl
          | cons z2 Z =>
            cases Z with
            | cons _ _ => cases hl
            | nil =>
              obtain ⟨v1, w1⟩ := z1
              obtain ⟨v2, w2⟩ := z2
              have r3 : R X.K B S2 H1 σ env2 ((v1, .o o1) :: (v2, .o o2) :: T) := r2
              obtain ⟨hi2, hj2, q⟩ := q
              exact ⟨v1, v2, rfl, hE.nx _ _ _ _ q ((r3.store hi2).store hj2)⟩
theorem z_par3 {i j l : Nat} {x y z : Str} {px py pz pt : Pos} {kt k2 : Nat} {pt2 : Pos} (hc : X.calm = true) (hN : X.N.Nodup) (hi : X.N[i]? = some x) (hj : X.N[j]? = some y) (hl : X.N[l]? = some z) (hij : i ≠ j) (hil : i ≠ l) (hjl : j ≠ l)
    (hx : X.env.scope.names.lookup x = some .local) (hy : X.env.scope.names.lookup y = some .local) (hz : X.env.scope.names.lookup z = some .local) (ha : SndA X B Wx [a, b, c] wl)
    (hw : swappedStores [.Tuple [.Name x px, .Name y py, .Name z pz] kt pt] (.Tuple [a, b, c] k2 pt2) X.env = pure (some [x, y, z]))
    (hs : swapsWithSole [.Tuple [.Name x px, .Name y py, .Name z pz] kt pt] (.Tuple [a, b, c] k2 pt2) pos.line X.env = pure false) :
    S1 X B Wx (.Assign [.Tuple [.Name x px, .Name y py, .Name z pz] kt pt] (.Tuple [a, b, c] k2 pt2) pos) (sPar [i, j, l] wl) := by
  refine PS_imp (ps_par3 hc hN hi hj hl hij hil hjl hx hy hz ha hw hs) fun D σ H ⟨S, env, T, k, PX, r, hq, hE, hX⟩ => ?_
  refine ⟨S, env, T, _, PX, r, hq, fun env1 Z S1 H1 hq r1 => ?_, hX⟩
  obtain ⟨os, env2, S2, ⟨_, q⟩, hl, r2, _, _⟩ := intos_top r1 hq
  have h2 := setAll_len q
  cases os with
  | nil => cases h2
  | cons o1 os =>
    cases os with
    | nil => cases h2
    | cons o2 os =>
      cases os with
      | nil => cases h2
      | cons o3 os =>
        cases os with
        | cons _ _ => cases h2
        | nil =>
          cases Z with
          | nil => cases hl
          | cons z1 Z =>
            cases Z with
            | nil => cases hl
            | cons z2 Z =>
              cases Z with
              | nil => cases hl
              | cons z3 Z =>
                cases Z with
                | cons _ _ => cases hl
                | nil =>
                  obtain ⟨v1, w1⟩ := z1
                  obtain ⟨v2, w2⟩ := z2
                  obtain ⟨v3, w3⟩ := z3
                  have r3 : R X.K B S2 H1 σ env2 ((v1, .o o1) :: (v2, .o o2) :: (v3, .o o3) :: T) := r2
                  obtain ⟨hi2, hj2, hl2, q⟩ := q
                  exact ⟨v1, v2, v3, rfl, hE.nx _ _ _ _ q (((r3.store hi2).store hj2).store hl2)⟩
theorem nx_par {is : List Nat} {u : WS} {PX : Exn → Env → Prop} {env : Env} {k : Kt} (h : wl PX env fun ws env1 => inWs ws env1 fun os env2 => os.all notTup = true ∧ setAll is os env2 fun env3 => Nx u PX env3 k) : Nx (sCons (sPar is wl) u) PX env k := nx_in (by
  have e : (fun env5 => Nx u PX env5 k) = fun env5 => u PX env5 k := by funext env5; exact nx_eq
  rw [e] at h
  exact h)

/-! ### str(x), x.upper() -/
def fStr : DSem
  | [.int i], Q => i.natAbs.log2 < 1920 ∧ Q (.d (.str (PyData.shown (.int i))))
  | [.str x], Q => Q (.d (.str x))
  | [.bool b], Q => Q (.d (.str (if b then "True" else "False")))
  | _, _ => False
theorem ok_str : BltOk X (.type "str") fStr := by
  intro pins s σ H vs us Q B S env T ds k I rv r ud q hQ
  cases ud with
  | nil => exact q.elim
  | cons u us' =>
    rename_i v d vs' ds'
    cases us' with
    | cons _ _ => cases d <;> exact q.elim
    | nil =>
      cases d with
      | int i =>
        obtain rfl := u.int
        exact call_str_int pins s σ H _ us Q I rv ⟨i, rfl, q.1, hQ _ _ _ _ q.2 (r.push (.str _))⟩
      | str x =>
        obtain rfl := u.str
        exact SkE.call_str_str pins s σ H _ us Q I rv ⟨x, rfl, hQ _ _ _ _ q (r.push (.str _))⟩
      | bool b =>
        obtain rfl := u.bool
        obtain ⟨u, rfl, e⟩ := vals1 rv
        cases e
        exact PySem.P.str_of_bool ⟨.str _, _, I.tok _, ⟨_, rfl⟩, hQ _ _ _ _ q (r.push (.str _))⟩
      | _ => exact q.elim
def wUpper (wo : WT) : WT := fun PX env P => wo PX env fun t env1 => match t with
  | .o (.d (.str x)) => x.length ≤ 5592405 ∧ P (.o (.d (.str (Txt.upper x)))) env1
  | _ => False
theorem c_upper {cpos apos : Pos} (ho : PV X B Wx o wo) (hbase : attributeBase o "upper" X.env (eval o X.env) = eval o X.env) (hline : (apos.endLine == cpos.line) = true) :
    PV X B Wx (.Call (.Attribute o "upper" apos) [] [] cpos) (wUpper wo) := by
  refine PE_imp (pe_bm0 PySem.F.plainAttrs_str PySem.F.slot_str_upper PySem.F.type_str_upper mt_upper ho hbase hline) fun σ H Q ⟨S, env, T, P, PX, r, hw, hP, hX⟩ => ?_
  refine ⟨S, env, T, _, PX, r, hw, fun t env1 vt S1 H1 hq r1 => ?_, hX⟩
  cases t with
  | al _ _ _ => exact hq.elim
  | o t =>
    cases t with
    | tup _ => exact hq.elim
    | obj _ _ _ => exact hq.elim
    | d d =>
      cases d with
      | str x =>
        have ev : vt = .str x := by
          have z : OwnR X.K S1 H1 vt (.d (.str x)) := r1.tmps (vt, .o (.d (.str x))) List.mem_cons_self
          cases z with
          | d z => cases z; rfl
        subst ev
        exact ⟨rfl, x, rfl, rfl, hq.1, hP _ _ _ _ _ hq.2 (r1.pop.push (.str _))⟩
      | _ => exact hq.elim
end
end Vx
namespace Vx
open PySem PySem.Spec L2

/-! ### plain texts -/
theorem plain_app {x y : Str} (h : plainS x) (h2 : plainS y) : plainS (x ++ y) := by
  intro c hc
  rw [PySem.Str.cps_append, Array.toList_append] at hc
  rcases List.mem_append.mp hc with hc | hc
  · exact h c hc
  · exact h2 c hc
theorem plain_int {i : Int} : plainS (PyData.shown (.int i)) := by
  simp only [PyData.shown]
  intro c hc
  rw [PySem.Str.ofString_eq_toList] at hc
  obtain ⟨ch, hch, rfl⟩ := List.mem_map.mp hc
  have dig : ∀ m : Nat, ∀ ch ∈ Nat.toDigits 10 m, ch.toNat < 128 := fun m ch h => by
    have r := Nat.isDigit_of_mem_toDigits (b := 10) (n := m) (by decide) (by decide) h
    unfold Char.isDigit at r
    simp only [Bool.and_eq_true, decide_eq_true_eq] at r
    have r2 := r.2
    have : ch.toNat ≤ 57 := r2
    omega
  cases i with
  | ofNat m =>
    have e : (toString (Int.ofNat m)).toList = Nat.toDigits 10 m := by
      show (Nat.repr m).toList = _
      simp [Nat.repr]
    rw [e] at hch
    exact dig m ch hch
  | negSucc m =>
    have e : (toString (Int.negSucc m)).toList = '-' :: Nat.toDigits 10 (m + 1) := by
      show (Int.repr (Int.negSucc m)).toList = _
      simp [Int.repr, Nat.repr]
    rw [e] at hch
    rcases List.mem_cons.mp hch with rfl | hch
    · decide
    · exact dig _ ch hch
theorem upper_list : ∀ l : List Nat, (∀ c ∈ l, c < 128) → Txt.upper ⟨l.toArray⟩ = ⟨(l.map fun c => if 97 ≤ c ∧ c ≤ 122 then c - 32 else c).toArray⟩
  | [], _ => by decide +kernel
  | c :: l, h => by
    have e : (⟨(c :: l).toArray⟩ : Str) = ⟨#[c]⟩ ++ ⟨l.toArray⟩ := PySem.Str.ext' (by rw [PySem.Str.cps_append]; simp)
    rw [e, PySem.W.KOpn.upper_app, PySem.W.KOpn.upper_one (h c List.mem_cons_self), upper_list l fun d hd => h d (List.mem_cons_of_mem _ hd)]
    exact PySem.Str.ext' (by rw [PySem.Str.cps_append]; simp)
theorem plain_upper {x : Str} (h : plainS x) : plainS (Txt.upper x) ∧ (Txt.upper x).length = x.length := by
  obtain ⟨a⟩ := x
  have e := upper_list a.toList h
  rw [Array.toArray_toList] at e
  rw [e]
  constructor
  · intro c hc
    obtain ⟨d, hd, rfl⟩ := List.mem_map.mp hc
    have := h d hd
    split <;> omega
  · show (List.toArray _).size = a.size
    rw [List.size_toArray, List.length_map, Array.length_toList]
theorem plain_cut {x : Str} (lo hi : Option Int) (h : plainS x) : plainS (cutS x lo hi) := fun c hc => by
  have hc : c ∈ (x.cps.toList.drop (HT.sIx x.length 0 lo)).take (HT.sIx x.length x.length hi - HT.sIx x.length 0 lo) := hc
  exact h c (List.mem_of_mem_drop (List.mem_of_mem_take hc))
theorem len_cut {x : Str} (lo hi : Option Int) : (cutS x lo hi).length ≤ x.length := cutS_length x lo hi

/-! ### good data: their ints and texts, their depth -/
inductive G (s : Nat) : Nat → D → Prop
  | non {n : Nat} : G s n .none
  | bool {n : Nat} {b : Bool} : G s n (.bool b)
  | int {n : Nat} {i : Int} (h : i.natAbs ≤ 2 ^ 199 + s) : G s n (.int i)
  | str {n : Nat} {x : Str} (h : plainS x) : G s n (.str x)
  | tup {n : Nat} {ds : List D} (h : ∀ d ∈ ds, G s n d) : G s (n + 1) (.tuple ds)
  | lst {n : Nat} {ds : List D} (h : ∀ d ∈ ds, G s n d) : G s (n + 1) (.list ds)
theorem G.mono {s t : Nat} (hs : s ≤ t) : ∀ {n : Nat} {d : D}, G s n d → ∀ {m : Nat}, n ≤ m → G t m d := by
  intro n d h
  induction h with
  | non => intro m _; exact .non
  | bool => intro m _; exact .bool
  | int h => intro m _; exact .int (Nat.le_trans h (Nat.add_le_add_left hs _))
  | str h => intro m _; exact .str h
  | tup h ih =>
    intro m hm
    obtain ⟨k, rfl⟩ : ∃ k, m = k + 1 := ⟨m - 1, by omega⟩
    exact .tup fun d hd => ih d hd (by omega)
  | lst h ih =>
    intro m hm
    obtain ⟨k, rfl⟩ : ∃ k, m = k + 1 := ⟨m - 1, by omega⟩
    exact .lst fun d hd => ih d hd (by omega)
theorem pow_le199 : (2 : Nat) ^ 199 + 1000 < 2 ^ 200 := by decide +kernel
theorem pow_le80 : (2 : Nat) ^ 200 < 10 ^ 80 := by decide +kernel
theorem MoA.exact {n : Nat} : ∀ {ds : List D}, (∀ d ∈ ds, Mo n d.weight d) → MoA n (PyData.weightAll ds) ds
  | [], _ => MoA.nil
  | d :: ds, h => (MoA.cons (h d List.mem_cons_self) (MoA.exact fun x hx => h x (List.mem_cons_of_mem _ hx))).mono (Nat.le_refl _) (by simp only [PyData.weightAll]; omega)
theorem G.mo {s : Nat} (hs : s ≤ 1000) : ∀ {n : Nat} {d : D}, G s n d → Mo n d.weight d := by
  intro n d h
  induction h with
  | non => exact .non
  | bool => exact .bool
  | int h =>
    have p1 := pow_le199
    have p2 := pow_le80
    have z := Mo.int (n := 0) (w := 300) (Nat.lt_of_le_of_lt h (Nat.lt_trans (show _ < 2 ^ 200 by omega) p2)) (Nat.le_refl _)
    exact ⟨z.lay, Nat.le_trans z.dep (Nat.zero_le _), z.shw, z.shr, Nat.le_refl _⟩
  | str h => exact (Mo.str h (Nat.le_refl _)).mono (Nat.le_refl _) (by simp only [PyData.weight]; exact Nat.le_refl _)
  | tup h ih => exact (Mo.tup (MoA.exact ih)).mono (Nat.le_refl _) (by simp only [PyData.weight]; exact Nat.le_refl _)
  | lst h ih => exact (Mo.lst (MoA.exact ih)).mono (Nat.le_refl _) (by simp only [PyData.weight]; exact Nat.le_refl _)
theorem G.intS {s n : Nat} {i : Int} (k : Nat) (h : i.natAbs < 2 ^ k) (hk : k ≤ 199) : G s n (.int i) := .int (by
  have := Nat.pow_le_pow_right (show 0 < 2 by decide) hk
  omega)
theorem wt_int {i : Int} {s : Nat} (hs : s ≤ 1000) (h : i.natAbs ≤ 2 ^ 199 + s) : PyData.weight (.int i) ≤ 200 := by
  have p1 := pow_le199
  have e2 : i.natAbs.log2 < 200 := log2_lt (show i.natAbs < 2 ^ 200 by omega) (by decide)
  simp only [PyData.weight]
  split <;> omega
theorem wt_app {xs ys : List D} : PyData.weightAll (xs ++ ys) = PyData.weightAll xs + PyData.weightAll ys := by
  induction xs with
  | nil => simp only [List.nil_append, PyData.weightAll]; omega
  | cons x xs ih => simp only [List.cons_append, PyData.weightAll, ih]; omega
theorem wt_rev {xs : List D} : PyData.weightAll xs.reverse = PyData.weightAll xs := by
  induction xs with
  | nil => rfl
  | cons x xs ih => rw [List.reverse_cons, wt_app, ih]; simp only [PyData.weightAll]; omega
theorem wt_split {xs : List D} {j : Nat} {d : D} (h : xs[j]? = some d) : PyData.weightAll (xs.take j) + d.weight + 1 + PyData.weightAll (xs.drop (j + 1)) = PyData.weightAll xs := by
  obtain ⟨hj, rfl⟩ := List.getElem?_eq_some_iff.mp h
  have e : PyData.weightAll xs = PyData.weightAll (xs.take j ++ xs.drop j) := by rw [List.take_append_drop]
  rw [e, wt_app, List.drop_eq_getElem_cons hj]
  simp only [PyData.weightAll]
  omega
theorem wt_take {xs : List D} {j : Nat} : PyData.weightAll (xs.take j) + PyData.weightAll (xs.drop j) = PyData.weightAll xs := by
  rw [← wt_app, List.take_append_drop]
theorem wt_drop {xs : List D} {j k : Nat} (h : j ≤ k) : PyData.weightAll (xs.drop k) ≤ PyData.weightAll (xs.drop j) := by
  have := wt_take (xs := xs.drop j) (j := k - j)
  rw [List.drop_drop, show j + (k - j) = k by omega] at this
  omega
theorem wt_mid {xs : List D} {j k : Nat} : PyData.weightAll ((xs.drop j).take k) ≤ PyData.weightAll xs := by
  have h1 := wt_take (xs := xs.drop j) (j := k)
  have h2 := wt_take (xs := xs) (j := j)
  omega
theorem len_wt {xs : List D} : xs.length ≤ PyData.weightAll xs := by
  induction xs with
  | nil => exact Nat.zero_le _
  | cons x xs ih => simp only [List.length_cons, PyData.weightAll]; omega
end Vx
namespace Vx
open PySem PySem.Spec L2

/-! ### what is reckoned and leaves all as it is -/
def Ev (w : WT) (env : Env) (v : D) : Prop := ∀ (PX : Exn → Env → Prop) (P : W → Env → Prop), P (.o (.d v)) env → w PX env P
def EvL (w : WT) (env : Env) (ds : List D) : Prop := ∀ (PX : Exn → Env → Prop) (P : W → Env → Prop), (∀ a, P (.o (.lst a (ds.map .d))) env) → w PX env P
def EvU (w : WT) (env : Env) (v : D) : Prop := ∀ (PX : Exn → Env → Prop) (P : W → Env → Prop), (∀ x, (∀ Q : D → Prop, Q v → useW x env Q) → P x env) → w PX env P
def EvA (w : WA) (env : Env) (vs : List D) : Prop := ∀ (PX : Exn → Env → Prop) (P : List W → Env → Prop), P (vs.map fun v => .o (.d v)) env → w PX env P
def EvUs (w : WA) (env : Env) (vs : List D) : Prop := ∀ (PX : Exn → Env → Prop) (P : List W → Env → Prop), (∀ ws, (∀ Q : List D → Prop, Q vs → useWs ws env Q) → P ws env) → w PX env P
def EvS (w : WI) (env : Env) (s : Src) : Prop := ∀ (PX : Exn → Env → Prop) (P : Src → Env → Prop), P s env → w PX env P
def BopV (op : Bop) (x y v : D) : Prop := ∀ Q : O → Prop, Q (.d v) → bopW op x y Q
def CmpV (op : Cop) (x y : D) (t : Bool) : Prop := ∀ Q : Bool → Prop, Q t → cmpW op x y Q
def PrimV (p : Prim) (ds : List D) (v : D) : Prop := ∀ Q : O → Prop, Q (.d v) → primW p ds Q
section
variable {w wa wb wc we : WT} {wl : WA} {env : Env} {x y z v : D} {ds vs : List D} {p q r : Bool} {i j : Nat}
theorem toD_lst {a : Addr} {ds : List D} : (O.lst a (ds.map .d)).toD = .list ds := by
  show PyData.list (O.toDs (ds.map .d)) = _
  rw [O.toDs_map]
theorem Ev.u (h : Ev w env v) : EvU w env v := fun PX P q => h PX P (q _ fun _ z => z)
theorem EvL.u (h : EvL w env ds) : EvU w env (.list ds) := fun PX P q => h PX P fun a => q _ fun Q z => by
  show Q (O.toD _)
  rw [toD_lst]; exact z
theorem Ev.to (h : Ev w env v) (e : v = x) : Ev w env x := by subst e; exact h
theorem EvL.to {es : List D} (h : EvL w env ds) (e : ds = es) : EvL w env es := by subst e; exact h
theorem e_k : Ev (wK x) env x := fun PX P q => q
theorem e_var (h : env[i]? = some (some (.d x))) : Ev (wVar i) env x := fun PX P q => by
  unfold wVar
  simp only [h]
  exact q
/-- an owned list in a slot, seen -/
theorem u_own {a : Addr} (h : env[i]? = some (some (.lst a (ds.map .d)))) : EvU (wVar i) env (.list ds) := fun PX P q => by
  unfold wVar
  simp only [h]
  refine q _ fun Q z => ?_
  have e : envAt env i [] = some (.lst a (ds.map .d)) := by unfold envAt; simp only [h]; rfl
  exact useW_al e (datas_map ds) z
theorem e_bin (op : Bop) (ha : EvU wa env x) (hb : EvU wb env y) (h : BopV op x y v) : Ev (wBin op wa wb) env v := fun PX P q =>
  ha _ _ fun a h1 => hb _ _ fun b h2 => h1 _ (h2 _ (h _ q))
theorem e_catL (ha : EvU wa env (.list ds)) (hb : EvU wb env (.list vs)) (h : ds.length + vs.length ≤ 1000000) : EvL (wBin .add wa wb) env (ds ++ vs) := fun PX P q =>
  ha _ _ fun a h1 => hb _ _ fun b h2 => h1 _ (h2 _ ⟨Nat.le_of_lt (small h), q⟩)
theorem b_addI {i j : Int} : BopV .add (.int i) (.int j) (.int (i + j)) := fun Q q => q
theorem b_subI {i j : Int} : BopV .sub (.int i) (.int j) (.int (i - j)) := fun Q q => q
theorem b_mulI {i j : Int} (h : (-18446744073709551616 < i ∧ i < 18446744073709551616) ∨ (-18446744073709551616 < j ∧ j < 18446744073709551616)) : BopV .mul (.int i) (.int j) (.int (i * j)) := fun Q q => mulA h q
theorem b_divI {i j : Int} (h : 0 < j ∧ j < 1073741824) : BopV .fdiv (.int i) (.int j) (.int (i.fdiv j)) := fun Q q => divA h q
theorem b_modI {i j : Int} (h : j ≠ 0) : BopV .mod (.int i) (.int j) (.int (i.fmod j)) := fun Q q => ⟨h, q⟩
theorem b_addS {x y : Str} (h : x.length + y.length ≤ 1000000) : BopV .add (.str x) (.str y) (.str (x ++ y)) := fun Q q => smallE h q
theorem b_addT {xs ys : List D} (h : xs.length + ys.length ≤ 1000000) : BopV .add (.tuple xs) (.tuple ys) (.tuple (xs ++ ys)) := fun Q q => smallE h q
theorem e_not (ha : Ev wa env (.bool p)) : Ev (wNot wa) env (.bool (!p)) := fun PX P q => ha _ _ q
theorem e_and (ha : Ev wa env (.bool p)) (hb : p = true → Ev wb env (.bool q)) : Ev (wAnd wa wb) env (.bool (p && q)) := fun PX P h => by
  refine ha _ _ ?_
  show if p = true then _ else _
  cases p with
  | true => rw [if_pos rfl]; exact hb rfl _ _ h
  | false => rw [if_neg (by decide)]; exact h
theorem e_or (ha : Ev wa env (.bool p)) (hb : p = false → Ev wb env (.bool q)) : Ev (wOr wa wb) env (.bool (p || q)) := fun PX P h => by
  refine ha _ _ ?_
  show if p = true then _ else _
  cases p with
  | true => rw [if_pos rfl]; exact h
  | false => rw [if_neg (by decide)]; exact hb rfl _ _ h
theorem e_ife (hc : Ev wc env (.bool p)) (ha : p = true → Ev wa env x) (hb : p = false → Ev wb env y) : Ev (wIfe wc wa wb) env (if p = true then x else y) := fun PX P h => by
  refine hc _ _ ?_
  show if p = true then _ else _
  cases p with
  | true => rw [if_pos rfl] at h ⊢; exact ha rfl _ _ h
  | false => rw [if_neg (by decide)] at h ⊢; exact hb rfl _ _ h
theorem e_cmp (op : Cop) (ha : EvU wa env x) (hb : EvU wb env y) (h : CmpV op x y p) : Ev (wCmp op wa wb) env (.bool p) := fun PX P q =>
  ha _ _ fun a h1 => hb _ _ fun b h2 => h1 _ (h2 _ (h _ q))
theorem e_chain (op op2 : Cop) (ha : EvU wa env x) (hb : EvU wb env y) (hc : EvU wc env z) (h1 : CmpV op x y p) (h2 : CmpV op2 y z q) : Ev (wChain op op2 wa wb wc) env (.bool (p && q)) := fun PX P h =>
  ha _ _ fun a ka => hb _ _ fun b kb => ka _ (kb _ (h1 _ (by
    show if p = true then _ else _
    cases p with
    | true =>
      rw [if_pos rfl]
      exact hc _ _ fun c kc => kb _ (kc _ (h2 _ h))
    | false => rw [if_neg (by decide)]; exact h)))
theorem c_lt {i j : Int} : CmpV .lt (.int i) (.int j) (decide (i < j)) := fun Q q => q
theorem c_le {i j : Int} : CmpV .le (.int i) (.int j) (decide (i ≤ j)) := fun Q q => q
theorem c_gt {i j : Int} : CmpV .gt (.int i) (.int j) (decide (j < i)) := fun Q q => q
theorem c_ge {i j : Int} : CmpV .ge (.int i) (.int j) (decide (j ≤ i)) := fun Q q => q
theorem c_eqD (h : eqOk x y = true) : CmpV .eq x y (PyData.eqv x y) := fun Q q => ⟨h, q⟩
theorem c_neD (h : eqOk x y = true) : CmpV .ne x y (!PyData.eqv x y) := fun Q q => ⟨h, q⟩
theorem c_eqI {i j : Int} : CmpV .eq (.int i) (.int j) (decide (i = j)) := fun Q q => ⟨rfl, by rw [eqv_int]; exact q⟩
theorem c_neI {i j : Int} : CmpV .ne (.int i) (.int j) (!decide (i = j)) := fun Q q => ⟨rfl, by rw [eqv_int]; exact q⟩
theorem c_eqS {i j : Str} : CmpV .eq (.str i) (.str j) (decide (i = j)) := fun Q q => ⟨rfl, by rw [eqv_str]; exact q⟩
theorem c_neS {i j : Str} : CmpV .ne (.str i) (.str j) (!decide (i = j)) := fun Q q => ⟨rfl, by rw [eqv_str]; exact q⟩
theorem c_isN : CmpV .is x .none (isNone x) := fun Q q => by cases x <;> exact q
theorem c_isB {b c : Bool} : CmpV .is (.bool b) (.bool c) (decide (b = c)) := fun Q q => q
theorem c_notB {b c : Bool} : CmpV .isNot (.bool b) (.bool c) (!decide (b = c)) := fun Q q => q
theorem b_mulS {x : Str} {k : Int} (h : -1000000 ≤ k ∧ k ≤ 1000000 ∧ x.length ≤ 1000000 ∧ x.length * k.toNat ≤ 1000000) : BopV .mul (.str x) (.int k) (.str (repS x k)) := fun Q q => ⟨h.1, h.2.1, h.2.2.1, h.2.2.2, q⟩
theorem e_mulL {k : Int} (ha : EvU wa env (.list ds)) (hb : EvU wb env (.int k)) (h : -1000000 ≤ k ∧ k ≤ 1000000 ∧ ds.length * k.toNat ≤ 1000000) : EvL (wBin .mul wa wb) env (List.replicate k.toNat ds).flatten := fun PX P q =>
  ha _ _ fun a h1 => hb _ _ fun b h2 => h1 _ (h2 _ ⟨h.1, h.2.1, h.2.2, q⟩)
theorem c_notN : CmpV .isNot x .none (!isNone x) := fun Q q => by cases x <;> exact q
theorem c_inT (h : inOk x ds = true) : CmpV .inn x (.tuple ds) (ds.any fun y => PyData.eqv y x) := fun Q q => by cases x <;> exact ⟨h, q⟩
theorem c_notInT (h : inOk x ds = true) : CmpV .notIn x (.tuple ds) (!ds.any fun y => PyData.eqv y x) := fun Q q => by cases x <;> exact ⟨h, q⟩
theorem c_inL (h : plainD x = true) (h2 : plainD (.list ds) = true) : CmpV .inn x (.list ds) (ds.any fun y => PyData.eqv y x) := fun Q q => by cases x <;> exact ⟨h, h2, q⟩
theorem c_notInL (h : plainD x = true) (h2 : plainD (.list ds) = true) : CmpV .notIn x (.list ds) (!ds.any fun y => PyData.eqv y x) := fun Q q => by cases x <;> exact ⟨h, h2, q⟩
/-! the things handed in -/
theorem a_no : EvA aNil env [] := fun PX P q => q
theorem a_co {ws : WA} (h : Ev we env v) (h2 : EvA ws env vs) : EvA (aCons we ws) env (v :: vs) := fun PX P q => h _ _ (h2 _ _ q)
theorem us_no : EvUs aNil env [] := fun PX P q => q [] fun Q z => z
theorem us_co {ws : WA} (h : EvU we env v) (h2 : EvUs ws env vs) : EvUs (aCons we ws) env (v :: vs) := fun PX P q => h _ _ fun x hx => h2 _ _ fun l hl => q (x :: l) fun Q z => hx _ (hl _ z)
theorem e_prim (p : Prim) (ha : EvUs wl env ds) (h : PrimV p ds v) : Ev (wPrim p wl) env v := fun PX P q => ha _ _ fun ws k => k _ (h _ q)
theorem e_isi {t : Ty} (ha : EvU wa env x) : Ev (wPrim (.isi t) (aCons wa aNil)) env (.bool (decide (t ∈ tyOf x))) := e_prim _ (us_co ha us_no) fun Q q => q
theorem e_isis {ts : List Ty} (ha : EvU wa env x) : Ev (wPrim (.isis ts) (aCons wa aNil)) env (.bool (ts.any fun t => decide (t ∈ tyOf x))) := e_prim _ (us_co ha us_no) fun Q q => q
theorem e_lenT (ha : EvU wa env (.tuple ds)) : Ev (wPrim .len (aCons wa aNil)) env (.int ds.length) := e_prim _ (us_co ha us_no) fun Q q => q
theorem e_lenL (ha : EvU wa env (.list ds)) : Ev (wPrim .len (aCons wa aNil)) env (.int ds.length) := e_prim _ (us_co ha us_no) fun Q q => q
theorem e_lenS {x : Str} (ha : EvU wa env (.str x)) (h : x.length ≤ 1000000) : Ev (wPrim .len (aCons wa aNil)) env (.int x.length) := e_prim _ (us_co ha us_no) fun Q q => smallE h q
theorem e_all {bs : List Bool} (ha : EvU wa env (.list (bs.map .bool))) : Ev (wPrim .all (aCons wa aNil)) env (.bool (bs.all id)) := e_prim _ (us_co ha us_no) fun Q q => onSome_mk (x := bs) (by have := boolsOf_map (fun b => b) bs; rw [List.map_id'] at this; exact this) q
theorem e_any {bs : List Bool} (ha : EvU wa env (.list (bs.map .bool))) : Ev (wPrim .any (aCons wa aNil)) env (.bool (bs.any id)) := e_prim _ (us_co ha us_no) fun Q q => onSome_mk (x := bs) (by have := boolsOf_map (fun b => b) bs; rw [List.map_id'] at this; exact this) q
theorem e_repr (ha : EvU wa env x) (h : ShowOk x) : Ev (wPrim .repr (aCons wa aNil)) env (.str x.shown) := e_prim _ (us_co ha us_no) fun Q q => reprB h q
theorem e_tuple (ha : EvU wa env (.list ds)) : Ev (wPrim .tuple (aCons wa aNil)) env (.tuple ds) := e_prim _ (us_co ha us_no) fun Q q => q
theorem e_listT (ha : EvU wa env (.tuple ds)) : EvL (wPrim .list (aCons wa aNil)) env ds := fun PX P q => us_co ha us_no _ _ fun ws k => k _ q
theorem e_listL (ha : EvU wa env (.list ds)) : EvL (wPrim .list (aCons wa aNil)) env ds := fun PX P q => us_co ha us_no _ _ fun ws k => k _ q
/-! items, slices, displays -/
theorem atI_int {ds : List D} {n : Int} {k : Nat} (e : ixN ds.length n = some k) (h : ds[k]? = some v) : atI ds n = some v := by
  unfold atI
  rw [e]; exact h
theorem e_ixT {n : Int} (ha : Ev wa env (.tuple ds)) (hb : EvU wb env (.int n)) (h : atI ds n = some v) : Ev (wIx wa wb) env v := fun PX P q => ha _ _ (hb _ _ fun k hk => hk (fun d => ixW (.tuple ds) d fun y => P (.o (.d y)) env) (onSome_mk h q))
theorem e_ixD {n : Int} (ha : Ev wa env (.list ds)) (hb : EvU wb env (.int n)) (h : atI ds n = some v) : Ev (wIx wa wb) env v := fun PX P q => ha _ _ (hb _ _ fun k hk => hk (fun d => ixW (.list ds) d fun y => P (.o (.d y)) env) (onSome_mk h q))
theorem atI_map {α β : Type} (f : α → β) (l : List α) (n : Int) : atI (l.map f) n = (atI l n).map f := by
  unfold atI
  rw [List.length_map]
  cases ixN l.length n with
  | none => rfl
  | some k => simp
theorem e_ixL {n : Int} (ha : EvL wa env ds) (hb : EvU wb env (.int n)) (h : atI ds n = some v) : Ev (wIx wa wb) env v := fun PX P q => ha _ _ fun a => hb _ _ fun k hk => by
  unfold itemW
  exact hk _ (onSome_mk (x := O.d v) (by rw [atI_map, h]; rfl) q)
theorem e_ixO {n : Int} {a : Addr} (ha : env[i]? = some (some (.lst a (ds.map .d)))) (hb : EvU wb env (.int n)) (h : atI ds n = some v) : Ev (wIx (wVar i) wb) env v := fun PX P q => by
  show wVar i _ _ _
  unfold wVar
  simp only [ha]
  refine hb _ _ fun k hk => ?_
  have e : envAt env i [] = some (.lst a (ds.map .d)) := by unfold envAt; simp only [ha]; rfl
  unfold itemW
  simp only [e]
  refine ⟨trivial, hk _ ?_⟩
  unfold atI at h
  cases e1 : ixN ds.length n with
  | none => rw [e1] at h; cases h
  | some j =>
    rw [e1] at h
    refine onSome_mk (x := j) (by rw [List.length_map]; exact e1) (onSome_mk (x := O.d v) (by rw [List.getElem?_map, show ds[j]? = some v from h]; rfl) q)
theorem e_sign {x : Str} {n : Int} {c : Nat} (ha : Ev wa env (.str x)) (hb : EvU wb env (.int n)) (hl : x.length ≤ 1000000) (h : atI x.cps.toList n = some c) : Ev (wIx wa wb) env (.str ⟨#[c]⟩) := fun PX P q => ha _ _ (hb _ _ fun k hk => hk (fun d => ixW (.str x) d fun y => P (.o (.d y)) env) (smallE hl (onSome_mk h q)))
def EvO (w : WO) (env : Env) (n : Option Int) : Prop := ∀ (PX : Exn → Env → Prop) (P : Option Int → Env → Prop), P n env → w PX env P
theorem ov_no : EvO oNone env none := fun PX P q => q
theorem ov_so {n : Int} (h : Ev we env (.int n)) : EvO (oSome we) env (some n) := fun PX P q => h _ _ q
theorem e_slT {wl wh : WO} {l h : Option Int} (ha : EvU wa env (.tuple ds)) (hl : EvO wl env l) (hh : EvO wh env h) : Ev (wSl wa wl wh) env (.tuple (cutD ds l h)) := fun PX P q => ha _ _ fun x hx => hl _ _ (hh _ _ (hx _ q))
theorem e_slS {wl wh : WO} {l h : Option Int} {x : Str} (ha : EvU wa env (.str x)) (hl : EvO wl env l) (hh : EvO wh env h) (hz : x.length ≤ 1000000) : Ev (wSl wa wl wh) env (.str (cutS x l h)) := fun PX P q => ha _ _ fun x hx => hl _ _ (hh _ _ (hx _ (smallE hz q)))
theorem e_slL {wl wh : WO} {l h : Option Int} (ha : EvU wa env (.list ds)) (hl : EvO wl env l) (hh : EvO wh env h) : EvL (wSl wa wl wh) env (cutD ds l h) := fun PX P q => ha _ _ fun x hx => hl _ _ (hh _ _ (hx _ q))
theorem inWs_d {vs : List D} {env : Env} {Q : List O → Env → Prop} (h : Q (vs.map .d) env) : inWs (vs.map fun v => .o (.d v)) env Q := by
  induction vs generalizing Q with
  | nil => exact h
  | cons v vs ih => exact ih (Q := fun os env'' => Q (.d v :: os) env'') h
theorem e_tup (ha : EvA wl env vs) (h : vs.length ≤ 1000000) : Ev (wTup wl) env (.tuple vs) := fun PX P q => ha _ _ (inWs_d ⟨by rw [List.length_map]; exact Nat.le_of_lt (small h), by rw [datas_map]; exact q⟩)
theorem e_lst (ha : EvA wl env vs) (h : vs.length ≤ 1000000) : EvL (wLst wl) env vs := fun PX P q => ha _ _ (inWs_d ⟨by rw [List.length_map]; exact Nat.le_of_lt (small h), q⟩)
theorem e_frzL (ha : EvL wa env ds) : Ev (wFrz wa) env (.list ds) := fun PX P q => ha _ _ fun a => by
  show P (.o (.d (O.toD _))) env
  rw [toD_lst]; exact q
theorem e_frz (ha : Ev wa env v) : Ev (wFrz wa) env v := fun PX P q => ha _ _ q
/-! ### a def that leaves all as it is -/
def RtF (F : FSem) (vs : List D) (v : D) : Prop := ∀ (P : O → List O → Prop) (PX : Exn → List O → Prop), P (.d v) (vs.map .d) → F (vs.map .d) P PX
theorem RtF.to {F : FSem} (h : RtF F vs v) (e : v = x) : RtF F vs x := by subst e; exact h
theorem lendW_d {vs : List D} {env : Env} {Q : List O → Prop} (h : Q (vs.map .d)) : lendW (vs.map fun v => .o (.d v)) env Q := by
  induction vs generalizing Q with
  | nil => exact h
  | cons v vs ih => exact ⟨rfl, ih (Q := fun os => Q (.d v :: os)) h⟩
theorem lentAt_d {vs : List D} : lentAt (vs.map fun v => .o (.d v)) = [] := by
  induction vs with
  | nil => rfl
  | cons v vs ih => exact ih
theorem giveBackW_d {vs : List D} {env : Env} {Q : Env → Prop} (h : Q env) : giveBackW (vs.map fun v => .o (.d v)) (vs.map .d) env Q := by
  induction vs with
  | nil => exact h
  | cons v vs ih => exact ih
theorem e_call {F : FSem} {n : Nat} (ha : EvA wl env vs) (h : RtF F vs v) (hn : vs.length = n) : Ev (wCall (ar n F) wl) env v := fun PX P q => ha _ _ (lendW_d ⟨by rw [lentAt_d]; rfl, by rw [List.length_map]; exact hn, h _ _ (giveBackW_d q)⟩)
def Rt (u : WS) (env : Env) (v : D) : Prop := ∀ (PX : Exn → Env → Prop) (k : Kt), (∀ env', k.rt (.o (.d v)) env') → u PX env k
theorem Rt.to {u : WS} (h : Rt u env v) (e : v = x) : Rt u env x := by subst e; exact h
theorem backsW_d {vs : List D} {i : Nat} {env : Env} {Q : List O → Prop} (h : Q (vs.map .d)) : backsW i (vs.map .d) env Q := by
  induction vs generalizing i Q with
  | nil => exact h
  | cons v vs ih => exact ih (Q := fun os => Q (.d v :: os)) h
theorem rtF {u : WS} {n : Nat} (h : Rt u (start n (vs.map .d)) v) : RtF (semW u n) vs v := fun P PX q => h _ _ fun env' => backsW_d q
/-- the same where lists are handed back -/
def RtL (u : WS) (env : Env) (ds : List D) : Prop := ∀ (PX : Exn → Env → Prop) (k : Kt), (∀ a env', k.rt (.o (.lst a (ds.map .d))) env') → u PX env k
def RtFL (F : FSem) (vs ds : List D) : Prop := ∀ (P : O → List O → Prop) (PX : Exn → List O → Prop), (∀ a, P (.lst a (ds.map .d)) (vs.map .d)) → F (vs.map .d) P PX
theorem rtFL {u : WS} {n : Nat} (h : RtL u (start n (vs.map .d)) ds) : RtFL (semW u n) vs ds := fun P PX q => h _ _ fun a env' => backsW_d (q a)
theorem e_callL {F : FSem} {n : Nat} (ha : EvA wl env vs) (h : RtFL F vs ds) (hn : vs.length = n) : EvL (wCall (ar n F) wl) env ds := fun PX P q => ha _ _ (lendW_d ⟨by rw [lentAt_d]; rfl, by rw [List.length_map]; exact hn, h _ _ fun a => giveBackW_d (q a)⟩)
def thenS (u v : WS) : WS := fun PX env k => u PX env { k with nx := fun e => v PX e k }
section
variable {u ux uy : WS}
theorem r_ret (h : Ev we env v) : Rt (sCons (sRet we) u) env v := fun PX k q => h _ _ (q _)
theorem r_retN : Rt (sCons sRetN u) env .none := fun PX k q => q _
theorem l_ret (h : EvL we env ds) : RtL (sCons (sRet we) u) env ds := fun PX k q => h _ _ fun a => q a _
theorem r_if (hc : Ev wc env (.bool p)) (ha : p = true → Rt ux env x) (hb : p = false → Rt u env y) : Rt (sCons (sIf wc ux sNil) u) env (if p = true then x else y) := fun PX k h => by
  refine hc _ _ ?_
  show if p = true then _ else _
  cases p with
  | true => rw [if_pos rfl] at h ⊢; exact ha rfl _ _ h
  | false => rw [if_neg (by decide)] at h ⊢; exact hb rfl _ _ h
theorem l_if {es : List D} (hc : Ev wc env (.bool p)) (ha : p = true → RtL ux env ds) (hb : p = false → RtL u env es) : RtL (sCons (sIf wc ux sNil) u) env (if p = true then ds else es) := fun PX k h => by
  refine hc _ _ ?_
  show if p = true then _ else _
  cases p with
  | true => rw [if_pos rfl]; exact ha rfl _ _ h
  | false => rw [if_neg (by decide)]; exact hb rfl _ _ h
/-- both ways go on -/
theorem r_ifs (hc : Ev wc env (.bool p)) (ha : p = true → Rt (thenS ux u) env x) (hb : p = false → Rt (thenS uy u) env y) : Rt (sCons (sIf wc ux uy) u) env (if p = true then x else y) := fun PX k h => by
  refine hc _ _ ?_
  show if p = true then _ else _
  cases p with
  | true => rw [if_pos rfl] at h ⊢; exact ha rfl _ _ h
  | false => rw [if_neg (by decide)] at h ⊢; exact hb rfl _ _ h
theorem r_nil (h : Rt u env v) : Rt (thenS sNil u) env v := h
theorem r_asg (h : Ev we env x) (hi : i < env.length) (hu : Rt u (env.set i (some (.d x))) v) : Rt (sCons (sAsg (.v i) we) u) env v := fun PX k q => h _ _ ⟨hi, hu _ _ q⟩
theorem l_asg (h : Ev we env x) (hi : i < env.length) (hu : RtL u (env.set i (some (.d x))) ds) : RtL (sCons (sAsg (.v i) we) u) env ds := fun PX k q => h _ _ ⟨hi, hu _ _ q⟩
theorem r_asgL (h : EvL we env ds) (hi : i < env.length) (hu : ∀ a, Rt u (env.set i (some (.lst a (ds.map .d)))) v) : Rt (sCons (sAsg (.v i) we) u) env v := fun PX k q => h _ _ fun a => ⟨hi, hu a _ _ q⟩
theorem r_asgT {is : List Nat} (h : Ev we env (.tuple vs)) (hu : ∀ (Q : Env → Prop), (∀ env', env' = (is.zip vs).foldl (fun e iv => e.set iv.1 (some (.d iv.2))) env → Q env') → setAll is (vs.map .d) env Q) (hr : Rt u ((is.zip vs).foldl (fun e iv => e.set iv.1 (some (.d iv.2))) env) v) : Rt (sCons (sAsg (.tup is) we) u) env v := fun PX k q => h _ _ (hu _ fun env' e => by subst e; exact hr _ _ q)
end
/-! ### what is gone through -/
theorem sv_e (h : Ev we env x) (e : seqOf x = some ds) : EvS (iE we) env ⟨ds, none⟩ := fun PX P q => h _ _ (onSome_mk e q)
theorem sv_l (h : EvL we env ds) : EvS (iE we) env ⟨ds, none⟩ := fun PX P q => h _ _ fun a => srcL q
theorem sv_r1 {n : Int} (h : Ev we env (.int n)) (hn : -4611686018427387904 ≤ n ∧ n < 4611686018427387904) : EvS (iR1 we) env ⟨upTo 0 n.toNat, none⟩ := fun PX P q => h _ _ ⟨hn, q⟩
theorem sv_r2 {m n : Int} (h : Ev wa env (.int m)) (h2 : Ev wb env (.int n)) (hm : -4611686018427387904 ≤ m ∧ m < 4611686018427387904) (hn : -4611686018427387904 ≤ n ∧ n < 4611686018427387904) : EvS (iR2 wa wb) env ⟨upTo m (n - m).toNat, none⟩ := fun PX P q => h _ _ (h2 _ _ ⟨hm, hn, q⟩)
theorem sv_s {x : Str} (h : Ev we env (.str x)) : EvS (iS we) env ⟨letters x, none⟩ := fun PX P q => h _ _ q
theorem sv_en (h : Ev we env x) (e : seqOf x = some ds) : EvS (iEnum we) env ⟨numbered ds, none⟩ := fun PX P q => h _ _ (onSome_mk e q)
theorem sv_zT {xs ys : List D} (h : Ev wa env (.tuple xs)) (h2 : Ev wb env (.tuple ys)) : EvS (iZip2 wa wb) env ⟨zipD xs ys, none⟩ := fun PX P q => h _ _ (h2 _ _ q)
theorem sv_zL {xs ys : List D} (h : Ev wa env (.list xs)) (h2 : Ev wb env (.list ys)) : EvS (iZip2 wa wb) env ⟨zipD xs ys, none⟩ := fun PX P q => h _ _ (h2 _ _ q)
/-! ### comprehensions -/
theorem restore_void1 {env : Env} {i : Nat} (hi : i < env.length) : restore env [i] (void [i] env) = env := by
  show (List.set _ _ _).set i _ = env
  rw [List.set_set]
  have : ∀ (l : Env) (o : Option (Option O)), o = some env[i] → l = env → l.set i (match o with | some o => o | none => none) = env := by
    intro l o h1 h2
    subst h1 h2
    exact List.set_getElem_self hi
  exact this _ _ (List.getElem?_eq_getElem hi) rfl
theorem e_compF {wi : WI} {wt : WT} {g : D → Bool} {f : D → D} (hs : EvS wi env ⟨ds, none⟩) (hp : plainAt env i) (hi : i < env.length) (hl : ds.length ≤ 1000000)
    (ht : ∀ x ∈ ds, Ev wt (env.set i (some (.d x))) (.bool (g x))) (he : ∀ x ∈ ds, g x = true → Ev we (env.set i (some (.d x))) (f x)) : EvL (wComp wi [i] (.v i) (cOne wt) we) env ((ds.filter g).map f) := fun PX P q => by
  refine hs _ _ ⟨plain1 hp, fun a => ?_⟩
  refine goComp_filter (s := ⟨ds, none⟩) g (fun x => .d (f x)) hl trivial (fun x hx acc K h1 h2 h3 => ?_) fun _ => ?_
  · have hv : Nat.blt i (void [i] (void [i] env)).length = true := by rw [void_length, void_length]; simpa [Nat.blt_eq] using hi
    refine stepC_c hv ?_
    have e : (void [i] (void [i] env)).set i (some (O.d x)) = env.set i (some (.d x)) := by show (List.set (List.set (List.set env i none) i none) i _) = _; rw [List.set_set, List.set_set]
    rw [e]
    refine ht x hx _ _ ?_
    show if g x = true then _ else _
    have e2 : void [i] (env.set i (some (O.d x))) = void [i] env := by show List.set (List.set env i _) i none = List.set env i none; rw [List.set_set]
    cases hg : g x with
    | true =>
      rw [if_pos rfl]
      exact he x hx hg _ _ ⟨h1, by rw [e2]; exact h2 hg⟩
    | false =>
      rw [if_neg (by decide), e2]
      exact h3 hg
  · rw [restore_void1 hi, show ((ds.filter g).map fun x => O.d (f x)) = ((ds.filter g).map f).map .d by rw [List.map_map]; rfl]
    exact q a
theorem e_comp {wi : WI} {f : D → D} (hs : EvS wi env ⟨ds, none⟩) (hp : plainAt env i) (hi : i < env.length) (hl : ds.length ≤ 1000000)
    (he : ∀ x ∈ ds, Ev we (env.set i (some (.d x))) (f x)) : EvL (wComp wi [i] (.v i) cAll we) env (ds.map f) := fun PX P q => by
  refine hs _ _ ⟨plain1 hp, fun a => ?_⟩
  refine goComp_map (s := ⟨ds, none⟩) (fun x => .d (f x)) hl trivial (fun x hx acc K h1 h2 => ?_) fun _ => ?_
  · have hv : Nat.blt i (void [i] (void [i] env)).length = true := by rw [void_length, void_length]; simpa [Nat.blt_eq] using hi
    refine stepC_v hv ?_
    have e : (void [i] (void [i] env)).set i (some (O.d x)) = env.set i (some (.d x)) := by show (List.set (List.set (List.set env i none) i none) i _) = _; rw [List.set_set, List.set_set]
    rw [e]
    have e2 : void [i] (env.set i (some (O.d x))) = void [i] env := by show List.set (List.set env i _) i none = List.set env i none; rw [List.set_set]
    exact he x hx _ _ ⟨h1, by rw [e2]; exact h2⟩
  · rw [restore_void1 hi, show (ds.map fun x => O.d (f x)) = (ds.map f).map .d by rw [List.map_map]; rfl]
    exact q a
/-! ### loops that search -/
def BodyR (u : WS) (env : Env) (q : Bool) (r : D) : Prop := ∀ (PX : Exn → Env → Prop) (k : Kt), (q = true → k.nx env) → (q = false → ∀ env', k.rt (.o (.d r)) env') → u PX env k
theorem br_nil {r : D} : BodyR sNil env true r := fun PX k h1 h2 => h1 rfl
theorem br_if {ux u : WS} {r : D} (hc : Ev wc env (.bool p)) (ha : p = true → Rt ux env r) (hb : p = false → BodyR u env q r) : BodyR (sCons (sIf wc ux sNil) u) env (!p && q) r := fun PX k h1 h2 => by
  refine hc _ _ ?_
  show if p = true then _ else _
  cases p with
  | true =>
    rw [if_pos rfl]
    exact ha rfl _ _ (h2 rfl)
  | false =>
    rw [if_neg (by decide)]
    refine hb rfl _ _ (fun hq => h1 ?_) (fun hq => h2 ?_)
    · rw [hq]; rfl
    · rw [hq]; rfl
theorem r_for {wi : WI} {wb u : WS} {g : D → Bool} {r0 : D} (hs : EvS wi env ⟨ds, none⟩) (hi : i < env.length) (hb : ∀ x ∈ ds, BodyR wb (env.set i (some (.d x))) (g x) r0) (hu : ∀ y, Rt u (env.set i y) v) :
    Rt (sCons (sFor (.v i) wi wb) u) env (if ds.all g = true then v else r0) := fun PX k h => by
  refine hs _ _ ?_
  show goFor _ _ ds env _
  have key : ∀ (l : List D) (y : Option O) (g2 : List D → Prop), (∀ x ∈ l, x ∈ ds) → (∀ env', k.rt (.o (.d (if l.all g = true then v else r0))) env') → goFor ⟨ds, none⟩ (forStep (.v i) wb PX { k with nx := fun env1 => u PX env1 k }) l (env.set i y) fun env1 => u PX env1 k := by
    intro l
    induction l with
    | nil =>
      intro y _ _ h
      exact hu y _ _ (by simpa using h)
    | cons x l ih =>
      intro y _ hm h
      show forStep _ _ _ _ _ _ _
      refine ⟨by rw [List.length_set]; exact hi, ?_⟩
      rw [List.set_set]
      refine hb x (hm x List.mem_cons_self) _ _ (fun hg => ⟨trivial, ?_⟩) fun hg env' => ?_
      · refine ih _ (fun _ => True) (fun z hz => hm z (List.mem_cons_of_mem _ hz)) fun env' => ?_
        have h2 := h env'
        rw [List.all_cons, hg, Bool.true_and] at h2
        exact h2
      · have h2 := h env'
        rw [List.all_cons, hg, Bool.false_and, if_neg (by decide)] at h2
        exact h2
  have e : env.set i env[i] = env := List.set_getElem_self hi
  have := key ds env[i] (fun _ => True) (fun _ h => h) h
  rw [e] at this
  exact this
end
end Vx
namespace Vx
open PySem PySem.Spec L2

/-! ### the parts of a thing, whatever it is -/
def items : D → List D
  | .tuple ds => ds
  | .list ds => ds
  | _ => []
def intD : D → Int
  | .int i => i
  | _ => 0
def strD : D → Str
  | .str x => x
  | _ => ("" : Str)
abbrev isT (t : Ty) (x : D) : Bool := decide (t ∈ tyOf x)
/-- a number that is no truth -/
def isNumD : D → Bool
  | .int _ => true
  | _ => false
theorem isNumD_eq {x : D} : isNumD x = (isT .int x && !isT .bool x) := by cases x <;> simp [isNumD, isT, tyOf]
theorem tup_of {x : D} (h : isT .tuple x = true) : x = .tuple (items x) := by cases x <;> first | rfl | (simp [isT, tyOf] at h)
theorem lst_of {x : D} (h : isT .list x = true) : x = .list (items x) := by cases x <;> first | rfl | (simp [isT, tyOf] at h)
theorem str_of {x : D} (h : isT .str x = true) : x = .str (strD x) := by cases x <;> first | rfl | (simp [isT, tyOf] at h)
theorem num_of {x : D} (h : isNumD x = true) : x = .int (intD x) := by cases x <;> first | rfl | (simp [isNumD] at h)
def atD (x : D) (n : Int) : D := (items x).getD n.toNat .none
theorem atI_nat {ds : List D} {n : Nat} (h : n < ds.length) : atI ds (n : Int) = some (ds.getD n .none) := by
  refine atI_int (ixN_nat h) ?_
  rw [List.getElem?_eq_getElem h, List.getD_eq_getElem?_getD, List.getElem?_eq_getElem h]; rfl
theorem atD_mem {x : D} {n : Int} (h : 0 ≤ n ∧ n < (items x).length) : atD x n ∈ items x := by
  have h2 : n.toNat < (items x).length := by omega
  unfold atD
  rw [List.getD_eq_getElem?_getD, List.getElem?_eq_getElem h2]
  exact List.getElem_mem h2
section
variable {w wa wb wc we : WT} {wl : WA} {env : Env} {x y z v : D} {ds vs : List D} {p q r : Bool} {i j : Nat}
theorem e_len (ha : EvU wa env x) (h : isT .tuple x = true) : Ev (wPrim .len (aCons wa aNil)) env (.int (items x).length) := by
  rw [tup_of h] at ha
  exact e_lenT ha
theorem e_lenX (ha : EvU wa env x) (h : isT .str x = true) (hl : (strD x).length ≤ 1000000) : Ev (wPrim .len (aCons wa aNil)) env (.int (strD x).length) := by
  rw [str_of h] at ha
  exact e_lenS ha hl
theorem e_ix {n : Int} (ha : Ev wa env x) (hb : EvU wb env (.int n)) (ht : isT .tuple x = true) (h : 0 ≤ n ∧ n < (items x).length) : Ev (wIx wa wb) env (atD x n) := by
  rw [tup_of ht] at ha
  obtain ⟨k, rfl⟩ : ∃ k : Nat, n = k := ⟨n.toNat, by omega⟩
  exact e_ixT ha hb (atI_nat (by omega))
theorem sv_t (h : Ev we env x) (ht : isT .tuple x = true) : EvS (iE we) env ⟨items x, none⟩ := by
  rw [tup_of ht] at h
  exact sv_e h rfl
theorem sv_x (h : Ev we env x) (ht : isT .str x = true) : EvS (iS we) env ⟨letters (strD x), none⟩ := by
  rw [str_of ht] at h
  exact sv_s h
theorem cx_lt (hx : isNumD x = true) (hy : isNumD y = true) : CmpV .lt x y (decide (intD x < intD y)) := by rw [num_of hx, num_of hy]; exact c_lt
theorem cx_le (hx : isNumD x = true) (hy : isNumD y = true) : CmpV .le x y (decide (intD x ≤ intD y)) := by rw [num_of hx, num_of hy]; exact c_le
theorem cx_gt (hx : isNumD x = true) (hy : isNumD y = true) : CmpV .gt x y (decide (intD y < intD x)) := by rw [num_of hx, num_of hy]; exact c_gt
theorem cx_ge (hx : isNumD x = true) (hy : isNumD y = true) : CmpV .ge x y (decide (intD y ≤ intD x)) := by rw [num_of hx, num_of hy]; exact c_ge
theorem bx_add (hx : isNumD x = true) (hy : isNumD y = true) : BopV .add x y (.int (intD x + intD y)) := by rw [num_of hx, num_of hy]; exact b_addI
theorem bx_sub (hx : isNumD x = true) (hy : isNumD y = true) : BopV .sub x y (.int (intD x - intD y)) := by rw [num_of hx, num_of hy]; exact b_subI
theorem cx_eqS {x : D} {t : Str} (hx : isT .str x = true) : CmpV .eq x (.str t) (decide (strD x = t)) := by rw [str_of hx]; exact c_eqS
theorem cx_neS {x : D} {t : Str} (hx : isT .str x = true) : CmpV .ne x (.str t) (!decide (strD x = t)) := by rw [str_of hx]; exact c_neS
theorem cx_eqL {n m : Int} : CmpV .eq (.int n) (.int m) (decide (n = m)) := c_eqI
/-- a list beside the list of none -/
theorem c_eqNil (h : plainD (.list ds) = true) : CmpV .eq (.list ds) (.list []) ds.isEmpty := fun Q q => by
  refine ⟨eqOk_of h rfl, ?_⟩
  have : PyData.eqv (.list ds) (.list []) = ds.isEmpty := by cases ds <;> simp [PyData.eqv, PyData.eqvAll]
  rw [this]; exact q
end
end Vx
namespace Vx
open PySem PySem.Spec L2

/-! ### parts of data, their weights -/
theorem mem_cutD {xs : List D} {lo hi : Option Int} {d : D} (h : d ∈ cutD xs lo hi) : d ∈ xs := List.mem_of_mem_drop (List.mem_of_mem_take h)
theorem cutD_len {xs : List D} {lo hi : Option Int} : (cutD xs lo hi).length ≤ xs.length := by
  unfold cutD
  rw [List.length_take, List.length_drop]
  omega
theorem wt_one {d : D} : PyData.weightAll [d] = d.weight + 1 := by simp only [PyData.weightAll] <;> omega
theorem wt_cut {ds : List D} {lo hi : Option Int} : PyData.weightAll (cutD ds lo hi) ≤ PyData.weightAll ds := wt_mid
theorem wt_cut2 {ds : List D} {v w : Int} (h0 : 0 ≤ v) (h1 : v ≤ w) : PyData.weightAll (cutD ds none (some v)) + PyData.weightAll (cutD ds (some w) none) ≤ PyData.weightAll ds := by
  rw [cut_to h0, cut_from (by omega)]
  have h2 := wt_take (xs := ds) (j := v.toNat)
  have h3 := wt_drop (xs := ds) (j := v.toNat) (k := w.toNat) (by omega)
  omega
theorem wt_mem {ds : List D} {d : D} (h : d ∈ ds) : d.weight ≤ PyData.weightAll ds := by
  obtain ⟨j, hj⟩ := List.getElem?_of_mem h
  have := wt_split hj
  omega
theorem wt_put {ds : List D} {d e : D} {j : Nat} (h : ds[j]? = some e) : PyData.weightAll (cutD ds none (some (j : Int)) ++ [d] ++ cutD ds (some ((j : Int) + 1)) none) + e.weight = PyData.weightAll ds + d.weight := by
  rw [cut_to (by omega), cut_from (by omega), wt_app, wt_app, wt_one]
  have := wt_split h
  rw [show ((j : Int)).toNat = j by omega, show ((j : Int) + 1).toNat = j + 1 by omega]
  omega
theorem wt_str {x : Str} : PyData.weight (.str x) = x.length := by simp only [PyData.weight]; rfl
theorem wt_tup {ds : List D} : PyData.weight (.tuple ds) = PyData.weightAll ds := by simp only [PyData.weight]
theorem wt_lst {ds : List D} : PyData.weight (.list ds) = PyData.weightAll ds := by simp only [PyData.weight]
theorem wt_none : PyData.weight .none = 0 := by simp only [PyData.weight]
theorem wt_bool {b : Bool} : PyData.weight (.bool b) = 0 := by simp only [PyData.weight]
theorem wt_cons {d : D} {ds : List D} : PyData.weightAll (d :: ds) = d.weight + 1 + PyData.weightAll ds := by simp only [PyData.weightAll]
theorem wt_nil : PyData.weightAll ([] : List D) = 0 := by simp only [PyData.weightAll]
/-- of data each of which is good -/
theorem wt_all {w : Nat} {ds : List D} (h : ∀ d ∈ ds, d.weight ≤ w) : PyData.weightAll ds ≤ (w + 1) * ds.length := by
  induction ds with
  | nil => exact Nat.zero_le _
  | cons d ds ih =>
    have := ih fun y hy => h y (List.mem_cons_of_mem _ hy)
    have h1 := h d List.mem_cons_self
    rw [List.length_cons, Nat.mul_succ, wt_cons]
    omega
theorem tup_good {s n w m : Nat} {ds : List D} (h : ∀ d ∈ ds, G s n d ∧ d.weight ≤ w) (hm : ds.length ≤ m) : G s (n + 1) (.tuple ds) ∧ PyData.weight (.tuple ds) ≤ (w + 1) * m :=
  ⟨.tup fun d hd => (h d hd).1, by rw [wt_tup]; exact Nat.le_trans (wt_all fun d hd => (h d hd).2) (Nat.mul_le_mul_left _ hm)⟩
theorem list_good {s n w m : Nat} {ds : List D} (h : ∀ d ∈ ds, G s n d ∧ d.weight ≤ w) (hm : ds.length ≤ m) : G s (n + 1) (.list ds) ∧ PyData.weight (.list ds) ≤ (w + 1) * m :=
  ⟨.lst fun d hd => (h d hd).1, by rw [wt_lst]; exact Nat.le_trans (wt_all fun d hd => (h d hd).2) (Nat.mul_le_mul_left _ hm)⟩
theorem small_int {s n : Nat} {i : Int} (h : i.natAbs ≤ 2 ^ 199) : G s n (.int i) ∧ PyData.weight (.int i) ≤ 200 := by
  have q : i.natAbs ≤ 2 ^ 199 + 0 := by omega
  exact ⟨.int (by omega), wt_int (s := 0) (by omega) q⟩
theorem pow180 : (10 : Nat) ^ 59 ≤ 2 ^ 199 := by decide +kernel
theorem wt_ints {ns : List Int} {m : Nat} (h : ∀ n ∈ ns, n.natAbs ≤ 2 ^ 199) (hm : ns.length ≤ m) : PyData.weightAll (ns.map PyData.int) ≤ 201 * m := by
  refine Nat.le_trans (wt_all (w := 200) fun d hd => ?_) (by rw [List.length_map]; exact Nat.mul_le_mul_left _ hm)
  obtain ⟨n, hn, rfl⟩ := List.mem_map.mp hd
  exact (small_int (s := 0) (n := 0) (h n hn)).2

/-! ### things of some goodness -/
theorem G.kid {s : Nat} {x : D} {d : D} : ∀ {n : Nat}, G s n x → d ∈ items x → G s n d ∧ d.weight ≤ x.weight := fun {n} h hd => by
  cases h with
  | tup h => exact ⟨(h d hd).mono (Nat.le_refl _) (Nat.le_succ _), by rw [wt_tup]; exact wt_mem hd⟩
  | lst h => exact ⟨(h d hd).mono (Nat.le_refl _) (Nat.le_succ _), by rw [wt_lst]; exact wt_mem hd⟩
  | _ => cases hd
theorem G.kid' {s : Nat} {x : D} {d : D} : ∀ {n : Nat}, G s (n + 1) x → d ∈ items x → G s n d := fun {n} h hd => by
  cases h with
  | tup h => exact h d hd
  | lst h => exact h d hd
  | _ => cases hd
def GD (w : Nat) (x : D) : Prop := G 900 60 x ∧ x.weight ≤ w
theorem GDof {s n w v : Nat} {x : D} (h : G s n x) (hs : s ≤ 900) (hn : n ≤ 60) (hw : x.weight ≤ w) (h2 : w ≤ v) : GD v x := ⟨h.mono hs hn, Nat.le_trans hw h2⟩
theorem GD.mono {w v : Nat} {x : D} (h : GD w x) (hv : w ≤ v) : GD v x := ⟨h.1, Nat.le_trans h.2 hv⟩
theorem GD.kid {w : Nat} {x d : D} (h : GD w x) (hd : d ∈ items x) : GD w d := ⟨(G.kid h.1 hd).1, Nat.le_trans (G.kid h.1 hd).2 h.2⟩
theorem GD.kid' {w : Nat} {x d : D} (hd : d ∈ items x) (h : GD w x) : GD w d := h.kid hd
theorem GD.len {w : Nat} {x : D} (h : GD w x) : (items x).length ≤ w := by
  refine Nat.le_trans ?_ h.2
  cases x with
  | tuple ds => rw [wt_tup]; exact len_wt
  | list ds => rw [wt_lst]; exact len_wt
  | _ => exact Nat.zero_le _
theorem GD.str {w : Nat} {x : D} (h : GD w x) : (strD x).length ≤ w + 1 := by
  cases x with
  | str x => exact Nat.le_succ_of_le (by have := h.2; rw [wt_str] at this; exact this)
  | _ => exact Nat.le_trans (show Str.length ("" : Str) ≤ 0 by decide +kernel) (Nat.zero_le _)
theorem GD.plain {w : Nat} {x : D} (h : GD w x) : plainD x = true := ((h.1.mo (by omega)).plain (by omega))
theorem GD.plainS {w : Nat} {x : D} (h : GD w x) : plainS (strD x) := by
  cases x with
  | str x => cases h.1 with | str h => exact h
  | _ => exact plainS_lit (x := ("" : Str)) (by decide +kernel)
theorem GD.show {w : Nat} {x : D} (h : GD w x) (hw : w ≤ 170000) : ShowOk x := (h.1.mo (by omega)).show (by omega) (Nat.le_trans h.2 (by omega))
theorem plain_sub {w : Nat} {x : D} {ds : List D} (h : GD w x) (hd : ∀ d ∈ ds, d ∈ items x) : plainD (.list ds) = true :=
  (G.mo (s := 900) (by omega) (G.lst (n := 60) fun d hm => (G.kid h.1 (hd d hm)).1)).plain (by omega)
theorem plain_strs {zs : List Str} (h : ∀ z ∈ zs, Vx.plainS z) : plainD (.list (zs.map PyData.str)) = true :=
  (G.mo (s := 900) (by omega) (G.lst (n := 0) fun d hm => by
    obtain ⟨z, hz, rfl⟩ := List.mem_map.mp hm
    exact .str (h z hz))).plain (by omega)
theorem shB {bs : List Bool} (h : bs.length ≤ 100) : ShowOk (.list (bs.map PyData.bool)) := by
  have z := (G.lst (s := 0) (n := 0) (ds := bs.map PyData.bool) fun d hd => by
    obtain ⟨b, _, rfl⟩ := List.mem_map.mp hd
    exact .bool)
  refine (z.mo (by omega)).show (by omega) ?_
  rw [wt_lst]
  refine Nat.le_trans (wt_all (w := 0) fun d hd => ?_) (by rw [List.length_map]; omega)
  obtain ⟨b, _, rfl⟩ := List.mem_map.mp hd
  rw [wt_bool]; exact Nat.le_refl _
theorem shB1 {b : Bool} : ShowOk (.bool b) := (G.bool (s := 0) (n := 0)).mo (by omega) |>.show (by omega) (by rw [wt_bool]; omega)

/-! ### comparisons -/
theorem cx_eqT0 {x : D} (h : plainD x = true) : CmpV .eq x (.tuple []) (isT .tuple x && (items x).isEmpty) := fun Q q => by
  refine ⟨eqOk_of h (by decide +kernel), ?_⟩
  have : PyData.eqv x (.tuple []) = (isT .tuple x && (items x).isEmpty) := by
    cases x with
    | tuple ds => cases ds <;> simp [PyData.eqv, PyData.eqvAll, isT, tyOf, items]
    | _ => simp [PyData.eqv, isT, tyOf, items]
  rw [this]; exact q
theorem cx_neT0 {x : D} (h : plainD x = true) : CmpV .ne x (.tuple []) (!(isT .tuple x && (items x).isEmpty)) := fun Q q => by
  refine ⟨eqOk_of h (by decide +kernel), ?_⟩
  have : PyData.eqv x (.tuple []) = (isT .tuple x && (items x).isEmpty) := by
    cases x with
    | tuple ds => cases ds <;> simp [PyData.eqv, PyData.eqvAll, isT, tyOf, items]
    | _ => simp [PyData.eqv, isT, tyOf, items]
  rw [this]; exact q
theorem eqv_nil {ds : List D} : PyData.eqv (.list ds) (.list []) = ds.isEmpty := by cases ds <;> simp [PyData.eqv, PyData.eqvAll]
theorem c_neNil {ds : List D} (h : plainD (.list ds) = true) : CmpV .ne (.list ds) (.list []) (!ds.isEmpty) := fun Q q => by
  refine ⟨eqOk_of h rfl, ?_⟩
  rw [eqv_nil]; exact q
theorem filter_none {α β : Type} {p : α → Bool} {f : α → β} {l : List α} : ((l.filter fun c => !p c).map f).isEmpty = l.all p := by
  induction l with
  | nil => rfl
  | cons c l ih =>
    rw [List.filter_cons, List.all_cons]
    cases e : p c with
    | true => rw [if_neg (by simp), ih]; simp
    | false => rw [if_pos (by simp)]; simp

/-! ### what is reckoned, in a body -/
theorem nx_ifE {wc : WT} {wx wy u : WS} {PX : Exn → Vx.Env → Prop} {env : Vx.Env} {k : Kt} {p : Bool} (hc : Ev wc env (.bool p)) (h : if p = true then Nx wx PX env ⟨fun env2 => Nx u PX env2 k, k.rt, k.bk, k.ct⟩ else Nx wy PX env ⟨fun env2 => Nx u PX env2 k, k.rt, k.bk, k.ct⟩) : Nx (sCons (sIf wc wx wy) u) PX env k :=
  nx_if (hc _ _ h)
theorem nx_asgE {we : WT} {u : WS} {PX : Exn → Vx.Env → Prop} {env : Vx.Env} {k : Kt} {i : Nat} {v : D} (hc : Ev we env v) (hi : Nat.blt i env.length = true) (h : Nx u PX (env.set i (some (.d v))) k) : Nx (sCons (sAsg (.v i) we) u) PX env k :=
  nx_asg (hc _ _ ⟨by simpa [Nat.blt_eq] using hi, h⟩)
theorem nx_asgLE {we : WT} {u : WS} {PX : Exn → Vx.Env → Prop} {env : Vx.Env} {k : Kt} {i : Nat} {ds : List D} (hc : EvL we env ds) (hi : Nat.blt i env.length = true) (h : ∀ a, Nx u PX (env.set i (some (.lst a (ds.map .d)))) k) : Nx (sCons (sAsg (.v i) we) u) PX env k :=
  nx_asg (hc _ _ fun a => ⟨by simpa [Nat.blt_eq] using hi, h a⟩)
theorem nx_retE {we : WT} {u : WS} {PX : Exn → Vx.Env → Prop} {env : Vx.Env} {k : Kt} {v : D} (hc : Ev we env v) (h : k.rt (.o (.d v)) env) : Nx (sCons (sRet we) u) PX env k :=
  nx_ret (hc _ _ h)
/-- a def without things lent, by what it hands back -/
theorem rt_of {F : FSem} {vs : List D} {v : D} {P : O → List O → Prop} {PX : Exn → List O → Prop} (h : RtF F vs v) (q : P (.d v) (vs.map .d)) : F (vs.map .d) P PX := h P PX q
theorem letters_len {x : Str} : (letters x).length = x.length := by unfold letters; rw [List.length_map, Array.length_toList]; rfl
theorem letters_mem {x : Str} {d : D} (h : d ∈ letters x) : ∃ c, c ∈ x.cps.toList ∧ d = .str ⟨#[c]⟩ := by
  obtain ⟨c, hc, rfl⟩ := List.mem_map.mp h
  exact ⟨c, hc, rfl⟩
end Vx
namespace Vx
open PySem PySem.Spec L2

/-! ### a key in an own dict -/
def wInD (neg : Bool) (wa wb : WT) : WT := fun PX env P => wa PX env fun x env1 => wb PX env1 fun y env2 => useW x env2 fun dx => onSome (keyOf dx) fun key => match y with
  | .al a i p => match envAt env2 i p with
    | some (.obj b (.dct ks) xs) => b = a ∧ P (.o (.d (.bool (if neg = true then !(keyIx ks key).isSome else (keyIx ks key).isSome)))) env2
    | _ => False
  | _ => False
theorem valV_some {k : Key} : ∀ {ks : List Key} {vs : List V}, ks.length = vs.length → (valV (ks.zip vs) k).isSome = (keyIx ks k).isSome
  | [], vs, _ => rfl
  | k' :: ks, [], hl => nomatch hl
  | k' :: ks, v :: vs, hl => by
    rw [keyIx_cons]
    show (valV ((k', v) :: ks.zip vs) k).isSome = _
    by_cases e : k' = k
    · rw [valV_pos (p := (k', v)) e, if_pos e]; rfl
    · rw [valV_neg (p := (k', v)) e, if_neg e, valV_some (Nat.succ.inj hl)]
      cases keyIx ks k <;> rfl
section
variable {X : Cx} {B : Bs} {Wx : WX} {a b c e o : Expr} {wa wb wc we wo wi : WT} {pos : Pos} {es : List Expr} {wl : WA}
theorem inD_step {σ : L2.St} {H : Hp} {Q : VK} {neg : Bool} (h : tE X B Wx (wInD neg wa wb) σ H Q) :
    (tE X B Wx wa) σ H fun y H1 => (tE X B Wx wb) σ H1 fun x H2 => ∃ a o, x = .ref a ∧ DGet H2 a y o ∧ Q (.bl (if neg = true then !o.isSome else o.isSome)) H2 := by
  obtain ⟨S, env, T, P, PX, r, hw, hP, hX⟩ := h
  refine ⟨S, env, T, _, PX, r, hw, fun x env1 vx S1 H1 hq r1 => ?_, hX⟩
  refine ⟨S1, env1, (vx, x) :: T, _, PX, r1, hq, fun y env2 vy S2 H2 hk r2 => ?_, hX⟩
  have r2' : R X.K B S2 H2 σ env2 ((vx, x) :: (vy, y) :: T) := r2.perm (fun t ht => by
    rcases List.mem_cons.mp ht with e | ht
    · subst e; exact List.mem_cons_of_mem _ List.mem_cons_self
    · rcases List.mem_cons.mp ht with e | ht
      · subst e; exact List.mem_cons_self
      · exact List.mem_cons_of_mem _ (List.mem_cons_of_mem _ ht)) fun b => by
    show cntW b x + (cntW b y + cntT b T) ≤ cntW b y + (cntW b x + cntT b T)
    omega
  obtain ⟨S3, r3, f⟩ := R.used (P := [(vx, x)]) (T := (vy, y) :: T) r2'
  obtain ⟨dx, hk, ux⟩ := f (vx, x) List.mem_cons_self _ hk
  obtain ⟨key, hky, hk⟩ := onSome_some hk
  cases y with
  | o _ => exact hk.elim
  | al a i p =>
    have r4 := R.pops r3
    have ex : vx = kV key := keyOf_ud ux hky
    have et : vy = .ref a := r4.tmps (vy, .al a i p) List.mem_cons_self
    cases ee : envAt env2 i p with
    | none => simp only [ee] at hk
    | some z =>
      simp only [ee] at hk
      cases z with
      | d _ => exact hk.elim
      | tup _ => exact hk.elim
      | obj b2 kd xs =>
        cases kd with
        | lst => exact hk.elim
        | dct ks =>
          obtain ⟨hb, q⟩ := hk
          subst hb
          obtain ⟨vs, hv, hf, ow⟩ := r4.seenObj ee
          refine ⟨b2, _, et, by rw [ex]; exact DGet.k hv, ?_⟩
          rw [valV_some hf.1]
          have r5 : R X.K B S3 H2 σ env2 T := r4.perm (fun t ht => List.mem_cons_of_mem _ ht) fun b => Nat.le_add_left _ _
          exact hP _ _ _ _ _ q (r5.push (.bl _))
theorem c_inD {k : Nat} (hr : Room k X.A) (ha : PV X B Wx a wa) (hb : PV X B Wx b wb) (hm : behindInMarks .In b = false) : Snd X B Wx (.Compare a [.In] [b] pos) (wInD false wa wb) :=
  ⟨PE_imp (pe_cmp (pc_din (hu_of hr) ha hb) hm) fun σ H Q h => inD_step h, PT_imp (pt_cmp (pc_din (hu_of hr) ha hb) hm) fun σ H Q h => inD_step (tT_tE h)⟩
theorem c_notInD {k : Nat} (hr : Room k X.A) (ha : PV X B Wx a wa) (hb : PV X B Wx b wb) (hm : behindInMarks .NotIn b = false) : Snd X B Wx (.Compare a [.NotIn] [b] pos) (wInD true wa wb) :=
  ⟨PE_imp (pe_cmp (pc_dnotin (hu_of hr) ha hb) hm) fun σ H Q h => inD_step h, PT_imp (pt_cmp (pc_dnotin (hu_of hr) ha hb) hm) fun σ H Q h => inD_step (tT_tE h)⟩
end
end Vx
namespace Vx
open PySem PySem.Spec L2
/-! ### a tuple of the top -/
theorem c_gtup {X : Cx} {B : Bs} {Wx : WX} {x : Str} {p : Pos} {a : Addr} {o : Obj} {its : Array Value} {n : Nat} {vs : List V} {ds : List D} (hg : Gl X x) (hm : X.mg x = some (.ref a)) (lk : X.K.lookup a = some o) (hc : o.cls = .type "tuple") (hd : o.data = .seq its n) (hz : its.size ≤ sizeLine)
    (hv : Vals vs its.toList) (hr : ∀ (S : Fz) (H : Hp), RpA X.K S H vs ds) (hdb : (x == ("__debug__" : Str)) = false) : PV X B Wx (.Name x p) (wK (.tuple ds)) :=
  PE_imp (pe_gc hg hm (show RelV (.ref a) (.ref a) from rfl) hdb) fun σ H Q h => by
    obtain ⟨S, env, T, P, PX, r, hw, hP, _⟩ := h
    exact hP _ env _ S H hw (r.push (.tup (.inr ⟨o, its, n, lk, hc, hd, hz, hv⟩) (hr S H)))
end Vx
namespace Vx
open PySem PySem.Spec L2
/-! ### a comprehension that is not run through by itself -/
@[irreducible] def CompF (s : Src) (step : D → Env → List O → (Env → List O → Prop) → Prop) (env : Env) (acc : List O) (Q : Env → List O → Prop) : Prop := goComp s step s.xs env acc Q
theorem comp_run {s : Src} {step : D → Vx.Env → List O → (Vx.Env → List O → Prop) → Prop} (I : Nat → Vx.Env → List O → Prop) (hs : ∀ i env acc, I i env acc → s.still env)
    (hstep : ∀ i x env acc K, s.xs[i]? = some x → I i env acc → (∀ env' acc', I (i + 1) env' acc' → K env' acc') → step x env acc K) {env : Vx.Env} {acc : List O} {Q : Vx.Env → List O → Prop}
    (h0 : I 0 env acc) (hq : ∀ env' acc', I s.xs.length env' acc' → Q env' acc') : CompF s step env acc Q := by
  unfold CompF
  exact goComp_run I hs hstep h0 hq
theorem w_comp {wi : WI} {own : List Nat} {t : Tg} {wcnd : WC} {we : WT} {PX : Exn → Env → Prop} {env : Env} {P : W → Env → Prop}
    (h : wi PX env fun s env1 => (∀ i ∈ own, plainAt env1 i) ∧ ∀ a, CompF s (stepC t own wcnd we) (void own env1) [] fun env' acc => env'.length = env1.length → P (.o (.lst a acc)) (restore env1 own env')) : wComp wi own t wcnd we PX env P := by
  unfold CompF at h
  exact h
/-- an item of a new list of data -/
theorem item_in {a : Addr} {ds : List D} {v : Int} {env : Env} {Q : W → Prop} (h0 : 0 ≤ v) (h1 : v < ds.length) (q : ∀ d, ds[v.toNat]? = some d → Q (.o (.d d))) : itemW (.o (.lst a (ds.map O.d))) (.o (.d (.int v))) env Q := by
  have hj : v.toNat < ds.length := by omega
  show onSome (atI (ds.map O.d) v) fun o => Q (.o o)
  have e := atI_nat (ds := ds) (n := v.toNat) hj
  rw [show ((v.toNat : Nat) : Int) = v by omega] at e
  refine onSome_mk (x := O.d (ds[v.toNat])) (by rw [atI_map, e, List.getD_eq_getElem?_getD, List.getElem?_eq_getElem hj]; rfl) (q _ (List.getElem?_eq_getElem hj))
theorem item_mem {a : Addr} {ds : List D} {v : Int} {env : Env} {Q : W → Prop} (h0 : 0 ≤ v) (h1 : v < ds.length) (q : ∀ d, d ∈ ds → Q (.o (.d d))) : itemW (.o (.lst a (ds.map O.d))) (.o (.d (.int v))) env Q :=
  item_in h0 h1 fun d h => q d (List.mem_of_getElem? h)
theorem item_int {a : Addr} {is : List Int} {v : Int} {env : Env} {Q : W → Prop} (h0 : 0 ≤ v) (h1 : v < is.length) (q : ∀ x, x ∈ is → Q (.o (.d (.int x)))) : itemW (.o (.lst a ((is.map PyData.int).map O.d))) (.o (.d (.int v))) env Q :=
  item_mem h0 (by rw [List.length_map]; exact h1) fun d h => by
    obtain ⟨x, hx, rfl⟩ := List.mem_map.mp h
    exact q x hx
/-- an item of an owned list of data that is read by its name -/
theorem item_al {a : Addr} {i : Nat} {ds : List D} {v : Int} {env : Env} {Q : W → Prop} (he : envAt env i [] = some (.lst a (ds.map O.d))) (h0 : 0 ≤ v) (h1 : v < ds.length) (q : ∀ d, ds[v.toNat]? = some d → Q (.o (.d d))) : itemW (.al a i []) (.o (.d (.int v))) env Q := by
  have hj : v.toNat < ds.length := by omega
  unfold itemW
  simp only [he]
  refine ⟨trivial, ?_⟩
  refine onSome_mk (x := v.toNat) (ixN_int h0 (by rw [List.length_map]; exact h1)) (onSome_mk (x := O.d (ds[v.toNat])) ?_ (q _ (List.getElem?_eq_getElem hj)))
  rw [List.getElem?_map, List.getElem?_eq_getElem hj]; rfl
theorem e_revT {we : WT} {env : Env} {ds : List D} (h : EvU we env (.tuple ds)) : Ev (wRevT we) env (.tuple ds.reverse) := fun PX P q => h _ _ fun x hx => hx _ q
/-- a list of data that is read by its name, used -/
theorem e_ixU {wa wb : WT} {env : Env} {ds : List D} {n : Int} {v : D} (ha : EvL wa env ds) (hb : EvU wb env (.int n)) (h : atI ds n = some v) : Ev (wIx wa wb) env v := e_ixL ha hb h
theorem at_mem {ds : List D} {v : Int} (h0 : 0 ≤ v) (h1 : v < ds.length) : ∃ d, d ∈ ds ∧ atI ds v = some d := by
  have hj : v.toNat < ds.length := by omega
  have e := atI_nat (ds := ds) (n := v.toNat) hj
  rw [show ((v.toNat : Nat) : Int) = v by omega] at e
  exact ⟨_, by rw [List.getD_eq_getElem?_getD, List.getElem?_eq_getElem hj]; exact List.getElem_mem hj, e⟩
theorem all_app {α : Type} {p : α → Prop} {xs ys : List α} (h : ∀ x ∈ xs, p x) (h2 : ∀ x ∈ ys, p x) : ∀ x ∈ xs ++ ys, p x := fun x hx => (List.mem_append.mp hx).elim (h x) (h2 x)
theorem all_one {α : Type} {p : α → Prop} {x : α} (h : p x) : ∀ y ∈ [x], p y := fun y hy => by rw [List.mem_singleton.mp hy]; exact h
theorem all_cons {α : Type} {p : α → Prop} {x : α} {xs : List α} (h : p x) (h2 : ∀ y ∈ xs, p y) : ∀ y ∈ x :: xs, p y := fun y hy => (List.mem_cons.mp hy).elim (fun e => by rw [e]; exact h) (h2 y)
theorem all_nil {α : Type} {p : α → Prop} : ∀ y ∈ ([] : List α), p y := nofun
theorem all_cut {p : D → Prop} {xs : List D} {lo hi : Option Int} (h : ∀ x ∈ xs, p x) : ∀ x ∈ cutD xs lo hi, p x := fun x hx => h x (mem_cutD hx)
theorem at_memA {α : Type} {ds : List α} {v : Int} (h0 : 0 ≤ v) (h1 : v < ds.length) : ∃ d, d ∈ ds ∧ atI ds v = some d := by
  have hj : v.toNat < ds.length := by omega
  refine ⟨ds[v.toNat], List.getElem_mem hj, ?_⟩
  unfold atI
  rw [ixN_int h0 h1]
  exact List.getElem?_eq_getElem hj
theorem app_len {x y : Str} : (x ++ y).length = x.length + y.length := Array.size_append
/-! ### an own list of data that grows -/
theorem nx_appE {we : WT} {u : WS} {PX : Exn → Env → Prop} {env : Env} {k : Kt} {i : Nat} {a : Addr} {xs : List O} {v : D} (hc : Ev we env v) (he : env[i]? = some (some (.lst a xs))) (hl : xs.length ≤ 1000000)
    (h : Nx u PX (env.set i (some (.lst a (xs ++ [.d v])))) k) : Nx (sCons (sExpr (wAppend (wVar i) (aCons we aNil))) u) PX env k := by
  refine nx_expr ?_
  unfold wAppend
  unfold wVar
  simp only [he]
  have e : envAt env i [] = some (.lst a xs) := by unfold envAt; simp only [he]; rfl
  refine ⟨?_, ?_⟩
  · unfold listAt
    simp only [e]
  unfold aCons aNil
  refine hc _ _ ?_
  show match envAt env i [] with
    | some (.obj b .lst xs) => _
    | _ => False
  rw [e]
  refine ⟨rfl, small hl, ?_⟩
  unfold envPut
  simp only [he]
  exact h
/-- an item of an owned list of texts that is read by its name -/
theorem e_ixN {wb : WT} {env : Env} {i : Nat} {n : Int} {a : Addr} {ys : List Str} (ha : env[i]? = some (some (.lst a (ys.map fun y => O.d (.str y))))) (hb : EvU wb env (.int n)) (h0 : 0 ≤ n) (h1 : n < ys.length) : Ev (wIx (wVar i) wb) env (.str (ys.getD n.toNat ("" : Str))) := by
  refine e_ixO (ds := ys.map PyData.str) (by rw [ha, List.map_map]; rfl) hb ?_
  have hj : n.toNat < ys.length := by omega
  unfold atI
  rw [ixN_int h0 (by rw [List.length_map]; exact h1)]
  show (ys.map PyData.str)[n.toNat]? = _
  rw [List.getElem?_map, List.getD_eq_getElem?_getD, List.getElem?_eq_getElem hj]; rfl
theorem getD_mem {ys : List Str} {n : Nat} (h : n < ys.length) : ys.getD n ("" : Str) ∈ ys := by
  rw [List.getD_eq_getElem?_getD, List.getElem?_eq_getElem h]; exact List.getElem_mem h
/-! ### good constants, by looking -/
def gB : Nat → D → Bool
  | _, .none => true
  | _, .bool _ => true
  | _, .int i => decide (i.natAbs ≤ 2 ^ 199)
  | _, .str x => x.cps.toList.all fun c => decide (c < 128)
  | n + 1, .tuple ds => ds.all (gB n)
  | n + 1, .list ds => ds.all (gB n)
  | _, _ => false
theorem gB_ok : ∀ {n : Nat} {d : D}, gB n d = true → G 0 n d
  | n, .none, _ => .non
  | n, .bool _, _ => .bool
  | n, .int i, h => by
    cases n <;> exact .int (of_decide_eq_true h)
  | n, .str x, h => by
    cases n <;> exact .str (plainS_lit h)
  | n + 1, .tuple ds, h => .tup fun d hd => gB_ok (List.all_eq_true.mp h d hd)
  | n + 1, .list ds, h => .lst fun d hd => gB_ok (List.all_eq_true.mp h d hd)
  | 0, .tuple ds, h => by cases h
  | 0, .list ds, h => by cases h
  | n + 1, .dict _, h => by cases h
  | 0, .dict _, h => by cases h
theorem gB_all {n w : Nat} {ds : List D} (h : (ds.all fun d => gB n d && decide (d.weight ≤ w)) = true) : ∀ d ∈ ds, G 0 n d ∧ d.weight ≤ w := fun d hd => by
  have z := List.all_eq_true.mp h d hd
  rw [Bool.and_eq_true] at z
  exact ⟨gB_ok z.1, of_decide_eq_true z.2⟩
/-! ### all / any of a comprehension -/
section
variable {env : Env} {i : Nat} {we : WT} {ds : List D}
theorem e_allC {wi : WI} {g : D → Bool} (hs : EvS wi env ⟨ds, none⟩) (hp : plainAt env i) (hi : i < env.length) (hl : ds.length ≤ 1000000)
    (he : ∀ x ∈ ds, Ev we (env.set i (some (.d x))) (.bool (g x))) : Ev (wPrim .all (aCons (wComp wi [i] (.v i) cAll we) aNil)) env (.bool (ds.all g)) := by
  have z := e_all (bs := ds.map g) (env := env) (wa := wComp wi [i] (.v i) cAll we) (by
    rw [List.map_map]
    exact (e_comp (f := fun x => .bool (g x)) hs hp hi hl he).u)
  rw [List.all_map] at z
  exact z
theorem e_anyC {wi : WI} {g : D → Bool} (hs : EvS wi env ⟨ds, none⟩) (hp : plainAt env i) (hi : i < env.length) (hl : ds.length ≤ 1000000)
    (he : ∀ x ∈ ds, Ev we (env.set i (some (.d x))) (.bool (g x))) : Ev (wPrim .any (aCons (wComp wi [i] (.v i) cAll we) aNil)) env (.bool (ds.any g)) := by
  have z := e_any (bs := ds.map g) (env := env) (wa := wComp wi [i] (.v i) cAll we) (by
    rw [List.map_map]
    exact (e_comp (f := fun x => .bool (g x)) hs hp hi hl he).u)
  rw [List.any_map] at z
  exact z
end
/-! ### texts compared -/
theorem letter_str {x : Str} {d : D} (h : d ∈ letters x) : isT .str d = true := by
  obtain ⟨c, _, rfl⟩ := letters_mem h
  rfl
theorem cx_inS {x : D} {y : Str} (h : isT .str x = true) : CmpV .inn x (.str y) (!(Builtin.Str.occurrences y (strD x) 0 y.length 1).isEmpty) := fun Q q => by
  rw [str_of h]; exact q
theorem cx_leSa {x : Str} {y : D} (h : isT .str y = true) : CmpV .le (.str x) y (!decide ((strD y).cps.toList < x.cps.toList)) := fun Q q => by
  rw [str_of h]; exact q
theorem cx_leSb {x : D} {y : Str} (h : isT .str x = true) : CmpV .le x (.str y) (!decide (y.cps.toList < (strD x).cps.toList)) := fun Q q => by
  rw [str_of h]; exact q
/-! ### an own dict whose keys are texts -/
theorem keyIx_mem {kn : List Str} {x : Str} : (keyIx (kn.map Sum.inr) (.inr x)).isSome = decide (x ∈ kn) := by
  induction kn with
  | nil => rfl
  | cons y kn ih =>
    rw [List.map_cons, keyIx_cons]
    by_cases e : y = x
    · rw [if_pos (by rw [e])]
      subst e
      simp
    · rw [if_neg (fun h => e (Sum.inr.inj h))]
      have e2 : x ≠ y := fun h => e h.symm
      rw [show decide (x ∈ y :: kn) = decide (x ∈ kn) by simp [e2], ← ih]
      cases keyIx (kn.map Sum.inr) (.inr x) <;> rfl
theorem e_inD {neg : Bool} {wa : WT} {env : Env} {i : Nat} {x : D} {kn : List Str} {xs : List O} {a : Addr} (ha : EvU wa env x) (h : isT .str x = true) (he : env[i]? = some (some (.dct a (kn.map Sum.inr) xs))) : Ev (wInD neg wa (wVar i)) env (.bool (if neg = true then !decide (strD x ∈ kn) else decide (strD x ∈ kn))) := fun PX P q => by
  unfold wInD
  refine ha _ _ fun w hw => ?_
  unfold wVar
  simp only [he]
  have e : envAt env i [] = some (.dct a (kn.map Sum.inr) xs) := by unfold envAt; simp only [he]; rfl
  refine hw (fun dx => onSome (keyOf dx) _) ?_
  rw [str_of h]
  refine onSome_mk (x := (.inr (strD x) : Key)) rfl ?_
  simp only [e]
  refine ⟨trivial, ?_⟩
  rw [keyIx_mem]
  exact q
/-- a new key in it -/
theorem nx_newKeyE {we wi : WT} {u : WS} {PX : Exn → Env → Prop} {env : Env} {k : Kt} {i : Nat} {a : Addr} {kn : List Str} {xs : List O} {v : D} {x : Str} (hc : Ev we env v) (hk : Ev wi env (.str x)) (he : env[i]? = some (some (.dct a (kn.map Sum.inr) xs))) (hn : x ∉ kn) (hl : kn.length < 1000000)
    (h : Nx u PX (env.set i (some (.dct a ((kn ++ [x]).map Sum.inr) (xs ++ [.d v])))) k) : Nx (sCons (sSetIx we (wVar i) wi) u) PX env k := by
  refine nx_set (hc _ _ ?_)
  have e : envAt env i [] = some (.dct a (kn.map Sum.inr) xs) := by unfold envAt; simp only [he]; rfl
  unfold inW
  unfold wVar
  simp only [he]
  refine hk _ _ ?_
  show setW (.al a i []) (.o (.d (.str x))) (.d v) env _
  unfold setW
  simp only [e]
  refine ⟨trivial, ?_⟩
  refine useO ?_
  refine onSome_mk (x := (.inr x : Key)) rfl ?_
  refine And.intro (by rw [List.length_map]; exact hl) ?_
  have z := keyIx_mem (kn := kn) (x := x)
  rw [decide_eq_false hn] at z
  cases e2 : keyIx (kn.map Sum.inr) (.inr x) with
  | some j => rw [e2] at z; cases z
  | none =>
    unfold envPut
    simp only [he]
    rw [List.map_append] at h
    exact h
end Vx
namespace SX
open PySem PySem.Spec PyProof.Rows
/-! ### the set of many texts -/
abbrev tSet (pr : Program) (wd : World) (hp : Heap) (z : Addr) (ts : List Str) (c : Nat) : Prop := hp.SetOf (PySem.strKind pr wd) z (fun q => decide (q ∈ ts)) c
/-- so many unlike ones -/
def Met (ts : List Str) (c : Nat) : Prop := c ≤ ts.length ∧ (c = ts.length ↔ ts.Nodup)
theorem met_nil : Met [] 0 := ⟨Nat.le_refl _, by simp⟩
theorem met_more {ts : List Str} {c : Nat} {y : Str} (h : Met ts c) : Met (ts ++ [y]) (if decide (y ∈ ts) = true then c else c + 1) := by
  obtain ⟨h1, h2⟩ := h
  unfold Met
  rw [List.length_append]
  by_cases e : y ∈ ts
  · rw [if_pos (decide_eq_true e)]
    refine ⟨Nat.le_succ_of_le h1, ⟨fun x => absurd x (by show ¬ c = ts.length + 1; omega), fun nd => ?_⟩⟩
    have := (List.nodup_append.mp nd).2.2 y e y (List.mem_singleton.mpr rfl)
    exact absurd rfl this
  · rw [if_neg (by simp [e])]
    refine ⟨Nat.succ_le_succ h1, ⟨fun x => ?_, fun nd => ?_⟩⟩
    · have x : c + 1 = ts.length + 1 := x
      have nd := h2.mp (by omega)
      exact List.nodup_append.mpr ⟨nd, by simp, fun a ha b hb => by rw [List.mem_singleton.mp hb]; exact fun x => e (x ▸ ha)⟩
    · have := h2.mpr (List.nodup_append.mp nd).1
      show c + 1 = ts.length + 1
      omega
section
variable {pr : Program} {wd : World} {Ar : Around} {Rs : Result → Shared → Prop} {Iw : Addr} {fp wr : List Addr} {Gs : Array GenState → Array GenState → Prop} {m : Nat} {Pv : Nat → Value → Prop} {At : Nat → Shared → Prop}
theorem growS (W : WalksS pr wd Ar.in1 Iw fp wr Gs m Pv At) (z : Addr) (nz : z ∉ fp) (ts : List Str) (hm : ts.length = m) (hsm : m + 1 < scanBound) (hv : ∀ i v, Pv i v → ∃ t, v = .str (ts.getD i Str.empty) t) :
    ∀ (left i : Nat) (sh : Shared), m - i = left → i ≤ m → At i sh → (∃ c, Met (ts.take i) c ∧ tSet pr wd sh.heap z (ts.take i) c) →
      (∀ sh' c, Moved (z :: wr) Gs sh sh' → Met ts c → tSet pr wd sh'.heap z ts c → Rs (.ok (.ret .none)) sh') → codeAny (model pr wd) Ar (.builtin "set.update.loop" ⟨[.ref z, .ref Iw], []⟩) Rs sh := by
  have nw : z ∉ wr := fun x => nz (W.sub _ x)
  have more : ∀ b ∈ wr, b ∈ z :: wr := fun b x => List.mem_cons_of_mem _ x
  have moved : ∀ {a b : Shared} {us : List Str} {c : Nat}, tSet pr wd a.heap z us c → Moved wr Gs a b → tSet pr wd b.heap z us c := fun hs mv => by
    obtain ⟨o, es, ep, tb, ho, q⟩ := hs
    exact ⟨o, es, ep, tb, mv.heap z _ nw ho, q⟩
  intro left
  induction left with
  | zero =>
    intro i sh hl hi at0 ⟨c, mc, hs⟩ fin
    have e : i = m := by omega
    subst e
    have et : ts.take i = ts := List.take_of_length_le (by omega)
    rw [et] at mc hs
    refine codeAny_builtin PyProof.Rows.F.entry_set_update_loop ?_
    rw [Around.under_plainId PyProof.Rows.F.plain_set_update_loop _]
    show wpAny _ Ar.in1 (pyNext (.ref Iw) >>= _) _ _ sh
    refine wpAny_bind (W.done sh _ _ at0 fun sh2 mv => ?_)
    show wpAny _ Ar.in1 (ret Value.none) _ _ sh2
    exact wpAny_pure (fin sh2 c (mv.mono more) mc (moved hs mv))
  | succ left ih =>
    intro i sh hl hi at0 ⟨c, mc, hs⟩ fin
    have lt : i < m := by omega
    have cl : c ≤ i := Nat.le_trans mc.1 (by rw [List.length_take]; omega)
    refine codeAny_builtin PyProof.Rows.F.entry_set_update_loop ?_
    rw [Around.under_plainId PyProof.Rows.F.plain_set_update_loop _]
    show wpAny _ Ar.in1 (pyNext (.ref Iw) >>= _) _ _ sh
    refine wpAny_bind (W.item i sh _ _ lt at0 fun v sh2 pv at2 mv => ?_)
    obtain ⟨t, rfl⟩ := hv i v pv
    have hs2 := moved hs mv
    have ey : ts.getD i Str.empty = ts[i]'(by omega) := by rw [List.getD_eq_getElem?_getD, List.getElem?_eq_getElem (by omega)] <;> rfl
    generalize hy : ts.getD i Str.empty = y at *
    have tk : ts.take (i + 1) = ts.take i ++ [y] := by rw [List.take_add_one, List.getElem?_eq_getElem (show i < ts.length by omega), ey]; rfl
    show wpAny _ Ar.in1 (holding [Value.str y t] (setAdd z (.str y t)) >>= _) _ _ sh2
    refine wpAny_bind (wpAny_holding ?_)
    unfold setAdd
    refine wpAny_holding ?_
    refine wpAny_bind ((PySem.strKind pr wd).pyHash (k := y) (strKind_is _ _ _ _) ?_)
    refine wpAny_setAddHashed_of (knd := PySem.strKind pr wd) (s := { sh2 with toks := sh2.toks + 1 }) (strKind_is _ _ _ _) rfl hs2 (by omega) fun hp3 same hs3 => ?_
    have hs4 : tSet pr wd hp3 z (ts.take (i + 1)) (if decide (y ∈ ts.take i) = true then c else c + 1) := SetOf_congr hs3 (fun q => by
      rw [tk]
      simp [List.mem_append]) rfl
    refine wpAny_pure ⟨plainId_quiet PyProof.Rows.F.plain_set_update_loop _, ih (i + 1) _ (by omega) lt (W.frame _ sh2 _ _ at2 (Nat.le_succ _) fun b hb o e => ?_) ⟨_, by rw [tk]; exact met_more mc, hs4⟩ fun sh4 c4 mv4 mc4 hs5 => ?_⟩
    · rw [same.2 b (fun x : b = z => nz (by rw [← x]; exact hb))]; exact e
    · refine fin sh4 c4 (Moved.trans W.gtrans ((mv.mono more).then_heap (Nat.le_succ _) fun b o nb e => ?_) mv4) mc4 hs5
      rw [same.2 b (fun x : b = z => nb (by rw [x]; exact List.mem_cons_self))]; exact e
end
section
variable {pr : Program} {wd : World} {Ar : Around} {Ex : Value → Shared → Prop} {sh : Shared}
/-- a new set -/
abbrev nset (led : Bool) : Obj := { cls := .type "set", dict := none, data := .set #[] 0 (.fresh 0 0 led) }
set_option maxHeartbeats 3200000 in
theorem set_tuple {u : Addr} {its : Array Value} {ts : List Str} {Q : Value → Shared → Prop} (h0 : Ar.handled = none) (hu : sh.heap.IsTuple u its) (hi : PyProof.Rows.StrsAre its.toList ts) (hsm : ts.length + 1 < scanBound)
    (fin : ∀ (hp : Heap) (tk c : Nat), Met ts c → tSet pr wd hp sh.heap.objs.size ts c → (∀ b o, b < sh.heap.objs.size → sh.heap.get? b = some o → hp.get? b = some o) → Q (.ref sh.heap.objs.size) { sh with heap := hp, toks := tk }) :
    wpAny (model pr wd) Ar (call (.type "set") [.ref u]) Q Ex sh := by
  obtain ⟨cc, tl, e0⟩ := PySem.F.called_set.mro
  have e1 := PySem.F.called_set.made
  have e2 := PySem.F.called_set.sub
  refine wpAny_call (codeAny_of_tree ?_)
  show wpAny _ _ (callAny (.type "set") _) _ _ _
  refine wpAny_pure ⟨Code.quiet_builtin _ (by decide +kernel), codeAny_builtin PySem.F.entry_type_call ?_⟩
  rw [Around.under_plain (weight_type_call_type "set" [.ref u] []) rfl]
  have e3 := PySem.F.called_set.notType
  have e4 := PySem.F.called_set.canCreate
  have e5 := PySem.F.typeCall_set_1 (.ref u)
  repeat (any_goals (first | assumption | wp_step))
  refine codeAny_mono (code_set_new_1 (.ref u) (E := Ex) (Q₁ := fun x y => ∃ led : Bool, x = .ref sh.heap.objs.size ∧ y = { sh with heap := sh.heap.push (nset led) }) fun led => ⟨led, rfl, rfl⟩) fun r y hr => ?_
  cases r with
  | error e => exact hr
  | ok fl =>
    cases fl with
    | ret x =>
      obtain ⟨led, rfl, rfl⟩ := hr
      have at0 : (sh.heap.push (nset led)).get? sh.heap.objs.size = some (nset led) := Heap.get?_push_size _ rfl
      have ty0 : Shared.TypeIs { sh with heap := sh.heap.push (nset led) } (.ref sh.heap.objs.size) "set" := ⟨_, at0, rfl⟩
      have e6 := PySem.F.called_set.init.lookup
      have e7 := PySem.F.called_set.init.bind (.ref sh.heap.objs.size)
      repeat (any_goals (first | assumption | wp_step))
      refine codeAny_mono (codeAny_call_builtin (R := wants (fun r y => r = .none ∧ ∃ hp tk c, y = { sh with heap := hp, toks := tk } ∧ Met ts c ∧ tSet pr wd hp sh.heap.objs.size ts c ∧
          (∀ b o, b < sh.heap.objs.size → sh.heap.get? b = some o → hp.get? b = some o)) Ex) PySem.F.called_set.init.plain PySem.F.entry_set_init (check_set_init_1 ty0 ?_)) fun r y hr => ?_
      · obtain ⟨⟨cl, di, da, sl⟩, ho, hc, nl, hd⟩ := hu
        simp only at hc hd
        subst hc; subst hd
        have ho2 : (sh.heap.push (nset led)).get? u = some { cls := .type "tuple", dict := di, data := .seq its nl, slots := sl } := Heap.get?_push_of_some _ ho
        have e8 := PySem.F.sub_tuple_set
        have e9 := PySem.F.sub_tuple_frozenset
        have nd : (Value.type "tuple" == Value.type "dict") = false := by decide
        have hu2 : (sh.heap.push (nset led)).IsTuple u its := ⟨_, ho2, rfl, nl, rfl⟩
        unfold Builtin.«set.__init__» noKeywords Builtin.Frozenset.updateFrom
        generalize hJ : pyIter = J
        wp_walk
        subst hJ
        refine wpAny_pyIter_tuple hu2 ?_
        refine wpAny_bind (wpAny_runValue ?_)
        have lu : u < sh.heap.objs.size := Heap.lt_size ho
        have h3 : Ar.in1.in1.in1.handled = none := by simp [h0]
        have zz : (sh.heap.push (nset led)).objs.size = sh.heap.objs.size + 1 := Heap.size_push ..
        have n1 : u ≠ (sh.heap.push (nset led)).objs.size := by rw [zz]; exact Nat.ne_of_lt (Nat.lt_succ_of_lt lu)
        have n2 : sh.heap.objs.size ∉ [(sh.heap.push (nset led)).objs.size, u] := by
          rw [zz]
          intro hm
          simp only [List.mem_cons, List.not_mem_nil, or_false] at hm
          rcases hm with hm | hm
          · exact Nat.ne_of_lt (Nat.lt_succ_self _) hm
          · exact Nat.ne_of_gt lu hm
        have ez : ts.length = its.size := by rw [← StrsAre.len_eq hi, Array.length_toList]
        have hv : ∀ (i : Nat) (v : Value), its[i]? = some v → ∃ t, v = .str (ts.getD i Str.empty) t := fun i v e => SS.strs_at hi i v (by rw [Array.getElem?_toList]; exact e)
        refine growS ((Walks.tuple h3 _ u n1 its).toS) sh.heap.objs.size n2 ts ez (by omega) hv (its.size - 0) 0 _ (by omega) (Nat.zero_le _) ⟨⟨_, Heap.get?_push_size _ rfl, rfl, rfl⟩, (hu2.push _)⟩ ?first ?last
        case first =>
          have at1 : ((sh.heap.push (nset led)).push { cls := .type "tuple_iterator", data := .fields #[.ref u, .int 0 0] }).get? sh.heap.objs.size = some (nset led) := Heap.get?_push_of_some _ at0
          exact ⟨0, met_nil, SetOf_congr ((PyProof.Rows.setObjOf_fresh (knd := PySem.strKind pr wd) led).setOf at1 (by unfold scanBound; omega)) (fun q => by simp) rfl⟩
        case last =>
          rintro ⟨hp, g2, d2, tk, os2⟩ c mv mc hs
          have eg : g2 = sh.gens := mv.gens
          have ed : d2 = sh.drawn := mv.drawn
          have eo : os2 = sh.os := mv.os
          subst eg; subst ed; subst eo
          show wpAny _ _ _ _ _ _
          refine wpAny_pure ?_
          show wpAny _ _ (ret Value.none) _ _ _
          refine wpAny_pure ⟨rfl, hp, tk, c, rfl, mc, hs, fun b o lb e => ?_⟩
          refine mv.heap b o (fun hm => ?_) (Heap.get?_push_of_some _ (Heap.get?_push_of_some _ e))
          simp only [List.mem_cons, List.not_mem_nil, or_false] at hm
          rcases hm with hm | hm
          · exact Nat.ne_of_lt lb hm
          · rw [zz] at hm; exact Nat.ne_of_lt (Nat.lt_succ_of_lt lb) hm
      · cases r with
        | error e => exact hr
        | ok fl =>
          cases fl with
          | ret x =>
            obtain ⟨rfl, hp, tk, c, rfl, mc, hs, kp⟩ := hr
            repeat (any_goals (first | assumption | wp_step))
            exact fin _ _ c mc hs kp
          | _ => exact hr.elim
    | _ => exact hr.elim
end
end SX
namespace Vx
open PySem PySem.Spec L2 PyProof.Rows
/-! ### len(set(a tuple of texts)) -/
def tLenSetT (K : PySem.W.Frag) (ta : TE) : TE := fun σ H Q => ta σ H fun x H1 => ∃ l, ∃ xs : List Str, x = .ref l ∧ SqT K H1 l (xs.map V.str) ∧ xs.length ≤ 4000 ∧ ∀ c, SX.Met xs c → Q (.int c) H1
section
variable {X : Cx} {B : Bs} {Wx : WX} {a : Expr} {wa : WT} {p p2 q pos : Pos}
theorem pe_lenSetT {ta : TE} (hc : X.calm = true) (hg : Gl X "len") (hm : X.mg "len" = none) (hg2 : Gl X "set") (hm2 : X.mg "set" = none) (ha : PE X a ta) (na : starEach [a] X.env = (false, eval a X.env) :: starEach [] X.env) :
    PE X (.Call (.Name "len" p) [.Call (.Name "set" p2) [a] [] q] [] pos) (tLenSetT X.K ta) := by
  refine ⟨fun pins s σ H Q I h => Call_ (ld_blt I hg hm boot_len (PyProof.Rows.callWith_builtin1 (PyProof.Rows.args_cons (Call_ (ld_blt I hg2 hm2 boot_set (PyProof.Rows.callWith_type1 (PyProof.Rows.args_cons (thn (ha.run pins s σ H _ I h) fun v s1 ⟨x, H1, I1, r1, q1⟩ => PyProof.Rows.args_nil ?_) na) na rfl))) rfl) rfl rfl))⟩
  obtain ⟨l, ts, rfl, hq, hl, fin⟩ := q1
  cases r1
  obtain ⟨its, r, pl, hz⟩ := I1.tuple hq
  refine SX.set_tuple (I1.ok.hd hc) pl (by simpa using strsAre_of r) (by unfold scanBound; omega) fun hp tk c mc hs kp => ?_
  refine PyProof.Rows.args_nil ?_
  obtain ⟨o, es, ep, t, ho, hex, hd, _, _, _, hf, hn⟩ := hs
  have I2 : Inv X pins σ H1 { s1 with heap := hp, toks := tk } := I1.kept fun b o e => kp b o (Heap.lt_size e) e
  have := mc.1
  refine call_len_set ho hex hd hf (by rw [hn]; omega) ⟨.int c, H1, I2.tok _, ⟨_, by rw [hn]⟩, fin c mc⟩
def wLenSet (wa : WT) : WT := fun PX env P => wa PX env fun w env1 => useWs [w] env1 fun ds => match ds with
  | [.tuple xs] => onSome (strsOf xs) fun ts => ts.length ≤ 4000 ∧ ∀ c : Nat, SX.Met ts c → P (.o (.d (.int c))) env1
  | _ => False
theorem c_lenSet (hc : X.calm = true) (hg : Gl X "len") (hm : X.mg "len" = none) (hg2 : Gl X "set") (hm2 : X.mg "set" = none) (h : PV X B Wx a wa) (na : starEach [a] X.env = (false, eval a X.env) :: starEach [] X.env) :
    PV X B Wx (.Call (.Name "len" p) [.Call (.Name "set" p2) [a] [] q] [] pos) (wLenSet wa) := by
  refine PE_imp (pe_lenSetT hc hg hm hg2 hm2 h na) fun σ H Q ⟨S, env, T, P, PX, r, hw, hP, hX⟩ => ?_
  refine ⟨S, env, T, _, PX, r, hw, fun w env1 v S1 H1 hq r1 => ?_, hX⟩
  have r1' : R X.K B S1 H1 σ env1 ([(v, w)] ++ T) := r1
  obtain ⟨S2, ds, r2, q, ud⟩ := r1'.usedAll hq
  have r3 : R X.K B S2 H1 σ env1 T := r2.pops
  replace ud : UdA X.K S2 H1 [v] ds := ud
  cases ud with
  | cons u us =>
    cases us
    rename_i d
    cases d with
    | tuple xs =>
      obtain ⟨ts, e, hl, q⟩ := onSome_some q
      obtain ⟨p', vs, rfl, hq, ra⟩ := u.tup
      rw [strsOf_eq e] at ra
      have := ra.strs
      subst this
      exact ⟨p', ts, rfl, hq, hl, fun c mc => hP _ _ _ _ _ (q c mc) (r3.push (.int _))⟩
    | _ => exact q.elim
/-- the answer, told as a truth -/
theorem e_lenSet {env : Env} {ts : List Str} {PX : Exn → Env → Prop} {P : W → Env → Prop} (h : EvU wa env (.tuple (ts.map PyData.str))) (hl : ts.length ≤ 4000) (q : ∀ c : Nat, SX.Met ts c → P (.o (.d (.int c))) env) : wLenSet wa PX env P :=
  h _ _ fun x hx => hx _ (onSome_mk (strsOf_map ts) ⟨hl, q⟩)
end
theorem wt_bits {i : Int} {k : Nat} (h : i.natAbs < 2 ^ k) (hk : 0 < k) : PyData.weight (.int i) ≤ k := by
  have e2 : i.natAbs.log2 < k := log2_lt h hk
  simp only [PyData.weight]
  split <;> omega
theorem wt_near {i j : Int} (h : j.natAbs ≤ i.natAbs + 1) : PyData.weight (.int j) ≤ PyData.weight (.int i) + 2 := by
  by_cases e : i = 0
  · subst e
    exact Nat.le_trans (wt_bits (k := 1) (by have : j.natAbs ≤ 1 := h; omega) (by omega)) (by omega)
  · have h1 : i.natAbs < 2 ^ (i.natAbs.log2 + 1) := Nat.lt_log2_self
    have h2 : PyData.weight (.int i) = i.natAbs.log2 + 1 := by
      simp only [PyData.weight]
      rw [if_neg (by simpa using e)]
    rw [h2]
    refine wt_bits (k := i.natAbs.log2 + 1 + 2) ?_ (by omega)
    have : (2 : Nat) ^ (i.natAbs.log2 + 1 + 2) = 2 ^ (i.natAbs.log2 + 1) * 4 := Nat.pow_add 2 _ 2
    omega
theorem nx_forE {wi : WI} {wb u : WS} {t : Tg} {PX : Exn → Vx.Env → Prop} {env : Vx.Env} {k : Kt} {s : Src} (hs : EvS wi env s) (h : LoopF s (stepN t wb u PX k) env fun env2 => Nx u PX env2 k) : Nx (sCons (sFor t wi wb) u) PX env k := nx_for (hs _ _ h)
end Vx
namespace HT
open PySem PySem.Spec L2 PyProof.Rows
/-! ### xs[a:c] = ys, where c may stand behind the end -/
theorem cut_run {a c m : Nat} (h : a ≤ m) (h2 : a ≤ c) : sliceBounds (some (a : Int)) (some (c : Int)) none m = ((a : Int), ((min c m : Nat) : Int), 1) := by
  simp only [sliceBounds, Option.getD_none]
  have q1 : ¬ ((a : Int) < 0) := by omega
  have q2 : ¬ ((c : Int) < 0) := by omega
  simp only [q1, q2, if_false, show (1 : Int) > 0 by decide, if_true]
  congr 1
  · omega
  · congr 1; omega
section
variable {pr : Program} {wd : World} {Ar : Around} {Ex : Value → Shared → Prop} {sh : Shared}
theorem store_cut {u b z : Addr} {its new : Array Value} {k1 k2 : Nat} {v1 v2 : Value} {a c : Nat} {Q : Unit → Shared → Prop}
    (e : sh.heap.get? u = some { cls := .type "list", data := .seq its k1 }) (e2 : sh.heap.get? b = some { cls := .type "list", data := .seq new k2 }) (ne : u ≠ b)
    (hz : sh.heap.IsSliceOf z v1 v2 .none) (p1 : IsPart v1 (some (a : Int))) (p2 : IsPart v2 (some (c : Int))) (hac : a ≤ c) (ham : a ≤ its.size)
    (small : its.size + new.size ≤ sizeLine) (q : Q () { sh with heap := sh.heap.update u (Obj.mapSeq fun ys => ys.extract 0 a ++ new ++ ys.extract (min c its.size) ys.size) }) :
    wpAny (model pr wd) Ar (setItem (.ref u) (.ref z) (.ref b)) Q Ex sh := by
  have lu : sh.heap.IsList u its := PySem.IsL.isList e
  have lb : sh.heap.IsList b new := PySem.IsL.isList e2
  obtain ⟨oz, hoz, hcz, hdz⟩ := id hz
  have tz : sh.TypeIs (.ref z) "slice" := ⟨oz, hoz, hcz⟩
  have no0 : ¬ ((rawPart none == rawInt 0) = true) := Bool.false_ne_true
  have unlike : Builtin.List.listSameRef (.ref u) (.ref b) = false := by
    unfold Builtin.List.listSameRef
    exact beq_eq_false_iff_ne.mpr ne
  have top : (max (a : Int) ((min c its.size : Nat) : Int)).toNat = min c its.size := by omega
  have fits : ((fun ys : Array Value => ys.extract 0 a ++ new ++ ys.extract (min c its.size) ys.size) its).size ≤ sizeLine + 1 := by
    simp only [Array.size_append, Array.size_extract]
    omega
  unfold setItem
  try with_reducible refine wpAny_holding ?_
  first | refine wpAny_bind (wpAny_pure ?_) | skip
  refine wpAny_bind (wpAny_sequenceKey lu.typeIs (by decide) ?_)
  refine wpAny_bind (wpAny_callSpecial?_slot (name := Str.ofString "__setitem__") lu.typeIs slot_list_setitem (wpAny_call_entry slot_list_setitem lu.typeIs entry_list_setitem ?_ (args_list_setitem _ _ _)))
  show wpAny _ _ (Builtin.List.listSubscript? (.ref z) >>= _) _ _ sh
  refine wpAny_bind ?_
  unfold Builtin.List.listSubscript?
  refine wpAny_bind (wpAny_specialOf tz slice_no_index ?_)
  simp only [Option.isNone_none, if_true]
  refine wpAny_pure ?_
  show wpAny _ _ (typeOf (.ref z) >>= _) _ _ sh
  refine wpAny_bind (wpAny_typeOf tz ?_)
  first
    | rw [if_neg (by decide)]
    | refine PySem.W.KFB.if_not (by decide) ?_
  rw [listSliceParts_eq]
  refine wpAny_bind (wpAny_bind (wpAny_field hoz hdz (x := .none) rfl (wpAny_bind (wpAny_listPart .none ?_))))
  rw [if_neg no0]
  refine wpAny_bind (wpAny_field hoz hdz (x := v1) rfl (wpAny_bind (wpAny_listPart p1 ?_)))
  refine wpAny_bind (wpAny_field hoz hdz (x := v2) rfl (wpAny_bind (wpAny_listPart p2 (wpAny_pure ?_))))
  first
    | simp only [unlike, Bool.false_eq_true, if_false]
    | refine PySem.W.KFB.if_not unlike ?_
    | (dsimp only
       rw [if_neg (by rw [unlike]; exact Bool.false_ne_true)])
  refine wpAny_bind (m := Builtin.List.listAllItems (.ref b) "must assign iterable to extended slice") ?_
  unfold Builtin.List.listAllItems
  refine wpAny_bind (wpAny_typeOf lb.typeIs ?_)
  first
    | refine PySem.W.KFB.if_so (by decide) ?_
    | rw [if_pos (by decide)]
    | simp only [beq_self_eq_true, Bool.true_or, if_true]
  unfold Builtin.List.listItems
  refine wpAny_bind (wpAny_seqItems e2 rfl (wpAny_pure ?_))
  refine wpAny_bind (wpAny_bind (wpAny_seqItems e rfl (wpAny_pure ?_)))
  refine wpAny_bind (wpAny_of_eq ((sliceIndices_raw (some (a : Int)) (some (c : Int)) none its.size (by simp)).trans (congrArg (pure : Int × Int × Int → Sem (Int × Int × Int)) (cut_run ham hac))) ?_)
  show wpAny _ _ (if ((1 : Int) == 1) = true then _ else _) _ _ sh
  rw [if_pos (by decide)]
  refine wpAny_bind (wpAny_rule ?_)
  first
    | simp only [notLongL small, Bool.false_eq_true, if_false]
    | refine PySem.W.KFB.if_not (notLongL small) ?_
  first | refine wpAny_bind (wpAny_pure ?_) | skip
  show wpAny _ _ (updateSeq u (fun ys => ys.extract 0 ((a : Int)).toNat ++ new ++ ys.extract (max (a : Int) ((min c its.size : Nat) : Int)).toNat ys.size) >>= _) _ _ sh
  rw [top, Int.toNat_natCast]
  refine wpAny_bind (wpAny_updateSeq (hz := Nat.le_trans (Nat.le_add_right _ _) small) (_hz' := fits) e rfl ?_)
  refine wpAny_bind (wpAny_letGo ?_)
  first
    | exact wpAny_bind (wpAny_pure (wpAny_pure ⟨.none, rfl, wpAny_pure q⟩))
    | exact wpAny_pure ⟨.none, rfl, wpAny_pure q⟩
end
end HT
namespace L2
open PySem PySem.Spec PyProof.Rows HT
section
variable {X : Cx}
theorem set_cut {pins : List (Addr × Obj)} {s : Shared} {σ : St} {H : Hp} {u b z : Addr} {xs ys : List V} {a c : Int} {v1 v2 : Value} {Q : Unit → Shared → Prop} (I : Inv X pins σ H s)
    (hu : H u = some (.lst xs)) (hb : H b = some (.lst ys)) (ne : u ≠ b) (hz : s.heap.IsSliceOf z v1 v2 .none) (p1 : IsPart v1 (some a)) (p2 : IsPart v2 (some c)) (h0 : 0 ≤ a) (hac : a ≤ c) (ham : a ≤ xs.length)
    (small : xs.length + ys.length ≤ sizeLine) (q : ∀ s', Inv X pins σ (upd H u (.lst (xs.take a.toNat ++ ys ++ xs.drop (min c.toNat xs.length)))) s' → Q () s') :
    wpAny (model X.prog X.w) X.A (setItem (.ref u) (.ref z) (.ref b)) Q X.xe s := by
  obtain ⟨l1, its, n, r, hl, e⟩ := I.lstM hu
  obtain ⟨l2, its2, n2, r2, hl2, e2⟩ := I.lstM hb
  obtain ⟨a', rfl⟩ := Int.eq_ofNat_of_zero_le h0
  obtain ⟨c', rfl⟩ := Int.eq_ofNat_of_zero_le (Int.le_trans h0 hac)
  simp only [Int.toNat_natCast] at q
  have ez : its.toArray.size = xs.length := by rw [List.size_toArray]; omega
  refine store_cut (a := a') (c := c') e e2 ne hz p1 p2 (by omega) (by rw [ez]; omega) (by rw [List.size_toArray, List.size_toArray]; omega) (q _ ?_)
  rw [ez]
  refine I.lset (its' := its.take a' ++ its2 ++ its.drop (min c' xs.length)) (t' := s.toks) hu e ?_ (Vals.append (Vals.append (r.take _) r2) (r.drop _)) ?_
  · exact splice_eq its its2 a' (min c' xs.length)
  · rw [List.length_append, List.length_append, List.length_take, List.length_drop]
    omega
variable {o l h : Expr} {pos p3 : Pos}
/-- o[l:h] = a new list -/
def gCut (to : TE) (tl th : TO) : TG := fun v σ H Q => to σ H fun x H1 => tl σ H1 fun lo H2 => th σ H2 fun hi H3 => ∃ (u b : Addr) (xs ys : List V) (a c : Int), x = .ref u ∧ v = .ref b ∧ lo = some a ∧ hi = some c ∧ H3 u = some (.lst xs) ∧ H3 b = some (.lst ys) ∧ u ≠ b ∧ 0 ≤ a ∧ a ≤ c ∧ a ≤ xs.length ∧ xs.length + ys.length ≤ sizeLine ∧
  Q σ (upd H3 u (.lst (xs.take a.toNat ++ ys ++ xs.drop (min c.toNat xs.length))))
theorem pg_cut {to : TE} {tl th : TO} (ho : PE X o to) (hl : PO X (some l) tl) (hh : PO X (some h) th)
    (ha : ∀ v, assign (.Subscript o (.Slice (some l) (some h) none p3) pos) X.env v = (do
      let ov ← holding [v] (eval o X.env)
      let iv ← holding [v, ov] (eval (.Slice (some l) (some h) none p3) X.env)
      standAt pos
      holding [v, ov, iv] (setItem ov iv v)
      release [iv, v, ov] [])) : PG X (.Subscript o (.Slice (some l) (some h) none p3) pos) (gCut to tl th) := by
  refine ⟨fun pins s σ H v w Q I r q0 => ?_⟩
  rw [ha]
  refine wpAny_bind (wpAny_holding (thn (ho.run pins s σ H _ I q0) fun ov s1 ⟨x, H1, I1, r1, q1⟩ => ?_))
  refine wpAny_bind (wpAny_holding (wpAny_Slice (thn (hl.run pins s1 σ H1 _ I1 q1) fun vl s2 ⟨lo, H2, I2, pl, q2⟩ => thn (hh.run pins s2 σ H2 _ I2 q2) fun vh s3 ⟨hi, H3, I3, ph, q3⟩ => thn (po_none.run pins s3 σ H3 (fun z H' => z = none ∧ H' = H3) I3 ⟨rfl, rfl⟩) fun vs s4 ⟨st, H4, I4, ps, es, e4⟩ => ?_)))
  subst es e4
  obtain ⟨u, b, xs, ys, a, c, rfl, rfl, rfl, rfl, hu, hb, ne, h0, hac, ham, hz, q⟩ := q3
  cases r1
  cases r
  cases ps
  have I5 : Inv X pins σ H4 { s4 with heap := s4.heap.push { cls := .type "slice", data := .fields #[vl, vh, .none] } } := I4.kept (t' := s4.toks) fun b ob q => Heap.get?_push_of_some _ q
  refine wpAny_bind (wpAny_standAt (wpAny_bind (wpAny_holding (set_cut I5 hu hb ne (Heap.IsSliceOf.new _ vl vh .none) pl ph h0 hac ham hz fun s' I6 => ?_))))
  exact wpAny_release ⟨σ, _, I6, q⟩
end
end L2
namespace Vx
open PySem PySem.Spec L2
def sSetSl (we wo : WT) (wl wh : WO) : WS := fun PX env k => we PX env fun w env1 => match w with
  | .o (.obj _ .lst os) => onSome (datas os) fun ys => wo PX env1 fun t env2 => wl PX env2 fun lo env3 => wh PX env3 fun hi env4 => match t with
    | .al a i p => onSome lo fun lo => onSome hi fun hi => (0 ≤ lo ∧ lo ≤ hi) ∧ match envAt env4 i p with
      | some (.obj c .lst xs) => c = a ∧ lo ≤ xs.length ∧ onSome (datas xs) fun ds => ds.length + ys.length ≤ sizeLine ∧ k.nx (envPut env4 i p (.lst a ((ds.take lo.toNat ++ ys ++ ds.drop (min hi.toNat ds.length)).map O.d)))
      | _ => False
    | _ => False
  | _ => False
section
variable {X : Cx} {B : Bs} {Wx : WX} {e o l h : Expr} {we wo : WT} {wl wh : WO} {pos p2 p3 : Pos}
theorem z_cut (he : PV X B Wx e we) (ho : PV X B Wx o wo) (hl : PO X (some l) (tO X B Wx wl)) (hh : PO X (some h) (tO X B Wx wh))
    (ha : ∀ v, assign (.Subscript o (.Slice (some l) (some h) none p3) p2) X.env v = (do
      let ov ← holding [v] (eval o X.env)
      let iv ← holding [v, ov] (eval (.Slice (some l) (some h) none p3) X.env)
      standAt p2
      holding [v, ov, iv] (setItem ov iv v)
      release [iv, v, ov] []))
    (hs : swapsWithSole [.Subscript o (.Slice (some l) (some h) none p3) p2] e pos.line X.env = pure false) (hw : swappedStores [.Subscript o (.Slice (some l) (some h) none p3) p2] e X.env = pure none)
    (h1 : (assignEach [.Subscript o (.Slice (some l) (some h) none p3) p2] X.env).map (·.2) = [assign (.Subscript o (.Slice (some l) (some h) none p3) p2) X.env]) : S1 X B Wx (.Assign [.Subscript o (.Slice (some l) (some h) none p3) p2] e pos) (sSetSl we wo wl wh) := by
  refine PS_imp (ps_asg he (pg_cut ho hl hh ha) hs hw h1) fun D σ H ⟨S, env, T, k, PX, r, hq, hE, hX⟩ => ?_
  refine ⟨S, env, T, _, PX, r, hq, fun x env1 v S1 H1 q r1 => ?_, hX⟩
  cases x with
  | al _ _ _ => exact q.elim
  | o x =>
    cases x with
    | d _ => exact q.elim
    | tup _ => exact q.elim
    | obj c kd os =>
      cases kd with
      | dct _ => exact q.elim
      | lst =>
        obtain ⟨ys, hys, q⟩ := onSome_some (show onSome (datas os) _ from q)
        rw [datas_eq hys] at r1
        refine ⟨S1, env1, (v, .o (.obj c .lst (ys.map O.d))) :: T, _, PX, r1, q, fun t env2 vt S2 H2 q r2 => ?_, hX⟩
        refine ⟨S2, env2, (vt, t) :: (v, .o (.obj c .lst (ys.map O.d))) :: T, _, PX, r2, q, fun lo env3 S3 H3 q r3 => ?_, hX⟩
        refine ⟨S3, env3, (vt, t) :: (v, .o (.obj c .lst (ys.map O.d))) :: T, _, PX, r3, q, fun hi env4 S4 H4 q r4 => ?_, hX⟩
        cases t with
        | o _ => exact q.elim
        | al a i p =>
          obtain ⟨lo', e1, q5⟩ := onSome_some (show onSome lo _ from q)
          obtain ⟨hi', e2, q6⟩ := onSome_some (show onSome hi _ from q5)
          subst e1 e2
          obtain ⟨⟨h0, h2⟩, q⟩ := q6
          clear q5
          have et : vt = .ref a := r4.tmps (vt, .al a i p) List.mem_cons_self
          have z : OwnR X.K S4 H4 v (.obj c .lst (ys.map O.d)) := r4.tmps (v, .o (.obj c .lst (ys.map O.d))) (List.mem_cons_of_mem _ List.mem_cons_self)
          have r5 : R X.K B S4 H4 σ env4 T := r4.perm (fun t ht => List.mem_cons_of_mem _ (List.mem_cons_of_mem _ ht)) fun b => by
            show cntT b T ≤ 0 + (_ + cntT b T)
            omega
          cases ee : envAt env4 i p with
          | none => simp only [ee] at q
          | some y2 =>
            simp only [ee] at q
            cases y2 with
            | d _ => exact q.elim
            | tup _ => exact q.elim
            | obj b kd xs =>
              cases kd with
              | dct _ => exact q.elim
              | lst =>
                obtain ⟨hb, hl2, q7⟩ := q
                subst hb
                obtain ⟨ds, hds, hsz, q8⟩ := onSome_some (show onSome (datas xs) _ from q7)
                have exs := datas_eq hds
                subst exs
                obtain ⟨vs, hv, ow⟩ := r5.seenAt ee
                have la : vs.length = ds.length := by rw [ow.length, List.length_map]
                have rp := ow.data
                cases z with
                | obj ec hf oc =>
                  rename_i zs
                  have zl : zs.length = ys.length := by rw [oc.length, List.length_map]
                  have ne : b ≠ c := by
                    intro x
                    subst x
                    obtain ⟨oo, eo, haa⟩ := envAt_some ee
                    obtain ⟨vv, _, qq⟩ := r5.slots i oo eo
                    obtain ⟨_, _, hle⟩ := qq.at haa
                    have c1 : oo.cnt b ≤ cntE b env4 := cntE_get eo
                    have c2 : (O.lst b (ds.map O.d)).cnt b ≤ oo.cnt b := hle b
                    have c3 : cntE b env4 + (0 + ((O.lst b (ys.map O.d)).cnt b + cntT b T)) ≤ 1 := r4.one b
                    have c4 : ∀ os : List O, 1 ≤ (O.lst b os).cnt b := fun os => by show 1 ≤ (if b = b then 1 else 0) + O.cntL b os; rw [if_pos rfl]; omega
                    have c5 := c4 (ys.map O.d)
                    have c6 := c4 (ds.map O.d)
                    omega
                  have r6 := r5.renewAt ee (us := vs.take lo'.toNat ++ zs ++ vs.drop (min hi'.toNat vs.length)) (ys := (ds.take lo'.toNat ++ ys ++ ds.drop (min hi'.toNat ds.length)).map O.d) (fun {vs'} {H'} e2 o2 => by
                    rw [la]
                    exact OwnA.of_data (((rp.take _).append oc.data).append (rp.drop _))) fun b => by
                    rw [cntL_data, cntL_data]; exact Nat.le_refl _
                  exact ⟨b, c, vs, zs, lo', hi', et, rfl, rfl, rfl, hv, ec, ne, h0, h2, by rw [la]; rw [List.length_map] at hl2; exact hl2, by rw [la, zl]; exact hsz, hE.nx _ _ _ _ q8 r6⟩
end
theorem nx_cut {we wo : WT} {wl wh : WO} {u : WS} {PX : Exn → Env → Prop} {env : Env} {k : Kt} (h : sSetSl we wo wl wh PX env { k with nx := fun env2 => Nx u PX env2 k }) : Nx (sCons (sSetSl we wo wl wh) u) PX env k := nx_in (by
  simp only [nx_eq] at h
  exact h)
theorem nx_cutE {we : WT} {wl wh : WO} {u : WS} {PX : Exn → Env → Prop} {env : Env} {k : Kt} {i : Nat} {a : Addr} {ds ys : List D} {lo hi : Int} (hc : EvL we env ys) (he : env[i]? = some (some (.lst a (ds.map .d)))) (hl : EvO wl env (some lo)) (hh : EvO wh env (some hi))
    (h0 : 0 ≤ lo ∧ lo ≤ hi) (ham : lo ≤ ds.length) (hsz : ds.length + ys.length ≤ 1000000) (h : Nx u PX (env.set i (some (.lst a ((ds.take lo.toNat ++ ys ++ ds.drop (min hi.toNat ds.length)).map O.d)))) k) : Nx (sCons (sSetSl we (wVar i) wl wh) u) PX env k := by
  refine nx_cut ?_
  unfold sSetSl
  refine hc _ _ fun b => ?_
  refine onSome_mk (datas_map ys) ?_
  unfold wVar
  simp only [he]
  refine hl _ _ (hh _ _ ?_)
  have e : envAt env i [] = some (.lst a (ds.map O.d)) := by unfold envAt; simp only [he]; rfl
  refine ⟨h0, ?_⟩
  show match envAt env i [] with
    | some (.obj c .lst xs) => _
    | _ => False
  rw [e]
  refine ⟨rfl, by rw [List.length_map]; exact ham, onSome_mk (datas_map ds) ⟨Nat.le_of_lt (small hsz), ?_⟩⟩
  unfold envPut
  simp only [he]
  exact h
end Vx
namespace Vx
open PySem PySem.Spec PyProof.Rows L2

/-! ### a caught exception stands in the abstract heap -/
theorem exHO_ok {P : Program} {w : World} {H : Hp} {h : Heap} {a C dx : Addr} {oe : Obj} {vs : Array Value} (e : h.get? a = some oe) (z : L2N.Zn (.ref C) (some dx) oe) (d : oe.data = .fields vs) : ObjOk P w H h a (exHO a C dx) :=
  ⟨⟨oe, vs, e, z, d⟩, ⟨oe, e⟩, fun _ _ q k => q.elim fun o q => q.elim fun us q => ⟨o, us, k _ q.1, q.2⟩⟩
section
variable {X : Cx} {pins : List (Addr × Obj)} {σ : L2.St} {H : Hp} {sI s' : Shared} {G : Heap}
theorem frs_not {base h : Heap} {l : List PySem.Env} {a : Addr} {o : Obj} {vs : Array Value} (ff : h.FunFrames base l) (e : h.get? a = some o) (d : o.data = .fields vs) : a ∉ frs l := by
  intro hm
  obtain ⟨_, o2, e2, hnf⟩ := ff.mem hm
  have : o = o2 := Option.some.inj (e.symm.trans e2)
  subst this
  exact hnf _ d
/-- the state with the exception, the exception told -/
theorem landT {a C dx : Addr} {oe : Obj} {vs : Array Value} (I : L2.Inv X pins σ H sI) (gr : ∀ b o, sI.heap.get? b = some o → b ∉ frs X.stack → G.get? b = some o) (st : G.StaysIn s'.heap) (up : sI.heap.UpToSlots s'.heap) (os : s'.os = sI.os) (bare : AllBare s'.gens)
    (ga : G.get? a = none) (nf : a ∉ frs X.stack) (e : s'.heap.get? a = some oe) (z : L2N.Zn (.ref C) (some dx) oe) (d : oe.data = .fields vs) (na : H a = none) : L2.Inv X pins σ (upd H a (exHO a C dx)) s' := by
  have new : sI.heap.get? a = none := by
    cases q : sI.heap.get? a with
    | none => rfl
    | some o =>
      have := gr a o q nf
      rw [ga] at this; cases this
  have ne : ∀ {b : Addr} {o : Obj}, sI.heap.get? b = some o → b ≠ a := fun q z => by rw [z, new] at q; cases q
  have slots : ∀ b ∈ frs X.stack, ∀ o, sI.heap.get? b = some o → ∃ sl, s'.heap.get? b = some { o with slots := sl } := fun b hb o q => by
    obtain ⟨_, o2, e2, hd⟩ := I.stack.mem hb
    have : o = o2 := Option.some.inj (q.symm.trans e2)
    subst this
    exact up b o q hd
  have keepT : ∀ {u : HO} (b : Addr), H b = some u → upd H a (exHO a C dx) b = some u := fun {u} b q => (upd_ne (ne_of_none q na)).trans q
  refine I.call' (ch := []) os ⟨?_, ?_, ?_, ?_, ?_, ?_, ?_⟩ ?_ bare (fun _ q => nomatch q)
  · exact fun b o q _ hb _ => st b o (gr b o q hb)
  · exact fun b o q _ hb _ => slots b hb o q
  · exact fun b o q n _ => (upd_ne (ne q)).trans n
  · intro b o q _
    by_cases hb : b ∈ frs X.stack
    · obtain ⟨sl, q⟩ := slots b hb o q
      exact ⟨_, q⟩
    · exact ⟨o, st b o (gr b o q hb)⟩
  · exact fun b xs q => keepT b q
  · exact fun b o u q => keepT b q
  · exact fun b ps q => ⟨#[], by rw [keepT b q]; simp⟩
  · have ok0 : HOk X.prog X.w H G := I.inGround gr
    exact HOk.laidN (ok0.kept st) (fun _ _ q => q) na (exHO_ok e z d)
theorem toSuite {a : Addr} {s : Shared} (I : L2.Inv X pins σ H s) : L2.Inv (X.suite a X.pn) pins σ H s :=
  ⟨I.ok.suite a X.pn, I.os, I.bare, I.base, I.loc, I.cell, I.free, I.freeC, I.pin, I.hok, I.len⟩
theorem ofSuite {a : Addr} {s : Shared} (ok : X.Ok) (I : L2.Inv (X.suite a X.pn) pins σ H s) : L2.Inv X pins σ H s :=
  ⟨ok, I.os, I.bare, I.base, I.loc, I.cell, I.free, I.freeC, I.pin, I.hok, I.len⟩
end
/-- what the clause wishes of an exception that the body lets out -/
def wIn (K : PySem.W.Frag) (c : Value) (i : Nat) (ts : Addr → TS) (Wo : WX) (D : L2.Ends) : WX := fun cls d σ H =>
  ∃ (b : Bool) (C dx : Addr), cls = .ref C ∧ d = some dx ∧ PySem.W.exmOne K cls c = some b ∧ (b = false → Wo cls d σ H) ∧
    (b = true → ∀ a, H a = none → ts a ⟨fun τ H1 => D.nx (τ.set i none) H1, D.rt, fun τ H1 => D.bk (τ.set i none) H1, fun τ H1 => D.ct (τ.set i none) H1⟩ (σ.set i (some (.ref a))) (upd H a (exHO a C dx)))
section
variable {X : Cx} {x n : Str} {c : Value} {i : Nat} {body suite : List Stmt} {st0 : Stmt} {np pos pos' : Pos} {tb : WX → TS} {ts : Addr → TS} {Wo : WX}
theorem ps_tryT (fr : X.stack = X.env :: X.outer) (loc : X.env.frame = some X.env.locals) (nd : X.N.Nodup) (hi : X.N[i]? = some n) (kind : X.env.kindOf n = some .local) (nm : Names X x c) (tk : L2N.Takes X Wo)
    (hb : ∀ (W : WX) (pn : List (Addr × Obj)) (xe : Value → Shared → Prop), L2N.Takes (X.tr pn xe) W → PassesOwn (model X.prog X.w) X.A X.env xe → PSs (X.tr pn xe) body (tb W))
    (hs : ∀ a : Addr, PSs (X.suite a X.pn) (st0 :: suite) (ts a)) :
    PS X (.Try body [.ExceptHandler (some (.Name x np)) (some n) (st0 :: suite) pos'] [] [] pos) (fun D σ H => tb (wIn X.K c i ts Wo D) D σ H) := by
  refine ⟨fun pins s σ H D I h => ?_⟩
  have ok := I.ok
  have frames : X.A.frames = some (X.env :: X.outer) := by rw [ok.frames, fr]
  let xe2 : Value → Shared → Prop := fun e s1 => wpAny (model X.prog X.w) X.A (noteFrame e X.env) (fun _ s2 => wpAny (model X.prog X.w) X.A (setFlight e none) (fun _ s3 =>
    wpAny (model X.prog X.w) X.A (handleBy e X.env [.ExceptHandler (some (.Name x np)) (some n) (st0 :: suite) pos']) (SP X pins D) X.xe s3) X.xe s2) X.xe s1
  have catch_ : L2N.Takes (X.tr (X.pn ++ pins) xe2) (wIn X.K c i ts Wo D) := by
    rintro u s1 ⟨a, G, sI, ps, τ, H1, cls, d, rfl, J0, gr, up, sky, na, os, bare, b, C, dx, rfl, rfl, hm, hno, hyes⟩
    have J : L2.Inv X pins τ H1 sI := J0.ofTry ok
    have sky : Sky G (X.env :: X.outer) a (L2N.Zn (.ref C) (some dx)) X.env.locals s1.heap := by rw [← fr]; exact sky
    refine L2N.Sky.land L2N.Zn.steady frames loc sky fun h3 f3 up3 => ?_
    have I3 : L2.Inv X pins τ H1 { s1 with heap := h3 } := J.landed gr f3.1 (up.trans up3) os bare
    have ga : G.get? a = none := f3.2.1
    obtain ⟨o3, v3, e3, z3, d3⟩ := f3.there
    have nf : a ∉ frs X.stack := by rw [fr]; exact frs_not f3.2.2.1 e3 d3
    have S3 : L2.Inv (X.suite a X.pn) pins τ H1 { s1 with heap := h3 } := toSuite I3
    refine wpAny_handleBy_cons (codeAny_handlers_test ?_) (fun q => nomatch q)
    have ty : PySem.W.Looks (model X.prog X.w) h3 (typeOf (.ref a)) (.ref C) := fun A Q E s k q => wpAny_typeOf_ref (k _ _ e3) (by rw [z3.1]; exact q)
    have asks := PySem.W.exm_one (M := model X.prog X.w) I3.kIn ty hm
    have named : ∀ {Q : Value → Shared → Prop} {E : Value → Shared → Prop}, Q c { s1 with heap := h3 } → wpAny (model X.prog X.w) (X.A.mark (some (.ref a))) (eval (.Name x np) X.env) Q E { s1 with heap := h3 } := by
      intro Q E q
      obtain ⟨gl, db, hmg | ⟨hmg, hv, hnn⟩⟩ := nm
      · exact ld_glob (X := X.suite a X.pn) S3 gl hmg q db
      · exact ld_blt (X := X.suite a X.pn) S3 gl hmg hv q hnn db
    refine named (asks.here ?_)
    cases b with
    | false =>
      show wpAny _ X.A (handleBy (.ref a) X.env []) _ _ _
      refine wpAny_handleBy_nil ?_
      obtain ⟨_, _, _, ob, vb, T, _, _, eb, _, db, h1, _⟩ := id f3
      unfold PySem.passOn
      refine wpAny_bind (wpAny_field eb db h1 ?_)
      rw [if_neg (show ¬ ((Value.ref T == Value.none) = true) from fun q => by cases q)]
      have out : wpAny (model X.prog X.w) X.A (setFlight (.ref a) X.env.frame) (fun _ s4 => wpAny (model X.prog X.w) X.A (throw (.ref a) : Sem Flow) (SP X pins D) X.xe s4) X.xe { s1 with heap := h3 } := by
        rw [loc]
        exact HandSPX.setFlight_upZ f3 fun h4 f4 up4 => wpAny_throw (tk _ _ ⟨a, G, sI, pins, τ, H1, .ref C, some dx, rfl, J, gr, (up.trans up3).trans up4, .inr (.inr (by rw [fr]; exact f4)), na, os, bare, hno rfl⟩)
      first
        | exact wpAny_bind (wpAny_pure (wpAny_bind out))
        | exact wpAny_bind out
    | true =>
      refine codeAny_handlers_suite_as (HandSPX.lands_againZ f3 fun h4 f4 up4 => ?_)
      obtain ⟨o4, v4, e4, z4, d4⟩ := f4.there
      have I4 : L2.Inv X pins τ (upd H1 a (exHO a C dx)) { s1 with heap := h4 } := landT J gr f4.1 ((up.trans up3).trans up4) os bare ga nf e4 z4 d4 na
      refine store_ok (X := X.suite a X.pn) (v := .ref a) (toSuite I4) nd hi (.inl kind) rfl (fun s5 S5 => ?_) (.inr kind)
      refine wpAny_mono ((hs a).run pins s5 _ _ _ S5 (hyes rfl a na)) (fun f s6 hf => ?_) (fun _ _ q => False.elim q)
      have fin : ∀ {σ6 : L2.St} {H6 : Hp} {Q : Shared → Prop}, L2.Inv (X.suite a X.pn) pins σ6 H6 s6 → (∀ s7, L2.Inv X pins (σ6.set i none) H6 s7 → Q s7) →
          wpAny (model X.prog X.w) X.A (do bindName X.env n .none; unbindBehindTheSuite X.env n pos') (fun _ s7 => Q s7) X.xe s6 := fun q hq => gone_ok (ofSuite ok q) nd hi kind hq
      cases f with
      | ret u =>
        obtain ⟨v6, σ6, H6, q6, r6, w6⟩ := hf
        exact fin q6 fun s7 q7 => ⟨_, _, _, q7, r6, w6⟩
      | next =>
        obtain ⟨σ6, H6, q6, w6⟩ := hf
        exact fin q6 fun s7 q7 => ⟨_, _, q7, w6⟩
      | brk =>
        obtain ⟨σ6, H6, q6, w6⟩ := hf
        exact fin q6 fun s7 q7 => ⟨_, _, q7, w6⟩
      | cont =>
        obtain ⟨σ6, H6, q6, w6⟩ := hf
        exact fin q6 fun s7 q7 => ⟨_, _, q7, w6⟩
  refine wpAny_Try_except (wpAny_mono ((hb _ (X.pn ++ pins) xe2 catch_ PassesOwn.looking).run [] s σ H D (I.toTry _) h) (fun f s1 hf => ?_) fun e s1 q => q)
  cases f with
  | next =>
    obtain ⟨τ, H1, J, q⟩ := hf
    exact wpAny_execs_nil ⟨τ, H1, J.ofTry ok, q⟩
  | ret u =>
    obtain ⟨v, τ, H1, J, r, q⟩ := hf
    exact ⟨v, τ, H1, J.ofTry ok, r, q⟩
  | brk =>
    obtain ⟨τ, H1, J, q⟩ := hf
    exact ⟨τ, H1, J.ofTry ok, q⟩
  | cont =>
    obtain ⟨τ, H1, J, q⟩ := hf
    exact ⟨τ, H1, J.ofTry ok, q⟩
end
end Vx
namespace Vx
open PySem PySem.Spec L2

/-! ### try: .. except C as n: .. -/
/-- ms: whether the clause takes an exception of that class; i: the name's slot -/
def sTry (ms : Str → Option Bool) (wb : WS) (i : Nat) (ws : WS) : WS := fun PX env k =>
  wb (fun ex env1 => match ms ex.cls with
    | some true => i < env1.length ∧ ws (fun _ _ => False) (env1.set i (some (.d (exD ex.cls ex.ns ex.ds)))) ⟨fun e => k.nx (e.set i none), k.rt, fun e => k.bk (e.set i none), fun e => k.ct (e.set i none)⟩
    | some false => PX ex env1
    | none => False) env k
section
variable {K : PySem.W.Frag} {B : Bs} {S : Fz} {H : Hp} {σ : L2.St} {env : Env}
/-- a new object that is never written again -/
theorem R.laysS {a : Addr} {o : HO} (r : R K B S H σ env []) (na : H a = none) : Kp S S H (upd H a o) ∧ Kp S (fun b => S b ∨ b = a) (upd H a o) (upd H a o) ∧ R K B (fun b => S b ∨ b = a) (upd H a o) σ env [] := by
  have r1 : R K B S (upd H a o) σ env [] := r.alloc na
  have kn : Kp S S H (upd H a o) := Kp.new na r.sH
  have km : Kp S (fun b => S b ∨ b = a) (upd H a o) (upd H a o) := Kp.more fun b h => .inl h
  have fresh : cntE a env + cntT a [] = 0 := r.fresh na
  refine ⟨kn, km, r1.len, fun j o e => ?_, (fun t ht => nomatch ht), r1.one, fun b hb => ?_, fun b hb => ?_, r1.keep, r1.dom, r1.new, fun b hb => ?_, fun b hb => .inl (r1.sub b hb)⟩
  · obtain ⟨v, e1, q⟩ := r1.slots j o e
    exact ⟨v, e1, q.kp km fun _ _ => rfl⟩
  · rcases hb with hb | rfl
    · exact r1.apart b hb
    · exact fresh
  · rcases hb with hb | rfl
    · exact r1.sH b hb
    · rw [upd_same]; exact fun h => nomatch h
  · rcases hb with hb | rfl
    · exact r1.newS b hb
    · exact .inr (.inr (r.dom b na))
/-- what is caught stands in a slot -/
theorem R.caughtS {a C dx : Addr} {ex : Exn} {xs : List V} {i : Nat} (r : R K B S H σ env []) (na : H a = none) (sd : S dx) (hd : H dx = some (.xd (ex.ns.zip xs))) (hl : ex.ns.length = xs.length)
    (hn : PySem.W.nsIn K mainGlobals ex.cls = some (some (.ref C))) (hk : ExK K C ex.ns) (ra : RpA K S H xs ex.ds) (hi : i < env.length) :
    ∃ S', R K B S' (upd H a (exHO a C dx)) (σ.set i (some (.ref a))) (env.set i (some (.d (exD ex.cls ex.ns ex.ds)))) [] ∧ S' a := by
  obtain ⟨kn, km, r2⟩ := r.laysS (o := exHO a C dx) na
  have rp : Rp K (fun b => S b ∨ b = a) (upd H a (exHO a C dx)) (.ref a) (exD ex.cls ex.ns ex.ds) :=
    .ex (.inr rfl) (.inl sd) upd_same ((kn.h _ sd).trans hd) hl hn hk ((ra.kp kn).kp km)
  exact ⟨_, r2.storeD rp hi, .inr rfl⟩
end
section
variable {X : Cx} {B : Bs} {Wx : WX}
theorem lets_none {PX : Exn → Env → Prop} (h : ∀ ex env, ¬ PX ex env) : Lets X B Wx PX := fun ex env _ _ _ _ _ q => (h ex env q).elim
theorem z_try {x n : Str} {c : Value} {i : Nat} {body suite : List Stmt} {st0 : Stmt} {np pos pos' : Pos} {ms : Str → Option Bool} {wb ws : WS} (fr : X.stack = X.env :: X.outer) (loc : X.env.frame = some X.env.locals) (nd : X.N.Nodup) (hi : X.N[i]? = some n)
    (kind : X.env.kindOf n = some .local) (nm : Names X x c) (hm : ∀ y b C, ms y = some b → PySem.W.nsIn X.K mainGlobals y = some (some (.ref C)) → PySem.W.exmOne X.K (.ref C) c = some b) (tk : L2N.Takes X Wx)
    (hb : ∀ (W : WX) (pn : List (Addr × Obj)) (xe : Value → Shared → Prop), L2N.Takes (X.tr pn xe) W → PassesOwn (model X.prog X.w) X.A X.env xe → SS0 (X.tr pn xe) B W body wb)
    (hs : ∀ a : Addr, SS0 (X.suite a X.pn) B (fun _ _ _ _ => False) (st0 :: suite) ws) :
    S10 X B Wx (.Try body [.ExceptHandler (some (.Name x np)) (some n) (st0 :: suite) pos'] [] [] pos) (sTry ms wb i ws) := by
  refine PS_imp (ps_tryT (Wo := Wx) (tb := fun W => tS0 X B W wb) (ts := fun _ => tS0 X B (fun _ _ _ _ => False) ws) fr loc nd hi kind nm tk
    (fun W pn xe t2 po => PSs_imp (hb W pn xe t2 po) fun D σ H ⟨S, env, k, PX, r, hw, hE, hX⟩ => ⟨S, env, k, PX, r, hw, ⟨hE.nx, hE.rt, hE.bk, hE.ct⟩, hX⟩)
    (fun a => PSs_imp (hs a) fun D σ H ⟨S, env, k, PX, r, hw, hE, hX⟩ => ⟨S, env, k, PX, r, hw, ⟨hE.nx, hE.rt, hE.bk, hE.ct⟩, hX⟩)) fun D σ H ⟨S, env, k, PX, r, hw, hE, hX⟩ => ?_
  refine ⟨S, env, k, _, r, hw, hE, fun ex env1 S1 H1 σ1 cls d q r1 hx => ?_⟩
  have hx' := hx
  obtain ⟨C, dx, xs, rfl, rfl, sd, hd, hl, hn, hk, ra⟩ := hx
  cases e : ms ex.cls with
  | none => simp only [e] at q
  | some b =>
    refine ⟨b, C, dx, rfl, rfl, hm _ _ _ e hn, fun hb => ?_, fun hb a na => ?_⟩
    · subst hb
      simp only [e] at q
      exact hX _ _ _ _ _ _ _ q r1 hx'
    · subst hb
      simp only [e] at q
      obtain ⟨hlt, q⟩ := q
      obtain ⟨S2, r2, _⟩ := r1.caughtS na sd hd hl hn hk ra hlt
      exact ⟨S2, _, _, _, r2, q, ⟨fun e4 σ4 S4 H4 q4 r4 => hE.nx _ _ _ _ q4 r4.forget, fun x4 e4 v4 σ4 S4 H4 q4 r4 => hE.rt _ _ _ _ _ _ q4 r4, fun e4 σ4 S4 H4 q4 r4 => hE.bk _ _ _ _ q4 r4.forget, fun e4 σ4 S4 H4 q4 r4 => hE.ct _ _ _ _ q4 r4.forget⟩, lets_none fun _ _ h => h⟩
end

/-! ### e.f of a caught exception -/
def unS : List D → List Str
  | .str x :: r => x :: unS r
  | _ => []
theorem unS_map : ∀ ns : List Str, unS (ns.map PyData.str) = ns
  | [] => rfl
  | n :: ns => congrArg (n :: ·) (unS_map ns)
def fieldOf : D → Str → Option D
  | .dict [(.none, .str _), (.none, .tuple ns), (.none, .tuple ds)], f => ((unS ns).zip ds).lookup f
  | _, _ => none
def clsOf : D → Option Str
  | .dict [(.none, .str y), (.none, .tuple _), (.none, .tuple _)] => some y
  | _ => none
/-- a caught exception's parts -/
theorem Rp.exn {K : PySem.W.Frag} {S : Fz} {H : Hp} {v : V} {x : D} {y : Str} (r : Rp K S H v x) (h : clsOf x = some y) :
    ∃ (a C dx : Addr) (ns : List Str) (xs : List V) (ds : List D), v = .ref a ∧ x = exD y ns ds ∧ H a = some (exHO a C dx) ∧ H dx = some (.xd (ns.zip xs)) ∧ ns.length = xs.length ∧ PySem.W.nsIn K mainGlobals y = some (some (.ref C)) ∧ ExK K C ns ∧ RpA K S H xs ds := by
  cases r with
  | ex _ _ e e2 hl hn hk ra =>
    cases h
    exact ⟨_, _, _, _, _, _, rfl, rfl, e, e2, hl, hn, hk, ra⟩
  | @dct _ ks _ ds _ _ _ _ =>
    cases ks with
    | nil => cases h
    | cons k ks =>
      cases ds with
      | nil => cases h
      | cons d ds => cases k <;> cases h
  | _ => cases h
theorem lookup_rp {K : PySem.W.Frag} {S : Fz} {H : Hp} {f : Str} {d : D} : ∀ {ns : List Str} {xs : List V} {ds : List D}, RpA K S H xs ds → (ns.zip ds).lookup f = some d → ∃ v, (ns.zip xs).lookup f = some v ∧ Rp K S H v d
  | [], _, _, _, h => nomatch h
  | n :: ns, _, _, .nil, h => by cases h
  | n :: ns, _, _, .cons (v := v) (d := d0) r ra, h => by
    by_cases e : f = n
    · subst e
      rw [List.zip_cons_cons, List.lookup_cons_self] at h
      cases h
      exact ⟨v, by rw [List.zip_cons_cons, List.lookup_cons_self], r⟩
    · have e2 : (f == n) = false := by simpa using e
      rw [List.zip_cons_cons, List.lookup_cons, e2] at h
      obtain ⟨v, h1, h2⟩ := lookup_rp ra h
      exact ⟨v, by rw [List.zip_cons_cons, List.lookup_cons, e2]; exact h1, h2⟩
theorem lookup_name {α : Type} {f : Str} {d : α} : ∀ {ns : List Str} {ds : List α}, (ns.zip ds).lookup f = some d → f ∈ ns
  | [], _, h => nomatch h
  | n :: ns, [], h => by cases h
  | n :: ns, d0 :: ds, h => by
    by_cases e : f = n
    · rw [e]; exact List.mem_cons_self
    · have e2 : (f == n) = false := by simpa using e
      rw [List.zip_cons_cons, List.lookup_cons, e2] at h
      exact List.mem_cons_of_mem _ (lookup_name h)
/-- the reading of e.f -/
def tXfT (K : PySem.W.Frag) (f : Str) (te : TE) : TE := fun σ H Q => te σ H fun x H1 => ∃ (a C dx : Addr) (fs : List (Str × V)) (v : V), x = .ref a ∧ H1 a = some (exHO a C dx) ∧ H1 dx = some (.xd fs) ∧ ExcC K C ∧ PySem.W.findIn K (.ref C) f = some none ∧ fs.lookup f = some v ∧ Q v H1
theorem pe_xfT {X : Cx} {e : Expr} {te : TE} {pos : Pos} {n : Str} (he : PE X e te) (hb : attributeBase e n X.env (eval e X.env) = eval e X.env) : PE X (.Attribute e n pos) (tXfT X.K n te) := by
  refine ⟨fun pins s σ H Q I h => ?_⟩
  refine attr_of hb (thn (he.run pins s σ H _ I h) fun u s1 hh => ?_)
  obtain ⟨x, H1, I1, rx, a, C, dx, fs, v, rfl, ea, ed, c, hno, l, q⟩ := hh
  obtain rfl : u = Value.ref a := rx
  have z : ObjOk X.prog X.w H1 s1.heap a (.ext fun h => ∃ (oe : Obj) (vs : Array Value), h.get? a = some oe ∧ L2N.Zn (.ref C) (some dx) oe ∧ oe.data = .fields vs) := I1.hok a _ ea
  obtain ⟨oe, vs, ha, hz, hd⟩ := z.1
  obtain ⟨mA, hns, hr⟩ : ObjOk X.prog X.w H1 s1.heap dx (.xd fs) := I1.hok dx _ ed
  obtain ⟨od, ho, hl⟩ := lookIn_ns hns
  obtain ⟨w, hw, rw_⟩ := RelO.some_of (v := v) (o := mA n) (by rw [← l]; exact hr n)
  have J : PySem.W.InstAt s1.heap a oe C (some od) := ⟨ha, hz.1, by unfold PySem.W.notCls; rw [hd] <;> rfl, by rw [hz.2.1]; exact ho⟩
  exact HandSPX.exc_get I1.kIn J c.hg c.hk c.hs (PySem.W.findObj_own c.hd hno rfl (by rw [hl, hw])) (handed_of rw_) ⟨v, H1, I1.tok _, rw_, q⟩
def wFld (f : Str) (we : WT) : WT := fun PX env P => we PX env fun w env1 => match w with
  | .o (.d x) => onSome (clsOf x) fun _ => onSome (fieldOf x f) fun y => P (.o (.d y)) env1
  | _ => False
section
variable {X : Cx} {B : Bs} {Wx : WX} {e : Expr} {we : WT} {pos : Pos} {es : List Expr}
theorem c_fld {n : Str} (he : PV X B Wx e we) (hb : attributeBase e n X.env (eval e X.env) = eval e X.env) : PV X B Wx (.Attribute e n pos) (wFld n we) := by
  refine PE_imp (pe_xfT he hb) fun σ H Q ⟨S, env, T, P, PX, r, hw, hP, hX⟩ => ?_
  refine ⟨S, env, T, _, PX, r, hw, fun w env1 v S1 H1 q r1 => ?_, hX⟩
  cases w with
  | al _ _ _ => exact q.elim
  | o o =>
    cases o with
    | d x =>
      obtain ⟨y, hy, q2⟩ := onSome_some (show onSome (clsOf x) fun _ => onSome (fieldOf x n) fun y => P (.o (.d y)) env1 from q)
      obtain ⟨d, hd, q3⟩ := onSome_some q2
      have rp : Rp X.K S1 H1 v x := by
        have z : OwnR X.K S1 H1 v (.d x) := r1.tmps (v, .o (.d x)) List.mem_cons_self
        cases z with
        | d z => exact z
      obtain ⟨a, C, dx, ns, xs, ds, rfl, rfl, ea, ed, hl, hn, hk, ra⟩ := rp.exn hy
      have hd : (ns.zip ds).lookup n = some d := by
        have z : ((unS (ns.map PyData.str)).zip ds).lookup n = some d := hd
        rw [unS_map] at z
        exact z
      obtain ⟨u, hu, ru⟩ := lookup_rp ra hd
      exact ⟨a, C, dx, _, u, rfl, ea, ed, hk.c, hk.f n (lookup_name hd), hu, hP _ _ _ _ _ q3 (r1.pop.push ru)⟩
    | _ => exact q.elim

/-! ### isinstance of a caught exception -/
def exIs (tbl : List (Str × Bool)) (x : D) : Option Bool := match clsOf x with
  | some y => tbl.lookup y
  | none => none
def isxQ (tbl : List (Str × Bool)) (w : W) (P : Bool → Prop) : Prop := match w with
  | .o (.d x) => onSome (exIs tbl x) P
  | _ => False
def wIsx (tbl : List (Str × Bool)) (we : WT) : WT := fun PX env P => we PX env fun w env1 => isxQ tbl w fun b => P (.o (.d (.bool b))) env1
theorem isx_at {K : PySem.W.Frag} {B : Bs} {S : Fz} {H : Hp} {σ : L2.St} {env : Env} {T : List (V × W)} {v : V} {w : W} {tbl : List (Str × Bool)} {P : Bool → Prop} (r : R K B S H σ env ((v, w) :: T)) (q : isxQ tbl w P) : ∃ (y : Str) (b : Bool) (C : Addr), KdX K H v (.ref C) ∧ PySem.W.nsIn K mainGlobals y = some (some (.ref C)) ∧ (∃ ns, ExK K C ns) ∧ tbl.lookup y = some b ∧ P b := by
  cases w with
  | al _ _ _ => exact q.elim
  | o o =>
    cases o with
    | d x =>
      obtain ⟨b, hb, q2⟩ := onSome_some (show onSome (exIs tbl x) P from q)
      have rp : Rp K S H v x := by
        have z : OwnR K S H v (.d x) := r.tmps (v, .o (.d x)) List.mem_cons_self
        cases z with
        | d z => exact z
      unfold exIs at hb
      cases hy : clsOf x with
      | none => rw [hy] at hb; cases hb
      | some y =>
        rw [hy] at hb
        obtain ⟨a, C, dx, ns, xs, ds, rfl, rfl, ea, ed, hl, hn, hk, ra⟩ := rp.exn hy
        exact ⟨y, b, C, .ex ea ed hk, hn, ⟨ns, hk⟩, hb, q2⟩
    | _ => exact q.elim
theorem c_isx {tbl : List (Str × Bool)} {cx : Expr} {cv : V} {u : Value} {p : Pos} (hg : Gl X "isinstance") (hm : X.mg "isinstance" = none) (hv : bootBuiltins "isinstance" = some (.builtin "isinstance")) (he : PV X B Wx e we) (hc : PE X cx (tC cv)) (hu : ClsV cv u)
    (hk : ∀ y b C, tbl.lookup y = some b → PySem.W.nsIn X.K mainGlobals y = some (some (.ref C)) → (∃ ns, ExK X.K C ns) → PySem.W.kitOne X.K (.ref C) u = some b)
    (hs1 : starEach [e, cx] X.env = (false, eval e X.env) :: starEach [cx] X.env) (hs2 : starEach [cx] X.env = (false, eval cx X.env) :: starEach [] X.env) (hpl : (backTo pos (starEach [cx] X.env)).any (·.1) = false)
    (hsn : ∀ whole, isTrue (.Call (.Name "isinstance" p) [e, cx] [] pos) X.env whole = (do let v ← whole; standAt (Expr.pos (.Call (.Name "isinstance" p) [e, cx] [] pos)); holding [v] (truthy v))) :
    Snd X B Wx (.Call (.Name "isinstance" p) [e, cx] [] pos) (wIsx tbl we) := by
  have h1 := pe_callB (X := X) (p := p) (pos := pos) call_isiX hg hm hv (pa_cons he (pa_cons hc pa_nil hs2) hs1) (by decide) (by decide) hs1 hpl
  refine snd_plain (PE_imp h1 fun σ H Q ⟨S, env, T, P, PX, r, hw, hP, hX⟩ => ?_) hsn
  refine ⟨S, env, T, _, PX, r, hw, fun w env1 v S1 H1 q r1 => ?_, hX⟩
  obtain ⟨y, b, C, kd, hn, hx, hb, q⟩ := isx_at (P := fun b => P (.o (.d (.bool b))) env1) r1 q
  exact ⟨v, cv, _, _, _, rfl, hu, kd, hk y b C hb hn hx, hP _ _ _ _ _ q (r1.pop.push (.bl _))⟩
theorem c_isxT {tbl : List (Str × Bool)} {cxs : List Expr} {cvs : List V} {us : List Value} {ta : TA} {p pt : Pos} {kt : Nat} (hg : Gl X "isinstance") (hm : X.mg "isinstance" = none) (hv : bootBuiltins "isinstance" = some (.builtin "isinstance")) (he : PV X B Wx e we) (hA : PA X cxs ta)
    (hq : ∀ σ H (Q : List V → Hp → Prop), Q cvs H → ta σ H Q) (hl : cvs.length ≤ sizeLine) (hu : Paired ClsV cvs us)
    (hk : ∀ y b C, tbl.lookup y = some b → PySem.W.nsIn X.K mainGlobals y = some (some (.ref C)) → (∃ ns, ExK X.K C ns) → PySem.W.kitAny X.K (.ref C) us = some b)
    (hs1 : starEach [e, .Tuple cxs kt pt] X.env = (false, eval e X.env) :: starEach [.Tuple cxs kt pt] X.env) (hs2 : starEach [.Tuple cxs kt pt] X.env = (false, eval (.Tuple cxs kt pt) X.env) :: starEach [] X.env) (hpl : (backTo pos (starEach [.Tuple cxs kt pt] X.env)).any (·.1) = false)
    (hsn : ∀ whole, isTrue (.Call (.Name "isinstance" p) [e, .Tuple cxs kt pt] [] pos) X.env whole = (do let v ← whole; standAt (Expr.pos (.Call (.Name "isinstance" p) [e, .Tuple cxs kt pt] [] pos)); holding [v] (truthy v))) :
    Snd X B Wx (.Call (.Name "isinstance" p) [e, .Tuple cxs kt pt] [] pos) (wIsx tbl we) := by
  have h1 := pe_callB (X := X) (p := p) (pos := pos) call_isiTX hg hm hv (pa_cons he (pa_cons (pe_tup hA) pa_nil hs2) hs1) (by decide) (by decide) hs1 hpl
  refine snd_plain (PE_imp h1 fun σ H Q ⟨S, env, T, P, PX, r, hw, hP, hX⟩ => ?_) hsn
  refine ⟨S, env, T, _, PX, r, hw, fun w env1 v S1 H1 q r1 => ?_, hX⟩
  obtain ⟨y, b, C, kd, hn, hx, hb, q⟩ := isx_at (P := fun b => P (.o (.d (.bool b))) env1) r1 q
  refine hq _ _ _ ⟨hl, fun p' hp => ?_⟩
  exact ⟨v, p', cvs, _, us, _, rfl, upd_same, hu, kd_up kd hp, hk y b C hb hn hx, hP _ _ _ _ _ q ((r1.pop.alloc (o := .tup cvs) hp).push (.bl _))⟩
end
end Vx
namespace Vx
open PySem PySem.Spec L2

/-! ### the base's own __init__, called by the base's name -/
structure BaseK (K : PySem.W.Frag) (C : Addr) : Prop where
  sp : PySem.W.specialIn K (.ref C) "__getattribute__" = some (some (.builtin "type.__getattribute__"))
  rd : PySem.W.readsIn K C (.type "type") = true
  fi : PySem.W.findCls K (.ref C) (.type "type") "__init__" = some (.val (.builtin "ValueError.__init__"))
section
variable {X : Cx} {e : Expr} {es : List Expr} {ta : TA} {p1 p2 pos : Pos}
theorem pe_ownInit {pl : Sem Bool} {bn : Str} {Cb : Addr} (hg : Gl X bn) (hm : X.mg bn = some (.ref Cb)) (k : BaseK X.K Cb) (ha : PA X (e :: es) ta) (hdb : (bn == ("__debug__" : Str)) = false)
    (hc : eval (.Call (.Attribute (.Name bn p1) "__init__" p2) (e :: es) [] pos) X.env = (do
      let o ← eval (.Name bn p1) X.env
      standAt p2.atName
      let (fn, fst) ← holding [o] (getMethod o "__init__" pl)
      callWith pos fn fst (backTo pos (starEach (e :: es) X.env)) (backToKw pos (keywordEach [] X.env))))
    (he : starEach (e :: es) X.env = (false, eval e X.env) :: starEach es X.env) (hpl : (backTo pos (starEach es X.env)).any (·.1) = false) :
    PE X (.Call (.Attribute (.Name bn p1) "__init__" p2) (e :: es) [] pos) (tVeI X.K ta) := by
  refine ⟨fun pins s σ H Q I q => PySem.W.methodCall_KW (ld_glob I hg hm ?_ hdb) hc⟩
  refine PySem.W.method_cls I.kIn k.sp (PySem.W.cls_value I.kIn k.rd k.fi (by decide +kernel) ?_)
  refine PyProof.Rows.callWith_method1 (thn (ha.run pos pins _ σ H _ (I.tok _) q) fun us s1 ⟨vs, H1, I1, rv, a, C, ws, ev, hl, T, ea, q1⟩ => ?_) he hpl
  subst ev
  cases rv with
  | @cons _ u _ us2 hu hr =>
    obtain rfl : u = Value.ref a := hu
    exact oinit_ok T I1 ea (by have := Paired.length hr; rw [sizeLine_eq]; omega) fun s2 I2 => ⟨.non, H1, I2, rfl, q1⟩
end

/-! ### __init__ of an own exception class: the base's, then its fields -/
def spX (C : Addr) (ns : List Str) : Sp := fun vs H Q _ => ∃ (a : Addr) (ys : List V), vs = .ref a :: ys ∧ ys.length = ns.length ∧ H a = some (exo a C none) ∧
  ∀ d H2, H2 a = some (exo a C (some d)) → H2 d = some (exd d (ns.zip ys).reverse) → H d = none → (∀ b, b ≠ a → b ≠ d → H2 b = H b) → Q .non H2
structure ExcX (P : Program) (w : World) (K : PySem.W.Frag) (mg : Str → Option Value) (base : Heap) (k : Nat) (C : Addr) (ns : List Str) : Prop where
  ok : ExK K C ns
  fi : ∃ (fI : Addr) (fd : FuncData) (ps : List Str), PySem.W.findIn K (.ref C) "__init__" = some (some (.ref fI)) ∧ PySem.W.typeIn K (.ref fI) = some (.type "function") ∧ FnOk P w K mg base CX0 k fI fd ps (spX C ns) ∧ Binds K fd ps []
section
variable {P : Program} {w : World} {K : PySem.W.Frag} {mg : Str → Option Value} {base : Heap} {f C Cb : Addr} {qual bn f1 f2 t : Str} {params : Arguments} {scope : Scope} {dV kV doc pm cdv ct oc : Value} {an od : Option Addr} {osl : Array (Option Value)}
  {p1 p2 p3 p4 p5 p6 p7 p8 p9 pa pb pc pd : Pos} {tk : Nat} {pa2 : Pos}
theorem init1 (lk : K.lookup f = some ⟨oc, od, .func (PySem.W.fnOf "__init__" qual params [.Expr (.Call (.Attribute (.Name bn p1) "__init__" p2) [.Name "self" p3, .Constant (.str t) tk p4] [] p5) p6, .Assign [.Attribute (.Name "self" p7) f1 p8] (.Name f1 p9) pa] scope dV kV doc pm an cdv ct), osl⟩)
    (hcd : PySem.W.codeIn K cdv qual = true) (sc : FnScope ["self", f1] ["self", f1] scope) (hg : ∀ A outer s H E, Gl (cxOf CX0 P w K mg base ["self", f1] qual scope f cdv A outer s H E) bn) (hm : mg bn = some (.ref Cb)) (kb : BaseK K Cb) (ok : ExK K C [f1]) (hdb : (bn == ("__debug__" : Str)) = false)
    (vs : Vis scope "self") (v1 : Vis scope f1) (d1 : (f1 == ("__debug__" : Str)) = false) (c1 : (f1 == ("__classdict__" : Str)) = false)
    (hs1 : ∀ env, swapsWith (.Call (.Attribute (.Name bn p1) "__init__" p2) [.Name "self" p3, .Constant (.str t) tk p4] [] p5) none p6.line env = pure false)
    (hs2 : ∀ env, swapsWith (.Name f1 p9) (some (.Attribute (.Name "self" p7) f1 p8)) pa.line env = pure false) {pl : PySem.Env → Sem Bool}
    (hc : ∀ env, eval (.Call (.Attribute (.Name bn p1) "__init__" p2) [.Name "self" p3, .Constant (.str t) tk p4] [] p5) env = (do
      let o ← eval (.Name bn p1) env
      standAt p2.atName
      let (fn, fst) ← holding [o] (getMethod o "__init__" (pl env))
      callWith p5 fn fst (backTo p5 (starEach [.Name "self" p3, .Constant (.str t) tk p4] env)) (backToKw p5 (keywordEach [] env)))) :
    FnOk P w K mg base CX0 1 f (PySem.W.fnOf "__init__" qual params [.Expr (.Call (.Attribute (.Name bn p1) "__init__" p2) [.Name "self" p3, .Constant (.str t) tk p4] [] p5) p6, .Assign [.Attribute (.Name "self" p7) f1 p8] (.Name f1 p9) pa] scope dV kV doc pm an cdv ct) ["self", f1] (spX C [f1]) := by
  refine fn_of lk hcd sc (fun vs H Q E ⟨a, ys, e, hl, _⟩ => by rw [e]; show ys.length + 1 = 2; rw [hl]; rfl) fun A outer s H us Q E hr ⟨a, ys, e, hl, ea, hq⟩ => ?_
  subst e
  obtain ⟨y, rfl⟩ : ∃ y, ys = [y] := by
    match ys, hl with
    | [y], _ => exact ⟨y, rfl⟩
  have self : ∀ {p : Pos}, PE (cxOf CX0 P w K mg base ["self", f1] qual scope f cdv A outer s H E) (.Name "self" p) (tVar 0) := pe_var rfl vs
  refine ⟨_, pss_cons (ps_expr (pe_ownInit (hg _ _ _ _ _) hm kb (pa_cons self (pa_cons pe_str pa_nil)) hdb (hc _) rfl rfl) (hs1 _)) (pss_cons (ps_ost self (pe_var (i := 1) rfl v1 d1 c1) (hs2 _)) pss_nil), ?_⟩
  refine ⟨.ref a, rfl, a, C, [.str t], rfl, Nat.le_of_ble_eq_true rfl, ok.o, ea, ?_⟩
  refine ⟨y, rfl, .ref a, rfl, a, C, rfl, ok.o, ok.f f1 List.mem_cons_self, .inl ⟨ea, fun dx nd ne => ?_⟩⟩
  refine hq dx _ upd_same ?_ nd fun b h1 h2 => ?_
  · rw [upd_ne ne, upd_same]; rfl
  · rw [upd_ne h1, upd_ne h2]
theorem init2 (lk : K.lookup f = some ⟨oc, od, .func (PySem.W.fnOf "__init__" qual params [.Expr (.Call (.Attribute (.Name bn p1) "__init__" p2) [.Name "self" p3, .Constant (.str t) tk p4] [] p5) p6, .Assign [.Attribute (.Name "self" p7) f1 p8] (.Name f1 p9) pa,
      .Assign [.Attribute (.Name "self" pb) f2 pc] (.Name f2 pd) pa2] scope dV kV doc pm an cdv ct), osl⟩)
    (hcd : PySem.W.codeIn K cdv qual = true) (sc : FnScope ["self", f1, f2] ["self", f1, f2] scope) (hg : ∀ A outer s H E, Gl (cxOf CX0 P w K mg base ["self", f1, f2] qual scope f cdv A outer s H E) bn) (hm : mg bn = some (.ref Cb)) (kb : BaseK K Cb) (ok : ExK K C [f1, f2]) (hdb : (bn == ("__debug__" : Str)) = false)
    (vs : Vis scope "self") (v1 : Vis scope f1) (v2 : Vis scope f2) (d1 : (f1 == ("__debug__" : Str)) = false) (c1 : (f1 == ("__classdict__" : Str)) = false) (d2 : (f2 == ("__debug__" : Str)) = false) (c2 : (f2 == ("__classdict__" : Str)) = false)
    (hs1 : ∀ env, swapsWith (.Call (.Attribute (.Name bn p1) "__init__" p2) [.Name "self" p3, .Constant (.str t) tk p4] [] p5) none p6.line env = pure false)
    (hs2 : ∀ env, swapsWith (.Name f1 p9) (some (.Attribute (.Name "self" p7) f1 p8)) pa.line env = pure false)
    (hs3 : ∀ env, swapsWith (.Name f2 pd) (some (.Attribute (.Name "self" pb) f2 pc)) pa2.line env = pure false) {pl : PySem.Env → Sem Bool}
    (hc : ∀ env, eval (.Call (.Attribute (.Name bn p1) "__init__" p2) [.Name "self" p3, .Constant (.str t) tk p4] [] p5) env = (do
      let o ← eval (.Name bn p1) env
      standAt p2.atName
      let (fn, fst) ← holding [o] (getMethod o "__init__" (pl env))
      callWith p5 fn fst (backTo p5 (starEach [.Name "self" p3, .Constant (.str t) tk p4] env)) (backToKw p5 (keywordEach [] env)))) :
    FnOk P w K mg base CX0 1 f (PySem.W.fnOf "__init__" qual params [.Expr (.Call (.Attribute (.Name bn p1) "__init__" p2) [.Name "self" p3, .Constant (.str t) tk p4] [] p5) p6, .Assign [.Attribute (.Name "self" p7) f1 p8] (.Name f1 p9) pa,
      .Assign [.Attribute (.Name "self" pb) f2 pc] (.Name f2 pd) pa2] scope dV kV doc pm an cdv ct) ["self", f1, f2] (spX C [f1, f2]) := by
  refine fn_of lk hcd sc (fun vs H Q E ⟨a, ys, e, hl, _⟩ => by rw [e]; show ys.length + 1 = 3; rw [hl]; rfl) fun A outer s H us Q E hr ⟨a, ys, e, hl, ea, hq⟩ => ?_
  subst e
  obtain ⟨y, z, rfl⟩ : ∃ y z, ys = [y, z] := by
    match ys, hl with
    | [y, z], _ => exact ⟨y, z, rfl⟩
  have self : ∀ {p : Pos}, PE (cxOf CX0 P w K mg base ["self", f1, f2] qual scope f cdv A outer s H E) (.Name "self" p) (tVar 0) := pe_var rfl vs
  refine ⟨_, pss_cons (ps_expr (pe_ownInit (hg _ _ _ _ _) hm kb (pa_cons self (pa_cons pe_str pa_nil)) hdb (hc _) rfl rfl) (hs1 _)) (pss_cons (ps_ost self (pe_var (i := 1) rfl v1 d1 c1) (hs2 _)) (pss_cons (ps_ost self (pe_var (i := 2) rfl v2 d2 c2) (hs3 _)) pss_nil)), ?_⟩
  refine ⟨.ref a, rfl, a, C, [.str t], rfl, Nat.le_of_ble_eq_true rfl, ok.o, ea, ?_⟩
  refine ⟨y, rfl, .ref a, rfl, a, C, rfl, ok.o, ok.f f1 List.mem_cons_self, .inl ⟨ea, fun dx nd ne => ?_⟩⟩
  refine ⟨z, rfl, .ref a, rfl, a, C, rfl, ok.o, ok.f f2 (List.mem_cons_of_mem _ List.mem_cons_self), .inr ⟨dx, [(f1, y)], upd_same, by rw [upd_ne ne, upd_same], Nat.le_of_ble_eq_true rfl, ?_⟩⟩
  refine hq dx _ ?_ upd_same nd fun b h1 h2 => ?_
  · rw [upd_ne (Ne.symm ne), upd_same]
  · rw [upd_ne h2, upd_ne h1, upd_ne h2]
end

section
variable {X : Cx} {x : Str} {e : Expr} {es : List Expr} {ta : TA} {p pos : Pos}
theorem I_new {pins : List (Addr × Obj)} {σ : L2.St} {H : Hp} {hp h9 : Heap} {gs : Array GenState} {dr : Drawn} {tk : Nat} {oss : OsState} {a C t : Addr} (J : L2.Inv X pins σ H ⟨hp, gs, dr, tk, oss⟩) (old : ∀ b o, hp.get? b = some o → h9.get? b = some o)
    (ha : hp.objs.size ≤ a) (own : h9.get? a = some (PySem.HandSPX.excO C t)) : L2.Inv X pins σ (upd H a (exo a C none)) ⟨h9, gs, dr, tk, oss⟩ :=
  Inv.laid (t' := tk) (o := exo a C none) J old ha (exo_ok own)
/-- C(e, ..), its context None -/
theorem pmk_init {CX : CXT} {C fI : Addr} {k : Nat} {fd : FuncData} {ps : List Str} {sp : Sp} {ds : List Value} {dvs : List V} (T : OexC X.K C) (iC : PySem.W.findIn X.K (.ref C) "__init__" = some (some (.ref fI))) (tI : PySem.W.typeIn X.K (.ref fI) = some (.type "function"))
    (F1 : FnOk X.prog X.w X.K X.mg X.base CX k fI fd ps sp) (hr : Room (k + 1) X.A) (hb : Binds X.K fd ps ds) (hd : Vals dvs ds) (hx : Passes CX X (fun _ _ _ => False)) (hg : Gl X x) (hm : X.mg x = some (.ref C)) (ha : PA X (e :: es) ta)
    (hdb : (x == ("__debug__" : Str)) = false) (he : starEach (e :: es) X.env = (false, eval e X.env) :: starEach es X.env) (hpl : (backTo pos (starEach es X.env)).any (·.1) = false) :
    L2N.PMk X (.Call (.Name x p) (e :: es) [] pos) (tMkO C sp dvs ta) := by
  intro pins s σ H Q I h
  obtain ⟨_, _, _, _, bm, _, _, _, _, _, _, _, _, _, _, clsAt, bases⟩ := T.cls
  have made : ∀ (us : List Value) (z : Shared), wpAny (model X.prog X.w) X.A (call (.ref C) us) (L2N.MkP X pins σ Q) X.xe z →
      wpAny (model X.prog X.w) X.A (call (.ref C) us) (L2N.MkP X pins σ Q) X.xe z := fun _ _ q => q
  refine wpAny_Call_Name_kw (ld_glob I hg hm (PySem.W.callWith_K (h₀ := X.base) I.ok.mod.kin T.kC (thn (ha.run pos pins s σ H _ I h) fun us z ⟨vs, G1, J1, rel, lenOk, wish⟩ => ⟨J1.kIn, made us z ?_⟩) he hpl) hdb)
  obtain ⟨hp, gs, dr, tk, oss⟩ := z
  have le1 : hp.objs.size ≤ hp.objs.size + 1 := by omega
  have wish1 := wish _ (J1.hok.fresh le1)
  have old : ∀ b o, hp.get? b = some o → ((hp.push (PySem.W.kdv_tup us)).push (PySem.HandSPX.excO C hp.objs.size)).get? b = some o :=
    fun b o q => Heap.get?_push_of_some _ (Heap.get?_push_of_some _ q)
  have own : ((hp.push (PySem.W.kdv_tup us)).push (PySem.HandSPX.excO C hp.objs.size)).get? (hp.objs.size + 1) = some (PySem.HandSPX.excO C hp.objs.size) := by
    heap_get
  have J2 := I_new J1 old le1 own
  have rels : Vals (V.ref (hp.objs.size + 1) :: (vs ++ dvs)) (Value.ref (hp.objs.size + 1) :: (us ++ ds)) := Paired.cons rfl (rel.append hd)
  have many : (Value.ref (hp.objs.size + 1) :: us ++ ds).length = ps.length := (rels.length.symm.trans (F1.len _ _ _ _ wish1))
  have few : us.length ≤ sizeLine := by
    have := Paired.length rel
    rw [sizeLine_eq]; omega
  have F2 := F1.run _ X.stack _ _ ⟨Value.ref (hp.objs.size + 1) :: us, []⟩ (Value.ref (hp.objs.size + 1) :: (us ++ ds)) _ _ (fun _ _ _ => False) (Room.make hr C us [])
    (Inv.env0 J2 |>.make C us []) (hb _ (Value.ref (hp.objs.size + 1) :: us) J2.kIn many) rels wish1
  refine wpAny_call (PySem.HandSPX.call_own F.excBase_ValueError (fun _ => PySem.HandSPX.refsVE_contains _ bm bases) (J1.kIn _ _ clsAt) (PySem.W.looks_findIn J1.kIn iC)
    (fun self => PySem.W.bind_fn J1.kIn self tI) few (codeAny_mono F2 fun r z2 out => ?_))
  cases r with
  | error ev => exact hx pins σ _ _ ev z2 J2 out
  | ok fl =>
    cases fl with
    | ret u =>
      obtain ⟨v, G2, p1, p2, p3, p4, rv, p5, d, fs, p6, p7, p8, p9⟩ := out
      subst p5
      obtain ⟨h2, g2, d2, t2, o2⟩ := z2
      obtain ⟨t0, G, J, kG, ge, at2, none2⟩ := mk_end0 (d2 := d2) (t2 := t2) J1 le1 old p3 p4 p1 p2 p6 p7 p8
      exact ⟨rv, _, _, _, ⟨G, g2, d2, t2, o2⟩, _, .ref C, some d, rfl, J, kG, ge, at2, ⟨rfl, rfl, fun _ e => by cases e; rfl⟩, rfl, rfl, none2, rfl, p2, raises_own T.exC T.tyC, p9⟩
    | _ => exact out.elim
end

/-! ### raise C(e, ..) -/
def sRaise (cls : Str) (ns : List Str) (wl : WA) : WS := fun PX env k => wl PX env fun ws env1 => inWs ws env1 fun os env2 => onSome (datas os) fun ds => Nat.beq ns.length ds.length = true ∧ PX ⟨cls, ns.reverse, ds.reverse⟩ env2
theorem zip_rev {α β : Type} : ∀ {xs : List α} {ys : List β}, xs.length = ys.length → (xs.zip ys).reverse = xs.reverse.zip ys.reverse
  | [], [], _ => rfl
  | x :: xs, y :: ys, h => by
    have h2 : xs.length = ys.length := Nat.succ.inj h
    rw [List.zip_cons_cons, List.reverse_cons, List.reverse_cons, List.reverse_cons, zip_rev h2, List.zip_append (by rw [List.length_reverse, List.length_reverse]; exact h2)]
    rfl
section
variable {X : Cx} {B : Bs} {Wx : WX} {e : Expr} {es : List Expr} {wl : WA} {p pos pos1 : Pos}
theorem z_raise {k : Nat} {cls : Str} {ns : List Str} {C : Addr} (hr : Room (k + 1) X.A) (hc : X.calm = true) (tk : L2N.Takes X Wx) (xc : ExcX X.prog X.w X.K X.mg X.base k C ns) (hn : PySem.W.nsIn X.K mainGlobals cls = some (some (.ref C))) (hg : Gl X cls) (hm : X.mg cls = some (.ref C))
    (hz : ns.length ≤ 1000) (ha : SndA X B Wx (e :: es) wl) (hdb : (cls == ("__debug__" : Str)) = false) (he : starEach (e :: es) X.env = (false, eval e X.env) :: starEach es X.env) (hpl : (backTo pos1 (starEach es X.env)).any (·.1) = false) :
    S1 X B Wx (.Raise (some (.Call (.Name cls p) (e :: es) [] pos1)) none pos) (sRaise cls ns wl) := by
  obtain ⟨fI, fd, ps, iC, tI, F1, hb⟩ := xc.fi
  refine PS_imp (L2N.ps_raise hc tk (pmk_init xc.ok.o iC tI F1 hr hb .nil pass0 hg hm ha hdb he hpl)) fun D σ H ⟨S, env, T, k2, PX, r, hw, hE, hX⟩ => ?_
  refine ⟨S, env, T, _, PX, r, hw, fun env1 Z S1 H1 q r1 => ?_, hX⟩
  obtain ⟨os, env2, S2, q, hl, r2, ow, _⟩ := intos_top r1 q
  obtain ⟨ds, hds, hlen, q5⟩ := onSome_some q
  have hlen : ns.length = ds.length := Nat.eq_of_beq_eq_true hlen
  have eos := datas_eq hds
  subst eos
  have ra := ow.data
  have hv : (Z.map (·.1)).length = ds.length := by rw [ow.length, List.length_map]
  generalize Z.map (·.1) = vs at ra hv r2 ow
  refine ⟨by omega, fun a na => ⟨a, vs, by rw [List.append_nil], by omega, upd_same, fun d H2 e1 e2 e3 e4 => ?_⟩⟩
  have da : d ≠ a := fun z => by rw [z, upd_same] at e3; cases e3
  have hd1 : H1 d = none := (upd_ne da).symm.trans e3
  refine ⟨rfl, d, _, e1, e2, hd1, ?_⟩
  have eh : upd (del H2 a) d (.xd (ns.zip vs).reverse) = upd H1 d (.xd (ns.zip vs).reverse) := by
    funext b
    by_cases hb : b = d
    · subst hb; rw [upd_same, upd_same]
    · rw [upd_ne hb, upd_ne hb]
      by_cases hba : b = a
      · subst hba; rw [del_same, na]
      · rw [del_ne hba, e4 b hba hb, upd_ne hba]
  rw [eh]
  have r3 : R X.K B S2 H1 σ env2 [] := r2.tmp (fun t ht => nomatch ht) fun b => Nat.zero_le _
  obtain ⟨kn, km, r4⟩ := r3.laysS (o := .xd (ns.zip vs).reverse) hd1
  refine hX ⟨cls, ns.reverse, ds.reverse⟩ env2 _ _ _ _ _ q5 r4 ⟨C, d, vs.reverse, rfl, rfl, .inr rfl, ?_, by show ns.reverse.length = vs.reverse.length; rw [List.length_reverse, List.length_reverse]; omega, hn, ⟨xc.ok.o, xc.ok.c, fun n hn => xc.ok.f n (List.mem_reverse.mp hn)⟩, ((ra.kp kn).kp km).reverse⟩
  show upd H1 d (.xd (ns.zip vs).reverse) d = some (.xd (ns.reverse.zip vs.reverse))
  rw [upd_same, zip_rev (by omega)]
end
end Vx
namespace Vx
open PySem PySem.Spec L2
theorem z0_nil {X : Cx} {B : Bs} {Wx : WX} : SS0 X B Wx [] sNil := ss0_of z_nil
theorem z0_cons {X : Cx} {B : Bs} {Wx : WX} {st : Stmt} {rest : List Stmt} {w u : WS} (h : S10 X B Wx st w) (h2 : SS0 X B Wx rest u) : SS0 X B Wx (st :: rest) (sCons w u) := ss0_cons (w := w) (u := u) h h2
theorem z0_if {X : Cx} {B : Bs} {Wx : WX} {c : Expr} {wc : WT} {pos : Pos} {xs ys : List Stmt} {wx wy : WS} (hc : Snd X B Wx c wc) (ha : SS0 X B Wx xs wx) (hb : SS0 X B Wx ys wy) : S10 X B Wx (.If c xs ys pos) (sIf wc wx wy) := s0_if hc ha hb
/-- what a table says of each class -/
theorem tbl_at {P : Str → Bool → Prop} : ∀ {tbl : List (Str × Bool)} {y : Str} {b : Bool}, (∀ p ∈ tbl, P p.1 p.2) → tbl.lookup y = some b → P y b
  | [], _, _, _, h => nomatch h
  | (z, c) :: tbl, y, b, q, h => by
    by_cases e : y = z
    · subst e
      rw [List.lookup_cons_self] at h
      cases h
      exact q _ List.mem_cons_self
    · have e2 : (y == z) = false := by simpa using e
      rw [List.lookup_cons, e2] at h
      exact tbl_at (fun p hp => q p (List.mem_cons_of_mem _ hp)) h
theorem cls_one {K : PySem.W.Frag} {y : Str} {C0 : Addr} {Q : Addr → Prop} (a : PySem.W.nsIn K mainGlobals y = some (some (.ref C0))) (h : Q C0) : ∀ C, PySem.W.nsIn K mainGlobals y = some (some (.ref C)) → Q C := fun C e => by
  rw [a] at e
  cases e
  exact h
def clsInit : Stmt → Stmt
  | .ClassDef (body := b) .. => b.getD 0 (.Pass ⟨0, 0, 0, 0⟩)
  | s => s
end Vx
namespace Vx
open PySem PySem.Spec L2

/-! ### a store at an index, as a target -/
section
variable {X : Cx} {B : Bs} {Wx : WX} {a b c e o : Expr} {wa wb wc we wo wi : WT} {pos : Pos} {es : List Expr} {wl : WA}
theorem gset {kr : Nat} (hrm : Room kr X.A) {S : Fz} {H : Hp} {σ : L2.St} {env : Env} {T : List (V × W)} {v : V} {x : O} {PX : Exn → Env → Prop} {Kx : Env → Prop} {Q : L2.St → Hp → Prop}
    (r : R X.K B S H σ env ((v, .o x) :: T)) (q : wo PX env fun t env3 => wi PX env3 fun n env4 => setW t n x env4 Kx) (hX : Lets X B Wx PX) (fin : ∀ env' S' H', Kx env' → R X.K B S' H' σ env' T → Q σ H') : gSub (tE X B Wx wo) (tE X B Wx wi) (fun o i v H Q => rSetL o i v H Q ∨ rSetD o i v H Q) v σ H Q := by
  have hu := hu_of hrm
  refine ⟨S, env, (v, .o x) :: T, _, PX, r, q, fun t env3 vt S3 H3 q r3 => ?_, hX⟩
  refine ⟨S3, env3, (vt, t) :: (v, .o x) :: T, _, PX, r3, q, fun n env4 vn S4 H4 q r4 => ?_, hX⟩
  have q9 : setW t n x env4 Kx := q
  clear q
  cases t with
  | o _ => exact q9.elim
  | al a i p =>
    unfold setW at q9
    cases ee : envAt env4 i p with
    | none => simp only [ee] at q9
    | some y =>
      simp only [ee] at q9
      cases y with
      | d _ => exact q9.elim
      | tup _ => exact q9.elim
      | obj b2 kd xs =>
        cases kd with
        | lst =>
          obtain ⟨hb, q8⟩ := q9
          subst hb
          have rr : R X.K B S4 H4 σ env4 ([(vn, n)] ++ ((vt, .al b2 i p) :: (v, .o x) :: T)) := r4
          obtain ⟨S5, r5, fu⟩ := rr.used
          obtain ⟨d, q7, ud⟩ := fu (vn, n) List.mem_cons_self _ q8
          cases d with
          | int m =>
            obtain ⟨j, hj, q6⟩ := onSome_some q7
            have ev : vn = .int m := ud.int
            have et : vt = .ref b2 := r4.tmps (vt, .al b2 i p) (List.mem_cons_of_mem _ List.mem_cons_self)
            have r6 : R X.K B S5 H4 σ env4 ((v, .o x) :: T) := r5.perm (fun t ht => List.mem_cons_of_mem _ (List.mem_cons_of_mem _ ht)) fun b => by
              show _ ≤ _ + (_ + _)
              omega
            obtain ⟨vs, hv, hl, _, rs, _⟩ := r6.setAt ee
            exact .inl ⟨b2, vs, m, j, et, ev, hv, by rw [hl]; exact hj, fin _ _ _ q6 (rs j (ixN_seq hj).2.1)⟩
          | _ => exact q7.elim
        | dct ks =>
          obtain ⟨hb, q8⟩ := q9
          subst hb
          have rr : R X.K B S4 H4 σ env4 ([(vn, n)] ++ ((vt, .al b2 i p) :: (v, .o x) :: T)) := r4
          obtain ⟨S5, r5, fu⟩ := rr.used
          obtain ⟨d, q7, ud⟩ := fu (vn, n) List.mem_cons_self _ q8
          obtain ⟨key, hk, hz, q6⟩ := onSome_some q7
          have ev : vn = kV key := keyOf_ud ud hk
          have et : vt = .ref b2 := r4.tmps (vt, .al b2 i p) (List.mem_cons_of_mem _ List.mem_cons_self)
          have r6 : R X.K B S5 H4 σ env4 ((v, .o x) :: T) := r5.perm (fun t ht => List.mem_cons_of_mem _ (List.mem_cons_of_mem _ ht)) fun b => by
            show _ ≤ _ + (_ + _)
            omega
          obtain ⟨vs, hv, hl, hf, rs, ra⟩ := r6.setAt ee
          have hzl : (ks.zip vs).length < sizeLine := by
            rw [List.length_zip]
            have : (1000000 : Nat) < sizeLine := by decide
            omega
          refine .inr ⟨b2, _, et, by rw [ev]; exact DPut.k hv hzl, ?_⟩
          unfold putK
          rw [any_ix hf.1]
          cases ej : keyIx ks key with
          | some j =>
            rw [ej] at q6
            rw [if_pos (by rfl), putK_ix hf.1 hf.2 ej]
            exact fin _ _ _ q6 (rs j (by rw [← hl, ← hf.1]; exact (keyIx_lt ej).1))
          | none =>
            rw [ej] at q6
            rw [if_neg (by decide), show ks.zip vs ++ [(key, v)] = (ks ++ [key]).zip (vs ++ [v]) by rw [List.zip_append hf.1]; rfl]
            refine fin _ _ _ q6 (ra (.dct (ks ++ [key])) ⟨by rw [List.length_append, hf.1]; rfl, ?_⟩)
            exact List.nodup_append.mpr ⟨hf.2, by simp, fun a ha b hb => by rw [List.mem_singleton.mp hb]; exact fun z => keyIx_none ej (by rw [← z]; exact ha)⟩

/-! ### o1[i1], o2[i2] = x, y -/
def sSwap (wt wo wi wo2 wi2 : WT) : WS := fun PX env k => wt PX env fun w env1 => match w with
  | .o (.d (.tuple [x, y])) => wo PX env1 fun t env2 => wi PX env2 fun n env3 => setW t n (.d x) env3 fun env4 => wo2 PX env4 fun t2 env5 => wi2 PX env5 fun n2 env6 => setW t2 n2 (.d y) env6 k.nx
  | _ => False
theorem z_swap {kr kt : Nat} {o2 b2 : Expr} {wo2 wi2 : WT} {p2 p3 pt : Pos} (hrm : Room kr X.A) (hc : X.calm = true) (he : PV X B Wx e we) (ho : PV X B Wx o wo) (hi : PV X B Wx b wi) (ho2 : PV X B Wx o2 wo2) (hi2 : PV X B Wx b2 wi2)
    (ha : ∀ v, assign (.Subscript o b p2) X.env v = (do
      let ov ← holding [v] (eval o X.env)
      let iv ← holding [v, ov] (eval b X.env)
      standAt p2
      holding [v, ov, iv] (setItem ov iv v)
      release [v, ov, iv] []))
    (ha2 : ∀ v, assign (.Subscript o2 b2 p3) X.env v = (do
      let ov ← holding [v] (eval o2 X.env)
      let iv ← holding [v, ov] (eval b2 X.env)
      standAt p3
      holding [v, ov, iv] (setItem ov iv v)
      release [v, ov, iv] []))
    (hs1 : (assignEach [.Subscript o b p2, .Subscript o2 b2 p3] X.env).map (·.2) = assign (.Subscript o b p2) X.env :: (assignEach [.Subscript o2 b2 p3] X.env).map (·.2)) (hs2 : (assignEach [.Subscript o2 b2 p3] X.env).map (·.2) = assign (.Subscript o2 b2 p3) X.env :: (assignEach [] X.env).map (·.2))
    (hn : (assignEach [.Subscript o b p2, .Subscript o2 b2 p3] X.env).length = 2) (hst : (assignEach [.Subscript o b p2, .Subscript o2 b2 p3] X.env).findIdx? (·.1) = none)
    (hs : swapsWithSole [.Tuple [.Subscript o b p2, .Subscript o2 b2 p3] kt pt] e pos.line X.env = pure false) (hw : swappedStores [.Tuple [.Subscript o b p2, .Subscript o2 b2 p3] kt pt] e X.env = pure none)
    (h1 : (assignEach [.Tuple [.Subscript o b p2, .Subscript o2 b2 p3] kt pt] X.env).map (·.2) = [assign (.Tuple [.Subscript o b p2, .Subscript o2 b2 p3] kt pt) X.env]) :
    S1 X B Wx (.Assign [.Tuple [.Subscript o b p2, .Subscript o2 b2 p3] kt pt] e pos) (sSwap we wo wi wo2 wi2) := by
  have hu := hu_of hrm
  refine PS_imp (ps_asg he (pg_tup hc (pgs_cons (pg_sub ho hi (PSet.or set_list (set_dict hu)) ha) (pgs_cons (pg_sub ho2 hi2 (PSet.or set_list (set_dict hu)) ha2) pgs_nil hs2) hs1) hn hst) hs hw h1) fun D σ H ⟨S, env, T, k, PX, r, hq, hE, hX⟩ => ?_
  refine ⟨S, env, T, _, PX, r, hq, fun w env1 v S1 H1 q r1 => ?_, hX⟩
  cases w with
  | al _ _ _ => exact q.elim
  | o w =>
    cases w with
    | obj _ _ _ => exact q.elim
    | tup _ => exact q.elim
    | d w =>
      cases w with
      | tuple ds =>
        match ds, q, r1 with
        | [x, y], q, r1 =>
          have ow : OwnR X.K S1 H1 v (.d (.tuple [x, y])) := r1.tmps (v, .o (.d (.tuple [x, y]))) List.mem_cons_self
          cases ow with
          | d rp =>
            cases rp with
            | @tup a xs _ hsq ra =>
              cases ra with
              | @cons vx _ _ _ rx ra =>
                cases ra with
                | @cons vy _ _ _ ry ra =>
                  cases ra
                  refine ⟨a, _, rfl, hsq, rfl, vx, [vy], rfl, ?_⟩
                  have r2 : R X.K B S1 H1 σ env1 ((vx, .o (.d x)) :: (vy, .o (.d y)) :: T) := (r1.pop.push ry).push rx
                  refine gset hrm r2 q hX fun env2 S2 H2 q2 r2 => ?_
                  refine ⟨vy, [], rfl, ?_⟩
                  refine gset hrm r2 q2 hX fun env3 S3 H3 q3 r3 => ?_
                  exact ⟨rfl, hE.nx _ _ _ _ q3 r3⟩
        | [], q, _ => exact q.elim
        | [_], q, _ => exact q.elim
        | _ :: _ :: _ :: _, q, _ => exact q.elim
      | _ => exact q.elim
end
end Vx
namespace Vx
open PySem PySem.Spec L2

/-! ### what a body tells, or raises -/
abbrev Oc := Sum D Exn
def Out (r : Oc) (PX : Exn → Env → Prop) (k : Kt) : Prop := match r with
  | .inl v => ∀ e, k.rt (.o (.d v)) e
  | .inr ex => ∀ e, PX ex e
def RtX (u : WS) (env : Env) (r : Oc) : Prop := ∀ (PX : Exn → Env → Prop) (k : Kt), Out r PX k → u PX env k
def RtFX (F : FSem) (vs : List D) (r : Oc) : Prop := ∀ (P : O → List O → Prop) (PX : Exn → List O → Prop), (match r with
  | .inl v => P (.d v) (vs.map .d)
  | .inr ex => PX ex (vs.map .d)) → F (vs.map .d) P PX
theorem RtX.to {u : WS} {env : Env} {r s : Oc} (h : RtX u env r) (e : r = s) : RtX u env s := by subst e; exact h
theorem RtFX.to {F : FSem} {vs : List D} {r s : Oc} (h : RtFX F vs r) (e : r = s) : RtFX F vs s := by subst e; exact h
theorem rtFX {u : WS} {n : Nat} {vs : List D} {r : Oc} (h : RtX u (start n (vs.map .d)) r) : RtFX (semW u n) vs r := fun P PX q => h _ _ (by
  cases r with
  | inl v => exact fun e => backsW_d q
  | inr ex => exact fun e => backsW_d q)
/-- a def that always tells -/
theorem RtFX.rt {F : FSem} {vs : List D} {v : D} (h : RtFX F vs (.inl v)) : RtF F vs v := fun P PX q => h P PX q
section
variable {w wa wb wc we : WT} {wl : WA} {env : Env} {x y z v : D} {ds vs : List D} {p q : Bool} {i j : Nat} {u ux uy : WS} {r s : Oc}
theorem x_ret (h : Ev we env v) : RtX (sCons (sRet we) u) env (.inl v) := fun PX k q => h _ _ (q _)
theorem x_raise {cls : Str} {ns : List Str} (h : EvA wl env ds) (hl : Nat.beq ns.length ds.length = true) : RtX (sCons (sRaise cls ns wl) u) env (.inr ⟨cls, ns.reverse, ds.reverse⟩) := fun PX k q => h _ _ (inWs_d (onSome_mk (datas_map ds) ⟨hl, q _⟩))
theorem x_if (hc : Ev wc env (.bool p)) (ha : p = true → RtX ux env r) (hb : p = false → RtX u env s) : RtX (sCons (sIf wc ux sNil) u) env (if p = true then r else s) := fun PX k h => by
  refine hc _ _ ?_
  show if p = true then _ else _
  cases p with
  | true => rw [if_pos rfl] at h ⊢; exact ha rfl _ _ h
  | false => rw [if_neg (by decide)] at h ⊢; exact hb rfl _ _ h
theorem x_asg (h : Ev we env x) (hi : i < env.length) (hu : RtX u (env.set i (some (.d x))) r) : RtX (sCons (sAsg (.v i) we) u) env r := fun PX k q => h _ _ ⟨hi, hu _ _ q⟩
theorem x_asgL (h : EvL we env ds) (hi : i < env.length) (hu : ∀ a, RtX u (env.set i (some (.lst a (ds.map .d)))) r) : RtX (sCons (sAsg (.v i) we) u) env r := fun PX k q => h _ _ fun a => ⟨hi, hu a _ _ q⟩
theorem x_asg2 (h : Ev we env (.tuple [x, y])) (hi : i < env.length) (hj : j < env.length) (hu : RtX u ((env.set i (some (.d x))).set j (some (.d y))) r) : RtX (sCons (sAsg (.tup [i, j]) we) u) env r := fun PX k q => h _ _ ⟨hi, by rw [List.length_set]; exact hj, hu _ _ q⟩
theorem r_asg2 (h : Ev we env (.tuple [x, y])) (hi : i < env.length) (hj : j < env.length) (hu : Rt u ((env.set i (some (.d x))).set j (some (.d y))) v) : Rt (sCons (sAsg (.tup [i, j]) we) u) env v := fun PX k q => h _ _ ⟨hi, by rw [List.length_set]; exact hj, hu _ _ q⟩
/-! loops that end at the first thing of some kind -/
def BodyX (wb : WS) (e : Env) (I : Env → Prop) (q : Bool) (r : Oc) : Prop := ∀ (PX : Exn → Env → Prop) (k : Kt), (q = true → ∀ e', I e' → k.nx e') → (q = false → Out r PX k) → wb PX e k
theorem bx_nil {I : Env → Prop} (h : I env) : BodyX sNil env I true r := fun PX k h1 _ => h1 rfl env h
theorem bx_if {I : Env → Prop} (hc : Ev wc env (.bool p)) (ha : p = true → RtX ux env r) (hb : p = false → BodyX u env I q r) : BodyX (sCons (sIf wc ux sNil) u) env I (!p && q) r := fun PX k h1 h2 => by
  refine hc _ _ ?_
  show if p = true then _ else _
  cases p with
  | true =>
    rw [if_pos rfl]
    exact ha rfl _ _ (h2 rfl)
  | false =>
    rw [if_neg (by decide)]
    exact hb rfl _ _ (fun hq => h1 (by rw [hq]; rfl)) fun hq => h2 (by rw [hq]; rfl)
theorem bx_asg {I : Env → Prop} (h : Ev we env x) (hi : i < env.length) (hu : BodyX u (env.set i (some (.d x))) I q r) : BodyX (sCons (sAsg (.v i) we) u) env I q r := fun PX k h1 h2 => h _ _ ⟨hi, hu _ _ h1 h2⟩
theorem bx_asgL {I : Env → Prop} (h : EvL we env ds) (hi : i < env.length) (hu : ∀ a, BodyX u (env.set i (some (.lst a (ds.map .d)))) I q r) : BodyX (sCons (sAsg (.v i) we) u) env I q r := fun PX k h1 h2 => h _ _ fun a => ⟨hi, hu a _ _ h1 h2⟩
theorem x_for {wi : WI} {wb : WS} {g : D → Bool} {r0 : D → Oc} (I : Env → Prop) (hs : EvS wi env ⟨ds, none⟩) (h0 : I env) (hi : ∀ e, I e → i < e.length) (hb : ∀ x ∈ ds, ∀ e, I e → BodyX wb (e.set i (some (.d x))) I (g x) (r0 x)) (hu : ∀ e, I e → RtX u e r) :
    RtX (sCons (sFor (.v i) wi wb) u) env (match ds.find? (fun x => !g x) with | some x => r0 x | none => r) := fun PX k h => by
  refine hs _ _ ?_
  show goFor _ _ ds env _
  have key : ∀ (l : List D) (e : Env), (∀ x ∈ l, x ∈ ds) → I e → Out (match l.find? (fun x => !g x) with | some x => r0 x | none => r) PX k → goFor ⟨ds, none⟩ (forStep (.v i) wb PX { k with nx := fun env1 => u PX env1 k }) l e fun env1 => u PX env1 k := by
    intro l
    induction l with
    | nil => exact fun e _ he h => hu e he _ _ h
    | cons x l ih =>
      intro e hm he h
      show forStep _ _ _ _ _ _ _
      refine ⟨hi e he, ?_⟩
      rw [List.find?_cons] at h
      refine hb x (hm x List.mem_cons_self) e he _ _ (fun hg e' he' => ⟨trivial, ?_⟩) fun hg => ?_
      · rw [hg] at h
        exact ih e' (fun z hz => hm z (List.mem_cons_of_mem _ hz)) he' h
      · rw [hg] at h
        have h : Out (r0 x) PX k := h
        cases e0 : r0 x with
        | inl v => rw [e0] at h; exact h
        | inr ex => rw [e0] at h; exact h
  exact key ds env (fun _ h => h) h0 h
theorem BodyX.to {wb : WS} {I : Env → Prop} {q2 : Bool} (h : BodyX wb env I q r) (e : q = q2) : BodyX wb env I q2 r := by subst e; exact h
theorem v_own {a : Addr} {xs : List O} {PX : Exn → Env → Prop} {P : W → Env → Prop} (h : env[i]? = some (some (.lst a xs))) (q : P (.al a i []) env) : wVar i PX env P := by
  unfold wVar
  simp only [h]
  exact q
theorem v_d {PX : Exn → Env → Prop} {P : W → Env → Prop} (h : env[i]? = some (some (.d x))) (q : P (.o (.d x)) env) : wVar i PX env P := e_var h PX P q
/-! a comprehension over an own list of data that is read by its name -/
theorem e_compO {we : WT} {f : D → D} {a : Addr} (hj : env[j]? = some (some (.lst a (ds.map .d)))) (hij : j ≠ i) (hp : plainAt env i) (hi : i < env.length) (hl : ds.length ≤ 1000000)
    (he : ∀ x ∈ ds, Ev we (env.set i (some (.d x))) (f x)) : EvL (wComp (iE (wVar j)) [i] (.v i) cAll we) env (ds.map f) := fun PX P q => by
  have e0 : envAt env j [] = some (.lst a (ds.map .d)) := by unfold envAt; simp only [hj]; rfl
  have e1 : envAt (void [i] env) j [] = some (.lst a (ds.map .d)) := by
    unfold envAt
    show (match (env.set i none)[j]? with | some (some o) => O.at [] o | _ => none) = _
    rw [List.getElem?_set_ne (Ne.symm hij), hj]
    rfl
  unfold wComp iE
  refine v_own hj ?_
  unfold srcW
  simp only [e0]
  refine ⟨trivial, onSome_mk (datas_map ds) ⟨plain1 hp, fun c => ?_⟩⟩
  refine goComp_map (s := ⟨ds, some (a, j, [])⟩) (fun x => .d (f x)) hl e1 (fun x hx acc K h1 h2 => ?_) fun _ => ?_
  · have hv : Nat.blt i (void [i] (void [i] env)).length = true := by rw [void_length, void_length]; simpa [Nat.blt_eq] using hi
    refine stepC_v hv ?_
    have e : (void [i] (void [i] env)).set i (some (O.d x)) = env.set i (some (.d x)) := by show (List.set (List.set (List.set env i none) i none) i _) = _; rw [List.set_set, List.set_set]
    rw [e]
    have e2 : void [i] (env.set i (some (O.d x))) = void [i] env := by show List.set (List.set env i _) i none = List.set env i none; rw [List.set_set]
    exact he x hx _ _ ⟨h1, by rw [e2]; exact h2⟩
  · rw [restore_void1 hi, show (ds.map fun x => O.d (f x)) = (ds.map f).map .d by rw [List.map_map]; rfl]
    exact q c
theorem e_anyO {we : WT} {g : D → Bool} {a : Addr} (hj : env[j]? = some (some (.lst a (ds.map .d)))) (hij : j ≠ i) (hp : plainAt env i) (hi : i < env.length) (hl : ds.length ≤ 1000000)
    (he : ∀ x ∈ ds, Ev we (env.set i (some (.d x))) (.bool (g x))) : Ev (wPrim .any (aCons (wComp (iE (wVar j)) [i] (.v i) cAll we) aNil)) env (.bool (ds.any g)) := by
  have z := e_any (bs := ds.map g) (env := env) (wa := wComp (iE (wVar j)) [i] (.v i) cAll we) (by
    rw [List.map_map]
    exact (e_compO (f := fun x => .bool (g x)) hj hij hp hi hl he).u)
  rw [List.any_map] at z
  exact z
/-- (own, y) is told: the own list is given up -/
theorem r_retOwn {w2 : WT} {a : Addr} {xs : List D} (h : env[i]? = some (some (.lst a (xs.map .d)))) (h2 : Ev w2 env y) : Rt (sCons (sRet (wTup (aCons (wVar i) (aCons w2 aNil)))) u) env (.tuple [.list xs, y]) := fun PX k q => by
  unfold sCons sRet wTup aCons aNil
  refine v_own h (h2 _ _ ?_)
  have e0 : envAt env i [] = some (.lst a (xs.map .d)) := by unfold envAt; simp only [h]; rfl
  unfold inWs inW escW
  simp only [e0]
  refine ⟨trivial, ?_⟩
  show 2 ≤ sizeLine ∧ k.rt (.o (.d (.tuple [(O.lst a (xs.map .d)).toD, y]))) _
  rw [toD_lst]
  exact ⟨by decide, q _⟩
end
theorem nx_try {ms : Str → Option Bool} {wb ws u : WS} {i : Nat} {PX : Exn → Env → Prop} {env : Env} {k : Kt}
    (h : Nx wb (fun ex env1 => match ms ex.cls with
      | some true => Nat.blt i env1.length = true ∧ Nx ws (fun _ _ => False) (env1.set i (some (.d (exD ex.cls ex.ns ex.ds)))) ⟨fun e => Nx u PX (e.set i none) k, k.rt, fun e => k.bk (e.set i none), fun e => k.ct (e.set i none)⟩
      | some false => PX ex env1
      | none => False) env ⟨fun e => Nx u PX e k, k.rt, k.bk, k.ct⟩) : Nx (sCons (sTry ms wb i ws) u) PX env k := nx_in (by
  simp only [nx_eq, Nat.blt_eq] at h
  exact h)
/-! tests and fields of a caught exception -/
theorem e_isx {env : Env} {i : Nat} {tbl : List (Str × Bool)} {y : Str} {ns : List Str} {ds : List D} {b : Bool} (h : env[i]? = some (some (.d (exD y ns ds)))) (hb : tbl.lookup y = some b) : Ev (wIsx tbl (wVar i)) env (.bool b) := fun PX P q => by
  refine v_d h ?_
  exact onSome_mk (show exIs tbl (exD y ns ds) = some b from hb) q
theorem e_fld {env : Env} {i : Nat} {f : Str} {y : Str} {ns : List Str} {ds : List D} {d : D} (h : env[i]? = some (some (.d (exD y ns ds)))) (hd : (ns.zip ds).lookup f = some d) : Ev (wFld f (wVar i)) env d := fun PX P q => by
  refine v_d h ?_
  exact onSome_mk (show clsOf (exD y ns ds) = some y from rfl) (onSome_mk (show fieldOf (exD y ns ds) f = some d by
    show ((unS (ns.map PyData.str)).zip ds).lookup f = some d
    rw [unS_map]; exact hd) q)
end Vx
namespace Vx
open PySem PySem.Spec L2

/-! ### (own, y): the name's own object goes into the pair, the name is given up -/
def wTupM (wl : WA) : WT := fun PX env P => wl PX env fun ws env1 => match ws with
  | [.al a i [], y] => (match env1[i]? with
    | some (some (.obj b kd xs)) => b = a ∧ inW y (env1.set i none) fun o2 env2 => P (.o (.tup [.obj b kd xs, o2])) env2
    | _ => False)
  | _ => False
section
variable {K : PySem.W.Frag} {B : Bs} {S : Fz} {H : Hp} {σ : L2.St} {env : Env} {T : List (V × W)}
theorem R.sig {i : Nat} (r : R K B S H (σ.set i none) (env.set i none) T) : R K B S H σ (env.set i none) T := by
  refine ⟨by have := r.len; rw [List.length_set (as := σ)] at this; exact this, fun j o e => ?_, r.tmps, r.one, r.apart, r.sH, r.keep, r.dom, r.new, r.newS, r.sub⟩
  obtain ⟨v, e1, q⟩ := r.slots j o e
  by_cases h : i = j
  · subst h
    by_cases hl : i < env.length
    · rw [List.getElem?_set_self hl] at e; cases e
    · rw [List.getElem?_eq_none (by rw [List.length_set]; omega)] at e; cases e
  · rw [List.getElem?_set_ne h] at e1
    exact ⟨v, e1, q⟩
end
section
variable {X : Cx} {B : Bs} {Wx : WX} {es : List Expr} {wl : WA} {pos : Pos}
theorem c_tupM {k : Nat} (h : SndA X B Wx es wl) : PV X B Wx (.Tuple es k pos) (wTupM wl) := by
  refine PE_imp (pe_tup h) fun σ H Q ⟨S, env, T, P, PX, r, hw, hP, hX⟩ => ?_
  refine ⟨S, env, T, _, PX, r, hw, fun env1 Z S1 H1 hq r1 => ?_, hX⟩
  match Z, hq, r1 with
  | [(v1, .al a i []), (v2, y)], hq, r1 =>
    have hq : match env1[i]? with
      | some (some (.obj b kd xs)) => b = a ∧ inW y (env1.set i none) fun o2 env2 => P (.o (.tup [.obj b kd xs, o2])) env2
      | _ => False := hq
    cases e : env1[i]? with
    | none => simp only [e] at hq
    | some z =>
      simp only [e] at hq
      cases z with
      | none => exact hq.elim
      | some z =>
        cases z with
        | d _ => exact hq.elim
        | tup _ => exact hq.elim
        | obj b kd xs =>
          obtain ⟨hb, hq2⟩ := hq
          subst hb
          have r1 : R X.K B S1 H1 σ env1 ((v1, .al b i []) :: (v2, y) :: T) := r1
          have r2 : R X.K B S1 H1 σ (env1.set i none) ((v1, .o (.obj b kd xs)) :: (v2, y) :: T) := (r1.takeOut e).sig
          have r3 : R X.K B S1 H1 σ (env1.set i none) ((v2, y) :: (v1, .o (.obj b kd xs)) :: T) := r2.perm (fun t ht => by
            rcases List.mem_cons.mp ht with e | ht
            · subst e; exact List.mem_cons_of_mem _ List.mem_cons_self
            · rcases List.mem_cons.mp ht with e | ht
              · subst e; exact List.mem_cons_self
              · exact List.mem_cons_of_mem _ (List.mem_cons_of_mem _ ht)) fun c => by
            show cntW c y + (cntW c (.o (.obj b kd xs)) + cntT c T) ≤ cntW c (.o (.obj b kd xs)) + (cntW c y + cntT c T)
            omega
          obtain ⟨o2, env2, S2, q, r4⟩ := r3.into hq2
          have ow : OwnA X.K S2 H1 [v1, v2] [.obj b kd xs, o2] := .cons (r4.tmps (v1, .o (.obj b kd xs)) (List.mem_cons_of_mem _ List.mem_cons_self)) (.cons (r4.tmps (v2, .o o2) List.mem_cons_self) .nil)
          refine ⟨show 2 ≤ sizeLine by decide, fun p hp => ?_⟩
          have r5 : R X.K B S2 H1 σ env2 ([(v2, .o o2), (v1, .o (.obj b kd xs))] ++ T) := r4
          refine hP _ _ _ _ _ q (r5.newTup hp ow fun c => ?_)
          show (O.obj b kd xs).cnt c + (o2.cnt c + 0) ≤ o2.cnt c + ((O.obj b kd xs).cnt c + 0)
          omega
  | [], hq, _ => exact False.elim hq
  | [(_, .o _)], hq, _ => exact False.elim hq
  | [(_, .al _ _ [])], hq, _ => exact False.elim hq
  | [(_, .al _ _ (_ :: _))], hq, _ => exact False.elim hq
  | [(_, .o _), _], hq, _ => exact False.elim hq
  | [(_, .al _ _ (_ :: _)), _], hq, _ => exact False.elim hq
  | (_, .o _) :: _ :: _ :: _, hq, _ => exact False.elim hq
  | (_, .al _ _ []) :: _ :: _ :: _, hq, _ => exact False.elim hq
  | (_, .al _ _ (_ :: _)) :: _ :: _ :: _, hq, _ => exact False.elim hq
end
/-- its own list moved into the pair -/
theorem w_tupO {wb : WT} {PX : Exn → Env → Prop} {env : Env} {P : W → Env → Prop} {i : Nat} {a : Addr} {xs : List O} {y : D} (h : env[i]? = some (some (.lst a xs))) (hb : Ev wb env y) (q : P (.o (.tup [.lst a xs, .d y])) (env.set i none)) : wTupM (aCons (wVar i) (aCons wb aNil)) PX env P := by
  unfold wTupM aCons aNil
  refine v_own h (hb _ _ ?_)
  simp only [h]
  exact ⟨trivial, q⟩
def RtFT (F : FSem) (vs xs : List D) (y : D) : Prop := ∀ (P : O → List O → Prop) (PX : Exn → List O → Prop), (∀ a, P (.tup [.lst a (xs.map .d), .d y]) (vs.map .d)) → F (vs.map .d) P PX
theorem e_frzT {F : FSem} {n : Nat} {wl : WA} {env : Env} {vs xs : List D} {y : D} (ha : EvA wl env vs) (h : RtFT F vs xs y) (hn : vs.length = n) : Ev (wFrz (wCall (ar n F) wl)) env (.tuple [.list xs, y]) := fun PX P q =>
  ha _ _ (lendW_d ⟨by rw [lentAt_d]; rfl, by rw [List.length_map]; exact hn, h _ _ fun a => giveBackW_d (by
    show P (.o (.d (.tuple [(O.lst a (xs.map .d)).toD, y]))) env
    rw [toD_lst]; exact q)⟩)
end Vx
namespace Vx
open PySem PySem.Spec L2

/-! ### str of what is at hand: also None, lists and tuples -/
def shows (x : D) (P : D → Prop) : Prop := PyData.showable x = true ∧ x.hasDict = false ∧ x.shown.length ≤ sizeLine ∧ x.depth ≤ 64 ∧ P (.str x.shown)
def fStrD : DSem
  | [.int i], Q => i.natAbs.log2 < 1920 ∧ Q (.d (.str (PyData.shown (.int i))))
  | [.str x], Q => Q (.d (.str x))
  | [.bool b], Q => Q (.d (.str (if b then "True" else "False")))
  | [.none], Q => Q (.d (.str "None"))
  | [.list ds], Q => shows (.list ds) fun y => Q (.d y)
  | [.tuple ds], Q => shows (.tuple ds) fun y => Q (.d y)
  | _, _ => False
section
variable {X : Cx} {B : Bs} {Wx : WX}
theorem ok_strD {k : Nat} (hr : Room k X.A) (hg : X.A.guards = some []) : BltOk X (.type "str") fStrD := by
  intro pins s σ H vs us Q B S env T ds k I rv r ud q hQ
  have old := ok_str (X := X) pins s σ H vs us Q B S env T ds k I rv r ud
  cases ud with
  | nil => exact q.elim
  | cons u us' =>
    rename_i v d vs' ds'
    cases us' with
    | cons _ _ => cases d <;> exact q.elim
    | nil =>
      cases d with
      | int i => exact old q hQ
      | str x => exact old q hQ
      | bool b => exact old q hQ
      | none =>
        obtain ⟨u1, rfl, ru⟩ := vals1 rv
        have hd : Dp X.K H v .none := u.dp (by rfl)
        cases hd
        cases ru
        exact PySem.P.str_of_none ⟨.str _, _, I.tok _, ⟨_, rfl⟩, hQ _ _ _ _ q (r.push (.str _))⟩
      | dict _ => exact q.elim
      | list l =>
        obtain ⟨u1, rfl, ru⟩ := vals1 rv
        obtain ⟨hs, hd, hz, hdep, q⟩ := q
        have dp := u.dp hd
        obtain ⟨as, rd⟩ := Dp.reads I _ _ u1 dp ru
        have hu := hr.un
        cases dp with
        | lst f ra =>
          cases ru
          exact PySem.str_of_reads rd hs (PyData.noDict_hsm hd) hg (by omega) (fun _ _ e => e) (fun h' u tk hk => ⟨.str _, H, I.kept hk, ⟨_, rfl⟩, hQ _ _ _ _ q (r.push (.str _))⟩) hz
      | tuple l =>
        obtain ⟨u1, rfl, ru⟩ := vals1 rv
        obtain ⟨hs, hd, hz, hdep, q⟩ := q
        have dp := u.dp hd
        obtain ⟨as, rd⟩ := Dp.reads I _ _ u1 dp ru
        have hu := hr.un
        cases dp with
        | tup f ra =>
          cases ru
          exact PySem.str_of_reads rd hs (PyData.noDict_hsm hd) hg (by omega) (fun _ _ e => e) (fun h' u tk hk => ⟨.str _, H, I.kept hk, ⟨_, rfl⟩, hQ _ _ _ _ q (r.push (.str _))⟩) hz
end
end Vx
namespace Vx
open PySem PySem.Spec L2 HotX PyProof.Rows

/-! ### where an exception is handled: the ends of iterators -/
section
variable {prog : Program} {w : World} {A : Around} {E : Value → Shared → Prop} {s : Shared}
theorem hot_upd {h : Heap} {it x1 : Addr} {f : Obj → Obj} (hot : HotAt A x1 h) (nx : x1 ≠ it) : HotAt A x1 (h.update it f) := by
  obtain ⟨hh, o, vs, e, d, c⟩ := hot
  exact ⟨hh, o, vs, by rw [Heap.get?_update_other _ _ nx.symm]; exact e, d, c⟩
theorem hot_push {h : Heap} {x1 : Addr} {ob : Obj} (hot : HotAt A x1 h) : HotAt A x1 (h.push ob) := by
  obtain ⟨hh, o, vs, e, d, c⟩ := hot
  exact ⟨hh, o, vs, Heap.get?_push_of_some _ e, d, c⟩
theorem hot_in {h : Heap} {x1 : Addr} (hot : HotAt A x1 h) : HotAt A.in1 x1 h := hot
theorem hot_lt {h : Heap} {x1 : Addr} (hot : HotAt A x1 h) : x1 < h.objs.size := by
  obtain ⟨_, o, _, e, _⟩ := hot
  exact Heap.lt_size e
/-- a list's iterator at its end -/
theorem nextL_hot {it l x1 : Addr} {i : Nat} {items : Array Value} {Q : Option Value → Shared → Prop} (hot : HotAt A x1 s.heap) (nx : x1 ≠ it) (hit : s.heap.IsListIter it l i) (hl : s.heap.IsList l items) (hx : items[i]? = none)
    (hQ : ∀ h', Heap.ExtBut it s.heap h' → Q none { s with heap := h' }) : wpAny (model prog w) A (pyNext (.ref it)) Q E s := by
  obtain ⟨oi, getI, clsI, datI⟩ := id hit
  obtain ⟨ol, getL, _, nl, datL⟩ := hl
  unfold pyNext; refine wpAny_bind (wpAny_attempt (wpAny_callSpecial?_slot (name := Str.ofString "__next__") hit.typeIs slot_listiter_next (wpAny_call_entry slot_listiter_next hit.typeIs entry_listiter_next ?_ (args_listiter_next _))))
  show wpAny _ _ (field (.ref it) 0 >>= _) _ _ s; refine wpAny_bind (wpAny_field getI datI (x := .ref l) rfl ?_)
  show wpAny _ _ (ite ((Value.ref l == Value.none) = true) _ _) _ _ s; rw [if_neg (show ¬ ((Value.ref l == Value.none) = true) from fun z => Bool.false_ne_true z)]
  show wpAny _ _ (field (.ref it) 1 >>= _) _ _ s; refine wpAny_bind (wpAny_field getI datI (x := .int i 0) rfl ?_)
  show wpAny _ _ (seqItems? (.ref l) >>= _) _ _ s; refine wpAny_bind (wpAny_seqItems getL datL ?_)
  simp only [hx, Int.toNat_natCast]
  refine wpAny_bind (wpAny_rule (wpAny_bind (wpAny_setField getI datI (by simp) ?_)))
  show wpAny _ _ (newExc (.type "StopIteration") [] >>= _) _ _ _; refine wpAny_bind ?_; simp only [newTuple, newExc]
  refine wpAny_bind (wpAny_newObj_type ?_ (by size_fits)); refine wpAny_bind (m := firstArgMember _ _) (wpAny_of_eq (a := Value.none) (by first | rfl | (simp only [firstArgMember]; rfl)) ?_)
  refine wpAny_newObj_type ?_ (by size_fits)
  refine raiseNew_hot (hot_push (hot_push (hot_upd (hot_in hot) nx))) (Nat.ne_of_lt (hot_lt (hot_push (hot_upd (hot_in hot) nx)))) (Heap.get?_push_size _ rfl) rfl (by first | (simp; done) | (simp; omega)) ?_
  refine wpAny_bind (wpAny_isInstance (T := "StopIteration") (b := true) ⟨_, Heap.get?_update_self _ (Heap.get?_push_size _ rfl) rfl, rfl⟩ isSubtype_stop (wpAny_pure (hQ _ fun b o hb e => ?_)))
  have e1 : (s.heap.update it (Obj.mapFields (·.setIfInBounds 0 .none))).get? b = some o := by rw [Heap.get?_update_other _ _ (Ne.symm hb)]; exact e
  rw [Heap.get?_update_other _ _ (Nat.ne_of_gt (Heap.lt_size (Heap.get?_push_of_some _ e1)))]
  exact Heap.get?_push_of_some _ (Heap.get?_push_of_some _ e1)
/-- a tuple's iterator at its end -/
theorem nextT_hot {it l x1 : Addr} {i : Nat} {items : Array Value} {Q : Option Value → Shared → Prop} (hot : HotAt A x1 s.heap) (nx : x1 ≠ it) (hit : s.heap.IsTupleIter it l i) (hl : s.heap.IsTuple l items) (hx : items[i]? = none)
    (hQ : ∀ h', Heap.ExtBut it s.heap h' → Q none { s with heap := h' }) : wpAny (model prog w) A (pyNext (.ref it)) Q E s := by
  obtain ⟨oi, getI, clsI, datI⟩ := id hit
  obtain ⟨ol, getL, _, nl, datL⟩ := hl
  unfold pyNext; refine wpAny_bind (wpAny_attempt (wpAny_callSpecial?_slot (name := Str.ofString "__next__") hit.typeIs PySem.F.slot_tuple_iterator_next (wpAny_call_entry PySem.F.slot_tuple_iterator_next hit.typeIs PySem.F.entry_tuple_iterator_next ?_ (PySem.F.args_tuple_iterator_next_1 _))))
  show wpAny _ _ (field (.ref it) 0 >>= _) _ _ s; refine wpAny_bind (wpAny_field getI datI (x := .ref l) rfl ?_)
  show wpAny _ _ (ite ((Value.ref l == Value.none) = true) _ _) _ _ s; rw [if_neg (show ¬ ((Value.ref l == Value.none) = true) from fun z => Bool.false_ne_true z)]
  show wpAny _ _ (field (.ref it) 1 >>= _) _ _ s; refine wpAny_bind (wpAny_field getI datI (x := .int i 0) rfl ?_)
  show wpAny _ _ (seqItems? (.ref l) >>= _) _ _ s; refine wpAny_bind (wpAny_seqItems getL datL ?_)
  simp only [hx, Int.toNat_natCast]
  refine wpAny_bind (wpAny_rule (wpAny_bind (wpAny_setField getI datI (by simp) ?_)))
  show wpAny _ _ (newExc (.type "StopIteration") [] >>= _) _ _ _; refine wpAny_bind ?_; simp only [newTuple, newExc]
  refine wpAny_bind (wpAny_newObj_type ?_ (by size_fits)); refine wpAny_bind (m := firstArgMember _ _) (wpAny_of_eq (a := Value.none) (by first | rfl | (simp only [firstArgMember]; rfl)) ?_)
  refine wpAny_newObj_type ?_ (by size_fits)
  refine raiseNew_hot (hot_push (hot_push (hot_upd (hot_in hot) nx))) (Nat.ne_of_lt (hot_lt (hot_push (hot_upd (hot_in hot) nx)))) (Heap.get?_push_size _ rfl) rfl (by first | (simp; done) | (simp; omega)) ?_
  refine wpAny_bind (wpAny_isInstance (T := "StopIteration") (b := true) ⟨_, Heap.get?_update_self _ (Heap.get?_push_size _ rfl) rfl, rfl⟩ isSubtype_stop (wpAny_pure (hQ _ fun b o hb e => ?_)))
  have e1 : (s.heap.update it (Obj.mapFields (·.setIfInBounds 0 .none))).get? b = some o := by rw [Heap.get?_update_other _ _ (Ne.symm hb)]; exact e
  rw [Heap.get?_update_other _ _ (Nat.ne_of_gt (Heap.lt_size (Heap.get?_push_of_some _ e1)))]
  exact Heap.get?_push_of_some _ (Heap.get?_push_of_some _ e1)
/-- what a tuple holds, taken out -/
theorem itemsT_hot {t x1 : Addr} {items : Array Value} {Q : List Value → Shared → Prop} (hot : HotAt A x1 s.heap) (ht : s.heap.IsTuple t items)
    (hQ : ∀ h', Heap.ExtBut s.heap.objs.size s.heap h' → Q items.toList { s with heap := h' }) : wpAny (model prog w) A (unpackItems (.ref t) items.size none) Q E s := by
  have ne1 : t ≠ s.heap.objs.size := by
    obtain ⟨o, ho, _⟩ := ht
    exact Nat.ne_of_lt (Heap.lt_size ho)
  have ne2 : x1 ≠ s.heap.objs.size := Nat.ne_of_lt (hot_lt hot)
  unfold unpackItems notIterableAtAll; refine wpAny_bind (wpAny_bind (wpAny_specialOf ht.typeIs PySem.F.slot_tuple_iter.lookup (wpAny_pure ?_)))
  simp only [if_false, Bool.false_eq_true]; refine wpAny_bind (wpAny_holding (wpAny_pyIter_tuple ht ?_))
  refine wpAny_bind (wpAny_holding (wpAny_draw_tuple ne1 items.size 0 _ _ ⟨_, Heap.get?_push_size _ rfl, rfl, rfl⟩ (ht.push _) (by omega) fun h1 it1 sb1 => ?_))
  rw [show List.take items.size (List.drop 0 items.toList) = items.toList from by rw [List.drop_zero]; exact List.take_of_length_le (by simp), if_neg (by simp)]
  have hot1 : HotAt A x1 h1 := by
    obtain ⟨hh, o, vs, e, d, c⟩ := hot
    exact ⟨hh, o, vs, sb1.extBut _ _ ne2 (Heap.get?_push_of_some _ e), d, c⟩
  refine wpAny_bind (wpAny_holding (nextT_hot hot1 ne2 it1 ((ht.push _).extBut sb1.extBut ne1) (by simp) fun h2 eb => ?_))
  simp only [if_false, Bool.false_eq_true, Option.isSome_none]
  exact wpAny_pure (hQ h2 fun b o hb e => eb b o hb (sb1.extBut b o hb (Heap.get?_push_of_some _ e)))
end
end Vx
namespace Vx
open PySem PySem.Spec L2 HotX PyProof.Rows

/-! ### the exception that is handled stands in the abstract heap -/
def HotH (X : Cx) (H : Hp) : Prop := ∃ x1 C dx : Addr, X.A.handled = some (.ref x1) ∧ H x1 = some (exHO x1 C dx)
def HotB (X : Cx) (B : Bs) : Prop := ∃ x1 C dx : Addr, X.A.handled = some (.ref x1) ∧ B.H x1 = some (exHO x1 C dx) ∧ ¬ B.own x1
section
variable {X : Cx} {B : Bs} {S : Fz} {H : Hp} {σ : L2.St} {env : Env} {T : List (V × W)} {pins : List (Addr × Obj)} {s : Shared}
theorem HotB.heap (h : HotB X B) (r : R X.K B S H σ env T) : HotH X H := by
  obtain ⟨x1, C, dx, hh, e, n⟩ := h
  exact ⟨x1, C, dx, hh, r.keep _ _ e n⟩
theorem HotH.at (h : HotH X H) (I : L2.Inv X pins σ H s) : ∃ x1 C dx, H x1 = some (exHO x1 C dx) ∧ HotAt X.A x1 s.heap := by
  obtain ⟨x1, C, dx, hh, e⟩ := h
  have z : ObjOk X.prog X.w H s.heap x1 (.ext fun h => ∃ (oe : Obj) (vs : Array Value), h.get? x1 = some oe ∧ L2N.Zn (.ref C) (some dx) oe ∧ oe.data = .fields vs) := I.hok x1 _ e
  obtain ⟨oe, vs, ha, hz, hd⟩ := z.1
  exact ⟨x1, C, dx, e, hh, oe, vs, ha, hd, hz.2.2 vs hd⟩
end
section
variable {prog : Program} {w : World} {A : Around} {E : Value → Shared → Prop} {s : Shared}
/-- what a list holds, taken out -/
theorem itemsL_hot {t x1 : Addr} {items : Array Value} {Q : List Value → Shared → Prop} (hot : HotAt A x1 s.heap) (ht : s.heap.IsList t items)
    (hQ : ∀ h', Heap.ExtBut s.heap.objs.size s.heap h' → Q items.toList { s with heap := h' }) : wpAny (model prog w) A (unpackItems (.ref t) items.size none) Q E s := by
  have ne1 : t ≠ s.heap.objs.size := by
    obtain ⟨o, ho, _⟩ := ht
    exact Nat.ne_of_lt (Heap.lt_size ho)
  have ne2 : x1 ≠ s.heap.objs.size := Nat.ne_of_lt (hot_lt hot)
  unfold unpackItems notIterableAtAll; refine wpAny_bind (wpAny_bind (wpAny_specialOf ht.typeIs slot_list_iter.lookup (wpAny_pure ?_)))
  simp only [if_false, Bool.false_eq_true]; refine wpAny_bind (wpAny_holding (wpAny_pyIter_list ht ?_))
  refine wpAny_bind (wpAny_holding (PySem.W.kun_draw ne1 items.size 0 _ _ ⟨_, Heap.get?_push_size _ rfl, rfl, rfl⟩ (ht.push _) (by omega) fun h1 it1 sb1 => ?_))
  rw [show List.take items.size (List.drop 0 items.toList) = items.toList from by rw [List.drop_zero]; exact List.take_of_length_le (by simp), if_neg (by simp)]
  have hot1 : HotAt A x1 h1 := by
    obtain ⟨hh, o, vs, e, d, c⟩ := hot
    exact ⟨hh, o, vs, sb1.extBut _ _ ne2 (Heap.get?_push_of_some _ e), d, c⟩
  refine wpAny_bind (wpAny_holding (nextL_hot hot1 ne2 it1 ((ht.push _).extBut sb1.extBut ne1) (by simp) fun h2 eb => ?_))
  simp only [if_false, Bool.false_eq_true, Option.isSome_none]
  exact wpAny_pure (hQ h2 fun b o hb e => eb b o hb (sb1.extBut b o hb (Heap.get?_push_of_some _ e)))
end
section
variable {X : Cx} {pos : Pos} {es : List Expr} {k n : Nat} {t : TGs}
theorem pg_tupH (h : PGs X es t) (hn : (assignEach es X.env).length = n) (hst : (assignEach es X.env).findIdx? (·.1) = none) : PG X (.Tuple es k pos) (fun v σ H Q => HotH X H ∧ gTup X.K n t v σ H Q) := by
  refine ⟨fun pins s σ H v u Q I r ⟨hot, a, xs, ev, hq, hl, hw⟩ => ?_⟩
  subst ev; cases r
  obtain ⟨its, rv, ht, hz⟩ := I.tuple hq
  obtain ⟨x1, _, _, _, hot1⟩ := hot.at I
  have hsz : (assignEach es X.env).length = its.toArray.size := by simp [hn, ← hl, rv.length]
  rw [PyProof.Rows.assign_Tuple]; refine wpAny_bind (wpAny_standAt ?_); unfold unpack; rw [hsz, hst]
  refine wpAny_bind (wpAny_holding (itemsT_hot hot1 ht fun h' hx => ?_))
  exact h.run pins _ σ H xs _ Q (I.kept (t' := s.toks) fun b o e => hx b o (Nat.ne_of_lt (Heap.lt_size e)) e) (by simpa using rv) hw
theorem pg_unlH (h : PGs X es t) (hn : (assignEach es X.env).length = n) (hst : (assignEach es X.env).findIdx? (·.1) = none) : PG X (.Tuple es k pos) (fun v σ H Q => HotH X H ∧ gUnl X.K n t v σ H Q) := by
  refine ⟨fun pins s σ H v u Q I r ⟨hot, a, xs, ev, hq, hl, hw⟩ => ?_⟩
  subst ev; cases r
  obtain ⟨its, rv, ⟨o, m, ge, gc, _, gd⟩, hz⟩ := I.list hq
  obtain ⟨x1, _, _, _, hot1⟩ := hot.at I
  have hsz : (assignEach es X.env).length = its.toArray.size := hn.trans (hl.symm.trans (rv.length.trans (by simp)))
  rw [PyProof.Rows.assign_Tuple]; refine wpAny_bind (wpAny_standAt ?_); unfold unpack; rw [hsz, hst]
  refine wpAny_bind (wpAny_holding (itemsL_hot hot1 ⟨o, ge, gc, m, gd⟩ fun h' hx => ?_))
  exact h.run pins _ σ H xs _ Q (I.kept (t' := s.toks) fun b o e => hx b o (Nat.ne_of_lt (Heap.lt_size e)) e) (by simpa using rv) hw
end
section
variable {X : Cx} {B : Bs} {pos : Pos} {es : List Expr}
/-- a, b = .. where an exception is handled -/
theorem g_tpH {is : List Nat} {k n : Nat} (hot : HotB X B) (h : PGs X es (gNames is)) (hn : (assignEach es X.env).length = n) (hst : (assignEach es X.env).findIdx? (·.1) = none) (hl : is.length = n) : PG X (.Tuple es k pos) (gT X B (.tup is)) :=
  PG_imp (PG_or (pg_tupH h hn hst) (pg_unlH h hn hst)) fun v σ H Q q => by
    have hh : HotH X H := by
      obtain ⟨S, env, T, w, P, r, _⟩ := q
      exact hot.heap r
    exact (gT_tup hl q).elim (fun z => .inl ⟨hh, z⟩) fun z => .inr ⟨hh, z⟩
end
/-- len, whatever is handled -/
theorem prim_lenH {X : Cx} : PrimOk X .len := by
  intro pins s σ H vs us Q B S env T ds k I r rr u h hP
  have told : ∀ {v : V} {n : Nat}, us.length = us.length → vs = [v] → LenV X.K v H n → k (.d (.int n)) → wpAny (model X.prog X.w) X.A (call (primV .len) us) (EP X pins σ Q) X.xe s := fun {v n} _ e lv q =>
    call_len pins s σ H vs us Q I r ⟨v, n, e, lv, hP _ _ _ _ q (rr.push (.int _))⟩
  match ds, u, h with
  | [x], u, h =>
    obtain ⟨v, rfl, ux⟩ := u.one
    cases x with
    | list xs => exact told rfl rfl (lenV_of ux rfl) h
    | tuple xs => exact told rfl rfl (lenV_of ux rfl) h
    | str z => exact told rfl rfl (lenV_of ux ⟨h.1, rfl⟩) h.2
    | _ => exact h.elim
  | [], _, h => exact h.elim
  | x :: y :: z, _, h => cases x <;> exact h.elim
end Vx
namespace Vx
open PySem PySem.Spec L2 HotX PyProof.Rows

/-! ### [.. for .. in a list] where an exception is handled -/
/-- the list at a; behind the last one the exception that is handled is known -/
def JL (hd : Option Value) (K : PySem.W.Frag) (a : Addr) : It :=
  ⟨(Itl K a).go, (Itl K a).yld, fun i H => (Itl K a).stop i H ∧ ∃ x1 C dx : Addr, hd = some (.ref x1) ∧ H x1 = some (exHO x1 C dx)⟩
def wiL (X : Cx) (tl : TE) : TI := fun σ H Rk => tl σ H fun x H1 => ∃ a, x = .ref a ∧ (∃ xs, SqL X.K H1 a xs) ∧ Rk (JL X.A.handled X.K a) H1
section
variable {X : Cx} {pins : List (Addr × Obj)} {s : Shared} {σ : L2.St} {H : Hp} {a it : Addr} {i : Nat} {tg : Expr} {E : Value → Shared → Prop}
theorem itemL (I : L2.Inv X pins σ H s) (f : FpOk X pins H it) (st : s.heap.IsListIter it a i) (go : (JL X.A.handled X.K a).go i H) :
    wpAny (model X.prog X.w) X.A (pyNext (.ref it)) (fun r s1 => ∃ u, r = some u ∧
      wpAny (model X.prog X.w) X.A (letOwnedTupleGo tg (.ref it) u) (fun _ s2 => ∃ x, L2.Inv X pins σ H s2 ∧ RelV x u ∧ (JL X.A.handled X.K a).yld i H x H ∧ s2.heap.IsListIter it a (i + 1)) E s1) E s := by
  obtain ⟨ys, y, hl, hy⟩ := go
  obtain ⟨vs, rv, p, _⟩ := I.list hl
  obtain ⟨v, hv, r⟩ := rv.get hy
  obtain ⟨g0, g1, g2, g3, g4, g5⟩ := f
  refine wpAny_pyNext_list_item st p.isList (x := v) (by simpa using hv) fun h' st' sb => ?_
  have I' : L2.Inv X pins σ H { s with heap := h' } := I.turned (t' := s.toks) (fun b o hb e => (sb.2 b hb).trans e) g0 g1 g3 g4 g5
  obtain ⟨ob, eb, cb, db⟩ := id st'
  exact ⟨v, rfl, go_of (s := { s with heap := h' }) eb cb db (by decide) ⟨y, I', r, ⟨rfl, fun zs hz => by rw [I.list_inj hz hl]; exact hy⟩, st'⟩⟩
theorem doneL (I : L2.Inv X pins σ H s) (f : FpOk X pins H it) (st : s.heap.IsListIter it a i) (stop : (JL X.A.handled X.K a).stop i H) :
    wpAny (model X.prog X.w) X.A (pyNext (.ref it)) (fun r s1 => r = none ∧ L2.Inv X pins σ H s1) E s := by
  obtain ⟨⟨ys, hl, hy⟩, x1, C, dx, hh, e1⟩ := stop
  obtain ⟨vs, rv, p, _⟩ := I.list hl
  obtain ⟨g0, g1, g2, g3, g4, g5⟩ := f
  obtain ⟨x2, C2, d2, e2, hot⟩ := HotH.at ⟨x1, C, dx, hh, e1⟩ I
  have ne : x2 ≠ it := fun z => by rw [z, g0] at e2; cases e2
  have ln := rv.length
  exact nextL_hot hot ne st p.isList (by simp; omega) fun h' eb => ⟨rfl, I.turned (t' := s.toks) (fun b o hb e => eb b o hb e) g0 g1 g3 g4 g5⟩
end
section
variable {X : Cx}
theorem lcL_core {pins : List (Addr × Obj)} {s : Shared} {σ : L2.St} {H : Hp} {Q : VK} {elt tg iter : Expr} {ifs : List Expr} {scope : Scope} {own : List (Str × Nat)} {pos p2 : Pos} {tl : TE} {g : TG} {tt : TT} {te : TE} {use : Option (Value → Sem Unit)} {Qf : Value → Shared → Prop}
    (nd : X.N.Nodup) (I : L2.Inv X pins σ H s) (hl : PE X iter tl) (ok : BlkOk X.N X.env.scope scope own)
    (hb : ∀ (s : Shared) (H : Hp) (C : Addr) (cl : List (Str × Addr)) (fp : List Addr), PG (X.blk s H scope (compEnvC scope cl C X.env) fp) tg g ∧ PTs (X.blk s H scope (compEnvC scope cl C X.env) fp) ifs tt ∧ PE (X.blk s H scope (compEnvC scope cl C X.env) fp) elt te)
    (hs : ∀ x, foldedSetIterable iter X.env x = pure x) (h : tLc (wiL X tl) g tt te (own.map (·.2)) σ H Q)
    (fin : ∀ D C s' m H', L2.Inv X pins σ H' s' → Q (.ref D) H' → s'.heap.Ns C m → FpOk X pins H' C → compPost (model X.prog X.w) X.A X.xe use Qf (.ref D) C (.ok .next) s') :
    wpAny (model X.prog X.w) X.A (comprehension (.ListComp elt [⟨tg, iter, ifs, 0⟩] scope pos) scope X.env p2 (newList []) false (eval iter X.env) use) Qf X.xe s := by
  have frees : ∀ y ∈ scope.names, y.2 = .free → ∃ c, X.env.cells.lookup y.1 = some c := fun y hy e => (ok.free y hy e).elim (fun k => I.ok.has _ (.inl k)) fun k => I.ok.has _ (.inr k)
  refine wpAny_comprehension_free (use := use) rfl hs (closure_ok frees) ok.kind (fun y hy e => by rw [ok.uniq y hy, e]) (thn (hl.run pins s σ H _ I h) fun xv s1 ⟨x, H2, I1, rx, a, ex, ⟨xs, hq⟩, q⟩ => ?_)
  subst ex; cases rx
  obtain ⟨its, rv, pl, _⟩ := I1.list hq
  refine wpAny_pyIter_list pl.isList ?_
  -- the iterator
  generalize hit : s1.heap.objs.size = it
  generalize hs2 : ({ s1 with heap := s1.heap.push { cls := .type "list_iterator", data := .fields #[.ref a, .int 0 0] } } : Shared) = s2
  have e2 : s2.heap = s1.heap.push { cls := .type "list_iterator", data := .fields #[.ref a, .int 0 0] } := by rw [← hs2]
  have I2 : L2.Inv X pins σ H2 s2 := by rw [← hs2]; exact I1.kept (t' := s1.toks) fun b o e => Heap.get?_push_of_some _ e
  have f2 : FpOk X pins H2 it := I1.fpOk (Nat.le_of_eq hit) (I1.hok.fresh (Nat.le_of_eq hit))
  have st2 : s2.heap.IsListIter it a 0 := by rw [e2, ← hit]; exact ⟨_, Heap.get?_push_size _ rfl, rfl, rfl⟩
  refine wpAny_newObj_type (newEnv_comp ?_) (by show 0 ≤ sizeLine; decide)
  -- the list that is made
  generalize hD : s2.heap.objs.size = D
  obtain ⟨W, ⟨m0, w0⟩, turn⟩ := q D (I2.hok.fresh (Nat.le_of_eq hD))
  generalize hs3 : ({ s2 with heap := s2.heap.push { cls := .type "list", data := .seq ([] : List Value).toArray } } : Shared) = s3
  have e3 : s3.heap = s2.heap.push { cls := .type "list", data := .seq ([] : List Value).toArray } := by rw [← hs3]
  have I3 : L2.Inv X pins σ (upd H2 D (.lst [])) s3 := by
    rw [← hs3]
    exact I2.laid (t' := s2.toks) (fun b o e => Heap.get?_push_of_some _ e) (Nat.le_of_eq hD) ⟨Nat.zero_le _, [], 0, .nil, by rw [← hD]; exact Heap.get?_push_size _ rfl⟩
  have lt2 : it < s2.heap.objs.size := by rw [e2, Heap.size_push, ← hit]; exact Nat.lt_succ_self _
  have f3 : FpOk X pins (upd H2 D (.lst [])) it := ⟨by rw [upd_ne (by rw [← hD]; exact Nat.ne_of_lt lt2)]; exact f2.1, f2.2⟩
  have lt3 : it < s3.heap.objs.size := by rw [e3, Heap.size_push]; exact Nat.lt_succ_of_lt lt2
  have st3 : s3.heap.IsListIter it a 0 := st2.at fun o e => by rw [e3]; exact Heap.get?_push_of_some _ e
  have I4 := block_start I3 ok nd (fp := [it]) fun b hb => by rw [List.mem_singleton.mp hb]; exact ⟨f3, lt3⟩
  obtain ⟨pg, pt, pe⟩ := hb s3 (upd H2 D (.lst [])) s3.heap.objs.size (cellsFrom (s3.heap.objs.size + 1) scope.names (cloFrom X.env.cells scope.names [])) [it]
  show codeAny _ _ (.compStart (.ListComp elt [⟨tg, iter, ifs, 0⟩] scope pos) 0 (.ref it) (.ref D) (compEnvC scope (cellsFrom (s3.heap.objs.size + 1) scope.names (cloFrom X.env.cells scope.names [])) s3.heap.objs.size X.env)) (compPost (model X.prog X.w) X.A X.xe use Qf (.ref D) s3.heap.objs.size) { s3 with heap := pushCells (s3.heap.push { cls := .type "dict", data := .dict #[] }) scope.names }
  generalize hce : compEnvC scope (cellsFrom (s3.heap.objs.size + 1) scope.names (cloFrom X.env.cells scope.names [])) s3.heap.objs.size X.env = ce at I4 pg pt pe ⊢
  have cL : ce.locals = s3.heap.objs.size := by subst hce; rfl
  generalize hH3 : upd H2 D (.lst []) = H3 at I3 I4 pg pt pe w0 f3
  generalize hs4 : ({ s3 with heap := pushCells (s3.heap.push { cls := .type "dict", data := .dict #[] }) scope.names } : Shared) = s4 at I4 ⊢
  have st4 : s4.heap.IsListIter it a 0 := st3.at fun o e => by rw [← hs4]; exact pushCells_keeps _ _ _ _ (Heap.get?_push_of_some _ e)
  have away : ∀ {σ' : L2.St} {H' : Hp} {s' : Shared}, L2.Inv (X.blk s3 H3 scope ce [it]) [] σ' H' s' → H' it = none → FpOk (X.blk s3 H3 scope ce [it]) [] H' it := fun {σ' H' s'} J z =>
    ⟨z, (J.ok.exf it List.mem_cons_self).1, J.ok.exfs it List.mem_cons_self, .inl List.mem_cons_self, fun x c e => (J.ok.exf it List.mem_cons_self).2 x c e, fun p hp => absurd (show p ∈ ([] : List (Addr × Obj)) ++ [] from hp) (by simp)⟩
  have loop : codeAny (model X.prog X.w) X.A (.compLoop (.ListComp elt [⟨tg, iter, ifs, 0⟩] scope pos) 0 (.ref it) (.ref D) ce) (compPost (model X.prog X.w) X.A X.xe use Qf (.ref D) s3.heap.objs.size) s4 := by
    refine compLoop_any (fun n s' => ∃ i H', L2.Inv (X.blk s3 H3 scope ce [it]) [] (wipe σ (own.map (·.2))) H' s' ∧ s'.heap.IsListIter it a i ∧ H' it = none ∧ W i n H') ?_ m0 ⟨0, H3, I4, st4, f3.1, w0⟩
    rintro n s5 ⟨i, H5, I5, st5, n5, w5⟩
    rcases turn i n H5 w5 with ⟨stop, qq⟩ | ⟨go, Nx, hNx, step⟩
    · have td := doneL (X := X.blk s3 H3 scope ce [it]) (E := fun _ _ => False) I5 (away I5 n5) st5 stop
      refine thnF td fun r s6 ⟨hr, I6⟩ => ?_
      subst hr
      have I7 : L2.Inv X pins σ H5 s6 := I3.call' (ch := [it]) I6.os I6.base I6.hok I6.bare fun b hb => by
        rw [List.mem_singleton.mp hb]
        exact ⟨f3.2.2.2.1, f3.2.1, f3.2.2.2.2.1, f3.2.2.2.2.2⟩
      have nC : H5 s3.heap.objs.size = none := by rw [← cL]; exact (show H5 ce.locals = none from I6.free)
      obtain ⟨m, hn, _⟩ := I6.loc
      exact fin D s3.heap.objs.size s6 m H5 I7 qq (by rw [← cL]; exact (show s6.heap.Ns ce.locals m from hn)) (I3.fpOk (Nat.le_refl _) nC)
    · have ti := itemL (X := X.blk s3 H3 scope ce [it]) (tg := tg) (E := fun _ _ => False) I5 (away I5 n5) st5 go
      refine thnF ti fun r s6 ⟨u, hr, h6⟩ => ?_
      subst hr
      refine thnF h6 fun _ s7 ⟨x, I7, r7, y7, st7⟩ => ?_
      have I8 := I7.pinned (fp := [it]) (fun b hb => by rw [List.mem_singleton.mp hb]; exact away I7 n5) fun b hb => by
        rw [List.mem_singleton.mp hb]
        obtain ⟨o, e, _, d⟩ := st7
        exact ⟨o, e, fun v z => by rw [d] at z; cases z⟩
      refine thnF (pg.run _ s7 _ H5 x u _ I8 r7 (step x H5 y7)) fun _ s8 ⟨σ8, H8, I9, hw8, q8⟩ => ?_
      refine thnF (pt.run _ s8 σ8 H8 _ I9 q8) fun b s9 ⟨H9, I10, q9⟩ => ?_
      have next : ∀ {s' : Shared} {H' : Hp}, L2.Inv (X.blk s3 H3 scope ce [it]) ([] ++ pinsAt [it] s7.heap) σ8 H' s' → Nx H' → ∃ m, m < n ∧ ∃ i H', L2.Inv (X.blk s3 H3 scope ce [it]) [] (wipe σ (own.map (·.2))) H' s' ∧ s'.heap.IsListIter it a i ∧ H' it = none ∧ W i m H' := fun {s' H'} J nx => by
        obtain ⟨m', lm, w'⟩ := hNx H' nx
        have pin : ∀ o, s7.heap.get? it = some o → s'.heap.get? it = some o ∧ H' it = none := fun o e =>
          let z := J.pin (it, o) (List.mem_append_right _ (List.mem_append_right _ (mem_pinsAt List.mem_cons_self e)))
          ⟨z.1, z.2.1⟩
        obtain ⟨o, e, _⟩ := id st7
        refine ⟨m', lm, i + 1, H', (J.unpinned (pins := [])).weak (by rw [← hw8, wipe_length]) (fun j v e => ?_), st7.at fun o e => (pin o e).1, (pin o e).2, w'⟩
        rw [← hw8] at e
        exact (wipe_some e).1
      cases b with
      | false =>
        simp only [Bool.false_eq_true, if_false] at q9 ⊢
        exact next I10 q9
      | true =>
        simp only [if_true] at q9 ⊢
        refine thnF (pe.run _ s9 σ8 H9 _ I10 q9) fun z s10 ⟨yv, H10, I11, r10, acc, hD10, hz10, nx⟩ => ?_
        exact app_ok (X := X.blk s3 H3 scope ce [it]) I11 hD10 hz10 r10 fun s11 I12 => next I12 nx
  exact codeAny_compStart_list loop (wpAny_pyIter_listiter st4 loop)
theorem ps_setLcL {i : Nat} {y : Str} {py : Pos} {elt tg iter : Expr} {ifs : List Expr} {scope : Scope} {own : List (Str × Nat)} {pos spos : Pos} {tl : TE} {g : TG} {tt : TT} {te : TE} (nd : X.N.Nodup) (hy : X.N[i]? = some y) (loc : X.env.scope.names.lookup y = some .local)
    (sw : swapsWith (.ListComp elt [⟨tg, iter, ifs, 0⟩] scope pos) (some (.Name y py)) spos.line X.env = pure true) (hl : PE X iter tl) (ok : BlkOk X.N X.env.scope scope own)
    (hb : ∀ (s : Shared) (H : Hp) (C : Addr) (cl : List (Str × Addr)) (fp : List Addr), PG (X.blk s H scope (compEnvC scope cl C X.env) fp) tg g ∧ PTs (X.blk s H scope (compEnvC scope cl C X.env) fp) ifs tt ∧ PE (X.blk s H scope (compEnvC scope cl C X.env) fp) elt te)
    (hs : ∀ x, foldedSetIterable iter X.env x = pure x) :
    PS X (.Assign [.Name y py] (.ListComp elt [⟨tg, iter, ifs, 0⟩] scope pos) spos) (tAsg (tLc (wiL X tl) g tt te (own.map (·.2))) (gName i)) := by
  refine ⟨fun pins s σ H D I h => ?_⟩
  rw [exec_Assign_Name_used _ _ _ _ sw]
  refine wpAny_bind (wpAny_standAt (wpAny_bind ?_))
  show wpAny _ X.A (do let _ ← comprehension (.ListComp elt [⟨tg, iter, ifs, 0⟩] scope pos) scope X.env (firstIterPos [⟨tg, iter, ifs, 0⟩] pos) (newList []) false (eval iter X.env) (some (assign (.Name y py) X.env))) _ _ s
  have h : tLc (wiL X tl) g tt te (own.map (·.2)) σ H (fun x H1 => gName i x σ H1 D.nx) := h
  refine wpAny_bind (thn (lcL_core (Qf := fun _ s2 => SP X pins D .next s2) nd I hl ok hb hs h fun L C s2 m H2 J q ns f => ?_) fun _ s2 hq => wpAny_pure (wpAny_pure hq))
  show wpAny _ _ (assign (.Name y py) X.env (.ref L)) _ _ _
  refine wpAny_assign_Name (store_ok2 (v := V.ref L) J nd hy (.inl loc) rfl (fun s3 J3 ⟨a, sb, ha⟩ => ?_) (.inr loc))
  obtain ⟨g0, g1, g2, g3, g4, g5⟩ := f
  have ne : C ≠ a := ha.elim (fun z => by rw [z]; exact g1) fun z e => g4 y a z e.symm
  exact ⟨m, ns.sameBut sb ne, fun h3 sb3 => ⟨_, H2, J3.turned (t' := s3.toks) (fun b o hb e => (sb3.2 b hb).trans e) g0 g1 g3 g4 g5, q⟩⟩
end
section
variable {X : Cx} {B : Bs} {Wx : WX} {a : Expr} {wa we : WT} {pos : Pos}
/-- a list that is gone through: data, or one's own -/
def lsrc (w : W) (env : Env) (k : Src → Prop) : Prop := match w with
  | .o x => match x.toD with
    | .list ds => k ⟨ds, none⟩
    | _ => False
  | .al p i q => match envAt env i q with
    | some (.obj b .lst xs) => b = p ∧ onSome (datas xs) fun ds => k ⟨ds, some (p, i, q)⟩
    | _ => False
def iL (wa : WT) : WI := fun PX env P => wa PX env fun w env1 => lsrc w env1 fun s => P s env1
theorem Goes.hot {s : Src} {Z : List (V × W)} {p : Addr} (hot : HotB X B) (G : Goes X B (Itl X.K p) s Z) : Goes X B (JL X.A.handled X.K p) s Z :=
  ⟨G.go, G.yl, fun S H σ env T i r st hi => ⟨G.st S H σ env T i r st hi, hot.heap r⟩⟩
theorem goes_hot (hot : HotB X B) {σ : L2.St} {H : Hp} {Rk : It → Hp → Prop} (h : tI X B Wx (iL wa) σ H Rk) : wiL X (tE X B Wx wa) σ H Rk := by
  obtain ⟨S, env, T, P, PX, r, hw, hP, hX⟩ := h
  refine ⟨S, env, T, _, PX, r, hw, fun x env1 vx S1 H1 hq r1 => ?_, hX⟩
  cases x with
  | o x =>
    have r2 := r1.froze
    have rx := r2.dataTop
    have hq : match x.toD with
      | .list ds => P ⟨ds, none⟩ env1
      | _ => False := hq
    cases hx : x.toD with
    | list es =>
      rw [hx] at rx r2
      simp only [hx] at hq
      cases rx with
      | lst f ra => exact ⟨_, rfl, ⟨_, f.sq⟩, hP _ _ _ _ _ [(V.ref _, W.o (.d (.list _)))] hq r2 (Goes.hot hot (Goes.list rfl)) trivial⟩
    | _ => simp only [hx] at hq
  | al p i q =>
    have tv : vx = .ref p := r1.tmps (vx, .al p i q) List.mem_cons_self
    subst tv
    have hq : match envAt env1 i q with
      | some (.obj b .lst xs) => b = p ∧ onSome (datas xs) fun ds => P ⟨ds, some (p, i, q)⟩ env1
      | _ => False := hq
    cases e : envAt env1 i q with
    | none => simp only [e] at hq
    | some z =>
      simp only [e] at hq
      cases z with
      | d _ => exact hq.elim
      | tup _ => exact hq.elim
      | obj b k xs =>
        cases k with
        | dct _ => exact hq.elim
        | lst =>
        obtain ⟨rfl, hq⟩ := hq
        obtain ⟨ds, hd, hq⟩ := onSome_some hq
        obtain ⟨vs, hv, ow⟩ := r1.seenAt e
        rw [datas_eq hd] at e
        exact ⟨_, rfl, ⟨vs, .inl (.inl hv)⟩, hP _ _ _ _ _ [] hq r1.pop (Goes.hot hot (Goes.seen (v := .non))) e⟩
theorem z_setLcH {i : Nat} {y : Str} {py spos : Pos} {elt tg iter : Expr} {ifs : List Expr} {scope : Scope} {own : List (Str × Nat)} {t : Tg} {wi : WT} {wcnd : WC} (hot : HotB X B) (nd : X.N.Nodup) (hy : X.N[i]? = some y) (loc : X.env.scope.names.lookup y = some .local)
    (sw : swapsWith (.ListComp elt [⟨tg, iter, ifs, 0⟩] scope pos) (some (.Name y py)) spos.line X.env = pure true)
    (hi : PV X B Wx iter wi) (ok : BlkOk X.N X.env.scope scope own) (hown : (own.map (·.2)).Nodup) (hsub : ∀ i ∈ t.slots, i ∈ own.map (·.2))
    (hb : ∀ (s : Shared) (H : Hp) (C : Addr) (cl : List (Str × Addr)) (fp : List Addr), PG (X.blk s H scope (compEnvC scope cl C X.env) fp) tg (gT X B t) ∧
      SndC (X.blk s H scope (compEnvC scope cl C X.env) fp) B ifs wcnd ∧ PE (X.blk s H scope (compEnvC scope cl C X.env) fp) elt (tE X B W0 we))
    (hs : ∀ x, foldedSetIterable iter X.env x = pure x) :
    S1 X B Wx (.Assign [.Name y py] (.ListComp elt [⟨tg, iter, ifs, 0⟩] scope pos) spos) (sAsg (.v i) (wComp (iL wi) (own.map (·.2)) t wcnd we)) := by
  refine PS_imp (ps_setLcL (tt := tCnd X B wcnd) nd hy loc sw hi ok (fun s H C cl fp => hb s H C cl fp) hs) fun D σ H ⟨S, env, T, k, PX, r, hw, hE, hX⟩ => ?_
  have z : tLc (tI X B Wx (iL wi)) (gT X B t) (tCnd X B wcnd) (tE X B W0 we) (own.map (·.2)) σ H (fun x H1 => gName i x σ H1 D.nx) := by
    refine comp_reads hown hsub ⟨S, env, T, _, PX, r, hw, fun x env1 v S1 H1 q r1 => ?_, hX⟩
    exact gT_name ⟨S1, env1, T, x, k.nx, r1, q, fun env2 S2 σ2 q2 r2 _ _ => hE.nx _ _ _ _ q2 r2⟩
  exact goes_hot hot z
end
end Vx
namespace Vx
open PySem PySem.Spec L2 HotX PyProof.Rows

/-! ### a def that is called where an exception is handled -/
def HotA (A : Around) (H : Hp) : Prop := ∃ x1 C dx : Addr, A.handled = some (.ref x1) ∧ H x1 = some (exHO x1 C dx)
structure FnVH (P : Program) (w : World) (K : PySem.W.Frag) (mg : Str → Option Value) (base : Heap) (k : Nat) (f : Addr) (fd : FuncData) (ps : List Str) (sp : Sp) : Prop where
  len : ∀ vs H Q E, sp vs H Q E → vs.length = ps.length
  run : ∀ (A : Around) (outer : List PySem.Env) (s : Shared) (H : Hp) (g : Args) (us : List Value) (vs : List V) (Q : VK) (E : XK), L2H.RoomH k A → A.guards = some [] → HotA A H → Env0 P w K mg base A outer s H → BindsTo s fd g (ps.zip us) → Vals vs us → sp vs H Q E →
    codeAny (model P w) A (.call (.ref f) g) (CR (L2N.CX P w) outer P w H s Q E) s
/-- the body's context -/
abbrev cxHot (P : Program) (w : World) (K : PySem.W.Frag) (mg : Str → Option Value) (base : Heap) (N : List Str) (qual : Str) (scope : Scope) (f : Addr) (cd : Value) (A : Around) (outer : List PySem.Env) (s : Shared) (H : Hp) (E : XK) : Cx :=
  { cxOf (L2N.CX P w) P w K mg base N qual scope f cd A outer s H E with calm := false }
section
variable {P : Program} {w : World} {K : PySem.W.Frag} {mg : Str → Option Value} {base : Heap} {N ps : List Str} {qual : Str} {scope : Scope} {f : Addr} {cd : Value} {A : Around} {outer : List PySem.Env} {s s1 : Shared} {H : Hp} {E : XK} {us : List Value} {vs : List V}
theorem inv_hot (sc : FnScope N ps scope) (e0 : Env0 P w K mg base A outer s H) (hl : vs.length = ps.length) (r : Vals vs us)
    (x : InCallC s s.heap.objs.size (bindL (envOfC qual scope s.heap.objs.size f cd).kindOf (ps.zip us) fun _ => none) (cellsFrom (s.heap.objs.size + 1) scope.names []) (bindC (envOfC qual scope s.heap.objs.size f cd).kindOf (ps.zip us) fun _ => none) s1) :
    L2.Inv (cxHot P w K mg base N qual scope f cd A outer s H E) [] (L2.start N vs) H s1 := by
  have e1 : Env0 P w K mg base { A with handled := none } outer s H := ⟨e0.frames, e0.mod, e0.bs, e0.bsz, e0.funs, e0.frf, e0.hok, e0.bare⟩
  have I : L2.Inv (cxOf (L2N.CX P w) P w K mg base N qual scope f cd { A with handled := none } outer s H E) [] (L2.start N vs) H s1 := inv_start sc rfl e1 hl r x
  have ok := I.ok
  exact ⟨⟨ok.mod, ok.kind, ok.glob, ok.blt, ok.above, ok.inj, ok.has, ok.cab, nofun, Around.frames_deeper e0.frames, ok.stk, ok.exf, ok.bs, ok.bsz, ok.noex, ok.exfs, ok.funs, ok.frf⟩, I.os, I.bare, I.base, I.loc, I.cell, I.free, I.freeC, I.pin, I.hok, I.len⟩
end
theorem fnVH_of {P : Program} {w : World} {K : PySem.W.Frag} {mg : Str → Option Value} {base : Heap} {k : Nat} {f : Addr} {name qual : Str} {params : Arguments} {body : List Stmt} {scope : Scope} {dV kV doc pm cdv ct oc : Value} {an od : Option Addr}
    {osl : Array (Option Value)} {N ps : List Str} {sp : Sp} (lk : K.lookup f = some ⟨oc, od, .func (PySem.W.fnOf name qual params body scope dV kV doc pm an cdv ct), osl⟩) (hcd : PySem.W.codeIn K cdv qual = true) (sc : FnScope N ps scope)
    (len : ∀ vs H Q E, sp vs H Q E → vs.length = ps.length)
    (hb : ∀ (A : Around) (outer : List PySem.Env) (s : Shared) (H : Hp) (vs : List V) (Q : VK) (E : XK), L2H.RoomH k (A.deeper (envOfC qual scope s.heap.objs.size f cdv)) → A.guards = some [] → HotA A H → sp vs H Q E →
      ∃ t, PSs (cxHot P w K mg base N qual scope f cdv A outer s H E) body t ∧ t { nx := fun _ H1 => Q .non H1, rt := Q } (L2.start N vs) H) :
    FnVH P w K mg base (k + 1) f (PySem.W.fnOf name qual params body scope dV kV doc pm an cdv ct) ps sp := by
  refine ⟨len, fun A outer s H g us vs Q E hr hg hot e0 bnd rv q => ?_⟩
  have vl := len _ _ _ _ q
  have inK : K.In s.heap := e0.mod.kin.keeps fun b o z => (e0.bs b o z).1
  have far : s.heap.NoLimit := e0.mod.nolimit.keeps fun b o z => (e0.bs b o z).1
  have kinds : ∀ y ∈ ps.zip us, scope.names.lookup y.1 = some .local ∨ (scope.names.lookup y.1 = some .cell ∧ ((cellsFrom (s.heap.objs.size + 1) scope.names []).lookup y.1).isSome = true) := by
    intro y hy
    obtain ⟨n, u⟩ := y
    exact (sc.par n (List.of_mem_zip hy).1).imp id fun z => ⟨z, PySem.W.cellsFrom_some _ _ _ (.inl z)⟩
  refine codeAny_call_function hr.depth (inK _ _ lk) rfl sc.co sc.gen rfl (PySem.W.codeRec_of inK hcd) (bnd _ _ _ _ ?_)
  refine wpAny_newFunctionEnv_cells sc.kind kinds fun en he s1 ic => ?_
  cases he
  refine ⟨far.keeps ic.toInCall.keep, codeAny_func ?_⟩
  obtain ⟨t, ht, h2⟩ := hb A outer s H vs Q E (hr.deeper _) hg hot q
  have J : L2.Inv (cxHot P w K mg base N qual scope f cdv A outer s H E) [] (L2.start N vs) H s1 := inv_hot sc e0 vl rv ic
  refine wpAny_mono (ht.run [] s1 _ H _ J h2) (fun r s2 z => ?_) fun _ _ z => z
  have over : ∀ {v : V} {u : Value} {σ2 : L2.St} {H2 : Hp}, L2.Inv (cxHot P w K mg base N qual scope f cdv A outer s H E) [] σ2 H2 s2 → RelV v u → Q v H2 → CE outer P w H s Q u s2 := fun {v u σ2 H2} J2 ru z => ⟨v, H2, J2.os, J2.bare, J2.base, J2.hok, ru, z⟩
  cases r with
  | brk => obtain ⟨_, _, _, z⟩ := z; exact z.elim
  | cont => obtain ⟨_, _, _, z⟩ := z; exact z.elim
  | next =>
    obtain ⟨σ2, H2, J2, z⟩ := z
    exact over (v := V.non) J2 rfl z
  | ret u =>
    obtain ⟨v, σ2, H2, J2, ru, z⟩ := z
    exact over J2 ru z
theorem hot_own {A : Around} {K : PySem.W.Frag} {S : Fz} {H : Hp} {vs : List V} {os : List O} (hot : HotA A H) (ow : OwnA K S H vs os) : ∃ x1 C dx : Addr, A.handled = some (.ref x1) ∧ (ownB S H os).H x1 = some (exHO x1 C dx) ∧ ¬ (ownB S H os).own x1 := by
  obtain ⟨x1, C, dx, hh, e⟩ := hot
  refine ⟨x1, C, dx, hh, e, fun z => ?_⟩
  obtain ⟨k, xs, e2⟩ := ow.live x1 z
  rw [e] at e2
  cases k <;> cases e2
theorem fnVH_sem {P : Program} {w : World} {K : PySem.W.Frag} {mg : Str → Option Value} {base : Heap} {k np n : Nat} {f : Addr} {name qual : Str} {params : Arguments} {body : List Stmt} {scope : Scope} {dV kV doc pm cdv ct oc : Value} {an od : Option Addr}
    {osl : Array (Option Value)} {N ps : List Str} {wb : WS} {F : FSem} (lk : K.lookup f = some ⟨oc, od, .func (PySem.W.fnOf name qual params body scope dV kV doc pm an cdv ct), osl⟩) (hcd : PySem.W.codeIn K cdv qual = true) (sc : FnScope N ps scope)
    (hnp : ps.length = np) (hn : N.length = n) (hle : np ≤ n) (imp : ∀ os Q E, F os Q E → semW wb n os Q E)
    (hb : ∀ (A : Around) (outer : List PySem.Env) (s : Shared) (H : Hp) (E : XK) (B : Bs), L2H.RoomH k (A.deeper (envOfC qual scope s.heap.objs.size f cdv)) → A.guards = some [] → HotB (cxHot P w K mg base N qual scope f cdv A outer s H E) B →
      SS (cxHot P w K mg base N qual scope f cdv A outer s H E) B (fun cls d _ H1 => E cls d H1) body wb) :
    FnVH P w K mg base (k + 1) f (PySem.W.fnOf name qual params body scope dV kV doc pm an cdv ct) ps (spV K mg np F) := by
  refine fnVH_of lk hcd sc (fun vs H Q E ⟨_, _, _, _, h, _⟩ => by rw [h, hnp]) fun A outer s H vs Q E hr hg hot ⟨S, os, PP, PX, hv, ho, hnt, rz, ow, hF, hP, hE⟩ => ?_
  exact ⟨_, ss0_of (hb A outer s H E (ownB S H os) hr hg (hot_own hot ow)), sem_body (X := cxHot P w K mg base N qual scope f cdv A outer s H E) hn (by rw [hv]; exact hle) imp hnt rz ow hF hP hE⟩
/-- its call -/
theorem s_callH {X : Cx} {B : Bs} {Wx : WX} {k n : Nat} {f : Addr} {fd : FuncData} {ps : List Str} {F : FSem} {x : Str} {p pos : Pos} {e : Expr} {es : List Expr} {wa : WA} (Fn : FnVH X.prog X.w X.K X.mg X.base k f fd ps (spV X.K X.mg n F)) (hr : L2H.RoomH k X.A) (hgd : X.A.guards = some [])
    (hot : HotB X B) (tk : L2N.Takes X Wx) (hg : Gl X x) (hm : X.mg x = some (.ref f)) (hk : PySem.W.keepIn X.K (.ref f) = true) (hb : Binds X.K fd ps []) (ha : SndA X B Wx (e :: es) wa)
    (hdb : (x == ("__debug__" : Str)) = false) (he : starEach (e :: es) X.env = (false, eval e X.env) :: starEach es X.env) (hpl : (backTo pos (starEach es X.env)).any (·.1) = false) :
    PE X (.Call (.Name x p) (e :: es) [] pos) (tE X B Wx fun PX env P => wa PX env fun ws env1 => callV (ar n F) ws env1 P PX) := by
  refine ⟨fun pins s σ H Q I ⟨S, env, T, P, PX, r, hw, hP, hX⟩ => ?_⟩
  have h2 : tA' X B Wx wa σ H fun vs H1 => HotH X H1 ∧ spV X.K X.mg n F vs H1 Q fun cls d H2 => Wx cls d σ H2 := by
    refine ⟨S, env, T, _, PX, r, hw, fun env1 Z S1 H1 hq r1 => ?_, hX⟩
    obtain ⟨os, hl, hnd, hon, hF⟩ := onSome_some (lend_of hq)
    obtain ⟨ow, _, rz⟩ := r1.lent hl (of_decide_eq_true hnd)
    refine ⟨hot.heap r1, S1, os, _, _, by rw [ow.length, hon], hon, lend_notTup hl, rz, ow, hF, fun rr os' v S2 H2 q hlen z => ?_, fun ex os' cls d S2 H2 q hlen z hx => ?_⟩
    · obtain ⟨env', g, q⟩ := onSome_some (giveBack_of q)
      exact hP _ _ _ _ _ q (R.back (N := [(v, .o rr)]) r1 hl (of_decide_eq_true hnd) g hlen z)
    · obtain ⟨env', g, q⟩ := onSome_some (giveBack_of q)
      exact hX _ _ _ _ _ _ _ q ((R.back (N := []) r1 hl (of_decide_eq_true hnd) g hlen z).tmp (fun t ht => nomatch ht) fun b => Nat.zero_le _) hx
  refine wpAny_Call_Name_kw (ld_glob I hg hm ?_ hdb)
  refine PySem.W.callWith_K (h₀ := X.base) I.ok.mod.kin hk (thn (ha.run pos pins s σ H _ I h2) fun us s1 ⟨vs, H1, I1, rv, hh, q⟩ => ⟨I1.kIn, ?_⟩) he hpl
  have bd := hb s1 us I1.kIn (by rw [List.append_nil, ← rv.length]; exact Fn.len _ _ _ _ q)
  rw [List.append_nil] at bd
  refine wpAny_call (codeAny_mono (Fn.run X.A X.stack s1 H1 ⟨us, []⟩ us vs Q _ hr hgd hh I1.env0 bd rv q) fun rr s2 z => ?_)
  match rr with
  | .error ev => exact L2N.passAt tk σ pins H1 s1 ev s2 I1 z
  | .ok (.ret u) => exact I1.after z
  | .ok .next => exact z.elim
  | .ok .brk => exact z.elim
  | .ok .cont => exact z.elim

/-! ### try, with what is known in the suite -/
/-- the caller's view, the exception among what is kept -/
def Bs.with (B : Bs) (a C dx : Addr) : Bs := { S := fun b => B.S b ∨ b = a, H := upd B.H a (exHO a C dx), own := fun b => B.own b ∧ b ≠ a }
section
variable {K : PySem.W.Frag} {B : Bs} {S : Fz} {H : Hp} {σ : L2.St} {env : Env} {T : List (V × W)}
theorem R.withEx {a C dx : Addr} (r : R K B S H σ env T) (sa : S a) (e : H a = some (exHO a C dx)) (nb : B.H a = none) : R K (B.with a C dx) S H σ env T := by
  have nw : ∀ b, 0 < cntE b env + cntT b T → b ≠ a := fun b hb z => by
    have := r.apart a sa
    rw [z] at hb
    omega
  refine ⟨r.len, r.slots, r.tmps, r.one, r.apart, r.sH, fun b u h1 h2 => ?_, fun b hb => ?_, fun b hb => ?_, fun b hb => ?_, fun b hb => ?_⟩
  · by_cases z : b = a
    · subst z
      have h1 : upd B.H b (exHO b C dx) b = some u := h1
      rw [upd_same] at h1
      rw [e]; exact h1
    · have h1 : upd B.H a (exHO a C dx) b = some u := h1
      rw [upd_ne z] at h1
      exact r.keep b u h1 fun q => h2 ⟨q, z⟩
  · have z : b ≠ a := fun z => by rw [z, e] at hb; cases hb
    show upd B.H a (exHO a C dx) b = none
    rw [upd_ne z]; exact r.dom b hb
  · have z := nw b hb
    rcases r.new b hb with q | q
    · exact .inl ⟨q, z⟩
    · exact .inr (by show upd B.H a (exHO a C dx) b = none; rw [upd_ne z]; exact q)
  · by_cases z : b = a
    · exact .inl (.inr z)
    · rcases r.newS b hb with q | q | q
      · exact .inl (.inl q)
      · exact .inr (.inl ⟨q, z⟩)
      · exact .inr (.inr (by show upd B.H a (exHO a C dx) b = none; rw [upd_ne z]; exact q))
  · rcases hb with hb | rfl
    · exact r.sub b hb
    · exact sa
theorem R.ofEx {a C dx : Addr} (r : R K (B.with a C dx) S H σ env T) (nb : B.H a = none) : R K B S H σ env T := by
  have up : ∀ {b}, b ≠ a → (B.with a C dx).H b = B.H b := fun {b} z => upd_ne z
  refine ⟨r.len, r.slots, r.tmps, r.one, r.apart, r.sH, fun b u h1 h2 => ?_, fun b hb => ?_, fun b hb => ?_, fun b hb => ?_, fun b hb => ?_⟩
  · have z : b ≠ a := fun z => by rw [z, nb] at h1; cases h1
    exact r.keep b u ((up z).trans h1) fun q => h2 q.1
  · by_cases z : b = a
    · rw [z]; exact nb
    · exact (up z).symm.trans (r.dom b hb)
  · rcases r.new b hb with q | q
    · exact .inl q.1
    · by_cases z : b = a
      · exact .inr (by rw [z]; exact nb)
      · exact .inr ((up z).symm.trans q)
  · rcases r.newS b hb with q | q | q
    · rcases q with q | q
      · exact .inl q
      · exact .inr (.inr (by rw [q]; exact nb))
    · exact .inr (.inl q.1)
    · by_cases z : b = a
      · exact .inr (.inr (by rw [z]; exact nb))
      · exact .inr (.inr ((up z).symm.trans q))
  · exact r.sub b (.inl hb)
end
section
variable {X : Cx} {B : Bs} {Wx : WX}
theorem z_tryH {x n : Str} {c : Value} {i : Nat} {body suite : List Stmt} {st0 : Stmt} {np pos pos' : Pos} {ms : Str → Option Bool} {wb ws : WS} (fr : X.stack = X.env :: X.outer) (loc : X.env.frame = some X.env.locals) (nd : X.N.Nodup) (hi : X.N[i]? = some n)
    (kind : X.env.kindOf n = some .local) (nm : Names X x c) (hm : ∀ y b C, ms y = some b → PySem.W.nsIn X.K mainGlobals y = some (some (.ref C)) → PySem.W.exmOne X.K (.ref C) c = some b) (tk : L2N.Takes X Wx)
    (hb : ∀ (W : WX) (pn : List (Addr × Obj)) (xe : Value → Shared → Prop), L2N.Takes (X.tr pn xe) W → PassesOwn (model X.prog X.w) X.A X.env xe → SS0 (X.tr pn xe) B W body wb)
    (hs : ∀ (a : Addr) (B2 : Bs), HotB (X.suite a X.pn) B2 → SS0 (X.suite a X.pn) B2 (fun _ _ _ _ => False) (st0 :: suite) ws) :
    S10 X B Wx (.Try body [.ExceptHandler (some (.Name x np)) (some n) (st0 :: suite) pos'] [] [] pos) (sTry ms wb i ws) := by
  refine PS_imp (ps_tryT (Wo := Wx) (tb := fun W => tS0 X B W wb) (ts := fun a D σ H => ∃ C dx, tS0 X (B.with a C dx) (fun _ _ _ _ => False) ws D σ H) fr loc nd hi kind nm tk
    (fun W pn xe t2 po => PSs_imp (hb W pn xe t2 po) fun D σ H ⟨S, env, k, PX, r, hw, hE, hX⟩ => ⟨S, env, k, PX, r, hw, ⟨hE.nx, hE.rt, hE.bk, hE.ct⟩, hX⟩)
    (fun a => ⟨fun pins s σ H D I ⟨C, dx, h⟩ => ?_⟩)) fun D σ H ⟨S, env, k, PX, r, hw, hE, hX⟩ => ?_
  · refine (PSs_imp (hs a (B.with a C dx) ⟨a, C, dx, rfl, upd_same, fun z => z.2 rfl⟩) fun D σ H ⟨S, env, k, PX, r, hw, hE, hX⟩ => ?_).run pins s σ H D I h
    exact ⟨S, env, k, PX, r, hw, ⟨hE.nx, hE.rt, hE.bk, hE.ct⟩, hX⟩
  refine ⟨S, env, k, _, r, hw, hE, fun ex env1 S1 H1 σ1 cls d q r1 hx => ?_⟩
  have hx' := hx
  obtain ⟨C, dx, xs, rfl, rfl, sd, hd, hl, hn, hk, ra⟩ := hx
  cases e : ms ex.cls with
  | none => simp only [e] at q
  | some b =>
    refine ⟨b, C, dx, rfl, rfl, hm _ _ _ e hn, fun hb => ?_, fun hb a na => ?_⟩
    · subst hb
      simp only [e] at q
      exact hX _ _ _ _ _ _ _ q r1 hx'
    · subst hb
      simp only [e] at q
      obtain ⟨hlt, q⟩ := q
      have nb : B.H a = none := r1.dom a na
      obtain ⟨S2, r2, sa⟩ := r1.caughtS na sd hd hl hn hk ra hlt
      exact ⟨C, dx, S2, _, _, _, r2.withEx sa upd_same nb, q, ⟨fun e4 σ4 S4 H4 q4 r4 => hE.nx _ _ _ _ q4 (r4.ofEx nb).forget, fun x4 e4 v4 σ4 S4 H4 q4 r4 => hE.rt _ _ _ _ _ _ q4 (r4.ofEx nb), fun e4 σ4 S4 H4 q4 r4 => hE.bk _ _ _ _ q4 (r4.ofEx nb).forget, fun e4 σ4 S4 H4 q4 r4 => hE.ct _ _ _ _ q4 (r4.ofEx nb).forget⟩, lets_none fun _ _ h => h⟩
end
theorem roomH_u {k : Nat} {A : Around} (h : L2H.RoomH k A) : A.units + 200 < cLine := by have := h.un; omega
theorem roomS {X : Cx} {a : Addr} {pn : List (Addr × Obj)} {j k : Nat} (hr : Room k X.A) (h : j ≤ k) : L2H.RoomH j (X.suite a pn).A := ⟨(hr.mono h).dp, (hr.mono h).un⟩
end Vx
namespace Vx
open PySem PySem.Spec L2 PyProof.Rows PyProof.Rows.G

/-! ### sorted of tuples of ints, however many -/
abbrev tupI (t : List Int) : D := .tuple (t.map PyData.int)
def intTups : List D → Option (List (List Int))
  | [] => some []
  | .tuple xs :: ds => match intsOf xs with
    | some (i :: is) => (intTups ds).map ((i :: is) :: ·)
    | _ => none
  | _ :: _ => none
theorem intTups_eq : ∀ {ds : List D} {ts : List (List Int)}, intTups ds = some ts → ds = ts.map tupI ∧ ∀ t ∈ ts, t ≠ []
  | [], ts, h => by cases h; exact ⟨rfl, nofun⟩
  | .tuple xs :: ds, ts, h => by
    unfold intTups at h
    cases e : intsOf xs with
    | none => rw [e] at h; cases h
    | some l =>
      cases l with
      | nil => rw [e] at h; cases h
      | cons i is =>
        rw [e] at h
        simp only [] at h
        cases e2 : intTups ds with
        | none => rw [e2] at h; cases h
        | some us =>
          rw [e2] at h
          cases h
          obtain ⟨h1, h2⟩ := intTups_eq e2
          refine ⟨?_, fun t ht => ?_⟩
          · rw [intsOf_eq e, h1]; rfl
          · rcases List.mem_cons.mp ht with rfl | ht
            · exact nofun
            · exact h2 t ht
theorem intTups_map : ∀ {ts : List (List Int)}, (∀ t ∈ ts, t ≠ []) → intTups (ts.map tupI) = some ts
  | [], _ => rfl
  | t :: ts, h => by
    cases t with
    | nil => exact absurd rfl (h [] List.mem_cons_self)
    | cons i is =>
      show (match intsOf ((i :: is).map PyData.int) with
        | some (i :: is) => (intTups (ts.map tupI)).map ((i :: is) :: ·)
        | _ => none) = _
      rw [intsOf_map, intTups_map fun x hx => h x (List.mem_cons_of_mem _ hx)]
      rfl
def fSortT : DSem
  | [.list ds], Q => onSome (intTups ds) fun ts => ts.length ≤ 1000000 ∧ ∀ us : List (List Int), us.Perm ts → us.Pairwise (fun p q => lexLt q p = false) → ∀ a, Q (.lst a (us.map fun u => O.d (tupI u)))
  | _, _ => False
abbrev shI : Nat → Bool := fun _ => false
def ksI (h : Heap) (v : Value) : List Int := ((tupKeyC h shI v).getD []).map fun
  | .inl i => i
  | .inr _ => 0
theorem ksI_of {h : Heap} {v : Value} {t : List Int} (e : tupKeyC h shI v = some (t.map .inl)) : ksI h v = t := by
  unfold ksI
  rw [e]
  show ((t.map Sum.inl).map fun (z : Int ⊕ List Nat) => match z with | .inl i => i | .inr _ => 0) = t
  rw [List.map_map]
  exact List.map_id t
theorem lexI : ∀ a b : List Int, PyProof.Rows.lexLt itemOrd (a.map Sum.inl) (b.map Sum.inl) = Vx.lexLt a b
  | [], [] => rfl
  | [], _ :: _ => rfl
  | _ :: _, [] => rfl
  | x :: a, y :: b => by
    have e := lex_cons (O := itemOrd) (Sum.inl x) (Sum.inl y) (a.map Sum.inl) (b.map Sum.inl)
    rw [List.map_cons, List.map_cons, e, lexI a b]
    show (decide (x < y) || (!decide (y < x) && Vx.lexLt a b)) = if x = y then Vx.lexLt a b else decide (x < y)
    by_cases h : x = y
    · subst h
      rw [if_pos rfl, decide_eq_false (Int.lt_irrefl x)]; rfl
    · rw [if_neg h]
      by_cases h2 : x < y
      · rw [decide_eq_true h2]; rfl
      · rw [decide_eq_false h2, decide_eq_true (by omega)]; rfl
theorem tupItems_ints : ∀ {t : List Int} {its : List Value} (i : Nat), Vals (t.map V.int) its → tupItems shI i its = some (t.map .inl)
  | [], _, i, .nil => rfl
  | n :: t, _, i, .cons r rs => by
    obtain ⟨tk, rfl⟩ := r
    show (if shI i = true then none else (tupItems shI (i + 1) _).map (Sum.inl n :: ·)) = _
    rw [if_neg (show ¬ shI i = true from Bool.false_ne_true), tupItems_ints (i + 1) rs]
    rfl
section
variable {X : Cx} {B : Bs} {S : Fz} {H : Hp} {σ : L2.St} {pins : List (Addr × Obj)} {s : Shared}
/-- one of them, in the state -/
theorem tup_in (I : L2.Inv X pins σ H s) {v : V} {u : Value} {t : List Int} (r : Rp X.K S H v (tupI t)) (ru : RelV v u) (hn : t ≠ []) :
    ∃ a, v = .ref a ∧ u = .ref a ∧ tupKeyC s.heap shI u = some (t.map .inl) ∧ ∃ f, TupOf s.heap shI u f := by
  cases r with
  | tup f ra =>
    rename_i a xs
    have e : xs = t.map V.int := RpA.ints ra
    subst e
    cases ru
    obtain ⟨js, r2, ⟨o, ho, hc, n, hd⟩, _⟩ := I.tuple f
    refine ⟨a, rfl, rfl, ?_, ?_⟩
    · unfold tupKeyC
      have e1 : isTupObj s.heap (.ref a) = true := by simp [isTupObj, ho, hc]
      rw [if_pos e1]
      simp only [tupKey, ho, hd]
      exact tupItems_ints 0 (by simpa using r2)
    · cases t with
      | nil => exact absurd rfl hn
      | cons i t =>
        cases r2 with
        | cons r3 r4 =>
          obtain ⟨tk, rfl⟩ := r3
          exact ⟨.int i tk, a, o, _, n, rfl, ho, hc, hd, by simp, fun _ => ⟨i, tk, rfl⟩, fun h => absurd h (by decide)⟩
theorem tups_in (I : L2.Inv X pins σ H s) : ∀ {ws : List V} {its : List Value} {ts : List (List Int)}, RpA X.K S H ws (ts.map tupI) → Vals ws its → (∀ t ∈ ts, t ≠ []) →
    (∃ fs, TupsOf s.heap shI its fs) ∧ (∀ v ∈ its, ∃ a t, v = .ref a ∧ tupKeyC s.heap shI v = some (t.map .inl) ∧ Rp X.K S H (.ref a) (tupI t)) ∧ its.map (ksI s.heap) = ts
  | _, _, [], ra, rv, _ => by
    cases ra
    cases rv
    exact ⟨⟨[], .nil⟩, nofun, rfl⟩
  | _, _, t :: ts, ra, rv, hn => by
    cases ra with
    | cons r rs =>
      cases rv with
      | cons ru rus =>
        obtain ⟨a, rfl, rfl, hk, f, hf⟩ := tup_in I r ru (hn t List.mem_cons_self)
        obtain ⟨⟨fs, h1⟩, h2, h3⟩ := tups_in I rs rus fun x hx => hn x (List.mem_cons_of_mem _ hx)
        refine ⟨⟨f :: fs, .cons hf h1⟩, fun v hv => ?_, by rw [List.map_cons, h3, ksI_of hk]⟩
        rcases List.mem_cons.mp hv with e | hv
        · exact ⟨a, t, e, by rw [e]; exact hk, r⟩
        · exact h2 v hv
theorem rp_keys {h : Heap} : ∀ {out : List Value}, (∀ v ∈ out, ∃ a t, v = .ref a ∧ tupKeyC h shI v = some (t.map .inl) ∧ Rp X.K S H (.ref a) (tupI t)) → RpA X.K S H (out.map backV) ((out.map (ksI h)).map tupI)
  | [], _ => .nil
  | v :: out, q => by
    obtain ⟨a, t, rfl, hk, r⟩ := q v List.mem_cons_self
    refine .cons ?_ (rp_keys fun u hu => q u (List.mem_cons_of_mem _ hu))
    rw [ksI_of hk]
    exact r
theorem ok_sortT : BltOk X (.builtin "sorted") fSortT := by
  intro pins s σ H vs us Q B S env T ds k I rv r ud q hQ
  cases ud with
  | nil => exact q.elim
  | cons u us' =>
    rename_i v d vs' ds'
    cases us' with
    | cons _ _ => cases d <;> exact q.elim
    | nil =>
      cases d with
      | list ds =>
        obtain ⟨ts, e, hl6, q2⟩ := onSome_some q
        obtain ⟨ed, hne⟩ := intTups_eq e
        subst ed
        obtain ⟨a, ws, rfl, hs, rs⟩ := u.list
        obtain rfl := Vals.ref1 rv
        obtain ⟨its, rw_, hl, hz⟩ := I.list hs
        obtain ⟨⟨fs, h1⟩, h2, h3⟩ := tups_in I rs rw_ hne
        refine sorted_tups (shape := shI) (vs := its) hl.isList h1 (fun v hv => ?_) (by rw [← rw_.length]; exact hz) fun st' hp hso _ => ?_
        · obtain ⟨_, t, _, hk, _⟩ := h2 v hv
          exact ⟨_, hk⟩
        · have hp' : (arrOf st').toList.Perm (its.zip its) := by
            have := Array.perm_iff_toList_perm.mp hp
            rw [PyProof.Rows.pairsOf_toList] at this
            exact this
          have pairs : ∀ p ∈ its.zip its, p.1 = p.2 ∧ p.1 ∈ its := by
            have key : ∀ (l m : List Value), (∀ v ∈ l, v ∈ m) → ∀ p ∈ l.zip l, p.1 = p.2 ∧ p.1 ∈ m := by
              intro l m
              induction l with
              | nil => intro _ p hp; cases hp
              | cons x l ih =>
                intro hm p hp
                rcases List.mem_cons.mp hp with e | hp
                · rw [e]; exact ⟨rfl, hm x List.mem_cons_self⟩
                · exact ih (fun v hv => hm v (List.mem_cons_of_mem _ hv)) p hp
            exact key its its fun _ h => h
          generalize hL : (arrOf st').toList = L at hp'
          have hin : ∀ p ∈ L, p.1 = p.2 ∧ p.1 ∈ its := fun p hp => pairs p (hp'.mem_iff.mp hp)
          have e12 : L.map (·.1) = L.map (·.2) := List.map_congr_left fun p hp => (hin p hp).1
          have hout : ((arrOf st').map (·.2)).toList = L.map (·.1) := by rw [Array.toList_map, hL, e12]
          have zfst : (its.zip its).map (·.1) = its := by
            rw [List.map_fst_zip]; exact Nat.le_refl _
          have pm : (L.map (·.1)).Perm its := by
            have := hp'.map (·.1)
            rw [zfst] at this
            exact this
          generalize hO : L.map (·.1) = out at pm hout
          have ho2 : ∀ v ∈ out, ∃ a t, v = .ref a ∧ tupKeyC s.heap shI v = some (t.map .inl) ∧ Rp X.K S H (.ref a) (tupI t) := fun v hv => h2 v (pm.mem_iff.mp hv)
          have perm : (out.map (ksI s.heap)).Perm ts := by
            have := pm.map (ksI s.heap)
            rw [h3] at this
            exact this
          have hsz : (arrOf st').size = its.length := by
            have := hp'.length_eq
            rw [← hL, Array.length_toList] at this
            rw [this, List.length_zip, Nat.min_self]
          have hz2 : (PyProof.Rows.pairsOf its).size = its.length := PyProof.Rows.pairsOf_size its
          have pw : (out.map (ksI s.heap)).Pairwise fun p q => Vx.lexLt q p = false := by
            rw [List.pairwise_iff_getElem]
            intro i j hi hj hij
            have hlen : out.length = its.length := pm.length_eq
            rw [List.length_map] at hi hj
            have z := hso i j (Nat.le_of_lt hij) (by rw [hz2, ← hlen]; exact hj)
            have kk : ∀ (m : Nat) (hm : m < out.length), KK (tupKindC s.heap shI) (arrOf st') m = (ksI s.heap out[m]).map Sum.inl := by
              intro m hm
              have hL2 : m < L.length := by rw [← hO, List.length_map] at hm; exact hm
              have e3 : (arrOf st')[m]? = some L[m] := by rw [← Array.getElem?_toList, hL]; exact List.getElem?_eq_getElem hL2
              have e4 : out[m] = L[m].1 := by
                have : out[m]? = some L[m].1 := by rw [← hO, List.getElem?_map, List.getElem?_eq_getElem hL2]; rfl
                rw [List.getElem?_eq_getElem hm] at this
                exact Option.some.inj this
              unfold KK
              rw [e3]
              obtain ⟨_, t, _, hk, _⟩ := ho2 out[m] (List.getElem_mem hm)
              show (tupKeyC s.heap shI L[m].1).getD [] = _
              rw [← e4, hk, ksI_of hk]; rfl
            have z2 : PyProof.Rows.lexLt itemOrd (KK (tupKindC s.heap shI) (arrOf st') j) (KK (tupKindC s.heap shI) (arrOf st') i) = false := z
            rw [kk i hi, kk j hj, lexI] at z2
            rw [List.getElem_map, List.getElem_map]
            exact z2
          have h4 : ∀ v ∈ out, ∃ a, v = Value.ref a := fun v hv => let ⟨a, _, e, _⟩ := ho2 v hv; ⟨a, e⟩
          obtain ⟨n, hn⟩ := sortedAll_at s.heap its ((arrOf st').map (·.2))
          have hfr : H (s.heap.objs.size + 1) = none := I.hok.fresh (Nat.le_succ _)
          refine ⟨.ref (s.heap.objs.size + 1), upd H (s.heap.objs.size + 1) (.lst (out.map backV)), I.laid (t' := s.toks) (fun b o e => sortedAll_old e) (Nat.le_succ _) ⟨?_, out, n, vals_back h4, ?_⟩, rfl, ?_⟩
          · rw [List.length_map, pm.length_eq, ← rw_.length]; exact hz
          · rw [hn]
            have : (arrOf st').map (·.2) = out.toArray := by rw [← hout]
            rw [this]
          have r' : R X.K B S H σ env ([] ++ T) := r
          refine hQ _ _ _ _ (q2 _ perm pw (s.heap.objs.size + 1)) (R.newLst (P := []) r' hfr (vs := out.map backV) (os := (out.map (ksI s.heap)).map fun u => O.d (tupI u)) ?_ fun b => ?_)
          · have := OwnA.of_data (rp_keys ho2)
            rw [List.map_map] at this
            exact this
          · have : ((out.map (ksI s.heap)).map fun u => O.d (tupI u)) = ((out.map (ksI s.heap)).map tupI).map O.d := by simp only [List.map_map]; rfl
            rw [this, O.cntL_map]; exact Nat.zero_le _
      | _ => exact q.elim
end
end Vx
namespace Vx
open PySem PySem.Spec L2 PyProof.Rows

/-! ### t[lo:hi].count(x): a part of a tuple of ints, not the whole of it -/
def cntSl (ds : List D) (l h : Option Int) (Q : List Int → Prop) : Prop := ¬ (HT.sIx ds.length 0 l = 0 ∧ HT.sIx ds.length ds.length h = ds.length) ∧ onSome (intsOf (cutD ds l h)) Q
def wSlCnt (wa : WT) (wl wh : WO) (wb : WA) : WT := fun PX env P => wa PX env fun x env1 => wl PX env1 fun l env2 => wh PX env2 fun h env3 => useW x env3 fun dx => match dx with
  | .tuple ds => cntSl ds l h fun ns => wb PX env3 fun ws env4 => useWs ws env4 fun es => match es with
    | [.int i] => P (.o (.d (.int ((ns.countP fun y => decide (y = i) : Nat) : Int)))) env4
    | _ => False
  | _ => False
theorem reads_ints {h : Heap} : ∀ {ns : List Int} {us : List Value}, Vals (ns.map V.int) us → ∃ as, PySem.ReadsAll h us (ns.map PyData.int) as
  | [], _, .nil => ⟨[], .nil⟩
  | n :: ns, _, .cons r rs => by
    obtain ⟨t, rfl⟩ := r
    obtain ⟨as, hs⟩ := reads_ints rs
    exact ⟨[] ++ as, .cons (.int n t) hs⟩
theorem plainAll_ints : ∀ ns : List Int, PyData.plainAll (ns.map PyData.int) = true
  | [] => by simp only [List.map_nil, PyData.plainAll]
  | n :: ns => by simp only [List.map_cons, PyData.plainAll, PyData.plain, plainAll_ints ns, Bool.and_self]
theorem count_ints (ns : List Int) (i : Int) : ((ns.map PyData.int).countP fun y => PyData.eqv y (.int i)) = ns.countP fun y => decide (y = i) := by
  rw [List.countP_map]
  refine List.countP_congr fun y _ => ?_
  show PyData.eqv (.int y) (.int i) = true ↔ _
  rw [eqv_int]
section
variable {X : Cx} {B : Bs} {Wx : WX} {a b : Expr} {wa : WT} {wb : WA} {wl wh : WO} {lo hi : Option Expr} {spos p2 apos cpos : Pos}
theorem c_slCnt (hu : X.A.units + 200 < cLine) (ha : PV X B Wx a wa) (hl : PO X lo (tO X B Wx wl)) (hh : PO X hi (tO X B Wx wh)) (hb : SndA X B Wx [b] wb)
    (hbase : attributeBase (.Subscript a (.Slice lo hi none p2) spos) "count" X.env (eval (.Subscript a (.Slice lo hi none p2) spos) X.env) = eval (.Subscript a (.Slice lo hi none p2) spos) X.env)
    (hfew : ((backTo cpos (starEach [b] X.env)).all (fun x => !x.1) && (backToKw cpos (keywordEach [] X.env)).all (fun x => x.1.isSome) && decide ([b].length + ([] : List Keyword).length + (if ([] : List Keyword).isEmpty then 0 else 1) < 30)) = true)
    (hline : (apos.endLine == cpos.line) = true) (hs : starEach [b] X.env = (false, eval b X.env) :: starEach [] X.env) (hplain : (backTo cpos (starEach [] X.env)).any (·.1) = false) :
    PV X B Wx (.Call (.Attribute (.Subscript a (.Slice lo hi none p2) spos) "count" apos) [b] [] cpos) (wSlCnt wa wl wh wb) := by
  refine ⟨fun pins s σ H Q I ⟨S, env, T, P, PX, r, hw, hP, hX⟩ => ?_⟩
  refine wpAny_Call_method_late hbase hfew hline rfl ?_
  have q0 : tE X B Wx wa σ H fun vx H1 => tO X B Wx wl σ H1 fun l H2 => tO X B Wx wh σ H2 fun h H3 => ∃ S3 env3 w, R X.K B S3 H3 σ env3 ((vx, w) :: T) ∧ useW w env3 fun dx => match dx with
      | .tuple ds => cntSl ds l h fun ns => wb PX env3 fun ws env4 => useWs ws env4 fun es => match es with
        | [.int i] => P (.o (.d (.int ((ns.countP fun y => decide (y = i) : Nat) : Int)))) env4
        | _ => False
      | _ => False := by
    refine ⟨S, env, T, _, PX, r, hw, fun x env1 vx S1 H1 hq r1 => ?_, hX⟩
    refine ⟨S1, env1, (vx, x) :: T, _, PX, r1, hq, fun l env2 S2 H2 hq2 r2 => ?_, hX⟩
    refine ⟨S2, env2, (vx, x) :: T, _, PX, r2, hq2, fun h env3 S3 H3 hq3 r3 => ?_, hX⟩
    exact ⟨S3, env3, x, r3, hq3⟩
  refine Subscript_ (thn (ha.run pins s σ H _ I q0) fun v s1 ⟨vx, H1, I1, rx, q1⟩ => ?_)
  refine wpAny_Slice (thn (hl.run pins s1 σ H1 _ I1 q1) fun vl s2 ⟨l, H2, I2, pl, q2⟩ => thn (hh.run pins s2 σ H2 _ I2 q2) fun vu s3 ⟨h, H3, I3, pu, q3⟩ => ?_)
  rw [evalPart_none]
  refine wpAny_pure ?_
  generalize hs4 : ({ s3 with heap := s3.heap.push { cls := .type "slice", data := .fields #[vl, vu, .none] } } : Shared) = s4
  have I4 : L2.Inv X pins σ H3 s4 := by rw [← hs4]; exact I3.kept (t' := s3.toks) fun b ob q => Heap.get?_push_of_some _ q
  have isl : s4.heap.IsSliceOf s3.heap.objs.size vl vu .none := by rw [← hs4]; exact Heap.IsSliceOf.new ..
  obtain ⟨S3, env3, w, r3, q3⟩ := q3
  obtain ⟨S4, dx, r4, q4, ux⟩ := use1 r3 q3
  cases dx with
  | tuple ds =>
    obtain ⟨nw, q4⟩ := q4
    obtain ⟨ns, hns, q4⟩ := onSome_some q4
    obtain ⟨t, vs, rfl, hq, ra⟩ := ux.tup
    cases rx
    have hlen := ra.length
    obtain ⟨its, rv, ht, hz⟩ := I4.tuple hq
    have hsz : its.toArray.size = vs.length := by rw [List.size_toArray]; exact rv.length.symm
    have rc : RpA X.K S4 H3 (cutV vs l h) (cutD ds l h) := by
      unfold cutV cutD
      rw [hlen]
      exact (ra.drop _).take _
    have hn : H3 s4.heap.objs.size = none := I4.hok.fresh (Nat.le_refl _)
    refine tail_any (ops := [.ref s3.heap.objs.size, .ref t]) ht.typeIs PyProof.Rows.slot_tuple_getitem.lookup ?_ (by with_unfolding_all rfl)
    refine HT.getItem_tuple_cut ht isl pl pu (by rw [hsz, hlen]; exact nw) ?_ (by rw [hsz]; exact hz)
    have I5 := I4.laid (t' := s4.toks) (o := .tup (cutV vs l h)) (fun b ob q => Heap.get?_push_of_some _ q) (Nat.le_refl _) (show ObjOk X.prog X.w H3 (s4.heap.push { cls := .type "tuple", data := .seq ((its.toArray.toList.drop (HT.sIx its.toArray.size 0 l)).take (HT.sIx its.toArray.size its.toArray.size h - HT.sIx its.toArray.size 0 l)).toArray }) s4.heap.objs.size (.tup (cutV vs l h)) from by
      refine ⟨Nat.le_trans (cutV_length vs l h) hz, ((its.toArray.toList.drop (HT.sIx its.toArray.size 0 l)).take (HT.sIx its.toArray.size its.toArray.size h - HT.sIx its.toArray.size 0 l)), ?_, IsTup.new _ _⟩
      rw [hsz]
      exact (rv.drop _).take _)
    have r5 := newTup r4 hn rc
    refine ⟨"tuple", "tuple.count", PySem.F.plainAttrs_tuple, PySem.F.slot_tuple_count, PySem.F.type_tuple_count, ⟨_, Heap.get?_push_size _ rfl, rfl⟩, fun a e => ?_, ?_⟩
    · cases e
      exact ⟨_, Heap.get?_push_size _ rfl, rfl⟩
    have h2 : tA' X B Wx wb σ (upd H3 s4.heap.objs.size (.tup (cutV vs l h))) fun ys H4 => ∃ S5 env5 i, R X.K B S5 H4 σ env5 ((.ref s4.heap.objs.size, .o (.d (.tuple (cutD ds l h)))) :: T) ∧ ys = [V.int i] ∧ P (.o (.d (.int ((ns.countP fun y => decide (y = i) : Nat) : Int)))) env5 := by
      refine ⟨S4, env3, _, _, PX, r5, q4, fun env5 Z S5 H4 q5 r6 => ?_, hX⟩
      obtain ⟨S6, es, r7, q6, ud⟩ := r6.usedAll q5
      match es, ud, q6 with
      | [.int i], ud, q6 =>
        obtain ⟨v, e, u⟩ := ud.one
        exact ⟨S6, env5, i, r7.pops, by rw [e, u.int], q6⟩
    have hA := hb.run cpos pins _ σ _ _ I5 h2
    rw [hs] at hA ⊢
    refine Calls.callWith_builtin (by show (false || (backTo cpos (starEach [] X.env)).any (·.1)) = false; rw [hplain] <;> rfl) (Calls.evalArgs_plain ?_)
    refine thn hA fun us s6 ⟨ys, H4, I6, ry, S5, env5, i, r8, ey, q7⟩ => ?_
    subst ey
    obtain ⟨u, rfl, ru⟩ := vals1 ry
    obtain ⟨tk, rfl⟩ := ru
    have rt : Rp X.K S5 H4 (.ref s4.heap.objs.size) (.tuple (cutD ds l h)) := r8.dataTop
    rw [intsOf_eq hns] at rt
    cases rt with
    | tup f rb =>
      have ev := RpA.ints rb
      subst ev
      obtain ⟨js, rj, hj, _⟩ := I6.tuple f
      obtain ⟨as, hrd⟩ := reads_ints (h := s6.heap) rj
      refine PySem.SeqAt.count_tuple_data hj (by simpa using hrd) (.int i tk) (plainAll_ints ns) (by simp only [PyData.plain]) (by simp only [PyData.depth, Nat.min_zero]; omega) ?_
      rw [count_ints]
      exact ⟨.int _, H4, I6.tok _, ⟨s6.toks, rfl⟩, hP _ _ _ _ _ q7 (r8.pop.push (.int _))⟩
  | _ => exact q4.elim
end
theorem room_u {k : Nat} {A : Around} (r : Room k A) : A.units + 200 < cLine := by have := r.un; omega
end Vx
namespace Vx
open PySem PySem.Spec L2 PyProof.Rows

/-! ### set of a list of ints -/
section
variable {P : Program} {w : World} {A : Around} {E : Value → Shared → Prop} {s : Shared}
set_option maxRecDepth 100000 in
set_option maxHeartbeats 3200000 in
theorem call_set_lstI {l : Addr} {items : Array Value} (ns : List Int) {Q : Value → Shared → Prop} (hh : A.handled = none) (hl : s.heap.IsList l items) (hit : IntsAre items.toList ns) (hb : ns.length + 1 < scanBound)
    (h : ∀ (h' : Heap) (tk c : Nat), SetR w h' s.heap.objs.size (fun j => decide (j ∈ ns)) c → c ≤ ns.length → (∀ b o, s.heap.get? b = some o → h'.get? b = some o) → Q (.ref s.heap.objs.size) { s with heap := h', toks := tk }) :
    wpAny (model P w) A (call (.type "set") [.ref l]) Q E s := by
  have hisz : items.size = ns.length := by
    have q := IntsAre.length hit
    rw [Array.length_toList] at q
    exact q
  obtain ⟨c, tl, hmro⟩ := F.called_set.mro
  have hmade := F.called_set.made
  have hsub := F.called_set.sub
  refine wpAny_call (codeAny_of_tree ?_)
  show wpAny _ _ (callAny (.type "set") _) _ _ _
  refine wpAny_pure ⟨Code.quiet_builtin _ (by decide +kernel), codeAny_builtin F.entry_type_call ?_⟩
  rw [Around.under_plain (weight_type_call_type "set" [.ref l] []) rfl]
  have h1 := F.called_set.notType
  have h2 := F.called_set.canCreate
  have hct := F.typeCall_set_1 (.ref l)
  repeat (any_goals (first | assumption | wp_step))

  refine codeAny_mono (code_set_led1 (.ref l) (E := E) (Q₁ := fun obj s₁ => obj = .ref s.heap.objs.size ∧ s₁ = { s with heap := s.heap.push { cls := .type "set", dict := none, data := .set #[] 0 (.fresh 0 0 (!w.params.followText "set-order")) } }) ⟨rfl, rfl⟩) fun r s₁ hr => ?_
  cases r with
  | error e => exact hr
  | ok fl =>
    cases fl with
    | ret obj =>
      obtain ⟨rfl, rfl⟩ := hr
      have hS : (s.heap.push { cls := .type "set", dict := none, data := .set #[] 0 (.fresh 0 0 (!w.params.followText "set-order")) }).get? s.heap.objs.size = some { cls := .type "set", dict := none, data := .set #[] 0 (.fresh 0 0 (!w.params.followText "set-order")) } := Heap.get?_push_size _ rfl
      have hT : Shared.TypeIs { s with heap := s.heap.push { cls := .type "set", dict := none, data := .set #[] 0 (.fresh 0 0 (!w.params.followText "set-order")) } } (.ref s.heap.objs.size) "set" := ⟨_, hS, rfl⟩
      have hli := F.called_set.init.lookup
      have hbi := F.called_set.init.bind (.ref s.heap.objs.size)
      repeat (any_goals (first | assumption | wp_step))

      refine codeAny_mono (codeAny_call_builtin (R := wants (fun r s₂ => r = .none ∧ ∃ h' tk c, s₂ = { s with heap := h', toks := tk } ∧ SetR w h' s.heap.objs.size (fun j => decide (j ∈ ns)) c ∧ c ≤ ns.length ∧
          (∀ b o, s.heap.get? b = some o → h'.get? b = some o)) E) F.called_set.init.plain F.entry_set_init (check_set_init_1 hT ?_)) fun r₂ s₂ hr₂ => ?_
      · obtain ⟨ol, hol, hcl, nl, hdl⟩ := hl
        obtain ⟨ocls, odict, odata, oslots⟩ := ol
        simp only at hcl hdl
        subst hcl; subst hdl
        have hol' : (s.heap.push { cls := .type "set", dict := none, data := .set #[] 0 (.fresh 0 0 (!w.params.followText "set-order")) }).get? l = some { cls := .type "list", dict := odict, data := .seq items nl, slots := oslots } := Heap.get?_push_of_some _ hol
        have hsls := F.sub_list_set
        have hslf := F.sub_list_frozenset
        have hne : (Value.type "list" == Value.type "dict") = false := by decide
        have hl1 : (s.heap.push { cls := .type "set", dict := none, data := .set #[] 0 (.fresh 0 0 (!w.params.followText "set-order")) }).IsList l items := ⟨_, hol', rfl, nl, rfl⟩
        unfold Builtin.«set.__init__» noKeywords Builtin.Frozenset.updateFrom
        generalize hPI : pyIter = PI
        wp_walk
        subst hPI

        refine wpAny_pyIter_list hl1 ?_
        refine wpAny_bind (wpAny_runValue ?_)
        have hlS : l < s.heap.objs.size := Heap.lt_size hol
        have hh3 : A.in1.in1.in1.handled = none := by simp [hh]
        have hz1 : (s.heap.push { cls := .type "set", dict := none, data := .set #[] 0 (.fresh 0 0 (!w.params.followText "set-order")) }).objs.size = s.heap.objs.size + 1 := Heap.size_push ..
        have hneI : l ≠ (s.heap.push { cls := .type "set", dict := none, data := .set #[] 0 (.fresh 0 0 (!w.params.followText "set-order")) }).objs.size := by
          rw [Heap.size_push]; exact Nat.ne_of_lt (Nat.lt_succ_of_lt hlS)
        have hSf : s.heap.objs.size ∉ [(s.heap.push { cls := .type "set", dict := none, data := .set #[] 0 (.fresh 0 0 (!w.params.followText "set-order")) }).objs.size, l] := by
          rw [Heap.size_push]; simp only [List.mem_cons, List.mem_singleton, List.not_mem_nil, or_false, not_or]
          exact ⟨Nat.ne_of_lt (Nat.lt_succ_self _), Nat.ne_of_gt hlS⟩
        have hval : ∀ (i : Nat) (v : Value), items[i]? = some v → ∃ k t, ns[i]? = some k ∧ v = .int k t := fun i v hv => by
          have hi : i < ns.length := by rw [← hisz]; exact (Array.getElem?_eq_some_iff.mp hv).1
          obtain ⟨t, e⟩ := PyProof.Rows.IntsAre.int_at hit i v (by rw [Array.getElem?_toList]; exact hv)
          refine ⟨ns[i], t, List.getElem?_eq_getElem hi, ?_⟩
          rw [e, List.getD_eq_getElem?_getD, List.getElem?_eq_getElem hi] <;> rfl
        refine set_update_ints ((Walks.list hh3 _ l hneI items).toS) s.heap.objs.size
          hSf ns hisz hb hval (items.size - 0) 0 _ (by omega) (Nat.zero_le _)
          ⟨⟨_, Heap.get?_push_size _ rfl, rfl, rfl⟩, (hl1.push _)⟩ ?hS0 ?hR
        case hS0 =>
          have hget : ((s.heap.push { cls := .type "set", dict := none, data := .set #[] 0 (.fresh 0 0 (!w.params.followText "set-order")) }).push { cls := .type "list_iterator", data := .fields #[.ref l, .int 0 0] }).get? s.heap.objs.size
              = some { cls := .type "set", dict := none, data := .set #[] 0 (.fresh 0 0 (!w.params.followText "set-order")) } := Heap.get?_push_of_some _ hS
          exact ⟨0, Nat.le_refl 0, setR_new_at hget⟩
        case hR =>
          intro s' c' hm hc' hS'
          obtain ⟨h', g2, d', tk', os'⟩ := s'
          have eg : g2 = s.gens := hm.gens
          have ed : d' = s.drawn := hm.drawn
          have eo : os' = s.os := hm.os
          subst eg; subst ed; subst eo
          show wpAny _ _ _ _ _ _
          refine wpAny_pure ?_
          show wpAny _ _ (ret Value.none) _ _ _
          rw [hisz] at hc'
          refine wpAny_pure ⟨rfl, h', tk', c', rfl, hS', hc', fun b o e => ?_⟩
          have hb0 : b < s.heap.objs.size := Heap.lt_size e
          have hb1 : b ≠ s.heap.objs.size := Nat.ne_of_lt hb0
          have hb2 : b ≠ (s.heap.push { cls := .type "set", dict := none, data := .set #[] 0 (.fresh 0 0 (!w.params.followText "set-order")) }).objs.size := by
            rw [Heap.size_push]; exact Nat.ne_of_lt (Nat.lt_succ_of_lt hb0)
          exact hm.heap b o (by simp only [List.mem_cons, List.mem_singleton, List.not_mem_nil, or_false, not_or]; exact ⟨hb1, hb2⟩) (Heap.get?_push_of_some _ (Heap.get?_push_of_some _ e))

      · cases r₂ with
        | error e => exact hr₂
        | ok fl₂ =>
          cases fl₂ with
          | ret r =>
            obtain ⟨rfl, h', tk, c', rfl, hS', hc', hk'⟩ := hr₂
            repeat (any_goals (first | assumption | wp_step))
            exact h _ _ _ hS' hc' hk'
          | _ => exact hr₂.elim
    | _ => exact hr.elim

end
end Vx
namespace Vx
open PySem PySem.Spec L2 PyProof.Rows

/-! ### list(range(n)); sorted(set(a list of ints)) -/
/-- list(range(n)) -/
def wLRg (wa : WT) : WT := fun PX env P => wa PX env fun w env1 => match w with
  | .o (.d (.int i)) => -(2 ^ 62) ≤ i ∧ i ≤ 16777216 ∧ ∀ a, P (.o (.lst a ((upTo 0 i.toNat).map .d))) env1
  | _ => False
/-- sorted(set(..)) -/
def fSetSort : DSem
  | [.list ds], Q => onSome (intsOf ds) fun ns => ns.length < 64 ∧ ∀ ms : List Int, ms.Pairwise (· < ·) → (∀ k : Int, k ∈ ms ↔ k ∈ ns) → ∀ a, Q (.lst a ((ms.map PyData.int).map .d))
  | _, _ => False
section
variable {X : Cx} {B : Bs} {Wx : WX} {a e : Expr} {wa we : WT} {wl : WA} {pos pos2 : Pos}
theorem rgV_up {n : Int} : rgV 0 n = (List.range n.toNat).map fun (i : Nat) => V.int (0 + (i : Int)) := by
  unfold rgV
  rw [Int.sub_zero]
theorem c_lstRg {p p2 : Pos} (hc : X.calm = true) (hg : Gl X "list") (hm : X.mg "list" = none) (hg2 : Gl X "range") (hm2 : X.mg "range" = none) (h : PV X B Wx a wa)
    (na : starEach [a] X.env = (false, eval a X.env) :: starEach [] X.env) (nb : starEach [.Call (.Name "range" p2) [a] [] pos2] X.env = (false, eval (.Call (.Name "range" p2) [a] [] pos2) X.env) :: starEach [] X.env) :
    PV X B Wx (.Call (.Name "list" p) [.Call (.Name "range" p2) [a] [] pos2] [] pos) (wLRg wa) := by
  have base := pe_listRg (p := p) (pos := pos) hc hg hm (prg_1 (p := p2) (pos := pos2) hg2 hm2 h na) nb
  refine ⟨fun pins s σ H Q I h => base.run pins s σ H Q I ?_⟩
  obtain ⟨S, env, T, P, PX, r, hw, hP, hX⟩ := h
  refine ⟨S, env, T, _, PX, r, hw, fun x env1 v S1 H1 q r1 => ?_, hX⟩
  cases x with
  | al _ _ _ => exact q.elim
  | o o =>
    cases o with
    | d d =>
      cases d with
      | int i =>
        obtain ⟨b1, b2, q⟩ := q
        have ev := r1.intTop
        subst ev
        refine ⟨i, rfl, ⟨by decide, by decide, b1, by omega, by rw [Int.sub_zero]; omega⟩, fun p hp => ?_⟩
        have r2 : R X.K B S1 H1 σ env1 ([] ++ T) := r1.pop
        refine hP _ _ _ _ _ (q p) (R.newLst (P := []) r2 hp (vs := rgV 0 i) (os := (upTo 0 i.toNat).map .d) ?_ fun b => ?_)
        · rw [rgV_up]
          refine OwnA.of_data ?_
          unfold upTo
          have key : ∀ l : List Nat, RpA X.K S1 H1 (l.map fun (i : Nat) => V.int (0 + (i : Int))) (l.map fun (i : Nat) => PyData.int (0 + (i : Int))) := by
            intro l
            induction l with
            | nil => exact .nil
            | cons x l ih => exact .cons (.int _) ih
          exact key _
        · rw [O.cntL_map]; exact Nat.zero_le _
      | _ => exact q.elim
    | _ => exact q.elim
theorem c_setSort {p p2 : Pos} (hc : X.calm = true) (hg : Gl X "sorted") (hm : X.mg "sorted" = none) (hg2 : Gl X "set") (hm2 : X.mg "set" = none) (ha : SndA X B Wx [e] wl)
    (na : starEach [e] X.env = (false, eval e X.env) :: starEach [] X.env) (nb : starEach [.Call (.Name "set" p2) [e] [] pos2] X.env = (false, eval (.Call (.Name "set" p2) [e] [] pos2) X.env) :: starEach [] X.env) :
    PV X B Wx (.Call (.Name "sorted" p) [.Call (.Name "set" p2) [e] [] pos2] [] pos) (wBlt fSetSort wl) := by
  refine ⟨fun pins s σ H Q I h => ?_⟩
  obtain ⟨S, env, T, P, PX, r, hw, hP, hX⟩ := h
  have mid : wpAny (model X.prog X.w) X.A (eval (.Call (.Name "set" p2) [e] [] pos2) X.env) (fun v s1 => ∃ (b : Addr) (S1 : Fz) (H1 : Hp) (env1 : Env) (ns : List Int) (c : Nat), v = .ref b ∧ L2.Inv X pins σ H1 s1 ∧ H1 b = some (SetO X.w b (fun j => decide (j ∈ ns)) c) ∧ c ≤ ns.length ∧ R X.K B S1 H1 σ env1 T ∧
      ns.length < 64 ∧ ∀ ms : List Int, ms.Pairwise (· < ·) → (∀ k : Int, k ∈ ms ↔ k ∈ ns) → ∀ a, P (.o (.lst a ((ms.map PyData.int).map .d))) env1) X.xe s := by
    refine wpAny_Call_Name_kw (ld_blt I hg2 hm2 PyProof.Rows.boot_set (PyProof.Rows.callWith_type1 (thn (ha.run pos2 pins s σ H (fun vs H1 => ∃ S1 env1 ds, R X.K B S1 H1 σ env1 T ∧ UdA X.K S1 H1 vs ds ∧ fSetSort ds fun o => P (.o o) env1) I ⟨S, env, T, _, PX, r, hw, fun env1 Z S1 H1 q r1 => ?_, hX⟩) fun us s1 ⟨vs, H1, I1, rv, S1, env1, ds, r1, ud, q⟩ => ?_) na rfl) (by decide) (by decide))
    · obtain ⟨S2, ds, r2, q, ud⟩ := r1.usedAll q
      exact ⟨S2, env1, ds, r2.pops, ud, q⟩
    · cases ud with
      | nil => exact q.elim
      | cons u us' =>
        rename_i v d vs' ds'
        cases us' with
        | cons _ _ => cases d <;> exact q.elim
        | nil =>
          cases d with
          | list ds =>
            obtain ⟨ns, e, hl6, q2⟩ := onSome_some q
            obtain rfl := intsOf_eq e
            obtain ⟨b, ws, rfl, hs, rs⟩ := u.list
            obtain rfl := Vals.ref1 rv
            obtain ⟨its, rw_, hl, hz⟩ := I1.list hs
            have ew : ws = ns.map V.int := RpA.ints rs
            subst ew
            have hI : IntsAre its ns := ints_of_vals rw_
            refine call_set_lstI ns (I1.ok.hd hc) hl.isList (by simpa using hI) (Nat.lt_of_le_of_lt (show ns.length + 1 ≤ 64 by omega) (by decide)) fun h' tk c R' hcl hk' => ?_
            have hn : H1 s1.heap.objs.size = none := I1.hok.fresh (Nat.le_refl _)
            exact ⟨s1.heap.objs.size, S1, upd H1 s1.heap.objs.size (SetO X.w s1.heap.objs.size (fun j => decide (j ∈ ns)) c), env1, ns, c, rfl, I1.laid (t' := tk) hk' (Nat.le_refl _) (setO_new R'), if_pos rfl, hcl, r1.alloc hn, hl6, q2⟩
          | _ => exact q.elim
  refine wpAny_Call_Name_kw (ld_blt I hg hm PyProof.Rows.boot_sorted (PyProof.Rows.callWith_builtin1 (args_cons (thn mid fun v s1 ⟨b, S1, H1, env1, ns, c, ev, I1, hb, hcl, r1, h64, q⟩ => args_nil ?_) nb) nb rfl) (by decide) (by decide))
  subst ev
  refine cr_sortedSet hc pins s1 σ H1 [.ref b] [.ref b] Q I1 (.cons rfl .nil) ⟨b, _, c, rfl, hb, by omega, fun ms p hs hm hl hp => ?_⟩
  have r2 : R X.K B S1 H1 σ env1 ([] ++ T) := r1
  have hm2 : ∀ k : Int, k ∈ ms ↔ k ∈ ns := fun k => by rw [hm k]; exact decide_eq_true_iff
  refine hP _ _ _ _ _ (q ms hs hm2 p) (R.newLst (P := []) r2 hp (vs := ms.map V.int) (os := (ms.map PyData.int).map .d) ?_ fun b => ?_)
  · refine OwnA.of_data ?_
    have key : ∀ l : List Int, RpA X.K S1 H1 (l.map V.int) (l.map PyData.int) := by
      intro l
      induction l with
      | nil => exact .nil
      | cons x l ih => exact .cons (.int _) ih
    exact key _
  · rw [O.cntL_map]; exact Nat.zero_le _
end
end Vx
namespace Vx
open PySem PySem.Spec L2 PyProof.Rows

/-! ### the least, the greatest of a list of ints -/
def fMaxL : DSem
  | [.list ds], Q => onSome (intsOf ds) fun ns => 0 < ns.length ∧ ∀ m, m ∈ ns → (∀ y ∈ ns, y ≤ m) → Q (.d (.int m))
  | _, _ => False
def fMinL : DSem
  | [.list ds], Q => onSome (intsOf ds) fun ns => 0 < ns.length ∧ ∀ m, m ∈ ns → (∀ y ∈ ns, m ≤ y) → Q (.d (.int m))
  | _, _ => False
/-- the least, something else where there is none -/
def wMinDf (wa wd : WT) : WT := fun PX env P => wa PX env fun x env1 => wd PX env1 fun y env2 => useW x env2 fun dx => match dx, y with
  | .list xs, .o (.d dy) => onSome (intsOf xs) fun ns => (ns = [] → P (.o (.d dy)) env2) ∧ (ns ≠ [] → ∀ m, m ∈ ns → (∀ z ∈ ns, m ≤ z) → P (.o (.d (.int m))) env2)
  | _, _ => False
section
variable {X : Cx} {B : Bs} {Wx : WX} {a e : Expr} {wa wd : WT} {wl : WA} {pos kp p : Pos}
theorem ok_maxL (hc : X.calm = true) : BltOk X (.builtin "max") fMaxL := by
  intro pins s σ H vs us Q B S env T ds k I rv r ud q hQ
  cases ud with
  | nil => exact q.elim
  | cons u us' =>
    rename_i v d vs' ds'
    cases us' with
    | cons _ _ => cases d <;> exact q.elim
    | nil =>
      cases d with
      | list ds =>
        obtain ⟨ns, e, h0, q2⟩ := onSome_some q
        obtain rfl := intsOf_eq e
        obtain ⟨b, ws, rfl, hs, rs⟩ := u.list
        obtain rfl := RpA.ints rs
        exact cr_max hc pins s σ H _ us Q I rv ⟨b, ns, rfl, hs, h0, fun m h1 h2 => hQ _ _ _ _ (q2 m h1 h2) (r.push (.int m))⟩
      | _ => exact q.elim
theorem ok_minL (hc : X.calm = true) : BltOk X (.builtin "min") fMinL := by
  intro pins s σ H vs us Q B S env T ds k I rv r ud q hQ
  cases ud with
  | nil => exact q.elim
  | cons u us' =>
    rename_i v d vs' ds'
    cases us' with
    | cons _ _ => cases d <;> exact q.elim
    | nil =>
      cases d with
      | list ds =>
        obtain ⟨ns, e, h0, q2⟩ := onSome_some q
        obtain rfl := intsOf_eq e
        obtain ⟨b, ws, rfl, hs, rs⟩ := u.list
        obtain rfl := RpA.ints rs
        exact cr_min hc pins s σ H _ us Q I rv ⟨b, ns, rfl, hs, h0, fun m h1 h2 => hQ _ _ _ _ (q2 m h1 h2) (r.push (.int m))⟩
      | _ => exact q.elim
theorem least_of {n : Int} : ∀ {ns : List Int}, ns.foldl min n ∈ n :: ns ∧ ∀ y ∈ n :: ns, ns.foldl min n ≤ y := by
  intro ns
  induction ns generalizing n with
  | nil => exact ⟨List.mem_cons_self, fun y hy => by rw [List.mem_singleton.mp hy]; exact Int.le_refl _⟩
  | cons x ns ih =>
    obtain ⟨h1, h2⟩ := ih (n := min n x)
    rw [List.foldl_cons]
    refine ⟨?_, fun y hy => ?_⟩
    · rcases List.mem_cons.mp h1 with h | h
      · rw [h]
        rcases Int.le_total n x with c | c
        · rw [Int.min_eq_left c]; exact List.mem_cons_self
        · rw [Int.min_eq_right c]; exact List.mem_cons_of_mem _ List.mem_cons_self
      · exact List.mem_cons_of_mem _ (List.mem_cons_of_mem _ h)
    · have h0 := h2 (min n x) List.mem_cons_self
      rcases List.mem_cons.mp hy with h | hy
      · rw [h]; omega
      · rcases List.mem_cons.mp hy with h | hy
        · rw [h]; omega
        · exact h2 y (List.mem_cons_of_mem _ hy)
theorem alike_ints {ns : List Int} : PySem.W.AlikeAll (ns.map PyData.int) := by
  refine ⟨fun x hx y hy => ?_, fun x hx => ?_⟩
  · obtain ⟨i, _, rfl⟩ := List.mem_map.mp hx
    obtain ⟨j, _, rfl⟩ := List.mem_map.mp hy
    simp [PySem.W.alike]
  · obtain ⟨i, _, rfl⟩ := List.mem_map.mp hx
    exact nofun
theorem depth_ints {ns : List Int} : PyData.depthAll (ns.map PyData.int) ≤ 1 := by
  induction ns with
  | nil => simp [PyData.depthAll]
  | cons n ns ih => rw [List.map_cons]; simp only [PyData.depthAll, PyData.depth]; omega
def rMinDf (K : PySem.W.Frag) : List V → List V → Hp → VK → Prop := fun vs zs H Q => ∃ (b : Addr) (ns : List Int) (z : V), vs = [V.ref b] ∧ zs = [z] ∧ SqL K H b (ns.map V.int) ∧ (ns = [] → Q z H) ∧ (ns ≠ [] → ∀ m, m ∈ ns → (∀ y ∈ ns, m ≤ y) → Q (.int m) H)
theorem cr_minDf {k : Nat} (hr : Room k X.A) (hc : X.calm = true) : CallRK X (.builtin "min") [Str.ofString "default"] (rMinDf X.K) := by
  intro pins s σ H vs zs us ws Q I r rz h
  obtain ⟨b, ns, z, rfl, rfl, hs, q0, q1⟩ := h
  obtain rfl := Vals.ref1 r
  obtain ⟨w1, rfl, rw1⟩ := vals1 rz
  obtain ⟨its, rv, hl, _⟩ := I.list hs
  have hi : IntsAre its ns := ints_of_vals rv
  have hu := hr.un
  have hd := depth_ints (ns := ns)
  refine PySem.W.min_list_default (xs := ns.map PyData.int) (I.ok.hd hc) hl.isList (by simpa using hi.reads s.heap) alike_ints (by omega) (fun e h' tk hk => ?_) fun y ys i v h' tk bs e hv hrd hk => ?_
  · exact ⟨z, H, I.kept hk, rw1, q0 (List.map_eq_nil_iff.mp e)⟩
  · cases ns with
    | nil => cases e
    | cons n ns =>
      rw [List.map_cons] at e
      injection e with e1 e2
      subst e1 e2
      rw [PySem.W.minD_ints] at hrd
      cases hrd
      obtain ⟨h1, h2⟩ := least_of (n := n) (ns := ns)
      exact ⟨.int _, H, I.kept hk, ⟨_, rfl⟩, q1 (by simp) _ h1 h2⟩
theorem c_minDf {k : Nat} (hr : Room k X.A) (hc : X.calm = true) (hg : Gl X "min") (hm : X.mg "min" = none) (ha : PV X B Wx a wa) (hd : PV X B Wx e wd)
    (na : starEach [a] X.env = (false, eval a X.env) :: starEach [] X.env)
    (he : backTo pos (starEach [a] X.env) = (false, eval a X.env) :: backTo pos (starEach [] X.env)) (hpl : (backTo pos (starEach [a] X.env)).any (·.1) = false)
    (hall : (backToKw pos (keywordEach [⟨some "default", e, kp⟩] X.env)).all (·.1.isSome) = true) (hnone : (backToKw pos (keywordEach [⟨some "default", e, kp⟩] X.env)).any (·.1.isNone) = false) (hks : (backToKw pos (keywordEach [⟨some "default", e, kp⟩] X.env)).filterMap (·.1) = [Str.ofString "default"]) :
    PV X B Wx (.Call (.Name "min" p) [a] [⟨some "default", e, kp⟩] pos) (wMinDf wa wd) := by
  refine PE_imp (pe_callBK (cr_minDf hr hc) hg hm PyProof.Rows.boot_min (pa_cons ha pa_nil na) (pk_cons hd pk_nil) (by decide) (by decide) he hpl hall hnone hks) fun σ H Q h => ?_
  have := s_two (r2 := fun x y H Q => rMinDf X.K [x] [y] H Q) (fun S H σ env T vx vy x y P Q r hk hP => ?_) h
  · exact this
  · have rp : R X.K B S H σ env ((vx, x) :: (vy, y) :: T) := r.perm (fun t ht => by
      rcases List.mem_cons.mp ht with e | ht
      · subst e; exact List.mem_cons_of_mem _ List.mem_cons_self
      · rcases List.mem_cons.mp ht with e | ht
        · subst e; exact List.mem_cons_self
        · exact List.mem_cons_of_mem _ (List.mem_cons_of_mem _ ht)) fun b => by
      show cntW b x + (cntW b y + cntT b T) ≤ cntW b y + (cntW b x + cntT b T)
      omega
    obtain ⟨S', r2, f⟩ := R.used (P := [(vx, x)]) (T := (vy, y) :: T) rp
    obtain ⟨dx, hk2, ux⟩ := f (vx, x) List.mem_cons_self _ hk
    have r3 : R X.K B S' H σ env ((vy, y) :: T) := R.pops r2
    cases dx with
    | list xs =>
      cases y with
      | al _ _ _ => exact hk2.elim
      | o oy =>
        cases oy with
        | d dy =>
          obtain ⟨ns, e, k0, k1⟩ := onSome_some hk2
          obtain rfl := intsOf_eq e
          obtain ⟨b, ws, rfl, hs, rs⟩ := ux.list
          obtain rfl := RpA.ints rs
          exact ⟨b, ns, vy, rfl, rfl, hs, fun h0 => hP _ _ _ _ _ (k0 h0) r3, fun h0 m h1 h2 => hP _ _ _ _ _ (k1 h0 m h1 h2) (r3.pop.push (.int m))⟩
        | _ => exact hk2.elim
    | _ => exact hk2.elim
end
end Vx
/-! a set of texts that can be walked: made of a list or a tuple, sorted -/
namespace SX
open PySem PySem.Spec L2 PyProof.Rows
def txtOf (e : Int × Value) : Str := match e.2 with | .str x _ => x | _ => Str.empty
def IsTxt (pr : Program) (wd : World) (e : Int × Value) : Prop := ∃ x tk, e.2 = .str x tk ∧ e.1 = (PySem.strKind pr wd).hash x
/-- the set at z has just the texts of ts; its table can be walked -/
def WSet (pr : Program) (wd : World) (hp : Heap) (z : Addr) (ts : List Str) : Prop :=
  ∃ ob es ep tb, hp.get? z = some ob ∧ ob.ExactSet ∧ ob.data = .set es ep tb ∧ (∀ e ∈ es.toList, IsTxt pr wd e) ∧ (es.toList.map txtOf).Nodup ∧ (∀ x, x ∈ ts ↔ x ∈ es.toList.map txtOf) ∧ es.size < scanBound ∧ tb.fits es.size = true ∧ es.size ≤ ts.length ∧
    Ris tb.place.toList ∧ (wd.params.followText "set-order" = true ∨ tb.led = true)
section
variable {pr : Program} {wd : World} {hp hq : Heap} {z : Addr} {ts : List Str}
theorem WSet.moved (W : WSet pr wd hp z ts) (k : ∀ o, hp.get? z = some o → hq.get? z = some o) : WSet pr wd hq z ts := by
  obtain ⟨ob, es, ep, tb, ho, r⟩ := W
  exact ⟨ob, es, ep, tb, k ob ho, r⟩
theorem WSet.same {us : List Str} (W : WSet pr wd hp z ts) (h : ∀ x, x ∈ us ↔ x ∈ ts) (hl : ts.length ≤ us.length) : WSet pr wd hp z us := by
  obtain ⟨ob, es, ep, tb, ho, h1, h2, h3, h4, h5, h6, h7, h8, h9⟩ := W
  exact ⟨ob, es, ep, tb, ho, h1, h2, h3, h4, fun x => (h x).trans (h5 x), h6, h7, Nat.le_trans h8 hl, h9⟩
theorem txt_is {e : Int × Value} (g : IsTxt pr wd e) (x : Str) : (PySem.strKind pr wd).is x e.2 = true ↔ txtOf e = x := by
  obtain ⟨y, tk, h1, _⟩ := g
  unfold txtOf
  rw [h1]
  constructor
  · intro h
    have h : Value.isStrOf x (.str y tk) = true := h
    obtain ⟨t, ht⟩ := Value.isStrOf_shape h
    injection ht
  · intro h
    have h : y = x := h
    subst h
    exact strKind_is _ _ _ _
theorem txt_mem {l : List (Int × Value)} (g : ∀ e ∈ l, IsTxt pr wd e) (x : Str) : x ∈ l.map txtOf ↔ ∃ e ∈ l, (PySem.strKind pr wd).is x e.2 = true := by
  rw [List.mem_map]
  exact ⟨fun ⟨e, he, q⟩ => ⟨e, he, (txt_is (g e he) x).mpr q⟩, fun ⟨e, he, q⟩ => ⟨e, he, (txt_is (g e he) x).mp q⟩⟩
theorem txt_els {l : List (Int × Value)} (g : ∀ e ∈ l, IsTxt pr wd e) : ElemsOf (PySem.strKind pr wd) l := fun e he => by
  obtain ⟨x, tk, h1, h2⟩ := g e he
  exact ⟨⟨x, by rw [h1]; exact strKind_is _ _ _ _, h2⟩, by rw [h1] <;> rfl⟩
end
section
variable {pr : Program} {wd : World} {Ar : Around} {Ex : Value → Shared → Prop} {sh : Shared} {z : Addr} {ts : List Str}
/-- the end of an add: stored, laid anew where it is too full -/
theorem wset_end {g : Bool → Sem Unit} (hg : ∀ (b : Bool) (s1 : Shared) (K : Unit → Shared → Prop), K () s1 → wpAny (model pr wd) Ar (g b) K Ex s1)
    {ob : Obj} {es : Array (Int × Value)} {ep : Nat} {tb : SetTable} (ho : sh.heap.get? z = some ob) (hex : ob.ExactSet) (hd : ob.data = .set es ep tb)
    {es1 : Array (Int × Value)} {tb1 : SetTable} {us : List Str} (g1 : ∀ e ∈ es1.toList, IsTxt pr wd e) (nd1 : (es1.toList.map txtOf).Nodup) (m1 : ∀ x, x ∈ us ↔ x ∈ es1.toList.map txtOf)
    (hb1 : es1.size < scanBound) (hf1 : tb1.fits es1.size = true) (hz1 : es1.size ≤ us.length) (hr : Ris tb1.place.toList) (hl : wd.params.followText "set-order" = true ∨ tb1.led = true) {dum : Bool} {K : Option Bool → Shared → Prop}
    (hK : ∀ h1, Heap.SameBut z sh.heap h1 → WSet pr wd h1 z us → K (some true) { sh with heap := h1 }) :
    wpAny (model pr wd) Ar (do
        storeSet z es1 tb1
        if (!dum && tb1.tooFull) = true then do
            g (relayAll tb1 es1 (SetTable.grown es1.size)).2.2
            storeSet z (relayAll tb1 es1 (SetTable.grown es1.size)).1 (relayAll tb1 es1 (SetTable.grown es1.size)).2.1
            pure (some true)
          else pure (some true)) K Ex sh := by
  refine wpAny_bind (wpAny_storeSet_of ho hd ?_ (fits_of_scanBound hb1))
  have at1 := store_at (es' := es1) (t' := tb1) ho hd
  have same1 := Heap.SameBut.update sh.heap z (Obj.putSet es1 tb1)
  by_cases full : (!dum && tb1.tooFull) = true
  · rw [if_pos full]
    have perm := relayAll_perm tb1 es1 (SetTable.grown es1.size)
    have fit2 := relayAll_fits tb1 es1 (SetTable.grown es1.size)
    have ris2 := relayAll_ris tb1 es1 (SetTable.grown es1.size)
    have led2 := relayAll_led tb1 es1 (SetTable.grown es1.size)
    generalize relayAll tb1 es1 (SetTable.grown es1.size) = Y at perm fit2 ris2 led2 ⊢
    obtain ⟨es2, tb2, gave⟩ := Y
    dsimp only at perm fit2 ris2 led2 ⊢
    have ez : es2.size = es1.size := by rw [← Array.length_toList, perm.length_eq, Array.length_toList]
    refine wpAny_bind (hg _ _ _ ?_)
    refine wpAny_bind (wpAny_storeSet_of at1 rfl ?_ (fits_of_scanBound (by omega)))
    have at2 := store_at (es' := es2) (t' := tb2) at1 rfl
    refine wpAny_pure (hK _ (same1.trans (Heap.SameBut.update _ z _)) ?_)
    exact ⟨_, es2, _, tb2, at2, hex, rfl, fun e he => g1 e (perm.mem_iff.mp he), (perm.map txtOf).nodup_iff.mpr nd1, fun x => (m1 x).trans (perm.map txtOf).mem_iff.symm, by omega, fit2, by omega, ris2, hl.imp id fun q => by rw [led2]; exact q⟩
  · rw [if_neg full]
    exact wpAny_pure (hK _ same1 ⟨_, es1, _, tb1, at1, hex, rfl, g1, nd1, m1, hb1, hf1, hz1, hr, hl⟩)
theorem wset_add {y : Str} {tk : Tok} {K : Bool → Shared → Prop} (W : WSet pr wd sh.heap z ts) (room : ts.length + 1 < scanBound)
    (hK : ∀ h1, Heap.SameBut z sh.heap h1 → WSet pr wd h1 z (ts ++ [y]) → ∀ b, K b { sh with heap := h1 }) :
    wpAny (model pr wd) Ar (setAddHashed z (.str y tk) ((PySem.strKind pr wd).hash y)) K Ex sh := by
  obtain ⟨ob, es, ep, tb, ho, hex, hd, g, nd, hm, hb, hf, hn, hr, hl⟩ := W
  have isy : (PySem.strKind pr wd).is y (.str y tk) = true := strKind_is _ _ _ _
  have scan : (Value.str y tk).scannable = true := rfl
  have els : ElemsOf (PySem.strKind pr wd) es.toList := txt_els g
  unfold setAddHashed setAddHashedIn
  refine wpAny_holding (wpAny_bind (wpAny_setState_of ho hd hf ?_))
  dsimp only
  rw [byScan_of scan hb els]
  simp only [↓reduceIte]
  unfold setAddByScan
  refine wpAny_bind (wpAny_bind (wpAny_rule (wpAny_bind (wpAny_setScan_of isy ho hd hf els ?_))))
  cases look : List.findIdx? (fun e => (PySem.strKind pr wd).is y e.2) es.toList with
  | some j =>
    dsimp only
    obtain ⟨hj, pj, _⟩ := List.findIdx?_eq_some_iff_getElem.mp look
    have iny : y ∈ es.toList.map txtOf := (txt_mem g y).mpr ⟨es.toList[j], List.getElem_mem hj, pj⟩
    refine wpAny_pure (wpAny_pure (hK sh.heap (Heap.SameBut.refl z sh.heap) ⟨ob, es, ep, tb, ho, hex, hd, g, nd, fun x => ?_, hb, hf, by rw [List.length_append]; omega, hr, hl⟩ _))
    rw [List.mem_append, List.mem_singleton, hm x]
    exact ⟨fun q => q.elim id fun e => e ▸ iny, .inl⟩
  | none =>
    dsimp only
    have outy : y ∉ es.toList.map txtOf := fun q => by
      obtain ⟨e, he, q⟩ := (txt_mem g y).mp q
      have no := List.findIdx?_eq_none_iff.mp look e he
      rw [q] at no
      cases no
    have gave1 : ∀ (b : Bool) {s1 : Shared} {L : Unit → Shared → Prop}, L () s1 → wpAny (model pr wd) Ar (match b with | true => rule "set.scan.the-table-gave-way" | false => pure ()) L Ex s1 :=
      fun b s1 L q => by cases b <;> first | exact wpAny_pure q | exact wpAny_rule q
    have perm := layNew_perm tb es ((PySem.strKind pr wd).hash y) (.str y tk)
    have fit1 := layNew_fits tb es ((PySem.strKind pr wd).hash y) (.str y tk)
    have ris1 := layNew_ris tb es ((PySem.strKind pr wd).hash y) (.str y tk) hr
    have led1 := layNew_led tb es ((PySem.strKind pr wd).hash y) (.str y tk)
    generalize layNew tb es ((PySem.strKind pr wd).hash y) (.str y tk) = Y at perm fit1 ris1 led1 ⊢
    obtain ⟨es1, tb1, dum, gave⟩ := Y
    dsimp only at perm fit1 ris1 led1 ⊢
    rw [Array.toList_push] at perm
    have pc : es1.toList.Perm (((PySem.strKind pr wd).hash y, Value.str y tk) :: es.toList) := perm.trans (List.perm_append_singleton _ _)
    have pk : (es1.toList.map txtOf).Perm (y :: es.toList.map txtOf) := pc.map txtOf
    have g1 : ∀ e ∈ es1.toList, IsTxt pr wd e := fun e he => by
      rcases List.mem_cons.mp (pc.mem_iff.mp he) with q | q
      · rw [q]; exact ⟨y, tk, rfl, rfl⟩
      · exact g e q
    have nd1 : (es1.toList.map txtOf).Nodup := pk.nodup_iff.mpr (List.nodup_cons.mpr ⟨outy, nd⟩)
    have m1 : ∀ x, x ∈ ts ++ [y] ↔ x ∈ es1.toList.map txtOf := fun x => by
      rw [List.mem_append, List.mem_singleton, hm x, pk.mem_iff, List.mem_cons]
      exact Or.comm
    have ez : es1.size = es.size + 1 := by rw [← Array.length_toList, pc.length_eq, List.length_cons, Array.length_toList]
    have hb1 : es1.size < scanBound := by omega
    have hz1 : es1.size ≤ (ts ++ [y]).length := by rw [List.length_append]; show _ ≤ ts.length + 1; omega
    have hled : wd.params.followText "set-order" = true ∨ tb1.led = true := hl.imp id fun q => by rw [led1]; exact q
    have fin : ∀ h1, Heap.SameBut z sh.heap h1 → WSet pr wd h1 z (ts ++ [y]) → K true { sh with heap := h1 } := fun h1 sb r => hK h1 sb r true
    refine wpAny_bind (gave1 _ ?_)
    split
    · refine wpAny_bind ?_
      rw [hashByValue_scannable 8 scan]
      refine wpAny_pure (wset_end ?_ ho hex hd g1 nd1 m1 hb1 ?_ hz1 ?_ ?_ ?_)
      · intro b s1 L q; cases b <;> first | exact wpAny_pure q | exact wpAny_rule q
      · first | (split <;> first | exact fit1 | exact SetTable.fits_plain_off fit1) | exact fit1
      · first | (split <;> exact ris1) | exact ris1
      · first | (split <;> exact hled) | exact hled
      · intro h1 sb r; dsimp only; exact wpAny_pure (fin h1 sb r)
    · refine wpAny_bind (wpAny_pure ?_)
      simp only [↓reduceIte]
      refine wset_end ?_ ho hex hd g1 nd1 m1 hb1 fit1 hz1 ris1 hled ?_
      · intro b s1 L q; cases b <;> first | exact wpAny_pure q | exact wpAny_rule q
      · intro h1 sb r; dsimp only; exact wpAny_pure (fin h1 sb r)
end
section
variable {pr : Program} {wd : World} {Ar : Around} {Rs : Result → Shared → Prop} {Iw : Addr} {fp wr : List Addr} {Gs : Array GenState → Array GenState → Prop} {m : Nat} {Pv : Nat → Value → Prop} {At : Nat → Shared → Prop}
theorem growW (W : WalksS pr wd Ar.in1 Iw fp wr Gs m Pv At) (z : Addr) (nz : z ∉ fp) (ts : List Str) (hm : ts.length = m) (hsm : m + 1 < scanBound) (hv : ∀ i v, Pv i v → ∃ t, v = .str (ts.getD i Str.empty) t) :
    ∀ (left i : Nat) (sh : Shared), m - i = left → i ≤ m → At i sh → WSet pr wd sh.heap z (ts.take i) →
      (∀ sh', Moved (z :: wr) Gs sh sh' → WSet pr wd sh'.heap z ts → Rs (.ok (.ret .none)) sh') → codeAny (model pr wd) Ar (.builtin "set.update.loop" ⟨[.ref z, .ref Iw], []⟩) Rs sh := by
  have nw : z ∉ wr := fun x => nz (W.sub _ x)
  have more : ∀ b ∈ wr, b ∈ z :: wr := fun b x => List.mem_cons_of_mem _ x
  intro left
  induction left with
  | zero =>
    intro i sh hl hi at0 hs fin
    have e : i = m := by omega
    subst e
    have et : ts.take i = ts := List.take_of_length_le (by omega)
    rw [et] at hs
    refine codeAny_builtin PyProof.Rows.F.entry_set_update_loop ?_
    rw [Around.under_plainId PyProof.Rows.F.plain_set_update_loop _]
    show wpAny _ Ar.in1 (pyNext (.ref Iw) >>= _) _ _ sh
    refine wpAny_bind (W.done sh _ _ at0 fun sh2 mv => ?_)
    show wpAny _ Ar.in1 (ret Value.none) _ _ sh2
    exact wpAny_pure (fin sh2 (mv.mono more) (hs.moved fun o ho => mv.heap z o nw ho))
  | succ left ih =>
    intro i sh hl hi at0 hs fin
    have lt : i < m := by omega
    refine codeAny_builtin PyProof.Rows.F.entry_set_update_loop ?_
    rw [Around.under_plainId PyProof.Rows.F.plain_set_update_loop _]
    show wpAny _ Ar.in1 (pyNext (.ref Iw) >>= _) _ _ sh
    refine wpAny_bind (W.item i sh _ _ lt at0 fun v sh2 pv at2 mv => ?_)
    obtain ⟨t, rfl⟩ := hv i v pv
    have hs2 : WSet pr wd sh2.heap z (ts.take i) := hs.moved fun o ho => mv.heap z o nw ho
    have ey : ts.getD i Str.empty = ts[i]'(by omega) := by rw [List.getD_eq_getElem?_getD, List.getElem?_eq_getElem (by omega)] <;> rfl
    generalize hy : ts.getD i Str.empty = y at *
    have tk : ts.take (i + 1) = ts.take i ++ [y] := by rw [List.take_add_one, List.getElem?_eq_getElem (show i < ts.length by omega), ey]; rfl
    show wpAny _ Ar.in1 (holding [Value.str y t] (setAdd z (.str y t)) >>= _) _ _ sh2
    refine wpAny_bind (wpAny_holding ?_)
    unfold setAdd
    refine wpAny_holding ?_
    refine wpAny_bind ((PySem.strKind pr wd).pyHash (k := y) (strKind_is _ _ _ _) ?_)
    refine wset_add (sh := { sh2 with toks := sh2.toks + 1 }) hs2 (by rw [List.length_take]; omega) fun hp3 same hs3 _ => ?_
    refine wpAny_pure ⟨plainId_quiet PyProof.Rows.F.plain_set_update_loop _, ih (i + 1) _ (by omega) lt (W.frame _ sh2 _ _ at2 (Nat.le_succ _) fun b hb o e => ?_) (by rw [tk]; exact hs3) fun sh4 mv4 hs5 => ?_⟩
    · rw [same.2 b (fun x : b = z => nz (by rw [← x]; exact hb))]; exact e
    · refine fin sh4 (Moved.trans W.gtrans ((mv.mono more).then_heap (Nat.le_succ _) fun b o nb e => ?_) mv4) hs5
      rw [same.2 b (fun x : b = z => nb (by rw [x]; exact List.mem_cons_self))]; exact e
end
section
variable {pr : Program} {wd : World} {Ar : Around} {Ex : Value → Shared → Prop} {sh : Shared}
theorem wset_new {hp : Heap} {z : Addr} (h : hp.get? z = some { cls := .type "set", dict := none, data := .set #[] 0 (.fresh 0 0 (!wd.params.followText "set-order")) }) : WSet pr wd hp z [] :=
  ⟨_, #[], 0, _, h, ⟨rfl, rfl, rfl⟩, rfl, fun e he => by simp at he, by simp, fun x => by simp, by decide, by rfl, Nat.le_refl _, List.Pairwise.nil, by
    show _ ∨ (!wd.params.followText "set-order") = true
    cases wd.params.followText "set-order"
    · exact .inr rfl
    · exact .inl rfl⟩
set_option maxHeartbeats 3200000 in
theorem wset_list {u : Addr} {its : Array Value} {ts : List Str} {Q : Value → Shared → Prop} (h0 : Ar.handled = none) (hu : sh.heap.IsList u its) (hi : PyProof.Rows.StrsAre its.toList ts) (hsm : ts.length + 1 < scanBound)
    (fin : ∀ (hp : Heap) (tk : Nat), WSet pr wd hp sh.heap.objs.size ts → (∀ b o, sh.heap.get? b = some o → hp.get? b = some o) → Q (.ref sh.heap.objs.size) { sh with heap := hp, toks := tk }) :
    wpAny (model pr wd) Ar (call (.type "set") [.ref u]) Q Ex sh := by
  obtain ⟨cc, tl, e0⟩ := PySem.F.called_set.mro
  have e1 := PySem.F.called_set.made
  have e2 := PySem.F.called_set.sub
  refine wpAny_call (codeAny_of_tree ?_)
  show wpAny _ _ (callAny (.type "set") _) _ _ _
  refine wpAny_pure ⟨Code.quiet_builtin _ (by decide +kernel), codeAny_builtin PySem.F.entry_type_call ?_⟩
  rw [Around.under_plain (weight_type_call_type "set" [.ref u] []) rfl]
  have e3 := PySem.F.called_set.notType
  have e4 := PySem.F.called_set.canCreate
  have e5 := PySem.F.typeCall_set_1 (.ref u)
  repeat (any_goals (first | assumption | wp_step))
  refine codeAny_mono (code_set_led1 (.ref u) (E := Ex) (Q₁ := fun x y => x = .ref sh.heap.objs.size ∧ y = { sh with heap := sh.heap.push (nset (!wd.params.followText "set-order")) }) ⟨rfl, rfl⟩) fun r y hr => ?_
  cases r with
  | error e => exact hr
  | ok fl =>
    cases fl with
    | ret x =>
      obtain ⟨rfl, rfl⟩ := hr
      have at0 : (sh.heap.push (nset (!wd.params.followText "set-order"))).get? sh.heap.objs.size = some (nset (!wd.params.followText "set-order")) := Heap.get?_push_size _ rfl
      have ty0 : Shared.TypeIs { sh with heap := sh.heap.push (nset (!wd.params.followText "set-order")) } (.ref sh.heap.objs.size) "set" := ⟨_, at0, rfl⟩
      have e6 := PySem.F.called_set.init.lookup
      have e7 := PySem.F.called_set.init.bind (.ref sh.heap.objs.size)
      repeat (any_goals (first | assumption | wp_step))
      refine codeAny_mono (codeAny_call_builtin (R := wants (fun r y => r = .none ∧ ∃ hp tk, y = { sh with heap := hp, toks := tk } ∧ WSet pr wd hp sh.heap.objs.size ts ∧ (∀ b o, sh.heap.get? b = some o → hp.get? b = some o)) Ex) PySem.F.called_set.init.plain PySem.F.entry_set_init (check_set_init_1 ty0 ?_)) fun r y hr => ?_
      · obtain ⟨⟨cl, di, da, sl⟩, ho, hc, nl, hd⟩ := hu
        simp only at hc hd
        subst hc; subst hd
        have ho2 : (sh.heap.push (nset (!wd.params.followText "set-order"))).get? u = some { cls := .type "list", dict := di, data := .seq its nl, slots := sl } := Heap.get?_push_of_some _ ho
        have e8 := PySem.F.sub_list_set
        have e9 := PySem.F.sub_list_frozenset
        have nd : (Value.type "list" == Value.type "dict") = false := by decide
        have hu2 : (sh.heap.push (nset (!wd.params.followText "set-order"))).IsList u its := ⟨_, ho2, rfl, nl, rfl⟩
        unfold Builtin.«set.__init__» noKeywords Builtin.Frozenset.updateFrom
        generalize hJ : pyIter = J
        wp_walk
        subst hJ
        refine wpAny_pyIter_list hu2 ?_
        refine wpAny_bind (wpAny_runValue ?_)
        have lu : u < sh.heap.objs.size := Heap.lt_size ho
        have h3 : Ar.in1.in1.in1.handled = none := by simp [h0]
        have zz : (sh.heap.push (nset (!wd.params.followText "set-order"))).objs.size = sh.heap.objs.size + 1 := Heap.size_push ..
        have n1 : u ≠ (sh.heap.push (nset (!wd.params.followText "set-order"))).objs.size := by rw [zz]; exact Nat.ne_of_lt (Nat.lt_succ_of_lt lu)
        have n2 : sh.heap.objs.size ∉ [(sh.heap.push (nset (!wd.params.followText "set-order"))).objs.size, u] := by
          rw [zz]
          intro hm
          simp only [List.mem_cons, List.not_mem_nil, or_false] at hm
          rcases hm with hm | hm
          · exact Nat.ne_of_lt (Nat.lt_succ_self _) hm
          · exact Nat.ne_of_gt lu hm
        have ez : ts.length = its.size := by rw [← StrsAre.len_eq hi, Array.length_toList]
        have hv : ∀ (i : Nat) (v : Value), its[i]? = some v → ∃ t, v = .str (ts.getD i Str.empty) t := fun i v e => SS.strs_at hi i v (by rw [Array.getElem?_toList]; exact e)
        refine growW ((Walks.list h3 _ u n1 its).toS) sh.heap.objs.size n2 ts ez (by omega) hv (its.size - 0) 0 _ (by omega) (Nat.zero_le _) ⟨⟨_, Heap.get?_push_size _ rfl, rfl, rfl⟩, (hu2.push _)⟩ ?first ?last
        case first =>
          have at1 : ((sh.heap.push (nset (!wd.params.followText "set-order"))).push { cls := .type "list_iterator", data := .fields #[.ref u, .int 0 0] }).get? sh.heap.objs.size = some (nset (!wd.params.followText "set-order")) := Heap.get?_push_of_some _ at0
          exact wset_new at1
        case last =>
          rintro ⟨hp, g2, d2, tk, os2⟩ mv hs
          have eg : g2 = sh.gens := mv.gens
          have ed : d2 = sh.drawn := mv.drawn
          have eo : os2 = sh.os := mv.os
          subst eg; subst ed; subst eo
          show wpAny _ _ _ _ _ _
          refine wpAny_pure ?_
          show wpAny _ _ (ret Value.none) _ _ _
          refine wpAny_pure ⟨rfl, hp, tk, rfl, hs, fun b o e => ?_⟩
          have lb := Heap.lt_size e
          refine mv.heap b o (fun hm => ?_) (Heap.get?_push_of_some _ (Heap.get?_push_of_some _ e))
          simp only [List.mem_cons, List.not_mem_nil, or_false] at hm
          rcases hm with hm | hm
          · exact Nat.ne_of_lt lb hm
          · rw [zz] at hm; exact Nat.ne_of_lt (Nat.lt_succ_of_lt lb) hm
      · cases r with
        | error e => exact hr
        | ok fl =>
          cases fl with
          | ret x =>
            obtain ⟨rfl, hp, tk, rfl, hs, kp⟩ := hr
            repeat (any_goals (first | assumption | wp_step))
            exact fin _ _ hs kp
          | _ => exact hr.elim
    | _ => exact hr.elim
set_option maxHeartbeats 3200000 in
theorem wset_tuple {u : Addr} {its : Array Value} {ts : List Str} {Q : Value → Shared → Prop} (h0 : Ar.handled = none) (hu : sh.heap.IsTuple u its) (hi : PyProof.Rows.StrsAre its.toList ts) (hsm : ts.length + 1 < scanBound)
    (fin : ∀ (hp : Heap) (tk : Nat), WSet pr wd hp sh.heap.objs.size ts → (∀ b o, sh.heap.get? b = some o → hp.get? b = some o) → Q (.ref sh.heap.objs.size) { sh with heap := hp, toks := tk }) :
    wpAny (model pr wd) Ar (call (.type "set") [.ref u]) Q Ex sh := by
  obtain ⟨cc, tl, e0⟩ := PySem.F.called_set.mro
  have e1 := PySem.F.called_set.made
  have e2 := PySem.F.called_set.sub
  refine wpAny_call (codeAny_of_tree ?_)
  show wpAny _ _ (callAny (.type "set") _) _ _ _
  refine wpAny_pure ⟨Code.quiet_builtin _ (by decide +kernel), codeAny_builtin PySem.F.entry_type_call ?_⟩
  rw [Around.under_plain (weight_type_call_type "set" [.ref u] []) rfl]
  have e3 := PySem.F.called_set.notType
  have e4 := PySem.F.called_set.canCreate
  have e5 := PySem.F.typeCall_set_1 (.ref u)
  repeat (any_goals (first | assumption | wp_step))
  refine codeAny_mono (code_set_led1 (.ref u) (E := Ex) (Q₁ := fun x y => x = .ref sh.heap.objs.size ∧ y = { sh with heap := sh.heap.push (nset (!wd.params.followText "set-order")) }) ⟨rfl, rfl⟩) fun r y hr => ?_
  cases r with
  | error e => exact hr
  | ok fl =>
    cases fl with
    | ret x =>
      obtain ⟨rfl, rfl⟩ := hr
      have at0 : (sh.heap.push (nset (!wd.params.followText "set-order"))).get? sh.heap.objs.size = some (nset (!wd.params.followText "set-order")) := Heap.get?_push_size _ rfl
      have ty0 : Shared.TypeIs { sh with heap := sh.heap.push (nset (!wd.params.followText "set-order")) } (.ref sh.heap.objs.size) "set" := ⟨_, at0, rfl⟩
      have e6 := PySem.F.called_set.init.lookup
      have e7 := PySem.F.called_set.init.bind (.ref sh.heap.objs.size)
      repeat (any_goals (first | assumption | wp_step))
      refine codeAny_mono (codeAny_call_builtin (R := wants (fun r y => r = .none ∧ ∃ hp tk, y = { sh with heap := hp, toks := tk } ∧ WSet pr wd hp sh.heap.objs.size ts ∧ (∀ b o, sh.heap.get? b = some o → hp.get? b = some o)) Ex) PySem.F.called_set.init.plain PySem.F.entry_set_init (check_set_init_1 ty0 ?_)) fun r y hr => ?_
      · obtain ⟨⟨cl, di, da, sl⟩, ho, hc, nl, hd⟩ := hu
        simp only at hc hd
        subst hc; subst hd
        have ho2 : (sh.heap.push (nset (!wd.params.followText "set-order"))).get? u = some { cls := .type "tuple", dict := di, data := .seq its nl, slots := sl } := Heap.get?_push_of_some _ ho
        have e8 := PySem.F.sub_tuple_set
        have e9 := PySem.F.sub_tuple_frozenset
        have nd : (Value.type "tuple" == Value.type "dict") = false := by decide
        have hu2 : (sh.heap.push (nset (!wd.params.followText "set-order"))).IsTuple u its := ⟨_, ho2, rfl, nl, rfl⟩
        unfold Builtin.«set.__init__» noKeywords Builtin.Frozenset.updateFrom
        generalize hJ : pyIter = J
        wp_walk
        subst hJ
        refine wpAny_pyIter_tuple hu2 ?_
        refine wpAny_bind (wpAny_runValue ?_)
        have lu : u < sh.heap.objs.size := Heap.lt_size ho
        have h3 : Ar.in1.in1.in1.handled = none := by simp [h0]
        have zz : (sh.heap.push (nset (!wd.params.followText "set-order"))).objs.size = sh.heap.objs.size + 1 := Heap.size_push ..
        have n1 : u ≠ (sh.heap.push (nset (!wd.params.followText "set-order"))).objs.size := by rw [zz]; exact Nat.ne_of_lt (Nat.lt_succ_of_lt lu)
        have n2 : sh.heap.objs.size ∉ [(sh.heap.push (nset (!wd.params.followText "set-order"))).objs.size, u] := by
          rw [zz]
          intro hm
          simp only [List.mem_cons, List.not_mem_nil, or_false] at hm
          rcases hm with hm | hm
          · exact Nat.ne_of_lt (Nat.lt_succ_self _) hm
          · exact Nat.ne_of_gt lu hm
        have ez : ts.length = its.size := by rw [← StrsAre.len_eq hi, Array.length_toList]
        have hv : ∀ (i : Nat) (v : Value), its[i]? = some v → ∃ t, v = .str (ts.getD i Str.empty) t := fun i v e => SS.strs_at hi i v (by rw [Array.getElem?_toList]; exact e)
        refine growW ((Walks.tuple h3 _ u n1 its).toS) sh.heap.objs.size n2 ts ez (by omega) hv (its.size - 0) 0 _ (by omega) (Nat.zero_le _) ⟨⟨_, Heap.get?_push_size _ rfl, rfl, rfl⟩, (hu2.push _)⟩ ?first ?last
        case first =>
          have at1 : ((sh.heap.push (nset (!wd.params.followText "set-order"))).push { cls := .type "tuple_iterator", data := .fields #[.ref u, .int 0 0] }).get? sh.heap.objs.size = some (nset (!wd.params.followText "set-order")) := Heap.get?_push_of_some _ at0
          exact wset_new at1
        case last =>
          rintro ⟨hp, g2, d2, tk, os2⟩ mv hs
          have eg : g2 = sh.gens := mv.gens
          have ed : d2 = sh.drawn := mv.drawn
          have eo : os2 = sh.os := mv.os
          subst eg; subst ed; subst eo
          show wpAny _ _ _ _ _ _
          refine wpAny_pure ?_
          show wpAny _ _ (ret Value.none) _ _ _
          refine wpAny_pure ⟨rfl, hp, tk, rfl, hs, fun b o e => ?_⟩
          have lb := Heap.lt_size e
          refine mv.heap b o (fun hm => ?_) (Heap.get?_push_of_some _ (Heap.get?_push_of_some _ e))
          simp only [List.mem_cons, List.not_mem_nil, or_false] at hm
          rcases hm with hm | hm
          · exact Nat.ne_of_lt lb hm
          · rw [zz] at hm; exact Nat.ne_of_lt (Nat.lt_succ_of_lt lb) hm
      · cases r with
        | error e => exact hr
        | ok fl =>
          cases fl with
          | ret x =>
            obtain ⟨rfl, hp, tk, rfl, hs, kp⟩ := hr
            repeat (any_goals (first | assumption | wp_step))
            exact fin _ _ hs kp
          | _ => exact hr.elim
    | _ => exact hr.elim
end
end SX
namespace SX
open PySem PySem.Spec L2 PyProof.Rows
/-! ### sorted of a set of texts -/
section
variable {pr : Program} {wd : World} {Ar : Around} {Ex : Value → Shared → Prop} {sh : Shared} {z : Addr} {ts : List Str}
theorem sorted_wset {Q : Value → Shared → Prop} (W : WSet pr wd sh.heap z ts) (h0 : Ar.handled = none) (hl : ts.length ≤ 4000)
    (fin : ∀ s2 p (out : Array Value) (c : Nat) (ys : List Str), (∀ b o, sh.heap.get? b = some o → s2.heap.get? b = some o) → s2.gens = sh.gens → s2.os = sh.os → sh.heap.objs.size ≤ p → s2.heap.get? p = some (seqObj "list" out c) → StrsAre out.toList ys →
      PyProof.Rows.sortedS ys = true → ys.Nodup → (∀ x, x ∈ ys ↔ x ∈ ts) → ys.length ≤ 4000 → Q (.ref p) s2) :
    wpAny (model pr wd) Ar (call (.builtin "sorted") [.ref z]) Q Ex sh := by
  obtain ⟨ob, es, ep, tb, ho, hex, hd, g, nd, hm, hb, hf, hn, hr, hled⟩ := W
  refine Calls.call_function_entry kind_sorted plain_sorted entry_sorted (args_sorted1 _) ?_
  unfold Builtin.«sorted»
  refine wpAny_bind (m := checkCount "sorted" 1 1 _) (wpAny_pure ?_)
  refine wpAny_bind (collect_set (A := Ar.in1) h0 ⟨ob, ho, hex.1, hd⟩ hf hb hr hled fun s1 vs k1 hz gg oo pm => ?_)
  have vl : vs.length ≤ ts.length := by rw [pm.length_eq, List.length_map, Array.length_toList]; exact hn
  have line : vs.length ≤ sizeLine := by rw [sizeLine_eq]; omega
  have all1 : ∀ v ∈ vs, ∃ x t, v = Value.str x t := fun v hv => by
    obtain ⟨e, he, q⟩ := List.mem_map.mp (pm.mem_iff.mp hv)
    obtain ⟨x, t, h1, _⟩ := g e he
    exact ⟨x, t, by rw [← q]; exact h1⟩
  have hS : StrsAre vs (vs.map strOf) := strsAre_map vs all1
  have pk : (vs.map strOf).Perm (es.toList.map txtOf) := by
    have q := pm.map strOf
    rw [List.map_map] at q
    have e : (es.toList.map (strOf ∘ fun x => x.2)) = es.toList.map txtOf := List.map_congr_left fun e he => by
      obtain ⟨x, t, h1, _⟩ := g e he
      show strOf e.2 = txtOf e
      unfold txtOf
      rw [h1]; rfl
    rw [e] at q
    exact q
  refine wpAny_bind (wpAny_newList ?_ line)
  have hoL : (s1.heap.push (seqObj "list" vs.toArray 0)).get? s1.heap.objs.size = some (seqObj "list" vs.toArray 0) := Heap.get?_push_size _ rfl
  refine wpAny_bind (wpAny_holding (wpAny_call_entry slot_list_sort ⟨_, hoL, rfl⟩ entry_list_sort (list_sort_treeKAny PyProof.Rows.strKind_oneLt hoL hS.keysOf (fun v₁ v₂ rest e => keyKind_strs (by rw [← e]; exact hS)) line fun st a1 a2 => ⟨_, rfl, ?_⟩) (args_list_sort _)))
  obtain ⟨ys, b1, b2, b3⟩ := sorted_out_str hS a1 a2
  obtain ⟨c, hc⟩ := sortedHeap_at (vs := vs) (out := (arrOf st).map (·.2)) hoL
  have pn : ys.Perm (es.toList.map txtOf) := b2.trans pk
  refine wpAny_pure ⟨_, rfl, fin _ s1.heap.objs.size _ c ys (fun b u e => ?_) gg oo hz hc b1 b3 (pn.nodup_iff.mpr nd) (fun x => by rw [pn.mem_iff, ← hm x]) (by rw [b2.length_eq, List.length_map]; omega)⟩
  have q := k1 b u e
  have lt := Heap.lt_size q
  show (sortedHeap (s1.heap.push (seqObj "list" vs.toArray 0)) s1.heap.objs.size vs _).get? b = some u
  rw [sortedHeap_old (Nat.ne_of_lt lt) (by rw [size_push']; exact Nat.lt_succ_of_lt lt)]
  exact Heap.get?_push_of_some _ q
end
end SX
namespace Vx
open PySem PySem.Spec L2 PyProof.Rows
/-- sorted(set(texts)) -/
def fSetSortS : DSem
  | [.list ds], Q => onSome (strsOf ds) fun xs => xs.length ≤ 4000 ∧ ∀ ys : List Str, PyProof.Rows.sortedS ys = true → ys.Nodup → (∀ x, x ∈ ys ↔ x ∈ xs) → ∀ a, Q (.lst a (ys.map fun y => O.d (.str y)))
  | [.tuple ds], Q => onSome (strsOf ds) fun xs => xs.length ≤ 4000 ∧ ∀ ys : List Str, PyProof.Rows.sortedS ys = true → ys.Nodup → (∀ x, x ∈ ys ↔ x ∈ xs) → ∀ a, Q (.lst a (ys.map fun y => O.d (.str y)))
  | _, _ => False
abbrev wsetHO (pr : Program) (wd : World) (z : Addr) (ts : List Str) : HO := .ext fun h => SX.WSet pr wd h z ts
section
variable {X : Cx} {B : Bs} {Wx : WX} {a e : Expr} {wa we : WT} {wl : WA} {pos pos2 : Pos}
theorem wset_ok {H : Hp} {h : Heap} {z : Addr} {ts : List Str} (W : SX.WSet X.prog X.w h z ts) : ObjOk X.prog X.w H h z (wsetHO X.prog X.w z ts) := by
  have ⟨ob, _, _, _, ho, _⟩ := W
  exact ⟨W, ⟨ob, ho⟩, fun h1 h2 p k => p.moved k⟩
theorem c_setSortS {p p2 : Pos} (hc : X.calm = true) (hg : Gl X "sorted") (hm : X.mg "sorted" = none) (hg2 : Gl X "set") (hm2 : X.mg "set" = none) (ha : SndA X B Wx [e] wl)
    (na : starEach [e] X.env = (false, eval e X.env) :: starEach [] X.env) (nb : starEach [.Call (.Name "set" p2) [e] [] pos2] X.env = (false, eval (.Call (.Name "set" p2) [e] [] pos2) X.env) :: starEach [] X.env) :
    PV X B Wx (.Call (.Name "sorted" p) [.Call (.Name "set" p2) [e] [] pos2] [] pos) (wBlt fSetSortS wl) := by
  refine ⟨fun pins s σ H Q I h => ?_⟩
  obtain ⟨S, env, T, P, PX, r, hw, hP, hX⟩ := h
  have mid : wpAny (model X.prog X.w) X.A (eval (.Call (.Name "set" p2) [e] [] pos2) X.env) (fun v s1 => ∃ (b : Addr) (S1 : Fz) (H1 : Hp) (env1 : Env) (xs : List Str), v = .ref b ∧ L2.Inv X pins σ H1 s1 ∧ H1 b = some (wsetHO X.prog X.w b xs) ∧ R X.K B S1 H1 σ env1 T ∧
      xs.length ≤ 4000 ∧ ∀ ys : List Str, PyProof.Rows.sortedS ys = true → ys.Nodup → (∀ x, x ∈ ys ↔ x ∈ xs) → ∀ a, P (.o (.lst a (ys.map fun y => O.d (.str y)))) env1) X.xe s := by
    refine wpAny_Call_Name_kw (ld_blt I hg2 hm2 PyProof.Rows.boot_set (PyProof.Rows.callWith_type1 (thn (ha.run pos2 pins s σ H (fun vs H1 => ∃ S1 env1 ds, R X.K B S1 H1 σ env1 T ∧ UdA X.K S1 H1 vs ds ∧ fSetSortS ds fun o => P (.o o) env1) I ⟨S, env, T, _, PX, r, hw, fun env1 Z S1 H1 q r1 => ?_, hX⟩) fun us s1 ⟨vs, H1, I1, rv, S1, env1, ds, r1, ud, q⟩ => ?_) na rfl) (by decide) (by decide))
    · obtain ⟨S2, ds, r2, q, ud⟩ := r1.usedAll q
      exact ⟨S2, env1, ds, r2.pops, ud, q⟩
    · cases ud with
      | nil => exact q.elim
      | cons u us' =>
        rename_i v d vs' ds'
        cases us' with
        | cons _ _ => cases d <;> exact q.elim
        | nil =>
          cases d with
          | list ds =>
            obtain ⟨xs, e, hl6, q2⟩ := onSome_some q
            obtain ⟨b, ws, rfl, hs, rs⟩ := u.list
            obtain rfl := Vals.ref1 rv
            rw [strsOf_eq e] at rs
            have ew := rs.strs
            subst ew
            obtain ⟨its, rw_, hl, hz⟩ := I1.list hs
            refine SX.wset_list (I1.ok.hd hc) hl.isList (by simpa using strsAre_of rw_) (by unfold scanBound; omega) fun h' tk W hk' => ?_
            have hn : H1 s1.heap.objs.size = none := I1.hok.fresh (Nat.le_refl _)
            exact ⟨s1.heap.objs.size, S1, upd H1 s1.heap.objs.size (wsetHO X.prog X.w s1.heap.objs.size xs), env1, xs, rfl, I1.laid (t' := tk) hk' (Nat.le_refl _) (wset_ok W), if_pos rfl, r1.alloc hn, hl6, q2⟩
          | tuple ds =>
            obtain ⟨xs, e, hl6, q2⟩ := onSome_some q
            obtain ⟨b, ws, rfl, hs, rs⟩ := u.tup
            obtain rfl := Vals.ref1 rv
            rw [strsOf_eq e] at rs
            have ew := rs.strs
            subst ew
            obtain ⟨its, rw_, hl, hz⟩ := I1.tuple hs
            refine SX.wset_tuple (I1.ok.hd hc) hl (by simpa using strsAre_of rw_) (by unfold scanBound; omega) fun h' tk W hk' => ?_
            have hn : H1 s1.heap.objs.size = none := I1.hok.fresh (Nat.le_refl _)
            exact ⟨s1.heap.objs.size, S1, upd H1 s1.heap.objs.size (wsetHO X.prog X.w s1.heap.objs.size xs), env1, xs, rfl, I1.laid (t' := tk) hk' (Nat.le_refl _) (wset_ok W), if_pos rfl, r1.alloc hn, hl6, q2⟩
          | _ => exact q.elim
  refine wpAny_Call_Name_kw (ld_blt I hg hm PyProof.Rows.boot_sorted (PyProof.Rows.callWith_builtin1 (args_cons (thn mid fun v s1 ⟨b, S1, H1, env1, xs, ev, I1, hb, r1, h4, q⟩ => args_nil ?_) nb) nb rfl) (by decide) (by decide))
  subst ev
  have W : SX.WSet X.prog X.w s1.heap b xs := (I1.hok b _ hb).1
  refine SX.sorted_wset W (I1.ok.hd hc) h4 fun s2 p out c ys k g o hp hg2 hi hs hnd hmm hl4 => ?_
  have hlen : (ys.map V.str).length ≤ sizeLine := by rw [List.length_map, sizeLine_eq]; omega
  have hn : H1 p = none := I1.hok.fresh hp
  have J : L2.Inv X pins σ (upd H1 p (.lst (ys.map V.str))) { s1 with heap := s2.heap, gens := s2.gens, drawn := s2.drawn, toks := s2.toks } :=
    I1.call (ch := []) (Un.laid k hp hn) (I1.hok.laid k hp ⟨hlen, out.toList, c, vals_of_strs hi, hg2⟩) (by rw [g]; exact I1.bare) (fun _ z => nomatch z)
  have e2 : s2 = { s1 with heap := s2.heap, gens := s2.gens, drawn := s2.drawn, toks := s2.toks } := by
    cases s2
    cases s1
    cases o
    rfl
  rw [e2]
  refine ⟨.ref p, _, J, rfl, ?_⟩
  have r2 : R X.K B S1 H1 σ env1 ([] ++ T) := r1
  refine hP _ _ _ _ _ (q ys hs hnd hmm p) (R.newLst (P := []) r2 hn (vs := ys.map V.str) (os := ys.map fun y => O.d (.str y)) ?_ fun b => ?_)
  · have := OwnA.of_data (K := X.K) (S := S1) (H := H1) (RpA.of_strs ys)
    rw [List.map_map] at this
    exact this
  · have : ∀ zs : List Str, O.cntL b (zs.map fun y => O.d (.str y)) = 0 := by
      intro zs
      induction zs with
      | nil => rfl
      | cons z zs ih => show 0 + O.cntL b (zs.map fun y => O.d (.str y)) = 0; rw [ih]
    rw [this]; exact Nat.zero_le _
end
end Vx
namespace Vx
open PySem PySem.Spec L2 PyProof.Rows

/-! ### extend by a tuple -/
theorem ext_tuple (l : Addr) (items : Array Value) (n : Nat) (b : Addr) (its2 : Array Value) (n2 : Nat) (di : Option Addr) (sl : Array (Option Value)) (h0 : ¬(!items.isEmpty && Builtin.List.listTooLong (items.size + its2.size)) = true) (h1 : items.size ≤ sizeLine) (h2 : items.size + its2.size ≤ sizeLine + 1) :
    PySem.Meets (Builtin.«list.extend» ⟨[.ref l, .ref b], []⟩) (fun _ K s => s.heap.get? l = some { cls := .type "list", dict := none, data := .seq items n, slots := #[] } ∧ s.heap.get? b = some { cls := .type "tuple", dict := di, data := .seq its2 n2, slots := sl } ∧ K (.ok (.ret Value.none)) { s with heap := s.heap.update l (Obj.mapSeq fun x => x ++ its2), toks := s.toks }) :=
  .of_wp fun prog w A K s h => by
    obtain ⟨hp, g, d, tk, os⟩ := s
    obtain ⟨hl, hb, h⟩ := h
    have f1 := PySem.AutoSeq1.idx_int; have f2 := PySem.AutoSeq1.sub_tuple_tuple; have f3 := PySem.AutoSeq1.sub_list_list; have f4 := PySem.AutoSeq1.sub_tuple_list; have f5 := PySem.AutoSeq1.sub_list_tuple
    have hz' : (items ++ its2).size ≤ sizeLine + 1 := by rw [Array.size_append]; exact h2
    wp_walk using (wpAny_updateSeq hl rfl (hz := h1) (_hz' := hz')), PySem.AutoSeq1.wpAny_loadPart' hl, PySem.AutoSeq1.wpAny_loadPart' hb
    exact ⟨_, rfl, h⟩
def rExtT (K : PySem.W.Frag) : V → List V → Hp → VK → Prop := fun x vs H Q => ∃ l b xs zs, x = .ref l ∧ vs = [.ref b] ∧ H l = some (.lst xs) ∧ SqT K H b zs ∧ xs.length + zs.length ≤ sizeLine ∧ Q .non (upd H l (.lst (xs ++ zs)))
theorem mt_extT {X : Cx} : MtM X "list.extend" (rExtT X.K) := by
  intro pins s σ H x vs v us Q I rx rv h
  obtain ⟨l, b, xs, zs, rfl, rfl, hH, hB, hz, q⟩ := h
  cases rx
  obtain ⟨u, rfl, ru⟩ := rv.one
  cases ru
  obtain ⟨z, its, n, r, hl, e⟩ := I.lstM hH
  obtain ⟨its2, r2, ⟨⟨cl, di, da, sl⟩, e2, hc, n2, hd⟩, z2⟩ := I.tuple hB
  simp only at hc hd
  subst hc; subst hd
  have l2 := r2.length
  have hsz : its.toArray.size + its2.toArray.size ≤ sizeLine := by rw [List.size_toArray, List.size_toArray]; omega
  have hlong : ¬ (!its.toArray.isEmpty && Builtin.List.listTooLong (its.toArray.size + its2.toArray.size)) = true := by
    rw [notLongL hsz, Bool.and_false]
    exact Bool.false_ne_true
  refine call_meets PySem.F.slot_list_extend ⟨_, e, rfl⟩ PySem.F.entry_list_extend (PySem.F.args_list_extend_2 _ _)
    (ext_tuple l its.toArray n b its2.toArray n2 di sl hlong (by rw [List.size_toArray]; omega) (by omega)) ⟨e, e2, ?_⟩
  exact ⟨.non, _, I.lset (its' := its ++ its2) hH e (by simp) (r.append r2) (by rw [List.length_append]; omega), rfl, q⟩
def wExtT (wo : WT) (wl : WA) : WT := fun PX env P => wo PX env fun t env1 => match t with
  | .al a i p => listAt env1 i p a ∧ wl PX env1 fun ws env2 => match ws with
    | [.o (.d (.tuple ds))] => match envAt env2 i p with
      | some (.obj b .lst xs) => b = a ∧ xs.length + ds.length ≤ sizeLine ∧ P (.o (.d .none)) (envPut env2 i p (.lst b (xs ++ ds.map O.d)))
      | _ => False
    | _ => False
  | _ => False
section
variable {X : Cx} {B : Bs} {Wx : WX} {a b c e o : Expr} {wa wb wc we wo wi : WT} {pos : Pos} {es : List Expr} {wl : WA}
theorem c_extT {cpos apos : Pos} (ho : PV X B Wx o wo) (ha : SndA X B Wx [e] wl) (hbase : attributeBase o "extend" X.env (eval o X.env) = eval o X.env)
    (hfew : ((backTo cpos (starEach [e] X.env)).all (fun x => !x.1) && (backToKw cpos (keywordEach [] X.env)).all (fun x => x.1.isSome) && decide ([e].length + ([] : List Keyword).length + (if ([] : List Keyword).isEmpty then 0 else 1) < 30)) = true)
    (hline : (apos.endLine == cpos.line) = true) (hs : starEach [e] X.env = (false, eval e X.env) :: starEach [] X.env) (hplain : (backTo cpos (starEach [] X.env)).any (·.1) = false) :
    PV X B Wx (.Call (.Attribute o "extend" apos) [e] [] cpos) (wExtT wo wl) := by
  refine PE_imp (pe_bm PySem.F.plainAttrs_list PySem.F.slot_list_extend PySem.F.type_list_extend mt_extT ho ha hbase hfew hline hs hplain) fun σ H Q ⟨S, env, T, P, PX, r, hw, hP, hX⟩ => ?_
  refine ⟨S, env, T, _, PX, r, hw, fun t env1 vt S1 H1 hq r1 => ?_, hX⟩
  cases t with
  | o _ => exact hq.elim
  | al a i p =>
    have et : vt = .ref a := r1.tmps (vt, .al a i p) List.mem_cons_self
    subst et
    obtain ⟨hat, hq⟩ := hq
    refine ⟨?_, ?_⟩
    · unfold listAt at hat
      cases ee : envAt env1 i p with
      | none => simp only [ee] at hat
      | some y =>
        simp only [ee] at hat
        cases y with
        | d _ => exact hat.elim
        | tup _ => exact hat.elim
        | obj b k xs =>
          cases k with
          | dct _ => exact hat.elim
          | lst =>
            have hat : b = a := hat
            subst hat
            obtain ⟨vs, hv, _⟩ := r1.seenAt ee
            exact .inl ⟨rfl, vs, .inl (.inl hv)⟩
    · refine ⟨S1, env1, (.ref a, .al a i p) :: T, _, PX, r1, hq, fun env2 Z S2 H2 h2 r2 => ?_, hX⟩
      cases Z with
      | nil => exact h2.elim
      | cons z Z =>
        obtain ⟨y, w⟩ := z
        cases w with
        | al _ _ _ => cases Z <;> exact h2.elim
        | o w =>
          cases w with
          | tup _ => cases Z <;> exact h2.elim
          | obj _ k _ => cases Z <;> exact h2.elim
          | d d =>
            cases d with
            | tuple ds =>
              cases Z with
              | cons _ _ => exact h2.elim
              | nil =>
                have r4 : R X.K B S2 H2 σ env2 ((y, .o (.d (.tuple ds))) :: (.ref a, .al a i p) :: T) := r2
                have z : OwnR X.K S2 H2 y (.d (.tuple ds)) := r4.tmps (y, .o (.d (.tuple ds))) List.mem_cons_self
                have r5 : R X.K B S2 H2 σ env2 T := r4.perm (fun t ht => List.mem_cons_of_mem _ (List.mem_cons_of_mem _ ht)) fun b => by
                  show cntT b T ≤ _ + (0 + cntT b T)
                  omega
                have ud : Ud X.K S2 H2 y (.tuple ds) := by
                  cases z with
                  | d rp => exact .inl rp
                obtain ⟨c, zs, rfl, hc, ra⟩ := ud.tup
                have h2 : match envAt env2 i p with
                  | some (.obj b .lst xs) => b = a ∧ xs.length + ds.length ≤ sizeLine ∧ P (.o (.d .none)) (envPut env2 i p (.lst b (xs ++ ds.map O.d)))
                  | _ => False := h2
                cases ee : envAt env2 i p with
                | none => simp only [ee] at h2
                | some y2 =>
                  simp only [ee] at h2
                  cases y2 with
                  | d _ => exact h2.elim
                  | tup _ => exact h2.elim
                  | obj b k xs =>
                    cases k with
                    | dct _ => exact h2.elim
                    | lst =>
                      obtain ⟨hb, hz, q⟩ := h2
                      subst hb
                      obtain ⟨vs, hv, ow⟩ := r5.seenAt ee
                      have oc : OwnA X.K S2 H2 zs (ds.map O.d) := OwnA.of_data ra
                      have r6 := r5.renewAt ee (us := vs ++ zs) (ys := xs ++ ds.map O.d) (fun {vs'} {H'} e2 o2 => ow.append oc) fun b => by
                        rw [O.cntL_append, cntL_data]; exact Nat.le_refl _
                      exact ⟨b, c, vs, zs, rfl, rfl, hv, hc, by rw [ow.length, oc.length, List.length_map]; exact hz, hP _ _ _ _ _ q r6.pushNone⟩
            | _ => cases Z <;> exact h2.elim
end
/-- an own list goes on by a tuple -/
theorem nx_extTE {we : WT} {u : WS} {PX : Exn → Env → Prop} {env : Env} {k : Kt} {i : Nat} {a : Addr} {xs : List O} {ds : List D} (hc : Ev we env (.tuple ds)) (he : env[i]? = some (some (.lst a xs))) (hl : xs.length + ds.length ≤ 1000000)
    (h : Nx u PX (env.set i (some (.lst a (xs ++ ds.map O.d)))) k) : Nx (sCons (sExpr (wExtT (wVar i) (aCons we aNil))) u) PX env k := by
  refine nx_expr ?_
  unfold wExtT
  unfold wVar
  simp only [he]
  have e : envAt env i [] = some (.lst a xs) := by unfold envAt; simp only [he]; rfl
  refine ⟨?_, ?_⟩
  · unfold listAt
    simp only [e]
  unfold aCons aNil
  refine hc _ _ ?_
  show match envAt env i [] with
    | some (.obj b .lst xs) => _
    | _ => False
  rw [e]
  refine ⟨rfl, Nat.le_of_lt (small hl), ?_⟩
  unfold envPut
  simp only [he]
  exact h
theorem nx_extE {we : WT} {u : WS} {PX : Exn → Env → Prop} {env : Env} {k : Kt} {i : Nat} {a : Addr} {xs : List O} {ds : List D} (hc : EvL we env ds) (he : env[i]? = some (some (.lst a xs))) (hl : xs.length + ds.length ≤ 1000000)
    (h : Nx u PX (env.set i (some (.lst a (xs ++ ds.map O.d)))) k) : Nx (sCons (sExpr (wExtend (wVar i) (aCons we aNil))) u) PX env k := by
  refine nx_expr ?_
  unfold wExtend
  unfold wVar
  simp only [he]
  have e : envAt env i [] = some (.lst a xs) := by unfold envAt; simp only [he]; rfl
  refine ⟨?_, ?_⟩
  · unfold listAt
    simp only [e]
  unfold aCons aNil
  refine hc _ _ fun c => ?_
  show onSome (datas (ds.map O.d)) _
  refine onSome_mk (datas_map ds) ?_
  show match envAt env i [] with
    | some (.obj b .lst xs) => _
    | _ => False
  rw [e]
  refine ⟨rfl, Nat.le_of_lt (small hl), ?_⟩
  unfold envPut
  simp only [he]
  exact h
end Vx
namespace VL
open PySem PySem.Spec L2 Vx
/-! ### the text -/
def topS (i : Nat) : Stmt := PySem.Challenge.pw_almsrow_k06_contraries.main.body.getD i (.Pass ⟨0, 0, 0, 0⟩)
abbrev wNone : WT := wK .none
abbrev s__law_few : Stmt := topS 13
abbrev n__law_few : List Str := ["_law_literals", "_law_towns_here", "_law_ages", "_law_near", "_law_literal_here", "_law_more", "_law_end", "_law_word"]
theorem nd__law_few : List.Nodup n__law_few := by decide +kernel
theorem sc__law_few : FnScope n__law_few ["_law_literals"] (defScope s__law_few) := ⟨rfl, rfl, rfl, nd__law_few, rfl, by decide +kernel, by decide +kernel⟩
abbrev s__law_holds : Stmt := topS 9
abbrev n__law_holds : List Str := ["_law_literal_here", "_law_who", "_law_sort", "_law_word"]
theorem nd__law_holds : List.Nodup n__law_holds := by decide +kernel
theorem sc__law_holds : FnScope n__law_holds ["_law_literal_here", "_law_who"] (defScope s__law_holds) := ⟨rfl, rfl, rfl, nd__law_holds, rfl, by decide +kernel, by decide +kernel⟩
abbrev s__law_is_number : Stmt := topS 10
abbrev n__law_is_number : List Str := ["_law_thing", "_law_least"]
theorem nd__law_is_number : List.Nodup n__law_is_number := by decide +kernel
theorem sc__law_is_number : FnScope n__law_is_number ["_law_thing", "_law_least"] (defScope s__law_is_number) := ⟨rfl, rfl, rfl, nd__law_is_number, rfl, by decide +kernel, by decide +kernel⟩
abbrev s__law_is_word : Stmt := topS 11
abbrev n__law_is_word : List Str := ["_law_thing", "_law_sign"]
theorem nd__law_is_word : List.Nodup n__law_is_word := by decide +kernel
theorem sc__law_is_word : FnScope n__law_is_word ["_law_thing"] (defScope s__law_is_word) := ⟨rfl, rfl, rfl, nd__law_is_word, rfl, by decide +kernel, by decide +kernel⟩
abbrev s__law_is_literal : Stmt := topS 12
abbrev n__law_is_literal : List Str := ["_law_thing", "_law_words", "_law_word", "_law_k"]
theorem nd__law_is_literal : List.Nodup n__law_is_literal := by decide +kernel
theorem sc__law_is_literal : FnScope n__law_is_literal ["_law_thing"] (defScope s__law_is_literal) := ⟨rfl, rfl, rfl, nd__law_is_literal, rfl, by decide +kernel, by decide +kernel⟩
abbrev s_contrary : Stmt := topS 1
abbrev n_contrary : List Str := ["literal", "found"]
theorem nd_contrary : List.Nodup n_contrary := by decide +kernel
theorem sc_contrary : FnScope n_contrary ["literal"] (defScope s_contrary) := ⟨rfl, rfl, rfl, nd_contrary, rfl, by decide +kernel, by decide +kernel⟩
abbrev s__law_is_contrary : Stmt := topS 14
abbrev n__law_is_contrary : List Str := ["_law_literal_here", "_law_told", "_law_towns_here", "_law_ages", "_law_near", "_law_whos", "_law_age", "_law_who", "_law_one", "_law_bond", "_law_town"]
theorem nd__law_is_contrary : List.Nodup n__law_is_contrary := by decide +kernel
theorem sc__law_is_contrary : FnScope n__law_is_contrary ["_law_literal_here"] (defScope s__law_is_contrary) := ⟨rfl, rfl, rfl, nd__law_is_contrary, rfl, by decide +kernel, by decide +kernel⟩
abbrev s__law_take : Stmt := topS 4
abbrev n__law_take : List Str := ["_law_tap_here", "_law_many", "_law_calls", "_law_figure", "_law_spot", "_law_cells", "_law_cell", "_law_once"]
theorem nd__law_take : List.Nodup n__law_take := by decide +kernel
theorem sc__law_take : FnScope n__law_take ["_law_tap_here", "_law_many"] (defScope s__law_take) := ⟨rfl, rfl, rfl, nd__law_take, rfl, by decide +kernel, by decide +kernel⟩
abbrev s__law_number : Stmt := topS 7
abbrev n__law_number : List Str := ["_law_tap_here"]
theorem nd__law_number : List.Nodup n__law_number := by decide +kernel
theorem sc__law_number : FnScope n__law_number ["_law_tap_here"] (defScope s__law_number) := ⟨rfl, rfl, rfl, nd__law_number, rfl, by decide +kernel, by decide +kernel⟩
abbrev s__law_some : Stmt := topS 6
abbrev n__law_some : List Str := ["_law_tap_here", "_law_towns_here", "_law_found", "_law_town"]
theorem nd__law_some : List.Nodup n__law_some := by decide +kernel
theorem sc__law_some : FnScope n__law_some ["_law_tap_here", "_law_towns_here"] (defScope s__law_some) := ⟨rfl, rfl, rfl, nd__law_some, rfl, by decide +kernel, by decide +kernel⟩
abbrev s__law_literal : Stmt := topS 8
abbrev n__law_literal : List Str := ["_law_tap_here", "_law_towns_here", "_law_way", "_law_first"]
theorem nd__law_literal : List.Nodup n__law_literal := by decide +kernel
theorem sc__law_literal : FnScope n__law_literal ["_law_tap_here", "_law_towns_here"] (defScope s__law_literal) := ⟨rfl, rfl, rfl, nd__law_literal, rfl, by decide +kernel, by decide +kernel⟩
abbrev s__law_tap : Stmt := topS 3
abbrev n__law_tap : List Str := ["_law_script"]
theorem nd__law_tap : List.Nodup n__law_tap := by decide +kernel
theorem sc__law_tap : FnScope n__law_tap ["_law_script"] (defScope s__law_tap) := ⟨rfl, rfl, rfl, nd__law_tap, rfl, by decide +kernel, by decide +kernel⟩
abbrev s__law_towns : Stmt := topS 5
abbrev n__law_towns : List Str := ["_law_tap_here", "_law_shift", "_law_letters", "_law_pool", "_law_found", "_law_k", "_law_word", "_law_sign"]
theorem nd__law_towns : List.Nodup n__law_towns := by decide +kernel
theorem sc__law_towns : FnScope n__law_towns ["_law_tap_here"] (defScope s__law_towns) := ⟨rfl, rfl, rfl, nd__law_towns, rfl, by decide +kernel, by decide +kernel⟩
abbrev s_law : Stmt := topS 15
abbrev n_law : List Str := ["_law_script", "_law_tap_here", "_law_towns_here", "_law_literals", "_law_k", "_law_literal_here"]
theorem nd_law : List.Nodup n_law := by decide +kernel
theorem sc_law : FnScope n_law ["_law_script"] (defScope s_law) := ⟨rfl, rfl, rfl, nd_law, rfl, by decide +kernel, by decide +kernel⟩
/-! ### the meanings -/
abbrev w__law_few_5 : WS := sCons (sExpr (wExtT (wVar 1) (aCons (wIx (wVar 4) (wK (.int 1))) aNil))) sNil
abbrev w__law_few_7 : WS := sCons (sExpr (wExtend (wVar 2) (aCons (wBin .add (wLst (aCons (wIx (wVar 4) (wK (.int 1))) aNil)) (wComp (iE (wSl (wVar 4) (oSome (wK (.int 2))) oNone)) [6] (.v 6) (cOne (wCmp .isNot (wVar 6) wNone)) (wVar 6))) aNil))) sNil
abbrev w__law_few_8 : WS := sCons (sExpr (wAppend (wVar 3) (aCons (wBin .add (wIx (wVar 4) (wK (.int 1))) (wK (.int 1))) aNil))) sNil
abbrev w__law_few_6 : WS := sCons (sIf (wCmp .eq (wIx (wVar 4) (wK (.int 0))) (wK (.str "age"))) w__law_few_7 w__law_few_8) sNil
abbrev w__law_few_4 : WS := sCons (sIf (wCmp .inn (wIx (wVar 4) (wK (.int 0))) (wTup (aCons (wK (.str "town")) (aCons (wK (.str "out")) aNil)))) w__law_few_5 w__law_few_6) sNil
abbrev w__law_few_10 : WS := sCons (sRet (wTup (aCons (wBin .add (wBlt fSetSortS (aCons (wVar 1) aNil)) (wVar 5)) (aCons (wFrz (wBlt fSetSort (aCons (wVar 2) aNil))) (aCons (wBin .add (wSl (wVar 3) oNone (oSome (wK (.int 1)))) (wBlt fSetSort (aCons (wSl (wVar 3) (oSome (wK (.int 1))) oNone) aNil))) aNil))))) sNil
abbrev w__law_few_9 : WS := sCons (sAsg (.v 5) (wSl (wComp (iE (wTup (aCons (wK (.str "q")) (aCons (wK (.str "qq")) (aCons (wK (.str "other")) (aCons (wK (.str "fresh")) (aCons (wK (.str "else")) aNil))))))) [7] (.v 7) (cOne (wCmp .notIn (wVar 7) (wVar 1))) (wVar 7)) oNone (oSome (wK (.int 1))))) w__law_few_10
abbrev w__law_few_3 : WS := sCons (sFor (.v 4) (iE (wVar 0)) w__law_few_4) w__law_few_9
abbrev w__law_few_2 : WS := sCons (sAsg (.v 3) (wLst (aCons wNone (aCons (wK (.int 0)) aNil)))) w__law_few_3
abbrev w__law_few_1 : WS := sCons (sAsg (.v 2) (wLst (aCons (wK (.int 0)) aNil))) w__law_few_2
abbrev w__law_few_0 : WS := sCons (sAsg (.v 1) (wLst aNil)) w__law_few_1
abbrev w__law_few : WS := w__law_few_0
@[irreducible] def F__law_few : FSem := semW w__law_few 8
abbrev w__law_holds_2 : WS := sCons (sRet (wCmp .eq (wCmp .eq (wPrim .len (aCons (wComp (iE (wIx (wVar 0) (wK (.int 1)))) [3] (.v 3) (cOne (wCmp .eq (wVar 3) (wIx (wVar 1) (wK (.int 0))))) (wVar 3)) aNil)) (wK (.int 1))) (wCmp .eq (wVar 2) (wK (.str "town"))))) sNil
abbrev w__law_holds_4 : WS := sCons (sRet (wAnd (wNot (wCmp .lt (wIx (wVar 1) (wK (.int 1))) (wIx (wVar 0) (wK (.int 1))))) (wOr (wCmp .is (wIx (wVar 0) (wK (.int 2))) wNone) (wNot (wCmp .ge (wIx (wVar 1) (wK (.int 1))) (wIx (wVar 0) (wK (.int 2)))))))) sNil
abbrev w__law_holds_6 : WS := sCons (sRet (wCmp .eq (wVar 2) (wK (.str "far")))) sNil
abbrev w__law_holds_7 : WS := sCons (sRet (wCmp .eq (wVar 2) (wK (.str "kin")))) sNil
abbrev w__law_holds_5 : WS := sCons (sIf (wOr (wCmp .is (wIx (wVar 1) (wK (.int 2))) wNone) (wCmp .gt (wIx (wVar 1) (wK (.int 2))) (wIx (wVar 0) (wK (.int 1))))) w__law_holds_6 sNil) w__law_holds_7
abbrev w__law_holds_3 : WS := sCons (sIf (wCmp .eq (wVar 2) (wK (.str "age"))) w__law_holds_4 sNil) w__law_holds_5
abbrev w__law_holds_1 : WS := sCons (sIf (wCmp .inn (wVar 2) (wTup (aCons (wK (.str "town")) (aCons (wK (.str "out")) aNil)))) w__law_holds_2 sNil) w__law_holds_3
abbrev w__law_holds_0 : WS := sCons (sAsg (.v 2) (wIx (wVar 0) (wK (.int 0)))) w__law_holds_1
abbrev w__law_holds : WS := w__law_holds_0
@[irreducible] def F__law_holds : FSem := semW w__law_holds 4
abbrev w__law_is_number_0 : WS := sCons (sRet (wAnd (wPrim (.isi .int) (aCons (wVar 0) aNil)) (wAnd (wNot (wPrim (.isi .bool) (aCons (wVar 0) aNil))) (wCmp .ge (wVar 0) (wVar 1))))) sNil
abbrev w__law_is_number : WS := w__law_is_number_0
@[irreducible] def F__law_is_number : FSem := semW w__law_is_number 2
abbrev w__law_is_word_1 : WS := sCons (sRet (wK (.bool false))) sNil
abbrev w__law_is_word_2 : WS := sCons (sRet (wCmp .eq (wComp (iS (wVar 0)) [1] (.v 1) (cOne (wCmp .notIn (wVar 1) (wK (.str "abcdefghijklmnopqrstuvwxyz")))) (wVar 1)) (wLst aNil))) sNil
abbrev w__law_is_word_0 : WS := sCons (sIf (wOr (wNot (wPrim (.isi .str) (aCons (wVar 0) aNil))) (wOr (wCmp .lt (wPrim .len (aCons (wVar 0) aNil)) (wK (.int 1))) (wCmp .gt (wPrim .len (aCons (wVar 0) aNil)) (wK (.int 8))))) w__law_is_word_1 sNil) w__law_is_word_2
abbrev w__law_is_word : WS := w__law_is_word_0
@[irreducible] def F__law_is_word : FSem := semW w__law_is_word 2
abbrev w__law_is_literal_1 : WS := sCons (sRet (wK (.bool false))) sNil
abbrev w__law_is_literal_4 : WS := sCons (sRet (wK (.bool false))) sNil
abbrev w__law_is_literal_5 : WS := sCons (sRet (wOr (wCmp .is (wIx (wVar 0) (wK (.int 2))) wNone) (wCall (ar 2 F__law_is_number) (aCons (wIx (wVar 0) (wK (.int 2))) (aCons (wBin .add (wIx (wVar 0) (wK (.int 1))) (wK (.int 1))) aNil))))) sNil
abbrev w__law_is_literal_3 : WS := sCons (sIf (wOr (wCmp .ne (wPrim .len (aCons (wVar 0) aNil)) (wK (.int 3))) (wNot (wCall (ar 2 F__law_is_number) (aCons (wIx (wVar 0) (wK (.int 1))) (aCons (wK (.int 0)) aNil))))) w__law_is_literal_4 sNil) w__law_is_literal_5
abbrev w__law_is_literal_7 : WS := sCons (sRet (wK (.bool false))) sNil
abbrev w__law_is_literal_9 : WS := sCons (sRet (wCall (ar 2 F__law_is_number) (aCons (wIx (wVar 0) (wK (.int 1))) (aCons (wK (.int 0)) aNil)))) sNil
abbrev w__law_is_literal_12 : WS := sCons (sRet (wK (.bool false))) sNil
abbrev w__law_is_literal_13 : WS := sCons (sRet (wCmp .eq (wComp (iR2 (wK (.int 1)) (wPrim .len (aCons (wVar 1) aNil))) [3] (.v 3) (cOne (wCmp .ge (wIx (wVar 1) (wBin .sub (wVar 3) (wK (.int 1)))) (wIx (wVar 1) (wVar 3)))) (wVar 3)) (wLst aNil))) sNil
abbrev w__law_is_literal_11 : WS := sCons (sIf (wOr (wNot (wPrim (.isi .tuple) (aCons (wVar 1) aNil))) (wOr (wCmp .eq (wVar 1) (wTup aNil)) (wCmp .ne (wComp (iE (wVar 1)) [2] (.v 2) (cOne (wNot (wCall (ar 1 F__law_is_word) (aCons (wVar 2) aNil)))) (wVar 2)) (wLst aNil)))) w__law_is_literal_12 sNil) w__law_is_literal_13
abbrev w__law_is_literal_10 : WS := sCons (sAsg (.v 1) (wIx (wVar 0) (wK (.int 1)))) w__law_is_literal_11
abbrev w__law_is_literal_8 : WS := sCons (sIf (wCmp .inn (wIx (wVar 0) (wK (.int 0))) (wTup (aCons (wK (.str "kin")) (aCons (wK (.str "far")) aNil)))) w__law_is_literal_9 sNil) w__law_is_literal_10
abbrev w__law_is_literal_6 : WS := sCons (sIf (wCmp .ne (wPrim .len (aCons (wVar 0) aNil)) (wK (.int 2))) w__law_is_literal_7 sNil) w__law_is_literal_8
abbrev w__law_is_literal_2 : WS := sCons (sIf (wCmp .eq (wIx (wVar 0) (wK (.int 0))) (wK (.str "age"))) w__law_is_literal_3 sNil) w__law_is_literal_6
abbrev w__law_is_literal_0 : WS := sCons (sIf (wOr (wNot (wPrim (.isi .tuple) (aCons (wVar 0) aNil))) (wOr (wCmp .lt (wPrim .len (aCons (wVar 0) aNil)) (wK (.int 2))) (wCmp .notIn (wIx (wVar 0) (wK (.int 0))) (wTup (aCons (wK (.str "town")) (aCons (wK (.str "out")) (aCons (wK (.str "age")) (aCons (wK (.str "kin")) (aCons (wK (.str "far")) aNil))))))))) w__law_is_literal_1 sNil) w__law_is_literal_2
abbrev w__law_is_literal : WS := w__law_is_literal_0
@[irreducible] def F__law_is_literal : FSem := semW w__law_is_literal 4
abbrev w_contrary_1 : WS := sCons (sRet (wTup (aCons (wTup (aCons (wIx (wDct [.inr "town", .inr "out", .inr "kin", .inr "far"] (aCons (wK (.str "out")) (aCons (wK (.str "town")) (aCons (wK (.str "far")) (aCons (wK (.str "kin")) aNil))))) (wIx (wVar 0) (wK (.int 0)))) (aCons (wIx (wVar 0) (wK (.int 1))) aNil))) aNil))) sNil
abbrev w_contrary_4 : WS := sCons (sExpr (wAppend (wVar 1) (aCons (wTup (aCons (wK (.str "age")) (aCons (wK (.int 0)) (aCons (wIx (wVar 0) (wK (.int 1))) aNil)))) aNil))) sNil
abbrev w_contrary_6 : WS := sCons (sExpr (wAppend (wVar 1) (aCons (wTup (aCons (wK (.str "age")) (aCons (wIx (wVar 0) (wK (.int 2))) (aCons wNone aNil)))) aNil))) sNil
abbrev w_contrary_7 : WS := sCons (sRet (wIfe (wCmp .gt (wPrim .len (aCons (wVar 1) aNil)) (wK (.int 0))) (wPrim .tuple (aCons (wVar 1) aNil)) wNone)) sNil
abbrev w_contrary_5 : WS := sCons (sIf (wCmp .isNot (wIx (wVar 0) (wK (.int 2))) wNone) w_contrary_6 sNil) w_contrary_7
abbrev w_contrary_3 : WS := sCons (sIf (wCmp .gt (wIx (wVar 0) (wK (.int 1))) (wK (.int 0))) w_contrary_4 sNil) w_contrary_5
abbrev w_contrary_2 : WS := sCons (sAsg (.v 1) (wLst aNil)) w_contrary_3
abbrev w_contrary_0 : WS := sCons (sIf (wCmp .ne (wIx (wVar 0) (wK (.int 0))) (wK (.str "age"))) w_contrary_1 sNil) w_contrary_2
abbrev w_contrary : WS := w_contrary_0
@[irreducible] def F_contrary : FSem := semW w_contrary 2
abbrev w__law_is_contrary_2 : WS := sCons (sRet (wCmp .is (wVar 1) wNone)) sNil
abbrev w__law_is_contrary_4 : WS := sCons (sRet (wK (.bool false))) sNil
abbrev w__law_is_contrary_11 : WS := sCons (sExpr (wExtend (wVar 5) (aCons (wBin .add (wComp (iE (wVar 4)) [9] (.v 9) cAll (wTup (aCons (wIx (wVar 2) (wK (.int 0))) (aCons (wVar 6) (aCons (wVar 9) aNil))))) (wComp (iE (wVar 4)) [9] (.v 9) cAll (wTup (aCons (wIx (wVar 2) (wNeg (wK (.int 1)))) (aCons (wVar 6) (aCons (wVar 9) aNil)))))) aNil))) sNil
abbrev w__law_is_contrary_10 : WS := sCons (sExpr (wExtend (wVar 5) (aCons (wComp (iE (wVar 2)) [10] (.v 10) cAll (wTup (aCons (wVar 10) (aCons (wVar 6) (aCons wNone aNil))))) aNil))) w__law_is_contrary_11
abbrev w__law_is_contrary_14 : WS := sCons (sRet (wK (.bool false))) sNil
abbrev w__law_is_contrary_13 : WS := sCons (sIf (wCmp .eq (wCmp .inn (wK (.bool true)) (wComp (iE (wVar 1)) [8] (.v 8) cAll (wCall (ar 2 F__law_holds) (aCons (wVar 8) (aCons (wVar 7) aNil))))) (wCall (ar 2 F__law_holds) (aCons (wVar 0) (aCons (wVar 7) aNil)))) w__law_is_contrary_14 sNil) sNil
abbrev w__law_is_contrary_15 : WS := sCons (sRet (wK (.bool true))) sNil
abbrev w__law_is_contrary_12 : WS := sCons (sFor (.v 7) (iE (wVar 5)) w__law_is_contrary_13) w__law_is_contrary_15
abbrev w__law_is_contrary_9 : WS := sCons (sFor (.v 6) (iE (wVar 3)) w__law_is_contrary_10) w__law_is_contrary_12
abbrev w__law_is_contrary_8 : WS := sCons (sAsg (.v 5) (wLst aNil)) w__law_is_contrary_9
abbrev w__law_is_contrary_7 : WS := sCons (sAsg (.v 4) (wBin .add (wVar 4) (wComp (iE (wVar 4)) [9] (.v 9) (cOne (wAnd (wCmp .isNot (wVar 9) wNone) (wCmp .gt (wVar 9) (wK (.int 0))))) (wBin .sub (wVar 9) (wK (.int 1)))))) w__law_is_contrary_8
abbrev w__law_is_contrary_6 : WS := sCons (sAsg (.v 3) (wBlt fSetSort (aCons (wBin .add (wVar 3) (wComp (iE (wVar 3)) [6] (.v 6) cAll (wPrim .max2 (aCons (wK (.int 0)) (aCons (wBin .sub (wVar 6) (wK (.int 1))) aNil))))) aNil))) w__law_is_contrary_7
abbrev w__law_is_contrary_5 : WS := sCons (sAsg (.tup [2, 3, 4]) (wCall (ar 1 F__law_few) (aCons (wBin .add (wTup (aCons (wVar 0) aNil)) (wVar 1)) aNil))) w__law_is_contrary_6
abbrev w__law_is_contrary_3 : WS := sCons (sIf (wOr (wNot (wPrim (.isi .tuple) (aCons (wVar 1) aNil))) (wOr (wCmp .eq (wVar 1) (wTup aNil)) (wCmp .ne (wComp (iE (wVar 1)) [8] (.v 8) (cOne (wNot (wCall (ar 1 F__law_is_literal) (aCons (wVar 8) aNil)))) (wVar 8)) (wLst aNil)))) w__law_is_contrary_4 sNil) w__law_is_contrary_5
abbrev w__law_is_contrary_1 : WS := sCons (sIf (wCmp .eq (wVar 0) (wTup (aCons (wK (.str "age")) (aCons (wK (.int 0)) (aCons wNone aNil))))) w__law_is_contrary_2 sNil) w__law_is_contrary_3
abbrev w__law_is_contrary_0 : WS := sCons (sAsg (.v 1) (wCall (ar 1 F_contrary) (aCons (wVar 0) aNil))) w__law_is_contrary_1
abbrev w__law_is_contrary : WS := w__law_is_contrary_0
@[irreducible] def F__law_is_contrary : FSem := semW w__law_is_contrary 11
abbrev w__law_take_5 : WS := sCons (sRet (wVar 3)) sNil
abbrev w__law_take_4 : WS := sCons (sSetIx (wBin .fdiv (wIx (wVar 0) (wK (.str "rest"))) (wVar 1)) (wVar 0) (wK (.str "rest"))) w__law_take_5
abbrev w__law_take_3 : WS := sCons (sAsg (.v 3) (wBin .mod (wIx (wVar 0) (wK (.str "rest"))) (wVar 1))) w__law_take_4
abbrev w__law_take_12 : WS := sCons (sRet (wBin .mod (wVar 6) (wVar 1))) sNil
abbrev w__law_take_11 : WS := sCons (sSetIx (wBin .fdiv (wVar 6) (wVar 1)) (wVar 0) (wK (.str "rest"))) w__law_take_12
abbrev w__law_take_14 : WS := sCons (sRet (wBin .mod (wBin .fdiv (wBin .mod (wBin .pow (wBin .add (wVar 7) (wBin .mul (wBin .mul (wK (.int 4099)) (wVar 2)) (wVar 2))) (wK (.int 5))) (wK (.int 2147483587))) (wK (.int 32))) (wVar 1))) sNil
abbrev w__law_take_13 : WS := sCons (sAsg (.v 7) (wBin .mod (wBin .pow (wBin .add (wBin .add (wBin .mod (wVar 6) (wK (.int 2147483629))) (wBin .mul (wK (.int 6007)) (wVar 2))) (wK (.int 11))) (wK (.int 5))) (wK (.int 2147483647)))) w__law_take_14
abbrev w__law_take_10 : WS := sCons (sIf (wAnd (wCmp .lt (wVar 4) (wPrim .len (aCons (wVar 5) aNil))) (wCmp .ge (wVar 6) (wBin .pow (wK (.int 10)) (wK (.int 18))))) w__law_take_11 sNil) w__law_take_13
abbrev w__law_take_9 : WS := sCons (sAsg (.v 6) (wIfe (wCmp .gt (wPrim .len (aCons (wVar 5) aNil)) (wK (.int 0))) (wIx (wVar 5) (wBin .mod (wVar 4) (wPrim .len (aCons (wVar 5) aNil)))) (wK (.int 5)))) w__law_take_10
abbrev w__law_take_8 : WS := sCons (sAsg (.v 5) (wIx (wVar 0) (wK (.str "cells")))) w__law_take_9
abbrev w__law_take_7 : WS := sCons (sSetIx (wBin .add (wVar 4) (wK (.int 1))) (wVar 0) (wK (.str "spot"))) w__law_take_8
abbrev w__law_take_6 : WS := sCons (sAsg (.v 4) (wIx (wVar 0) (wK (.str "spot")))) w__law_take_7
abbrev w__law_take_2 : WS := sCons (sIf (wCmp .gt (wIx (wVar 0) (wK (.str "rest"))) (wK (.int 0))) w__law_take_3 sNil) w__law_take_6
abbrev w__law_take_1 : WS := sCons (sSetIx (wVar 2) (wVar 0) (wK (.str "calls"))) w__law_take_2
abbrev w__law_take_0 : WS := sCons (sAsg (.v 2) (wBin .add (wIx (wVar 0) (wK (.str "calls"))) (wK (.int 1)))) w__law_take_1
abbrev w__law_take : WS := w__law_take_0
@[irreducible] def F__law_take : FSem := semW w__law_take 8
abbrev w__law_number_0 : WS := sCons (sRet (wIfe (wCmp .eq (wCall (ar 2 F__law_take) (aCons (wVar 0) (aCons (wK (.int 8)) aNil))) (wK (.int 0))) (wCall (ar 2 F__law_take) (aCons (wVar 0) (aCons (wK (.int 200)) aNil))) (wCall (ar 2 F__law_take) (aCons (wVar 0) (aCons (wK (.int 5)) aNil))))) sNil
abbrev w__law_number : WS := w__law_number_0
@[irreducible] def F__law_number : FSem := semW w__law_number 1
abbrev w__law_some_2 : WS := sCons (sAsg (.v 2) (wLst (aCons (wIx (wVar 1) (wCall (ar 2 F__law_take) (aCons (wVar 0) (aCons (wK (.int 6)) aNil)))) aNil))) sNil
abbrev w__law_some_3 : WS := sCons (sRet (wPrim .tuple (aCons (wBlt fSortS (aCons (wSl (wVar 2) oNone (oSome (wK (.int 4)))) aNil)) aNil))) sNil
abbrev w__law_some_1 : WS := sCons (sIf (wCmp .eq (wVar 2) (wLst aNil)) w__law_some_2 sNil) w__law_some_3
abbrev w__law_some_0 : WS := sCons (sAsg (.v 2) (wComp (iE (wVar 1)) [3] (.v 3) (cOne (wCmp .eq (wCall (ar 2 F__law_take) (aCons (wVar 0) (aCons (wK (.int 2)) aNil))) (wK (.int 0)))) (wVar 3))) w__law_some_1
abbrev w__law_some : WS := w__law_some_0
@[irreducible] def F__law_some : FSem := semW w__law_some 4
abbrev w__law_literal_2 : WS := sCons (sRet (wTup (aCons (wIx (wLst (aCons (wK (.str "town")) (aCons (wK (.str "out")) aNil))) (wVar 2)) (aCons (wCall (ar 2 F__law_some) (aCons (wVar 0) (aCons (wVar 1) aNil))) aNil)))) sNil
abbrev w__law_literal_4 : WS := sCons (sRet (wTup (aCons (wIx (wLst (aCons (wK (.str "kin")) (aCons (wK (.str "far")) aNil))) (wBin .sub (wVar 2) (wK (.int 2)))) (aCons (wCall (ar 1 F__law_number) (aCons (wVar 0) aNil)) aNil)))) sNil
abbrev w__law_literal_7 : WS := sCons (sRet (wTup (aCons (wK (.str "age")) (aCons (wVar 3) (aCons wNone aNil))))) sNil
abbrev w__law_literal_8 : WS := sCons (sRet (wTup (aCons (wK (.str "age")) (aCons (wVar 3) (aCons (wPrim .min2 (aCons (wK (.int 200)) (aCons (wBin .add (wBin .add (wVar 3) (wK (.int 1))) (wCall (ar 1 F__law_number) (aCons (wVar 0) aNil))) aNil))) aNil))))) sNil
abbrev w__law_literal_6 : WS := sCons (sIf (wCmp .eq (wCall (ar 2 F__law_take) (aCons (wVar 0) (aCons (wK (.int 3)) aNil))) (wK (.int 0))) w__law_literal_7 sNil) w__law_literal_8
abbrev w__law_literal_5 : WS := sCons (sAsg (.v 3) (wIx (wLst (aCons (wK (.int 0)) (aCons (wCall (ar 1 F__law_number) (aCons (wVar 0) aNil)) (aCons (wBin .mul (wK (.int 10)) (wCall (ar 2 F__law_take) (aCons (wVar 0) (aCons (wK (.int 9)) aNil)))) aNil)))) (wCall (ar 2 F__law_take) (aCons (wVar 0) (aCons (wK (.int 3)) aNil))))) w__law_literal_6
abbrev w__law_literal_3 : WS := sCons (sIf (wCmp .lt (wVar 2) (wK (.int 4))) w__law_literal_4 sNil) w__law_literal_5
abbrev w__law_literal_1 : WS := sCons (sIf (wCmp .lt (wVar 2) (wK (.int 2))) w__law_literal_2 sNil) w__law_literal_3
abbrev w__law_literal_0 : WS := sCons (sAsg (.v 2) (wCall (ar 2 F__law_take) (aCons (wVar 0) (aCons (wK (.int 6)) aNil)))) w__law_literal_1
abbrev w__law_literal : WS := w__law_literal_0
@[irreducible] def F__law_literal : FSem := semW w__law_literal 4
abbrev w__law_tap_0 : WS := sCons (sRet (wDct [.inr "cells", .inr "spot", .inr "rest", .inr "calls"] (aCons (wFrz (wPrim .list (aCons (wSl (wVar 0) oNone (oSome (wK (.int 63)))) aNil))) (aCons (wK (.int 0)) (aCons (wK (.int 0)) (aCons (wK (.int 0)) aNil)))))) sNil
abbrev w__law_tap : WS := w__law_tap_0
@[irreducible] def F__law_tap : FSem := semW w__law_tap 1
abbrev w__law_towns_6 : WS := sCons (sExpr (wAppend (wVar 4) (aCons (wSm .join (wK (.str "")) (aCons (wComp (iS (wVar 6)) [7] (.v 7) cAll (wIx (wVar 2) (wBin .mod (wBin .add (wSm .index (wVar 2) (aCons (wVar 7) aNil)) (wVar 1)) (wK (.int 26))))) aNil)) aNil))) sNil
abbrev w__law_towns_5 : WS := sCons (sAsg (.v 6) (wPop (wVar 3) (aCons (wCall (ar 2 F__law_take) (aCons (wVar 0) (aCons (wPrim .len (aCons (wVar 3) aNil)) aNil))) aNil))) w__law_towns_6
abbrev w__law_towns_7 : WS := sCons (sRet (wVar 4)) sNil
abbrev w__law_towns_4 : WS := sCons (sFor (.v 5) (iR1 (wK (.int 6))) w__law_towns_5) w__law_towns_7
abbrev w__law_towns_3 : WS := sCons (sAsg (.v 4) (wLst aNil)) w__law_towns_4
abbrev w__law_towns_2 : WS := sCons (sAsg (.v 3) (wLst (aCons (wK (.str "a")) (aCons (wK (.str "ab")) (aCons (wK (.str "abc")) (aCons (wK (.str "b")) (aCons (wK (.str "town")) (aCons (wK (.str "out")) (aCons (wK (.str "age")) (aCons (wK (.str "kin")) (aCons (wK (.str "by")) (aCons (wK (.str "abcdefgh")) (aCons (wK (.str "abcdefgi")) (aCons (wK (.str "zzzzzzzz")) aNil)))))))))))))) w__law_towns_3
abbrev w__law_towns_1 : WS := sCons (sAsg (.v 2) (wK (.str "abcdefghijklmnopqrstuvwxyz"))) w__law_towns_2
abbrev w__law_towns_0 : WS := sCons (sAsg (.v 1) (wIfe (wCmp .eq (wCall (ar 2 F__law_take) (aCons (wVar 0) (aCons (wK (.int 3)) aNil))) (wK (.int 0))) (wK (.int 0)) (wCall (ar 2 F__law_take) (aCons (wVar 0) (aCons (wK (.int 26)) aNil))))) w__law_towns_1
abbrev w__law_towns : WS := w__law_towns_0
@[irreducible] def F__law_towns : FSem := semW w__law_towns 8
abbrev w_law_3 : WS := sCons (sRet (wCmp .eq (wComp (iE (wVar 3)) [5] (.v 5) (cOne (wNot (wCall (ar 1 F__law_is_contrary) (aCons (wVar 5) aNil)))) (wVar 5)) (wLst aNil))) sNil
abbrev w_law_2 : WS := sCons (sAsg (.v 3) (wBin .add (wLst (aCons (wTup (aCons (wK (.str "age")) (aCons (wK (.int 0)) (aCons wNone aNil)))) (aCons (wTup (aCons (wK (.str "age")) (aCons (wK (.int 0)) (aCons (wK (.int 5)) aNil)))) (aCons (wTup (aCons (wK (.str "age")) (aCons (wK (.int 5)) (aCons wNone aNil)))) aNil)))) (wComp (iR1 (wK (.int 12))) [4] (.v 4) cAll (wCall (ar 2 F__law_literal) (aCons (wVar 1) (aCons (wVar 2) aNil)))))) w_law_3
abbrev w_law_1 : WS := sCons (sAsg (.v 2) (wCall (ar 1 F__law_towns) (aCons (wVar 1) aNil))) w_law_2
abbrev w_law_0 : WS := sCons (sAsg (.v 1) (wCall (ar 1 F__law_tap) (aCons (wVar 0) aNil))) w_law_1
abbrev w_law : WS := w_law_0
@[irreducible] def F_law : FSem := semW w_law 6
/-! ### the bodies -/
section
open PyProof.Rows
variable {P : Program} {w : World} {K : PySem.W.Frag} {mg : Str → Option Value} {base : Heap}
set_option maxHeartbeats 4000000 in
theorem ok__law_few {f : Addr} {fd : FuncData} (fn : Fun K "_law_few" "_law_few" s__law_few f fd) (z_set : mg "set" = none) (z_sorted : mg "sorted" = none) : FnV P w K mg base 1 f fd ["_law_literals"] (spV K mg 1 F__law_few) := by
  obtain ⟨oc, od, kV, doc, pm, an, cdv, ct, osl, rfl, lk, hcd⟩ := fn.ex
  refine fnV_sem (k := 0) (N := n__law_few) (wb := w__law_few) lk hcd sc__law_few rfl rfl (by decide) (fun _ _ _ h => by unfold F__law_few at h; exact h) fun A outer s H E B hr hgd => ?_
  exact (z_cons (z_asg (c_lst a_nil) (g_nm nd__law_few (by rfl) (by first | exact Or.inl rfl | exact Or.inr rfl) (by first | exact Or.inl rfl | exact Or.inr rfl)) (by rfl) (by rfl) (by rfl)) (z_cons (z_asg (c_lst (a_cons (c_int pe_int) a_nil (by rfl))) (g_nm nd__law_few (by rfl) (by first | exact Or.inl rfl | exact Or.inr rfl) (by first | exact Or.inl rfl | exact Or.inr rfl)) (by rfl) (by rfl) (by rfl)) (z_cons (z_asg (c_lst (a_cons (c_none pe_non) (a_cons (c_int pe_int) a_nil (by rfl)) (by rfl))) (g_nm nd__law_few (by rfl) (by first | exact Or.inl rfl | exact Or.inr rfl) (by first | exact Or.inl rfl | exact Or.inr rfl)) (by rfl) (by rfl) (by rfl)) (z_cons (z_for (poB rfl rfl rfl rfl rfl) (by rfl) (i_e (c_var 0 (by rfl) (by first | exact Or.inl rfl | exact Or.inr (Or.inl rfl) | exact Or.inr (Or.inr rfl)) (by rfl) (by rfl))) (g_nm nd__law_few (by rfl) (by first | exact Or.inl rfl | exact Or.inr rfl) (by first | exact Or.inl rfl | exact Or.inr rfl)) (z_cons (z_if (c_cmp hr .inn (c_ix (c_var 4 (by rfl) (by first | exact Or.inl rfl | exact Or.inr (Or.inl rfl) | exact Or.inr (Or.inr rfl)) (by rfl) (by rfl)) (c_int pe_int) (fun _ _ => rfl)) (c_tup (a_cons (c_str pe_str) (a_cons (c_str pe_str) a_nil (by rfl)) (by rfl))) (by rfl)) (z_cons (z_expr (c_extT (c_var 1 (by rfl) (by first | exact Or.inl rfl | exact Or.inr (Or.inl rfl) | exact Or.inr (Or.inr rfl)) (by rfl) (by rfl)) (a_cons (c_ix (c_var 4 (by rfl) (by first | exact Or.inl rfl | exact Or.inr (Or.inl rfl) | exact Or.inr (Or.inr rfl)) (by rfl) (by rfl)) (c_int pe_int) (fun _ _ => rfl)) a_nil (by rfl)) (by rfl) (by rfl) (by rfl) (by rfl) (by rfl)) (by rfl)) z_nil) (z_cons (z_if (c_cmp hr .eq (c_ix (c_var 4 (by rfl) (by first | exact Or.inl rfl | exact Or.inr (Or.inl rfl) | exact Or.inr (Or.inr rfl)) (by rfl) (by rfl)) (c_int pe_int) (fun _ _ => rfl)) (c_str pe_str) (nomark _)) (z_cons (z_expr (c_extend (c_var 2 (by rfl) (by first | exact Or.inl rfl | exact Or.inr (Or.inl rfl) | exact Or.inr (Or.inr rfl)) (by rfl) (by rfl)) (a_cons (c_bin .add (c_lst (a_cons (c_ix (c_var 4 (by rfl) (by first | exact Or.inl rfl | exact Or.inr (Or.inl rfl) | exact Or.inr (Or.inr rfl)) (by rfl) (by rfl)) (c_int pe_int) (fun _ _ => rfl)) a_nil (by rfl))) (c_comp (own := [("_law_end", 6)]) (by rfl) nd__law_few (i_e (c_sl (c_var 4 (by rfl) (by first | exact Or.inl rfl | exact Or.inr (Or.inl rfl) | exact Or.inr (Or.inr rfl)) (by rfl) (by rfl)) (o_some (c_int pe_int)) o_none)) (blkOk_by (own := [("_law_end", 6)]) (N := n__law_few) (sc := (defScope s__law_few)) (by decide +kernel)) (by decide) (by decide) (fun _ _ _ _ _ => ⟨(g_nm nd__law_few (by rfl) (by first | exact Or.inl rfl | exact Or.inr rfl) (by first | exact Or.inl rfl | exact Or.inr rfl)), (q_one (c_cmp hr .isNot (c_var 6 (by rfl) (by first | exact Or.inl rfl | exact Or.inr (Or.inl rfl) | exact Or.inr (Or.inr rfl)) (by rfl) (by rfl)) (c_none pe_non) (nomark _))), (c_var 6 (by rfl) (by first | exact Or.inl rfl | exact Or.inr (Or.inl rfl) | exact Or.inr (Or.inr rfl)) (by rfl) (by rfl))⟩) (by intro _; rfl))) a_nil (by rfl)) (by rfl) (by rfl) (by rfl) (by rfl) (by rfl)) (by rfl)) z_nil) (z_cons (z_expr (c_append (c_var 3 (by rfl) (by first | exact Or.inl rfl | exact Or.inr (Or.inl rfl) | exact Or.inr (Or.inr rfl)) (by rfl) (by rfl)) (a_cons (c_bin .add (c_ix (c_var 4 (by rfl) (by first | exact Or.inl rfl | exact Or.inr (Or.inl rfl) | exact Or.inr (Or.inr rfl)) (by rfl) (by rfl)) (c_int pe_int) (fun _ _ => rfl)) (c_int pe_int)) a_nil (by rfl)) (by rfl) (by rfl) (by rfl) (by rfl) (by rfl)) (by rfl)) z_nil)) z_nil)) z_nil) (by intro _; rfl)) (z_cons (z_asg (c_sl (c_comp (own := [("_law_word", 7)]) (by rfl) nd__law_few (i_e (c_tup (a_cons (c_str pe_str) (a_cons (c_str pe_str) (a_cons (c_str pe_str) (a_cons (c_str pe_str) (a_cons (c_str pe_str) a_nil (by rfl)) (by rfl)) (by rfl)) (by rfl)) (by rfl)))) (blkOk_by (own := [("_law_word", 7)]) (N := n__law_few) (sc := (defScope s__law_few)) (by decide +kernel)) (by decide) (by decide) (fun _ _ _ _ _ => ⟨(g_nm nd__law_few (by rfl) (by first | exact Or.inl rfl | exact Or.inr rfl) (by first | exact Or.inl rfl | exact Or.inr rfl)), (q_one (c_cmp hr .notIn (c_var 7 (by rfl) (by first | exact Or.inl rfl | exact Or.inr (Or.inl rfl) | exact Or.inr (Or.inr rfl)) (by rfl) (by rfl)) (c_var 1 (by rfl) (by first | exact Or.inl rfl | exact Or.inr (Or.inl rfl) | exact Or.inr (Or.inr rfl)) (by rfl) (by rfl)) (by rfl))), (c_var 7 (by rfl) (by first | exact Or.inl rfl | exact Or.inr (Or.inl rfl) | exact Or.inr (Or.inr rfl)) (by rfl) (by rfl))⟩) (by intro _; rfl)) o_none (o_some (c_int pe_int))) (g_nm nd__law_few (by rfl) (by first | exact Or.inl rfl | exact Or.inr rfl) (by first | exact Or.inl rfl | exact Or.inr rfl)) (by rfl) (by rfl) (by rfl)) (z_cons (z_ret (c_tup (a_cons (c_bin .add (c_setSortS (by rfl) (by rfl) z_sorted (by rfl) z_set (a_cons (c_var 1 (by rfl) (by first | exact Or.inl rfl | exact Or.inr (Or.inl rfl) | exact Or.inr (Or.inr rfl)) (by rfl) (by rfl)) a_nil (by rfl)) (by rfl) (by rfl)) (c_var 5 (by rfl) (by first | exact Or.inl rfl | exact Or.inr (Or.inl rfl) | exact Or.inr (Or.inr rfl)) (by rfl) (by rfl))) (a_cons (c_frz (c_setSort (by rfl) (by rfl) z_sorted (by rfl) z_set (a_cons (c_var 2 (by rfl) (by first | exact Or.inl rfl | exact Or.inr (Or.inl rfl) | exact Or.inr (Or.inr rfl)) (by rfl) (by rfl)) a_nil (by rfl)) (by rfl) (by rfl))) (a_cons (c_bin .add (c_sl (c_var 3 (by rfl) (by first | exact Or.inl rfl | exact Or.inr (Or.inl rfl) | exact Or.inr (Or.inr rfl)) (by rfl) (by rfl)) o_none (o_some (c_int pe_int))) (c_setSort (by rfl) (by rfl) z_sorted (by rfl) z_set (a_cons (c_sl (c_var 3 (by rfl) (by first | exact Or.inl rfl | exact Or.inr (Or.inl rfl) | exact Or.inr (Or.inr rfl)) (by rfl) (by rfl)) (o_some (c_int pe_int)) o_none) a_nil (by rfl)) (by rfl) (by rfl))) a_nil (by rfl)) (by rfl)) (by rfl)))) z_nil))))))
set_option maxHeartbeats 4000000 in
theorem ok__law_holds {f : Addr} {fd : FuncData} (fn : Fun K "_law_holds" "_law_holds" s__law_holds f fd) (z_len : mg "len" = none) : FnV P w K mg base 1 f fd ["_law_literal_here", "_law_who"] (spV K mg 2 F__law_holds) := by
  obtain ⟨oc, od, kV, doc, pm, an, cdv, ct, osl, rfl, lk, hcd⟩ := fn.ex
  refine fnV_sem (k := 0) (N := n__law_holds) (wb := w__law_holds) lk hcd sc__law_holds rfl rfl (by decide) (fun _ _ _ h => by unfold F__law_holds at h; exact h) fun A outer s H E B hr hgd => ?_
  exact (z_cons (z_asg (c_ix (c_var 0 (by rfl) (by first | exact Or.inl rfl | exact Or.inr (Or.inl rfl) | exact Or.inr (Or.inr rfl)) (by rfl) (by rfl)) (c_int pe_int) (fun _ _ => rfl)) (g_nm nd__law_holds (by rfl) (by first | exact Or.inl rfl | exact Or.inr rfl) (by first | exact Or.inl rfl | exact Or.inr rfl)) (by rfl) (by rfl) (by rfl)) (z_cons (z_if (c_cmp hr .inn (c_var 2 (by rfl) (by first | exact Or.inl rfl | exact Or.inr (Or.inl rfl) | exact Or.inr (Or.inr rfl)) (by rfl) (by rfl)) (c_tup (a_cons (c_str pe_str) (a_cons (c_str pe_str) a_nil (by rfl)) (by rfl))) (by rfl)) (z_cons (z_ret ((c_cmp hr .eq ((c_cmp hr .eq (c_primB (prim_ok hr hgd (by rfl) .len (fun _ => nofun) (fun _ => nofun)) rfl (by rfl) z_len (by rfl) (a_cons (c_comp (own := [("_law_word", 3)]) (by rfl) nd__law_holds (i_e (c_ix (c_var 0 (by rfl) (by first | exact Or.inl rfl | exact Or.inr (Or.inl rfl) | exact Or.inr (Or.inr rfl)) (by rfl) (by rfl)) (c_int pe_int) (fun _ _ => rfl))) (blkOk_by (own := [("_law_word", 3)]) (N := n__law_holds) (sc := (defScope s__law_holds)) (by decide +kernel)) (by decide) (by decide) (fun _ _ _ _ _ => ⟨(g_nm nd__law_holds (by rfl) (by first | exact Or.inl rfl | exact Or.inr rfl) (by first | exact Or.inl rfl | exact Or.inr rfl)), (q_one (c_cmp hr .eq (c_var 3 (by rfl) (by first | exact Or.inl rfl | exact Or.inr (Or.inl rfl) | exact Or.inr (Or.inr rfl)) (by rfl) (by rfl)) (c_ix (c_var 1 (by rfl) (by first | exact Or.inl rfl | exact Or.inr (Or.inl rfl) | exact Or.inr (Or.inr rfl)) (by rfl) (by rfl)) (c_int pe_int) (fun _ _ => rfl)) (nomark _))), (c_var 3 (by rfl) (by first | exact Or.inl rfl | exact Or.inr (Or.inl rfl) | exact Or.inr (Or.inr rfl)) (by rfl) (by rfl))⟩) (by intro _; rfl)) a_nil (by rfl)) (by decide) (by rfl) (by rfl) (by rfl)) (c_int pe_int) (nomark _))).pe ((c_cmp hr .eq (c_var 2 (by rfl) (by first | exact Or.inl rfl | exact Or.inr (Or.inl rfl) | exact Or.inr (Or.inr rfl)) (by rfl) (by rfl)) (c_str pe_str) (nomark _))).pe (nomark _))).pe) z_nil) z_nil) (z_cons (z_if (c_cmp hr .eq (c_var 2 (by rfl) (by first | exact Or.inl rfl | exact Or.inr (Or.inl rfl) | exact Or.inr (Or.inr rfl)) (by rfl) (by rfl)) (c_str pe_str) (nomark _)) (z_cons (z_ret (((l_and (c_not (c_cmp hr .lt (c_ix (c_var 1 (by rfl) (by first | exact Or.inl rfl | exact Or.inr (Or.inl rfl) | exact Or.inr (Or.inr rfl)) (by rfl) (by rfl)) (c_int pe_int) (fun _ _ => rfl)) (c_ix (c_var 0 (by rfl) (by first | exact Or.inl rfl | exact Or.inr (Or.inl rfl) | exact Or.inr (Or.inr rfl)) (by rfl) (by rfl)) (c_int pe_int) (fun _ _ => rfl)) (nomark _))) (l_one ((l_or (c_cmp hr .is (c_ix (c_var 0 (by rfl) (by first | exact Or.inl rfl | exact Or.inr (Or.inl rfl) | exact Or.inr (Or.inr rfl)) (by rfl) (by rfl)) (c_int pe_int) (fun _ _ => rfl)) (c_none pe_non) (nomark _)) (l_one (c_not (c_cmp hr .ge (c_ix (c_var 1 (by rfl) (by first | exact Or.inl rfl | exact Or.inr (Or.inl rfl) | exact Or.inr (Or.inr rfl)) (by rfl) (by rfl)) (c_int pe_int) (fun _ _ => rfl)) (c_ix (c_var 0 (by rfl) (by first | exact Or.inl rfl | exact Or.inr (Or.inl rfl) | exact Or.inr (Or.inr rfl)) (by rfl) (by rfl)) (c_int pe_int) (fun _ _ => rfl)) (nomark _)))))).snd))).snd).pe) z_nil) z_nil) (z_cons (z_if ((l_or (c_cmp hr .is (c_ix (c_var 1 (by rfl) (by first | exact Or.inl rfl | exact Or.inr (Or.inl rfl) | exact Or.inr (Or.inr rfl)) (by rfl) (by rfl)) (c_int pe_int) (fun _ _ => rfl)) (c_none pe_non) (nomark _)) (l_one (c_cmp hr .gt (c_ix (c_var 1 (by rfl) (by first | exact Or.inl rfl | exact Or.inr (Or.inl rfl) | exact Or.inr (Or.inr rfl)) (by rfl) (by rfl)) (c_int pe_int) (fun _ _ => rfl)) (c_ix (c_var 0 (by rfl) (by first | exact Or.inl rfl | exact Or.inr (Or.inl rfl) | exact Or.inr (Or.inr rfl)) (by rfl) (by rfl)) (c_int pe_int) (fun _ _ => rfl)) (nomark _))))).snd (z_cons (z_ret ((c_cmp hr .eq (c_var 2 (by rfl) (by first | exact Or.inl rfl | exact Or.inr (Or.inl rfl) | exact Or.inr (Or.inr rfl)) (by rfl) (by rfl)) (c_str pe_str) (nomark _))).pe) z_nil) z_nil) (z_cons (z_ret ((c_cmp hr .eq (c_var 2 (by rfl) (by first | exact Or.inl rfl | exact Or.inr (Or.inl rfl) | exact Or.inr (Or.inr rfl)) (by rfl) (by rfl)) (c_str pe_str) (nomark _))).pe) z_nil)))))
set_option maxHeartbeats 4000000 in
theorem ok__law_is_number {f : Addr} {fd : FuncData} (fn : Fun K "_law_is_number" "_law_is_number" s__law_is_number f fd) (z_bool : mg "bool" = none) (z_int : mg "int" = none) (z_isinstance : mg "isinstance" = none) : FnV P w K mg base 1 f fd ["_law_thing", "_law_least"] (spV K mg 2 F__law_is_number) := by
  obtain ⟨oc, od, kV, doc, pm, an, cdv, ct, osl, rfl, lk, hcd⟩ := fn.ex
  refine fnV_sem (k := 0) (N := n__law_is_number) (wb := w__law_is_number) lk hcd sc__law_is_number rfl rfl (by decide) (fun _ _ _ h => by unfold F__law_is_number at h; exact h) fun A outer s H E B hr hgd => ?_
  exact (z_cons (z_ret (((l_and (c_isi .int (by rfl) z_isinstance (by rfl) (by rfl) z_int (by rfl) (by decide) (by rfl) (c_var 0 (by rfl) (by first | exact Or.inl rfl | exact Or.inr (Or.inl rfl) | exact Or.inr (Or.inr rfl)) (by rfl) (by rfl)) (by rfl) (by rfl) (by rfl)) (l_and (c_not (c_isi .bool (by rfl) z_isinstance (by rfl) (by rfl) z_bool (by rfl) (by decide) (by rfl) (c_var 0 (by rfl) (by first | exact Or.inl rfl | exact Or.inr (Or.inl rfl) | exact Or.inr (Or.inr rfl)) (by rfl) (by rfl)) (by rfl) (by rfl) (by rfl))) (l_one (c_cmp hr .ge (c_var 0 (by rfl) (by first | exact Or.inl rfl | exact Or.inr (Or.inl rfl) | exact Or.inr (Or.inr rfl)) (by rfl) (by rfl)) (c_var 1 (by rfl) (by first | exact Or.inl rfl | exact Or.inr (Or.inl rfl) | exact Or.inr (Or.inr rfl)) (by rfl) (by rfl)) (nomark _)))))).snd).pe) z_nil)
set_option maxHeartbeats 4000000 in
theorem ok__law_is_word {f : Addr} {fd : FuncData} (fn : Fun K "_law_is_word" "_law_is_word" s__law_is_word f fd) (z_isinstance : mg "isinstance" = none) (z_len : mg "len" = none) (z_str : mg "str" = none) : FnV P w K mg base 1 f fd ["_law_thing"] (spV K mg 1 F__law_is_word) := by
  obtain ⟨oc, od, kV, doc, pm, an, cdv, ct, osl, rfl, lk, hcd⟩ := fn.ex
  refine fnV_sem (k := 0) (N := n__law_is_word) (wb := w__law_is_word) lk hcd sc__law_is_word rfl rfl (by decide) (fun _ _ _ h => by unfold F__law_is_word at h; exact h) fun A outer s H E B hr hgd => ?_
  exact (z_cons (z_if ((l_or (c_not (c_isi .str (by rfl) z_isinstance (by rfl) (by rfl) z_str (by rfl) (by decide) (by rfl) (c_var 0 (by rfl) (by first | exact Or.inl rfl | exact Or.inr (Or.inl rfl) | exact Or.inr (Or.inr rfl)) (by rfl) (by rfl)) (by rfl) (by rfl) (by rfl))) (l_or (c_cmp hr .lt (c_primB (prim_ok hr hgd (by rfl) .len (fun _ => nofun) (fun _ => nofun)) rfl (by rfl) z_len (by rfl) (a_cons (c_var 0 (by rfl) (by first | exact Or.inl rfl | exact Or.inr (Or.inl rfl) | exact Or.inr (Or.inr rfl)) (by rfl) (by rfl)) a_nil (by rfl)) (by decide) (by rfl) (by rfl) (by rfl)) (c_int pe_int) (nomark _)) (l_one (c_cmp hr .gt (c_primB (prim_ok hr hgd (by rfl) .len (fun _ => nofun) (fun _ => nofun)) rfl (by rfl) z_len (by rfl) (a_cons (c_var 0 (by rfl) (by first | exact Or.inl rfl | exact Or.inr (Or.inl rfl) | exact Or.inr (Or.inr rfl)) (by rfl) (by rfl)) a_nil (by rfl)) (by decide) (by rfl) (by rfl) (by rfl)) (c_int pe_int) (nomark _)))))).snd (z_cons (z_ret (c_bool pe_bl)) z_nil) z_nil) (z_cons (z_ret ((c_cmp hr .eq (c_comp (own := [("_law_sign", 1)]) (by rfl) nd__law_is_word (i_s (c_var 0 (by rfl) (by first | exact Or.inl rfl | exact Or.inr (Or.inl rfl) | exact Or.inr (Or.inr rfl)) (by rfl) (by rfl))) (blkOk_by (own := [("_law_sign", 1)]) (N := n__law_is_word) (sc := (defScope s__law_is_word)) (by decide +kernel)) (by decide) (by decide) (fun _ _ _ _ _ => ⟨(g_nm nd__law_is_word (by rfl) (by first | exact Or.inl rfl | exact Or.inr rfl) (by first | exact Or.inl rfl | exact Or.inr rfl)), (q_one (c_cmp hr .notIn (c_var 1 (by rfl) (by first | exact Or.inl rfl | exact Or.inr (Or.inl rfl) | exact Or.inr (Or.inr rfl)) (by rfl) (by rfl)) (c_str pe_str) (by rfl))), (c_var 1 (by rfl) (by first | exact Or.inl rfl | exact Or.inr (Or.inl rfl) | exact Or.inr (Or.inr rfl)) (by rfl) (by rfl))⟩) (by intro _; rfl)) (c_lst a_nil) (nomark _))).pe) z_nil))
set_option maxHeartbeats 4000000 in
theorem ok__law_is_literal {f : Addr} {fd : FuncData} (fn : Fun K "_law_is_literal" "_law_is_literal" s__law_is_literal f fd) {f__law_is_number : Addr} {d__law_is_number : FuncData} (g__law_is_number : FnV P w K mg base 1 f__law_is_number d__law_is_number ["_law_thing", "_law_least"] (spV K mg 2 F__law_is_number)) (m__law_is_number : mg "_law_is_number" = some (.ref f__law_is_number)) (k__law_is_number : PySem.W.keepIn K (.ref f__law_is_number) = true) (b__law_is_number : Binds K d__law_is_number ["_law_thing", "_law_least"] []) {f__law_is_word : Addr} {d__law_is_word : FuncData} (g__law_is_word : FnV P w K mg base 1 f__law_is_word d__law_is_word ["_law_thing"] (spV K mg 1 F__law_is_word)) (m__law_is_word : mg "_law_is_word" = some (.ref f__law_is_word)) (k__law_is_word : PySem.W.keepIn K (.ref f__law_is_word) = true) (b__law_is_word : Binds K d__law_is_word ["_law_thing"] []) (z_isinstance : mg "isinstance" = none) (z_len : mg "len" = none) (z_range : mg "range" = none) (z_tuple : mg "tuple" = none) : FnV P w K mg base 2 f fd ["_law_thing"] (spV K mg 1 F__law_is_literal) := by
  obtain ⟨oc, od, kV, doc, pm, an, cdv, ct, osl, rfl, lk, hcd⟩ := fn.ex
  refine fnV_sem (k := 1) (N := n__law_is_literal) (wb := w__law_is_literal) lk hcd sc__law_is_literal rfl rfl (by decide) (fun _ _ _ h => by unfold F__law_is_literal at h; exact h) fun A outer s H E B hr hgd => ?_
  exact (z_cons (z_if ((l_or (c_not (c_isi .tuple (by rfl) z_isinstance (by rfl) (by rfl) z_tuple (by rfl) (by decide) (by rfl) (c_var 0 (by rfl) (by first | exact Or.inl rfl | exact Or.inr (Or.inl rfl) | exact Or.inr (Or.inr rfl)) (by rfl) (by rfl)) (by rfl) (by rfl) (by rfl))) (l_or (c_cmp hr .lt (c_primB (prim_ok hr hgd (by rfl) .len (fun _ => nofun) (fun _ => nofun)) rfl (by rfl) z_len (by rfl) (a_cons (c_var 0 (by rfl) (by first | exact Or.inl rfl | exact Or.inr (Or.inl rfl) | exact Or.inr (Or.inr rfl)) (by rfl) (by rfl)) a_nil (by rfl)) (by decide) (by rfl) (by rfl) (by rfl)) (c_int pe_int) (nomark _)) (l_one (c_cmp hr .notIn (c_ix (c_var 0 (by rfl) (by first | exact Or.inl rfl | exact Or.inr (Or.inl rfl) | exact Or.inr (Or.inr rfl)) (by rfl) (by rfl)) (c_int pe_int) (fun _ _ => rfl)) (c_tup (a_cons (c_str pe_str) (a_cons (c_str pe_str) (a_cons (c_str pe_str) (a_cons (c_str pe_str) (a_cons (c_str pe_str) a_nil (by rfl)) (by rfl)) (by rfl)) (by rfl)) (by rfl))) (by rfl)))))).snd (z_cons (z_ret (c_bool pe_bl)) z_nil) z_nil) (z_cons (z_if (c_cmp hr .eq (c_ix (c_var 0 (by rfl) (by first | exact Or.inl rfl | exact Or.inr (Or.inl rfl) | exact Or.inr (Or.inr rfl)) (by rfl) (by rfl)) (c_int pe_int) (fun _ _ => rfl)) (c_str pe_str) (nomark _)) (z_cons (z_if ((l_or (c_cmp hr .ne (c_primB (prim_ok hr hgd (by rfl) .len (fun _ => nofun) (fun _ => nofun)) rfl (by rfl) z_len (by rfl) (a_cons (c_var 0 (by rfl) (by first | exact Or.inl rfl | exact Or.inr (Or.inl rfl) | exact Or.inr (Or.inr rfl)) (by rfl) (by rfl)) a_nil (by rfl)) (by decide) (by rfl) (by rfl) (by rfl)) (c_int pe_int) (nomark _)) (l_one (c_not (c_snd (s_call g__law_is_number (hr.mono (by first | decide | omega)) hgd tkB (by rfl) m__law_is_number k__law_is_number b__law_is_number (a_cons (c_ix (c_var 0 (by rfl) (by first | exact Or.inl rfl | exact Or.inr (Or.inl rfl) | exact Or.inr (Or.inr rfl)) (by rfl) (by rfl)) (c_int pe_int) (fun _ _ => rfl)) (a_cons (c_int pe_int) a_nil (by rfl)) (by rfl)) (by rfl) (by rfl) (by rfl)) (by intro _; rfl)))))).snd (z_cons (z_ret (c_bool pe_bl)) z_nil) z_nil) (z_cons (z_ret (((l_or (c_cmp hr .is (c_ix (c_var 0 (by rfl) (by first | exact Or.inl rfl | exact Or.inr (Or.inl rfl) | exact Or.inr (Or.inr rfl)) (by rfl) (by rfl)) (c_int pe_int) (fun _ _ => rfl)) (c_none pe_non) (nomark _)) (l_one (c_snd (s_call g__law_is_number (hr.mono (by first | decide | omega)) hgd tkB (by rfl) m__law_is_number k__law_is_number b__law_is_number (a_cons (c_ix (c_var 0 (by rfl) (by first | exact Or.inl rfl | exact Or.inr (Or.inl rfl) | exact Or.inr (Or.inr rfl)) (by rfl) (by rfl)) (c_int pe_int) (fun _ _ => rfl)) (a_cons (c_bin .add (c_ix (c_var 0 (by rfl) (by first | exact Or.inl rfl | exact Or.inr (Or.inl rfl) | exact Or.inr (Or.inr rfl)) (by rfl) (by rfl)) (c_int pe_int) (fun _ _ => rfl)) (c_int pe_int)) a_nil (by rfl)) (by rfl)) (by rfl) (by rfl) (by rfl)) (by intro _; rfl))))).snd).pe) z_nil)) z_nil) (z_cons (z_if (c_cmp hr .ne (c_primB (prim_ok hr hgd (by rfl) .len (fun _ => nofun) (fun _ => nofun)) rfl (by rfl) z_len (by rfl) (a_cons (c_var 0 (by rfl) (by first | exact Or.inl rfl | exact Or.inr (Or.inl rfl) | exact Or.inr (Or.inr rfl)) (by rfl) (by rfl)) a_nil (by rfl)) (by decide) (by rfl) (by rfl) (by rfl)) (c_int pe_int) (nomark _)) (z_cons (z_ret (c_bool pe_bl)) z_nil) z_nil) (z_cons (z_if (c_cmp hr .inn (c_ix (c_var 0 (by rfl) (by first | exact Or.inl rfl | exact Or.inr (Or.inl rfl) | exact Or.inr (Or.inr rfl)) (by rfl) (by rfl)) (c_int pe_int) (fun _ _ => rfl)) (c_tup (a_cons (c_str pe_str) (a_cons (c_str pe_str) a_nil (by rfl)) (by rfl))) (by rfl)) (z_cons (z_ret (s_call g__law_is_number (hr.mono (by first | decide | omega)) hgd tkB (by rfl) m__law_is_number k__law_is_number b__law_is_number (a_cons (c_ix (c_var 0 (by rfl) (by first | exact Or.inl rfl | exact Or.inr (Or.inl rfl) | exact Or.inr (Or.inr rfl)) (by rfl) (by rfl)) (c_int pe_int) (fun _ _ => rfl)) (a_cons (c_int pe_int) a_nil (by rfl)) (by rfl)) (by rfl) (by rfl) (by rfl))) z_nil) z_nil) (z_cons (z_asg (c_ix (c_var 0 (by rfl) (by first | exact Or.inl rfl | exact Or.inr (Or.inl rfl) | exact Or.inr (Or.inr rfl)) (by rfl) (by rfl)) (c_int pe_int) (fun _ _ => rfl)) (g_nm nd__law_is_literal (by rfl) (by first | exact Or.inl rfl | exact Or.inr rfl) (by first | exact Or.inl rfl | exact Or.inr rfl)) (by rfl) (by rfl) (by rfl)) (z_cons (z_if ((l_or (c_not (c_isi .tuple (by rfl) z_isinstance (by rfl) (by rfl) z_tuple (by rfl) (by decide) (by rfl) (c_var 1 (by rfl) (by first | exact Or.inl rfl | exact Or.inr (Or.inl rfl) | exact Or.inr (Or.inr rfl)) (by rfl) (by rfl)) (by rfl) (by rfl) (by rfl))) (l_or (c_cmp hr .eq (c_var 1 (by rfl) (by first | exact Or.inl rfl | exact Or.inr (Or.inl rfl) | exact Or.inr (Or.inr rfl)) (by rfl) (by rfl)) (c_tup a_nil) (nomark _)) (l_one (c_cmp hr .ne (c_comp (own := [("_law_word", 2)]) (by rfl) nd__law_is_literal (i_e (c_var 1 (by rfl) (by first | exact Or.inl rfl | exact Or.inr (Or.inl rfl) | exact Or.inr (Or.inr rfl)) (by rfl) (by rfl))) (blkOk_by (own := [("_law_word", 2)]) (N := n__law_is_literal) (sc := (defScope s__law_is_literal)) (by decide +kernel)) (by decide) (by decide) (fun _ _ _ _ _ => ⟨(g_nm nd__law_is_literal (by rfl) (by first | exact Or.inl rfl | exact Or.inr rfl) (by first | exact Or.inl rfl | exact Or.inr rfl)), (q_one (c_not (c_snd (s_call g__law_is_word (hr.mono (by first | decide | omega)) hgd (takes_blk rfl) (by rfl) m__law_is_word k__law_is_word b__law_is_word (a_cons (c_var 2 (by rfl) (by first | exact Or.inl rfl | exact Or.inr (Or.inl rfl) | exact Or.inr (Or.inr rfl)) (by rfl) (by rfl)) a_nil (by rfl)) (by rfl) (by rfl) (by rfl)) (by intro _; rfl)))), (c_var 2 (by rfl) (by first | exact Or.inl rfl | exact Or.inr (Or.inl rfl) | exact Or.inr (Or.inr rfl)) (by rfl) (by rfl))⟩) (by intro _; rfl)) (c_lst a_nil) (nomark _)))))).snd (z_cons (z_ret (c_bool pe_bl)) z_nil) z_nil) (z_cons (z_ret ((c_cmp hr .eq (c_comp (own := [("_law_k", 3)]) (by rfl) nd__law_is_literal (i_rg2 (by rfl) z_range (c_int pe_int) (c_primB (prim_ok hr hgd (by rfl) .len (fun _ => nofun) (fun _ => nofun)) rfl (by rfl) z_len (by rfl) (a_cons (c_var 1 (by rfl) (by first | exact Or.inl rfl | exact Or.inr (Or.inl rfl) | exact Or.inr (Or.inr rfl)) (by rfl) (by rfl)) a_nil (by rfl)) (by decide) (by rfl) (by rfl) (by rfl)) (by rfl) (by rfl)) (blkOk_by (own := [("_law_k", 3)]) (N := n__law_is_literal) (sc := (defScope s__law_is_literal)) (by decide +kernel)) (by decide) (by decide) (fun _ _ _ _ _ => ⟨(g_nm nd__law_is_literal (by rfl) (by first | exact Or.inl rfl | exact Or.inr rfl) (by first | exact Or.inl rfl | exact Or.inr rfl)), (q_one (c_cmp hr .ge (c_ix (c_var 1 (by rfl) (by first | exact Or.inl rfl | exact Or.inr (Or.inl rfl) | exact Or.inr (Or.inr rfl)) (by rfl) (by rfl)) (c_bin .sub (c_var 3 (by rfl) (by first | exact Or.inl rfl | exact Or.inr (Or.inl rfl) | exact Or.inr (Or.inr rfl)) (by rfl) (by rfl)) (c_int pe_int)) (fun _ _ => rfl)) (c_ix (c_var 1 (by rfl) (by first | exact Or.inl rfl | exact Or.inr (Or.inl rfl) | exact Or.inr (Or.inr rfl)) (by rfl) (by rfl)) (c_var 3 (by rfl) (by first | exact Or.inl rfl | exact Or.inr (Or.inl rfl) | exact Or.inr (Or.inr rfl)) (by rfl) (by rfl)) (fun _ _ => rfl)) (nomark _))), (c_var 3 (by rfl) (by first | exact Or.inl rfl | exact Or.inr (Or.inl rfl) | exact Or.inr (Or.inr rfl)) (by rfl) (by rfl))⟩) (by intro _; rfl)) (c_lst a_nil) (nomark _))).pe) z_nil)))))))
set_option maxHeartbeats 4000000 in
theorem ok_contrary {f : Addr} {fd : FuncData} (fn : Fun K "contrary" "contrary" s_contrary f fd) (z_len : mg "len" = none) (z_tuple : mg "tuple" = none) : FnV P w K mg base 1 f fd ["literal"] (spV K mg 1 F_contrary) := by
  obtain ⟨oc, od, kV, doc, pm, an, cdv, ct, osl, rfl, lk, hcd⟩ := fn.ex
  refine fnV_sem (k := 0) (N := n_contrary) (wb := w_contrary) lk hcd sc_contrary rfl rfl (by decide) (fun _ _ _ h => by unfold F_contrary at h; exact h) fun A outer s H E B hr hgd => ?_
  exact (z_cons (z_if (c_cmp hr .ne (c_ix (c_var 0 (by rfl) (by first | exact Or.inl rfl | exact Or.inr (Or.inl rfl) | exact Or.inr (Or.inr rfl)) (by rfl) (by rfl)) (c_int pe_int) (fun _ _ => rfl)) (c_str pe_str) (nomark _)) (z_cons (z_ret (c_tup (a_cons (c_tup (a_cons (c_ix (c_dct (d_cons pe_str (c_str pe_str) (d_cons pe_str (c_str pe_str) (d_cons pe_str (c_str pe_str) (d_cons pe_str (c_str pe_str) d_nil)))) (by decide +kernel) (by simp) (by decide)) (c_ix (c_var 0 (by rfl) (by first | exact Or.inl rfl | exact Or.inr (Or.inl rfl) | exact Or.inr (Or.inr rfl)) (by rfl) (by rfl)) (c_int pe_int) (fun _ _ => rfl)) (fun _ _ => rfl)) (a_cons (c_ix (c_var 0 (by rfl) (by first | exact Or.inl rfl | exact Or.inr (Or.inl rfl) | exact Or.inr (Or.inr rfl)) (by rfl) (by rfl)) (c_int pe_int) (fun _ _ => rfl)) a_nil (by rfl)) (by rfl))) a_nil (by rfl)))) z_nil) z_nil) (z_cons (z_asg (c_lst a_nil) (g_nm nd_contrary (by rfl) (by first | exact Or.inl rfl | exact Or.inr rfl) (by first | exact Or.inl rfl | exact Or.inr rfl)) (by rfl) (by rfl) (by rfl)) (z_cons (z_if (c_cmp hr .gt (c_ix (c_var 0 (by rfl) (by first | exact Or.inl rfl | exact Or.inr (Or.inl rfl) | exact Or.inr (Or.inr rfl)) (by rfl) (by rfl)) (c_int pe_int) (fun _ _ => rfl)) (c_int pe_int) (nomark _)) (z_cons (z_expr (c_append (c_var 1 (by rfl) (by first | exact Or.inl rfl | exact Or.inr (Or.inl rfl) | exact Or.inr (Or.inr rfl)) (by rfl) (by rfl)) (a_cons (c_tup (a_cons (c_str pe_str) (a_cons (c_int pe_int) (a_cons (c_ix (c_var 0 (by rfl) (by first | exact Or.inl rfl | exact Or.inr (Or.inl rfl) | exact Or.inr (Or.inr rfl)) (by rfl) (by rfl)) (c_int pe_int) (fun _ _ => rfl)) a_nil (by rfl)) (by rfl)) (by rfl))) a_nil (by rfl)) (by rfl) (by rfl) (by rfl) (by rfl) (by rfl)) (by rfl)) z_nil) z_nil) (z_cons (z_if (c_cmp hr .isNot (c_ix (c_var 0 (by rfl) (by first | exact Or.inl rfl | exact Or.inr (Or.inl rfl) | exact Or.inr (Or.inr rfl)) (by rfl) (by rfl)) (c_int pe_int) (fun _ _ => rfl)) (c_none pe_non) (nomark _)) (z_cons (z_expr (c_append (c_var 1 (by rfl) (by first | exact Or.inl rfl | exact Or.inr (Or.inl rfl) | exact Or.inr (Or.inr rfl)) (by rfl) (by rfl)) (a_cons (c_tup (a_cons (c_str pe_str) (a_cons (c_ix (c_var 0 (by rfl) (by first | exact Or.inl rfl | exact Or.inr (Or.inl rfl) | exact Or.inr (Or.inr rfl)) (by rfl) (by rfl)) (c_int pe_int) (fun _ _ => rfl)) (a_cons (c_none pe_non) a_nil (by rfl)) (by rfl)) (by rfl))) a_nil (by rfl)) (by rfl) (by rfl) (by rfl) (by rfl) (by rfl)) (by rfl)) z_nil) z_nil) (z_cons (z_ret (c_ife (c_cmp hr .gt (c_primB (prim_ok hr hgd (by rfl) .len (fun _ => nofun) (fun _ => nofun)) rfl (by rfl) z_len (by rfl) (a_cons (c_var 1 (by rfl) (by first | exact Or.inl rfl | exact Or.inr (Or.inl rfl) | exact Or.inr (Or.inr rfl)) (by rfl) (by rfl)) a_nil (by rfl)) (by decide) (by rfl) (by rfl) (by rfl)) (c_int pe_int) (nomark _)) (c_primT (prim_ok hr hgd (by rfl) .tuple (fun _ => nofun) (fun _ => nofun)) rfl (by rfl) z_tuple (by rfl) (a_cons (c_var 1 (by rfl) (by first | exact Or.inl rfl | exact Or.inr (Or.inl rfl) | exact Or.inr (Or.inr rfl)) (by rfl) (by rfl)) a_nil (by rfl)) (by decide) (by rfl) (by rfl) (by rfl)) (c_none pe_non))) z_nil)))))
set_option maxHeartbeats 4000000 in
theorem ok__law_is_contrary {f : Addr} {fd : FuncData} (fn : Fun K "_law_is_contrary" "_law_is_contrary" s__law_is_contrary f fd) {f__law_few : Addr} {d__law_few : FuncData} (g__law_few : FnV P w K mg base 1 f__law_few d__law_few ["_law_literals"] (spV K mg 1 F__law_few)) (m__law_few : mg "_law_few" = some (.ref f__law_few)) (k__law_few : PySem.W.keepIn K (.ref f__law_few) = true) (b__law_few : Binds K d__law_few ["_law_literals"] []) {f__law_holds : Addr} {d__law_holds : FuncData} (g__law_holds : FnV P w K mg base 1 f__law_holds d__law_holds ["_law_literal_here", "_law_who"] (spV K mg 2 F__law_holds)) (m__law_holds : mg "_law_holds" = some (.ref f__law_holds)) (k__law_holds : PySem.W.keepIn K (.ref f__law_holds) = true) (b__law_holds : Binds K d__law_holds ["_law_literal_here", "_law_who"] []) {f__law_is_literal : Addr} {d__law_is_literal : FuncData} (g__law_is_literal : FnV P w K mg base 2 f__law_is_literal d__law_is_literal ["_law_thing"] (spV K mg 1 F__law_is_literal)) (m__law_is_literal : mg "_law_is_literal" = some (.ref f__law_is_literal)) (k__law_is_literal : PySem.W.keepIn K (.ref f__law_is_literal) = true) (b__law_is_literal : Binds K d__law_is_literal ["_law_thing"] []) {f_contrary : Addr} {d_contrary : FuncData} (g_contrary : FnV P w K mg base 1 f_contrary d_contrary ["literal"] (spV K mg 1 F_contrary)) (m_contrary : mg "contrary" = some (.ref f_contrary)) (k_contrary : PySem.W.keepIn K (.ref f_contrary) = true) (b_contrary : Binds K d_contrary ["literal"] []) (z_isinstance : mg "isinstance" = none) (z_max : mg "max" = none) (z_set : mg "set" = none) (z_sorted : mg "sorted" = none) (z_tuple : mg "tuple" = none) : FnV P w K mg base 3 f fd ["_law_literal_here"] (spV K mg 1 F__law_is_contrary) := by
  obtain ⟨oc, od, kV, doc, pm, an, cdv, ct, osl, rfl, lk, hcd⟩ := fn.ex
  refine fnV_sem (k := 2) (N := n__law_is_contrary) (wb := w__law_is_contrary) lk hcd sc__law_is_contrary rfl rfl (by decide) (fun _ _ _ h => by unfold F__law_is_contrary at h; exact h) fun A outer s H E B hr hgd => ?_
  exact (z_cons (z_asg (s_call g_contrary (hr.mono (by first | decide | omega)) hgd tkB (by rfl) m_contrary k_contrary b_contrary (a_cons (c_var 0 (by rfl) (by first | exact Or.inl rfl | exact Or.inr (Or.inl rfl) | exact Or.inr (Or.inr rfl)) (by rfl) (by rfl)) a_nil (by rfl)) (by rfl) (by rfl) (by rfl)) (g_nm nd__law_is_contrary (by rfl) (by first | exact Or.inl rfl | exact Or.inr rfl) (by first | exact Or.inl rfl | exact Or.inr rfl)) (by rfl) (by rfl) (by rfl)) (z_cons (z_if (c_cmp hr .eq (c_var 0 (by rfl) (by first | exact Or.inl rfl | exact Or.inr (Or.inl rfl) | exact Or.inr (Or.inr rfl)) (by rfl) (by rfl)) (c_tup (a_cons (c_str pe_str) (a_cons (c_int pe_int) (a_cons (c_none pe_non) a_nil (by rfl)) (by rfl)) (by rfl))) (nomark _)) (z_cons (z_ret ((c_cmp hr .is (c_var 1 (by rfl) (by first | exact Or.inl rfl | exact Or.inr (Or.inl rfl) | exact Or.inr (Or.inr rfl)) (by rfl) (by rfl)) (c_none pe_non) (nomark _))).pe) z_nil) z_nil) (z_cons (z_if ((l_or (c_not (c_isi .tuple (by rfl) z_isinstance (by rfl) (by rfl) z_tuple (by rfl) (by decide) (by rfl) (c_var 1 (by rfl) (by first | exact Or.inl rfl | exact Or.inr (Or.inl rfl) | exact Or.inr (Or.inr rfl)) (by rfl) (by rfl)) (by rfl) (by rfl) (by rfl))) (l_or (c_cmp hr .eq (c_var 1 (by rfl) (by first | exact Or.inl rfl | exact Or.inr (Or.inl rfl) | exact Or.inr (Or.inr rfl)) (by rfl) (by rfl)) (c_tup a_nil) (nomark _)) (l_one (c_cmp hr .ne (c_comp (own := [("_law_one", 8)]) (by rfl) nd__law_is_contrary (i_e (c_var 1 (by rfl) (by first | exact Or.inl rfl | exact Or.inr (Or.inl rfl) | exact Or.inr (Or.inr rfl)) (by rfl) (by rfl))) (blkOk_by (own := [("_law_one", 8)]) (N := n__law_is_contrary) (sc := (defScope s__law_is_contrary)) (by decide +kernel)) (by decide) (by decide) (fun _ _ _ _ _ => ⟨(g_nm nd__law_is_contrary (by rfl) (by first | exact Or.inl rfl | exact Or.inr rfl) (by first | exact Or.inl rfl | exact Or.inr rfl)), (q_one (c_not (c_snd (s_call g__law_is_literal (hr.mono (by first | decide | omega)) hgd (takes_blk rfl) (by rfl) m__law_is_literal k__law_is_literal b__law_is_literal (a_cons (c_var 8 (by rfl) (by first | exact Or.inl rfl | exact Or.inr (Or.inl rfl) | exact Or.inr (Or.inr rfl)) (by rfl) (by rfl)) a_nil (by rfl)) (by rfl) (by rfl) (by rfl)) (by intro _; rfl)))), (c_var 8 (by rfl) (by first | exact Or.inl rfl | exact Or.inr (Or.inl rfl) | exact Or.inr (Or.inr rfl)) (by rfl) (by rfl))⟩) (by intro _; rfl)) (c_lst a_nil) (nomark _)))))).snd (z_cons (z_ret (c_bool pe_bl)) z_nil) z_nil) (z_cons (z_asg (s_call g__law_few (hr.mono (by first | decide | omega)) hgd tkB (by rfl) m__law_few k__law_few b__law_few (a_cons (c_bin .add (c_tup (a_cons (c_var 0 (by rfl) (by first | exact Or.inl rfl | exact Or.inr (Or.inl rfl) | exact Or.inr (Or.inr rfl)) (by rfl) (by rfl)) a_nil (by rfl))) (c_var 1 (by rfl) (by first | exact Or.inl rfl | exact Or.inr (Or.inl rfl) | exact Or.inr (Or.inr rfl)) (by rfl) (by rfl))) a_nil (by rfl)) (by rfl) (by rfl) (by rfl)) (g_tp (is := [2, 3, 4]) (by rfl) (gs_cons nd__law_is_contrary (by rfl) (by first | exact Or.inl rfl | exact Or.inr rfl) (by first | exact Or.inl rfl | exact Or.inr rfl) (gs_cons nd__law_is_contrary (by rfl) (by first | exact Or.inl rfl | exact Or.inr rfl) (by first | exact Or.inl rfl | exact Or.inr rfl) (gs_cons nd__law_is_contrary (by rfl) (by first | exact Or.inl rfl | exact Or.inr rfl) (by first | exact Or.inl rfl | exact Or.inr rfl) gs_nil (by rfl)) (by rfl)) (by rfl)) (by rfl) (by rfl) rfl) (by rfl) (by rfl) (by rfl)) (z_cons (z_asg (c_setSort (by rfl) (by rfl) z_sorted (by rfl) z_set (a_cons (c_bin .add (c_var 3 (by rfl) (by first | exact Or.inl rfl | exact Or.inr (Or.inl rfl) | exact Or.inr (Or.inr rfl)) (by rfl) (by rfl)) (c_comp (own := [("_law_age", 6)]) (by rfl) nd__law_is_contrary (i_e (c_var 3 (by rfl) (by first | exact Or.inl rfl | exact Or.inr (Or.inl rfl) | exact Or.inr (Or.inr rfl)) (by rfl) (by rfl))) (blkOk_by (own := [("_law_age", 6)]) (N := n__law_is_contrary) (sc := (defScope s__law_is_contrary)) (by decide +kernel)) (by decide) (by decide) (fun _ _ _ _ _ => ⟨(g_nm nd__law_is_contrary (by rfl) (by first | exact Or.inl rfl | exact Or.inr rfl) (by first | exact Or.inl rfl | exact Or.inr rfl)), q_all, (c_primB (prim_ok hr hgd (by rfl) .max2 (fun _ => nofun) (fun _ => nofun)) rfl (by rfl) z_max (by rfl) (a_cons (c_int pe_int) (a_cons (c_bin .sub (c_var 6 (by rfl) (by first | exact Or.inl rfl | exact Or.inr (Or.inl rfl) | exact Or.inr (Or.inr rfl)) (by rfl) (by rfl)) (c_int pe_int)) a_nil (by rfl)) (by rfl)) (by decide) (by rfl) (by rfl) (by rfl))⟩) (by intro _; rfl))) a_nil (by rfl)) (by rfl) (by rfl)) (g_nm nd__law_is_contrary (by rfl) (by first | exact Or.inl rfl | exact Or.inr rfl) (by first | exact Or.inl rfl | exact Or.inr rfl)) (by rfl) (by rfl) (by rfl)) (z_cons (z_asg (c_bin .add (c_var 4 (by rfl) (by first | exact Or.inl rfl | exact Or.inr (Or.inl rfl) | exact Or.inr (Or.inr rfl)) (by rfl) (by rfl)) (c_comp (own := [("_law_bond", 9)]) (by rfl) nd__law_is_contrary (i_e (c_var 4 (by rfl) (by first | exact Or.inl rfl | exact Or.inr (Or.inl rfl) | exact Or.inr (Or.inr rfl)) (by rfl) (by rfl))) (blkOk_by (own := [("_law_bond", 9)]) (N := n__law_is_contrary) (sc := (defScope s__law_is_contrary)) (by decide +kernel)) (by decide) (by decide) (fun _ _ _ _ _ => ⟨(g_nm nd__law_is_contrary (by rfl) (by first | exact Or.inl rfl | exact Or.inr rfl) (by first | exact Or.inl rfl | exact Or.inr rfl)), (q_one ((l_and (c_cmp hr .isNot (c_var 9 (by rfl) (by first | exact Or.inl rfl | exact Or.inr (Or.inl rfl) | exact Or.inr (Or.inr rfl)) (by rfl) (by rfl)) (c_none pe_non) (nomark _)) (l_one (c_cmp hr .gt (c_var 9 (by rfl) (by first | exact Or.inl rfl | exact Or.inr (Or.inl rfl) | exact Or.inr (Or.inr rfl)) (by rfl) (by rfl)) (c_int pe_int) (nomark _))))).snd), (c_bin .sub (c_var 9 (by rfl) (by first | exact Or.inl rfl | exact Or.inr (Or.inl rfl) | exact Or.inr (Or.inr rfl)) (by rfl) (by rfl)) (c_int pe_int))⟩) (by intro _; rfl))) (g_nm nd__law_is_contrary (by rfl) (by first | exact Or.inl rfl | exact Or.inr rfl) (by first | exact Or.inl rfl | exact Or.inr rfl)) (by rfl) (by rfl) (by rfl)) (z_cons (z_asg (c_lst a_nil) (g_nm nd__law_is_contrary (by rfl) (by first | exact Or.inl rfl | exact Or.inr rfl) (by first | exact Or.inl rfl | exact Or.inr rfl)) (by rfl) (by rfl) (by rfl)) (z_cons (z_for (poB rfl rfl rfl rfl rfl) (by rfl) (i_e (c_var 3 (by rfl) (by first | exact Or.inl rfl | exact Or.inr (Or.inl rfl) | exact Or.inr (Or.inr rfl)) (by rfl) (by rfl))) (g_nm nd__law_is_contrary (by rfl) (by first | exact Or.inl rfl | exact Or.inr rfl) (by first | exact Or.inl rfl | exact Or.inr rfl)) (z_cons (z_expr (c_extend (c_var 5 (by rfl) (by first | exact Or.inl rfl | exact Or.inr (Or.inl rfl) | exact Or.inr (Or.inr rfl)) (by rfl) (by rfl)) (a_cons (c_comp (own := [("_law_town", 10)]) (by rfl) nd__law_is_contrary (i_e (c_var 2 (by rfl) (by first | exact Or.inl rfl | exact Or.inr (Or.inl rfl) | exact Or.inr (Or.inr rfl)) (by rfl) (by rfl))) (blkOk_by (own := [("_law_town", 10)]) (N := n__law_is_contrary) (sc := (defScope s__law_is_contrary)) (by decide +kernel)) (by decide) (by decide) (fun _ _ _ _ _ => ⟨(g_nm nd__law_is_contrary (by rfl) (by first | exact Or.inl rfl | exact Or.inr rfl) (by first | exact Or.inl rfl | exact Or.inr rfl)), q_all, (c_tup (a_cons (c_var 10 (by rfl) (by first | exact Or.inl rfl | exact Or.inr (Or.inl rfl) | exact Or.inr (Or.inr rfl)) (by rfl) (by rfl)) (a_cons (c_var 6 (by rfl) (by first | exact Or.inl rfl | exact Or.inr (Or.inl rfl) | exact Or.inr (Or.inr rfl)) (by rfl) (by rfl)) (a_cons (c_none pe_non) a_nil (by rfl)) (by rfl)) (by rfl)))⟩) (by intro _; rfl)) a_nil (by rfl)) (by rfl) (by rfl) (by rfl) (by rfl) (by rfl)) (by rfl)) (z_cons (z_expr (c_extend (c_var 5 (by rfl) (by first | exact Or.inl rfl | exact Or.inr (Or.inl rfl) | exact Or.inr (Or.inr rfl)) (by rfl) (by rfl)) (a_cons (c_bin .add (c_comp (own := [("_law_bond", 9)]) (by rfl) nd__law_is_contrary (i_e (c_var 4 (by rfl) (by first | exact Or.inl rfl | exact Or.inr (Or.inl rfl) | exact Or.inr (Or.inr rfl)) (by rfl) (by rfl))) (blkOk_by (own := [("_law_bond", 9)]) (N := n__law_is_contrary) (sc := (defScope s__law_is_contrary)) (by decide +kernel)) (by decide) (by decide) (fun _ _ _ _ _ => ⟨(g_nm nd__law_is_contrary (by rfl) (by first | exact Or.inl rfl | exact Or.inr rfl) (by first | exact Or.inl rfl | exact Or.inr rfl)), q_all, (c_tup (a_cons (c_ix (c_var 2 (by rfl) (by first | exact Or.inl rfl | exact Or.inr (Or.inl rfl) | exact Or.inr (Or.inr rfl)) (by rfl) (by rfl)) (c_int pe_int) (fun _ _ => rfl)) (a_cons (c_var 6 (by rfl) (by first | exact Or.inl rfl | exact Or.inr (Or.inl rfl) | exact Or.inr (Or.inr rfl)) (by rfl) (by rfl)) (a_cons (c_var 9 (by rfl) (by first | exact Or.inl rfl | exact Or.inr (Or.inl rfl) | exact Or.inr (Or.inr rfl)) (by rfl) (by rfl)) a_nil (by rfl)) (by rfl)) (by rfl)))⟩) (by intro _; rfl)) (c_comp (own := [("_law_bond", 9)]) (by rfl) nd__law_is_contrary (i_e (c_var 4 (by rfl) (by first | exact Or.inl rfl | exact Or.inr (Or.inl rfl) | exact Or.inr (Or.inr rfl)) (by rfl) (by rfl))) (blkOk_by (own := [("_law_bond", 9)]) (N := n__law_is_contrary) (sc := (defScope s__law_is_contrary)) (by decide +kernel)) (by decide) (by decide) (fun _ _ _ _ _ => ⟨(g_nm nd__law_is_contrary (by rfl) (by first | exact Or.inl rfl | exact Or.inr rfl) (by first | exact Or.inl rfl | exact Or.inr rfl)), q_all, (c_tup (a_cons (c_ix (c_var 2 (by rfl) (by first | exact Or.inl rfl | exact Or.inr (Or.inl rfl) | exact Or.inr (Or.inr rfl)) (by rfl) (by rfl)) (c_neg (c_int pe_int)) (fun _ _ => rfl)) (a_cons (c_var 6 (by rfl) (by first | exact Or.inl rfl | exact Or.inr (Or.inl rfl) | exact Or.inr (Or.inr rfl)) (by rfl) (by rfl)) (a_cons (c_var 9 (by rfl) (by first | exact Or.inl rfl | exact Or.inr (Or.inl rfl) | exact Or.inr (Or.inr rfl)) (by rfl) (by rfl)) a_nil (by rfl)) (by rfl)) (by rfl)))⟩) (by intro _; rfl))) a_nil (by rfl)) (by rfl) (by rfl) (by rfl) (by rfl) (by rfl)) (by rfl)) z_nil)) (by intro _; rfl)) (z_cons (z_for (poB rfl rfl rfl rfl rfl) (by rfl) (i_e (c_var 5 (by rfl) (by first | exact Or.inl rfl | exact Or.inr (Or.inl rfl) | exact Or.inr (Or.inr rfl)) (by rfl) (by rfl))) (g_nm nd__law_is_contrary (by rfl) (by first | exact Or.inl rfl | exact Or.inr rfl) (by first | exact Or.inl rfl | exact Or.inr rfl)) (z_cons (z_if (c_cmp hr .eq ((c_cmp hr .inn (c_bool pe_bl) (c_comp (own := [("_law_one", 8)]) (by rfl) nd__law_is_contrary (i_e (c_var 1 (by rfl) (by first | exact Or.inl rfl | exact Or.inr (Or.inl rfl) | exact Or.inr (Or.inr rfl)) (by rfl) (by rfl))) (blkOk_by (own := [("_law_one", 8)]) (N := n__law_is_contrary) (sc := (defScope s__law_is_contrary)) (by decide +kernel)) (by decide) (by decide) (fun _ _ _ _ _ => ⟨(g_nm nd__law_is_contrary (by rfl) (by first | exact Or.inl rfl | exact Or.inr rfl) (by first | exact Or.inl rfl | exact Or.inr rfl)), q_all, (s_call g__law_holds (hr.mono (by first | decide | omega)) hgd (takes_blk rfl) (by rfl) m__law_holds k__law_holds b__law_holds (a_cons (c_var 8 (by rfl) (by first | exact Or.inl rfl | exact Or.inr (Or.inl rfl) | exact Or.inr (Or.inr rfl)) (by rfl) (by rfl)) (a_cons (c_var 7 (by rfl) (by first | exact Or.inl rfl | exact Or.inr (Or.inl rfl) | exact Or.inr (Or.inr rfl)) (by rfl) (by rfl)) a_nil (by rfl)) (by rfl)) (by rfl) (by rfl) (by rfl))⟩) (by intro _; rfl)) (by rfl))).pe (s_call g__law_holds (hr.mono (by first | decide | omega)) hgd tkB (by rfl) m__law_holds k__law_holds b__law_holds (a_cons (c_var 0 (by rfl) (by first | exact Or.inl rfl | exact Or.inr (Or.inl rfl) | exact Or.inr (Or.inr rfl)) (by rfl) (by rfl)) (a_cons (c_var 7 (by rfl) (by first | exact Or.inl rfl | exact Or.inr (Or.inl rfl) | exact Or.inr (Or.inr rfl)) (by rfl) (by rfl)) a_nil (by rfl)) (by rfl)) (by rfl) (by rfl) (by rfl)) (nomark _)) (z_cons (z_ret (c_bool pe_bl)) z_nil) z_nil) z_nil) (by intro _; rfl)) (z_cons (z_ret (c_bool pe_bl)) z_nil))))))))))
set_option maxHeartbeats 4000000 in
theorem ok__law_take {f : Addr} {fd : FuncData} (fn : Fun K "_law_take" "_law_take" s__law_take f fd) (z_len : mg "len" = none) : FnV P w K mg base 1 f fd ["_law_tap_here", "_law_many"] (spV K mg 2 F__law_take) := by
  obtain ⟨oc, od, kV, doc, pm, an, cdv, ct, osl, rfl, lk, hcd⟩ := fn.ex
  refine fnV_sem (k := 0) (N := n__law_take) (wb := w__law_take) lk hcd sc__law_take rfl rfl (by decide) (fun _ _ _ h => by unfold F__law_take at h; exact h) fun A outer s H E B hr hgd => ?_
  exact (z_cons (z_asg (c_bin .add (c_ix (c_var 0 (by rfl) (by first | exact Or.inl rfl | exact Or.inr (Or.inl rfl) | exact Or.inr (Or.inr rfl)) (by rfl) (by rfl)) (c_str pe_str) (fun _ _ => rfl)) (c_int pe_int)) (g_nm nd__law_take (by rfl) (by first | exact Or.inl rfl | exact Or.inr rfl) (by first | exact Or.inl rfl | exact Or.inr rfl)) (by rfl) (by rfl) (by rfl)) (z_cons (z_setIx hr (c_var 2 (by rfl) (by first | exact Or.inl rfl | exact Or.inr (Or.inl rfl) | exact Or.inr (Or.inr rfl)) (by rfl) (by rfl)) (c_var 0 (by rfl) (by first | exact Or.inl rfl | exact Or.inr (Or.inl rfl) | exact Or.inr (Or.inr rfl)) (by rfl) (by rfl)) (c_str pe_str) (by intro _; rfl) (by rfl) (by rfl) (by rfl)) (z_cons (z_if (c_cmp hr .gt (c_ix (c_var 0 (by rfl) (by first | exact Or.inl rfl | exact Or.inr (Or.inl rfl) | exact Or.inr (Or.inr rfl)) (by rfl) (by rfl)) (c_str pe_str) (fun _ _ => rfl)) (c_int pe_int) (nomark _)) (z_cons (z_asg (c_bin .mod (c_ix (c_var 0 (by rfl) (by first | exact Or.inl rfl | exact Or.inr (Or.inl rfl) | exact Or.inr (Or.inr rfl)) (by rfl) (by rfl)) (c_str pe_str) (fun _ _ => rfl)) (c_var 1 (by rfl) (by first | exact Or.inl rfl | exact Or.inr (Or.inl rfl) | exact Or.inr (Or.inr rfl)) (by rfl) (by rfl))) (g_nm nd__law_take (by rfl) (by first | exact Or.inl rfl | exact Or.inr rfl) (by first | exact Or.inl rfl | exact Or.inr rfl)) (by rfl) (by rfl) (by rfl)) (z_cons (z_setIx hr (c_bin .fdiv (c_ix (c_var 0 (by rfl) (by first | exact Or.inl rfl | exact Or.inr (Or.inl rfl) | exact Or.inr (Or.inr rfl)) (by rfl) (by rfl)) (c_str pe_str) (fun _ _ => rfl)) (c_var 1 (by rfl) (by first | exact Or.inl rfl | exact Or.inr (Or.inl rfl) | exact Or.inr (Or.inr rfl)) (by rfl) (by rfl))) (c_var 0 (by rfl) (by first | exact Or.inl rfl | exact Or.inr (Or.inl rfl) | exact Or.inr (Or.inr rfl)) (by rfl) (by rfl)) (c_str pe_str) (by intro _; rfl) (by rfl) (by rfl) (by rfl)) (z_cons (z_ret (c_var 3 (by rfl) (by first | exact Or.inl rfl | exact Or.inr (Or.inl rfl) | exact Or.inr (Or.inr rfl)) (by rfl) (by rfl))) z_nil))) z_nil) (z_cons (z_asg (c_ix (c_var 0 (by rfl) (by first | exact Or.inl rfl | exact Or.inr (Or.inl rfl) | exact Or.inr (Or.inr rfl)) (by rfl) (by rfl)) (c_str pe_str) (fun _ _ => rfl)) (g_nm nd__law_take (by rfl) (by first | exact Or.inl rfl | exact Or.inr rfl) (by first | exact Or.inl rfl | exact Or.inr rfl)) (by rfl) (by rfl) (by rfl)) (z_cons (z_setIx hr (c_bin .add (c_var 4 (by rfl) (by first | exact Or.inl rfl | exact Or.inr (Or.inl rfl) | exact Or.inr (Or.inr rfl)) (by rfl) (by rfl)) (c_int pe_int)) (c_var 0 (by rfl) (by first | exact Or.inl rfl | exact Or.inr (Or.inl rfl) | exact Or.inr (Or.inr rfl)) (by rfl) (by rfl)) (c_str pe_str) (by intro _; rfl) (by rfl) (by rfl) (by rfl)) (z_cons (z_asg (c_ix (c_var 0 (by rfl) (by first | exact Or.inl rfl | exact Or.inr (Or.inl rfl) | exact Or.inr (Or.inr rfl)) (by rfl) (by rfl)) (c_str pe_str) (fun _ _ => rfl)) (g_nm nd__law_take (by rfl) (by first | exact Or.inl rfl | exact Or.inr rfl) (by first | exact Or.inl rfl | exact Or.inr rfl)) (by rfl) (by rfl) (by rfl)) (z_cons (z_asg (c_ife (c_cmp hr .gt (c_primB (prim_ok hr hgd (by rfl) .len (fun _ => nofun) (fun _ => nofun)) rfl (by rfl) z_len (by rfl) (a_cons (c_var 5 (by rfl) (by first | exact Or.inl rfl | exact Or.inr (Or.inl rfl) | exact Or.inr (Or.inr rfl)) (by rfl) (by rfl)) a_nil (by rfl)) (by decide) (by rfl) (by rfl) (by rfl)) (c_int pe_int) (nomark _)) (c_ix (c_var 5 (by rfl) (by first | exact Or.inl rfl | exact Or.inr (Or.inl rfl) | exact Or.inr (Or.inr rfl)) (by rfl) (by rfl)) (c_bin .mod (c_var 4 (by rfl) (by first | exact Or.inl rfl | exact Or.inr (Or.inl rfl) | exact Or.inr (Or.inr rfl)) (by rfl) (by rfl)) (c_primB (prim_ok hr hgd (by rfl) .len (fun _ => nofun) (fun _ => nofun)) rfl (by rfl) z_len (by rfl) (a_cons (c_var 5 (by rfl) (by first | exact Or.inl rfl | exact Or.inr (Or.inl rfl) | exact Or.inr (Or.inr rfl)) (by rfl) (by rfl)) a_nil (by rfl)) (by decide) (by rfl) (by rfl) (by rfl))) (fun _ _ => rfl)) (c_int pe_int)) (g_nm nd__law_take (by rfl) (by first | exact Or.inl rfl | exact Or.inr rfl) (by first | exact Or.inl rfl | exact Or.inr rfl)) (by rfl) (by rfl) (by rfl)) (z_cons (z_if ((l_and (c_cmp hr .lt (c_var 4 (by rfl) (by first | exact Or.inl rfl | exact Or.inr (Or.inl rfl) | exact Or.inr (Or.inr rfl)) (by rfl) (by rfl)) (c_primB (prim_ok hr hgd (by rfl) .len (fun _ => nofun) (fun _ => nofun)) rfl (by rfl) z_len (by rfl) (a_cons (c_var 5 (by rfl) (by first | exact Or.inl rfl | exact Or.inr (Or.inl rfl) | exact Or.inr (Or.inr rfl)) (by rfl) (by rfl)) a_nil (by rfl)) (by decide) (by rfl) (by rfl) (by rfl)) (nomark _)) (l_one (c_cmp hr .ge (c_var 6 (by rfl) (by first | exact Or.inl rfl | exact Or.inr (Or.inl rfl) | exact Or.inr (Or.inr rfl)) (by rfl) (by rfl)) (c_bin .pow (c_int pe_int) (c_int pe_int)) (nomark _))))).snd (z_cons (z_setIx hr (c_bin .fdiv (c_var 6 (by rfl) (by first | exact Or.inl rfl | exact Or.inr (Or.inl rfl) | exact Or.inr (Or.inr rfl)) (by rfl) (by rfl)) (c_var 1 (by rfl) (by first | exact Or.inl rfl | exact Or.inr (Or.inl rfl) | exact Or.inr (Or.inr rfl)) (by rfl) (by rfl))) (c_var 0 (by rfl) (by first | exact Or.inl rfl | exact Or.inr (Or.inl rfl) | exact Or.inr (Or.inr rfl)) (by rfl) (by rfl)) (c_str pe_str) (by intro _; rfl) (by rfl) (by rfl) (by rfl)) (z_cons (z_ret (c_bin .mod (c_var 6 (by rfl) (by first | exact Or.inl rfl | exact Or.inr (Or.inl rfl) | exact Or.inr (Or.inr rfl)) (by rfl) (by rfl)) (c_var 1 (by rfl) (by first | exact Or.inl rfl | exact Or.inr (Or.inl rfl) | exact Or.inr (Or.inr rfl)) (by rfl) (by rfl)))) z_nil)) z_nil) (z_cons (z_asg (c_bin .mod (c_bin .pow (c_bin .add (c_bin .add (c_bin .mod (c_var 6 (by rfl) (by first | exact Or.inl rfl | exact Or.inr (Or.inl rfl) | exact Or.inr (Or.inr rfl)) (by rfl) (by rfl)) (c_int pe_int)) (c_bin .mul (c_int pe_int) (c_var 2 (by rfl) (by first | exact Or.inl rfl | exact Or.inr (Or.inl rfl) | exact Or.inr (Or.inr rfl)) (by rfl) (by rfl)))) (c_int pe_int)) (c_int pe_int)) (c_int pe_int)) (g_nm nd__law_take (by rfl) (by first | exact Or.inl rfl | exact Or.inr rfl) (by first | exact Or.inl rfl | exact Or.inr rfl)) (by rfl) (by rfl) (by rfl)) (z_cons (z_ret (c_bin .mod (c_bin .fdiv (c_bin .mod (c_bin .pow (c_bin .add (c_var 7 (by rfl) (by first | exact Or.inl rfl | exact Or.inr (Or.inl rfl) | exact Or.inr (Or.inr rfl)) (by rfl) (by rfl)) (c_bin .mul (c_bin .mul (c_int pe_int) (c_var 2 (by rfl) (by first | exact Or.inl rfl | exact Or.inr (Or.inl rfl) | exact Or.inr (Or.inr rfl)) (by rfl) (by rfl))) (c_var 2 (by rfl) (by first | exact Or.inl rfl | exact Or.inr (Or.inl rfl) | exact Or.inr (Or.inr rfl)) (by rfl) (by rfl)))) (c_int pe_int)) (c_int pe_int)) (c_int pe_int)) (c_var 1 (by rfl) (by first | exact Or.inl rfl | exact Or.inr (Or.inl rfl) | exact Or.inr (Or.inr rfl)) (by rfl) (by rfl)))) z_nil))))))))))
set_option maxHeartbeats 4000000 in
theorem ok__law_number {f : Addr} {fd : FuncData} (fn : Fun K "_law_number" "_law_number" s__law_number f fd) {f__law_take : Addr} {d__law_take : FuncData} (g__law_take : FnV P w K mg base 1 f__law_take d__law_take ["_law_tap_here", "_law_many"] (spV K mg 2 F__law_take)) (m__law_take : mg "_law_take" = some (.ref f__law_take)) (k__law_take : PySem.W.keepIn K (.ref f__law_take) = true) (b__law_take : Binds K d__law_take ["_law_tap_here", "_law_many"] []) : FnV P w K mg base 2 f fd ["_law_tap_here"] (spV K mg 1 F__law_number) := by
  obtain ⟨oc, od, kV, doc, pm, an, cdv, ct, osl, rfl, lk, hcd⟩ := fn.ex
  refine fnV_sem (k := 1) (N := n__law_number) (wb := w__law_number) lk hcd sc__law_number rfl rfl (by decide) (fun _ _ _ h => by unfold F__law_number at h; exact h) fun A outer s H E B hr hgd => ?_
  exact (z_cons (z_ret (c_ife (c_cmp hr .eq (s_call g__law_take (hr.mono (by first | decide | omega)) hgd tkB (by rfl) m__law_take k__law_take b__law_take (a_cons (c_var 0 (by rfl) (by first | exact Or.inl rfl | exact Or.inr (Or.inl rfl) | exact Or.inr (Or.inr rfl)) (by rfl) (by rfl)) (a_cons (c_int pe_int) a_nil (by rfl)) (by rfl)) (by rfl) (by rfl) (by rfl)) (c_int pe_int) (nomark _)) (s_call g__law_take (hr.mono (by first | decide | omega)) hgd tkB (by rfl) m__law_take k__law_take b__law_take (a_cons (c_var 0 (by rfl) (by first | exact Or.inl rfl | exact Or.inr (Or.inl rfl) | exact Or.inr (Or.inr rfl)) (by rfl) (by rfl)) (a_cons (c_int pe_int) a_nil (by rfl)) (by rfl)) (by rfl) (by rfl) (by rfl)) (s_call g__law_take (hr.mono (by first | decide | omega)) hgd tkB (by rfl) m__law_take k__law_take b__law_take (a_cons (c_var 0 (by rfl) (by first | exact Or.inl rfl | exact Or.inr (Or.inl rfl) | exact Or.inr (Or.inr rfl)) (by rfl) (by rfl)) (a_cons (c_int pe_int) a_nil (by rfl)) (by rfl)) (by rfl) (by rfl) (by rfl)))) z_nil)
set_option maxHeartbeats 4000000 in
theorem ok__law_some {f : Addr} {fd : FuncData} (fn : Fun K "_law_some" "_law_some" s__law_some f fd) {f__law_take : Addr} {d__law_take : FuncData} (g__law_take : FnV P w K mg base 1 f__law_take d__law_take ["_law_tap_here", "_law_many"] (spV K mg 2 F__law_take)) (m__law_take : mg "_law_take" = some (.ref f__law_take)) (k__law_take : PySem.W.keepIn K (.ref f__law_take) = true) (b__law_take : Binds K d__law_take ["_law_tap_here", "_law_many"] []) (z_sorted : mg "sorted" = none) (z_tuple : mg "tuple" = none) : FnV P w K mg base 2 f fd ["_law_tap_here", "_law_towns_here"] (spV K mg 2 F__law_some) := by
  obtain ⟨oc, od, kV, doc, pm, an, cdv, ct, osl, rfl, lk, hcd⟩ := fn.ex
  refine fnV_sem (k := 1) (N := n__law_some) (wb := w__law_some) lk hcd sc__law_some rfl rfl (by decide) (fun _ _ _ h => by unfold F__law_some at h; exact h) fun A outer s H E B hr hgd => ?_
  exact (z_cons (z_setLc (i := 2) (own := [("_law_town", 3)]) (by rfl) nd__law_some (by rfl) (by rfl) (sw_true (by rfl) (by rfl) (by rfl) (by rfl)) (i_e (c_var 1 (by rfl) (by first | exact Or.inl rfl | exact Or.inr (Or.inl rfl) | exact Or.inr (Or.inr rfl)) (by rfl) (by rfl))) (blkOk_by (own := [("_law_town", 3)]) (N := n__law_some) (sc := (defScope s__law_some)) (by decide +kernel)) (by decide) (by decide) (fun _ _ _ _ _ => ⟨(g_nm nd__law_some (by rfl) (by first | exact Or.inl rfl | exact Or.inr rfl) (by first | exact Or.inl rfl | exact Or.inr rfl)), (q_one (c_cmp hr .eq (s_call g__law_take (hr.mono (by first | decide | omega)) hgd (takes_blk rfl) (by rfl) m__law_take k__law_take b__law_take (a_cons (c_var 0 (by rfl) (by first | exact Or.inl rfl | exact Or.inr (Or.inl rfl) | exact Or.inr (Or.inr rfl)) (by rfl) (by rfl)) (a_cons (c_int pe_int) a_nil (by rfl)) (by rfl)) (by rfl) (by rfl) (by rfl)) (c_int pe_int) (nomark _))), (c_var 3 (by rfl) (by first | exact Or.inl rfl | exact Or.inr (Or.inl rfl) | exact Or.inr (Or.inr rfl)) (by rfl) (by rfl))⟩) (by intro _; rfl)) (z_cons (z_if (c_cmp hr .eq (c_var 2 (by rfl) (by first | exact Or.inl rfl | exact Or.inr (Or.inl rfl) | exact Or.inr (Or.inr rfl)) (by rfl) (by rfl)) (c_lst a_nil) (nomark _)) (z_cons (z_asg (c_lst (a_cons (c_ix (c_var 1 (by rfl) (by first | exact Or.inl rfl | exact Or.inr (Or.inl rfl) | exact Or.inr (Or.inr rfl)) (by rfl) (by rfl)) (s_call g__law_take (hr.mono (by first | decide | omega)) hgd tkB (by rfl) m__law_take k__law_take b__law_take (a_cons (c_var 0 (by rfl) (by first | exact Or.inl rfl | exact Or.inr (Or.inl rfl) | exact Or.inr (Or.inr rfl)) (by rfl) (by rfl)) (a_cons (c_int pe_int) a_nil (by rfl)) (by rfl)) (by rfl) (by rfl) (by rfl)) (fun _ _ => rfl)) a_nil (by rfl))) (g_nm nd__law_some (by rfl) (by first | exact Or.inl rfl | exact Or.inr rfl) (by first | exact Or.inl rfl | exact Or.inr rfl)) (by rfl) (by rfl) (by rfl)) z_nil) z_nil) (z_cons (z_ret (c_primT (prim_ok hr hgd (by rfl) .tuple (fun _ => nofun) (fun _ => nofun)) rfl (by rfl) z_tuple (by rfl) (a_cons (c_bltB ok_sortS (by rfl) z_sorted (by rfl) (a_cons (c_sl (c_var 2 (by rfl) (by first | exact Or.inl rfl | exact Or.inr (Or.inl rfl) | exact Or.inr (Or.inr rfl)) (by rfl) (by rfl)) o_none (o_some (c_int pe_int))) a_nil (by rfl)) (by decide) (by rfl) (by rfl) (by rfl)) a_nil (by rfl)) (by decide) (by rfl) (by rfl) (by rfl))) z_nil)))
set_option maxHeartbeats 4000000 in
theorem ok__law_literal {f : Addr} {fd : FuncData} (fn : Fun K "_law_literal" "_law_literal" s__law_literal f fd) {f__law_number : Addr} {d__law_number : FuncData} (g__law_number : FnV P w K mg base 2 f__law_number d__law_number ["_law_tap_here"] (spV K mg 1 F__law_number)) (m__law_number : mg "_law_number" = some (.ref f__law_number)) (k__law_number : PySem.W.keepIn K (.ref f__law_number) = true) (b__law_number : Binds K d__law_number ["_law_tap_here"] []) {f__law_some : Addr} {d__law_some : FuncData} (g__law_some : FnV P w K mg base 2 f__law_some d__law_some ["_law_tap_here", "_law_towns_here"] (spV K mg 2 F__law_some)) (m__law_some : mg "_law_some" = some (.ref f__law_some)) (k__law_some : PySem.W.keepIn K (.ref f__law_some) = true) (b__law_some : Binds K d__law_some ["_law_tap_here", "_law_towns_here"] []) {f__law_take : Addr} {d__law_take : FuncData} (g__law_take : FnV P w K mg base 1 f__law_take d__law_take ["_law_tap_here", "_law_many"] (spV K mg 2 F__law_take)) (m__law_take : mg "_law_take" = some (.ref f__law_take)) (k__law_take : PySem.W.keepIn K (.ref f__law_take) = true) (b__law_take : Binds K d__law_take ["_law_tap_here", "_law_many"] []) (z_min : mg "min" = none) : FnV P w K mg base 3 f fd ["_law_tap_here", "_law_towns_here"] (spV K mg 2 F__law_literal) := by
  obtain ⟨oc, od, kV, doc, pm, an, cdv, ct, osl, rfl, lk, hcd⟩ := fn.ex
  refine fnV_sem (k := 2) (N := n__law_literal) (wb := w__law_literal) lk hcd sc__law_literal rfl rfl (by decide) (fun _ _ _ h => by unfold F__law_literal at h; exact h) fun A outer s H E B hr hgd => ?_
  exact (z_cons (z_asg (s_call g__law_take (hr.mono (by first | decide | omega)) hgd tkB (by rfl) m__law_take k__law_take b__law_take (a_cons (c_var 0 (by rfl) (by first | exact Or.inl rfl | exact Or.inr (Or.inl rfl) | exact Or.inr (Or.inr rfl)) (by rfl) (by rfl)) (a_cons (c_int pe_int) a_nil (by rfl)) (by rfl)) (by rfl) (by rfl) (by rfl)) (g_nm nd__law_literal (by rfl) (by first | exact Or.inl rfl | exact Or.inr rfl) (by first | exact Or.inl rfl | exact Or.inr rfl)) (by rfl) (by rfl) (by rfl)) (z_cons (z_if (c_cmp hr .lt (c_var 2 (by rfl) (by first | exact Or.inl rfl | exact Or.inr (Or.inl rfl) | exact Or.inr (Or.inr rfl)) (by rfl) (by rfl)) (c_int pe_int) (nomark _)) (z_cons (z_ret (c_tup (a_cons (c_ix (c_lst (a_cons (c_str pe_str) (a_cons (c_str pe_str) a_nil (by rfl)) (by rfl))) (c_var 2 (by rfl) (by first | exact Or.inl rfl | exact Or.inr (Or.inl rfl) | exact Or.inr (Or.inr rfl)) (by rfl) (by rfl)) (fun _ _ => rfl)) (a_cons (s_call g__law_some (hr.mono (by first | decide | omega)) hgd tkB (by rfl) m__law_some k__law_some b__law_some (a_cons (c_var 0 (by rfl) (by first | exact Or.inl rfl | exact Or.inr (Or.inl rfl) | exact Or.inr (Or.inr rfl)) (by rfl) (by rfl)) (a_cons (c_var 1 (by rfl) (by first | exact Or.inl rfl | exact Or.inr (Or.inl rfl) | exact Or.inr (Or.inr rfl)) (by rfl) (by rfl)) a_nil (by rfl)) (by rfl)) (by rfl) (by rfl) (by rfl)) a_nil (by rfl)) (by rfl)))) z_nil) z_nil) (z_cons (z_if (c_cmp hr .lt (c_var 2 (by rfl) (by first | exact Or.inl rfl | exact Or.inr (Or.inl rfl) | exact Or.inr (Or.inr rfl)) (by rfl) (by rfl)) (c_int pe_int) (nomark _)) (z_cons (z_ret (c_tup (a_cons (c_ix (c_lst (a_cons (c_str pe_str) (a_cons (c_str pe_str) a_nil (by rfl)) (by rfl))) (c_bin .sub (c_var 2 (by rfl) (by first | exact Or.inl rfl | exact Or.inr (Or.inl rfl) | exact Or.inr (Or.inr rfl)) (by rfl) (by rfl)) (c_int pe_int)) (fun _ _ => rfl)) (a_cons (s_call g__law_number (hr.mono (by first | decide | omega)) hgd tkB (by rfl) m__law_number k__law_number b__law_number (a_cons (c_var 0 (by rfl) (by first | exact Or.inl rfl | exact Or.inr (Or.inl rfl) | exact Or.inr (Or.inr rfl)) (by rfl) (by rfl)) a_nil (by rfl)) (by rfl) (by rfl) (by rfl)) a_nil (by rfl)) (by rfl)))) z_nil) z_nil) (z_cons (z_asg (c_ix (c_lst (a_cons (c_int pe_int) (a_cons (s_call g__law_number (hr.mono (by first | decide | omega)) hgd tkB (by rfl) m__law_number k__law_number b__law_number (a_cons (c_var 0 (by rfl) (by first | exact Or.inl rfl | exact Or.inr (Or.inl rfl) | exact Or.inr (Or.inr rfl)) (by rfl) (by rfl)) a_nil (by rfl)) (by rfl) (by rfl) (by rfl)) (a_cons (c_bin .mul (c_int pe_int) (s_call g__law_take (hr.mono (by first | decide | omega)) hgd tkB (by rfl) m__law_take k__law_take b__law_take (a_cons (c_var 0 (by rfl) (by first | exact Or.inl rfl | exact Or.inr (Or.inl rfl) | exact Or.inr (Or.inr rfl)) (by rfl) (by rfl)) (a_cons (c_int pe_int) a_nil (by rfl)) (by rfl)) (by rfl) (by rfl) (by rfl))) a_nil (by rfl)) (by rfl)) (by rfl))) (s_call g__law_take (hr.mono (by first | decide | omega)) hgd tkB (by rfl) m__law_take k__law_take b__law_take (a_cons (c_var 0 (by rfl) (by first | exact Or.inl rfl | exact Or.inr (Or.inl rfl) | exact Or.inr (Or.inr rfl)) (by rfl) (by rfl)) (a_cons (c_int pe_int) a_nil (by rfl)) (by rfl)) (by rfl) (by rfl) (by rfl)) (fun _ _ => rfl)) (g_nm nd__law_literal (by rfl) (by first | exact Or.inl rfl | exact Or.inr rfl) (by first | exact Or.inl rfl | exact Or.inr rfl)) (by rfl) (by rfl) (by rfl)) (z_cons (z_if (c_cmp hr .eq (s_call g__law_take (hr.mono (by first | decide | omega)) hgd tkB (by rfl) m__law_take k__law_take b__law_take (a_cons (c_var 0 (by rfl) (by first | exact Or.inl rfl | exact Or.inr (Or.inl rfl) | exact Or.inr (Or.inr rfl)) (by rfl) (by rfl)) (a_cons (c_int pe_int) a_nil (by rfl)) (by rfl)) (by rfl) (by rfl) (by rfl)) (c_int pe_int) (nomark _)) (z_cons (z_ret (c_tup (a_cons (c_str pe_str) (a_cons (c_var 3 (by rfl) (by first | exact Or.inl rfl | exact Or.inr (Or.inl rfl) | exact Or.inr (Or.inr rfl)) (by rfl) (by rfl)) (a_cons (c_none pe_non) a_nil (by rfl)) (by rfl)) (by rfl)))) z_nil) z_nil) (z_cons (z_ret (c_tup (a_cons (c_str pe_str) (a_cons (c_var 3 (by rfl) (by first | exact Or.inl rfl | exact Or.inr (Or.inl rfl) | exact Or.inr (Or.inr rfl)) (by rfl) (by rfl)) (a_cons (c_primB (prim_ok hr hgd (by rfl) .min2 (fun _ => nofun) (fun _ => nofun)) rfl (by rfl) z_min (by rfl) (a_cons (c_int pe_int) (a_cons (c_bin .add (c_bin .add (c_var 3 (by rfl) (by first | exact Or.inl rfl | exact Or.inr (Or.inl rfl) | exact Or.inr (Or.inr rfl)) (by rfl) (by rfl)) (c_int pe_int)) (s_call g__law_number (hr.mono (by first | decide | omega)) hgd tkB (by rfl) m__law_number k__law_number b__law_number (a_cons (c_var 0 (by rfl) (by first | exact Or.inl rfl | exact Or.inr (Or.inl rfl) | exact Or.inr (Or.inr rfl)) (by rfl) (by rfl)) a_nil (by rfl)) (by rfl) (by rfl) (by rfl))) a_nil (by rfl)) (by rfl)) (by decide) (by rfl) (by rfl) (by rfl)) a_nil (by rfl)) (by rfl)) (by rfl)))) z_nil))))))
set_option maxHeartbeats 4000000 in
theorem ok__law_tap {f : Addr} {fd : FuncData} (fn : Fun K "_law_tap" "_law_tap" s__law_tap f fd) (z_list : mg "list" = none) : FnV P w K mg base 1 f fd ["_law_script"] (spV K mg 1 F__law_tap) := by
  obtain ⟨oc, od, kV, doc, pm, an, cdv, ct, osl, rfl, lk, hcd⟩ := fn.ex
  refine fnV_sem (k := 0) (N := n__law_tap) (wb := w__law_tap) lk hcd sc__law_tap rfl rfl (by decide) (fun _ _ _ h => by unfold F__law_tap at h; exact h) fun A outer s H E B hr hgd => ?_
  exact (z_cons (z_ret (c_dct (d_cons pe_str (c_frz (c_primT (prim_ok hr hgd (by rfl) .list (fun _ => nofun) (fun _ => nofun)) rfl (by rfl) z_list (by rfl) (a_cons (c_sl (c_var 0 (by rfl) (by first | exact Or.inl rfl | exact Or.inr (Or.inl rfl) | exact Or.inr (Or.inr rfl)) (by rfl) (by rfl)) o_none (o_some (c_int pe_int))) a_nil (by rfl)) (by decide) (by rfl) (by rfl) (by rfl))) (d_cons pe_str (c_int pe_int) (d_cons pe_str (c_int pe_int) (d_cons pe_str (c_int pe_int) d_nil)))) (by decide +kernel) (by simp) (by decide))) z_nil)
set_option maxHeartbeats 4000000 in
theorem ok__law_towns {f : Addr} {fd : FuncData} (fn : Fun K "_law_towns" "_law_towns" s__law_towns f fd) {f__law_take : Addr} {d__law_take : FuncData} (g__law_take : FnV P w K mg base 1 f__law_take d__law_take ["_law_tap_here", "_law_many"] (spV K mg 2 F__law_take)) (m__law_take : mg "_law_take" = some (.ref f__law_take)) (k__law_take : PySem.W.keepIn K (.ref f__law_take) = true) (b__law_take : Binds K d__law_take ["_law_tap_here", "_law_many"] []) (z_len : mg "len" = none) (z_range : mg "range" = none) : FnV P w K mg base 2 f fd ["_law_tap_here"] (spV K mg 1 F__law_towns) := by
  obtain ⟨oc, od, kV, doc, pm, an, cdv, ct, osl, rfl, lk, hcd⟩ := fn.ex
  refine fnV_sem (k := 1) (N := n__law_towns) (wb := w__law_towns) lk hcd sc__law_towns rfl rfl (by decide) (fun _ _ _ h => by unfold F__law_towns at h; exact h) fun A outer s H E B hr hgd => ?_
  exact (z_cons (z_asg (c_ife (c_cmp hr .eq (s_call g__law_take (hr.mono (by first | decide | omega)) hgd tkB (by rfl) m__law_take k__law_take b__law_take (a_cons (c_var 0 (by rfl) (by first | exact Or.inl rfl | exact Or.inr (Or.inl rfl) | exact Or.inr (Or.inr rfl)) (by rfl) (by rfl)) (a_cons (c_int pe_int) a_nil (by rfl)) (by rfl)) (by rfl) (by rfl) (by rfl)) (c_int pe_int) (nomark _)) (c_int pe_int) (s_call g__law_take (hr.mono (by first | decide | omega)) hgd tkB (by rfl) m__law_take k__law_take b__law_take (a_cons (c_var 0 (by rfl) (by first | exact Or.inl rfl | exact Or.inr (Or.inl rfl) | exact Or.inr (Or.inr rfl)) (by rfl) (by rfl)) (a_cons (c_int pe_int) a_nil (by rfl)) (by rfl)) (by rfl) (by rfl) (by rfl))) (g_nm nd__law_towns (by rfl) (by first | exact Or.inl rfl | exact Or.inr rfl) (by first | exact Or.inl rfl | exact Or.inr rfl)) (by rfl) (by rfl) (by rfl)) (z_cons (z_asg (c_str pe_str) (g_nm nd__law_towns (by rfl) (by first | exact Or.inl rfl | exact Or.inr rfl) (by first | exact Or.inl rfl | exact Or.inr rfl)) (by rfl) (by rfl) (by rfl)) (z_cons (z_asg (c_lst (a_cons (c_str pe_str) (a_cons (c_str pe_str) (a_cons (c_str pe_str) (a_cons (c_str pe_str) (a_cons (c_str pe_str) (a_cons (c_str pe_str) (a_cons (c_str pe_str) (a_cons (c_str pe_str) (a_cons (c_str pe_str) (a_cons (c_str pe_str) (a_cons (c_str pe_str) (a_cons (c_str pe_str) a_nil (by rfl)) (by rfl)) (by rfl)) (by rfl)) (by rfl)) (by rfl)) (by rfl)) (by rfl)) (by rfl)) (by rfl)) (by rfl)) (by rfl))) (g_nm nd__law_towns (by rfl) (by first | exact Or.inl rfl | exact Or.inr rfl) (by first | exact Or.inl rfl | exact Or.inr rfl)) (by rfl) (by rfl) (by rfl)) (z_cons (z_asg (c_lst a_nil) (g_nm nd__law_towns (by rfl) (by first | exact Or.inl rfl | exact Or.inr rfl) (by first | exact Or.inl rfl | exact Or.inr rfl)) (by rfl) (by rfl) (by rfl)) (z_cons (z_for (poB rfl rfl rfl rfl rfl) (by rfl) (i_rg1 (by rfl) z_range (c_int pe_int) (by rfl)) (g_nm nd__law_towns (by rfl) (by first | exact Or.inl rfl | exact Or.inr rfl) (by first | exact Or.inl rfl | exact Or.inr rfl)) (z_cons (z_asg (c_pop (c_var 3 (by rfl) (by first | exact Or.inl rfl | exact Or.inr (Or.inl rfl) | exact Or.inr (Or.inr rfl)) (by rfl) (by rfl)) (a_cons (s_call g__law_take (hr.mono (by first | decide | omega)) hgd tkB (by rfl) m__law_take k__law_take b__law_take (a_cons (c_var 0 (by rfl) (by first | exact Or.inl rfl | exact Or.inr (Or.inl rfl) | exact Or.inr (Or.inr rfl)) (by rfl) (by rfl)) (a_cons (c_primB (prim_ok hr hgd (by rfl) .len (fun _ => nofun) (fun _ => nofun)) rfl (by rfl) z_len (by rfl) (a_cons (c_var 3 (by rfl) (by first | exact Or.inl rfl | exact Or.inr (Or.inl rfl) | exact Or.inr (Or.inr rfl)) (by rfl) (by rfl)) a_nil (by rfl)) (by decide) (by rfl) (by rfl) (by rfl)) a_nil (by rfl)) (by rfl)) (by rfl) (by rfl) (by rfl)) a_nil (by rfl)) (by rfl) (by rfl) (by rfl) (by rfl) (by rfl)) (g_nm nd__law_towns (by rfl) (by first | exact Or.inl rfl | exact Or.inr rfl) (by first | exact Or.inl rfl | exact Or.inr rfl)) (by rfl) (by rfl) (by rfl)) (z_cons (z_expr (c_append (c_var 4 (by rfl) (by first | exact Or.inl rfl | exact Or.inr (Or.inl rfl) | exact Or.inr (Or.inr rfl)) (by rfl) (by rfl)) (a_cons (c_join (c_str pe_str) (a_cons (c_comp (own := [("_law_sign", 7)]) (by rfl) nd__law_towns (i_s (c_var 6 (by rfl) (by first | exact Or.inl rfl | exact Or.inr (Or.inl rfl) | exact Or.inr (Or.inr rfl)) (by rfl) (by rfl))) (blkOk_by (own := [("_law_sign", 7)]) (N := n__law_towns) (sc := (defScope s__law_towns)) (by decide +kernel)) (by decide) (by decide) (fun _ _ _ _ _ => ⟨(g_nm nd__law_towns (by rfl) (by first | exact Or.inl rfl | exact Or.inr rfl) (by first | exact Or.inl rfl | exact Or.inr rfl)), q_all, (c_ix (c_var 2 (by rfl) (by first | exact Or.inl rfl | exact Or.inr (Or.inl rfl) | exact Or.inr (Or.inr rfl)) (by rfl) (by rfl)) (c_bin .mod (c_bin .add (c_sindex (c_var 2 (by rfl) (by first | exact Or.inl rfl | exact Or.inr (Or.inl rfl) | exact Or.inr (Or.inr rfl)) (by rfl) (by rfl)) (a_cons (c_var 7 (by rfl) (by first | exact Or.inl rfl | exact Or.inr (Or.inl rfl) | exact Or.inr (Or.inr rfl)) (by rfl) (by rfl)) a_nil (by rfl)) (by rfl) (by rfl) (by rfl) (by rfl) (by rfl)) (c_var 1 (by rfl) (by first | exact Or.inl rfl | exact Or.inr (Or.inl rfl) | exact Or.inr (Or.inr rfl)) (by rfl) (by rfl))) (c_int pe_int)) (fun _ _ => rfl))⟩) (by intro _; rfl)) a_nil (by rfl)) (by rfl) (by rfl) (by rfl) (by rfl) (by rfl)) a_nil (by rfl)) (by rfl) (by rfl) (by rfl) (by rfl) (by rfl)) (by rfl)) z_nil)) (by intro _; rfl)) (z_cons (z_ret (c_var 4 (by rfl) (by first | exact Or.inl rfl | exact Or.inr (Or.inl rfl) | exact Or.inr (Or.inr rfl)) (by rfl) (by rfl))) z_nil))))))
set_option maxHeartbeats 4000000 in
theorem ok_law {f : Addr} {fd : FuncData} (fn : Fun K "law" "law" s_law f fd) {f__law_is_contrary : Addr} {d__law_is_contrary : FuncData} (g__law_is_contrary : FnV P w K mg base 3 f__law_is_contrary d__law_is_contrary ["_law_literal_here"] (spV K mg 1 F__law_is_contrary)) (m__law_is_contrary : mg "_law_is_contrary" = some (.ref f__law_is_contrary)) (k__law_is_contrary : PySem.W.keepIn K (.ref f__law_is_contrary) = true) (b__law_is_contrary : Binds K d__law_is_contrary ["_law_literal_here"] []) {f__law_literal : Addr} {d__law_literal : FuncData} (g__law_literal : FnV P w K mg base 3 f__law_literal d__law_literal ["_law_tap_here", "_law_towns_here"] (spV K mg 2 F__law_literal)) (m__law_literal : mg "_law_literal" = some (.ref f__law_literal)) (k__law_literal : PySem.W.keepIn K (.ref f__law_literal) = true) (b__law_literal : Binds K d__law_literal ["_law_tap_here", "_law_towns_here"] []) {f__law_tap : Addr} {d__law_tap : FuncData} (g__law_tap : FnV P w K mg base 1 f__law_tap d__law_tap ["_law_script"] (spV K mg 1 F__law_tap)) (m__law_tap : mg "_law_tap" = some (.ref f__law_tap)) (k__law_tap : PySem.W.keepIn K (.ref f__law_tap) = true) (b__law_tap : Binds K d__law_tap ["_law_script"] []) {f__law_towns : Addr} {d__law_towns : FuncData} (g__law_towns : FnV P w K mg base 2 f__law_towns d__law_towns ["_law_tap_here"] (spV K mg 1 F__law_towns)) (m__law_towns : mg "_law_towns" = some (.ref f__law_towns)) (k__law_towns : PySem.W.keepIn K (.ref f__law_towns) = true) (b__law_towns : Binds K d__law_towns ["_law_tap_here"] []) (z_range : mg "range" = none) : FnV P w K mg base 4 f fd ["_law_script"] (spV K mg 1 F_law) := by
  obtain ⟨oc, od, kV, doc, pm, an, cdv, ct, osl, rfl, lk, hcd⟩ := fn.ex
  refine fnV_sem (k := 3) (N := n_law) (wb := w_law) lk hcd sc_law rfl rfl (by decide) (fun _ _ _ h => by unfold F_law at h; exact h) fun A outer s H E B hr hgd => ?_
  exact (z_cons (z_asg (s_call g__law_tap (hr.mono (by first | decide | omega)) hgd tkB (by rfl) m__law_tap k__law_tap b__law_tap (a_cons (c_var 0 (by rfl) (by first | exact Or.inl rfl | exact Or.inr (Or.inl rfl) | exact Or.inr (Or.inr rfl)) (by rfl) (by rfl)) a_nil (by rfl)) (by rfl) (by rfl) (by rfl)) (g_nm nd_law (by rfl) (by first | exact Or.inl rfl | exact Or.inr rfl) (by first | exact Or.inl rfl | exact Or.inr rfl)) (by rfl) (by rfl) (by rfl)) (z_cons (z_asg (s_call g__law_towns (hr.mono (by first | decide | omega)) hgd tkB (by rfl) m__law_towns k__law_towns b__law_towns (a_cons (c_var 1 (by rfl) (by first | exact Or.inl rfl | exact Or.inr (Or.inl rfl) | exact Or.inr (Or.inr rfl)) (by rfl) (by rfl)) a_nil (by rfl)) (by rfl) (by rfl) (by rfl)) (g_nm nd_law (by rfl) (by first | exact Or.inl rfl | exact Or.inr rfl) (by first | exact Or.inl rfl | exact Or.inr rfl)) (by rfl) (by rfl) (by rfl)) (z_cons (z_asg (c_bin .add (c_lst (a_cons (c_tup (a_cons (c_str pe_str) (a_cons (c_int pe_int) (a_cons (c_none pe_non) a_nil (by rfl)) (by rfl)) (by rfl))) (a_cons (c_tup (a_cons (c_str pe_str) (a_cons (c_int pe_int) (a_cons (c_int pe_int) a_nil (by rfl)) (by rfl)) (by rfl))) (a_cons (c_tup (a_cons (c_str pe_str) (a_cons (c_int pe_int) (a_cons (c_none pe_non) a_nil (by rfl)) (by rfl)) (by rfl))) a_nil (by rfl)) (by rfl)) (by rfl))) (c_comp (own := [("_law_k", 4)]) (by rfl) nd_law (i_rg1 (by rfl) z_range (c_int pe_int) (by rfl)) (blkOk_by (own := [("_law_k", 4)]) (N := n_law) (sc := (defScope s_law)) (by decide +kernel)) (by decide) (by decide) (fun _ _ _ _ _ => ⟨(g_nm nd_law (by rfl) (by first | exact Or.inl rfl | exact Or.inr rfl) (by first | exact Or.inl rfl | exact Or.inr rfl)), q_all, (s_call g__law_literal (hr.mono (by first | decide | omega)) hgd (takes_blk rfl) (by rfl) m__law_literal k__law_literal b__law_literal (a_cons (c_var 1 (by rfl) (by first | exact Or.inl rfl | exact Or.inr (Or.inl rfl) | exact Or.inr (Or.inr rfl)) (by rfl) (by rfl)) (a_cons (c_var 2 (by rfl) (by first | exact Or.inl rfl | exact Or.inr (Or.inl rfl) | exact Or.inr (Or.inr rfl)) (by rfl) (by rfl)) a_nil (by rfl)) (by rfl)) (by rfl) (by rfl) (by rfl))⟩) (by intro _; rfl))) (g_nm nd_law (by rfl) (by first | exact Or.inl rfl | exact Or.inr rfl) (by first | exact Or.inl rfl | exact Or.inr rfl)) (by rfl) (by rfl) (by rfl)) (z_cons (z_ret ((c_cmp hr .eq (c_comp (own := [("_law_literal_here", 5)]) (by rfl) nd_law (i_e (c_var 3 (by rfl) (by first | exact Or.inl rfl | exact Or.inr (Or.inl rfl) | exact Or.inr (Or.inr rfl)) (by rfl) (by rfl))) (blkOk_by (own := [("_law_literal_here", 5)]) (N := n_law) (sc := (defScope s_law)) (by decide +kernel)) (by decide) (by decide) (fun _ _ _ _ _ => ⟨(g_nm nd_law (by rfl) (by first | exact Or.inl rfl | exact Or.inr rfl) (by first | exact Or.inl rfl | exact Or.inr rfl)), (q_one (c_not (c_snd (s_call g__law_is_contrary (hr.mono (by first | decide | omega)) hgd (takes_blk rfl) (by rfl) m__law_is_contrary k__law_is_contrary b__law_is_contrary (a_cons (c_var 5 (by rfl) (by first | exact Or.inl rfl | exact Or.inr (Or.inl rfl) | exact Or.inr (Or.inr rfl)) (by rfl) (by rfl)) a_nil (by rfl)) (by rfl) (by rfl) (by rfl)) (by intro _; rfl)))), (c_var 5 (by rfl) (by first | exact Or.inl rfl | exact Or.inr (Or.inl rfl) | exact Or.inr (Or.inr rfl)) (by rfl) (by rfl))⟩) (by intro _; rfl)) (c_lst a_nil) (nomark _))).pe) z_nil))))
end
/-! ### the head -/
open PyProof.Rows in
theorem all_mk {l : PySem.W.OpenLaw} {w : World} {K : PySem.W.Frag} {h : Heap} {mg : Str → Option Value} {fa : Addr} (X : K.In h) (G : h.Ns mainGlobals mg) (hfa : mg "law" = some (.ref fa))
    {f0 : Addr} {od0 an0 : Option Addr} {sl0 : Array (Option Value)} {oc0 kV0 dc0 pm0 cd0 ct0 : Value}
    (a0 : PySem.W.nsIn K mainGlobals "_law_few" = some (some (.ref f0))) (l0 : K.lookup f0 = some ⟨oc0, od0, .func (PySem.W.fnOf "_law_few" "_law_few" (defArgs s__law_few) (defBody s__law_few) (defScope s__law_few) .none kV0 dc0 pm0 an0 cd0 ct0), sl0⟩) (c0 : PySem.W.codeIn K cd0 "_law_few" = true) (k0 : PySem.W.keepIn K (.ref f0) = true)
    {f1 : Addr} {od1 an1 : Option Addr} {sl1 : Array (Option Value)} {oc1 kV1 dc1 pm1 cd1 ct1 : Value}
    (a1 : PySem.W.nsIn K mainGlobals "_law_holds" = some (some (.ref f1))) (l1 : K.lookup f1 = some ⟨oc1, od1, .func (PySem.W.fnOf "_law_holds" "_law_holds" (defArgs s__law_holds) (defBody s__law_holds) (defScope s__law_holds) .none kV1 dc1 pm1 an1 cd1 ct1), sl1⟩) (c1 : PySem.W.codeIn K cd1 "_law_holds" = true) (k1 : PySem.W.keepIn K (.ref f1) = true)
    {f2 : Addr} {od2 an2 : Option Addr} {sl2 : Array (Option Value)} {oc2 kV2 dc2 pm2 cd2 ct2 : Value}
    (a2 : PySem.W.nsIn K mainGlobals "_law_is_number" = some (some (.ref f2))) (l2 : K.lookup f2 = some ⟨oc2, od2, .func (PySem.W.fnOf "_law_is_number" "_law_is_number" (defArgs s__law_is_number) (defBody s__law_is_number) (defScope s__law_is_number) .none kV2 dc2 pm2 an2 cd2 ct2), sl2⟩) (c2 : PySem.W.codeIn K cd2 "_law_is_number" = true) (k2 : PySem.W.keepIn K (.ref f2) = true)
    {f3 : Addr} {od3 an3 : Option Addr} {sl3 : Array (Option Value)} {oc3 kV3 dc3 pm3 cd3 ct3 : Value}
    (a3 : PySem.W.nsIn K mainGlobals "_law_is_word" = some (some (.ref f3))) (l3 : K.lookup f3 = some ⟨oc3, od3, .func (PySem.W.fnOf "_law_is_word" "_law_is_word" (defArgs s__law_is_word) (defBody s__law_is_word) (defScope s__law_is_word) .none kV3 dc3 pm3 an3 cd3 ct3), sl3⟩) (c3 : PySem.W.codeIn K cd3 "_law_is_word" = true) (k3 : PySem.W.keepIn K (.ref f3) = true)
    {f4 : Addr} {od4 an4 : Option Addr} {sl4 : Array (Option Value)} {oc4 kV4 dc4 pm4 cd4 ct4 : Value}
    (a4 : PySem.W.nsIn K mainGlobals "_law_is_literal" = some (some (.ref f4))) (l4 : K.lookup f4 = some ⟨oc4, od4, .func (PySem.W.fnOf "_law_is_literal" "_law_is_literal" (defArgs s__law_is_literal) (defBody s__law_is_literal) (defScope s__law_is_literal) .none kV4 dc4 pm4 an4 cd4 ct4), sl4⟩) (c4 : PySem.W.codeIn K cd4 "_law_is_literal" = true) (k4 : PySem.W.keepIn K (.ref f4) = true)
    {f5 : Addr} {od5 an5 : Option Addr} {sl5 : Array (Option Value)} {oc5 kV5 dc5 pm5 cd5 ct5 : Value}
    (a5 : PySem.W.nsIn K mainGlobals "contrary" = some (some (.ref f5))) (l5 : K.lookup f5 = some ⟨oc5, od5, .func (PySem.W.fnOf "contrary" "contrary" (defArgs s_contrary) (defBody s_contrary) (defScope s_contrary) .none kV5 dc5 pm5 an5 cd5 ct5), sl5⟩) (c5 : PySem.W.codeIn K cd5 "contrary" = true) (k5 : PySem.W.keepIn K (.ref f5) = true)
    {f6 : Addr} {od6 an6 : Option Addr} {sl6 : Array (Option Value)} {oc6 kV6 dc6 pm6 cd6 ct6 : Value}
    (a6 : PySem.W.nsIn K mainGlobals "_law_is_contrary" = some (some (.ref f6))) (l6 : K.lookup f6 = some ⟨oc6, od6, .func (PySem.W.fnOf "_law_is_contrary" "_law_is_contrary" (defArgs s__law_is_contrary) (defBody s__law_is_contrary) (defScope s__law_is_contrary) .none kV6 dc6 pm6 an6 cd6 ct6), sl6⟩) (c6 : PySem.W.codeIn K cd6 "_law_is_contrary" = true) (k6 : PySem.W.keepIn K (.ref f6) = true)
    {f7 : Addr} {od7 an7 : Option Addr} {sl7 : Array (Option Value)} {oc7 kV7 dc7 pm7 cd7 ct7 : Value}
    (a7 : PySem.W.nsIn K mainGlobals "_law_take" = some (some (.ref f7))) (l7 : K.lookup f7 = some ⟨oc7, od7, .func (PySem.W.fnOf "_law_take" "_law_take" (defArgs s__law_take) (defBody s__law_take) (defScope s__law_take) .none kV7 dc7 pm7 an7 cd7 ct7), sl7⟩) (c7 : PySem.W.codeIn K cd7 "_law_take" = true) (k7 : PySem.W.keepIn K (.ref f7) = true)
    {f8 : Addr} {od8 an8 : Option Addr} {sl8 : Array (Option Value)} {oc8 kV8 dc8 pm8 cd8 ct8 : Value}
    (a8 : PySem.W.nsIn K mainGlobals "_law_number" = some (some (.ref f8))) (l8 : K.lookup f8 = some ⟨oc8, od8, .func (PySem.W.fnOf "_law_number" "_law_number" (defArgs s__law_number) (defBody s__law_number) (defScope s__law_number) .none kV8 dc8 pm8 an8 cd8 ct8), sl8⟩) (c8 : PySem.W.codeIn K cd8 "_law_number" = true) (k8 : PySem.W.keepIn K (.ref f8) = true)
    {f9 : Addr} {od9 an9 : Option Addr} {sl9 : Array (Option Value)} {oc9 kV9 dc9 pm9 cd9 ct9 : Value}
    (a9 : PySem.W.nsIn K mainGlobals "_law_some" = some (some (.ref f9))) (l9 : K.lookup f9 = some ⟨oc9, od9, .func (PySem.W.fnOf "_law_some" "_law_some" (defArgs s__law_some) (defBody s__law_some) (defScope s__law_some) .none kV9 dc9 pm9 an9 cd9 ct9), sl9⟩) (c9 : PySem.W.codeIn K cd9 "_law_some" = true) (k9 : PySem.W.keepIn K (.ref f9) = true)
    {f10 : Addr} {od10 an10 : Option Addr} {sl10 : Array (Option Value)} {oc10 kV10 dc10 pm10 cd10 ct10 : Value}
    (a10 : PySem.W.nsIn K mainGlobals "_law_literal" = some (some (.ref f10))) (l10 : K.lookup f10 = some ⟨oc10, od10, .func (PySem.W.fnOf "_law_literal" "_law_literal" (defArgs s__law_literal) (defBody s__law_literal) (defScope s__law_literal) .none kV10 dc10 pm10 an10 cd10 ct10), sl10⟩) (c10 : PySem.W.codeIn K cd10 "_law_literal" = true) (k10 : PySem.W.keepIn K (.ref f10) = true)
    {f11 : Addr} {od11 an11 : Option Addr} {sl11 : Array (Option Value)} {oc11 kV11 dc11 pm11 cd11 ct11 : Value}
    (a11 : PySem.W.nsIn K mainGlobals "_law_tap" = some (some (.ref f11))) (l11 : K.lookup f11 = some ⟨oc11, od11, .func (PySem.W.fnOf "_law_tap" "_law_tap" (defArgs s__law_tap) (defBody s__law_tap) (defScope s__law_tap) .none kV11 dc11 pm11 an11 cd11 ct11), sl11⟩) (c11 : PySem.W.codeIn K cd11 "_law_tap" = true) (k11 : PySem.W.keepIn K (.ref f11) = true)
    {f12 : Addr} {od12 an12 : Option Addr} {sl12 : Array (Option Value)} {oc12 kV12 dc12 pm12 cd12 ct12 : Value}
    (a12 : PySem.W.nsIn K mainGlobals "_law_towns" = some (some (.ref f12))) (l12 : K.lookup f12 = some ⟨oc12, od12, .func (PySem.W.fnOf "_law_towns" "_law_towns" (defArgs s__law_towns) (defBody s__law_towns) (defScope s__law_towns) .none kV12 dc12 pm12 an12 cd12 ct12), sl12⟩) (c12 : PySem.W.codeIn K cd12 "_law_towns" = true) (k12 : PySem.W.keepIn K (.ref f12) = true)
    {f13 : Addr} {od13 an13 : Option Addr} {sl13 : Array (Option Value)} {oc13 kV13 dc13 pm13 cd13 ct13 : Value}
    (a13 : PySem.W.nsIn K mainGlobals "law" = some (some (.ref f13))) (l13 : K.lookup f13 = some ⟨oc13, od13, .func (PySem.W.fnOf "law" "law" (defArgs s_law) (defBody s_law) (defScope s_law) .none kV13 dc13 pm13 an13 cd13 ct13), sl13⟩) (c13 : PySem.W.codeIn K cd13 "law" = true) (k13 : PySem.W.keepIn K (.ref f13) = true)
    (z_bool : PySem.W.nsIn K mainGlobals "bool" = some none)
    (z_int : PySem.W.nsIn K mainGlobals "int" = some none)
    (z_isinstance : PySem.W.nsIn K mainGlobals "isinstance" = some none)
    (z_len : PySem.W.nsIn K mainGlobals "len" = some none)
    (z_list : PySem.W.nsIn K mainGlobals "list" = some none)
    (z_max : PySem.W.nsIn K mainGlobals "max" = some none)
    (z_min : PySem.W.nsIn K mainGlobals "min" = some none)
    (z_range : PySem.W.nsIn K mainGlobals "range" = some none)
    (z_set : PySem.W.nsIn K mainGlobals "set" = some none)
    (z_sorted : PySem.W.nsIn K mainGlobals "sorted" = some none)
    (z_str : PySem.W.nsIn K mainGlobals "str" = some none)
    (z_tuple : PySem.W.nsIn K mainGlobals "tuple" = some none) :
    ∃ fd : FuncData, (∀ (s : Shared) (u : Value), BindsTo s fd ⟨[u], []⟩ [("_law_script", u)]) ∧ ∀ base : Heap, K.In base → base.Ns mainGlobals mg → FnV l.prog w K mg base 4 fa fd ["_law_script"] (spV K mg 1 F_law) := by
  have e := hfa.symm.trans (PySem.W.mg_of X G a13)
  cases e
  have F0 := fun_mk (st := s__law_few) l0 c0 k0
  have b0 := F0.binds (ps := ["_law_literals"]) fun _ _ _ _ _ _ us hl => match us, hl with | [_], _ => rfl
  have m0 := PySem.W.mg_of X G a0
  have F1 := fun_mk (st := s__law_holds) l1 c1 k1
  have b1 := F1.binds (ps := ["_law_literal_here", "_law_who"]) fun _ _ _ _ _ _ us hl => match us, hl with | [_, _], _ => rfl
  have m1 := PySem.W.mg_of X G a1
  have F2 := fun_mk (st := s__law_is_number) l2 c2 k2
  have b2 := F2.binds (ps := ["_law_thing", "_law_least"]) fun _ _ _ _ _ _ us hl => match us, hl with | [_, _], _ => rfl
  have m2 := PySem.W.mg_of X G a2
  have F3 := fun_mk (st := s__law_is_word) l3 c3 k3
  have b3 := F3.binds (ps := ["_law_thing"]) fun _ _ _ _ _ _ us hl => match us, hl with | [_], _ => rfl
  have m3 := PySem.W.mg_of X G a3
  have F4 := fun_mk (st := s__law_is_literal) l4 c4 k4
  have b4 := F4.binds (ps := ["_law_thing"]) fun _ _ _ _ _ _ us hl => match us, hl with | [_], _ => rfl
  have m4 := PySem.W.mg_of X G a4
  have F5 := fun_mk (st := s_contrary) l5 c5 k5
  have b5 := F5.binds (ps := ["literal"]) fun _ _ _ _ _ _ us hl => match us, hl with | [_], _ => rfl
  have m5 := PySem.W.mg_of X G a5
  have F6 := fun_mk (st := s__law_is_contrary) l6 c6 k6
  have b6 := F6.binds (ps := ["_law_literal_here"]) fun _ _ _ _ _ _ us hl => match us, hl with | [_], _ => rfl
  have m6 := PySem.W.mg_of X G a6
  have F7 := fun_mk (st := s__law_take) l7 c7 k7
  have b7 := F7.binds (ps := ["_law_tap_here", "_law_many"]) fun _ _ _ _ _ _ us hl => match us, hl with | [_, _], _ => rfl
  have m7 := PySem.W.mg_of X G a7
  have F8 := fun_mk (st := s__law_number) l8 c8 k8
  have b8 := F8.binds (ps := ["_law_tap_here"]) fun _ _ _ _ _ _ us hl => match us, hl with | [_], _ => rfl
  have m8 := PySem.W.mg_of X G a8
  have F9 := fun_mk (st := s__law_some) l9 c9 k9
  have b9 := F9.binds (ps := ["_law_tap_here", "_law_towns_here"]) fun _ _ _ _ _ _ us hl => match us, hl with | [_, _], _ => rfl
  have m9 := PySem.W.mg_of X G a9
  have F10 := fun_mk (st := s__law_literal) l10 c10 k10
  have b10 := F10.binds (ps := ["_law_tap_here", "_law_towns_here"]) fun _ _ _ _ _ _ us hl => match us, hl with | [_, _], _ => rfl
  have m10 := PySem.W.mg_of X G a10
  have F11 := fun_mk (st := s__law_tap) l11 c11 k11
  have b11 := F11.binds (ps := ["_law_script"]) fun _ _ _ _ _ _ us hl => match us, hl with | [_], _ => rfl
  have m11 := PySem.W.mg_of X G a11
  have F12 := fun_mk (st := s__law_towns) l12 c12 k12
  have b12 := F12.binds (ps := ["_law_tap_here"]) fun _ _ _ _ _ _ us hl => match us, hl with | [_], _ => rfl
  have m12 := PySem.W.mg_of X G a12
  have F13 := fun_mk (st := s_law) l13 c13 k13
  have m13 := PySem.W.mg_of X G a13
  have y_bool := PySem.W.mg_none_of X G z_bool
  have y_int := PySem.W.mg_none_of X G z_int
  have y_isinstance := PySem.W.mg_none_of X G z_isinstance
  have y_len := PySem.W.mg_none_of X G z_len
  have y_list := PySem.W.mg_none_of X G z_list
  have y_max := PySem.W.mg_none_of X G z_max
  have y_min := PySem.W.mg_none_of X G z_min
  have y_range := PySem.W.mg_none_of X G z_range
  have y_set := PySem.W.mg_none_of X G z_set
  have y_sorted := PySem.W.mg_none_of X G z_sorted
  have y_str := PySem.W.mg_none_of X G z_str
  have y_tuple := PySem.W.mg_none_of X G z_tuple
  refine ⟨PySem.W.fnOf "law" "law" (defArgs s_law) (defBody s_law) (defScope s_law) .none kV13 dc13 pm13 an13 cd13 ct13, fun s v => .of_eq rfl, fun base _ _ => ?_⟩
  have G0 := ok__law_few (P := l.prog) (w := w) (mg := mg) (base := base) F0 y_set y_sorted
  have G1 := ok__law_holds (P := l.prog) (w := w) (mg := mg) (base := base) F1 y_len
  have G2 := ok__law_is_number (P := l.prog) (w := w) (mg := mg) (base := base) F2 y_bool y_int y_isinstance
  have G3 := ok__law_is_word (P := l.prog) (w := w) (mg := mg) (base := base) F3 y_isinstance y_len y_str
  have G4 := ok__law_is_literal (P := l.prog) (w := w) (mg := mg) (base := base) F4 G2 m2 F2.kp b2 G3 m3 F3.kp b3 y_isinstance y_len y_range y_tuple
  have G5 := ok_contrary (P := l.prog) (w := w) (mg := mg) (base := base) F5 y_len y_tuple
  have G6 := ok__law_is_contrary (P := l.prog) (w := w) (mg := mg) (base := base) F6 G0 m0 F0.kp b0 G1 m1 F1.kp b1 G4 m4 F4.kp b4 G5 m5 F5.kp b5 y_isinstance y_max y_set y_sorted y_tuple
  have G7 := ok__law_take (P := l.prog) (w := w) (mg := mg) (base := base) F7 y_len
  have G8 := ok__law_number (P := l.prog) (w := w) (mg := mg) (base := base) F8 G7 m7 F7.kp b7
  have G9 := ok__law_some (P := l.prog) (w := w) (mg := mg) (base := base) F9 G7 m7 F7.kp b7 y_sorted y_tuple
  have G10 := ok__law_literal (P := l.prog) (w := w) (mg := mg) (base := base) F10 G8 m8 F8.kp b8 G9 m9 F9.kp b9 G7 m7 F7.kp b7 y_min
  have G11 := ok__law_tap (P := l.prog) (w := w) (mg := mg) (base := base) F11 y_list
  have G12 := ok__law_towns (P := l.prog) (w := w) (mg := mg) (base := base) F12 G7 m7 F7.kp b7 y_len y_range
  exact ok_law F13 G6 m6 F6.kp b6 G10 m10 F10.kp b10 G11 m11 F11.kp b11 G12 m12 F12.kp b12 y_range

local macro_rules | `(tactic| trivial) => `(tactic| ((repeat (first | refine And.intro rfl ?_ | refine stp rfl ?_ | refine ste rfl ?_ | refine cpowB rfl ?_ | refine neB rfl ?_ | refine divB rfl ?_ | with_reducible refine useO ?_ | with_reducible refine keyS ?_ | refine And.intro (plain1 True.intro) ?_ | refine And.intro (plain2 True.intro True.intro) ?_ | refine And.intro (by omega) ?_ | refine mulA (by omega) ?_ | refine divA (by omega) ?_ | refine rangeA (by omega) ?_ | refine powA (by omega) ?_ | refine fun (_ : Addr) => ?_)); (try show Nx _ _ _ _)))
local macro_rules | `(tactic| simp_wf) => `(tactic| (try dsimp only [Vx.start, Vx.restore, Vx.void, List.set, Vx.envPut, Vx.slotO, O.toD, O.toDs, O.put, List.map, List.length, List.reduceReplicate, Nat.reduceAdd, Nat.reduceSub, List.getElem?_cons_zero, List.getElem?_cons_succ, List.append, List.cons_append, List.nil_append]))
local macro_rules | `(tactic| clean_wf) => `(tactic| (try ((first | with_reducible refine nx_asg ?_ | with_reducible refine nx_set ?_ | with_reducible refine nx_par ?_ | with_reducible refine nx_if ?_ | with_reducible refine nx_expr ?_ | with_reducible refine nx_ret ?_ | with_reducible refine nx_for ?_ | with_reducible refine nx_pass ?_ | with_reducible refine nx_nil ?_ | with_reducible refine nx_retN ?_ | with_reducible refine nx_brk ?_ | with_reducible refine nx_cnt ?_); trivial; simp_wf; (try (refine rt_go (by assumption) ?_; trivial; simp_wf)))))
local macro_rules | `(tactic| decreasing_trivial) => `(tactic| first | assumption | omega | (simp only [Bool.not_eq_false', Bool.not_eq_true', Bool.or_eq_false_iff, Bool.or_eq_true, Bool.and_eq_true, Bool.and_eq_false_imp, decide_eq_false_iff_not, decide_eq_true_eq, Bool.not_not, Decidable.not_not] at *; first | done | assumption | omega | (simp_all; done) | (simp_all; omega)))
local macro_rules | `(tactic| decreasing_trivial_pre_omega) => `(tactic| assumption)
local macro_rules | `(tactic| get_elem_tactic_trivial) => `(tactic| first
  | (intro _; get_elem_tactic_trivial)
  | with_reducible exact e_k
  | ((with_reducible apply e_var); (focus rfl))
  | with_reducible exact a_no
  | with_reducible exact us_no
  | with_reducible exact ov_no
  | ((with_reducible apply a_co) <;> get_elem_tactic_trivial)
  | ((with_reducible apply us_co) <;> get_elem_tactic_trivial)
  | ((with_reducible apply ov_so) <;> get_elem_tactic_trivial)
  | ((with_reducible apply e_not) <;> get_elem_tactic_trivial)
  | ((with_reducible apply e_and) <;> get_elem_tactic_trivial)
  | ((with_reducible apply e_or) <;> get_elem_tactic_trivial)
  | ((with_reducible apply e_ife) <;> get_elem_tactic_trivial)
  | ((with_reducible apply e_isi) <;> get_elem_tactic_trivial)
  | ((with_reducible apply e_isis) <;> get_elem_tactic_trivial)
  | ((with_reducible apply e_cmp) <;> get_elem_tactic_trivial)
  | ((with_reducible apply e_chain) <;> get_elem_tactic_trivial)
  | ((with_reducible apply e_bin) <;> get_elem_tactic_trivial)
  | ((with_reducible apply e_ix); (focus (get_elem_tactic_trivial)); (focus (get_elem_tactic_trivial)); (focus (decreasing_trivial)); (focus (decreasing_trivial)))
  | ((with_reducible apply e_len); (focus (get_elem_tactic_trivial)); (focus (decreasing_trivial)))
  | ((with_reducible apply e_lenX); (focus (get_elem_tactic_trivial)); (focus (decreasing_trivial)); (focus (decreasing_trivial)))
  | ((with_reducible apply e_lenL); (focus (get_elem_tactic_trivial)))
  | ((with_reducible apply e_all); (focus (get_elem_tactic_trivial)))
  | ((with_reducible apply e_call); (focus (get_elem_tactic_trivial)); (focus (decreasing_trivial_pre_omega)); (focus rfl))
  | ((with_reducible apply e_tup); (focus (get_elem_tactic_trivial)); (focus (first | exact Nat.le_of_ble_eq_true rfl | decide)))
  | ((with_reducible apply e_lst); (focus (get_elem_tactic_trivial)); (focus (first | exact Nat.le_of_ble_eq_true rfl | decide)))
  | ((with_reducible apply e_comp); (focus (get_elem_tactic_trivial)); (focus ((exact True.intro))); (focus (first | exact Nat.le_of_ble_eq_true rfl | decide)); (focus (decreasing_trivial)); (focus (get_elem_tactic_trivial)))
  | ((with_reducible apply e_compF); (focus (get_elem_tactic_trivial)); (focus ((exact True.intro))); (focus (first | exact Nat.le_of_ble_eq_true rfl | decide)); (focus (decreasing_trivial)); (focus (get_elem_tactic_trivial)); (focus (get_elem_tactic_trivial)))
  | ((with_reducible apply sv_t); (focus (get_elem_tactic_trivial)); (focus (decreasing_trivial)))
  | ((with_reducible apply sv_x); (focus (get_elem_tactic_trivial)); (focus (decreasing_trivial)))
  | ((with_reducible apply sv_r1); (focus (get_elem_tactic_trivial)); (focus (decreasing_trivial)))
  | ((with_reducible apply sv_r2); (focus (get_elem_tactic_trivial)); (focus (get_elem_tactic_trivial)); (focus (decreasing_trivial)); (focus (decreasing_trivial)))
  | ((with_reducible apply Ev.u); (focus (get_elem_tactic_trivial)))
  | ((with_reducible apply EvL.u); (focus (get_elem_tactic_trivial)))
  | with_reducible exact c_lt
  | with_reducible exact c_le
  | with_reducible exact c_gt
  | with_reducible exact c_ge
  | with_reducible exact c_eqI
  | with_reducible exact c_neI
  | with_reducible exact c_eqS
  | with_reducible exact c_neS
  | with_reducible exact c_isN
  | with_reducible exact c_notN
  | with_reducible exact b_addI
  | with_reducible exact b_subI
  | ((with_reducible apply cx_eqS); (focus (decreasing_trivial)))
  | ((with_reducible apply cx_neS); (focus (decreasing_trivial)))
  | ((with_reducible apply cx_lt) <;> decreasing_trivial)
  | ((with_reducible apply cx_le) <;> decreasing_trivial)
  | ((with_reducible apply cx_gt) <;> decreasing_trivial)
  | ((with_reducible apply cx_ge) <;> decreasing_trivial)
  | ((with_reducible apply c_eqNil); (focus (decreasing_trivial)))
  | ((with_reducible apply r_ret); (focus (get_elem_tactic_trivial)))
  | ((with_reducible apply r_if) <;> get_elem_tactic_trivial)
  | ((with_reducible apply r_asg); (focus (get_elem_tactic_trivial)); (focus (first | exact Nat.le_of_ble_eq_true rfl | decide)); (focus (get_elem_tactic_trivial)))
  | ((with_reducible apply r_for); (focus (get_elem_tactic_trivial)); (focus (first | exact Nat.le_of_ble_eq_true rfl | decide)); (focus (get_elem_tactic_trivial)); (focus (get_elem_tactic_trivial)))
  | ((with_reducible apply br_if) <;> get_elem_tactic_trivial)
  | with_reducible exact br_nil)

/-! ### what the looks say -/
def isA (c : Nat) : Bool := !(Builtin.Str.occurrences (("abcdefghijklmnopqrstuvwxyz" : Str)) ⟨#[c]⟩ 0 (Str.length "abcdefghijklmnopqrstuvwxyz") 1).isEmpty
def isWord : D → Bool
  | .str x => decide (1 ≤ x.length) && (decide (x.length ≤ 8) && x.cps.toList.all isA)
  | _ => false
def isNum : D → Bool
  | .int _ => true
  | _ => false
def isFrom : D → Int → Bool
  | .int i, l => decide (l ≤ i)
  | _, _ => false

section
def tapK : List Key := [.inr "cells", .inr "spot", .inr "rest", .inr "calls"]
abbrev tapO (a : Addr) (cells : List Int) (p q n : Int) : O := .dct a tapK [.d (.list (cells.map PyData.int)), .d (.int p), .d (.int q), .d (.int n)]
theorem kx0 : keyIx tapK (.inr "cells") = some 0 := by decide +kernel
theorem kx1 : keyIx tapK (.inr "spot") = some 1 := by decide +kernel
theorem kx2 : keyIx tapK (.inr "rest") = some 2 := by decide +kernel
theorem kx3 : keyIx tapK (.inr "calls") = some 3 := by decide +kernel
local macro_rules | `(tactic| trivial) => `(tactic| ((repeat (first | refine And.intro rfl ?_ | refine stp rfl ?_ | refine ste rfl ?_ | refine cpowB rfl ?_ | refine neB rfl ?_ | refine divB rfl ?_ | with_reducible refine useO ?_ | with_reducible refine keyS ?_ | with_reducible refine onSome_mk kx0 ?_ | with_reducible refine onSome_mk kx1 ?_ | with_reducible refine onSome_mk kx2 ?_ | with_reducible refine onSome_mk kx3 ?_ | refine And.intro (plain1 True.intro) ?_ | refine And.intro (plain2 True.intro True.intro) ?_ | refine And.intro (by omega) ?_ | refine mulA (by omega) ?_ | refine divA (by omega) ?_ | refine rangeA (by omega) ?_ | refine powA (by omega) ?_ | refine fun (_ : Addr) => ?_)); (try show Nx _ _ _ _)))
local macro_rules | `(tactic| simp_wf) => `(tactic| ((try dsimp only [Vx.start, Vx.restore, Vx.void, List.set, Vx.envPut, Vx.slotO, O.toD, O.toDs, O.put, List.map, List.length, List.reduceReplicate, Nat.reduceAdd, Nat.reduceSub, List.getElem?_cons_zero, List.getElem?_cons_succ, List.append, List.cons_append, List.nil_append]); (try simp only [kx0, kx1, kx2, kx3, List.set])))
theorem take_ok {a : Addr} {cells : List Int} {p q n many : Int} {P : O → List O → Prop} {PX : Exn → List O → Prop} (hp : 0 ≤ p) (hq : 0 ≤ q) (hn : 0 ≤ n) (hn2 : n < 100000) (hm : 0 < many) (hm2 : many < 1073741824)
    (h : ∀ v p' q' : Int, 0 ≤ v → v < many → 0 ≤ p' → 0 ≤ q' → P (.d (.int v)) [tapO a cells p' q' (n + 1), .d (.int many)]) : F__law_take [tapO a cells p q n, .d (.int many)] P PX := by
  unfold F__law_take
  refine sem_go fun k X hk => ?_
  have q0 : 0 ≤ q.fdiv many := fdiv_nn hm hq
  have md : ∀ x : Int, 0 ≤ x.fmod many ∧ x.fmod many < many := fun x => fmod_bd hm
  clean_wf
  clean_wf
  clean_wf
  refine ifB (fun g => ?_) (fun g => ?_)
  · clean_wf
    clean_wf
    clean_wf
    exact h _ p _ (md _).1 (md _).2 hp q0
  · clean_wf
    clean_wf
    clean_wf
    clean_wf
    have fin : ∀ c : Int, Nx w__law_take_10 X [some (tapO a cells (p + 1) q (n + 1)), some (O.d (PyData.int many)), some (O.d (PyData.int (n + 1))), none, some (O.d (PyData.int p)), some (O.d (PyData.list (List.map PyData.int cells))), some (.d (.int c)), none] k := by
      intro c
      have q1 : 0 ≤ c → 0 ≤ c.fdiv many := fun h => fdiv_nn hm h
      clean_wf
      have tail : Nx w__law_take_13 X [some (tapO a cells (p + 1) q (n + 1)), some (O.d (PyData.int many)), some (O.d (PyData.int (n + 1))), none, some (O.d (PyData.int p)), some (O.d (PyData.list (List.map PyData.int cells))), some (.d (.int c)), none] k := by
        have e1 := fmod_bd (a := c) (b := 2147483629) (by decide)
        clean_wf
        generalize hz : ((c.fmod 2147483629 + 6007 * (n + 1) + 11) ^ (5 : Int).toNat).fmod 2147483647 = z
        have e2 : 0 ≤ z ∧ z < 2147483647 := by rw [← hz]; exact fmod_bd (by decide)
        have e5 : 0 ≤ 4099 * (n + 1) * (n + 1) := Int.mul_nonneg (by omega) (by omega)
        have e6 : 4099 * (n + 1) * (n + 1) ≤ 4099 * 100000 * 100000 := Int.mul_le_mul (by omega) (by omega) (by omega) (by decide)
        clean_wf
        exact h _ (p + 1) _ (md _).1 (md _).2 (by omega) hq
      refine ifB (fun g2 => ?_) (fun g2 => ?_)
      · trivial
        refine ifB (fun g3 => ?_) (fun g3 => ?_)
        · have g4 : (10 : Int) ^ (18 : Int).toNat ≤ c := of_decide_eq_true g3
          have g5 : (0 : Int) ≤ (10 : Int) ^ (18 : Int).toNat := by decide
          clean_wf
          clean_wf
          exact h _ (p + 1) _ (md _).1 (md _).2 (by omega) (q1 (by omega))
        · clean_wf
          exact tail
      · trivial
        clean_wf
        exact tail
    clean_wf
    refine ifB (fun g1 => ?_) (fun g1 => ?_)
    · have g2 : (0 : Int) < ((cells.map PyData.int).length : Int) := of_decide_eq_true g1
      obtain ⟨c, hc⟩ := atI_mod (cells := cells) (p := p) (by rw [List.length_map] at g2; omega)
      trivial
      refine onSome_mk hc ?_
      refine stp rfl ?_
      exact fin c
    · trivial
      exact fin 5

end

/-- the tap's things: so many calls at most -/
def Tap (xs : List O) (n : Nat) : Prop := ∃ (cells : List Int) (p q c : Int), xs = [.d (.list (cells.map PyData.int)), .d (.int p), .d (.int q), .d (.int c)] ∧ 0 ≤ p ∧ 0 ≤ q ∧ 0 ≤ c ∧ c ≤ n
abbrev tp (a : Addr) (xs : List O) : O := .dct a tapK xs
theorem Tap.mono {xs : List O} {n m : Nat} (h : Tap xs n) (hm : n ≤ m) : Tap xs m := by
  obtain ⟨cells, p, q, c, e, h1, h2, h3, h4⟩ := h
  exact ⟨cells, p, q, c, e, h1, h2, h3, by omega⟩
theorem tk {a : Addr} {xs : List O} {n : Nat} {many : Int} {P : O → List O → Prop} {PX : Exn → List O → Prop} (ht : Tap xs n) (hm : 0 < many) (hn : n < 90000) (hm2 : many < 1073741824)
    (h : ∀ v xs', 0 ≤ v → v < many → Tap xs' (n + 1) → P (.d (.int v)) [tp a xs', .d (.int many)]) : F__law_take [tp a xs, .d (.int many)] P PX := by
  obtain ⟨cells, p, q, c, rfl, h1, h2, h3, h4⟩ := ht
  exact take_ok h1 h2 h3 (by omega) hm hm2 fun v p' q' h5 h6 h7 h8 => h v _ h5 h6 ⟨cells, p', q', c + 1, rfl, h7, h8, by omega, by omega⟩
theorem number_ok {a : Addr} {xs : List O} {n : Nat} {P : O → List O → Prop} {PX : Exn → List O → Prop} (ht : Tap xs n) (hn : n < 80000)
    (h : ∀ v xs', 0 ≤ v → v < 200 → Tap xs' (n + 2) → P (.d (.int v)) [tp a xs']) : F__law_number [tp a xs] P PX := by
  unfold F__law_number
  refine sem_go fun k X hk => ?_
  clean_wf
  refine tk ht (by omega) (by omega) (by omega) fun v xs1 h1 h2 ht1 => ?_
  trivial
  refine ifB (fun g => ?_) (fun g => ?_)
  · trivial
    refine tk ht1 (by omega) (by omega) (by omega) fun v xs2 h1 h2 ht2 => ?_
    trivial
    refine rt_go hk ?_
    trivial
    exact h _ _ h1 h2 ht2
  · trivial
    refine tk ht1 (by omega) (by omega) (by omega) fun v xs2 h1 h2 ht2 => ?_
    trivial
    refine rt_go hk ?_
    trivial
    exact h _ _ h1 (by omega) ht2

abbrev towO (b : Addr) (ys : List Str) : O := .lst b (ys.map fun y => O.d (.str y))
/-- towns: unlike words -/
structure TownS (ys : List Str) : Prop where
  len : ys.length = 6
  nd : ys.Nodup
  pl : ∀ y ∈ ys, plainS y ∧ y.length ≤ 8
  wd : ∀ y ∈ ys, isWord (.str y) = true
theorem TownS.mo {ys zs : List Str} (h : TownS ys) (hz : ∀ z ∈ zs, z ∈ ys) (hl : zs.length ≤ 6) : MoA 0 60 (zs.map PyData.str) :=
  (MoA.of (w := 8) fun d hd => by
    obtain ⟨z, h1, rfl⟩ := List.mem_map.mp hd
    exact Mo.str (h.pl z (hz z h1)).1 (h.pl z (hz z h1)).2).mono (Nat.le_refl _) (by rw [List.length_map]; omega)
theorem some_ok {a b : Addr} {xs : List O} {n : Nat} {ys : List Str} {P : O → List O → Prop} {PX : Exn → List O → Prop} (ht : Tap xs n) (hn : n < 80000) (hy : TownS ys)
    (h : ∀ zs xs', zs ≠ [] → zs.Nodup → (∀ z ∈ zs, z ∈ ys) → zs.length ≤ 4 → PyProof.Rows.sortedS zs = true → Tap xs' (n + 7) → P (.d (.tuple (zs.map PyData.str))) [tp a xs', towO b ys]) : F__law_some [tp a xs, towO b ys] P PX := by
  unfold F__law_some
  refine sem_go fun k X hk => ?_
  have hl := hy.len
  clean_wf
  refine onSome_mk (datas_strs ys) ?_
  refine And.intro (plain1 True.intro) fun aD => ?_
  have fin : ∀ (xs' : List O) (c : Addr) (sub : List Str) (v : Option O), Tap xs' (n + 7) → sub ≠ [] → sub.Nodup → (∀ z ∈ sub, z ∈ ys) → sub.length ≤ 6 → Nx w__law_some_3 X [some (tp a xs'), some (towO b ys), some (towO c sub), v] k := by
    intro xs' c sub v ht' h1 h2 h3 h4
    clean_wf
    refine onSome_mk (datas_strs sub) ?_
    show ∀ a1 : Addr, _
    rw [cut_to (by decide), ← List.map_take]
    intro a1
    trivial
    refine onSome_mk (x := sub.take 4) ?_ ?_
    · show strsOf (O.toDs (((sub.take 4).map PyData.str).map O.d)) = _
      rw [O.toDs_map, strsOf_map]
    have h5 : (sub.take 4).length ≤ 4 := by rw [List.length_take]; omega
    refine And.intro (by omega) fun zs hz hso => ?_
    trivial
    refine rt_go hk ?_
    trivial
    have hlz := hz.length_eq
    rw [show (zs.map fun y => O.d (PyData.str y)) = (zs.map PyData.str).map O.d by rw [List.map_map]; rfl, O.toDs_map]
    refine h zs _ (fun e => ?_) (hz.nodup_iff.mpr (h2.sublist (List.take_sublist _ _))) (fun z hm => h3 z (List.mem_of_mem_take (hz.mem_iff.mp hm))) (by omega) hso ht'
    rw [e] at hlz
    cases sub with
    | nil => exact h1 rfl
    | cons x l => simp at hlz
  refine goComp_run (s := ⟨ys.map PyData.str, some (b, 1, [])⟩) (fun i env acc => ∃ xs' sub, env = [some (tp a xs'), some (towO b ys), none, none] ∧ Tap xs' (n + i) ∧ acc = sub.map (fun y => O.d (.str y)) ∧ sub.Sublist (ys.take i) ∧ i ≤ 6) ?_ ?_ ⟨xs, [], rfl, ht, rfl, List.Sublist.refl _, by omega⟩ ?_
  · rintro i env acc ⟨xs', sub, rfl, _⟩
    exact still_strs rfl
  · rintro i x env acc K hx ⟨xs', sub, rfl, ht', rfl, hs, hi⟩ hK
    obtain ⟨y, hy, rfl⟩ := strs_get hx
    have hi6 : i < 6 := by have := (List.getElem?_eq_some_iff.mp hy).1; omega
    have hsl : sub.length ≤ i := by have := hs.length_le; rw [List.length_take] at this; omega
    refine stepC_c rfl ?_
    trivial
    refine tk ht' (by omega) (by omega) (by omega) fun v xs2 h1 h2 ht2 => ?_
    trivial
    refine ifB (fun g => ?_) (fun g => ?_)
    · trivial
      refine smallB (by rw [List.length_map]; omega) (hK _ _ ⟨xs2, sub ++ [y], rfl, ht2, ?_, sub_snoc hs hy, by omega⟩)
      rw [List.map_append]; rfl
    · exact hK _ _ ⟨xs2, sub, rfl, ht2, rfl, sub_step hs, by omega⟩
  · rintro env acc ⟨xs', sub, rfl, ht', rfl, hs, hi⟩
    intro _
    have ht' : Tap xs' (n + 6) := ht'.mono (by show n + (ys.map PyData.str).length ≤ _; rw [List.length_map]; omega)
    have hs : sub.Sublist ys := hs.trans (List.take_sublist _ _)
    have hsl : sub.length ≤ 6 := by have := hs.length_le; omega
    trivial
    simp_wf
    clean_wf
    refine onSome_mk (datas_strs sub) ?_
    refine And.intro (eqOk_of ((Mo.lst (hy.mo (fun z hz => hs.subset hz) hsl)).plain (by omega)) rfl) ?_
    refine ifB (fun g => ?_) (fun g => ?_)
    · clean_wf
      refine tk ht' (by omega) (by omega) (by omega) fun v xs2 h1 h2 ht2 => ?_
      trivial
      refine onSome_mk (ix_draw h1 (by omega)) ?_
      obtain ⟨y, hy1, hy2⟩ := get_draw (f := fun y => O.d (PyData.str y)) (ys := ys) h1 (by omega)
      refine onSome_mk hy2 ?_
      trivial
      clean_wf
      exact fin xs2 _ [y] _ ht2 (by simp) (by simp) (fun z hz => by rw [List.mem_singleton.mp hz]; exact List.mem_of_getElem? hy1) (by simp)
    · clean_wf
      refine fin xs' aD sub _ (ht'.mono (by omega)) (fun e => ?_) (hy.nd.sublist hs) (fun z hz => hs.subset hz) hsl
      subst e
      cases g

inductive Lit where
  | town (out : Bool) (zs : List Str)
  | kin (far : Bool) (m : Int)
  | age (f : Int) (e : Option Int)
def Lit.d : Lit → D
  | .town false zs => .tuple [.str "town", .tuple (zs.map PyData.str)]
  | .town true zs => .tuple [.str "out", .tuple (zs.map PyData.str)]
  | .kin false m => .tuple [.str "kin", .int m]
  | .kin true m => .tuple [.str "far", .int m]
  | .age f none => .tuple [.str "age", .int f, .none]
  | .age f (some e) => .tuple [.str "age", .int f, .int e]
def Lit.ok (ys : List Str) : Lit → Prop
  | .town _ zs => zs ≠ [] ∧ zs.Nodup ∧ (∀ z ∈ zs, z ∈ ys) ∧ zs.length ≤ 4 ∧ PyProof.Rows.sortedS zs = true
  | .kin _ m => 0 ≤ m ∧ m < 200
  | .age f e => 0 ≤ f ∧ f < 200 ∧ ∀ x, e = some x → f < x ∧ x ≤ 200
theorem literal_ok {a b : Addr} {xs : List O} {n : Nat} {ys : List Str} {P : O → List O → Prop} {PX : Exn → List O → Prop} (ht : Tap xs n) (hn : n < 70000) (hy : TownS ys)
    (h : ∀ (l : Lit) xs', l.ok ys → Tap xs' (n + 20) → P (.d l.d) [tp a xs', towO b ys]) : F__law_literal [tp a xs, towO b ys] P PX := by
  unfold F__law_literal
  refine sem_go fun k X hk => ?_
  clean_wf
  refine tk ht (by omega) (by omega) (by omega) fun v xs1 h1 h2 ht1 => ?_
  trivial
  simp_wf
  clean_wf
  refine ifB (fun g => ?_) (fun g => ?_)
  · have g := of_decide_eq_true g
    have : v = 0 ∨ v = 1 := by omega
    rcases this with rfl | rfl
    · clean_wf
      refine some_ok ht1 (by omega) hy fun zs xs2 z1 z2 z3 z4 z5 ht2 => ?_
      trivial
      refine rt_go hk ?_
      trivial
      exact h (.town false zs) _ ⟨z1, z2, z3, z4, z5⟩ (ht2.mono (by omega))
    · clean_wf
      refine some_ok ht1 (by omega) hy fun zs xs2 z1 z2 z3 z4 z5 ht2 => ?_
      trivial
      refine rt_go hk ?_
      trivial
      exact h (.town true zs) _ ⟨z1, z2, z3, z4, z5⟩ (ht2.mono (by omega))
  · have g := of_decide_eq_false g
    clean_wf
    clean_wf
    refine ifB (fun g2 => ?_) (fun g2 => ?_)
    · have g2 := of_decide_eq_true g2
      have : v = 2 ∨ v = 3 := by omega
      rcases this with rfl | rfl
      · clean_wf
        refine number_ok ht1 (by omega) fun m xs2 m1 m2 ht2 => ?_
        trivial
        refine rt_go hk ?_
        trivial
        exact h (.kin false m) _ ⟨m1, m2⟩ (ht2.mono (by omega))
      · clean_wf
        refine number_ok ht1 (by omega) fun m xs2 m1 m2 ht2 => ?_
        trivial
        refine rt_go hk ?_
        trivial
        exact h (.kin true m) _ ⟨m1, m2⟩ (ht2.mono (by omega))
    · clean_wf
      have fin : ∀ (f : Int) (xs' : List O), 0 ≤ f → f < 200 → Tap xs' (n + 10) → Nx w__law_literal_6 X [some (tp a xs'), some (towO b ys), some (.d (.int v)), some (.d (.int f))] k := by
        intro f xs' f0 f1 ht'
        clean_wf
        refine tk ht' (by omega) (by omega) (by omega) fun u xs2 u1 u2 ht2 => ?_
        trivial
        refine ifB (fun g3 => ?_) (fun g3 => ?_)
        · clean_wf
          exact h (.age f none) _ ⟨f0, by omega, nofun⟩ (ht2.mono (by omega))
        · clean_wf
          clean_wf
          refine number_ok ht2 (by omega) fun m xs3 m1 m2 ht3 => ?_
          trivial
          refine rt_go hk ?_
          trivial
          refine h (.age f (some _)) _ ⟨f0, by omega, fun x e => ?_⟩ (ht3.mono (by omega))
          cases e
          split <;> omega
      clean_wf
      refine number_ok ht1 (by omega) fun m xs2 m1 m2 ht2 => ?_
      trivial
      refine tk ht2 (by omega) (by omega) (by omega) fun u xs3 u1 u2 ht3 => ?_
      trivial
      refine tk ht3 (by omega) (by omega) (by omega) fun w xs4 w1 w2 ht4 => ?_
      have : w = 0 ∨ w = 1 ∨ w = 2 := by omega
      rcases this with rfl | rfl | rfl
      · trivial
        exact fin _ _ (by omega) (by omega) (ht4.mono (by omega))
      · trivial
        exact fin _ _ (by omega) (by omega) (ht4.mono (by omega))
      · trivial
        exact fin _ _ (by omega) (by omega) (ht4.mono (by omega))

def poolW : List Str := ["a", "ab", "abc", "b", "town", "out", "age", "kin", "by", "abcdefgh", "abcdefgi", "zzzzzzzz"]
def lettersW : Str := "abcdefghijklmnopqrstuvwxyz"
def shC (s c : Nat) : Nat := 97 + (c - 97 + s) % 26
def shW (s : Nat) (x : Str) : Str := PySem.Txt.join (Str.ofString "") (x.cps.toList.map fun c => (⟨#[shC s c]⟩ : Str))
theorem ixL : ∀ c, 97 ≤ c → c < 123 → (Builtin.Str.occurrences lettersW ⟨#[c]⟩ 0 lettersW.length 1).head? = some (c - 97) := by
  have h : ∀ i, i < 26 → (Builtin.Str.occurrences lettersW ⟨#[97 + i]⟩ 0 lettersW.length 1).head? = some i := by decide +kernel
  intro c h1 h2
  have := h (c - 97) (by omega)
  rwa [show 97 + (c - 97) = c by omega] at this
theorem atL : ∀ i : Nat, i < 26 → atI lettersW.cps.toList (i : Int) = some (97 + i) := by decide +kernel
theorem pool_abc : ∀ x ∈ poolW, ∀ c ∈ x.cps.toList, 97 ≤ c ∧ c < 123 := by decide +kernel
theorem pool_len : ∀ x ∈ poolW, x.length ≤ 8 := by decide +kernel
theorem pool_sh : ∀ s, s < 26 → (poolW.map (shW s)).Nodup ∧ ∀ x ∈ poolW, (shW s x).length ≤ 8 ∧ ∀ c ∈ (shW s x).cps.toList, c < 128 := by decide +kernel
theorem pool_wd : ∀ s, s < 26 → ∀ x ∈ poolW, isWord (.str (shW s x)) = true := by decide +kernel
theorem mem_sh {x : Str} {s : Nat} (hs : s < 26) (hx : x ∈ poolW) : plainS (shW s x) ∧ (shW s x).length ≤ 8 := ⟨((pool_sh s hs).2 x hx).2, ((pool_sh s hs).2 x hx).1⟩
theorem letters_of (x : Str) : Vx.letters x = x.cps.toList.map fun c => PyData.str ⟨#[c]⟩ := rfl
theorem towns_ok {a : Addr} {xs : List O} {n : Nat} {P : O → List O → Prop} {PX : Exn → List O → Prop} (ht : Tap xs n) (hn : n < 60000)
    (h : ∀ (b : Addr) (ys : List Str) xs', TownS ys → Tap xs' (n + 10) → P (towO b ys) [tp a xs']) : F__law_towns [tp a xs] P PX := by
  unfold F__law_towns
  refine sem_go fun k X hk => ?_
  have fin : ∀ (s : Nat) (xs1 : List O), s < 26 → Tap xs1 (n + 2) → Nx w__law_towns_1 X [some (tp a xs1), some (.d (.int s)), none, none, none, none, none, none] k := by
    intro s xs1 hs ht1
    clean_wf
    clean_wf
    clean_wf
    rename_i b c
    clean_wf
    refine loop_run (s := ⟨Vx.upTo 0 (6 : Int).toNat, none⟩) (fun i env => ∃ (xs' : List O) (fs ps : List Str) (y5 y6 : Option O), env = [some (tp a xs'), some (.d (.int s)), some (.d (.str lettersW)), some (towO b ps), some (towO c (fs.map (shW s))), y5, y6, none] ∧ Tap xs' (n + 2 + i) ∧ (fs ++ ps).Perm poolW ∧ fs.length = i ∧ i ≤ 6)
      (fun _ _ _ => True.intro) ?_ ⟨xs1, [], poolW, none, none, rfl, ht1, List.Perm.refl _, rfl, by omega⟩ ?_
    · rintro i x env K hx ⟨xs', fs, ps, y5, y6, rfl, ht', hp, hf, hi⟩ hK
      obtain ⟨hi2, rfl⟩ := upTo_at hx
      have hi2 : i < 6 := hi2
      have hpl : ps.length = 12 - i := by
        have := hp.length_eq
        rw [List.length_append, hf] at this
        have e : poolW.length = 12 := rfl
        omega
      trivial
      simp_wf
      clean_wf
      refine onSome_mk (datas_strs ps) ?_
      trivial
      refine tk ht' (by rw [List.length_map]; omega) (by omega) (by rw [List.length_map]; omega) fun v xs2 h1 h2 ht2 => ?_
      rw [List.length_map] at h2
      trivial
      refine onSome_mk (ix_draw h1 h2) ?_
      obtain ⟨y, hy1, hy2⟩ := get_draw (f := fun y => O.d (PyData.str y)) (ys := ps) h1 h2
      refine onSome_mk hy2 ?_
      trivial
      simp_wf
      have hyP : y ∈ poolW := hp.mem_iff.mp (List.mem_append_right _ (List.mem_of_getElem? hy1))
      have hab := pool_abc y hyP
      clean_wf
      refine goComp_of (ls := y.cps.toList) (f := fun c => PyData.str ⟨#[c]⟩) (at? := none) (fun c => .d (.str ⟨#[shC s c]⟩)) (by have := pool_len y hyP; rw [Array.length_toList]; exact Nat.le_trans this (by decide)) True.intro (fun c hc acc K h1 h2 => ?_) ?_
      · obtain ⟨c1, c2⟩ := hab c hc
        refine stepC_v rfl ?_
        trivial
        refine onSome_mk (ixL c c1 c2) ?_
        trivial
        have e1 : ((((c - 97 : Nat) : Int) + (s : Int)).fmod 26) = (((c - 97 + s) % 26 : Nat) : Int) := by
          rw [Int.fmod_eq_emod_of_nonneg _ (by decide)]; omega
        rw [e1]
        refine onSome_mk (atL _ (Nat.mod_lt _ (by decide))) ?_
        trivial
        exact h2
      · intro _
        trivial
        refine onSome_mk (x := y.cps.toList.map fun c => (⟨#[shC s c]⟩ : Str)) (by
          show strsOf (O.toDs (y.cps.toList.map fun c => O.d (PyData.str ⟨#[shC s c]⟩))) = _
          rw [toDs_of fun c => PyData.str ⟨#[shC s c]⟩, ← strsOf_map, List.map_map]; rfl) ?_
        have hy8 : y.cps.toList.length ≤ 8 := by have := pool_len y hyP; rw [Array.length_toList]; exact this
        refine And.intro (by
          have e1 : ((y.cps.toList.map fun c => (⟨#[shC s c]⟩ : Str)).map (·.length)).sum = y.cps.toList.length := by
            generalize y.cps.toList = l
            induction l with
            | nil => rfl
            | cons c l ih => rw [List.map_cons, List.map_cons, List.sum_cons, ih, List.length_cons]; show 1 + _ = _; omega
          rw [e1, List.length_map]
          have : Str.length (Str.ofString "") = 0 := by decide +kernel
          rw [this]; omega) ?_
        trivial
        refine smallB (by rw [List.length_map, List.length_map]; omega) ?_
        show Nx _ _ _ _
        simp_wf
        clean_wf
        refine hK _ ⟨xs2, fs ++ [y], ps.eraseIdx v.toNat, some (.d (.int (0 + (i : Int)))), some (.d (.str y)), ?_, ht2, ?_, by rw [List.length_append, hf]; rfl, by omega⟩
        · have e2 : (ps.map fun y => O.d (PyData.str y)).eraseIdx v.toNat = (ps.eraseIdx v.toNat).map fun y => O.d (PyData.str y) := map_erase _ _ _
          have e3 : ((fs ++ [y]).map (shW s)).map (fun y => O.d (PyData.str y)) = ((fs.map (shW s)).map fun y => O.d (PyData.str y)) ++ [O.d (PyData.str (shW s y))] := by
            rw [List.map_append, List.map_append]; rfl
          rw [towO, towO, e3, e2]
          rfl
        · refine List.Perm.trans ?_ hp
          rw [List.append_assoc]
          exact List.Perm.append_left _ (erase_perm hy1)
    · rintro env ⟨xs', fs, ps, y5, y6, rfl, ht', hp, hf, hi⟩
      have hf6 : fs.length = 6 := hf.trans upTo_len
      have hnd : ((fs ++ ps).map (shW s)).Nodup := (hp.map (shW s)).nodup_iff.mpr (pool_sh s hs).1
      have ht6 : Tap xs' (n + 10) := ht'.mono (by
        have : (Src.mk (Vx.upTo 0 (6 : Int).toNat) none).xs.length = 6 := upTo_len
        rw [this]; omega)
      clean_wf
      refine h c (fs.map (shW s)) _ ⟨by rw [List.length_map]; exact hf6, ?_, fun y hy => ?_, fun y hy => ?_⟩ ht6
      · rw [List.map_append] at hnd
        exact (List.nodup_append.mp hnd).1
      · obtain ⟨x, hx, rfl⟩ := List.mem_map.mp hy
        exact mem_sh hs (hp.mem_iff.mp (List.mem_append_left _ hx))
      · obtain ⟨x, hx, rfl⟩ := List.mem_map.mp hy
        exact pool_wd s hs x (hp.mem_iff.mp (List.mem_append_left _ hx))
  clean_wf
  refine tk ht (by omega) (by omega) (by omega) fun v xs1 h1 h2 ht1 => ?_
  trivial
  refine ifB (fun g => ?_) (fun g => ?_)
  · trivial
    exact fin 0 _ (by omega) (ht1.mono (by omega))
  · trivial
    refine tk ht1 (by omega) (by omega) (by omega) fun v xs2 h1 h2 ht2 => ?_
    trivial
    obtain ⟨s, rfl⟩ : ∃ s : Nat, v = s := ⟨v.toNat, by omega⟩
    exact fin s _ (by omega) ht2

theorem filter_nil {α : Type} (p : α → Bool) (f : α → D) : ∀ l : List α, PyData.eqv (.list ((l.filter fun c => !p c).map f)) (.list []) = l.all p
  | [] => by simp [PyData.eqv, PyData.eqvAll]
  | c :: l => by
    rw [List.filter_cons, List.all_cons]
    cases e : p c with
    | true => rw [if_neg (by simp)]; simpa using filter_nil p f l
    | false =>
      rw [if_pos (by simp), List.map_cons]
      simp [PyData.eqv, PyData.eqvAll]
theorem lword_ok {s n : Nat} {x : D} {P : O → List O → Prop} {PX : Exn → List O → Prop} (hx : G s n x) (hw : x.weight ≤ 300000) (h : P (.d (.bool (isWord x))) [.d x]) : F__law_is_word [.d x] P PX := by
  unfold F__law_is_word
  refine sem_go fun k X hk => ?_
  cases hx with
  | @str _ x hx =>
    have hW : PyData.weight (.str x) = x.length := by simp only [PyData.weight]; rfl
    rw [hW] at hw
    clean_wf
    refine smallE (by omega) ?_
    have bad : isWord (.str x) = false → P (.d (.bool false)) [.d (.str x)] := fun e => by rw [e] at h; exact h
    refine ifB (fun g1 => ?_) (fun g1 => ?_)
    · have g1 := of_decide_eq_true g1
      trivial
      clean_wf
      exact bad (by simp only [isWord]; rw [decide_eq_false (show ¬ 1 ≤ x.length by omega)]; rfl)
    · have g1 := of_decide_eq_false g1
      trivial
      refine smallE (by omega) ?_
      refine ifB (fun g2 => ?_) (fun g2 => ?_)
      · have g2 := of_decide_eq_true g2
        clean_wf
        exact bad (by simp only [isWord]; rw [decide_eq_false (show ¬ x.length ≤ 8 by omega)]; simp)
      · have g2 := of_decide_eq_false g2
        clean_wf
        clean_wf
        refine goComp_ofF (ls := x.cps.toList) (f := fun c => PyData.str ⟨#[c]⟩) (at? := none) (fun c => !isA c) (fun c => .d (.str ⟨#[c]⟩)) (by rw [Array.length_toList]; exact Nat.le_trans hw (by decide)) True.intro (fun c hc acc K h1 h2 h3 => ?_) ?_
        · refine stepC_c rfl ?_
          trivial
          refine ifB (fun e => ?_) (fun e => ?_)
          · exact ⟨h1, h2 e⟩
          · exact h3 e
        intro _
        trivial
        show cmpW Cop.eq (PyData.list (O.toDs (List.map (fun c => O.d (PyData.str ⟨#[c]⟩)) (List.filter (fun c => !isA c) x.cps.toList)))) (.list []) _
        rw [toDs_of fun c => PyData.str ⟨#[c]⟩]
        refine And.intro (eqOk_of (((G.lst (s := 0) (n := 0) (ds := List.map (fun c => PyData.str ⟨#[c]⟩) (List.filter (fun c => !isA c) x.cps.toList)) fun d hd => by
          obtain ⟨c, hc, rfl⟩ := List.mem_map.mp hd
          exact .str fun z hz => by
            have hz : z ∈ [c] := hz
            rw [List.mem_singleton.mp hz]
            exact hx c (List.mem_filter.mp hc).1).mo (by omega)).plain (by omega)) (show plainD (.list []) = true by decide +kernel)) ?_
        (try refine rt_go hk ?_)
        trivial
        rw [filter_nil]
        have e : isWord (.str x) = x.cps.toList.all isA := by
          simp only [isWord]
          rw [decide_eq_true (show 1 ≤ x.length by omega), decide_eq_true (show x.length ≤ 8 by omega)]
          rfl
        rw [e] at h
        exact h
  | _ =>
    iterate 5 clean_wf
    exact h

section
def pairLt : Option D → Option D → Bool
  | some (.str a), some (.str b) => decide (a.cps.toList < b.cps.toList)
  | _, _ => true
def risesD (ds : List D) : Bool := (List.range (ds.length - 1)).all fun i => pairLt ds[i]? ds[i + 1]?
theorem rise_of : ∀ {zs : List Str}, zs.Nodup → PyProof.Rows.sortedS zs = true → risesD (zs.map PyData.str) = true := by
  have go : ∀ (zs : List Str) (p : Str), (p :: zs).Nodup → PyProof.Rows.risingS p zs = true → ∀ i, i + 1 < (p :: zs).length → pairLt ((p :: zs).map PyData.str)[i]? ((p :: zs).map PyData.str)[i + 1]? = true := by
    intro zs
    induction zs with
    | nil => intro p _ _ i hi; simp at hi
    | cons x r ih =>
      intro p nd hr i hi
      have hr : (!ltCps x.cps.toList p.cps.toList && PyProof.Rows.risingS x r) = true := hr
      simp only [Bool.and_eq_true] at hr
      cases i with
      | succ i => exact ih x (List.nodup_cons.mp nd).2 hr.2 i (by simpa using hi)
      | zero =>
        show decide (p.cps.toList < x.cps.toList) = true
        have h1 : ltCps x.cps.toList p.cps.toList = false := by simpa using hr.1
        have ne : p ≠ x := fun e => (List.nodup_cons.mp nd).1 (by rw [e]; exact List.mem_cons_self)
        refine decide_eq_true ?_
        rw [PyProof.Rows.ltCps_eq] at h1
        rcases List.le_iff_lt_or_eq.mp (List.not_lt.mp (of_decide_eq_false h1)) with h2 | h2
        · exact h2
        · exact absurd (PySem.Str.ext' (Array.toList_inj.mp h2)) ne
  intro zs nd hs
  cases zs with
  | nil => rfl
  | cons p r =>
    unfold risesD
    rw [List.all_eq_true]
    intro i hi
    rw [List.mem_range] at hi
    exact go r p nd hs i (by simp at hi ⊢; omega)
end

/-! ### a kind, and whether a literal holds of it -/
section
structure Who where
  t : Str
  a : Int
  b : Option Int
def bondD : Option Int → D
  | none => .none
  | some x => .int x
abbrev Who.d (w : Who) : D := .tuple [.str w.t, .int w.a, bondD w.b]
def upB : Option Int → Int → Bool
  | none, _ => true
  | some e, a => decide (a < e)
def nearB : Option Int → Int → Bool
  | none, _ => false
  | some x, m => decide (x ≤ m)
def farB : Option Int → Int → Bool
  | none, _ => true
  | some x, m => decide (m < x)
theorem far_near {b : Option Int} {m : Int} : farB b m = !nearB b m := by
  cases b with
  | none => rfl
  | some x =>
    show decide (m < x) = !decide (x ≤ m)
    rw [← decide_not]
    exact decide_eq_decide.mpr (by omega)
theorem if_bool {p a b : Bool} : (if p = true then PyData.bool a else PyData.bool b) = PyData.bool (if p = true then a else b) := by cases p <;> rfl
def hold : Lit → Who → Bool
  | .town false zs, w => decide (w.t ∈ zs)
  | .town true zs, w => !decide (w.t ∈ zs)
  | .kin false m, w => nearB w.b m
  | .kin true m, w => !nearB w.b m
  | .age f e, w => decide (f ≤ w.a) && upB e w.a
/-- literals as they are here -/
def LOk : Lit → Prop
  | .town _ zs => zs ≠ [] ∧ zs.Nodup ∧ (∀ z ∈ zs, plainS z ∧ z.length ≤ 8 ∧ isWord (.str z) = true) ∧ zs.length ≤ 4 ∧ PyProof.Rows.sortedS zs = true
  | .kin _ m => 0 ≤ m ∧ m < 200
  | .age f e => 0 ≤ f ∧ f ≤ 200 ∧ ∀ x, e = some x → f < x ∧ x ≤ 200
theorem lok_of {ys : List Str} {l : Lit} (h : l.ok ys) (hy : TownS ys) : LOk l := by
  cases l with
  | town o zs =>
    obtain ⟨h1, h2, h3, h4, h5⟩ := h
    exact ⟨h1, h2, fun z hz => ⟨(hy.pl z (h3 z hz)).1, (hy.pl z (h3 z hz)).2, hy.wd z (h3 z hz)⟩, h4, h5⟩
  | kin o m => exact h
  | age f e =>
    obtain ⟨h1, h2, h3⟩ := h
    exact ⟨h1, by omega, h3⟩
theorem r_ifT {wc : WT} {ux u : WS} {env : Vx.Env} {p : Bool} {v : D} (hc : Ev wc env (.bool p)) (hp : p = true) (ha : Rt ux env v) : Rt (sCons (sIf wc ux sNil) u) env v := by
  subst hp
  exact Rt.to (r_if (y := v) hc (fun _ => ha) fun h => by cases h) rfl
theorem r_ifF {wc : WT} {ux u : WS} {env : Vx.Env} {p : Bool} {v : D} (hc : Ev wc env (.bool p)) (hp : p = false) (hb : Rt u env v) : Rt (sCons (sIf wc ux sNil) u) env v := by
  subst hp
  exact Rt.to (r_if (x := v) hc (fun h => by cases h) fun _ => hb) rfl
theorem c_in2 {k a b : Str} : CmpV .inn (.str k) (.tuple [.str a, .str b]) (decide (a = k) || (decide (b = k) || false)) := fun Q q => c_inT (by rfl) _ (by simp only [List.any_cons, List.any_nil, eqv_str]; exact q)
theorem e_two {k a b : Str} {wa : WT} {env : Vx.Env} (h : Ev wa env (.str k)) : Ev (wCmp .inn wa (wTup (aCons (wK (.str a)) (aCons (wK (.str b)) aNil)))) env (.bool (decide (a = k) || (decide (b = k) || false))) :=
  e_cmp .inn (Ev.u h) (Ev.u (e_tup (a_co e_k (a_co e_k a_no)) (Nat.le_of_ble_eq_true rfl))) c_in2
theorem count1 {t : Str} {zs : List Str} (h : zs.Nodup) : (zs.filter fun z => decide (z = t)).length = if t ∈ zs then 1 else 0 := by
  induction zs with
  | nil => rfl
  | cons z zs ih =>
    obtain ⟨h1, h2⟩ := List.nodup_cons.mp h
    rw [List.filter_cons]
    by_cases e : z = t
    · subst e
      rw [if_pos (by simp), List.length_cons, ih h2, if_neg h1, if_pos List.mem_cons_self]
    · rw [if_neg (by simp [e]), ih h2]
      by_cases hm : t ∈ zs
      · rw [if_pos hm, if_pos (List.mem_cons_of_mem _ hm)]
      · rw [if_neg hm, if_neg (by rw [List.mem_cons]; rintro (z | z); exact e z.symm; exact hm z)]
theorem filt_strs {t : Str} : ∀ {zs : List Str}, ((zs.map PyData.str).filter fun y => decide (strD y = t)).length = (zs.filter fun z => decide (z = t)).length
  | [] => rfl
  | z :: zs => by
    rw [List.map_cons, List.filter_cons, List.filter_cons]
    show (if decide (z = t) = true then _ else _ : List D).length = _
    by_cases e : z = t
    · rw [if_pos (decide_eq_true e), if_pos (decide_eq_true e), List.length_cons, List.length_cons, filt_strs]
    · rw [if_neg (by simp [e]), if_neg (by simp [e]), filt_strs]
section
variable {w : Who} {env : Vx.Env}
theorem e_kind0 {wa : WT} (h : Ev wa env w.d) : Ev (wIx wa (wK (.int 0))) env (.str w.t) := e_ixT h (Ev.u e_k) (by rfl)
theorem e_kind1 {wa : WT} (h : Ev wa env w.d) : Ev (wIx wa (wK (.int 1))) env (.int w.a) := e_ixT h (Ev.u e_k) (by rfl)
theorem e_kind2 {wa : WT} (h : Ev wa env w.d) : Ev (wIx wa (wK (.int 2))) env (bondD w.b) := e_ixT h (Ev.u e_k) (by rfl)
theorem town_holds {s : Str} {zs : List Str} (nd : zs.Nodup) (hl : zs.length ≤ 4) (hs : s = "town" ∨ s = "out") : RtF F__law_holds [.tuple [.str s, .tuple (zs.map PyData.str)], w.d] (.bool (PyData.eqv (.bool (decide (w.t ∈ zs))) (.bool (decide (s = "town"))))) := by
  unfold F__law_holds
  apply rtF
  apply r_asg (x := .str s)
  · exact e_ixT (e_var (by rfl)) (Ev.u e_k) (by rfl)
  · exact Nat.le_of_ble_eq_true rfl
  refine r_ifT (e_two (e_var (by rfl))) ?_ (r_ret ?_)
  · rcases hs with rfl | rfl <;> decide +kernel
  refine e_cmp .eq (Ev.u (Ev.to (e_cmp .eq (Ev.u (e_lenL (EvL.u (e_compF (ds := zs.map PyData.str) (g := fun y => decide (strD y = w.t)) (f := fun y => y) (sv_e (e_ixT (e_var (by rfl)) (Ev.u e_k) (by rfl)) rfl) True.intro (Nat.le_of_ble_eq_true rfl) (by rw [List.length_map]; omega) (fun y hy => ?_) fun y _ _ => e_var (by rfl))))) (Ev.u e_k) c_eqI) ?_)) (Ev.u (e_cmp .eq (Ev.u (e_var (by rfl))) (Ev.u e_k) c_eqS)) (c_eqD (by rfl))
  · obtain ⟨z, _, rfl⟩ := List.mem_map.mp hy
    exact e_cmp .eq (Ev.u (e_var (by rfl))) (Ev.u (e_kind0 (e_var (by rfl)))) c_eqS
  · rw [List.map_id', filt_strs, count1 nd]
    by_cases hm : w.t ∈ zs
    · rw [if_pos hm, decide_eq_true hm]; rfl
    · rw [if_neg hm, decide_eq_false hm]; rfl
theorem no_two {k : Str} (h1 : k ≠ "town") (h2 : k ≠ "out") : (decide (("town" : Str) = k) || (decide (("out" : Str) = k) || false)) = false := by
  rw [decide_eq_false (Ne.symm h1), decide_eq_false (Ne.symm h2)]; rfl
theorem looks_r {l : Lit} (hl : LOk l) : RtF F__law_holds [l.d, w.d] (.bool (hold l w)) := by
  cases l with
  | town out zs =>
    obtain ⟨_, nd, _, hle, _⟩ := hl
    cases out with
    | false =>
      refine RtF.to (town_holds (s := "town") nd hle (.inl rfl)) ?_
      rw [eqv_bool]
      show PyData.bool _ = PyData.bool (decide (w.t ∈ zs))
      cases decide (w.t ∈ zs) <;> exact congrArg PyData.bool (by decide +kernel)
    | true =>
      refine RtF.to (town_holds (s := "out") nd hle (.inr rfl)) ?_
      rw [eqv_bool]
      show PyData.bool _ = PyData.bool (!decide (w.t ∈ zs))
      cases decide (w.t ∈ zs) <;> exact congrArg PyData.bool (by decide +kernel)
  | age f e =>
    have go : ∀ ed : D, (∀ env2 : Vx.Env, env2[0]? = some (some (.d (.tuple [.str "age", .int f, ed]))) → env2[1]? = some (some (.d w.d)) → Ev (wOr (wCmp .is (wIx (wVar 0) (wK (.int 2))) wNone) (wNot (wCmp .ge (wIx (wVar 1) (wK (.int 1))) (wIx (wVar 0) (wK (.int 2)))))) env2 (.bool (upB e w.a))) → RtF F__law_holds [.tuple [.str "age", .int f, ed], w.d] (.bool (hold (.age f e) w)) := by
      intro ed he
      unfold F__law_holds
      apply rtF
      apply r_asg (x := .str "age")
      · exact e_ixT (e_var (by rfl)) (Ev.u e_k) (by rfl)
      · exact Nat.le_of_ble_eq_true rfl
      refine r_ifF (e_two (e_var (by rfl))) (by decide +kernel) (r_ifT (e_cmp .eq (Ev.u (e_var (by rfl))) (Ev.u e_k) c_eqS) (by decide +kernel) (r_ret ?_))
      refine Ev.to (e_and (e_not (e_cmp .lt (Ev.u (e_kind1 (e_var (by rfl)))) (Ev.u (e_ixT (e_var (by rfl)) (Ev.u e_k) (by rfl))) c_lt)) fun _ => he _ (by rfl) (by rfl)) ?_
      show PyData.bool _ = PyData.bool (_ && _)
      rw [← decide_not]
      congr 2
      exact decide_eq_decide.mpr (by omega)
    cases e with
    | none =>
      refine go .none fun env2 h0 h1 => Ev.to (e_or (p := true) (q := true) (e_cmp .is (Ev.u (e_ixT (e_var h0) (Ev.u e_k) (by rfl))) (Ev.u e_k) c_isN) fun h => by cases h) (by rfl)
    | some x =>
      refine go (.int x) fun env2 h0 h1 => Ev.to (e_or (p := false) (e_cmp .is (Ev.u (e_ixT (e_var h0) (Ev.u e_k) (by rfl))) (Ev.u e_k) c_isN) fun h => e_not (e_cmp .ge (Ev.u (e_kind1 (e_var h1))) (Ev.u (e_ixT (e_var h0) (Ev.u e_k) (by rfl))) c_ge)) ?_
      show PyData.bool (false || !decide (x ≤ w.a)) = PyData.bool (decide (w.a < x))
      rw [Bool.false_or, ← decide_not]
      congr 1
      exact decide_eq_decide.mpr (by omega)
  | kin far m =>
    have go : ∀ s : Str, s ≠ "town" → s ≠ "out" → s ≠ "age" → RtF F__law_holds [.tuple [.str s, .int m], w.d] (.bool (if farB w.b m = true then decide (s = "far") else decide (s = "kin"))) := by
      intro s h1 h2 h3
      unfold F__law_holds
      apply rtF
      apply r_asg (x := .str s)
      · exact e_ixT (e_var (by rfl)) (Ev.u e_k) (by rfl)
      · exact Nat.le_of_ble_eq_true rfl
      refine r_ifF (e_two (e_var (by rfl))) (no_two h1 h2) (r_ifF (e_cmp .eq (Ev.u (e_var (by rfl))) (Ev.u e_k) c_eqS) (decide_eq_false h3) ?_)
      refine Rt.to (r_if (p := farB w.b m) ?_ (fun _ => r_ret (e_cmp .eq (Ev.u (e_var (by rfl))) (Ev.u e_k) c_eqS)) fun _ => r_ret (e_cmp .eq (Ev.u (e_var (by rfl))) (Ev.u e_k) c_eqS)) ?_
      · cases hb : w.b with
        | none => exact Ev.to (e_or (p := true) (q := true) (e_cmp .is (Ev.u (Ev.to (e_kind2 (e_var (by rfl))) (by rw [hb]; rfl))) (Ev.u e_k) (c_isN (x := .none))) fun h => by cases h) (by rfl)
        | some x => exact Ev.to (e_or (p := false) (e_cmp .is (Ev.u (Ev.to (e_kind2 (e_var (by rfl))) (by rw [hb]; rfl))) (Ev.u e_k) (c_isN (x := .int x))) fun h => e_cmp .gt (Ev.u (Ev.to (e_kind2 (e_var (by rfl))) (by rw [hb]; rfl))) (Ev.u (e_ixT (e_var (by rfl)) (Ev.u e_k) (by rfl))) (c_gt (i := x))) (by rfl)
      · exact if_bool
    have e1 : ("kin" : Str) ≠ "town" ∧ ("kin" : Str) ≠ "out" ∧ ("kin" : Str) ≠ "age" ∧ ("far" : Str) ≠ "town" ∧ ("far" : Str) ≠ "out" ∧ ("far" : Str) ≠ "age" ∧ ("kin" : Str) ≠ "far" ∧ ("far" : Str) ≠ "kin" := by decide +kernel
    obtain ⟨a1, a2, a3, a4, a5, a6, a7, a8⟩ := e1
    cases far with
    | false =>
      refine RtF.to (go "kin" a1 a2 a3) ?_
      rw [decide_eq_false a7, decide_eq_true rfl, far_near]
      show PyData.bool _ = PyData.bool (nearB w.b m)
      cases nearB w.b m <;> rfl
    | true =>
      refine RtF.to (go "far" a4 a5 a6) ?_
      rw [decide_eq_false a8, decide_eq_true rfl, far_near]
      show PyData.bool _ = PyData.bool (!nearB w.b m)
      cases nearB w.b m <;> rfl
end
end

/-! ### what is contrary -/
section
theorem e_ixDct {ks : List Key} {wl : WA} {wb : WT} {env : Vx.Env} {vs : List D} {k : Str} {j : Nat} {v : D} (ha : EvA wl env vs) (hl : Nat.beq vs.length ks.length = true) (hb : Ev wb env (.str k)) (hj : keyIx ks (.inr k) = some j) (hv : vs[j]? = some v) : Ev (wIx (wDct ks wl) wb) env v := fun PX P q => by
  unfold wIx wDct
  refine ha _ _ (inWs_d (vs := vs) ⟨by rw [List.length_map]; exact Nat.eq_of_beq_eq_true hl, fun a => hb _ _ ?_⟩)
  show onSome (keyIx ks (.inr k)) fun j => onSome (vs.map O.d)[j]? fun o => P (.o o) env
  exact onSome_mk hj (onSome_mk (x := O.d v) (by rw [List.getElem?_map, hv]; rfl) q)
def endL : Option Int → List Lit
  | none => []
  | some x => [Lit.age x none]
def noneB : Option Int → Bool
  | none => true
  | some _ => false
def contL : Lit → List Lit
  | .town o zs => [.town (!o) zs]
  | .kin o m => [.kin (!o) m]
  | .age f e => (if 0 < f then [Lit.age 0 (some f)] else []) ++ endL e
def contD (l : Lit) : D := if (contL l).isEmpty = true then .none else .tuple ((contL l).map Lit.d)
abbrev sideK : List Key := [.inr "town", .inr "out", .inr "kin", .inr "far"]
theorem side_r {s t : Str} {x : D} {j : Nat} (hj : keyIx sideK (.inr s) = some j) (hv : ([.str "out", .str "town", .str "far", .str "kin"] : List D)[j]? = some (.str t)) (hs : s ≠ "age") : RtF F_contrary [.tuple [.str s, x]] (.tuple [.tuple [.str t, x]]) := by
  unfold F_contrary
  apply rtF
  refine r_ifT (e_cmp .ne (Ev.u (e_ixT (e_var (by rfl)) (Ev.u e_k) (by rfl))) (Ev.u e_k) c_neS) (by rw [decide_eq_false hs]; rfl) (r_ret ?_)
  exact e_tup (a_co (e_tup (a_co (e_ixDct (ks := sideK) (a_co e_k (a_co e_k (a_co e_k (a_co e_k a_no)))) rfl (e_ixT (e_var (by rfl)) (Ev.u e_k) (by rfl)) hj hv) (a_co (e_ixT (e_var (by rfl)) (Ev.u e_k) (by rfl)) a_no)) (Nat.le_of_ble_eq_true rfl)) a_no) (Nat.le_of_ble_eq_true rfl)
theorem age_r {f : Int} {e : Option Int} : RtF F_contrary [(Lit.age f e).d] (contD (.age f e)) := fun P PX q => by
  have key : ∀ ed : D, (Lit.age f e).d = .tuple [.str "age", .int f, ed] → isNone ed = noneB e → (∀ x, e = some x → ed = .int x) → F_contrary ([PyData.tuple [.str "age", .int f, ed]].map .d) P PX := by
    intro ed e1 e2 e3
    rw [← e1]
    have q : P (.d (contD (.age f e))) [.d (Lit.age f e).d] := q
    show F_contrary [.d (Lit.age f e).d] P PX
    unfold F_contrary
    refine sem_go fun k X hk => ?_
    rw [e1] at hk ⊢
    rw [e1] at q
    refine nx_ifE (p := false) (Ev.to (e_cmp .ne (Ev.u (e_ixT (e_var (by rfl)) (Ev.u e_k) (by rfl))) (Ev.u e_k) c_neS) (congrArg PyData.bool (by decide +kernel))) ?_
    rw [if_neg (by decide)]
    refine nx_nil ?_
    apply nx_asgLE (ds := [])
    · exact e_lst a_no (Nat.le_of_ble_eq_true rfl)
    · rfl
    intro c
    have fin : ∀ ls : List Lit, ls = contL (.age f e) → Nx w_contrary_7 X [some (.d (.tuple [.str "age", .int f, ed])), some (.lst c ((ls.map Lit.d).map .d))] k := by
      intro ls el
      apply nx_retE (v := contD (.age f e))
      · refine Ev.to (e_ife (p := decide ((0 : Int) < ((ls.map Lit.d).length : Int))) (x := .tuple (ls.map Lit.d)) (y := .none) (e_cmp .gt (Ev.u (e_lenL (u_own (by rfl)))) (Ev.u e_k) c_gt) (fun _ => e_tuple (u_own (by rfl))) fun _ => e_k) ?_
        unfold contD
        rw [← el]
        cases ls with
        | nil => rfl
        | cons l ls => rw [if_pos (decide_eq_true (by rw [List.length_map, List.length_cons]; omega))]; rfl
      refine rt_go hk ?_
      trivial
      exact q
    have mid : ∀ ls : List Lit, ls = (if 0 < f then [Lit.age 0 (some f)] else []) → Nx w_contrary_5 X [some (.d (.tuple [.str "age", .int f, ed])), some (.lst c ((ls.map Lit.d).map .d))] k := by
      intro ls el
      refine nx_ifE (p := !isNone ed) (e_cmp .isNot (Ev.u (e_ixT (e_var (by rfl)) (Ev.u e_k) (by rfl))) (Ev.u e_k) c_notN) ?_
      cases e with
      | none =>
        rw [e2, if_neg (show ¬ (!noneB none) = true by decide)]
        refine nx_nil (fin ls ?_)
        show ls = _ ++ []
        rw [List.append_nil]; exact el
      | some x =>
        have ex := e3 x rfl
        subst ex
        rw [if_pos (show (!isNone (.int x)) = true from rfl)]
        apply nx_appE (v := (Lit.age x none).d)
        · exact e_tup (a_co e_k (a_co (e_ixT (e_var (by rfl)) (Ev.u e_k) (by rfl)) (a_co e_k a_no))) (Nat.le_of_ble_eq_true rfl)
        · rfl
        · rw [List.length_map, List.length_map, el]
          split <;> exact Nat.le_of_ble_eq_true rfl
        refine nx_nil ?_
        have := fin (ls ++ [Lit.age x none]) (by rw [el]; rfl)
        rw [List.map_append, List.map_append] at this
        exact this
    show Nx w_contrary_3 X [some (.d (.tuple [.str "age", .int f, ed])), some (.lst c (([] : List D).map .d))] k
    refine nx_ifE (p := decide (0 < f)) (e_cmp .gt (Ev.u (e_ixT (e_var (by rfl)) (Ev.u e_k) (by rfl))) (Ev.u e_k) c_gt) ?_
    by_cases hf : 0 < f
    · rw [if_pos (decide_eq_true hf)]
      apply nx_appE (v := (Lit.age 0 (some f)).d)
      · exact e_tup (a_co e_k (a_co e_k (a_co (e_ixT (e_var (by rfl)) (Ev.u e_k) (by rfl)) a_no))) (Nat.le_of_ble_eq_true rfl)
      · rfl
      · exact Nat.le_of_ble_eq_true rfl
      exact nx_nil (mid [Lit.age 0 (some f)] (by rw [if_pos hf]))
    · rw [if_neg (by simpa using hf)]
      exact nx_nil (mid [] (by rw [if_neg hf]))
  cases e with
  | none => exact key .none rfl rfl nofun
  | some x => exact key (.int x) rfl rfl fun y h => by cases h; rfl
theorem contrary_r {l : Lit} : RtF F_contrary [l.d] (contD l) := by
  have ne : ("town" : Str) ≠ "age" ∧ ("out" : Str) ≠ "age" ∧ ("kin" : Str) ≠ "age" ∧ ("far" : Str) ≠ "age" := by decide +kernel
  cases l with
  | town o zs =>
    cases o with
    | false => exact side_r (s := "town") (t := "out") (j := 0) (by decide +kernel) rfl ne.1
    | true => exact side_r (s := "out") (t := "town") (j := 1) (by decide +kernel) rfl ne.2.1
  | kin o m =>
    cases o with
    | false => exact side_r (s := "kin") (t := "far") (j := 2) (by decide +kernel) rfl ne.2.2.1
    | true => exact side_r (s := "far") (t := "kin") (j := 3) (by decide +kernel) rfl ne.2.2.2
  | age f e => exact age_r
theorem cont_ok {l : Lit} (h : LOk l) : ∀ c ∈ contL l, LOk c := by
  cases l with
  | town o zs => exact all_one h
  | kin o m => exact all_one h
  | age f e =>
    obtain ⟨h1, h2, h3⟩ := h
    refine all_app ?_ ?_
    · split
      · exact all_one ⟨by omega, by omega, fun x e => by cases e; omega⟩
      · exact nofun
    · cases e with
      | none => exact nofun
      | some x =>
        have := h3 x rfl
        exact all_one ⟨by omega, by omega, nofun⟩
theorem cont_len {l : Lit} : (contL l).length ≤ 2 := by
  cases l with
  | town o zs => exact Nat.le_of_ble_eq_true rfl
  | kin o m => exact Nat.le_of_ble_eq_true rfl
  | age f e =>
    show ((if 0 < f then [Lit.age 0 (some f)] else []) ++ endL e).length ≤ 2
    rw [List.length_append]
    split <;> cases e <;> exact Nat.le_of_ble_eq_true rfl
/-- just where the literal doesn't hold one of these does -/
theorem cont_hold {l : Lit} {w : Who} (h : LOk l) (ha : 0 ≤ w.a) : ((contL l).any fun c => hold c w) = !hold l w := by
  cases l with
  | town o zs => cases o <;> simp [contL, hold]
  | kin o m => cases o <;> simp [contL, hold]
  | age f e =>
    obtain ⟨h1, h2, h3⟩ := h
    show (((if 0 < f then [Lit.age 0 (some f)] else []) ++ endL e).any fun c => hold c w) = !(decide (f ≤ w.a) && upB e w.a)
    rw [List.any_append]
    have e1 : (if 0 < f then [Lit.age 0 (some f)] else []).any (fun c => hold c w) = decide (w.a < f) := by
      split
      · show (decide (0 ≤ w.a) && decide (w.a < f) || false) = _
        rw [decide_eq_true ha, Bool.or_false, Bool.true_and]
      · show false = _
        rw [decide_eq_false (by omega)]
    rw [e1]
    cases e with
    | none =>
      show (decide (w.a < f) || false) = !(decide (f ≤ w.a) && true)
      rw [Bool.or_false, Bool.and_true, ← decide_not]
      exact decide_eq_decide.mpr (by omega)
    | some x =>
      have := h3 x rfl
      show (decide (w.a < f) || (decide (x ≤ w.a) && true || false)) = !(decide (f ≤ w.a) && decide (w.a < x))
      rw [Bool.or_false, Bool.and_true, ← Bool.decide_or, ← Bool.decide_and, ← decide_not]
      exact decide_eq_decide.mpr (by omega)
end

/-! ### told literals are literals -/
section
theorem filter_none0 {ds : List D} : ((ds.filter fun _ => false).map fun y => y) = [] := by
  rw [List.filter_eq_nil_iff.mpr (fun _ _ h => by cases h)]; rfl
theorem lword_t {z : Str} (h : plainS z ∧ z.length ≤ 8 ∧ isWord (.str z) = true) : RtF F__law_is_word [.str z] (.bool true) := fun P PX q =>
  lword_ok (s := 0) (n := 0) (.str h.1) (by rw [wt_str]; omega) (by rw [h.2.2]; exact q)
theorem lnum_t {i lo : Int} (h : lo ≤ i) : RtF F__law_is_number [.int i, .int lo] (.bool true) := by
  unfold F__law_is_number
  apply rtF
  apply r_ret
  refine Ev.to (e_and (p := true) (q := true) (Ev.to (e_isi (x := .int i) (Ev.u (e_var (by rfl)))) (by rfl)) fun _ => Ev.to (e_and (p := true) (q := true) (Ev.to (e_not (e_isi (x := .int i) (Ev.u (e_var (by rfl))))) (by rfl)) fun _ => Ev.to (e_cmp .ge (Ev.u (e_var (by rfl))) (Ev.u (e_var (by rfl))) c_ge) ?_) (by rfl)) (by rfl)
  rw [decide_eq_true h]
theorem rise_at {zs : List Str} (nd : zs.Nodup) (hs : PyProof.Rows.sortedS zs = true) {i : Nat} (hi : i + 1 < zs.length) : (zs.getD i Str.empty).cps.toList < (zs.getD (i + 1) Str.empty).cps.toList := by
  have h := rise_of nd hs
  unfold risesD at h
  have h2 := List.all_eq_true.mp h i (List.mem_range.mpr (by rw [List.length_map]; omega))
  rw [List.getElem?_map, List.getElem?_map, List.getElem?_eq_getElem (show i < zs.length by omega), List.getElem?_eq_getElem hi] at h2
  have h2 : decide (zs[i].cps.toList < zs[i + 1].cps.toList) = true := h2
  rw [List.getD_eq_getElem?_getD, List.getD_eq_getElem?_getD, List.getElem?_eq_getElem (show i < zs.length by omega), List.getElem?_eq_getElem hi]
  exact of_decide_eq_true h2
theorem at_str {zs : List Str} {i : Nat} (hi : i < zs.length) : atI (zs.map PyData.str) (i : Int) = some (.str (zs.getD i Str.empty)) := by
  rw [atI_nat (by rw [List.length_map]; exact hi), List.getD_eq_getElem?_getD, List.getElem?_map, List.getElem?_eq_getElem hi, List.getD_eq_getElem?_getD, List.getElem?_eq_getElem hi]; rfl
theorem plain_words {zs : List Str} (h : ∀ z ∈ zs, plainS z) : plainD (.tuple (zs.map PyData.str)) = true :=
  (G.mo (s := 900) (by omega) (G.tup (n := 0) fun d hd => by
    obtain ⟨z, hz, rfl⟩ := List.mem_map.mp hd
    exact .str (h z hz))).plain (by omega)
theorem c_notIn5 {k : Str} {x : D} {b : Bool} (hb : (!([.str "town", .str "out", .str "age", .str "kin", .str "far"] : List D).any fun y => PyData.eqv y (.str k)) = b) : CmpV .notIn (.str k) (.tuple [.str "town", .str "out", .str "age", .str "kin", .str "far"]) b := by
  subst hb
  exact c_notInT (by rfl)
theorem any5 {k : Str} : (([.str "town", .str "out", .str "age", .str "kin", .str "far"] : List D).any fun y => PyData.eqv y (.str k)) = (decide (("town" : Str) = k) || (decide (("out" : Str) = k) || (decide (("age" : Str) = k) || (decide (("kin" : Str) = k) || (decide (("far" : Str) = k) || false))))) := by
  simp only [List.any_cons, List.any_nil, eqv_str]
theorem e_five {k : Str} {wa : WT} {env : Vx.Env} (h : Ev wa env (.str k)) (h5 : (decide (("town" : Str) = k) || (decide (("out" : Str) = k) || (decide (("age" : Str) = k) || (decide (("kin" : Str) = k) || (decide (("far" : Str) = k) || false))))) = true) :
    Ev (wCmp .notIn wa (wTup (aCons (wK (.str "town")) (aCons (wK (.str "out")) (aCons (wK (.str "age")) (aCons (wK (.str "kin")) (aCons (wK (.str "far")) aNil))))))) env (.bool false) :=
  e_cmp .notIn (Ev.u h) (Ev.u (e_tup (a_co e_k (a_co e_k (a_co e_k (a_co e_k (a_co e_k a_no))))) (Nat.le_of_ble_eq_true rfl))) (c_notIn5 (x := .none) (by rw [any5, h5]; rfl))
/-- the first look: a tuple that begins with one of the words -/
theorem e_first {k : Str} {ds : List D} {env : Vx.Env} (h0 : env[0]? = some (some (.d (.tuple (.str k :: ds))))) (hl : 1 ≤ ds.length) (h5 : (decide (("town" : Str) = k) || (decide (("out" : Str) = k) || (decide (("age" : Str) = k) || (decide (("kin" : Str) = k) || (decide (("far" : Str) = k) || false))))) = true) :
    Ev (wOr (wNot (wPrim (.isi .tuple) (aCons (wVar 0) aNil))) (wOr (wCmp .lt (wPrim .len (aCons (wVar 0) aNil)) (wK (.int 2))) (wCmp .notIn (wIx (wVar 0) (wK (.int 0))) (wTup (aCons (wK (.str "town")) (aCons (wK (.str "out")) (aCons (wK (.str "age")) (aCons (wK (.str "kin")) (aCons (wK (.str "far")) aNil))))))))) env (.bool false) := by
  refine Ev.to (e_or (p := false) (q := false) (e_not (e_isi (Ev.u (e_var h0)))) fun _ => Ev.to (e_or (p := false) (q := false) (Ev.to (e_cmp .lt (Ev.u (e_lenT (Ev.u (e_var h0)))) (Ev.u e_k) c_lt) ?_) fun _ => e_five (e_ixT (e_var h0) (Ev.u e_k) (by exact atI_nat (ds := .str k :: ds) (n := 0) (by simp))) h5) (by rfl)) (by rfl)
  rw [List.length_cons, decide_eq_false (by omega)]
theorem e_len2 {a b : D} {env : Vx.Env} (h0 : env[0]? = some (some (.d (.tuple [a, b])))) : Ev (wCmp .ne (wPrim .len (aCons (wVar 0) aNil)) (wK (.int 2))) env (.bool false) :=
  Ev.to (e_cmp .ne (Ev.u (e_lenT (Ev.u (e_var h0)))) (Ev.u e_k) c_neI) (by rfl)
theorem words_t {s : Str} {zs : List Str} (h : LOk (.town false zs)) (hs : s = "town" ∨ s = "out") : RtF F__law_is_literal [.tuple [.str s, .tuple (zs.map PyData.str)]] (.bool true) := by
  obtain ⟨hne, nd, hw, hl, hso⟩ := h
  have hc : ∀ t : Str, t = "town" ∨ t = "out" → ((decide (("town" : Str) = t) || (decide (("out" : Str) = t) || (decide (("age" : Str) = t) || (decide (("kin" : Str) = t) || (decide (("far" : Str) = t) || false))))) = true) ∧ decide (t = ("age" : Str)) = false ∧ (decide (("kin" : Str) = t) || (decide (("far" : Str) = t) || false)) = false := by
    rintro t (rfl | rfl) <;> decide +kernel
  obtain ⟨h5, hA, hK⟩ := hc s hs
  unfold F__law_is_literal
  apply rtF
  refine r_ifF (e_first (ds := [.tuple (zs.map PyData.str)]) (by rfl) (Nat.le_refl 1) h5) rfl ?_
  refine r_ifF (e_cmp .eq (Ev.u (e_ixT (e_var (by rfl)) (Ev.u e_k) (by rfl))) (Ev.u e_k) c_eqS) hA ?_
  refine r_ifF (e_len2 (by rfl)) rfl ?_
  refine r_ifF (e_two (e_ixT (e_var (by rfl)) (Ev.u e_k) (by rfl))) hK ?_
  apply r_asg (x := .tuple (zs.map PyData.str))
  · exact e_ixT (e_var (by rfl)) (Ev.u e_k) (by rfl)
  · exact Nat.le_of_ble_eq_true rfl
  have hpl : ∀ z ∈ zs, plainS z := fun z hz => (hw z hz).1
  have hll : (zs.map PyData.str).length ≤ 4 := by rw [List.length_map]; exact hl
  have hem : (zs.map PyData.str).isEmpty = false := by
    cases zs with
    | nil => exact absurd rfl hne
    | cons _ _ => rfl
  refine r_ifF (p := false) (Ev.to (e_or (p := false) (q := false) (Ev.to (e_not (e_isi (x := .tuple (zs.map PyData.str)) (Ev.u (e_var (by rfl))))) (by rfl)) fun _ => Ev.to (e_or (p := false) (q := false) (Ev.to (e_cmp .eq (Ev.u (e_var (by rfl))) (Ev.u (e_tup a_no (Nat.le_of_ble_eq_true rfl))) (cx_eqT0 (x := .tuple (zs.map PyData.str)) (plain_words hpl))) ?_) fun _ => ?_) (by rfl)) (by rfl)) rfl (r_ret ?_)
  · show PyData.bool (true && (zs.map PyData.str).isEmpty) = _
    rw [hem]; rfl
  · refine Ev.to (e_cmp .ne (EvL.u (e_compF (ds := zs.map PyData.str) (g := fun _ => false) (f := fun y => y) (sv_e (e_var (by rfl)) rfl) True.intro (Nat.le_of_ble_eq_true rfl) (by omega) (fun y hy => ?_) fun y _ h => e_var (by rfl))) (EvL.u (e_lst a_no (Nat.le_of_ble_eq_true rfl))) (c_neNil ?_)) ?_
    · obtain ⟨z, hz, rfl⟩ := List.mem_map.mp hy
      exact Ev.to (e_not (e_call (a_co (e_var (by rfl)) a_no) (lword_t (hw z hz)) (by rfl))) (by rfl)
    · rw [filter_none0]; exact plain_strs (zs := []) nofun
    · rw [filter_none0]; rfl
  · refine Ev.to (e_cmp .eq (EvL.u (e_compF (ds := Vx.upTo 1 ((zs.length : Int) - 1).toNat) (g := fun _ => false) (f := fun y => y) (sv_r2 e_k (Ev.to (e_lenT (ds := zs.map PyData.str) (Ev.u (e_var (by rfl)))) (by rw [List.length_map])) (by omega) (by omega)) True.intro (Nat.le_of_ble_eq_true rfl) (by rw [upTo_len]; omega) (fun y hy => ?_) fun y _ h => e_var (by rfl))) (EvL.u (e_lst a_no (Nat.le_of_ble_eq_true rfl))) (c_eqNil ?_)) ?_
    · obtain ⟨i, hi⟩ := List.getElem?_of_mem hy
      obtain ⟨h1, rfl⟩ := upTo_at hi
      refine Ev.to (e_cmp .ge (Ev.u (e_ixT (e_var (by rfl)) (Ev.u (e_bin .sub (Ev.u (e_var (by rfl))) (Ev.u e_k) b_subI)) (v := .str (zs.getD i Str.empty)) ?_)) (Ev.u (e_ixT (e_var (by rfl)) (Ev.u (e_var (by rfl))) (v := .str (zs.getD (i + 1) Str.empty)) ?_)) (fun Q q => q)) ?_
      · rw [show (1 + (i : Int) - 1) = (i : Int) by omega]; exact at_str (by omega)
      · rw [show (1 + (i : Int)) = ((i + 1 : Nat) : Int) by omega]; exact at_str (by omega)
      · rw [decide_eq_true (rise_at nd hso (by omega))]; rfl
    · rw [filter_none0]; exact plain_strs (zs := []) nofun
    · rw [filter_none0]; rfl
theorem llit_t {l : Lit} (h : LOk l) : RtF F__law_is_literal [l.d] (.bool true) := by
  cases l with
  | town o zs =>
    cases o with
    | false => exact words_t h (.inl rfl)
    | true => exact words_t h (.inr rfl)
  | kin o m =>
    have go : ∀ s : Str, ((decide (("town" : Str) = s) || (decide (("out" : Str) = s) || (decide (("age" : Str) = s) || (decide (("kin" : Str) = s) || (decide (("far" : Str) = s) || false))))) = true) → decide (s = ("age" : Str)) = false → (decide (("kin" : Str) = s) || (decide (("far" : Str) = s) || false)) = true → RtF F__law_is_literal [.tuple [.str s, .int m]] (.bool true) := by
      intro s h5 hA hK
      unfold F__law_is_literal
      apply rtF
      refine r_ifF (e_first (ds := [.int m]) (by rfl) (Nat.le_refl 1) h5) rfl ?_
      refine r_ifF (e_cmp .eq (Ev.u (e_ixT (e_var (by rfl)) (Ev.u e_k) (by rfl))) (Ev.u e_k) c_eqS) hA ?_
      refine r_ifF (e_len2 (by rfl)) rfl ?_
      refine r_ifT (e_two (e_ixT (e_var (by rfl)) (Ev.u e_k) (by rfl))) hK (r_ret ?_)
      exact e_call (a_co (e_ixT (e_var (by rfl)) (Ev.u e_k) (by rfl)) (a_co e_k a_no)) (lnum_t h.1) (by rfl)
    cases o with
    | false => exact go "kin" (by decide +kernel) (by decide +kernel) (by decide +kernel)
    | true => exact go "far" (by decide +kernel) (by decide +kernel) (by decide +kernel)
  | age f e =>
    obtain ⟨h1, h2, h3⟩ := h
    have go : ∀ ed : D, (∀ env2 : Vx.Env, env2[0]? = some (some (.d (.tuple [.str "age", .int f, ed]))) → Ev (wOr (wCmp .is (wIx (wVar 0) (wK (.int 2))) wNone) (wCall (ar 2 F__law_is_number) (aCons (wIx (wVar 0) (wK (.int 2))) (aCons (wBin .add (wIx (wVar 0) (wK (.int 1))) (wK (.int 1))) aNil)))) env2 (.bool true)) → RtF F__law_is_literal [.tuple [.str "age", .int f, ed]] (.bool true) := by
      intro ed he
      unfold F__law_is_literal
      apply rtF
      refine r_ifF (e_first (ds := [.int f, ed]) (by rfl) (Nat.le_of_ble_eq_true rfl) (by decide +kernel)) rfl ?_
      refine Rt.to (r_if (p := true) (y := .none) (Ev.to (e_cmp .eq (Ev.u (e_ixT (e_var (by rfl)) (Ev.u e_k) (by rfl))) (Ev.u e_k) c_eqS) (congrArg PyData.bool (by decide +kernel))) (fun _ => ?_) fun h => by cases h) rfl
      refine r_ifF (p := false) (Ev.to (e_or (p := false) (q := false) (Ev.to (e_cmp .ne (Ev.u (e_lenT (Ev.u (e_var (by rfl))))) (Ev.u e_k) c_neI) (by rfl)) fun _ => e_not (e_call (a_co (e_ixT (e_var (by rfl)) (Ev.u e_k) (by rfl)) (a_co e_k a_no)) (lnum_t h1) (by rfl))) (by rfl)) rfl (r_ret ?_)
      exact he _ (by rfl)
    cases e with
    | none => exact go .none fun env2 h0 => Ev.to (e_or (p := true) (q := true) (e_cmp .is (Ev.u (e_ixT (e_var h0) (Ev.u e_k) (by rfl))) (Ev.u e_k) c_isN) fun h => by cases h) (by rfl)
    | some x =>
      have := h3 x rfl
      exact go (.int x) fun env2 h0 => Ev.to (e_or (p := false) (q := true) (e_cmp .is (Ev.u (e_ixT (e_var h0) (Ev.u e_k) (by rfl))) (Ev.u e_k) c_isN) fun _ => e_call (a_co (e_ixT (e_var h0) (Ev.u e_k) (by rfl)) (a_co (e_bin .add (Ev.u (e_ixT (e_var h0) (Ev.u e_k) (by rfl))) (Ev.u e_k) b_addI) a_no)) (lnum_t (by omega)) (by rfl)) (by rfl)
end

/-! ### a few kinds -/
section
theorem nx_forE {wi : WI} {wb u : WS} {t : Vx.Tg} {PX : Exn → Vx.Env → Prop} {env : Vx.Env} {k : Kt} {s : Src} (hs : EvS wi env s) (h : LoopF s (stepN t wb u PX k) env fun env2 => Nx u PX env2 k) : Nx (sCons (sFor t wi wb) u) PX env k := nx_for (hs _ _ h)
theorem nodup_len {α : Type} [DecidableEq α] : ∀ {l m : List α}, l.Nodup → (∀ x ∈ l, x ∈ m) → l.length ≤ m.length
  | [], _, _, _ => Nat.zero_le _
  | x :: l, m, hn, hs => by
    obtain ⟨h1, h2⟩ := List.nodup_cons.mp hn
    have hx := hs x List.mem_cons_self
    have ih := nodup_len (l := l) (m := m.erase x) h2 fun y hy => (List.mem_erase_of_ne (fun e => h1 (by rw [← e]; exact hy))).mpr (hs y (List.mem_cons_of_mem _ hy))
    rw [List.length_erase_of_mem hx] at ih
    have : 0 < m.length := List.length_pos_of_mem hx
    rw [List.length_cons]; omega
theorem setI_w {wa : WT} {env : Vx.Env} {ns : List Int} {PX : Exn → Vx.Env → Prop} {P : W → Vx.Env → Prop} (h : EvU wa env (.list (ns.map PyData.int))) (hl : ns.length < 64) (q : ∀ (ms : List Int) (a : Addr), ms.length ≤ ns.length → (∀ k, k ∈ ms ↔ k ∈ ns) → P (.o (.lst a ((ms.map PyData.int).map .d))) env) : wBlt fSetSort (aCons wa aNil) PX env P := by
  unfold wBlt aCons aNil
  exact h _ _ fun x hx => hx _ (onSome_mk (intsOf_map ns) ⟨hl, fun ms h1 h2 a => q ms a (nodup_len (h1.imp fun {_ _} h => Int.ne_of_lt h) fun x hx => (h2 x).mp hx) h2⟩)
theorem setS_w {wa : WT} {env : Vx.Env} {ts : List Str} {PX : Exn → Vx.Env → Prop} {P : W → Vx.Env → Prop} (h : EvU wa env (.list (ts.map PyData.str))) (hl : ts.length ≤ 4000) (q : ∀ (ys : List Str) (a : Addr), ys.length ≤ ts.length → PyProof.Rows.sortedS ys = true → ys.Nodup → (∀ k, k ∈ ys ↔ k ∈ ts) → P (.o (.lst a (ys.map fun y => O.d (.str y)))) env) : wBlt fSetSortS (aCons wa aNil) PX env P := by
  unfold wBlt aCons aNil
  exact h _ _ fun x hx => hx _ (onSome_mk (strsOf_map ts) ⟨hl, fun ys h1 h2 h3 a => q ys a (nodup_len h2 fun x hx => (h3 x).mp hx) h1 h2 h3⟩)
theorem strsO {ts : List Str} : (ts.map fun y => O.d (.str y)) = (ts.map PyData.str).map O.d := by rw [List.map_map]; rfl
abbrev fE (ls : List Lit) (a1 : Addr) (ts : List Str) (a2 : Addr) (ags : List Int) (a3 : Addr) (ms : List Int) (y4 y5 : Option O) : Vx.Env :=
  [some (.d (.tuple (ls.map Lit.d))), some (.lst a1 ((ts.map PyData.str).map .d)), some (.lst a2 ((ags.map PyData.int).map .d)), some (.lst a3 ((PyData.none :: ms.map PyData.int).map .d)), y4, y5, none, none]
abbrev moreW : List Str := ["q", "qq", "other", "fresh", "else"]
theorem few_ok {ls : List Lit} (h : ∀ l ∈ ls, LOk l) (hl : ls.length ≤ 3) {P : O → List O → Prop} {PX : Exn → List O → Prop}
    (q : ∀ (a c : Addr) (ts : List Str) (ags : List Int) (ms : List Int), ts ≠ [] → ts.length ≤ 13 → (∀ g ∈ ags, 0 ≤ g) → ags.length ≤ 7 → ms.length ≤ 4 → P (.tup [.lst a ((ts.map PyData.str).map .d), .d (.list (ags.map PyData.int)), .lst c ((PyData.none :: ms.map PyData.int).map .d)]) [.d (.tuple (ls.map Lit.d))]) : F__law_few [.d (.tuple (ls.map Lit.d))] P PX := by
  unfold F__law_few
  refine sem_go fun k X hk => ?_
  apply nx_asgLE (ds := [])
  · exact e_lst a_no (Nat.le_of_ble_eq_true rfl)
  · rfl
  intro a1
  apply nx_asgLE (ds := [.int 0])
  · exact e_lst (a_co e_k a_no) (Nat.le_of_ble_eq_true rfl)
  · rfl
  intro a2
  apply nx_asgLE (ds := [.none, .int 0])
  · exact e_lst (a_co e_k (a_co e_k a_no)) (Nat.le_of_ble_eq_true rfl)
  · rfl
  intro a3
  show Nx w__law_few_3 X (fE ls a1 [] a2 [0] a3 [0] none none) k
  apply nx_forE (s := ⟨ls.map Lit.d, none⟩)
  · exact sv_e (e_var (by rfl)) rfl
  refine loop_run (s := ⟨ls.map Lit.d, none⟩) (fun i env => ∃ ts ags ms y4, env = fE ls a1 ts a2 ags a3 ms y4 none ∧ (∀ t ∈ ts, plainS t) ∧ ts.length ≤ 4 * i ∧ (∀ g ∈ ags, 0 ≤ g) ∧ ags.length ≤ 1 + 2 * i ∧ ms.length ≤ 1 + i) (fun _ _ _ => True.intro) ?_ ⟨[], [0], [0], none, rfl, nofun, Nat.le_refl _, all_one (Int.le_refl _), Nat.le_refl _, Nat.le_refl _⟩ ?_
  · rintro i x env K hx ⟨ts, ags, ms, y4, rfl, ht, tl, ha, al, ml⟩ hK
    have hx : (ls.map Lit.d)[i]? = some x := hx
    have hi : i < 3 := by
      have := (List.getElem?_eq_some_iff.mp hx).1
      rw [List.length_map] at this; omega
    obtain ⟨l, hlm, rfl⟩ := List.mem_map.mp (List.mem_of_getElem? hx)
    have lok := h l hlm
    trivial
    simp_wf
    cases l with
    | town o zs =>
      obtain ⟨_, _, hw, hzl, _⟩ := lok
      have go : ∀ s : Str, (s = "town" ∨ s = "out") → Nx w__law_few_4 X (fE ls a1 ts a2 ags a3 ms (some (.d (.tuple [.str s, .tuple (zs.map PyData.str)]))) none) ⟨K, k.rt, fun env4 => Nx w__law_few_9 X env4 k, K⟩ := by
        intro s hs
        refine nx_ifE (p := true) (Ev.to (e_two (e_ixT (e_var (by rfl)) (Ev.u e_k) (by rfl))) (congrArg PyData.bool (by rcases hs with rfl | rfl <;> decide +kernel))) ?_
        rw [if_pos rfl]
        apply nx_extTE (ds := zs.map PyData.str)
        · exact e_ixT (e_var (by rfl)) (Ev.u e_k) (by rfl)
        · rfl
        · rw [List.length_map, List.length_map, List.length_map]; omega
        refine nx_nil (nx_nil (hK _ ⟨ts ++ zs, ags, ms, some (.d (.tuple [.str s, .tuple (zs.map PyData.str)])), ?_, all_app ht fun z hz => (hw z hz).1, by rw [List.length_append]; omega, ha, by omega, by omega⟩))
        show [_, some (O.lst a1 ((ts.map PyData.str).map .d ++ (zs.map PyData.str).map .d)), _, _, _, _, _, _] = _
        rw [← List.map_append, ← List.map_append]
      cases o with
      | false => exact go "town" (.inl rfl)
      | true => exact go "out" (.inr rfl)
    | kin o m =>
      have go : ∀ s : Str, s ≠ "town" → s ≠ "out" → s ≠ "age" → Nx w__law_few_4 X (fE ls a1 ts a2 ags a3 ms (some (.d (.tuple [.str s, .int m]))) none) ⟨K, k.rt, fun env4 => Nx w__law_few_9 X env4 k, K⟩ := by
        intro s h1 h2 h3
        refine nx_ifE (p := false) (Ev.to (e_two (e_ixT (e_var (by rfl)) (Ev.u e_k) (by rfl))) (congrArg PyData.bool (no_two h1 h2))) ?_
        rw [if_neg (by decide)]
        refine nx_ifE (p := false) (Ev.to (e_cmp .eq (Ev.u (e_ixT (e_var (by rfl)) (Ev.u e_k) (by rfl))) (Ev.u e_k) c_eqS) (congrArg PyData.bool (decide_eq_false h3))) ?_
        rw [if_neg (by decide)]
        apply nx_appE (v := .int (m + 1))
        · exact e_bin .add (Ev.u (e_ixT (e_var (by rfl)) (Ev.u e_k) (by rfl))) (Ev.u e_k) b_addI
        · rfl
        · rw [List.length_map, List.length_cons, List.length_map]; omega
        refine nx_nil (nx_nil (nx_nil (hK _ ⟨ts, ags, ms ++ [m + 1], some (.d (.tuple [.str s, .int m])), ?_, ht, by omega, ha, by omega, by rw [List.length_append]; show _ + 1 ≤ _; omega⟩)))
        have e3 : (PyData.none :: ms.map PyData.int).map O.d ++ [O.d (PyData.int (m + 1))] = (PyData.none :: (ms ++ [m + 1]).map PyData.int).map O.d := by simp
        show [_, _, _, some (O.lst a3 ((PyData.none :: ms.map PyData.int).map O.d ++ [O.d (PyData.int (m + 1))])), _, _, _, _] = [_, _, _, some (O.lst a3 ((PyData.none :: (ms ++ [m + 1]).map PyData.int).map O.d)), _, _, _, _]
        rw [e3]
      have e1 : ("kin" : Str) ≠ "town" ∧ ("kin" : Str) ≠ "out" ∧ ("kin" : Str) ≠ "age" ∧ ("far" : Str) ≠ "town" ∧ ("far" : Str) ≠ "out" ∧ ("far" : Str) ≠ "age" := by decide +kernel
      cases o with
      | false => exact go "kin" e1.1 e1.2.1 e1.2.2.1
      | true => exact go "far" e1.2.2.2.1 e1.2.2.2.2.1 e1.2.2.2.2.2
    | age f e =>
      obtain ⟨h1, h2, h3⟩ := lok
      have go : ∀ (ed : D) (es : List Int), ((([ed] : List D).filter fun y => !isNone y).map fun y => y) = es.map PyData.int → (∀ x ∈ es, 0 ≤ x) → es.length ≤ 1 → Nx w__law_few_4 X (fE ls a1 ts a2 ags a3 ms (some (.d (.tuple [.str "age", .int f, ed]))) none) ⟨K, k.rt, fun env4 => Nx w__law_few_9 X env4 k, K⟩ := by
        intro ed es he e0 el
        refine nx_ifE (p := false) (Ev.to (e_two (e_ixT (e_var (by rfl)) (Ev.u e_k) (by rfl))) (congrArg PyData.bool (by decide +kernel))) ?_
        rw [if_neg (by decide)]
        refine nx_ifE (p := true) (Ev.to (e_cmp .eq (Ev.u (e_ixT (e_var (by rfl)) (Ev.u e_k) (by rfl))) (Ev.u e_k) c_eqS) (congrArg PyData.bool (by decide +kernel))) ?_
        rw [if_pos rfl]
        apply nx_extE (ds := [.int f] ++ es.map PyData.int)
        · refine e_catL (EvL.u (e_lst (a_co (e_ixT (e_var (by rfl)) (Ev.u e_k) (by rfl)) a_no) (Nat.le_of_ble_eq_true rfl))) (EvL.u (EvL.to (e_compF (ds := [ed]) (g := fun y => !isNone y) (f := fun y => y) (sv_e (Ev.to (e_slT (ds := [.str "age", .int f, ed]) (Ev.u (e_var (by rfl))) (ov_so e_k) ov_no) (by rfl)) rfl) True.intro (Nat.le_of_ble_eq_true rfl) (Nat.le_of_ble_eq_true rfl) (fun y hy => e_cmp .isNot (Ev.u (e_var (by rfl))) (Ev.u e_k) c_notN) fun y _ _ => e_var (by rfl)) he)) ?_
          show 1 + (es.map PyData.int).length ≤ _
          rw [List.length_map]; omega
        · rfl
        · rw [List.length_map, List.length_map, List.length_append, List.length_map]; show _ + (1 + _) ≤ _; omega
        refine nx_nil (nx_nil (nx_nil (hK _ ⟨ts, ags ++ f :: es, ms, some (.d (.tuple [.str "age", .int f, ed])), ?_, ht, by omega, all_app ha (all_cons h1 e0), by rw [List.length_append, List.length_cons]; omega, by omega⟩)))
        have e3 : (ags.map PyData.int).map O.d ++ ([PyData.int f] ++ es.map PyData.int).map O.d = ((ags ++ f :: es).map PyData.int).map O.d := by simp
        show [_, _, some (O.lst a2 ((ags.map PyData.int).map O.d ++ ([PyData.int f] ++ es.map PyData.int).map O.d)), _, _, _, _, _] = [_, _, some (O.lst a2 (((ags ++ f :: es).map PyData.int).map O.d)), _, _, _, _, _]
        rw [e3]
      cases e with
      | none => exact go .none [] rfl nofun (Nat.zero_le _)
      | some x =>
        have := h3 x rfl
        exact go (.int x) [x] rfl (all_one (by omega)) (Nat.le_refl _)
  · rintro env ⟨ts, ags, ms, y4, rfl, ht, tl, ha, al, ml⟩
    have eL : (Src.mk (ls.map Lit.d) none).xs.length = ls.length := List.length_map _
    rw [eL] at tl al ml
    have hpt : plainD (.list (ts.map PyData.str)) = true := plain_strs ht
    have mo : ∃ mz : List Str, cutD (((moreW.map PyData.str).filter fun y => !((ts.map PyData.str).any fun z => PyData.eqv z y)).map fun y => y) none (some 1) = mz.map PyData.str ∧ mz.length ≤ 1 ∧ (ts = [] → mz ≠ []) := by
      rw [List.map_id']
      rw [cut_to (by decide)]
      have e1 : ((moreW.map PyData.str).filter fun y => !((ts.map PyData.str).any fun z => PyData.eqv z y)) = (moreW.filter fun y => !((ts.map PyData.str).any fun z => PyData.eqv z (.str y))).map PyData.str := by rw [List.filter_map]; rfl
      rw [e1, ← List.map_take]
      refine ⟨_, rfl, by rw [List.length_take]; omega, ?_⟩
      rintro rfl
      have e2 : (moreW.filter fun y => !((([] : List Str).map PyData.str).any fun z => PyData.eqv z (.str y))) = moreW := List.filter_eq_self.mpr fun y _ => rfl
      rw [e2]
      exact List.cons_ne_nil _ _
    obtain ⟨mz, em, mzl, mne⟩ := mo
    apply nx_asgLE (ds := mz.map PyData.str)
    · refine EvL.to (e_slL (EvL.u (e_compF (ds := moreW.map PyData.str) (g := fun y => !((ts.map PyData.str).any fun z => PyData.eqv z y)) (f := fun y => y) (sv_e (e_tup (a_co e_k (a_co e_k (a_co e_k (a_co e_k (a_co e_k a_no))))) (Nat.le_of_ble_eq_true rfl)) rfl) True.intro (Nat.le_of_ble_eq_true rfl) (Nat.le_of_ble_eq_true rfl) (fun y hy => ?_) fun y _ _ => e_var (by rfl))) ov_no (ov_so e_k)) em
      refine e_cmp .notIn (Ev.u (e_var (by rfl))) (u_own (by rfl)) (c_notInL ?_ hpt)
      have : ∀ y ∈ moreW.map PyData.str, plainD y = true := by decide +kernel
      exact this y hy
    · rfl
    intro a5
    show Nx w__law_few_10 X (fE ls a1 ts a2 ags a3 ms y4 (some (.lst a5 ((mz.map PyData.str).map .d)))) k
    refine nx_ret ?_
    unfold wTup
    show wBin .add (wBlt fSetSortS (aCons (wVar 1) aNil)) (wVar 5) _ _ _
    unfold wBin
    refine setS_w (u_own (by rfl)) (by omega) fun ys a6 yl _ _ hy => ?_
    refine (u_own (ds := mz.map PyData.str) (by rfl)) _ _ fun yv hyv => ?_
    have e6 : (O.lst a6 (ys.map fun y => O.d (.str y))).toD = .list (ys.map PyData.str) := by rw [strsO]; exact toD_lst
    show (fun dx => useW yv _ fun dy => bopW .add dx dy _) (O.lst a6 (ys.map fun y => O.d (.str y))).toD
    rw [e6]
    refine hyv _ ⟨Nat.le_of_lt (small (by rw [List.length_map, List.length_map]; omega)), fun a7 => ?_⟩
    show wFrz (wBlt fSetSort (aCons (wVar 2) aNil)) _ _ _
    unfold wFrz
    refine setI_w (u_own (by rfl)) (by omega) fun gs a8 gl hg => ?_
    unfold escW
    simp only [toD_lst]
    unfold aCons
    refine (EvL.to (e_slL (ds := PyData.none :: ms.map PyData.int) (u_own (by rfl)) ov_no (ov_so e_k)) (show _ = [PyData.none] by rw [cut_to (by decide)]; rfl)) _ _ fun a9 => ?_
    refine setI_w (ns := ms) (EvL.u (EvL.to (e_slL (ds := PyData.none :: ms.map PyData.int) (u_own (by rfl)) (ov_so e_k) ov_no) (by rw [cut_from (by decide)]; rfl))) (by omega) fun nr a10 nl hn => ?_
    refine useO ?_
    rw [toD_lst]
    refine useO ?_
    rw [toD_lst]
    refine ⟨Nat.le_of_lt (small (by rw [List.length_map]; show 1 + _ ≤ _; omega)), fun a11 => ?_⟩
    show 3 ≤ sizeLine ∧ k.rt (.o (.tup [.lst a7 ((ys.map PyData.str ++ mz.map PyData.str).map .d), .d (.list (gs.map PyData.int)), .lst a11 (([PyData.none] ++ nr.map PyData.int).map .d)])) _
    refine ⟨by decide, ?_⟩
    refine rt_go hk ?_
    trivial
    rw [← List.map_append (f := PyData.str)]
    refine q a7 a11 (ys ++ mz) gs nr ?_ ?_ (fun x hx => ha x ((hg x).mp hx)) (by omega) (by omega)
    · intro e
      obtain ⟨e1, e2⟩ := List.append_eq_nil_iff.mp e
      cases ts with
      | nil => exact mne rfl e2
      | cons t ts =>
        have := (hy t).mpr List.mem_cons_self
        rw [e1] at this; cases this
    · rw [List.length_append]; omega
end

/-! ### the law's own look at what is contrary -/
section
theorem e_compFO {wt we : WT} {g : D → Bool} {f : D → D} {env : Vx.Env} {ds : List D} {i j : Nat} {a : Addr} (hj : env[j]? = some (some (.lst a (ds.map .d)))) (hij : j ≠ i) (hp : plainAt env i) (hi : i < env.length) (hl : ds.length ≤ 1000000)
    (ht : ∀ x ∈ ds, Ev wt (env.set i (some (.d x))) (.bool (g x))) (he : ∀ x ∈ ds, g x = true → Ev we (env.set i (some (.d x))) (f x)) : EvL (wComp (iE (wVar j)) [i] (.v i) (cOne wt) we) env ((ds.filter g).map f) := fun PX P q => by
  have e0 : envAt env j [] = some (.lst a (ds.map .d)) := by unfold envAt; simp only [hj]; rfl
  have e1 : envAt (void [i] env) j [] = some (.lst a (ds.map .d)) := by
    unfold envAt
    show (match (env.set i none)[j]? with | some (some o) => O.at [] o | _ => none) = _
    rw [List.getElem?_set_ne (Ne.symm hij), hj]
    rfl
  unfold wComp iE
  refine v_own hj ?_
  unfold srcW
  simp only [e0]
  refine ⟨trivial, onSome_mk (datas_map ds) ⟨plain1 hp, fun c => ?_⟩⟩
  refine goComp_filter (s := ⟨ds, some (a, j, [])⟩) g (fun x => .d (f x)) hl e1 (fun x hx acc K h1 h2 h3 => ?_) fun _ => ?_
  · have hv : Nat.blt i (void [i] (void [i] env)).length = true := by rw [void_length, void_length]; simpa [Nat.blt_eq] using hi
    refine stepC_c hv ?_
    have e : (void [i] (void [i] env)).set i (some (O.d x)) = env.set i (some (.d x)) := by show (List.set (List.set (List.set env i none) i none) i _) = _; rw [List.set_set, List.set_set]
    rw [e]
    refine ht x hx _ _ ?_
    show if g x = true then _ else _
    have e2 : void [i] (env.set i (some (O.d x))) = void [i] env := by show List.set (List.set env i _) i none = List.set env i none; rw [List.set_set]
    cases hg : g x with
    | true =>
      rw [if_pos rfl]
      exact he x hx hg _ _ ⟨h1, by rw [e2]; exact h2 hg⟩
    | false =>
      rw [if_neg (by decide), e2]
      exact h3 hg
  · rw [restore_void1 hi, show ((ds.filter g).map fun x => O.d (f x)) = ((ds.filter g).map f).map .d by rw [List.map_map]; rfl]
    exact q c
theorem e_compM {α : Type} {wi : WI} {we : WT} {env : Vx.Env} {ls : List α} {h f : α → D} {i : Nat} (hs : EvS wi env ⟨ls.map h, none⟩) (hp : plainAt env i) (hi : i < env.length) (hl : ls.length ≤ 1000000)
    (he : ∀ x ∈ ls, Ev we (env.set i (some (.d (h x)))) (f x)) : EvL (wComp wi [i] (.v i) cAll we) env (ls.map f) := fun PX P q => by
  refine hs _ _ ⟨plain1 hp, fun a => ?_⟩
  refine goComp_of (ls := ls) (f := h) (at? := none) (fun x => .d (f x)) hl True.intro (fun x hx acc K h1 h2 => ?_) fun _ => ?_
  · have hv : Nat.blt i (void [i] (void [i] env)).length = true := by rw [void_length, void_length]; simpa [Nat.blt_eq] using hi
    refine stepC_v hv ?_
    have e : (void [i] (void [i] env)).set i (some (O.d (h x))) = env.set i (some (.d (h x))) := by show (List.set (List.set (List.set env i none) i none) i _) = _; rw [List.set_set, List.set_set]
    rw [e]
    have e2 : void [i] (env.set i (some (O.d (h x)))) = void [i] env := by show List.set (List.set env i _) i none = List.set env i none; rw [List.set_set]
    exact he x hx _ _ ⟨h1, by rw [e2]; exact h2⟩
  · rw [restore_void1 hi, show (ls.map fun x => O.d (f x)) = (ls.map f).map .d by rw [List.map_map]; rfl]
    exact q a
theorem sv_own {env : Vx.Env} {ds : List D} {i : Nat} {a : Addr} (h : env[i]? = some (some (.lst a (ds.map .d)))) : EvS (iE (wVar i)) env ⟨ds, some (a, i, [])⟩ := fun PX P q => by
  have e0 : envAt env i [] = some (.lst a (ds.map .d)) := by unfold envAt; simp only [h]; rfl
  unfold iE
  refine v_own h ?_
  unfold srcW
  simp only [e0]
  exact ⟨trivial, onSome_mk (datas_map ds) q⟩
def isTop : Lit → Bool
  | .age f e => decide (f = 0) && noneB e
  | _ => false
theorem top_eqv {l : Lit} : PyData.eqv l.d (.tuple [.str "age", .int 0, .none]) = isTop l := by
  cases l with
  | town o zs => cases o <;> simp [Lit.d, PyData.eqv, PyData.eqvAll, isTop]
  | kin o m => cases o <;> simp [Lit.d, PyData.eqv, PyData.eqvAll, isTop]
  | age f e =>
    cases e with
    | none =>
      simp [Lit.d, PyData.eqv, PyData.eqvAll, isTop, noneB]
      cases h : (f == 0) with
      | true => rw [decide_eq_true (by simpa using h)]
      | false => rw [decide_eq_false (by simpa using h)]
    | some x => simp [Lit.d, PyData.eqv, PyData.eqvAll, isTop, noneB]
theorem lit_g {l : Lit} (h : LOk l) : G 0 2 l.d := by
  have st : ∀ {x : Str} {n : Nat}, (x.cps.toList.all fun c => decide (c < 128)) = true → G 0 n (.str x) := fun h => .str (plainS_lit h)
  cases l with
  | town o zs =>
    have hz : G 0 1 (.tuple (zs.map PyData.str)) := .tup fun d hd => by
      obtain ⟨z, hz, rfl⟩ := List.mem_map.mp hd
      exact .str (h.2.2.1 z hz).1
    cases o <;> exact .tup (all_cons (st (by decide +kernel)) (all_one hz))
  | kin o m =>
    have := h.1
    have := h.2
    have hm : ∀ n, G 0 n (.int m) := fun n => .int (by omega)
    cases o <;> exact .tup (all_cons (st (by decide +kernel)) (all_one (hm _)))
  | age f e =>
    obtain ⟨h1, h2, h3⟩ := h
    have hf : ∀ n, G 0 n (.int f) := fun n => .int (by omega)
    cases e with
    | none => exact .tup (all_cons (st (by decide +kernel)) (all_cons (hf _) (all_one .non)))
    | some x =>
      have := h3 x rfl
      exact .tup (all_cons (st (by decide +kernel)) (all_cons (hf _) (all_one (.int (by omega)))))
theorem plainG {n : Nat} {d : D} (h : G 0 n d) (hn : n ≤ 60) : plainD d = true := (h.mo (by omega)).plain (by omega)
theorem cont_ne {l : Lit} (h : LOk l) (ht : isTop l = false) : contL l ≠ [] := by
  cases l with
  | town o zs => exact List.cons_ne_nil _ _
  | kin o m => exact List.cons_ne_nil _ _
  | age f e =>
    intro hn
    obtain ⟨e1, e2⟩ := List.append_eq_nil_iff.mp (show (if 0 < f then [Lit.age 0 (some f)] else []) ++ endL e = [] from hn)
    have hf : ¬ 0 < f := fun h => by rw [if_pos h] at e1; cases e1
    cases e with
    | some x => cases e2
    | none =>
      have := h.1
      have : f = 0 := by omega
      rw [show isTop (.age f none) = (decide (f = 0) && true) from rfl, decide_eq_true this] at ht
      cases ht
theorem bonds_of : ∀ {L : List D}, (∀ d ∈ L, ∃ b, d = bondD b) → ∃ bs : List (Option Int), L = bs.map bondD
  | [], _ => ⟨[], rfl⟩
  | d :: L, h => by
    obtain ⟨b, rfl⟩ := h d List.mem_cons_self
    obtain ⟨bs, rfl⟩ := bonds_of fun x hx => h x (List.mem_cons_of_mem _ hx)
    exact ⟨b :: bs, rfl⟩
abbrev cE (l : Lit) (cl : List Lit) (a2 : Addr) (ts : List Str) (y3 : Option O) (a4 : Addr) (nr : List D) (y5 y6 y7 : Option O) : Vx.Env :=
  [some (.d l.d), some (.d (.tuple (cl.map Lit.d))), some (.lst a2 ((ts.map PyData.str).map .d)), y3, some (.lst a4 (nr.map .d)), y5, y6, y7, none, none, none]
/-- one kind looked at -/
theorem kind_ok {l : Lit} {cl : List Lit} {w : Who} {env : Vx.Env} (hl : LOk l) (hc : cl = contL l) (ha : 0 ≤ w.a) (h0 : env[0]? = some (some (.d l.d))) (h1 : env[1]? = some (some (.d (.tuple (cl.map Lit.d))))) (h7 : env[7]? = some (some (.d w.d))) (h8 : env[8]? = some none) (hn : env.length = 11) :
    Ev (wCmp .eq (wCmp .inn (wK (.bool true)) (wComp (iE (wVar 1)) [8] (.v 8) cAll (wCall (ar 2 F__law_holds) (aCons (wVar 8) (aCons (wVar 7) aNil))))) (wCall (ar 2 F__law_holds) (aCons (wVar 0) (aCons (wVar 7) aNil)))) env (.bool false) := by
  have lc := cont_ok hl
  rw [← hc] at lc
  have len := cont_len (l := l)
  rw [← hc] at len
  have hh := cont_hold (w := w) hl ha
  rw [← hc] at hh
  have e8 : plainAt env 8 := by unfold plainAt; rw [h8]; exact True.intro
  have hpl : plainD (.list ((cl.map fun c => PyData.bool (hold c w)))) = true := plainG (n := 1) (.lst fun d hd => by
    obtain ⟨c, _, rfl⟩ := List.mem_map.mp hd
    exact .bool) (by omega)
  refine Ev.to (e_cmp .eq (Ev.u (e_cmp .inn (Ev.u e_k) (EvL.u (e_compM (ls := cl) (h := Lit.d) (f := fun c => .bool (hold c w)) (sv_e (e_var h1) rfl) e8 (by omega) (by omega) fun c hcm => ?_)) (c_inL (by decide +kernel) hpl))) (Ev.u (e_call (a_co (e_var h0) (a_co (e_var h7) a_no)) (looks_r hl) (by rfl))) (c_eqD (by rfl))) ?_
  · refine e_call (a_co (e_var ?_) (a_co (e_var ?_) a_no)) (looks_r (lc c hcm)) (by rfl)
    · rw [List.getElem?_set_self (by omega)]
    · rw [List.getElem?_set_ne (by decide), h7]
  · have e1 : ((cl.map fun c => PyData.bool (hold c w)).any fun y => PyData.eqv y (.bool true)) = cl.any fun c => hold c w := by
      rw [List.any_map]
      congr 1
      funext c
      show PyData.eqv (.bool (hold c w)) (.bool true) = hold c w
      rw [eqv_bool]
      cases hold c w <;> rfl
    rw [e1, hh, eqv_bool]
    cases hold l w <;> rfl
end

section
theorem atI_lastS {ts : List Str} (h : ts ≠ []) : ∃ t, atI (ts.map PyData.str) (-1) = some (.str t) := by
  refine ⟨ts.getLast h, ?_⟩
  have e : ts.map PyData.str = (ts.dropLast.map PyData.str) ++ [.str (ts.getLast h)] := by
    conv => lhs; rw [← List.dropLast_concat_getLast h]
    rw [List.map_append]; rfl
  rw [e]
  exact L2.atI_last _ _
theorem is_contrary_r {l : Lit} (hl : LOk l) : RtF F__law_is_contrary [l.d] (.bool true) := fun P PX q => by
  unfold F__law_is_contrary
  refine sem_go fun k X hk => ?_
  have lg := lit_g hl
  have clk := cont_ok hl
  have cll := cont_len (l := l)
  apply nx_asgE (v := contD l)
  · exact e_call (a_co (e_var (by rfl)) a_no) contrary_r (by rfl)
  · rfl
  have fin : ∀ {env : Vx.Env}, k.rt (.o (.d (.bool true))) env := by
    intro env
    refine rt_go hk ?_
    trivial
    exact q
  refine nx_ifE (p := isTop l) (Ev.to (e_cmp .eq (Ev.u (e_var (by rfl))) (Ev.u (e_tup (a_co e_k (a_co e_k (a_co e_k a_no))) (Nat.le_of_ble_eq_true rfl))) (c_eqD (eqOk_of (plainG lg (by omega)) (by decide +kernel)))) (congrArg PyData.bool top_eqv)) ?_
  cases htop : isTop l with
  | true =>
    rw [if_pos rfl]
    apply nx_retE (v := .bool true)
    · refine Ev.to (e_cmp .is (Ev.u (e_var (by rfl))) (Ev.u e_k) c_isN) ?_
      have : contL l = [] := by
        cases l with
        | town o zs => cases htop
        | kin o m => cases htop
        | age f e =>
          cases e with
          | some x => rw [show isTop (.age f (some x)) = (decide (f = 0) && false) from rfl, Bool.and_false] at htop; cases htop
          | none =>
            rw [show isTop (.age f none) = (decide (f = 0) && true) from rfl, Bool.and_true] at htop
            have := of_decide_eq_true htop
            subst this
            rfl
      unfold contD
      rw [this]; rfl
    exact fin
  | false =>
    rw [if_neg (by decide)]
    refine nx_nil ?_
    have hne := cont_ne hl htop
    have eD : contD l = .tuple ((contL l).map Lit.d) := by
      unfold contD
      cases h : contL l with
      | nil => exact absurd h hne
      | cons _ _ => rfl
    rw [eD]
    obtain ⟨cl, hcl⟩ : ∃ cl, cl = contL l := ⟨_, rfl⟩
    rw [← hcl] at clk cll hne ⊢
    have cpl : plainD (.tuple (cl.map Lit.d)) = true := plainG (n := 3) (.tup fun d hd => by
      obtain ⟨c, hc, rfl⟩ := List.mem_map.mp hd
      exact lit_g (clk c hc)) (by omega)
    have hem : (cl.map Lit.d).isEmpty = false := by
      cases cl with
      | nil => exact absurd rfl hne
      | cons _ _ => rfl
    show Nx w__law_is_contrary_3 X [some (.d l.d), some (.d (.tuple (cl.map Lit.d))), none, none, none, none, none, none, none, none, none] k
    refine nx_ifE (p := false) (Ev.to (e_or (p := false) (q := false) (Ev.to (e_not (e_isi (x := .tuple (cl.map Lit.d)) (Ev.u (e_var (by rfl))))) (by rfl)) fun _ => Ev.to (e_or (p := false) (q := false) (Ev.to (e_cmp .eq (Ev.u (e_var (by rfl))) (Ev.u (e_tup a_no (Nat.le_of_ble_eq_true rfl))) (cx_eqT0 (x := .tuple (cl.map Lit.d)) cpl)) ?_) fun _ => ?_) (by rfl)) (by rfl)) ?_
    · show PyData.bool (true && (cl.map Lit.d).isEmpty) = _
      rw [hem]; rfl
    · refine Ev.to (e_cmp .ne (EvL.u (e_compF (ds := cl.map Lit.d) (g := fun _ => false) (f := fun y => y) (sv_e (e_var (by rfl)) rfl) True.intro (Nat.le_of_ble_eq_true rfl) (by rw [List.length_map]; omega) (fun y hy => ?_) fun y _ h => e_var (by rfl))) (EvL.u (e_lst a_no (Nat.le_of_ble_eq_true rfl))) (c_neNil ?_)) ?_
      · obtain ⟨c, hc, rfl⟩ := List.mem_map.mp hy
        exact Ev.to (e_not (e_call (a_co (e_var (by rfl)) a_no) (llit_t (clk c hc)) (by rfl))) (by rfl)
      · rw [filter_none0]; exact plain_strs (zs := []) nofun
      · rw [filter_none0]; rfl
    rw [if_neg (by decide)]
    refine nx_nil (nx_asg ?_)
    unfold wCall
    refine (a_co (v := .tuple ((l :: cl).map Lit.d)) (e_bin .add (Ev.u (e_tup (a_co (e_var (by rfl)) a_no) (Nat.le_of_ble_eq_true rfl))) (Ev.u (e_var (by rfl))) (b_addT (xs := [l.d]) (by rw [List.length_map]; show 1 + _ ≤ _; omega))) a_no) _ _ ?_
    trivial
    refine few_ok (ls := l :: cl) (all_cons hl clk) (by rw [List.length_cons]; omega) fun a2 a4 ts ags ms tne tl ag al ml => ?_
    trivial
    show Nx w__law_is_contrary_6 X (cE l cl a2 ts (some (.d (.list (ags.map PyData.int)))) a4 (PyData.none :: ms.map PyData.int) none none none) k
    refine nx_asg (setI_w (ns := ags ++ ags.map fun g => if g - 1 > 0 then g - 1 else 0) (EvL.u (EvL.to (e_catL (ds := ags.map PyData.int) (Ev.u (e_var (by rfl))) (EvL.u (e_compM (ls := ags) (h := PyData.int) (f := fun g => .int (if g - 1 > 0 then g - 1 else 0)) (sv_e (e_var (by rfl)) rfl) True.intro (Nat.le_of_ble_eq_true rfl) (by omega) fun g hg => ?_)) ?_) ?_)) ?_ fun gs a3 gl hgs => ?_)
    · exact e_prim _ (us_co (Ev.u e_k) (us_co (Ev.u (e_bin .sub (Ev.u (e_var (by rfl))) (Ev.u e_k) b_subI)) us_no)) fun Q q => q
    · rw [List.length_map, List.length_map]; omega
    · rw [List.map_append, List.map_map]; rfl
    · rw [List.length_append, List.length_map]; omega
    have g0 : ∀ g ∈ gs, 0 ≤ g := fun g hg => by
      rcases List.mem_append.mp ((hgs g).mp hg) with h | h
      · exact ag g h
      · obtain ⟨z, hz, rfl⟩ := List.mem_map.mp h
        split <;> omega
    have gl2 : gs.length ≤ 14 := by rw [List.length_append, List.length_map] at gl; omega
    refine ⟨by show 3 < 11; omega, ?_⟩
    show Nx w__law_is_contrary_7 X (cE l cl a2 ts (some (.lst a3 ((gs.map PyData.int).map .d))) a4 (PyData.none :: ms.map PyData.int) none none none) k
    have hms : ∀ x ∈ PyData.none :: ms.map PyData.int, x = .none ∨ ∃ m : Int, x = .int m := all_cons (.inl rfl) fun x hx => by
      obtain ⟨m, _, rfl⟩ := List.mem_map.mp hx
      exact .inr ⟨m, rfl⟩
    obtain ⟨bs, hbs⟩ : ∃ bs : List (Option Int), (PyData.none :: ms.map PyData.int) ++ ((PyData.none :: ms.map PyData.int).filter fun y => !isNone y && decide (0 < intD y)).map (fun y => PyData.int (intD y - 1)) = bs.map bondD := bonds_of (all_app (fun d hd => by
      rcases hms d hd with rfl | ⟨m, rfl⟩
      · exact ⟨none, rfl⟩
      · exact ⟨some m, rfl⟩) fun d hd => by
      obtain ⟨y, _, rfl⟩ := List.mem_map.mp hd
      exact ⟨some (intD y - 1), rfl⟩)
    have bsl : (bs.map bondD).length ≤ 10 := by
      rw [← hbs, List.length_append, List.length_map]
      have := List.length_filter_le (fun y => !isNone y && decide (0 < intD y)) (PyData.none :: ms.map PyData.int)
      have e : (PyData.none :: ms.map PyData.int).length = ms.length + 1 := by rw [List.length_cons, List.length_map]
      omega
    apply nx_asgLE (ds := bs.map bondD)
    · rw [← hbs]
      refine e_catL (u_own (by rfl)) (EvL.u (e_compFO (by rfl) (by decide) True.intro (Nat.le_of_ble_eq_true rfl) (by rw [List.length_cons, List.length_map]; omega) (fun x hx => ?_) fun x hx hg => ?_)) ?_
      · rcases hms x hx with rfl | ⟨m, rfl⟩
        · exact Ev.to (e_and (p := false) (q := false) (e_cmp .isNot (Ev.u (e_var (by rfl))) (Ev.u e_k) c_notN) fun h => by cases h) (by rfl)
        · exact e_and (e_cmp .isNot (Ev.u (e_var (by rfl))) (Ev.u e_k) c_notN) fun _ => e_cmp .gt (Ev.u (e_var (by rfl))) (Ev.u e_k) c_gt
      · rcases hms x hx with rfl | ⟨m, rfl⟩
        · cases hg
        · exact e_bin .sub (Ev.u (e_var (by rfl))) (Ev.u e_k) b_subI
      · rw [← List.length_append, hbs]; omega
    · rfl
    intro a6
    apply nx_asgLE (ds := [])
    · exact e_lst a_no (Nat.le_of_ble_eq_true rfl)
    · rfl
    intro a5
    show Nx w__law_is_contrary_9 X (cE l cl a2 ts (some (.lst a3 ((gs.map PyData.int).map .d))) a6 (bs.map bondD) (some (.lst a5 (([] : List D).map .d))) none none) k
    obtain ⟨t0, ht0⟩ : ∃ t0, atI (ts.map PyData.str) (0 : Int) = some (.str t0) := by
      cases ts with
      | nil => exact absurd rfl tne
      | cons t ts => exact ⟨t, atI_nat (ds := (t :: ts).map PyData.str) (n := 0) (by simp)⟩
    obtain ⟨t1, ht1⟩ := atI_lastS tne
    apply nx_forE (s := ⟨gs.map PyData.int, some (a3, 3, [])⟩)
    · exact sv_own (by rfl)
    refine loop_run (s := ⟨gs.map PyData.int, some (a3, 3, [])⟩) (fun i env => ∃ (us : List Who) (y6 : Option O), env = cE l cl a2 ts (some (.lst a3 ((gs.map PyData.int).map .d))) a6 (bs.map bondD) (some (.lst a5 ((us.map Who.d).map .d))) y6 none ∧ (∀ u ∈ us, 0 ≤ u.a) ∧ us.length ≤ 40 * i) (fun i env ⟨us, y6, e, _⟩ => by subst e; rfl) ?_ ⟨[], none, rfl, nofun, Nat.le_refl _⟩ ?_
    · rintro i x env K hx ⟨us, y6, rfl, hu, ul⟩ hK
      have hx : (gs.map PyData.int)[i]? = some x := hx
      have hi : i < 14 := by
        have := (List.getElem?_eq_some_iff.mp hx).1
        rw [List.length_map] at this; omega
      obtain ⟨g, hg, rfl⟩ := List.mem_map.mp (List.mem_of_getElem? hx)
      trivial
      simp_wf
      show Nx w__law_is_contrary_10 X (cE l cl a2 ts (some (.lst a3 ((gs.map PyData.int).map .d))) a6 (bs.map bondD) (some (.lst a5 ((us.map Who.d).map .d))) (some (.d (.int g))) none) _
      apply nx_extE (ds := (ts.map fun t => Who.d ⟨t, g, none⟩))
      · refine EvL.to (e_compO (ds := ts.map PyData.str) (f := fun x => .tuple [x, .int g, .none]) (by rfl) (by decide) True.intro (Nat.le_of_ble_eq_true rfl) (by rw [List.length_map]; omega) fun x hx => ?_) (by rw [List.map_map]; rfl)
        exact e_tup (a_co (e_var (by rfl)) (a_co (e_var (by rfl)) (a_co e_k a_no))) (Nat.le_of_ble_eq_true rfl)
      · rfl
      · rw [List.length_map, List.length_map, List.length_map]; omega
      have e1 : (us.map Who.d).map O.d ++ (ts.map fun t => Who.d ⟨t, g, none⟩).map O.d = ((us ++ ts.map fun t => (⟨t, g, none⟩ : Who)).map Who.d).map O.d := by simp
      rw [e1]
      have u2 : ∀ u ∈ us ++ ts.map fun t => (⟨t, g, none⟩ : Who), 0 ≤ u.a := all_app hu fun u h => by
        obtain ⟨t, _, rfl⟩ := List.mem_map.mp h
        exact g0 g hg
      have ul2 : (us ++ ts.map fun t => (⟨t, g, none⟩ : Who)).length ≤ 40 * i + 13 := by rw [List.length_append, List.length_map]; omega
      show Nx w__law_is_contrary_11 X (cE l cl a2 ts (some (.lst a3 ((gs.map PyData.int).map .d))) a6 (bs.map bondD) (some (.lst a5 (((us ++ ts.map fun t => (⟨t, g, none⟩ : Who)).map Who.d).map .d))) (some (.d (.int g))) none) _
      generalize (us ++ ts.map fun t => (⟨t, g, none⟩ : Who)) = us2 at u2 ul2
      apply nx_extE (ds := (bs.map fun b => Who.d ⟨t0, g, b⟩) ++ bs.map fun b => Who.d ⟨t1, g, b⟩)
      · refine e_catL (EvL.u (EvL.to (e_compO (ds := bs.map bondD) (f := fun x => .tuple [.str t0, .int g, x]) (by rfl) (by decide) True.intro (Nat.le_of_ble_eq_true rfl) (by omega) fun x hx => ?_) (by rw [List.map_map]; rfl))) (EvL.u (EvL.to (e_compO (ds := bs.map bondD) (f := fun x => .tuple [.str t1, .int g, x]) (by rfl) (by decide) True.intro (Nat.le_of_ble_eq_true rfl) (by omega) fun x hx => ?_) (by rw [List.map_map]; rfl))) (by rw [List.length_map, List.length_map]; rw [List.length_map] at bsl; omega)
        · exact e_tup (a_co (e_ixO (by rfl) (Ev.u e_k) ht0) (a_co (e_var (by rfl)) (a_co (e_var (by rfl)) a_no))) (Nat.le_of_ble_eq_true rfl)
        · exact e_tup (a_co (e_ixO (by rfl) (Ev.u (fun PX P q => q)) ht1) (a_co (e_var (by rfl)) (a_co (e_var (by rfl)) a_no))) (Nat.le_of_ble_eq_true rfl)
      · rfl
      · rw [List.length_map] at bsl
        rw [List.length_map, List.length_map, List.length_append, List.length_map, List.length_map]; omega
      have e2 : (us2.map Who.d).map O.d ++ ((bs.map fun b => Who.d ⟨t0, g, b⟩) ++ bs.map fun b => Who.d ⟨t1, g, b⟩).map O.d = ((us2 ++ ((bs.map fun b => (⟨t0, g, b⟩ : Who)) ++ bs.map fun b => (⟨t1, g, b⟩ : Who))).map Who.d).map O.d := by
        simp only [List.map_append, List.map_map]
        rfl
      rw [e2]
      refine nx_nil (hK _ ⟨us2 ++ ((bs.map fun b => (⟨t0, g, b⟩ : Who)) ++ bs.map fun b => (⟨t1, g, b⟩ : Who)), some (.d (.int g)), rfl, all_app u2 (all_app (fun u h => ?_) fun u h => ?_), ?_⟩)
      · obtain ⟨t, _, rfl⟩ := List.mem_map.mp h
        exact g0 g hg
      · obtain ⟨t, _, rfl⟩ := List.mem_map.mp h
        exact g0 g hg
      · rw [List.length_map] at bsl
        rw [List.length_append, List.length_append, List.length_map, List.length_map]; omega
    · rintro env ⟨us, y6, rfl, hu, ul⟩
      apply nx_forE (s := ⟨us.map Who.d, some (a5, 5, [])⟩)
      · exact sv_own (by rfl)
      refine loop_run (s := ⟨us.map Who.d, some (a5, 5, [])⟩) (fun i env => ∃ y7, env = cE l cl a2 ts (some (.lst a3 ((gs.map PyData.int).map .d))) a6 (bs.map bondD) (some (.lst a5 ((us.map Who.d).map .d))) y6 y7) (fun i env ⟨y7, e⟩ => by subst e; rfl) ?_ ⟨none, rfl⟩ ?_
      · rintro i x env K hx ⟨y7, rfl⟩ hK
        have hx : (us.map Who.d)[i]? = some x := hx
        obtain ⟨u, hum, rfl⟩ := List.mem_map.mp (List.mem_of_getElem? hx)
        trivial
        simp_wf
        refine nx_ifE (kind_ok hl hcl (hu u hum) (by rfl) (by rfl) (by rfl) (by rfl) (by rfl)) ?_
        rw [if_neg (by decide)]
        exact nx_nil (nx_nil (hK _ ⟨some (.d u.d), rfl⟩))
      · rintro env ⟨y7, rfl⟩
        apply nx_retE (v := .bool true)
        · exact e_k
        exact fin
theorem tap_ok {ns : List Int} {P : O → List O → Prop} {PX : Exn → List O → Prop}
    (h : ∀ (a : Addr) xs, Tap xs 0 → P (tp a xs) [.d (.list (ns.map PyData.int))]) : F__law_tap [.d (.list (ns.map PyData.int))] P PX := by
  unfold F__law_tap
  refine sem_go fun k X hk => ?_
  clean_wf
  trivial
  rw [O.toDs_map, O.toDs_map, cut_to (by decide), ← List.map_take]
  exact h _ _ ⟨ns.take 63, 0, 0, 0, rfl, by omega, by omega, by omega, by omega⟩
theorem holds (ns : List Int) (_ : ns.length ≤ 63) : F_law [.d (.list (ns.map PyData.int))] (fun r _ => r = .d (.bool true)) fun _ _ => False := by
  unfold F_law
  refine sem_go fun k X hk => ?_
  clean_wf
  refine tap_ok fun a xs ht => ?_
  trivial
  simp_wf
  clean_wf
  refine towns_ok ht (by omega) fun b ys xs1 hy ht => ?_
  trivial
  simp_wf
  have hyl := hy.len
  refine nx_asg ?_
  unfold wBin
  refine (e_lst (vs := [Lit.age 0 none, Lit.age 0 (some 5), Lit.age 5 none].map Lit.d) (a_co (e_tup (a_co e_k (a_co e_k (a_co e_k a_no))) (Nat.le_of_ble_eq_true rfl)) (a_co (e_tup (a_co e_k (a_co e_k (a_co e_k a_no))) (Nat.le_of_ble_eq_true rfl)) (a_co (e_tup (a_co e_k (a_co e_k (a_co e_k a_no))) (Nat.le_of_ble_eq_true rfl)) a_no))) (Nat.le_of_ble_eq_true rfl)) _ _ fun c1 => ?_
  refine w_comp ?_
  trivial
  refine comp_run (s := ⟨Vx.upTo 0 (12 : Int).toNat, none⟩) (fun i env acc => ∃ (xs' : List O) (ls : List Lit), env = [some (.d (.list (ns.map PyData.int))), some (tp a xs'), some (towO b ys), none, none, none] ∧ acc = (ls.map Lit.d).map O.d ∧ ls.length = i ∧ (∀ l ∈ ls, LOk l) ∧ Tap xs' (10 + 20 * i)) (fun _ _ _ _ => True.intro) ?_ ⟨xs1, [], rfl, rfl, rfl, nofun, ht⟩ ?_
  · rintro i x env acc K hx ⟨xs', ls, rfl, rfl, hl, hv, ht⟩ hK
    obtain ⟨hi, rfl⟩ := upTo_at hx
    have hi : i < 12 := hi
    trivial
    refine literal_ok ht (by omega) hy fun l xs5 lok ht => ?_
    trivial
    refine And.intro (small (by rw [List.length_map, List.length_map]; omega)) ?_
    simp_wf
    exact hK _ _ ⟨xs5, ls ++ [l], rfl, by rw [List.map_append, List.map_append]; rfl, by rw [List.length_append, hl]; rfl, all_app hv (all_one (lok_of lok hy)), ht.mono (by omega)⟩
  · rintro env acc ⟨xs5, ls, rfl, rfl, hl, hv, ht⟩
    rename_i c2
    have hl : ls.length = 12 := by rw [hl]; exact upTo_len
    intro _
    refine useO ?_
    rw [toD_lst]
    refine useO ?_
    rw [toD_lst]
    refine ⟨Nat.le_of_lt (small (by rw [List.length_map, List.length_map, hl]; exact Nat.le_of_ble_eq_true rfl)), fun c3 => ?_⟩
    have all : ∀ l ∈ [Lit.age 0 none, Lit.age 0 (some 5), Lit.age 5 none] ++ ls, LOk l := all_app (all_cons ⟨by omega, by omega, nofun⟩ (all_cons ⟨by omega, by omega, fun x e => by cases e; omega⟩ (all_one ⟨by omega, by omega, nofun⟩))) hv
    have lal : ([Lit.age 0 none, Lit.age 0 (some 5), Lit.age 5 none] ++ ls).length ≤ 15 := by rw [List.length_append, hl]; exact Nat.le_refl _
    rw [← List.map_append (f := Lit.d)]
    generalize [Lit.age 0 none, Lit.age 0 (some 5), Lit.age 5 none] ++ ls = ks at all lal
    refine ⟨by show 3 < 6; omega, ?_⟩
    show Nx w_law_3 X [some (.d (.list (ns.map PyData.int))), some (tp a xs5), some (towO b ys), some (.lst c3 ((ks.map Lit.d).map .d)), none, none] k
    apply nx_retE (v := .bool true)
    · refine Ev.to (e_cmp .eq (EvL.u (e_compFO (ds := ks.map Lit.d) (g := fun _ => false) (f := fun y => y) (by rfl) (by decide) True.intro (Nat.le_of_ble_eq_true rfl) (by rw [List.length_map]; omega) (fun y hy => ?_) fun y _ h => e_var (by rfl))) (EvL.u (e_lst a_no (Nat.le_of_ble_eq_true rfl))) (c_eqNil ?_)) ?_
      · obtain ⟨c, hc, rfl⟩ := List.mem_map.mp hy
        exact Ev.to (e_not (e_call (a_co (e_var (by rfl)) a_no) (is_contrary_r (all c hc)) (by rfl))) (by rfl)
      · rw [filter_none0]; exact plain_strs (zs := []) nofun
      · rw [filter_none0]; rfl
    refine rt_go hk ?_
    trivial
    exact rfl
end

end VL
open PySem PySem.W PyProof.Rows
set_option maxHeartbeats 0 in
theorem PySem.Challenge.cw_almsrow_k06_contraries_holds : PySem.Challenge.rw_almsrow_k06_contraries.Holds := by
  w_on; o_law; k_head; (case hw => w_witness2)
  k_fill
  refine Vx.walk_V (l := PySem.Challenge.rw_almsrow_k06_contraries) (n := 63) (k := 4) (x := "_law_script") (F := VL.F_law) rfl (by decide) rfl ⟨rfl, by decide, by decide⟩ (fun w h Y => PySem.W.kIn_of Y) ?F VL.holds
  case F =>
    intro w mg fa h KX G hmg
    refine' VL.all_mk KX G hmg ?a0 ?l0 ?c0 ?k0 ?a1 ?l1 ?c1 ?k1 ?a2 ?l2 ?c2 ?k2 ?a3 ?l3 ?c3 ?k3 ?a4 ?l4 ?c4 ?k4 ?a5 ?l5 ?c5 ?k5 ?a6 ?l6 ?c6 ?k6 ?a7 ?l7 ?c7 ?k7 ?a8 ?l8 ?c8 ?k8 ?a9 ?l9 ?c9 ?k9 ?a10 ?l10 ?c10 ?k10 ?a11 ?l11 ?c11 ?k11 ?a12 ?l12 ?c12 ?k12 ?a13 ?l13 ?c13 ?k13 ?z_bool ?z_int ?z_isinstance ?z_len ?z_list ?z_max ?z_min ?z_range ?z_set ?z_sorted ?z_str ?z_tuple
    (case a0 => k_is); (case l0 => k_is); (case c0 => k_is); (case k0 => k_is); (case a1 => k_is); (case l1 => k_is); (case c1 => k_is); (case k1 => k_is); (case a2 => k_is); (case l2 => k_is); (case c2 => k_is); (case k2 => k_is); (case a3 => k_is); (case l3 => k_is); (case c3 => k_is); (case k3 => k_is); (case a4 => k_is); (case l4 => k_is); (case c4 => k_is); (case k4 => k_is); (case a5 => k_is); (case l5 => k_is); (case c5 => k_is); (case k5 => k_is); (case a6 => k_is); (case l6 => k_is); (case c6 => k_is); (case k6 => k_is); (case a7 => k_is); (case l7 => k_is); (case c7 => k_is); (case k7 => k_is); (case a8 => k_is); (case l8 => k_is); (case c8 => k_is); (case k8 => k_is); (case a9 => k_is); (case l9 => k_is); (case c9 => k_is); (case k9 => k_is); (case a10 => k_is); (case l10 => k_is); (case c10 => k_is); (case k10 => k_is); (case a11 => k_is); (case l11 => k_is); (case c11 => k_is); (case k11 => k_is); (case a12 => k_is); (case l12 => k_is); (case c12 => k_is); (case k12 => k_is); (case a13 => k_is); (case l13 => k_is); (case c13 => k_is); (case k13 => k_is); (case z_bool => k_is); (case z_int => k_is); (case z_isinstance => k_is); (case z_len => k_is); (case z_list => k_is); (case z_max => k_is); (case z_min => k_is); (case z_range => k_is); (case z_set => k_is); (case z_sorted => k_is); (case z_str => k_is); (case z_tuple => k_is)

