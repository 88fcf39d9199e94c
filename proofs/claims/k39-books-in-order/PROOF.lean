import PyProof.Rows.All
import Wide.All
import OpenK.AllK
import Wide.FinOn
import HandS.ForMost
import HandS.Exc
import HandS.ExcInit
import HandS.ExcCtx
import HandS.ExcIs
import HandS.ExcField
import KE.KExcIs
import HandS.IsInst
import HandS.TupMul
import HandS.Wide
import HandS.TupAny
import PyProof.StrOps2
import HandS.Deep
import HandS.SortRule
import KE.KTupSum
import HandS.TupLe
import HandS.Style
import HandS.Dict
import HandS.Iter
import KE.GoesEnum
import HandS.NoneIn
import HandS.ExcOwn
import HandS.Small
import HandS.Ends
import HandS.Replace
import HandS.RaiseMore
import HandS.Zip
import KE.KIntText
import KE.KStrOpen
import HandS.Strs
import HandS.ExcValue
import HandS.Hot
import HandS.TryOnly
import HandS.HotCalls
import KE.KSortTupG
import KE.DataFind
import HandS.SetFor
import HandS.Conv
import KE.DataMinMax
import HandS.SortKw
import PyProof.AutoSeq1
import PyProof.TupleOfStr
import KE.KIndexOf
import KE.KDictPairs
import HandS.More
import PyProof.Rows.SortShellAny
import KE.SortKeyHeap
import HandS.Keys
import KE.KDictCopyH
import KE.KDictSum
import KE.LtData
import PySem.Challenge.RW_almsrow_k39_books_in_order
set_option Elab.async false
set_option linter.all false
set_option maxRecDepth 100000
set_option autoImplicit false
namespace Vx
open PySem PySem.Spec PyProof.Rows L2
abbrev D := PyData
abbrev Fz := Addr → Prop
def fixedO : HO → Bool
  | .tup _ => true
  | .frz _ (.dK _) => false
  | .frz _ _ => true
  | .xd _ => true
  | .own _ => true
  | .met _ _ => true
  | .rng _ _ => true
  | .tbl _ => true
  | _ => false
structure Kp (S S' : Fz) (H H' : Hp) : Prop where
  s : ∀ a, S a → S' a
  h : ∀ a, S a → H' a = H a
  i : ∀ a o, H a = some o → fixedO o = true → H' a = some o
theorem Kp.refl {S : Fz} {H : Hp} : Kp S S H H := ⟨fun _ h => h, fun _ _ => rfl, fun _ _ h _ => h⟩
theorem Kp.trans {S S1 S2 : Fz} {H H1 H2 : Hp} (a : Kp S S1 H H1) (b : Kp S1 S2 H1 H2) : Kp S S2 H H2 :=
  ⟨fun x h => b.s x (a.s x h), fun x h => (b.h x (a.s x h)).trans (a.h x h), fun x o h f => b.i x o (a.i x o h f) f⟩
theorem Kp.t {S S' : Fz} {H H' : Hp} (k : Kp S S' H H') (a : Addr) (xs : List V) (h : H a = some (.tup xs)) : H' a = some (.tup xs) := k.i a _ h rfl
theorem Kp.z {S S' : Fz} {H H' : Hp} (k : Kp S S' H H') (a : Addr) (o : Obj) (u : HO) (h : H a = some (.frz o u)) (hf : fixedO (.frz o u) = true := by rfl) : H' a = some (.frz o u) := k.i a _ h hf
theorem Kp.more {S S' : Fz} {H : Hp} (h : ∀ a, S a → S' a) : Kp S S' H H := ⟨h, fun _ _ => rfl, fun _ _ h _ => h⟩
theorem Kp.new {S : Fz} {H : Hp} {p : Addr} {o : HO} (hp : H p = none) (hs : ∀ a, S a → H a ≠ none) : Kp S S H (upd H p o) := by
  refine ⟨fun _ h => h, fun a h => ?_, fun a ob h _ => ?_⟩
  · exact upd_ne fun e => hs a h (by rw [e]; exact hp)
  · rw [upd_ne (ne_of_none h hp)]; exact h
theorem Kp.putO {S : Fz} {H : Hp} {p : Addr} {u o : HO} (hp : H p = some u) (hu : fixedO u = false) (hs : ¬ S p) : Kp S S H (upd H p o) := by
  refine ⟨fun _ h => h, fun a h => ?_, fun a ob h f => ?_⟩
  · exact upd_ne fun e => hs (by rw [← e]; exact h)
  · rw [upd_ne (ne_of h hp (by intro z; rw [z] at f; rw [f] at hu; cases hu))]; exact h
theorem Kp.put {S : Fz} {H : Hp} {p : Addr} {xs : List V} {o : HO} (hp : H p = some (.lst xs)) (hs : ¬ S p) : Kp S S H (upd H p o) := by
  refine ⟨fun _ h => h, fun a h => ?_, fun a ob h f => ?_⟩
  · exact upd_ne fun e => hs (by rw [← e]; exact h)
  · rw [upd_ne (ne_of h hp (by intro z; rw [z] at f; cases f))]; exact h
def FzL (K : PySem.W.Frag) (S : Fz) (H : Hp) (a : Addr) (xs : List V) : Prop :=
  (S a ∧ H a = some (.lst xs)) ∨ (∃ o, H a = some (.frz o (.lst xs))) ∨
    ∃ (o : Obj) (its : Array Value) (n : Nat), K.lookup a = some o ∧ o.cls = .type "list" ∧ o.dict = none ∧ o.data = .seq its n ∧ its.size ≤ sizeLine ∧ Vals xs its.toList
theorem FzL.sq {K : PySem.W.Frag} {S : Fz} {H : Hp} {a : Addr} {xs : List V} (h : FzL K S H a xs) : SqL K H a xs := by
  rcases h with h | h | h
  · exact .inl (.inl h.2)
  · exact .inl (.inr h)
  · exact .inr h
theorem FzL.kp {K : PySem.W.Frag} {S S' : Fz} {H H' : Hp} {a : Addr} {xs : List V} (k : Kp S S' H H') (h : FzL K S H a xs) : FzL K S' H' a xs := by
  rcases h with h | h | h
  · exact .inl ⟨k.s _ h.1, (k.h _ h.1).trans h.2⟩
  · obtain ⟨o, h⟩ := h
    exact .inr (.inl ⟨o, k.z _ _ _ h⟩)
  · exact .inr (.inr h)
def CqT (K : PySem.W.Frag) (H : Hp) (a : Addr) (xs : List V) : Prop :=
  (∃ o, H a = some (.frz o (.tup xs)) ∧ o.dict = none) ∨
    ∃ (o : Obj) (its : Array Value) (n : Nat), K.lookup a = some o ∧ o.cls = .type "tuple" ∧ o.dict = none ∧ o.data = .seq its n ∧ its.size ≤ sizeLine ∧ Vals xs its.toList
theorem CqT.sq {K : PySem.W.Frag} {H : Hp} {a : Addr} {xs : List V} (h : CqT K H a xs) : SqT K H a xs := by
  rcases h with ⟨o, h, _⟩ | ⟨o, its, n, h1, h2, _, h4, h5, h6⟩
  · exact .inl (.inr ⟨o, h⟩)
  · exact .inr ⟨o, its, n, h1, h2, h4, h5, h6⟩
theorem CqT.kp {K : PySem.W.Frag} {S S' : Fz} {H H' : Hp} {a : Addr} {xs : List V} (k : Kp S S' H H') (h : CqT K H a xs) : CqT K H' a xs := by
  rcases h with ⟨o, h, hd⟩ | h
  · exact .inl ⟨o, k.z _ _ _ h, hd⟩
  · exact .inr h
theorem CqT.new {K : PySem.W.Frag} {H : Hp} {a : Addr} {xs : List V} {o : Obj} (hd : o.dict = none) : CqT K (upd H a (.frz o (.tup xs))) a xs := .inl ⟨o, upd_same, hd⟩
abbrev tupO (its : Array Value) : Obj := { cls := .type "tuple", data := .seq its }
theorem new_tup {P : Program} {w : World} {H : Hp} {h : Heap} {xs : List V} {its : List Value} (hz : xs.length ≤ sizeLine) (r : Vals xs its) : ObjOk P w H (h.push (tupO its.toArray)) h.objs.size (.frz (tupO its.toArray) (.tup xs)) :=
  ⟨Heap.get?_push_size _ rfl, hz, its, r, IsTup.new _ _⟩
def keyD : Key → D
  | .inl i => .int i
  | .inr x => .str x
def exD (cls : Str) (ns : List Str) (ds : List D) : D := .dict [(.none, .str cls), (.none, .tuple (ns.map PyData.str)), (.none, .tuple ds)]
def exHO (a C dx : Addr) : HO := .ext fun h => ∃ (oe : Obj) (vs : Array Value), h.get? a = some oe ∧ L2N.Zn (.ref C) (some dx) oe ∧ oe.data = .fields vs
structure ExK (K : PySem.W.Frag) (C : Addr) (ns : List Str) : Prop where
  o : OexC K C
  c : ExcC K C
  f : ∀ n ∈ ns, PySem.W.findIn K (.ref C) n = some none
def lokD (ks : List Key) (ds : List D) : D := .dict [(.bool false, .list (ks.map keyD)), (.none, .list ds)]
def insD (cls : Str) (ns : List Str) (ds : List D) : D := .dict [(.bool true, .str cls), (.none, .tuple (ns.map PyData.str)), (.none, .tuple ds)]
def insTys : List String := ["int", "bool", "str", "tuple", "list"]
structure InsK (K : PySem.W.Frag) (cls : Str) (C : Addr) : Prop where
  n : PySem.W.nsIn K mainGlobals cls = some (some (.ref C))
  c : Cls K C
  ha : PySem.W.findIn K (.ref C) "__class__" = some (some (.builtin "object.__class__"))
  hn : PySem.W.specialIn K (.builtin "object.__class__") "__get__" = some (some (.builtin "getset_descriptor.__get__"))
  ht : PySem.W.takesIn K (.builtin "object.__class__") = some true
  hm : PySem.W.mroIn K C (.type "object") = some true
  ty : ∀ T ∈ insTys, PySem.W.kitOne K (.ref C) (.type T) = some false
theorem InsK.eq {K : PySem.W.Frag} {cls : Str} {C C' : Addr} (h : InsK K cls C) (h' : InsK K cls C') : C = C' := by
  have e := h.n.symm.trans h'.n
  cases e; rfl
mutual
/-- v stands for the data d -/
inductive Rp (K : PySem.W.Frag) (S : Fz) (H : Hp) : V → D → Prop
  | non : Rp K S H .non .none
  | bl (b : Bool) : Rp K S H (.bl b) (.bool b)
  | int (i : Int) : Rp K S H (.int i) (.int i)
  | str (x : Str) : Rp K S H (.str x) (.str x)
  | lst {a : Addr} {xs : List V} {ds : List D} : FzL K S H a xs → RpA K S H xs ds → Rp K S H (.ref a) (.list ds)
  | tup {a : Addr} {xs : List V} {ds : List D} : CqT K H a xs → RpA K S H xs ds → Rp K S H (.ref a) (.tuple ds)
  | dct {a : Addr} {ks : List Key} {xs : List V} {ds : List D} : S a → H a = some (.dK (ks.zip xs)) → ks.length = xs.length → RpA K S H xs ds → Rp K S H (.ref a) (.dict ((ks.map keyD).zip ds))
  | dcl {a : Addr} {o : Obj} {ks : List Key} {xs : List V} {ds : List D} : S a → H a = some (.frz o (.dK (ks.zip xs))) → ks.length = xs.length → ks.Nodup → RpA K S H xs ds → Rp K S H (.ref a) (lokD ks ds)
  | ex {a C dx : Addr} {cls : Str} {ns : List Str} {xs : List V} {ds : List D} : S a → S dx → H a = some (exHO a C dx) → H dx = some (.xd (ns.zip xs)) → ns.length = xs.length → PySem.W.nsIn K mainGlobals cls = some (some (.ref C)) → ExK K C ns → RpA K S H xs ds → Rp K S H (.ref a) (exD cls ns ds)
  | ins {a C dx : Addr} {cls : Str} {ns : List Str} {xs : List V} {ds : List D} : S a → H a = some (.ins C dx (ns.zip xs)) → ns.length = xs.length → InsK K cls C → RpA K S H xs ds → Rp K S H (.ref a) (insD cls ns ds)
inductive RpA (K : PySem.W.Frag) (S : Fz) (H : Hp) : List V → List D → Prop
  | nil : RpA K S H [] []
  | cons {v : V} {d : D} {vs : List V} {ds : List D} : Rp K S H v d → RpA K S H vs ds → RpA K S H (v :: vs) (d :: ds)
end
section
variable {K : PySem.W.Frag} {S S' : Fz} {H H' : Hp}
mutual
theorem Rp.kp (k : Kp S S' H H') : ∀ {v : V} {d : D}, Rp K S H v d → Rp K S' H' v d
  | _, _, .non => .non
  | _, _, .bl b => .bl b
  | _, _, .int i => .int i
  | _, _, .str x => .str x
  | _, _, .lst h r => .lst (h.kp k) (RpA.kp k r)
  | _, _, .tup h r => .tup (h.kp k) (RpA.kp k r)
  | _, _, .dct h e hl r => .dct (k.s _ h) ((k.h _ h).trans e) hl (RpA.kp k r)
  | _, _, .dcl h e hl hn r => .dcl (k.s _ h) ((k.h _ h).trans e) hl hn (RpA.kp k r)
  | _, _, .ex h h2 e e2 hl hn hk r => .ex (k.s _ h) (k.s _ h2) ((k.h _ h).trans e) ((k.h _ h2).trans e2) hl hn hk (RpA.kp k r)
  | _, _, .ins h e hl hk r => .ins (k.s _ h) ((k.h _ h).trans e) hl hk (RpA.kp k r)
theorem RpA.kp (k : Kp S S' H H') : ∀ {vs : List V} {ds : List D}, RpA K S H vs ds → RpA K S' H' vs ds
  | _, _, .nil => .nil
  | _, _, .cons a b => .cons (Rp.kp k a) (RpA.kp k b)
end
mutual
theorem Rp.dp : ∀ {v : V} {d : D}, Rp K S H v d → d.hasDict = false → Dp K H v d
  | _, _, .non, _ => .non
  | _, _, .bl b, _ => .bl b
  | _, _, .int i, _ => .int i
  | _, _, .str x, _ => .str x
  | _, _, .lst h r, q => .lst h.sq (RpA.dp r (by simpa only [PyData.hasDict] using q))
  | _, _, .tup h r, q => .tup h.sq (RpA.dp r (by simpa only [PyData.hasDict] using q))
  | _, _, .dct _ _ _ _, q => by simp only [PyData.hasDict] at q; cases q
  | _, _, .dcl _ _ _ _ _, q => by simp only [lokD, PyData.hasDict] at q; cases q
  | _, _, .ex _ _ _ _ _ _ _ _, q => by simp only [exD, PyData.hasDict] at q; cases q
  | _, _, .ins _ _ _ _ _, q => by simp only [insD, PyData.hasDict] at q; cases q
theorem RpA.dp : ∀ {vs : List V} {ds : List D}, RpA K S H vs ds → PyData.hasDictAll ds = false → DpAll K H vs ds
  | _, _, .nil, _ => .nil
  | _, _, .cons a b, q => by
    simp only [PyData.hasDictAll, Bool.or_eq_false_iff] at q
    exact .cons (Rp.dp a q.1) (RpA.dp b q.2)
end
theorem RpA.length : ∀ {vs : List V} {ds : List D}, RpA K S H vs ds → vs.length = ds.length
  | _, _, .nil => rfl
  | _, _, .cons _ b => congrArg (· + 1) (RpA.length b)
theorem RpA.get : ∀ {vs : List V} {ds : List D} {i : Nat} {v : V}, RpA K S H vs ds → vs[i]? = some v → ∃ d, ds[i]? = some d ∧ Rp K S H v d
  | _, _, _, _, .nil, e => by simp at e
  | _, _, 0, _, .cons a _, e => by simp at e; subst e; exact ⟨_, rfl, a⟩
  | _, _, i + 1, _, .cons _ b, e => by
    obtain ⟨d, h1, h2⟩ := RpA.get (i := i) b (by simpa using e)
    exact ⟨d, by simpa using h1, h2⟩
theorem RpA.getD : ∀ {vs : List V} {ds : List D} {i : Nat} {d : D}, RpA K S H vs ds → ds[i]? = some d → ∃ v, vs[i]? = some v ∧ Rp K S H v d
  | _, _, _, _, .nil, e => by simp at e
  | _, _, 0, _, .cons a _, e => by simp at e; subst e; exact ⟨_, rfl, a⟩
  | _, _, i + 1, _, .cons _ b, e => by
    obtain ⟨d, h1, h2⟩ := RpA.getD (i := i) b (by simpa using e)
    exact ⟨d, by simpa using h1, h2⟩
theorem RpA.append : ∀ {vs ws : List V} {ds es : List D}, RpA K S H vs ds → RpA K S H ws es → RpA K S H (vs ++ ws) (ds ++ es)
  | _, _, _, _, .nil, s => s
  | _, _, _, _, .cons r t, s => .cons r (RpA.append t s)
theorem RpA.take : ∀ {vs : List V} {ds : List D} (n : Nat), RpA K S H vs ds → RpA K S H (vs.take n) (ds.take n)
  | _, _, 0, _ => .nil
  | _, _, _ + 1, .nil => .nil
  | _, _, n + 1, .cons r t => .cons r (RpA.take n t)
theorem RpA.drop : ∀ {vs : List V} {ds : List D} (n : Nat), RpA K S H vs ds → RpA K S H (vs.drop n) (ds.drop n)
  | _, _, 0, r => r
  | _, _, _ + 1, .nil => .nil
  | _, _, n + 1, .cons _ t => RpA.drop n t
theorem RpA.reverse : ∀ {vs : List V} {ds : List D}, RpA K S H vs ds → RpA K S H vs.reverse ds.reverse
  | _, _, .nil => .nil
  | _, _, .cons r t => by
    rw [List.reverse_cons, List.reverse_cons]
    exact RpA.append (RpA.reverse t) (.cons r .nil)
theorem RpA.ints : ∀ {vs : List V} {ns : List Int}, RpA K S H vs (ns.map PyData.int) → vs = ns.map V.int
  | [], [], _ => rfl
  | _ :: _, [], r => nomatch r
  | [], _ :: _, r => nomatch r
  | _ :: _, n :: ns, r => by
    cases r with
    | cons a b => cases a; rw [RpA.ints b]; rfl
theorem RpA.of_ints : ∀ (ns : List Int), RpA K S H (ns.map V.int) (ns.map PyData.int)
  | [] => .nil
  | n :: ns => .cons (.int n) (RpA.of_ints ns)
theorem RpA.bools : ∀ {vs : List V} {ns : List Bool}, RpA K S H vs (ns.map PyData.bool) → vs = ns.map V.bl
  | [], [], _ => rfl
  | _ :: _, [], r => nomatch r
  | [], _ :: _, r => nomatch r
  | _ :: _, n :: ns, r => by
    cases r with
    | cons a b => cases a; rw [RpA.bools b]; rfl
theorem RpA.strs : ∀ {vs : List V} {ns : List Str}, RpA K S H vs (ns.map PyData.str) → vs = ns.map V.str
  | [], [], _ => rfl
  | _ :: _, [], r => nomatch r
  | [], _ :: _, r => nomatch r
  | _ :: _, n :: ns, r => by
    cases r with
    | cons a b => cases a; rw [RpA.strs b]; rfl
end
inductive Kd where
  | lst
  | dct (ks : List Key)
  | ins (cls : Str) (C dx : Addr) (ns : List Str)
  | dctL (od : Obj) (ks : List Key)
def hoOf : Kd → List V → HO
  | .lst, vs => .lst vs
  | .dct ks, vs => .dK (ks.zip vs)
  | .ins _ C dx ns, vs => .ins C dx (ns.zip vs)
  | .dctL od ks, vs => .frz od (.dK (ks.zip vs))
def Kd.fits (K : PySem.W.Frag) : Kd → Nat → Prop
  | .lst, _ => True
  | .dct ks, n => ks.length = n ∧ ks.Nodup
  | .ins cls C _ ns, n => ns.length = n ∧ ns.Nodup ∧ InsK K cls C
  | .dctL _ ks, n => ks.length = n ∧ ks.Nodup
theorem hoOf_loose (k : Kd) (vs : List V) : fixedO (hoOf k vs) = false := by cases k <;> rfl
inductive O where
  | d (x : D)
  | tup (xs : List O)
  | obj (a : Addr) (k : Kd) (xs : List O)
abbrev O.lst (a : Addr) (xs : List O) : O := .obj a .lst xs
abbrev O.dct (a : Addr) (ks : List Key) (xs : List O) : O := .obj a (.dct ks) xs
mutual
def O.cnt (p : Addr) : O → Nat
  | .d _ => 0
  | .tup xs => O.cntL p xs
  | .obj a _ xs => (if a = p then 1 else 0) + O.cntL p xs
def O.cntL (p : Addr) : List O → Nat
  | [] => 0
  | x :: xs => O.cnt p x + O.cntL p xs
end
mutual
def O.toD : O → D
  | .d x => x
  | .tup xs => .tuple (O.toDs xs)
  | .obj _ .lst xs => .list (O.toDs xs)
  | .obj _ (.dct ks) xs => .dict ((ks.map keyD).zip (O.toDs xs))
  | .obj _ (.ins cls _ _ ns) xs => insD cls ns (O.toDs xs)
  | .obj _ (.dctL _ ks) xs => lokD ks (O.toDs xs)
def O.toDs : List O → List D
  | [] => []
  | x :: xs => x.toD :: O.toDs xs
end
theorem O.toDs_map : ∀ ds : List D, O.toDs (ds.map O.d) = ds
  | [] => rfl
  | e :: es => by
    show (O.d e).toD :: O.toDs (es.map O.d) = _
    rw [O.toDs_map es]; rfl
theorem O.cntL_map (p : Addr) : ∀ ds : List D, O.cntL p (ds.map O.d) = 0
  | [] => rfl
  | e :: es => by
    show O.cnt p (O.d e) + O.cntL p (es.map O.d) = 0
    rw [O.cntL_map p es]; rfl
theorem O.cntL_append (p : Addr) : ∀ xs ys : List O, O.cntL p (xs ++ ys) = O.cntL p xs + O.cntL p ys
  | [], ys => by show _ = 0 + _; rw [Nat.zero_add]; rfl
  | x :: xs, ys => by
    show O.cnt p x + O.cntL p (xs ++ ys) = O.cnt p x + O.cntL p xs + _
    rw [O.cntL_append p xs ys]; omega
theorem O.cntL_get {p : Addr} : ∀ {xs : List O} {i : Nat} {x : O}, xs[i]? = some x → O.cnt p x ≤ O.cntL p xs
  | [], _, _, e => by simp at e
  | y :: ys, 0, x, e => by
    simp at e; subst e
    exact Nat.le_add_right _ _
  | y :: ys, i + 1, x, e => by
    have := O.cntL_get (p := p) (xs := ys) (i := i) (x := x) (by simpa using e)
    show _ ≤ O.cnt p y + O.cntL p ys
    omega
theorem O.cntL_set {p : Addr} : ∀ {xs : List O} {i : Nat} {x y : O}, xs[i]? = some x → O.cntL p (xs.set i y) + O.cnt p x = O.cntL p xs + O.cnt p y
  | [], _, _, _, e => by simp at e
  | z :: zs, 0, x, y, e => by
    simp at e; subst e
    show O.cnt p y + O.cntL p zs + _ = O.cnt p z + O.cntL p zs + _
    omega
  | z :: zs, i + 1, x, y, e => by
    have := O.cntL_set (p := p) (xs := zs) (i := i) (x := x) (y := y) (by simpa using e)
    show O.cnt p z + O.cntL p (zs.set i y) + _ = O.cnt p z + O.cntL p zs + _
    omega
mutual
inductive OwnR (K : PySem.W.Frag) (S : Fz) (H : Hp) : V → O → Prop
  | d {v : V} {x : D} : Rp K S H v x → OwnR K S H v (.d x)
  | tup {a : Addr} {vs : List V} {os : List O} : CqT K H a vs → OwnA K S H vs os → OwnR K S H (.ref a) (.tup os)
  | obj {a : Addr} {k : Kd} {vs : List V} {os : List O} : H a = some (hoOf k vs) → k.fits K vs.length → OwnA K S H vs os → OwnR K S H (.ref a) (.obj a k os)
inductive OwnA (K : PySem.W.Frag) (S : Fz) (H : Hp) : List V → List O → Prop
  | nil : OwnA K S H [] []
  | cons {v : V} {o : O} {vs : List V} {os : List O} : OwnR K S H v o → OwnA K S H vs os → OwnA K S H (v :: vs) (o :: os)
end
section
variable {K : PySem.W.Frag} {S S' : Fz} {H H' : Hp}
mutual
theorem OwnR.kp (k : Kp S S' H H') : ∀ {v : V} {o : O}, OwnR K S H v o → (∀ a, 0 < o.cnt a → H' a = H a) → OwnR K S' H' v o
  | _, _, .d r, _ => .d (r.kp k)
  | _, _, .tup h r, q => .tup (h.kp k) (OwnA.kp k r q)
  | _, _, .obj (a := a) (os := os) h hf r, q => .obj ((q a (by show 0 < (if a = a then 1 else 0) + O.cntL a os; rw [if_pos rfl]; omega)).trans h) hf
      (OwnA.kp k r fun b hb => q b (by show 0 < (if a = b then 1 else 0) + O.cntL b os; omega))
theorem OwnA.kp (k : Kp S S' H H') : ∀ {vs : List V} {os : List O}, OwnA K S H vs os → (∀ a, 0 < O.cntL a os → H' a = H a) → OwnA K S' H' vs os
  | _, _, .nil, _ => .nil
  | _, _, .cons (o := o) (os := os) a b, q => .cons (OwnR.kp k a fun x hx => q x (by show 0 < O.cnt x o + O.cntL x os; omega)) (OwnA.kp k b fun x hx => q x (by show 0 < O.cnt x o + O.cntL x os; omega))
end
mutual
theorem OwnR.live : ∀ {v : V} {o : O}, OwnR K S H v o → ∀ a, 0 < o.cnt a → ∃ k xs, H a = some (hoOf k xs)
  | _, _, .d _, a, h => absurd h (by show ¬ 0 < 0; omega)
  | _, _, .tup _ r, a, h => OwnA.live r a h
  | _, _, .obj (a := b) (os := os) e _ r, a, h => by
    by_cases hb : b = a
    · subst hb; exact ⟨_, _, e⟩
    · have h' : 0 < (if b = a then 1 else 0) + O.cntL a os := h
      rw [if_neg hb] at h'
      exact OwnA.live r a (by omega)
theorem OwnA.live : ∀ {vs : List V} {os : List O}, OwnA K S H vs os → ∀ a, 0 < O.cntL a os → ∃ k xs, H a = some (hoOf k xs)
  | _, _, .nil, a, h => absurd h (by show ¬ 0 < 0; omega)
  | _, _, .cons (o := o) (os := os) x y, a, h => by
    have h' : 0 < O.cnt a o + O.cntL a os := h
    by_cases hc : 0 < O.cnt a o
    · exact OwnR.live x a hc
    · exact OwnA.live y a (by omega)
end
mutual
/-- what is owned is given up: data from now on -/
theorem OwnR.froze (k : ∀ a, S a → S' a) : ∀ {v : V} {o : O}, OwnR K S H v o → (∀ a, 0 < o.cnt a → S' a) → Rp K S' H v o.toD
  | _, _, .d r, _ => r.kp (Kp.more k)
  | _, _, .tup h r, q => .tup h (OwnA.froze k r q)
  | _, _, .obj (a := a) (k := .lst) (os := os) h _ r, q => .lst (.inl ⟨q a (by show 0 < (if a = a then 1 else 0) + O.cntL a os; rw [if_pos rfl]; omega), h⟩)
      (OwnA.froze k r fun b hb => q b (by show 0 < (if a = b then 1 else 0) + O.cntL b os; omega))
  | _, _, .obj (a := a) (k := .dct ks) (os := os) h hf r, q => .dct (q a (by show 0 < (if a = a then 1 else 0) + O.cntL a os; rw [if_pos rfl]; omega)) h hf.1
      (OwnA.froze k r fun b hb => q b (by show 0 < (if a = b then 1 else 0) + O.cntL b os; omega))
  | _, _, .obj (a := a) (k := .dctL od ks) (os := os) h hf r, q => .dcl (q a (by show 0 < (if a = a then 1 else 0) + O.cntL a os; rw [if_pos rfl]; omega)) h hf.1 hf.2
      (OwnA.froze k r fun b hb => q b (by show 0 < (if a = b then 1 else 0) + O.cntL b os; omega))
  | _, _, .obj (a := a) (k := .ins cls C dx ns) (os := os) h hf r, q => .ins (q a (by show 0 < (if a = a then 1 else 0) + O.cntL a os; rw [if_pos rfl]; omega)) h hf.1 hf.2.2
      (OwnA.froze k r fun b hb => q b (by show 0 < (if a = b then 1 else 0) + O.cntL b os; omega))
theorem OwnA.froze (k : ∀ a, S a → S' a) : ∀ {vs : List V} {os : List O}, OwnA K S H vs os → (∀ a, 0 < O.cntL a os → S' a) → RpA K S' H vs (O.toDs os)
  | _, _, .nil, _ => .nil
  | _, _, .cons (o := o) (os := os) a b, q => .cons (OwnR.froze k a fun x hx => q x (by show 0 < O.cnt x o + O.cntL x os; omega)) (OwnA.froze k b fun x hx => q x (by show 0 < O.cnt x o + O.cntL x os; omega))
end
theorem OwnA.length : ∀ {vs : List V} {os : List O}, OwnA K S H vs os → vs.length = os.length
  | _, _, .nil => rfl
  | _, _, .cons _ b => congrArg (· + 1) (OwnA.length b)
theorem OwnA.get : ∀ {vs : List V} {os : List O} {i : Nat} {o : O}, OwnA K S H vs os → os[i]? = some o → ∃ v, vs[i]? = some v ∧ OwnR K S H v o
  | _, _, _, _, .nil, e => by simp at e
  | _, _, 0, _, .cons a _, e => by simp at e; subst e; exact ⟨_, rfl, a⟩
  | _, _, i + 1, _, .cons _ b, e => by
    obtain ⟨d, h1, h2⟩ := OwnA.get (i := i) b (by simpa using e)
    exact ⟨d, by simpa using h1, h2⟩
theorem OwnA.set : ∀ {vs : List V} {os : List O} {v : V} {o : O} (i : Nat), OwnA K S H vs os → OwnR K S H v o → OwnA K S H (vs.set i v) (os.set i o)
  | _, _, _, _, _, .nil, _ => .nil
  | _, _, _, _, 0, .cons _ t, r => .cons r t
  | _, _, _, _, i + 1, .cons q t, r => .cons q (OwnA.set i t r)
theorem OwnA.append : ∀ {vs ws : List V} {os ps : List O}, OwnA K S H vs os → OwnA K S H ws ps → OwnA K S H (vs ++ ws) (os ++ ps)
  | _, _, _, _, .nil, s => s
  | _, _, _, _, .cons r t, s => .cons r (OwnA.append t s)
theorem OwnA.of_data : ∀ {vs : List V} {ds : List D}, RpA K S H vs ds → OwnA K S H vs (ds.map O.d)
  | _, _, .nil => .nil
  | _, _, .cons a b => .cons (.d a) (OwnA.of_data b)
theorem OwnA.data : ∀ {vs : List V} {ds : List D}, OwnA K S H vs (ds.map O.d) → RpA K S H vs ds
  | [], [], _ => .nil
  | _ :: _, [], r => nomatch r
  | [], _ :: _, r => nomatch r
  | _ :: _, _ :: _, r => by
    cases r with
    | cons a b =>
      cases a with
      | d a => exact .cons a (OwnA.data b)
end
end Vx
namespace Vx
open PySem PySem.Spec PyProof.Rows L2
inductive Stp where
  | ix (n : Nat)
def O.at : List Stp → O → Option O
  | [], o => some o
  | .ix n :: p, .obj _ _ xs => match xs[n]? with | some x => O.at p x | none => none
  | _ :: _, _ => none
def O.put : List Stp → O → O → O
  | [], _, y => y
  | .ix n :: p, .obj a k xs, y => match xs[n]? with | some x => .obj a k (xs.set n (O.put p x y)) | none => .obj a k xs
  | _ :: _, o, _ => o
def O.root : O → Option Addr
  | .obj a _ _ => some a
  | _ => none
theorem set_same {α : Type} : ∀ {xs : List α} {n : Nat} {x : α}, xs[n]? = some x → xs.set n x = xs
  | [], _, _, h => by simp at h
  | y :: ys, 0, x, h => by simp at h; subst h; rfl
  | y :: ys, n + 1, x, h => by
    show y :: ys.set n x = y :: ys
    rw [set_same (by simpa using h)]
section
variable {K : PySem.W.Frag} {S S' : Fz} {H H' : Hp}
theorem OwnR.ref {v : V} {o : O} {a : Addr} (r : OwnR K S H v o) (h : o.root = some a) : v = .ref a := by
  cases r with
  | d _ => cases h
  | tup _ _ => cases h
  | obj _ _ _ => cases h; rfl
theorem OwnR.at : ∀ {p : List Stp} {v : V} {o o' : O}, OwnR K S H v o → o.at p = some o' → ∃ v', OwnR K S H v' o' ∧ ∀ b, o'.cnt b ≤ o.cnt b
  | [], v, o, o', r, h => by cases h; exact ⟨v, r, fun _ => Nat.le_refl _⟩
  | .ix n :: p, _, _, o', .d _, h => nomatch h
  | .ix n :: p, _, _, o', .tup _ _, h => nomatch h
  | .ix n :: p, _, _, o', .obj (a := a) (os := os) e _ r, h => by
    unfold O.at at h
    cases hx : os[n]? with
    | none => rw [hx] at h; cases h
    | some x =>
      rw [hx] at h
      obtain ⟨v1, _, r1⟩ := r.get hx
      obtain ⟨v', r', c⟩ := OwnR.at (p := p) r1 h
      refine ⟨v', r', fun b => ?_⟩
      have h1 := c b
      have h2 : O.cnt b x ≤ O.cntL b os := O.cntL_get hx
      show _ ≤ (if a = b then 1 else 0) + O.cntL b os
      omega
theorem O.put_cnt : ∀ {p : List Stp} {o o' y : O}, o.at p = some o' → ∀ b, (o.put p y).cnt b + o'.cnt b = o.cnt b + y.cnt b
  | [], o, o', y, h, b => by cases h; show y.cnt b + o.cnt b = _; omega
  | .ix n :: p, .d _, o', y, h, b => nomatch h
  | .ix n :: p, .tup _, o', y, h, b => nomatch h
  | .ix n :: p, .obj a k os, o', y, h, b => by
    unfold O.at at h
    cases hx : os[n]? with
    | none => rw [hx] at h; cases h
    | some x =>
      rw [hx] at h
      have h1 := O.put_cnt (p := p) (y := y) h b
      unfold O.put
      rw [hx]
      have h2 := O.cntL_set (p := b) (y := O.put p x y) hx
      show (if a = b then 1 else 0) + O.cntL b (os.set n (O.put p x y)) + _ = (if a = b then 1 else 0) + O.cntL b os + _
      omega
theorem OwnR.putAt (k : Kp S S' H H') : ∀ {p : List Stp} {v v' : V} {o o' y : O}, OwnR K S H v o → o.at p = some o' → (∀ b, o.cnt b ≤ 1) →
    (∀ w, OwnR K S H w o' → OwnR K S' H' w y) → (∀ b, 0 < o.cnt b → o'.cnt b = 0 → H' b = H b) → OwnR K S' H' v (o.put p y)
  | [], v, v', o, o', y, r, h, one, hy, q => by cases h; exact hy v r
  | .ix n :: p, _, _, _, o', _, .d _, h, _, _, _ => nomatch h
  | .ix n :: p, _, _, _, o', _, .tup _ _, h, _, _, _ => nomatch h
  | .ix n :: p, _, v', _, o', y, .obj (a := a) (k := kd) (vs := vs) (os := os) e hf r, h, one, hy, q => by
    unfold O.at at h
    cases hx : os[n]? with
    | none => rw [hx] at h; cases h
    | some x =>
      rw [hx] at h
      obtain ⟨v1, hv1, r1⟩ := r.get hx
      have hle : ∀ b, O.cnt b x ≤ O.cntL b os := fun b => O.cntL_get hx
      have hl1 : ∀ b, (if a = b then 1 else 0) + O.cntL b os ≤ 1 := one
      obtain ⟨_, _, hc⟩ := OwnR.at r1 h
      have ih : OwnR K S' H' v1 (O.put p x y) := OwnR.putAt k (v' := v1) r1 h (fun b => by have := hl1 b; have := hle b; omega) hy (fun b hb h0 => q b (by have := hle b; show 0 < (if a = b then 1 else 0) + O.cntL b os; omega) h0)
      unfold O.put
      rw [hx]
      have ea : H' a = H a := by
        have h1 := hl1 a
        rw [if_pos rfl] at h1
        refine q a (by show 0 < (if a = a then 1 else 0) + O.cntL a os; rw [if_pos rfl]; omega) ?_
        have := hc a
        have := hle a
        omega
      refine .obj (vs := vs.set n v1) (ea.trans (e.trans ?_)) (by rw [List.length_set]; exact hf) ?_
      · rw [set_same hv1]
      · -- the other items
        have other : ∀ {vs : List V} {os : List O} (n : Nat) {x : O}, OwnA K S H vs os → os[n]? = some x → (∀ b, 0 < O.cntL b os → O.cnt b x = 0 → H' b = H b) → (∀ b, O.cntL b os ≤ 1) → OwnR K S' H' v1 (O.put p x y) → OwnA K S' H' (vs.set n v1) (os.set n (O.put p x y)) := by
          intro vs os n
          induction n generalizing vs os with
          | zero =>
            intro x r hx q1 hone ih
            cases r with
            | nil => simp at hx
            | cons ra rb =>
              simp at hx; subst hx
              refine .cons ih (rb.kp k fun b hb => ?_)
              have h1 := hone b
              unfold O.cntL at h1
              exact q1 b (by unfold O.cntL; omega) (by omega)
          | succ n ihn =>
            intro x r hx q1 hone ih
            cases r with
            | nil => simp at hx
            | cons ra rb =>
              rename_i o1 _ os1
              have hx' : os1[n]? = some x := by simpa using hx
              have hle : ∀ b, O.cnt b x ≤ O.cntL b os1 := fun b => O.cntL_get hx'
              refine .cons (ra.kp k fun b hb => ?_) (ihn rb hx' (fun b hb h0 => q1 b (by unfold O.cntL; omega) h0) (fun b => by have := hone b; unfold O.cntL at this; omega) ih)
              have h1 := hone b
              unfold O.cntL at h1
              exact q1 b (by unfold O.cntL; omega) (by have := hle b; omega)
        refine other n r hx (fun b hb h0 => q b (by show 0 < (if a = b then 1 else 0) + O.cntL b os; omega) ?_) (fun b => by have := hl1 b; omega) ih
        have := hc b
        omega
end
inductive W where
  | o (x : O)
  | al (a : Addr) (i : Nat) (p : List Stp)
abbrev Env := List (Option O)
def cntO (b : Addr) : Option O → Nat
  | none => 0
  | some o => o.cnt b
def cntE (b : Addr) : Env → Nat
  | [] => 0
  | x :: xs => cntO b x + cntE b xs
def cntW (b : Addr) : W → Nat
  | .o x => x.cnt b
  | .al .. => 0
def cntT (b : Addr) : List (V × W) → Nat
  | [] => 0
  | x :: xs => cntW b x.2 + cntT b xs
theorem cntT_append (b : Addr) : ∀ xs ys : List (V × W), cntT b (xs ++ ys) = cntT b xs + cntT b ys
  | [], ys => by show _ = 0 + _; rw [Nat.zero_add]; rfl
  | x :: xs, ys => by
    show cntW b x.2 + cntT b (xs ++ ys) = cntW b x.2 + cntT b xs + _
    rw [cntT_append b xs ys]; omega
theorem cntE_get {b : Addr} : ∀ {xs : Env} {i : Nat} {x : Option O}, xs[i]? = some x → cntO b x ≤ cntE b xs
  | [], _, _, e => by simp at e
  | y :: ys, 0, x, e => by
    simp at e; subst e
    exact Nat.le_add_right _ _
  | y :: ys, i + 1, x, e => by
    have := cntE_get (b := b) (xs := ys) (i := i) (x := x) (by simpa using e)
    show _ ≤ cntO b y + cntE b ys
    omega
theorem cntE_two {b : Addr} : ∀ {xs : Env} {i j : Nat} {x y : Option O}, i ≠ j → xs[i]? = some x → xs[j]? = some y → cntO b x + cntO b y ≤ cntE b xs
  | [], _, _, _, _, _, e, _ => by simp at e
  | z :: zs, 0, 0, _, _, h, _, _ => absurd rfl h
  | z :: zs, 0, j + 1, x, y, _, e1, e2 => by
    simp at e1; subst e1
    have := cntE_get (b := b) (xs := zs) (i := j) (x := y) (by simpa using e2)
    show _ ≤ cntO b z + cntE b zs
    omega
  | z :: zs, i + 1, 0, x, y, _, e1, e2 => by
    simp at e2; subst e2
    have := cntE_get (b := b) (xs := zs) (i := i) (x := x) (by simpa using e1)
    show _ ≤ cntO b z + cntE b zs
    omega
  | z :: zs, i + 1, j + 1, x, y, h, e1, e2 => by
    have := cntE_two (b := b) (xs := zs) (i := i) (j := j) (x := x) (y := y) (fun q => h (by rw [q])) (by simpa using e1) (by simpa using e2)
    show _ ≤ cntO b z + cntE b zs
    omega
theorem cntE_set {b : Addr} : ∀ {xs : Env} {i : Nat} {x y : Option O}, xs[i]? = some x → cntE b (xs.set i y) + cntO b x = cntE b xs + cntO b y
  | [], _, _, _, e => by simp at e
  | z :: zs, 0, x, y, e => by
    simp at e; subst e
    show cntO b y + cntE b zs + _ = cntO b z + cntE b zs + _
    omega
  | z :: zs, i + 1, x, y, e => by
    have := cntE_set (b := b) (xs := zs) (i := i) (x := x) (y := y) (by simpa using e)
    show cntO b z + cntE b (zs.set i y) + _ = cntO b z + cntE b zs + _
    omega
theorem cntT_mem {b : Addr} : ∀ {T : List (V × W)} {t : V × W}, t ∈ T → cntW b t.2 ≤ cntT b T
  | [], _, h => nomatch h
  | x :: xs, t, h => by
    rcases List.mem_cons.mp h with e | h
    · subst e; exact Nat.le_add_right _ _
    · have := cntT_mem (b := b) h
      show _ ≤ cntW b x.2 + cntT b xs
      omega
def envAt (env : Env) (i : Nat) (p : List Stp) : Option O := match env[i]? with
  | some (some o) => o.at p
  | _ => none
def envPut (env : Env) (i : Nat) (p : List Stp) (y : O) : Env := match env[i]? with
  | some (some o) => env.set i (some (o.put p y))
  | _ => env
theorem envAt_some {env : Env} {i : Nat} {p : List Stp} {o' : O} (h : envAt env i p = some o') : ∃ o, env[i]? = some (some o) ∧ o.at p = some o' := by
  unfold envAt at h
  split at h
  · rename_i o e; exact ⟨o, e, h⟩
  · cases h
theorem envPut_eq {env : Env} {i : Nat} {p : List Stp} {y o : O} (h : env[i]? = some (some o)) : envPut env i p y = env.set i (some (o.put p y)) := by
  unfold envPut; rw [h]
theorem envPut_cnt {env : Env} {i : Nat} {p : List Stp} {y o' : O} (h : envAt env i p = some o') (b : Addr) : cntE b (envPut env i p y) + o'.cnt b = cntE b env + y.cnt b := by
  obtain ⟨o, e, ha⟩ := envAt_some h
  rw [envPut_eq e]
  have h1 := cntE_set (b := b) (y := some (o.put p y)) e
  have h2 := O.put_cnt (y := y) ha b
  have h3 : cntO b (some (o.put p y)) = (o.put p y).cnt b := rfl
  have h4 : cntO b (some o) = o.cnt b := rfl
  omega
theorem envPut_length {env : Env} {i : Nat} {p : List Stp} {y : O} : (envPut env i p y).length = env.length := by
  unfold envPut
  split
  · exact List.length_set
  · rfl
def TmpR (K : PySem.W.Frag) (S : Fz) (H : Hp) (t : V × W) : Prop := match t.2 with
  | .o x => OwnR K S H t.1 x
  | .al a _ _ => t.1 = .ref a
structure Bs where
  S : Fz
  H : Hp
  own : Addr → Prop
structure R (K : PySem.W.Frag) (B : Bs) (S : Fz) (H : Hp) (σ : L2.St) (env : Env) (T : List (V × W)) : Prop where
  len : env.length = σ.length
  slots : ∀ (i : Nat) (o : O), env[i]? = some (some o) → ∃ v, σ[i]? = some (some v) ∧ OwnR K S H v o
  tmps : ∀ t ∈ T, TmpR K S H t
  one : ∀ a, cntE a env + cntT a T ≤ 1
  apart : ∀ a, S a → cntE a env + cntT a T = 0
  sH : ∀ a, S a → H a ≠ none
  keep : ∀ a o, B.H a = some o → ¬ B.own a → H a = some o
  dom : ∀ a, H a = none → B.H a = none
  new : ∀ a, 0 < cntE a env + cntT a T → B.own a ∨ B.H a = none
  newS : ∀ a, S a → B.S a ∨ B.own a ∨ B.H a = none
  sub : ∀ a, B.S a → S a
section
variable {K : PySem.W.Frag} {B : Bs} {S : Fz} {H : Hp} {σ : L2.St} {env : Env} {T : List (V × W)}
theorem R.live (r : R K B S H σ env T) {a : Addr} (h : 0 < cntE a env + cntT a T) : ∃ k xs, H a = some (hoOf k xs) := by
  have inE : ∀ {l : Env}, (∀ (i : Nat) (o : O), l[i]? = some (some o) → ∃ v, OwnR K S H v o) → 0 < cntE a l → ∃ k xs, H a = some (hoOf k xs) := by
    intro l
    induction l with
    | nil => intro _ h; exact absurd h (by show ¬ 0 < 0; omega)
    | cons x xs ih =>
      intro q h
      have h' : 0 < cntO a x + cntE a xs := h
      by_cases hx : 0 < cntO a x
      · cases x with
        | none => exact absurd hx (by show ¬ 0 < 0; omega)
        | some o =>
          obtain ⟨v, w⟩ := q 0 o rfl
          exact w.live a hx
      · exact ih (fun i o e => q (i + 1) o (by simpa using e)) (by omega)
  have inT : ∀ {l : List (V × W)}, (∀ t ∈ l, TmpR K S H t) → 0 < cntT a l → ∃ k xs, H a = some (hoOf k xs) := by
    intro l
    induction l with
    | nil => intro _ h; exact absurd h (by show ¬ 0 < 0; omega)
    | cons x xs ih =>
      intro q h
      have h' : 0 < cntW a x.2 + cntT a xs := h
      by_cases hx : 0 < cntW a x.2
      · have q1 := q x List.mem_cons_self
        obtain ⟨v, w⟩ := x
        cases w with
        | o y => exact OwnR.live q1 a hx
        | al _ _ _ => exact absurd hx (by show ¬ 0 < 0; omega)
      · exact ih (fun t ht => q t (List.mem_cons_of_mem _ ht)) (by omega)
  by_cases h1 : 0 < cntE a env
  · exact inE (fun i o e => let ⟨v, _, w⟩ := r.slots i o e; ⟨v, w⟩) h1
  · exact inT r.tmps (by omega)
theorem R.fresh (r : R K B S H σ env T) {p : Addr} (h : H p = none) : cntE p env + cntT p T = 0 := by
  by_cases q : 0 < cntE p env + cntT p T
  · obtain ⟨_, _, e⟩ := r.live q
    rw [h] at e; cases e
  · omega
theorem R.tmp (r : R K B S H σ env T) {T' : List (V × W)} (h : ∀ t ∈ T', TmpR K S H t) (c : ∀ b, cntT b T' ≤ cntT b T) : R K B S H σ env T' :=
  ⟨r.len, r.slots, h, fun a => by have := r.one a; have := c a; omega, fun a q => by have := r.apart a q; have := c a; omega, r.sH, r.keep, r.dom,
    fun a q => r.new a (by have := c a; omega), r.newS, r.sub⟩
theorem R.pop {t : V × W} (r : R K B S H σ env (t :: T)) : R K B S H σ env T :=
  r.tmp (fun x hx => r.tmps x (List.mem_cons_of_mem _ hx)) fun b => by show _ ≤ cntW b t.2 + cntT b T; omega
theorem R.pops {P : List (V × W)} (r : R K B S H σ env (P ++ T)) : R K B S H σ env T :=
  r.tmp (fun x hx => r.tmps x (List.mem_append_right _ hx)) fun b => by rw [cntT_append]; omega
theorem R.push (r : R K B S H σ env T) {v : V} {x : D} (h : Rp K S H v x) : R K B S H σ env ((v, .o (.d x)) :: T) :=
  r.tmp (fun t ht => by
    rcases List.mem_cons.mp ht with e | ht
    · subst e; exact OwnR.d h
    · exact r.tmps t ht) fun b => by show 0 + _ ≤ _; omega
theorem R.seen (r : R K B S H σ env T) {a : Addr} {i : Nat} {p : List Stp} : R K B S H σ env ((.ref a, .al a i p) :: T) :=
  r.tmp (fun t ht => by
    rcases List.mem_cons.mp ht with e | ht
    · subst e; rfl
    · exact r.tmps t ht) fun b => by show 0 + _ ≤ _; omega
theorem R.heap (r : R K B S H σ env T) {H' : Hp} (k : Kp S S H H') (own : ∀ a, 0 < cntE a env + cntT a T → H' a = H a)
    (old : ∀ a o, B.H a = some o → ¬ B.own a → H a = some o → H' a = some o) (dom : ∀ a, H' a = none → H a = none) : R K B S H' σ env T := by
  refine ⟨r.len, fun i o e => ?_, fun t ht => ?_, r.one, r.apart, fun a h => by rw [k.h a h]; exact r.sH a h, fun a o h1 h2 => old a o h1 h2 (r.keep a o h1 h2), fun a h => r.dom a (dom a h), r.new, r.newS, r.sub⟩
  · obtain ⟨v, e1, w⟩ := r.slots i o e
    refine ⟨v, e1, w.kp k fun a ha => own a ?_⟩
    have := cntE_get (b := a) e
    have : cntO a (some o) = o.cnt a := rfl
    omega
  · have q := r.tmps t ht
    obtain ⟨v, w⟩ := t
    cases w with
    | o x =>
      refine OwnR.kp k q fun a ha => own a ?_
      have h1 : x.cnt a ≤ cntT a T := cntT_mem (b := a) ht
      omega
    | al _ _ _ => exact q
theorem R.alloc (r : R K B S H σ env T) {p : Addr} {o : HO} (hp : H p = none) : R K B S (upd H p o) σ env T := by
  refine r.heap (Kp.new hp r.sH) (fun a ha => ?_) (fun a o' h1 _ h2 => ?_) fun a h => ?_
  · refine upd_ne fun e => ?_
    subst e
    have := r.fresh hp
    omega
  · rw [upd_ne (ne_of_none h2 hp)]; exact h2
  · by_cases e : a = p
    · subst e; exact hp
    · rw [upd_ne e] at h; exact h
theorem R.newTup {P : List (V × W)} {vs : List V} {os : List O} {p : Addr} {o : Obj} (r : R K B S H σ env (P ++ T)) (hp : H p = none) (hd : o.dict = none) (ow : OwnA K S H vs os) (c : ∀ b, O.cntL b os ≤ cntT b P) :
    R K B S (upd H p (.frz o (.tup vs))) σ env ((.ref p, .o (.tup os)) :: T) := by
  have r1 := r.alloc (o := .frz o (.tup vs)) hp
  refine r1.tmp (fun t ht => ?_) fun b => ?_
  · rcases List.mem_cons.mp ht with e | ht
    · subst e
      refine OwnR.tup (.new hd) (ow.kp (Kp.new hp r.sH) fun a ha => upd_ne fun e => ?_)
      subst e
      have h1 := r.fresh hp
      rw [cntT_append] at h1
      have := c a
      omega
    · exact r1.tmps t (List.mem_append_right _ ht)
  · rw [cntT_append]
    have := c b
    show O.cntL b os + _ ≤ _
    omega
theorem R.newObj {P : List (V × W)} {vs : List V} {os : List O} {p : Addr} (k : Kd) (hf : k.fits K vs.length) (r : R K B S H σ env (P ++ T)) (hp : H p = none) (ow : OwnA K S H vs os) (c : ∀ b, O.cntL b os ≤ cntT b P) :
    R K B S (upd H p (hoOf k vs)) σ env ((.ref p, .o (.obj p k os)) :: T) := by
  have r1 := r.alloc (o := hoOf k vs) hp
  have h0 := r.fresh hp
  rw [cntT_append] at h0
  have one' : ∀ a, cntE a env + (((if p = a then 1 else 0) + O.cntL a os) + cntT a T) ≤ 1 := fun a => by
    have h1 := r.one a
    rw [cntT_append] at h1
    have := c a
    by_cases e : p = a
    · subst e; rw [if_pos rfl]; omega
    · rw [if_neg e]; omega
  refine ⟨r1.len, r1.slots, fun t ht => ?_, one', fun a ha => ?_, r1.sH, r1.keep, r1.dom, fun a ha => ?_, r1.newS, r1.sub⟩
  · rcases List.mem_cons.mp ht with e | ht
    · subst e
      refine OwnR.obj upd_same hf (ow.kp (Kp.new hp r.sH) fun a ha => upd_ne fun e => ?_)
      subst e
      have := c a
      omega
    · exact r1.tmps t (List.mem_append_right _ ht)
  · show cntE a env + (((if p = a then 1 else 0) + O.cntL a os) + cntT a T) = 0
    have h1 := r.apart a ha
    rw [cntT_append] at h1
    have := c a
    have ne : p ≠ a := fun e => r.sH a ha (by rw [← e]; exact hp)
    rw [if_neg ne]
    omega
  · have ha' : 0 < cntE a env + (((if p = a then 1 else 0) + O.cntL a os) + cntT a T) := ha
    by_cases e : p = a
    · subst e; exact .inr (r.dom p hp)
    · rw [if_neg e] at ha'
      have := c a
      exact r.new a (by rw [cntT_append]; omega)
theorem R.newLst {P : List (V × W)} {vs : List V} {os : List O} {p : Addr} (r : R K B S H σ env (P ++ T)) (hp : H p = none) (ow : OwnA K S H vs os) (c : ∀ b, O.cntL b os ≤ cntT b P) :
    R K B S (upd H p (.lst vs)) σ env ((.ref p, .o (.lst p os)) :: T) := R.newObj .lst True.intro r hp ow c
theorem R.froze {v : V} {o : O} (r : R K B S H σ env ((v, .o o) :: T)) : R K B (fun a => S a ∨ 0 < o.cnt a) H σ env ((v, .o (.d o.toD)) :: T) := by
  have k : Kp S (fun a => S a ∨ 0 < o.cnt a) H H := Kp.more fun a h => .inl h
  have hT : ∀ a, cntT a ((v, W.o o) :: T) = o.cnt a + cntT a T := fun _ => rfl
  have hT' : ∀ a, cntT a ((v, W.o (.d o.toD)) :: T) = 0 + cntT a T := fun _ => rfl
  refine ⟨r.len, fun i x e => ?_, fun t ht => ?_, fun a => ?_, fun a ha => ?_, fun a ha => ?_, r.keep, r.dom, fun a ha => r.new a ?_, fun a ha => ?_, fun a h => .inl (r.sub a h)⟩
  · obtain ⟨v, e1, w⟩ := r.slots i x e
    exact ⟨v, e1, w.kp k fun _ _ => rfl⟩
  · rcases List.mem_cons.mp ht with e | ht
    · subst e
      have q : OwnR K S H v o := r.tmps (v, .o o) List.mem_cons_self
      exact OwnR.d (q.froze (fun a h => .inl h) fun a h => .inr h)
    · have q := r.tmps t (List.mem_cons_of_mem _ ht)
      obtain ⟨u, w⟩ := t
      cases w with
      | o x => exact OwnR.kp k q fun _ _ => rfl
      | al _ _ _ => exact q
  · have := r.one a; rw [hT] at this; rw [hT']; omega
  · rcases ha with h | h
    · have := r.apart a h; rw [hT] at this; rw [hT']; omega
    · have := r.one a; rw [hT] at this; rw [hT']; omega
  · rcases ha with h | h
    · exact r.sH a h
    · obtain ⟨_, _, e⟩ := r.live (a := a) (by rw [hT]; omega)
      rw [e]; simp
  · rw [hT'] at ha; rw [hT]; omega
  · rcases ha with h | h
    · exact r.newS a h
    · exact .inr (r.new a (by rw [hT]; omega))
theorem R.store {v : V} {o : O} {i : Nat} (r : R K B S H σ env ((v, .o o) :: T)) (hi : i < env.length) : R K B S H (σ.set i (some v)) (env.set i (some o)) T := by
  have hx : env[i]? = some env[i] := List.getElem?_eq_getElem hi
  have hc : ∀ a, cntE a (env.set i (some o)) + cntO a env[i] = cntE a env + o.cnt a := fun a => cntE_set (y := some o) hx
  have hT : ∀ a, cntT a ((v, W.o o) :: T) = o.cnt a + cntT a T := fun _ => rfl
  refine ⟨by simpa using r.len, fun j x e => ?_, fun t ht => r.tmps t (List.mem_cons_of_mem _ ht), fun a => ?_, fun a ha => ?_, r.sH, r.keep, r.dom, fun a ha => r.new a ?_, r.newS, r.sub⟩
  · by_cases hj : j = i
    · subst hj
      rw [List.getElem?_set_self hi] at e
      cases e
      exact ⟨v, List.getElem?_set_self (by rw [← r.len]; exact hi), r.tmps (v, .o o) List.mem_cons_self⟩
    · rw [List.getElem?_set_ne (Ne.symm hj)] at e
      obtain ⟨w, e1, q⟩ := r.slots j x e
      exact ⟨w, by rw [List.getElem?_set_ne (Ne.symm hj)]; exact e1, q⟩
  · have := r.one a; have := hc a; rw [hT] at *; omega
  · have := r.apart a ha; have := hc a; rw [hT] at *; omega
  · have := hc a; rw [hT]; omega
theorem R.forget {i : Nat} (r : R K B S H σ env T) : R K B S H (σ.set i none) (env.set i none) T := by
  by_cases hi : i < env.length
  · have hx : env[i]? = some env[i] := List.getElem?_eq_getElem hi
    have hc : ∀ a, cntE a (env.set i none) + cntO a env[i] = cntE a env + 0 := fun a => cntE_set (y := none) hx
    refine ⟨by simpa using r.len, fun j x e => ?_, r.tmps, fun a => ?_, fun a ha => ?_, r.sH, r.keep, r.dom, fun a ha => r.new a ?_, r.newS, r.sub⟩
    · by_cases hj : j = i
      · subst hj
        rw [List.getElem?_set_self hi] at e
        cases e
      · rw [List.getElem?_set_ne (Ne.symm hj)] at e
        obtain ⟨w, e1, q⟩ := r.slots j x e
        exact ⟨w, by rw [List.getElem?_set_ne (Ne.symm hj)]; exact e1, q⟩
    · have := r.one a; have := hc a; omega
    · have := r.apart a ha; have := hc a; omega
    · have := hc a; omega
  · have h1 : env.set i none = env := List.set_eq_of_length_le (by omega)
    have h2 : σ.set i none = σ := List.set_eq_of_length_le (by rw [← r.len]; omega)
    rw [h1, h2]; exact r
end
end Vx
namespace Vx
open PySem PySem.Spec L2
inductive Bop where
  | add | sub | mul | fdiv | mod | pow
  deriving DecidableEq
inductive Cop where
  | eq | ne | lt | le | gt | ge | is | isNot | inn | notIn
  deriving DecidableEq
inductive Ty where
  | int | bool | str | tuple | list
  deriving DecidableEq
inductive Prim where
  | len | sum | tuple | list | sorted | repr | abs | min2 | max2 | min | max | all | any | isi (t : Ty) | isis (ts : List Ty)
  deriving DecidableEq
inductive Tg where
  | v (i : Nat)
  | tup (is : List Nat)
def MulOk (i j : Int) : Prop := CMul i j ∨ i.natAbs.log2 + j.natAbs.log2 < 1000000
def DivOk (j : Int) : Prop := (j ≠ 0 ∧ j.natAbs < 1073741824) ∨ (0 < j ∧ j.natAbs.log2 < 9000)
def repS (x : Str) (k : Int) : Str := ⟨(List.replicate k.toNat x.cps).foldl (· ++ ·) #[]⟩
def bopW : Bop → D → D → (O → Prop) → Prop
  | .add, .int i, .int j, Q => Q (.d (.int (i + j)))
  | .add, .bool b, .int j, Q => Q (.d (.int ((if b = true then (1 : Int) else 0) + j)))
  | .add, .str x, .str y, Q => x.length + y.length ≤ sizeLine ∧ Q (.d (.str (x ++ y)))
  | .add, .tuple xs, .tuple ys, Q => xs.length + ys.length ≤ sizeLine ∧ Q (.d (.tuple (xs ++ ys)))
  | .add, .list xs, .list ys, Q => xs.length + ys.length ≤ sizeLine ∧ ∀ a, Q (.lst a ((xs ++ ys).map .d))
  | .sub, .int i, .int j, Q => Q (.d (.int (i - j)))
  | .sub, .bool b, .int j, Q => Q (.d (.int ((if b = true then (1 : Int) else 0) - j)))
  | .mul, .int i, .int j, Q => MulOk i j ∧ Q (.d (.int (i * j)))
  | .mul, .tuple xs, .int k, Q => xs.isEmpty = false ∧ 0 ≤ k ∧ k ≤ 1000 ∧ xs.length ≤ 1000 ∧ Q (.d (.tuple (List.replicate k.toNat xs).flatten))
  | .mul, .str x, .int k, Q => -1000000 ≤ k ∧ k ≤ 1000000 ∧ x.length ≤ 1000000 ∧ x.length * k.toNat ≤ 1000000 ∧ Q (.d (.str (repS x k)))
  | .mul, .list xs, .int k, Q => -1000000 ≤ k ∧ k ≤ 1000000 ∧ xs.length * k.toNat ≤ 1000000 ∧ ∀ a, Q (.lst a ((List.replicate k.toNat xs).flatten.map .d))
  | .fdiv, .int i, .int j, Q => DivOk j ∧ Q (.d (.int (i.fdiv j)))
  | .mod, .int i, .int j, Q => j ≠ 0 ∧ Q (.d (.int (i.fmod j)))
  | .pow, .int i, .int j, Q => CPow i j ∧ Q (.d (.int (i ^ j.toNat)))
  | _, _, _, _ => False
def isScal : D → Bool
  | .none => true
  | .bool _ => true
  | .int _ => true
  | .str _ => true
  | _ => false
def isNone : D → Bool
  | .none => true
  | _ => false
def plainD (x : D) : Bool := SeqAt.shaped x && !x.hasDict
def eqOk : D → D → Bool
  | .int _, .int _ => true
  | .str _, .str _ => true
  | .bool _, .bool _ => true
  | .none, .none => true
  | .none, .int _ => true
  | .none, .str _ => true
  | .int _, .none => true
  | .str _, .none => true
  | .int _, .str _ => true
  | .str _, .int _ => true
  | x, y => plainD x && plainD y
def inOk (x : D) (ys : List D) : Bool := (isScal x && ys.all isScal) || (plainD x && plainD (.tuple ys))
def onSome {α : Type} (o : Option α) (Q : α → Prop) : Prop := match o with
  | some x => Q x
  | none => False
def intsOf : List D → Option (List Int)
  | [] => some []
  | .int i :: r => (intsOf r).map (i :: ·)
  | _ => none
def lexLt : List Int → List Int → Bool
  | [], [] => false
  | [], _ :: _ => true
  | _ :: _, [] => false
  | x :: xs, y :: ys => if x = y then lexLt xs ys else decide (x < y)
def cmpW : Cop → D → D → (Bool → Prop) → Prop
  | .eq, x, y, Q => eqOk x y = true ∧ Q (PyData.eqv x y)
  | .ne, x, y, Q => eqOk x y = true ∧ Q (!PyData.eqv x y)
  | .lt, .int i, .int j, Q => Q (decide (i < j))
  | .le, .int i, .int j, Q => Q (decide (i ≤ j))
  | .gt, .int i, .int j, Q => Q (decide (j < i))
  | .ge, .int i, .int j, Q => Q (decide (j ≤ i))
  | .lt, .tuple xs, .tuple ys, Q => onSome (intsOf xs) fun ns => onSome (intsOf ys) fun ms => Q (lexLt ns ms)
  | .le, .tuple xs, .tuple ys, Q => onSome (intsOf xs) fun ns => onSome (intsOf ys) fun ms => Q (!lexLt ms ns)
  | .lt, .str x, .str y, Q => Q (decide (x.cps.toList < y.cps.toList))
  | .le, .str x, .str y, Q => Q (!decide (y.cps.toList < x.cps.toList))
  | .gt, .str x, .str y, Q => Q (decide (y.cps.toList < x.cps.toList))
  | .ge, .str x, .str y, Q => Q (!decide (x.cps.toList < y.cps.toList))
  | .inn, .str x, .str y, Q => Q (!(Builtin.Str.occurrences y x 0 y.length 1).isEmpty)
  | .notIn, .str x, .str y, Q => Q (!(!(Builtin.Str.occurrences y x 0 y.length 1).isEmpty))
  | .is, .bool x, .bool y, Q => Q (decide (x = y))
  | .isNot, .bool x, .bool y, Q => Q (!decide (x = y))
  | .is, x, .none, Q => Q (isNone x)
  | .isNot, x, .none, Q => Q (!isNone x)
  | .inn, x, .tuple ys, Q => inOk x ys = true ∧ Q (ys.any fun y => PyData.eqv y x)
  | .inn, x, .list ys, Q => plainD x = true ∧ plainD (.list ys) = true ∧ Q (ys.any fun y => PyData.eqv y x)
  | .notIn, x, .tuple ys, Q => inOk x ys = true ∧ Q (!ys.any fun y => PyData.eqv y x)
  | .notIn, x, .list ys, Q => plainD x = true ∧ plainD (.list ys) = true ∧ Q (!ys.any fun y => PyData.eqv y x)
  | _, _, _, _ => False
def boolsOf : List D → Option (List Bool)
  | [] => some []
  | .bool i :: r => (boolsOf r).map (i :: ·)
  | _ => none
def seqOf : D → Option (List D)
  | .list xs => some xs
  | .tuple xs => some xs
  | _ => none
def pairsOf : List D → Option (List (Int × Int))
  | [] => some []
  | .tuple [.int i, .int j] :: r => (pairsOf r).map ((i, j) :: ·)
  | _ => none
def tyOf : D → List Ty
  | .none => []
  | .bool _ => [.bool, .int]
  | .int _ => [.int]
  | .str _ => [.str]
  | .list _ => [.list]
  | .tuple _ => [.tuple]
  | .dict _ => []
def pairLe (a b : Int × Int) : Bool := decide (a.1 < b.1) || (decide (a.1 = b.1) && decide (a.2 ≤ b.2))
def primW : Prim → List D → (O → Prop) → Prop
  | .len, [.list xs], Q => Q (.d (.int xs.length))
  | .len, [.tuple xs], Q => Q (.d (.int xs.length))
  | .len, [.str x], Q => x.length ≤ sizeLine ∧ Q (.d (.int x.length))
  | .sum, [.list xs], Q => onSome (intsOf xs) fun ns => Q (.d (.int ns.sum))
  | .sum, [.tuple xs], Q => onSome (intsOf xs) fun ns => Q (.d (.int ns.sum))
  | .tuple, [.list xs], Q => Q (.d (.tuple xs))
  | .tuple, [.tuple xs], Q => Q (.d (.tuple xs))
  | .list, [.list xs], Q => ∀ a, Q (.lst a (xs.map .d))
  | .list, [.tuple xs], Q => ∀ a, Q (.lst a (xs.map .d))
  | .sorted, [.list xs], Q => onSome (pairsOf xs) fun ps => ∀ qs : List (Int × Int), qs.Perm ps → qs.Pairwise (fun p q => pairLe p q = true) → ∀ a, Q (.lst a (qs.map fun p => O.d (.tuple [.int p.1, .int p.2])))
  | .repr, [x], Q => PyData.showable x = true ∧ x.hasDict = false ∧ x.shown.length ≤ sizeLine ∧ x.depth ≤ 64 ∧ Q (.d (.str x.shown))
  | .abs, [.int i], Q => Q (.d (.int (if i < 0 then -i else i)))
  | .max2, [.int i, .int j], Q => Q (.d (.int (if j > i then j else i)))
  | .min2, [.int i, .int j], Q => Q (.d (.int (if j < i then j else i)))
  | .all, [.list xs], Q => onSome (boolsOf xs) fun bs => Q (.d (.bool (bs.all id)))
  | .any, [.list xs], Q => onSome (boolsOf xs) fun bs => Q (.d (.bool (bs.any id)))
  | .isi t, [x], Q => Q (.d (.bool (decide (t ∈ tyOf x))))
  | .isis ts, [x], Q => Q (.d (.bool (ts.any fun t => decide (t ∈ tyOf x))))
  | _, _, _ => False
def ixW : D → D → (D → Prop) → Prop
  | .list xs, .int i, Q => onSome (atI xs i) Q
  | .tuple xs, .int i, Q => onSome (atI xs i) Q
  | .str x, .int i, Q => x.length ≤ sizeLine ∧ onSome (atI x.cps.toList i) fun c => Q (.str ⟨#[c]⟩)
  | _, _, _ => False
def cutD (xs : List D) (lo hi : Option Int) : List D := (xs.drop (HT.sIx xs.length 0 lo)).take (HT.sIx xs.length xs.length hi - HT.sIx xs.length 0 lo)
def slW : D → Option Int → Option Int → (O → Prop) → Prop
  | .list xs, lo, hi, Q => ∀ a, Q (.lst a ((cutD xs lo hi).map .d))
  | .tuple xs, lo, hi, Q => Q (.d (.tuple (cutD xs lo hi)))
  | .str x, lo, hi, Q => x.length ≤ sizeLine ∧ Q (.d (.str (cutS x lo hi)))
  | _, _, _, _ => False
def datas : List O → Option (List D)
  | [] => some []
  | .d x :: r => (datas r).map (x :: ·)
  | _ => none
theorem datas_map : ∀ ds : List D, datas (ds.map O.d) = some ds
  | [] => rfl
  | e :: es => by
    show (datas (es.map O.d)).map (e :: ·) = _
    rw [datas_map es]; rfl
theorem datas_eq : ∀ {os : List O} {ds : List D}, datas os = some ds → os = ds.map O.d
  | [], ds, h => by cases h; rfl
  | .d x :: r, ds, h => by
    unfold datas at h
    cases e : datas r with
    | none => rw [e] at h; cases h
    | some es =>
      rw [e] at h
      cases h
      rw [datas_eq e]; rfl
  | .tup _ :: _, _, h => nomatch h
  | .obj _ _ _ :: _, _, h => nomatch h
def useW (w : W) (env : Env) (Q : D → Prop) : Prop := match w with
  | .o x => Q x.toD
  | .al a i p => match envAt env i p with
    | some (.obj b .lst xs) => b = a ∧ onSome (datas xs) fun ds => Q (.list ds)
    | _ => False
def escW (w : W) (env : Env) (Q : D → Env → Prop) : Prop := match w with
  | .o x => Q x.toD env
  | .al a i p => match envAt env i p with
    | some (.obj b k xs) => b = a ∧ Q (O.obj b k xs).toD (envPut env i p (.d (O.obj b k xs).toD))
    | _ => False
def useWs : List W → Env → (List D → Prop) → Prop
  | [], _, Q => Q []
  | w :: ws, env, Q => useW w env fun d => useWs ws env fun ds => Q (d :: ds)
def tst (w : W) (Q : Bool → Prop) : Prop := match w with
  | .o (.d (.bool b)) => Q b
  | _ => False
def inW (w : W) (env : Env) (Q : O → Env → Prop) : Prop := match w with
  | .o x => Q x env
  | .al .. => escW w env fun x env' => Q (.d x) env'
def setAll : List Nat → List O → Env → (Env → Prop) → Prop
  | [], [], env, Q => Q env
  | i :: is, o :: os, env, Q => i < env.length ∧ setAll is os (env.set i (some o)) Q
  | _, _, _, _ => False
def notTup : O → Bool
  | .tup _ => false
  | _ => true
def slotO : O → O
  | .tup xs => .d (.tuple (O.toDs xs))
  | o => o
def itemsO : W → Env → (List O → Prop) → Prop
  | .o (.d (.tuple ds)), _, Q => Q (ds.map O.d)
  | .o (.tup os), _, Q => os.all notTup = true ∧ Q os
  | .o (.d (.list ds)), _, Q => Q (ds.map O.d)
  | .al a i p, env, Q => match envAt env i p with
    | some (.obj b .lst xs) => b = a ∧ onSome (datas xs) fun ds => Q (ds.map O.d)
    | _ => False
  | _, _, _ => False
def Tg.slots : Tg → List Nat
  | .v i => [i]
  | .tup is => is
def bindT (t : Tg) (w : W) (env : Env) (Q : Env → Prop) : Prop := match t with
  | .v i => inW w env fun o env' => i < env'.length ∧ Q (env'.set i (some (slotO o)))
  | .tup is => itemsO w env fun os => setAll is os env Q
structure Exn where
  cls : Str
  ns : List Str
  ds : List D
abbrev FSem := List O → (O → List O → Prop) → (Exn → List O → Prop) → Prop
def lend : List W → Env → Option (List O)
  | [], _ => some []
  | .o x :: r, env => if notTup x = true then (lend r env).map (x :: ·) else none
  | .al a i p :: r, env => match envAt env i p with
    | some (.obj b k xs) => if b = a then (lend r env).map (.obj b k xs :: ·) else none
    | _ => none
def lentAt : List W → List Nat
  | [] => []
  | .o _ :: r => lentAt r
  | .al _ i _ :: r => i :: lentAt r
def giveBack : List W → List O → Env → Option Env
  | [], _, env => some env
  | .o _ :: r, _ :: os, env => giveBack r os env
  | .al a i p :: r, .obj b k xs :: os, env => if b = a then giveBack r os (envPut env i p (.obj b k xs)) else none
  | _, _, _ => none
def inWs : List W → Env → (List O → Env → Prop) → Prop
  | [], env, Q => Q [] env
  | w :: ws, env, Q => inW w env fun o env' => inWs ws env' fun os env'' => Q (o :: os) env''
def keyOf : D → Option Key
  | .int i => some (.inl i)
  | .str x => some (.inr x)
  | _ => none
def keyIx (ks : List Key) (k : Key) : Option Nat := ks.findIdx? fun x => decide (x = k)
def setW (t k : W) (o : O) (env : Env) (Q : Env → Prop) : Prop := match t with
  | .al a i p => match envAt env i p with
    | some (.obj b (.dct ks) xs) => b = a ∧ useW k env fun d => onSome (keyOf d) fun key => ks.length < 1000000 ∧ match keyIx ks key with
      | some j => Q (envPut env i p (.dct b ks (xs.set j o)))
      | none => Q (envPut env i p (.dct b (ks ++ [key]) (xs ++ [o])))
    | some (.obj b .lst xs) => b = a ∧ useW k env fun d => match d with
      | .int n => onSome (ixN xs.length n) fun j => Q (envPut env i p (.lst b (xs.set j o)))
      | _ => False
    | _ => False
  | _ => False
def itemW (t k : W) (env : Env) (Q : W → Prop) : Prop := match t with
  | .o (.obj _ .lst xs) => useW k env fun d => match d with
    | .int n => onSome (atI xs n) fun o => Q (.o o)
    | _ => False
  | .o (.tup xs) => useW k env fun d => match d with
    | .int n => onSome (atI xs n) fun o => Q (.o o)
    | _ => False
  | .o (.obj _ (.dct ks) xs) => useW k env fun d => onSome (keyOf d) fun key => onSome (keyIx ks key) fun j => onSome xs[j]? fun o => Q (.o o)
  | .o (.obj _ (.ins _ _ _ _) _) => False
  | .o (.obj _ (.dctL _ _) _) => False
  | .o (.d x) => useW k env fun d => ixW x d fun y => Q (.o (.d y))
  | .al a i p => match envAt env i p with
    | some (.obj b .lst xs) => b = a ∧ useW k env fun d => match d with
      | .int n => onSome (ixN xs.length n) fun j => onSome xs[j]? fun y => match y with
        | .d y => Q (.o (.d y))
        | .obj c _ _ => Q (.al c i (p ++ [.ix j]))
        | .tup _ => False
      | _ => False
    | some (.obj b (.dct ks) xs) => b = a ∧ useW k env fun d => onSome (keyOf d) fun key => onSome (keyIx ks key) fun j => onSome xs[j]? fun y => match y with
        | .d y => Q (.o (.d y))
        | .obj c _ _ => Q (.al c i (p ++ [.ix j]))
        | .tup _ => False
    | _ => False
inductive Pl where
  | seq (q : Addr × Nat × List Stp)
  | keys (a : Addr) (i : Nat) (p : List Stp) (od : Obj) (ks : List Key)
instance : Coe (Addr × Nat × List Stp) Pl := ⟨Pl.seq⟩
structure Src where
  xs : List D
  at? : Option Pl
def Src.still (s : Src) (env : Env) : Prop := match s.at? with
  | none => True
  | some (.seq (a, i, p)) => envAt env i p = some (.lst a (s.xs.map O.d))
  | some (.keys a i p od ks) => (∃ ys, envAt env i p = some (.obj a (.dctL od ks) ys)) ∧ s.xs = ks.map keyD
def srcW (w : W) (env : Env) (Q : Src → Prop) : Prop := match w with
  | .o x => onSome (seqOf x.toD) fun ds => Q ⟨ds, none⟩
  | .al a i p => match envAt env i p with
    | some (.obj b .lst xs) => b = a ∧ onSome (datas xs) fun ds => Q ⟨ds, some (a, i, p)⟩
    | _ => False
def upTo (lo : Int) (n : Nat) : List D := (List.range n).map fun (i : Nat) => PyData.int (lo + i)
def inRange (i : Int) : Prop := -(2 ^ 62) ≤ i ∧ i < 2 ^ 62
def goFor (s : Src) (step : D → Env → (Env → Prop) → Prop) : List D → Env → (Env → Prop) → Prop
  | [], env, Q => Q env
  | x :: xs, env, Q => step x env fun env' => s.still env' ∧ goFor s step xs env' Q
def void : List Nat → Env → Env
  | [], env => env
  | i :: is, env => (void is env).set i none
def restore (old : Env) : List Nat → Env → Env
  | [], env => env
  | i :: is, env => (restore old is env).set i (match old[i]? with | some o => o | none => none)
def plainAt (env : Env) (i : Nat) : Prop := match env[i]? with
  | some none => True
  | some (some (.d _)) => True
  | _ => False
def goComp (s : Src) (step : D → Env → List O → (Env → List O → Prop) → Prop) : List D → Env → List O → (Env → List O → Prop) → Prop
  | [], env, acc, Q => Q env acc
  | x :: xs, env, acc, Q => step x env acc fun env' acc' => s.still env' ∧ goComp s step xs env' acc' Q
structure Kt where
  nx : Env → Prop
  rt : W → Env → Prop
  bk : Env → Prop
  ct : Env → Prop
def backs : Nat → List O → Env → Option (List O)
  | _, [], _ => some []
  | i, .obj a _ xs :: r, env => match env[i]? with
    | some (some (.obj b k ys)) => if b = a then (backs (i + 1) r env).map (.obj b k ys :: ·) else none
    | _ => none
  | i, o :: r, env => (backs (i + 1) r env).map (o :: ·)
def retW (os : List O) (w : W) (env : Env) (Q : O → Env → Prop) : Prop := match w with
  | .o x => Q x env
  | .al a i [] => match os[i]? with
    | some (.obj _ _ _) => escW w env fun x env' => Q (.d x) env'
    | _ => match env[i]? with
      | some (some (.obj b k xs)) => b = a ∧ Q (.obj b k xs) (env.set i none)
      | _ => False
  | .al .. => escW w env fun x env' => Q (.d x) env'
def start (n : Nat) (os : List O) : Env := os.map some ++ List.replicate (n - os.length) none
end Vx
namespace Vx
open PySem PySem.Spec L2
section
variable {K : PySem.W.Frag} {B : Bs} {S S' : Fz} {H H' : Hp} {σ : L2.St} {env : Env} {T : List (V × W)}
def fzT (t : V × W) : V × W := match t.2 with
  | .o x => (t.1, .o (.d x.toD))
  | .al a i p => (t.1, .al a i p)
theorem cntT_fz (b : Addr) : ∀ P : List (V × W), cntT b (P.map fzT) = 0
  | [] => rfl
  | (v, .o x) :: P => by show 0 + cntT b (P.map fzT) = 0; rw [cntT_fz b P]
  | (v, .al _ _ _) :: P => by show 0 + cntT b (P.map fzT) = 0; rw [cntT_fz b P]
theorem TmpR.kp {t : V × W} (k : Kp S S' H H') (q : TmpR K S H t) (c : ∀ a, 0 < cntW a t.2 → H' a = H a) : TmpR K S' H' t := by
  obtain ⟨v, w⟩ := t
  cases w with
  | o x => exact OwnR.kp k q c
  | al _ _ _ => exact q
theorem R.frozeP {P : List (V × W)} (r : R K B S H σ env (P ++ T)) : R K B (fun a => S a ∨ 0 < cntT a P) H σ env (P.map fzT ++ T) := by
  have k : Kp S (fun a => S a ∨ 0 < cntT a P) H H := Kp.more fun a h => .inl h
  have hT : ∀ a, cntT a (P ++ T) = cntT a P + cntT a T := fun a => cntT_append a P T
  have hT' : ∀ a, cntT a (P.map fzT ++ T) = cntT a T := fun a => by rw [cntT_append, cntT_fz, Nat.zero_add]
  refine ⟨r.len, fun i x e => ?_, fun t ht => ?_, fun a => ?_, fun a ha => ?_, fun a ha => ?_, r.keep, r.dom, fun a ha => r.new a ?_, fun a ha => ?_, fun a h => .inl (r.sub a h)⟩
  · obtain ⟨v, e1, w⟩ := r.slots i x e
    exact ⟨v, e1, w.kp k fun _ _ => rfl⟩
  · rcases List.mem_append.mp ht with ht | ht
    · obtain ⟨u, hu, e⟩ := List.mem_map.mp ht
      have q := r.tmps u (List.mem_append_left _ hu)
      have hm := fun b => cntT_mem (b := b) hu
      obtain ⟨v, w⟩ := u
      cases w with
      | o x =>
        subst e
        have q' : OwnR K S H v x := q
        exact OwnR.d (q'.froze (fun a h => .inl h) fun a h => .inr (Nat.lt_of_lt_of_le h (hm a)))
      | al _ _ _ => subst e; exact q
    · exact (r.tmps t (List.mem_append_right _ ht)).kp k fun _ _ => rfl
  · have := r.one a; rw [hT] at this; rw [hT']; omega
  · rcases ha with h | h
    · have := r.apart a h; rw [hT] at this; rw [hT']; omega
    · have := r.one a; rw [hT] at this; rw [hT']; omega
  · rcases ha with h | h
    · exact r.sH a h
    · obtain ⟨_, _, e⟩ := r.live (a := a) (by rw [hT]; omega)
      rw [e]; simp
  · rw [hT'] at ha; rw [hT]; omega
  · rcases ha with h | h
    · exact r.newS a h
    · exact .inr (r.new a (by rw [hT]; omega))
theorem R.perm {T' : List (V × W)} (r : R K B S H σ env T) (h : ∀ t ∈ T', t ∈ T) (c : ∀ b, cntT b T' ≤ cntT b T) : R K B S H σ env T' := r.tmp (fun t ht => r.tmps t (h t ht)) c
def Ud (K : PySem.W.Frag) (S : Fz) (H : Hp) (v : V) (x : D) : Prop :=
  Rp K S H v x ∨ ∃ a vs ds, v = .ref a ∧ x = .list ds ∧ H a = some (.lst vs) ∧ RpA K S H vs ds
theorem Ud.dp {v : V} {x : D} (u : Ud K S H v x) (hd : x.hasDict = false) : Dp K H v x := by
  rcases u with u | ⟨a, vs, ds, rfl, rfl, e, r⟩
  · exact u.dp hd
  · exact .lst (.inl (.inl e)) (r.dp (by simpa only [PyData.hasDict] using hd))
theorem Ud.list {v : V} {ds : List D} (u : Ud K S H v (.list ds)) : ∃ a vs, v = .ref a ∧ SqL K H a vs ∧ RpA K S H vs ds := by
  rcases u with u | ⟨a, vs, ds, rfl, h, e, r⟩
  · cases u with
    | lst f r => exact ⟨_, _, rfl, f.sq, r⟩
  · cases h; exact ⟨a, vs, rfl, .inl (.inl e), r⟩
theorem Ud.tup {v : V} {ds : List D} (u : Ud K S H v (.tuple ds)) : ∃ a vs, v = .ref a ∧ SqT K H a vs ∧ RpA K S H vs ds := by
  rcases u with u | ⟨a, vs, ds, rfl, h, e, r⟩
  · cases u with
    | tup f r => exact ⟨_, _, rfl, f.sq, r⟩
  · cases h
theorem Ud.tupC {v : V} {ds : List D} (u : Ud K S H v (.tuple ds)) : ∃ a vs, v = .ref a ∧ CqT K H a vs ∧ RpA K S H vs ds := by
  rcases u with u | ⟨a, vs, ds, rfl, h, e, r⟩
  · cases u with
    | tup f r => exact ⟨_, _, rfl, f, r⟩
  · cases h
theorem Ud.rp_tup {v : V} {ds : List D} (u : Ud K S H v (.tuple ds)) : Rp K S H v (.tuple ds) := by
  rcases u with u | ⟨a, vs, ds, rfl, h, e, r⟩
  · exact u
  · cases h
theorem Ud.int {v : V} {i : Int} (u : Ud K S H v (.int i)) : v = .int i := by
  rcases u with u | ⟨a, vs, ds, rfl, h, e, r⟩
  · cases u; rfl
  · cases h
theorem Ud.str {v : V} {i : Str} (u : Ud K S H v (.str i)) : v = .str i := by
  rcases u with u | ⟨a, vs, ds, rfl, h, e, r⟩
  · cases u; rfl
  · cases h
theorem Ud.bool {v : V} {i : Bool} (u : Ud K S H v (.bool i)) : v = .bl i := by
  rcases u with u | ⟨a, vs, ds, rfl, h, e, r⟩
  · cases u; rfl
  · cases h
theorem Ud.non {v : V} (u : Ud K S H v .none) : v = .non := by
  rcases u with u | ⟨a, vs, ds, rfl, h, e, r⟩
  · cases u; rfl
  · cases h
inductive UdA (K : PySem.W.Frag) (S : Fz) (H : Hp) : List V → List D → Prop
  | nil : UdA K S H [] []
  | cons {v : V} {x : D} {vs : List V} {ds : List D} : Ud K S H v x → UdA K S H vs ds → UdA K S H (v :: vs) (x :: ds)
theorem onSome_some {α : Type} {o : Option α} {Q : α → Prop} (h : onSome o Q) : ∃ x, o = some x ∧ Q x := by
  cases o with
  | none => exact h.elim
  | some x => exact ⟨x, rfl, h⟩
theorem R.slotAt (r : R K B S H σ env T) {i : Nat} {p : List Stp} {o : O} (h : envAt env i p = some o) : ∃ v, OwnR K S H v o := by
  obtain ⟨x, e, ha⟩ := envAt_some h
  obtain ⟨v, _, q⟩ := r.slots i x e
  obtain ⟨v', q', _⟩ := q.at ha
  exact ⟨v', q'⟩
theorem R.seenObj (r : R K B S H σ env T) {a : Addr} {k : Kd} {i : Nat} {p : List Stp} {xs : List O} (h : envAt env i p = some (.obj a k xs)) : ∃ vs, H a = some (hoOf k vs) ∧ k.fits K vs.length ∧ OwnA K S H vs xs := by
  obtain ⟨v, q⟩ := r.slotAt h
  cases q with
  | obj e hf w => exact ⟨_, e, hf, w⟩
theorem R.seenAt (r : R K B S H σ env T) {a : Addr} {i : Nat} {p : List Stp} {xs : List O} (h : envAt env i p = some (.lst a xs)) : ∃ vs, H a = some (.lst vs) ∧ OwnA K S H vs xs := by
  obtain ⟨vs, e, _, w⟩ := r.seenObj h
  exact ⟨vs, e, w⟩
theorem R.used {P : List (V × W)} (r : R K B S H σ env (P ++ T)) : ∃ S', R K B S' H σ env (P.map fzT ++ T) ∧
    ∀ t ∈ P, ∀ Q, useW t.2 env Q → ∃ x, Q x ∧ Ud K S' H t.1 x := by
  refine ⟨_, r.frozeP, fun t ht Q q => ?_⟩
  have r' := r.frozeP
  have tm := r'.tmps (fzT t) (List.mem_append_left _ (List.mem_map_of_mem ht))
  obtain ⟨v, w⟩ := t
  cases w with
  | o x =>
    refine ⟨x.toD, q, .inl ?_⟩
    cases tm with
    | d tm => exact tm
  | al a i p =>
    unfold useW at q
    cases e : envAt env i p with
    | none => simp only [e] at q
    | some y =>
      simp only [e] at q
      cases y with
      | d _ => exact q.elim
      | tup _ => exact q.elim
      | obj b k xs =>
        cases k with
        | dct _ => exact q.elim
        | ins _ _ _ _ => exact q.elim
        | dctL _ _ => exact q.elim
        | lst =>
        obtain ⟨rfl, q⟩ := q
        obtain ⟨ds, hd, q⟩ := onSome_some q
        obtain ⟨vs, hv, w⟩ := r'.seenAt e
        rw [datas_eq hd] at w
        exact ⟨_, q, .inr ⟨_, vs, ds, tm, rfl, hv, w.data⟩⟩
theorem R.usedAll {P : List (V × W)} (r : R K B S H σ env (P ++ T)) {Q : List D → Prop} (h : useWs (P.map (·.2)) env Q) :
    ∃ S' ds, R K B S' H σ env (P.map fzT ++ T) ∧ Q ds ∧ UdA K S' H (P.map (·.1)) ds := by
  obtain ⟨S', r', f⟩ := r.used
  have go : ∀ (l : List (V × W)), (∀ t ∈ l, t ∈ P) → ∀ Q : List D → Prop, useWs (l.map (·.2)) env Q → ∃ ds, Q ds ∧ UdA K S' H (l.map (·.1)) ds := by
    intro l
    induction l with
    | nil => intro _ Q h; exact ⟨[], h, .nil⟩
    | cons t l ih =>
      intro hm Q h
      obtain ⟨x, h, u⟩ := f t (hm t List.mem_cons_self) _ h
      obtain ⟨ds, h, us⟩ := ih (fun u hu => hm u (List.mem_cons_of_mem _ hu)) _ h
      exact ⟨x :: ds, h, .cons u us⟩
  obtain ⟨ds, q, u⟩ := go P (fun _ h => h) Q h
  exact ⟨S', ds, r', q, u⟩
theorem envPut_get {i j : Nat} {p : List Stp} {y o : O} (e : env[i]? = some (some o)) (hj : j ≠ i) : (envPut env i p y)[j]? = env[j]? := by
  rw [envPut_eq e, List.getElem?_set_ne (Ne.symm hj)]
theorem R.putAt {P T : List (V × W)} {i : Nat} {p : List Stp} {o' y : O} {S' : Fz} {H' : Hp} (r : R K B S H σ env (P ++ T)) (h : envAt env i p = some o') (k : Kp S S' H H')
    (hy : ∀ w, OwnR K S H w o' → OwnR K S' H' w y) (hT : ∀ t ∈ T, TmpR K S H t → TmpR K S' H' t)
    (same : ∀ b, 0 < cntE b env + cntT b (P ++ T) → o'.cnt b = 0 → cntT b P = 0 → H' b = H b)
    (cy : ∀ b, y.cnt b ≤ o'.cnt b + cntT b P)
    (sN : ∀ b, S' b → S b ∨ (0 < o'.cnt b + cntT b P ∧ y.cnt b = 0))
    (sH : ∀ b, S' b → H' b ≠ none)
    (old : ∀ b o, H b = some o → o'.cnt b = 0 → cntT b P = 0 → H' b = some o) (dom : ∀ b, H' b = none → H b = none) : R K B S' H' σ (envPut env i p y) T := by
  obtain ⟨o, e, ha⟩ := envAt_some h
  have hc := envPut_cnt (y := y) h
  have hap : ∀ b, cntT b (P ++ T) = cntT b P + cntT b T := fun b => cntT_append b P T
  have hone : ∀ b, cntE b env + (cntT b P + cntT b T) ≤ 1 := fun b => by rw [← hap]; exact r.one b
  have he : ∀ b, o.cnt b ≤ cntE b env := fun b => cntE_get e
  have hle : ∀ b, o'.cnt b ≤ o.cnt b := fun b => by
    obtain ⟨v, _, q⟩ := r.slots i o e
    obtain ⟨_, _, c⟩ := q.at ha
    exact c b
  refine ⟨by rw [envPut_length]; exact r.len, fun j x ej => ?_, fun t ht => hT t ht (r.tmps t (List.mem_append_right _ ht)), fun b => ?_, fun b hb => ?_, sH, fun b u h1 h2 => ?_, fun b hb => r.dom b (dom b hb), fun b hb => ?_, fun b hb => ?_, fun b hb => k.s b (r.sub b hb)⟩
  · by_cases hj : j = i
    · subst hj
      rw [envPut_eq e] at ej
      have hi : j < env.length := (List.getElem?_eq_some_iff.mp e).1
      rw [List.getElem?_set_self hi] at ej
      cases ej
      obtain ⟨v, e1, q⟩ := r.slots j o e
      refine ⟨v, e1, OwnR.putAt (v' := v) k q ha (fun b => by have := hone b; have := he b; omega) hy fun b h1 h2 => same b (by have := he b; omega) h2 ?_⟩
      have := hone b; have := he b; omega
    · rw [envPut_get e hj] at ej
      obtain ⟨v, e1, q⟩ := r.slots j x ej
      refine ⟨v, e1, q.kp k fun b hb => ?_⟩
      have h2 : cntO b (some x) + cntO b (some o) ≤ cntE b env := cntE_two hj ej e
      have h3 : x.cnt b + o.cnt b ≤ cntE b env := h2
      refine same b (by omega) ?_ ?_
      · have := hone b; have := hle b; omega
      · have := hone b; omega
  · have := hone b; have := hc b; have := cy b; omega
  · rcases sN b hb with q | ⟨q1, q2⟩
    · have h1 := r.apart b q
      rw [hap] at h1
      have := hc b; have := cy b
      have := he b; have := hle b
      omega
    · have := hone b; have := hc b; have := he b; have := hle b; omega
  · refine old b u (r.keep b u h1 h2) ?_ ?_
    · by_cases q : 0 < o'.cnt b
      · rcases r.new b (by have := he b; have := hle b; omega) with z | z
        · exact absurd z h2
        · rw [z] at h1; cases h1
      · omega
    · by_cases q : 0 < cntT b P
      · rcases r.new b (by rw [hap]; omega) with z | z
        · exact absurd z h2
        · rw [z] at h1; cases h1
      · omega
  · refine r.new b ?_
    rw [hap]
    have := hc b; have := cy b
    have := he b; have := hle b
    omega
  · rcases sN b hb with q | ⟨q1, _⟩
    · exact r.newS b q
    · refine .inr (r.new b ?_)
      rw [hap]
      have := he b; have := hle b
      omega
theorem R.escAt (r : R K B S H σ env T) {i : Nat} {p : List Stp} {a : Addr} {kd : Kd} {xs : List O} (h : envAt env i p = some (.obj a kd xs)) :
    ∃ S', R K B S' H σ (envPut env i p (.d (O.obj a kd xs).toD)) ((.ref a, .o (.d (O.obj a kd xs).toD)) :: T) := by
  refine ⟨fun b => S b ∨ 0 < (O.obj a kd xs).cnt b, ?_⟩
  have k : Kp S (fun b => S b ∨ 0 < (O.obj a kd xs).cnt b) H H := Kp.more fun b h => .inl h
  obtain ⟨o, e, ha⟩ := envAt_some h
  have hin : ∀ b, (O.obj a kd xs).cnt b ≤ cntE b env := fun b => by
    obtain ⟨v, _, q⟩ := r.slots i o e
    obtain ⟨_, _, c⟩ := q.at ha
    exact Nat.le_trans (c b) (cntE_get e)
  have r1 := R.putAt (P := []) (T := T) (y := .d (O.obj a kd xs).toD) r h k (fun w q => .d (q.froze (fun b h => .inl h) fun b h => .inr h)) (fun t _ q => q.kp k fun _ _ => rfl) (fun _ _ _ _ => rfl)
    (fun b => Nat.zero_le _) (fun b hb => hb.elim .inl fun z => .inr ⟨z, rfl⟩) (fun b hb => ?_) (fun _ _ z _ _ => z) (fun _ z => z)
  · refine r1.push ?_
    obtain ⟨vs, hv, hf, w⟩ := r.seenObj h
    exact (OwnR.obj hv hf w).froze (fun b h => .inl h) fun b h => .inr h
  · rcases hb with hb | hb
    · exact r.sH b hb
    · obtain ⟨_, _, e'⟩ := r.live (a := b) (by have := hin b; omega)
      rw [e']; simp
theorem R.esc {v : V} {w : W} (r : R K B S H σ env ((v, w) :: T)) {Q : D → Env → Prop} (h : escW w env Q) : ∃ x env' S', Q x env' ∧ R K B S' H σ env' ((v, .o (.d x)) :: T) := by
  cases w with
  | o x => exact ⟨x.toD, env, _, h, r.froze⟩
  | al a i p =>
    have tv : v = .ref a := r.tmps (v, .al a i p) List.mem_cons_self
    subst tv
    unfold escW at h
    cases e : envAt env i p with
    | none => simp only [e] at h
    | some y =>
      simp only [e] at h
      cases y with
      | d _ => exact h.elim
      | tup _ => exact h.elim
      | obj b k xs =>
        obtain ⟨rfl, q⟩ := h
        obtain ⟨S', r'⟩ := r.pop.escAt e
        exact ⟨_, _, S', q, r'⟩
theorem R.into {v : V} {w : W} (r : R K B S H σ env ((v, w) :: T)) {Q : O → Env → Prop} (h : inW w env Q) : ∃ o env' S', Q o env' ∧ R K B S' H σ env' ((v, .o o) :: T) := by
  cases w with
  | o x => exact ⟨x, env, S, h, r⟩
  | al a i p =>
    obtain ⟨x, env', S', q, r'⟩ := r.esc (Q := fun x env' => Q (.d x) env') h
    exact ⟨_, _, S', q, r'⟩
theorem R.intos : ∀ (P : List (V × W)) {L : List (V × W)} {S : Fz} {env : Env} {Q : List O → Env → Prop}, R K B S H σ env (L ++ (P ++ T)) → inWs (P.map (·.2)) env Q →
    ∃ os env' S', Q os env' ∧ os.length = P.length ∧ R K B S' H σ env' (L ++ ((P.map (·.1)).zip (os.map W.o) ++ T))
  | [], L, S, env, Q, r, h => ⟨[], env, S, h, rfl, r⟩
  | (v, w) :: P, L, S, env, Q, r, h => by
    have r1 : R K B S H σ env ((v, w) :: (L ++ (P ++ T))) := r.perm (fun t ht => by
      rcases List.mem_cons.mp ht with e | ht
      · subst e; exact List.mem_append_right _ List.mem_cons_self
      · rcases List.mem_append.mp ht with ht | ht
        · exact List.mem_append_left _ ht
        · exact List.mem_append_right _ (List.mem_cons_of_mem _ ht)) fun b => by
        show cntW b w + cntT b (L ++ (P ++ T)) ≤ cntT b (L ++ ((v, w) :: (P ++ T)))
        rw [cntT_append, cntT_append b L ((v, w) :: (P ++ T))]
        show _ ≤ _ + (cntW b w + _)
        omega
    obtain ⟨o, env1, S1, q, r2⟩ := r1.into h
    have r3 : R K B S1 H σ env1 ((L ++ [(v, .o o)]) ++ (P ++ T)) := r2.perm (fun t ht => by
      rcases List.mem_append.mp ht with ht | ht
      · rcases List.mem_append.mp ht with ht | ht
        · exact List.mem_cons_of_mem _ (List.mem_append_left _ ht)
        · rw [List.mem_singleton.mp ht]; exact List.mem_cons_self
      · exact List.mem_cons_of_mem _ (List.mem_append_right _ ht)) fun b => by
        show _ ≤ cntW b (.o o) + cntT b (L ++ (P ++ T))
        rw [cntT_append, cntT_append b L [_], cntT_append b L]
        show _ + (cntW b (.o o) + 0) + _ ≤ _
        omega
    obtain ⟨os, env2, S2, q2, hl, r4⟩ := R.intos P r3 q
    refine ⟨o :: os, env2, S2, q2, congrArg (· + 1) hl, ?_⟩
    rw [List.append_assoc] at r4
    exact r4
theorem ownA_of : ∀ {vs : List V} {os : List O}, vs.length = os.length → (∀ t ∈ vs.zip (os.map W.o), TmpR K S H t) → OwnA K S H vs os
  | [], [], _, _ => .nil
  | _ :: _, [], h, _ => nomatch h
  | [], _ :: _, h, _ => nomatch h
  | v :: vs, o :: os, h, f => .cons (f (v, .o o) List.mem_cons_self) (ownA_of (Nat.succ.inj h) fun t ht => f t (List.mem_cons_of_mem _ ht))
theorem cntT_zip (b : Addr) : ∀ {vs : List V} {os : List O}, vs.length = os.length → cntT b (vs.zip (os.map W.o)) = O.cntL b os
  | [], [], _ => rfl
  | _ :: _, [], h => nomatch h
  | [], _ :: _, h => nomatch h
  | v :: vs, o :: os, h => by
    show o.cnt b + cntT b (vs.zip (os.map W.o)) = o.cnt b + O.cntL b os
    rw [cntT_zip b (Nat.succ.inj h)]
end
end Vx
namespace Vx
open PySem PySem.Spec L2
abbrev WT := (Exn → Env → Prop) → Env → (W → Env → Prop) → Prop
abbrev WA := (Exn → Env → Prop) → Env → (List W → Env → Prop) → Prop
abbrev WB := (Exn → Env → Prop) → Env → (Bool → Env → Prop) → Prop
def ExR (K : PySem.W.Frag) (mg : Str → Option Value) (S : Fz) (H : Hp) (ex : Exn) (cls : Value) (d : Option Addr) : Prop :=
  ∃ (C dx : Addr) (xs : List V), cls = .ref C ∧ d = some dx ∧ S dx ∧ H dx = some (.xd (ex.ns.zip xs)) ∧ ex.ns.length = xs.length ∧ PySem.W.nsIn K mainGlobals ex.cls = some (some (.ref C)) ∧ ExK K C ex.ns ∧ RpA K S H xs ex.ds
def Lets (X : Cx) (B : Bs) (Wx : WX) (PX : Exn → Env → Prop) : Prop :=
  ∀ ex env S H σ cls d, PX ex env → R X.K B S H σ env [] → ExR X.K X.mg S H ex cls d → Wx cls d σ H
section
variable (X : Cx) (B : Bs) (Wx : WX)
def tE (w : WT) : TE := fun σ H Q => ∃ S env T P PX, R X.K B S H σ env T ∧ w PX env P ∧ (∀ x env' v S' H', P x env' → R X.K B S' H' σ env' ((v, x) :: T) → Q v H') ∧ Lets X B Wx PX
def tA' (w : WA) : TA := fun σ H Q => ∃ S env T P PX, R X.K B S H σ env T ∧ w PX env P ∧
  (∀ env' Z S' H', P (Z.map (·.2)) env' → R X.K B S' H' σ env' (Z ++ T) → Q (Z.map (·.1)) H') ∧ Lets X B Wx PX
def tT (w : WB) : TT := fun σ H Q => ∃ S env T P PX, R X.K B S H σ env T ∧ w PX env P ∧ (∀ b env' S' H', P b env' → R X.K B S' H' σ env' T → Q b H') ∧ Lets X B Wx PX
end
section
variable {X : Cx} {B : Bs} {Wx : WX}
theorem PE_imp {e : Expr} {t t' : TE} (h : PE X e t) (f : ∀ σ H Q, t' σ H Q → t σ H Q) : PE X e t' := ⟨fun pins s σ H Q I q => h.run pins s σ H Q I (f σ H Q q)⟩
theorem PT_imp {e : Expr} {t t' : TT} (h : PT X e t) (f : ∀ σ H Q, t' σ H Q → t σ H Q) : PT X e t' := ⟨fun pins s σ H Q I q => h.run pins s σ H Q I (f σ H Q q)⟩
theorem PA_imp {es : List Expr} {t t' : TA} (h : PA X es t) (f : ∀ σ H Q, t' σ H Q → t σ H Q) : PA X es t' := ⟨fun pos pins s σ H Q I q => h.run pos pins s σ H Q I (f σ H Q q)⟩
variable {a b c : Expr} {wa wb wc : WT} {pos : Pos}
theorem s_const {x : D} {v : V} (h : PE X a (tC v)) (rp : ∀ K S H, Rp K S H v x) : PE X a (tE X B Wx fun _ env P => P (.o (.d x)) env) :=
  PE_imp h fun σ H Q ⟨S, env, T, P, PX, r, hw, hP, _⟩ => hP _ env v S H hw (r.push (rp _ _ _))
def wVar (i : Nat) : WT := fun _ env P => match env[i]? with
  | some (some (.d x)) => P (.o (.d x)) env
  | some (some (.obj a _ _)) => P (.al a i []) env
  | _ => False
theorem s_var {i : Nat} (h : PE X a (tVar i)) : PE X a (tE X B Wx (wVar i)) :=
  PE_imp h fun σ H Q ⟨S, env, T, P, PX, r, hw, hP, _⟩ => by
    unfold wVar at hw
    cases e : env[i]? with
    | none => rw [e] at hw; exact hw.elim
    | some o =>
      rw [e] at hw
      cases o with
      | none => exact hw.elim
      | some o =>
        obtain ⟨v, e1, q⟩ := r.slots i o e
        cases o with
        | d x =>
          cases q with
          | d q => exact ⟨v, e1, hP _ env v S H hw (r.push q)⟩
        | tup _ => exact hw.elim
        | obj p k xs =>
          have ev := q.ref rfl
          subst ev
          exact ⟨_, e1, hP _ env _ S H hw r.seen⟩
theorem s_two {r2 : R2} {k : W → W → Env → (W → Env → Prop) → Prop}
    (step : ∀ (S : Fz) (H : Hp) (σ : L2.St) (env : Env) (T : List (V × W)) (vx vy : V) (x y : W) (P : W → Env → Prop) (Q : VK), R X.K B S H σ env ((vy, y) :: (vx, x) :: T) → k x y env P →
      (∀ x env' v S' H', P x env' → R X.K B S' H' σ env' ((v, x) :: T) → Q v H') → r2 vx vy H Q)
    {σ : L2.St} {H : Hp} {Q : VK} (h : tE X B Wx (fun PX env P => wa PX env fun x env1 => wb PX env1 fun y env2 => k x y env2 P) σ H Q) :
    tOp r2 (tE X B Wx wa) (tE X B Wx wb) σ H Q := by
  obtain ⟨S, env, T, P, PX, r, hw, hP, hX⟩ := h
  refine ⟨S, env, T, _, PX, r, hw, fun x env1 vx S1 H1 hq r1 => ?_, hX⟩
  refine ⟨S1, env1, (vx, x) :: T, _, PX, r1, hq, fun y env2 vy S2 H2 hk r2 => ?_, hX⟩
  exact step S2 H2 σ env2 T vx vy x y P Q r2 hk hP
theorem use2 {S : Fz} {H : Hp} {σ : L2.St} {env : Env} {T : List (V × W)} {vx vy : V} {x y : W} {k : D → D → Prop} (r : R X.K B S H σ env ((vy, y) :: (vx, x) :: T)) (h : useW x env fun dx => useW y env fun dy => k dx dy) :
    ∃ S' dx dy, R X.K B S' H σ env T ∧ k dx dy ∧ Ud X.K S' H vx dx ∧ Ud X.K S' H vy dy := by
  obtain ⟨S', r', f⟩ := R.used (P := [(vy, y), (vx, x)]) (T := T) r
  obtain ⟨dx, h, ux⟩ := f (vx, x) (List.mem_cons_of_mem _ List.mem_cons_self) _ h
  obtain ⟨dy, h, uy⟩ := f (vy, y) List.mem_cons_self _ h
  exact ⟨S', dx, dy, R.pops r', h, ux, uy⟩
theorem newData {S : Fz} {H : Hp} {σ : L2.St} {env : Env} {T : List (V × W)} {p : Addr} {vs : List V} {ds : List D} (r : R X.K B S H σ env T) (hp : H p = none) (ra : RpA X.K S H vs ds) :
    R X.K B S (upd H p (.lst vs)) σ env ((.ref p, .o (.lst p (ds.map .d))) :: T) :=
  R.newLst (P := []) (T := T) r hp (OwnA.of_data ra) fun b => by rw [O.cntL_map]; exact Nat.zero_le _
theorem newTup {S : Fz} {H : Hp} {σ : L2.St} {env : Env} {T : List (V × W)} {p : Addr} {o : Obj} {vs : List V} {ds : List D} (r : R X.K B S H σ env T) (hp : H p = none) (hd : o.dict = none) (ra : RpA X.K S H vs ds) :
    R X.K B S (upd H p (.frz o (.tup vs))) σ env ((.ref p, .o (.d (.tuple ds))) :: T) := by
  have r1 := r.alloc (o := .frz o (.tup vs)) hp
  exact r1.push (.tup (.new hd) (ra.kp (Kp.new hp r.sH)))
theorem OpR_if {f : Value → Value → Sem Value} {C C' : Int → Int → Prop} {g : Int → Int → V} (h : OpR X f (rI C g)) (h' : OpR X f (rI C' g)) : OpR X f (rI (fun i j => C i j ∨ C' i j) g) :=
  fun pins s σ H x y v u Q I rx ry ⟨i, j, e1, e2, c, q⟩ => c.elim (fun c => h pins s σ H x y v u Q I rx ry ⟨i, j, e1, e2, c, q⟩) fun c => h' pins s σ H x y v u Q I rx ry ⟨i, j, e1, e2, c, q⟩
theorem op_mulV : OpR X (binaryOp .Mult) (rI MulOk fun i j => .int (i * j)) := OpR_if op_mul op_mulW
theorem op_fdivV : OpR X (binaryOp .FloorDiv) (rI (fun _ j => DivOk j) fun i j => .int (i.fdiv j)) := by
  intro pins s σ H x y v u Q I rx ry h
  obtain ⟨i, j, e1, e2, c, q⟩ := h
  rcases c with c | c
  · exact op_fdivN pins s σ H x y v u Q I rx ry ⟨i, j, e1, e2, c, q⟩
  · refine op_fdivW pins s σ H x y v u Q I rx ry ⟨i, j, e1, e2, c, ?_⟩
    show Q (.int (i / j)) H
    rw [← Int.fdiv_eq_ediv_of_nonneg i (Int.le_of_lt c.1)]
    exact q
def rCatV (K : PySem.W.Frag) : R2 := fun x y H Q => ∃ l b xs zs, x = .ref l ∧ y = .ref b ∧ SqL K H l xs ∧ SqL K H b zs ∧ xs.length + zs.length ≤ sizeLine ∧ ∀ p, H p = none → Q (.ref p) (upd H p (.lst (xs ++ zs)))
theorem op_catV : OpR X (binaryOp .Add) (rCatV X.K) := by
  intro pins s σ H x y v u Q I rx ry h
  obtain ⟨l, b, xs, zs, rfl, rfl, h1, h2, hz, q⟩ := h
  cases rx
  cases ry
  obtain ⟨its, r1, ⟨⟨c1, d1, a1, sl1⟩, n1, e1, k1, k2, k3⟩, _⟩ := I.list h1
  obtain ⟨ws, r2, ⟨⟨c2, d2, a2, sl2⟩, n2, e2, m1, m2, m3⟩, _⟩ := I.list h2
  simp only at k1 k2 k3 m1 m2 m3
  subst k1 k2 k3 m1 m2 m3
  have g1 := r1.length
  have g2 := r2.length
  refine concat_meets ⟨_, e1, rfl⟩ ⟨_, e2, rfl⟩ noFill_list_add seq_list_add PySem.F.slot_list_add PySem.F.entry_list_add (PySem.F.args_list_add_2 _ _)
    (PyProof.Rows.list_addW l b its.toArray ws.toArray n1 n2 none none sl1 sl2 (by simp only [List.size_toArray]; omega)) ⟨e1, e2, ?_⟩
  have ea : its.toArray ++ ws.toArray = (its ++ ws).toArray := by simp
  rw [ea]
  exact ⟨.ref _, _, I.lnew (t' := s.toks) (r1.append r2) (by rw [List.length_append]; omega), rfl, q _ I.fresh⟩
section
open PyProof.Rows
theorem tup_mul1 (l : Addr) (items : Array Value) (n : Nat) (dd : Option Addr) (sl : Array (Option Value)) (u : Tok) :
    Meets (Builtin.«tuple.__mul__» ⟨[.ref l, .int 1 u], []⟩) (fun _ R s => s.heap.get? l = some { cls := .type "tuple", dict := dd, data := .seq items n, slots := sl } ∧ R (.ok (.ret (.ref l))) s) :=
  .of_wp fun prog w A R s h => by
    obtain ⟨hp, g, d, tk, os⟩ := s
    obtain ⟨hl, h⟩ := h
    have f1 := AutoSeq1.idx_int
    have c1 : (items.isEmpty || ((1 : Int) == 1)) = true := by simp
    wp_walk using wpAny_loadPart' hl
    exact ⟨_, rfl, h⟩
def rCatC (K : PySem.W.Frag) : R2 := fun x y H Q => ∃ a b xs ys, x = .ref a ∧ y = .ref b ∧ SqT K H a xs ∧ SqT K H b ys ∧ xs.length + ys.length ≤ sizeLine ∧
  (xs = [] → Q (.ref b) H) ∧ (xs ≠ [] → ys = [] → Q (.ref a) H) ∧ (xs ≠ [] → ys ≠ [] → ∀ p o, H p = none → o.dict = none → Q (.ref p) (upd H p (.frz o (.tup (xs ++ ys)))))
theorem op_catC : OpR X (binaryOp .Add) (rCatC X.K) := by
  intro pins s σ H x y v u Q I rx ry h
  obtain ⟨a, b, xs, ys, rfl, rfl, ha, hb, hz, q0, q1, q2⟩ := h
  cases rx
  cases ry
  obtain ⟨its, r1, p1, _⟩ := I.tuple ha
  obtain ⟨its2, r2, p2, _⟩ := I.tuple hb
  by_cases hx : xs = []
  · subst hx
    cases r1
    exact cat_tup0 p1 p2 ⟨.ref b, H, I, rfl, q0 rfl⟩
  · refine HT.cat_tup p1 p2 (fun z => hx (r1.nil_iff.mp z)) (fun z => ⟨.ref a, H, I, rfl, q1 hx (r2.nil_iff.mp z)⟩) (fun z => ?_) (by rw [← r1.length, ← r2.length]; exact hz)
    exact ⟨.ref s.heap.objs.size, _, I.laid (t' := s.toks) (fun b ob q => Heap.get?_push_of_some _ q) (Nat.le_refl _) (new_tup (by rw [List.length_append]; exact hz) (r1.append r2)), rfl, q2 hx (fun w => z (r2.nil_iff.mpr w)) _ _ (I.hok.fresh (Nat.le_refl _)) rfl⟩
def rRepC (K : PySem.W.Frag) : R2 := fun x y H Q => ∃ l k xs, x = .ref l ∧ y = .int k ∧ SqT K H l xs ∧ xs ≠ [] ∧ 2 ≤ k ∧ k ≤ 1000 ∧ xs.length ≤ 1000 ∧ ∀ p o, H p = none → o.dict = none → Q (.ref p) (upd H p (.frz o (.tup (List.replicate k.toNat xs).flatten)))
theorem op_repC : OpR X (binaryOp .Mult) (rRepC X.K) := by
  intro pins s σ H x y v u Q I rx ry h
  obtain ⟨l, k, xs, rfl, rfl, hT, hne, h1, h2, hz, q⟩ := h
  cases rx
  obtain ⟨t, rfl⟩ := ry
  obtain ⟨its, r, ⟨⟨cls, dd, data, sl⟩, ho, hc, n, hd⟩, hs⟩ := I.tuple hT
  simp only at hc hd
  subst hc hd
  have hle : its.length = xs.length := r.length.symm
  have hi : its.toArray.isEmpty = false := by
    cases its with
    | nil => exact absurd (List.eq_nil_of_length_eq_zero hle.symm) hne
    | cons a b => rfl
  have hsz0 : its.toArray.size = xs.length := by rw [List.size_toArray, hle]
  have hm : ((its.toArray.size : Nat) : Int) * k ≤ 1000000 := by
    rw [hsz0]
    have a1 : ((xs.length : Nat) : Int) * k ≤ 1000 * k := Int.mul_le_mul_of_nonneg_right (by omega) (by omega)
    omega
  have a2 : k.toNat * xs.length ≤ 1000 * 1000 := Nat.mul_le_mul (by omega) hz
  have flen : (List.replicate k.toNat its).flatten.length ≤ sizeLine := by
    rw [PyProof.Rows.lm_len_rep_flat, hle, sizeLine_eq]; omega
  have c0 : (decide (k < -(2 ^ 63)) || decide (k ≥ 2 ^ 63)) = false := by
    rw [decide_eq_false (by omega), decide_eq_false (by omega)] <;> rfl
  have c1 : (its.toArray.isEmpty || k == 1) = false := by
    rw [hi, Bool.false_or]
    exact beq_eq_false_iff_ne.mpr (by omega)
  have c2 : (decide (k ≤ 0) || its.toArray.isEmpty) = false := by
    rw [hi, Bool.or_false]
    exact decide_eq_false (by omega)
  have c4 : Builtin.Tuple.tupleTooMany (((its.toArray.size : Nat) : Int) * k) = false := by
    unfold Builtin.Tuple.tupleTooMany
    rw [sizeLine_eq]
    exact decide_eq_false (by omega)
  refine wpAny_binaryOp_repeat_ref (T := "tuple") (U := "int") (by decide) ⟨_, ho, rfl⟩ (fun s' => typeIs_int s' k t) noFill_tuple_mul PySem.F.fills_int_mul PySem.F.slot_int_rmul repeat_tuple PySem.F.slot_int_index.lookup
    (call_meets PySem.F.slot_int_rmul (typeIs_int s k t) PySem.F.entry_int_rmul (PySem.F.args_int_rmul_2 _ _) (int_rmul_tuple k t l its.toArray n dd sl)
      ⟨ho, rfl, ⟨_, ho, rfl⟩, call_meets PySem.F.slot_tuple_mul ⟨_, ho, rfl⟩ PySem.F.entry_tuple_mul (PySem.F.args_tuple_mul_2 _ _) (tuple_mulW l its.toArray n dd sl k t c0 c1 c2 (by omega) c4 (by rw [size_rep, List.size_toArray]; exact flen)) ⟨ho, ?_⟩⟩)
  rw [size_rep]
  exact ⟨.ref s.heap.objs.size, _, I.laid (t' := s.toks) (fun b ob q => Heap.get?_push_of_some _ q) (Nat.le_refl _) (new_tup (by rw [PyProof.Rows.lm_len_rep_flat, sizeLine_eq]; omega) (r.rep k.toNat)), rfl, q _ _ (I.hok.fresh (Nat.le_refl _)) rfl⟩
def rRep1 (K : PySem.W.Frag) : R2 := fun x y H Q => ∃ l xs, x = .ref l ∧ y = .int 1 ∧ SqT K H l xs ∧ Q (.ref l) H
theorem op_rep1 : OpR X (binaryOp .Mult) (rRep1 X.K) := by
  intro pins s σ H x y v u Q I rx ry h
  obtain ⟨l, xs, rfl, rfl, hT, q⟩ := h
  cases rx
  obtain ⟨t, rfl⟩ := ry
  obtain ⟨its, r, ⟨⟨cls, dd, data, sl⟩, ho, hc, n, hd⟩, hs⟩ := I.tuple hT
  simp only at hc hd
  subst hc hd
  exact wpAny_binaryOp_repeat_ref (T := "tuple") (U := "int") (by decide) ⟨_, ho, rfl⟩ (fun s' => typeIs_int s' 1 t) noFill_tuple_mul PySem.F.fills_int_mul PySem.F.slot_int_rmul repeat_tuple PySem.F.slot_int_index.lookup
    (call_meets PySem.F.slot_int_rmul (typeIs_int s 1 t) PySem.F.entry_int_rmul (PySem.F.args_int_rmul_2 _ _) (int_rmul_tuple 1 t l its.toArray n dd sl)
      ⟨ho, rfl, ⟨_, ho, rfl⟩, call_meets PySem.F.slot_tuple_mul ⟨_, ho, rfl⟩ PySem.F.entry_tuple_mul (PySem.F.args_tuple_mul_2 _ _) (tup_mul1 l its.toArray n dd sl t) ⟨ho, ⟨.ref l, H, I, rfl, q⟩⟩⟩)
theorem tup_mul0 (l : Addr) (items : Array Value) (n : Nat) (dd : Option Addr) (sl : Array (Option Value)) (u : Tok) (hi : items.isEmpty = false) :
    Meets (Builtin.«tuple.__mul__» ⟨[.ref l, .int 0 u], []⟩) (fun _ R s => s.heap.get? l = some { cls := .type "tuple", dict := dd, data := .seq items n, slots := sl } ∧
      R (.ok (.ret (Value.ref s.heap.objs.size))) { s with heap := s.heap.push { cls := Value.type "tuple", data := Data.seq #[] }, toks := s.toks }) :=
  .of_wp fun prog w A R s h => by
    obtain ⟨hp, g, d, tk, os⟩ := s
    obtain ⟨hl, h⟩ := h
    have f1 := AutoSeq1.idx_int
    have c1 : (items.isEmpty || ((0 : Int) == 1)) = false := by rw [hi]; rfl
    have c2 : (decide ((0 : Int) ≤ 0) || items.isEmpty) = true := by simp
    wp_walk using wpAny_loadPart' hl
    exact ⟨_, rfl, h⟩
def rRep0 (K : PySem.W.Frag) : R2 := fun x y H Q => ∃ l xs, x = .ref l ∧ y = .int 0 ∧ SqT K H l xs ∧ xs ≠ [] ∧ ∀ p o, H p = none → o.dict = none → Q (.ref p) (upd H p (.frz o (.tup [])))
theorem op_rep0 : OpR X (binaryOp .Mult) (rRep0 X.K) := by
  intro pins s σ H x y v u Q I rx ry h
  obtain ⟨l, xs, rfl, rfl, hT, hne, q⟩ := h
  cases rx
  obtain ⟨t, rfl⟩ := ry
  obtain ⟨its, r, ⟨⟨cls, dd, data, sl⟩, ho, hc, n, hd⟩, hs⟩ := I.tuple hT
  simp only at hc hd
  subst hc hd
  have hle : its.length = xs.length := r.length.symm
  have hi : its.toArray.isEmpty = false := by
    cases its with
    | nil => exact absurd (List.eq_nil_of_length_eq_zero hle.symm) hne
    | cons a b => rfl
  exact wpAny_binaryOp_repeat_ref (T := "tuple") (U := "int") (by decide) ⟨_, ho, rfl⟩ (fun s' => typeIs_int s' 0 t) noFill_tuple_mul PySem.F.fills_int_mul PySem.F.slot_int_rmul repeat_tuple PySem.F.slot_int_index.lookup
    (call_meets PySem.F.slot_int_rmul (typeIs_int s 0 t) PySem.F.entry_int_rmul (PySem.F.args_int_rmul_2 _ _) (int_rmul_tuple 0 t l its.toArray n dd sl)
      ⟨ho, rfl, ⟨_, ho, rfl⟩, call_meets PySem.F.slot_tuple_mul ⟨_, ho, rfl⟩ PySem.F.entry_tuple_mul (PySem.F.args_tuple_mul_2 _ _) (tup_mul0 l its.toArray n dd sl t hi)
        ⟨ho, ⟨.ref s.heap.objs.size, _, I.laid (t' := s.toks) (o := .frz (tupO #[]) (.tup [])) (fun b ob q => Heap.get?_push_of_some _ q) (Nat.le_refl _) (new_tup (xs := []) (its := []) (Nat.zero_le _) .nil), rfl, q _ _ (I.hok.fresh (Nat.le_refl _)) rfl⟩⟩⟩)
end
theorem foldl_app {α : Type} (a : Array α) : ∀ (m : Nat) (b : Array α), (List.replicate m a).foldl (· ++ ·) b = b ++ (List.replicate m a.toList).flatten.toArray
  | 0, b => by simp
  | m + 1, b => by
    rw [List.replicate_succ, List.foldl_cons, foldl_app a m, List.replicate_succ, List.flatten_cons]
    apply Array.toList_inj.mp
    simp
theorem repS_cps (x : Str) (k : Int) : (repS x k).cps.toList = (List.replicate k.toNat x.cps.toList).flatten := by
  unfold repS
  rw [foldl_app]
  simp
theorem repS_size (x : Str) (k : Int) : (repS x k).cps.size = x.length * k.toNat := by
  rw [← Array.length_toList, repS_cps, PyProof.Rows.lm_len_rep_flat, Array.length_toList, Nat.mul_comm]; rfl
theorem op_mulS : OpR X (binaryOp .Mult) (fun x y H Q => ∃ z k, x = .str z ∧ y = .int k ∧ k ≤ 1000000 ∧ -1000000 ≤ k ∧ z.length ≤ 1000000 ∧ z.length * k.toNat ≤ 1000000 ∧ Q (.str (repS z k)) H) := by
  intro pins s σ H x y v u Q I rx ry h
  obtain ⟨z, k, rfl, rfl, h1, h2, h4, h3, q⟩ := h
  obtain ⟨t, rfl⟩ := rx
  obtain ⟨t2, rfl⟩ := ry
  have fin : ∀ {y : Str} {t : Tok} {s' : Shared}, y = repS z k → L2.Inv X pins σ H s' → EP X pins σ Q (.str y t) s' := fun e J => ⟨.str _, H, J, ⟨_, rfl⟩, by rw [e]; exact q⟩
  refine PySem.P.mul_str ?_ (fun a b => ?_) (fun a b => ?_) ?_
  · rw [decide_eq_false (by omega), decide_eq_false (by omega)]; rfl
  · have hk : 0 < k := by omega
    have : (1000000 : Int) ≤ (2 ^ 63 - 1) / k := by
      rw [Int.le_ediv_iff_mul_le hk]; omega
    omega
  · unfold Builtin.Str.tooLong
    have : (1000000 : Nat) < sizeLine := by decide
    exact decide_eq_false (by omega)
  · by_cases a : k < 1
    · rw [if_pos a]
      refine ⟨by decide, fin ?_ (I.tok _)⟩
      unfold repS
      rw [show k.toNat = 0 by omega]; rfl
    · rw [if_neg a]
      by_cases b : (k == 1 || z.length == 0) = true
      · rw [if_pos b]
        refine fin ?_ I
        apply PySem.Str.ext'
        apply Array.toList_inj.mp
        rw [repS_cps]
        rcases (Bool.or_eq_true _ _).mp b with e | e
        · rw [show k = 1 from by simpa using e]; simp
        · have : z.cps.toList = [] := by
            have e : z.length = 0 := by simpa using e
            rw [Array.eq_empty_of_size_eq_zero (show z.cps.size = 0 from e)]
          rw [this]; simp
      · rw [if_neg b]
        refine ⟨?_, fin rfl (I.tok _)⟩
        show (repS z k).cps.size ≤ sizeLine
        rw [repS_size]
        have : (1000000 : Nat) < sizeLine := by decide
        omega
theorem list_mulV (l : Addr) (items : Array Value) (n : Nat) (sl : Array (Option Value)) (x : Int) (u : Tok) (c0 : ¬(!Builtin.List.listFitsIndex x) = true) (c1 : ¬items.size * x.toNat > (2 ^ 63 - 1) / 8) (c2 : ¬Builtin.List.listTooLong (items.size * x.toNat) = true) :
    Meets (Builtin.«list.__mul__» ⟨[.ref l, .int x u], []⟩) (fun _ R s => s.heap.get? l = some { cls := .type "list", dict := none, data := .seq items n, slots := sl } ∧
      R (.ok (.ret (Value.ref s.heap.objs.size))) { s with heap := s.heap.push { cls := Value.type "list", data := Data.seq (List.foldl (fun x1 x2 => x1 ++ x2) #[] (List.replicate (if items.isEmpty = true then 0 else x.toNat) items)) }, toks := s.toks }) :=
  .of_wp fun prog w A R s h => by
    obtain ⟨hp, g, d, tk, os⟩ := s
    obtain ⟨hl, h⟩ := h
    have fit := PySem.AutoListH.joined_fits c2
    wp_walk using AutoSeq1.wpAny_loadPart' hl
    refine wpAny_ite_false (decide_eq_false (Nat.not_lt.mpr fit)) ?_
    wp_walk using AutoSeq1.wpAny_loadPart' hl
    exact ⟨_, rfl, h⟩
theorem int_rmul_listV (a : Int) (t : Tok) (l : Addr) (items : Array Value) (n : Nat) (sl : Array (Option Value)) :
    Meets (Builtin.«int.__rmul__» ⟨[.int a t, .ref l], []⟩) (fun _ R s => s.heap.get? l = some { cls := .type "list", dict := none, data := .seq items n, slots := sl } ∧ R (.ok (.ret Value.notImplemented)) s) :=
  .of_wp fun prog w A R s h => by
    obtain ⟨hp, g, d, tk, os⟩ := s
    obtain ⟨hl, h⟩ := h
    wp_walk using AutoSeq1.wpAny_loadPart' hl
    exact ⟨_, rfl, h⟩
def rRepV (K : PySem.W.Frag) : R2 := fun x y H Q => ∃ l k xs, x = .ref l ∧ y = .int k ∧ SqL K H l xs ∧ -1000000 ≤ k ∧ k ≤ 1000000 ∧ xs.length * k.toNat ≤ 1000000 ∧ ∀ p, H p = none → Q (.ref p) (upd H p (.lst (List.replicate k.toNat xs).flatten))
theorem op_repV : OpR X (binaryOp .Mult) (rRepV X.K) := by
  intro pins s σ H x y v u Q I rx ry h
  obtain ⟨l, k, xs, rfl, rfl, hq, h1, h2, hz, q⟩ := h
  cases rx
  obtain ⟨t, rfl⟩ := ry
  obtain ⟨its, r, ⟨⟨cls, dd, data, sl⟩, n, e, k1, k2, k3⟩, _⟩ := I.list hq
  simp only at k1 k2 k3
  subst k1 k2 k3
  have hl := r.length
  have big : (1000000 : Nat) < sizeLine := by decide
  have size : its.toArray.size * k.toNat ≤ 1000000 := by rw [List.size_toArray, ← hl]; exact hz
  have room : ¬ its.toArray.size * k.toNat > (2 ^ 63 - 1) / 8 := by
    have : (1000000 : Nat) ≤ (2 ^ 63 - 1) / 8 := by decide
    omega
  have fits : ¬ (!Builtin.List.listFitsIndex k) = true := by
    simp only [Builtin.List.listFitsIndex]
    rw [decide_eq_true (by omega), decide_eq_true (by omega)]
    decide
  have long : ¬ Builtin.List.listTooLong (its.toArray.size * k.toNat) = true := by
    simp only [Builtin.List.listTooLong]
    rw [decide_eq_false (by omega)]
    decide
  have new : List.foldl (fun x1 x2 => x1 ++ x2) #[] (List.replicate (if its.toArray.isEmpty = true then 0 else k.toNat) its.toArray) = (List.replicate k.toNat its).flatten.toArray := by
    rw [foldl_app]
    cases its with
    | nil => simp
    | cons a z => rw [if_neg (by simp)]; simp
  refine wpAny_binaryOp_repeat_ref (T := "list") (U := "int") (by decide) ⟨_, e, rfl⟩ (fun s2 => typeIs_int s2 k t) noFill_list_mul PySem.F.fills_int_mul PySem.F.slot_int_rmul repeat_list PySem.F.slot_int_index.lookup
    (call_meets PySem.F.slot_int_rmul (typeIs_int s k t) PySem.F.entry_int_rmul (PySem.F.args_int_rmul_2 _ _) (int_rmul_listV k t l its.toArray n sl)
      ⟨e, rfl, ⟨_, e, rfl⟩, call_meets PySem.F.slot_list_mul ⟨_, e, rfl⟩ PySem.F.entry_list_mul (PySem.F.args_list_mul_2 _ _) (list_mulV l its.toArray n sl k t fits room long) ⟨e, ?_⟩⟩)
  rw [new]
  exact ⟨.ref _, _, I.lnew (t' := s.toks) (r.rep k.toNat) (by rw [PyProof.Rows.lm_len_rep_flat, Nat.mul_comm]; omega), rfl, q _ I.fresh⟩
def rBI (g : Bool → Int → Int) : R2 := fun x y H Q => ∃ b j, x = .bl b ∧ y = .int j ∧ Q (.int (g b j)) H
theorem op_addB : OpR X (binaryOp .Add) (rBI fun b j => (if b = true then (1 : Int) else 0) + j) := by
  intro pins s σ H x y v u Q I rx ry h
  obtain ⟨b, j, rfl, rfl, q⟩ := h
  cases rx
  obtain ⟨t, rfl⟩ := ry
  exact PySem.IntBool.add_bool_int ⟨.int _, H, I.tok _, ⟨_, rfl⟩, q⟩
theorem op_subB : OpR X (binaryOp .Sub) (rBI fun b j => (if b = true then (1 : Int) else 0) - j) := by
  intro pins s σ H x y v u Q I rx ry h
  obtain ⟨b, j, rfl, rfl, q⟩ := h
  cases rx
  obtain ⟨t, rfl⟩ := ry
  exact PySem.IntBool.sub_bool_int ⟨.int _, H, I.tok _, ⟨_, rfl⟩, q⟩
def opOf : Bop → Operator
  | .add => .Add
  | .sub => .Sub
  | .mul => .Mult
  | .fdiv => .FloorDiv
  | .mod => .Mod
  | .pow => .Pow
def rBop (X : Cx) : Bop → R2
  | .add => fun x y H Q => (rI0 (fun i j => .int (i + j)) x y H Q ∨ (∃ i j, x = .str i ∧ y = .str j ∧ i.length + j.length ≤ sizeLine ∧ Q (.str (i ++ j)) H)) ∨ ((rCatC X.K x y H Q ∨ rCatV X.K x y H Q) ∨ rBI (fun b j => (if b = true then (1 : Int) else 0) + j) x y H Q)
  | .sub => fun x y H Q => rI0 (fun i j => .int (i - j)) x y H Q ∨ rBI (fun b j => (if b = true then (1 : Int) else 0) - j) x y H Q
  | .mul => fun x y H Q => (rI MulOk (fun i j => .int (i * j)) x y H Q ∨ (rRepC X.K x y H Q ∨ (rRep1 X.K x y H Q ∨ rRep0 X.K x y H Q))) ∨ ((∃ z k, x = .str z ∧ y = .int k ∧ k ≤ 1000000 ∧ -1000000 ≤ k ∧ z.length ≤ 1000000 ∧ z.length * k.toNat ≤ 1000000 ∧ Q (.str (repS z k)) H) ∨ rRepV X.K x y H Q)
  | .fdiv => rI (fun _ j => DivOk j) fun i j => .int (i.fdiv j)
  | .mod => rI (fun _ j => j ≠ 0) fun i j => .int (i.fmod j)
  | .pow => rI CPow fun i j => .int (i ^ j.toNat)
theorem op_bop (op : Bop) : OpR X (binaryOp (opOf op)) (rBop X op) := by
  cases op with
  | add => exact OpR.or (OpR.or op_add op_add_str) (OpR.or (OpR.or op_catC op_catV) op_addB)
  | sub => exact OpR.or op_sub op_subB
  | mul => exact OpR.or (OpR.or op_mulV (OpR.or op_repC (OpR.or op_rep1 op_rep0))) (OpR.or op_mulS op_repV)
  | fdiv => exact op_fdivV
  | mod => exact op_modN
  | pow => exact op_pow
theorem bop_step (op : Bop) (S : Fz) (H : Hp) (σ : L2.St) (env : Env) (T : List (V × W)) (vx vy : V) (x y : W) (P : W → Env → Prop) (Q : VK) (r : R X.K B S H σ env ((vy, y) :: (vx, x) :: T))
    (h : useW x env fun dx => useW y env fun dy => bopW op dx dy fun o => P (.o o) env)
    (hP : ∀ x env' v S' H', P x env' → R X.K B S' H' σ env' ((v, x) :: T) → Q v H') : rBop X op vx vy H Q := by
  obtain ⟨S', dx, dy, r', h, ux, uy⟩ := use2 r h
  have dat : ∀ {v : V} {d : D}, P (.o (.d d)) env → Rp X.K S' H v d → Q v H := fun h q => hP _ _ _ _ _ h (r'.push q)
  cases op with
  | add =>
    cases dx <;> cases dy <;> first
      | exact h.elim
      | skip
    · obtain rfl := ux.bool
      obtain rfl := uy.int
      exact .inr (.inr ⟨_, _, rfl, rfl, dat h (.int _)⟩)
    · obtain rfl := ux.int
      obtain rfl := uy.int
      exact .inl (.inl ⟨_, _, rfl, rfl, dat h (.int _)⟩)
    · obtain rfl := ux.str
      obtain rfl := uy.str
      exact .inl (.inr ⟨_, _, rfl, rfl, h.1, dat h.2 (.str _)⟩)
    · rename_i xs ys
      obtain ⟨hz, h⟩ := h
      obtain ⟨a, vs, rfl, ha, ra⟩ := ux.list
      obtain ⟨b, ws, rfl, hb, rb⟩ := uy.list
      have l1 := ra.length
      have l2 := rb.length
      exact .inr (.inl (.inr ⟨a, b, vs, ws, rfl, rfl, ha, hb, by omega, fun p hp => hP _ _ _ _ _ (h p) (newData r' hp (ra.append rb))⟩))
    · rename_i xs ys
      obtain ⟨hz, h⟩ := h
      obtain ⟨a, vs, rfl, ha, ra⟩ := ux.tup
      obtain ⟨b, ws, rfl, hb, rb⟩ := uy.tup
      have l1 := ra.length
      have l2 := rb.length
      refine .inr (.inl (.inl ⟨a, b, vs, ws, rfl, rfl, ha, hb, by omega, fun e => ?_, fun _ e => ?_, fun _ _ p o hp hd => ?_⟩))
      · subst e
        cases ra
        exact dat h uy.rp_tup
      · subst e
        cases rb
        rw [List.append_nil] at h
        exact dat h ux.rp_tup
      · exact hP _ _ _ _ _ h (newTup r' hp hd (ra.append rb))
  | sub =>
    cases dx <;> cases dy <;> first
      | exact h.elim
      | skip
    · obtain rfl := ux.bool
      obtain rfl := uy.int
      exact .inr ⟨_, _, rfl, rfl, dat h (.int _)⟩
    · obtain rfl := ux.int
      obtain rfl := uy.int
      exact .inl ⟨_, _, rfl, rfl, dat h (.int _)⟩
  | mul =>
    cases dx <;> cases dy <;> first
      | exact h.elim
      | skip
    · obtain rfl := ux.int
      obtain rfl := uy.int
      exact .inl (.inl ⟨_, _, rfl, rfl, h.1, dat h.2 (.int _)⟩)
    · obtain rfl := ux.str
      obtain rfl := uy.int
      obtain ⟨h1, h2, h3, h4, h⟩ := h
      exact .inr (.inl ⟨_, _, rfl, rfl, h2, h1, h3, h4, dat h (.str _)⟩)
    · rename_i xs k
      obtain ⟨h1, h2, h3, h⟩ := h
      obtain ⟨a, vs, rfl, ha, ra⟩ := ux.list
      obtain rfl := uy.int
      have hl := ra.length
      refine .inr (.inr ⟨a, k, vs, rfl, rfl, ha, h1, h2, by rw [hl]; exact h3, fun p hp => hP _ _ _ _ _ (h p) (newData r' hp ?_)⟩)
      have go : ∀ m : Nat, RpA X.K S' H (List.replicate m vs).flatten (List.replicate m xs).flatten := fun m => by
        induction m with
        | zero => exact .nil
        | succ m ih => rw [List.replicate_succ, List.replicate_succ, List.flatten_cons, List.flatten_cons]; exact ra.append ih
      exact go _
    · rename_i xs k
      obtain ⟨h0, h1, h2, h3, h⟩ := h
      obtain ⟨a, vs, rfl, ha, ra⟩ := ux.tup
      obtain rfl := uy.int
      have hl := ra.length
      have hne : vs ≠ [] := fun z => by
        subst z
        cases xs with
        | nil => cases h0
        | cons _ _ => cases ra
      by_cases hk : k = 1
      · subst hk
        rw [show (List.replicate (1 : Int).toNat xs).flatten = xs by simp] at h
        exact .inl (.inr (.inr (.inl ⟨a, vs, rfl, rfl, ha, dat h ux.rp_tup⟩)))
      by_cases hk0 : k = 0
      · subst hk0
        rw [show (List.replicate (0 : Int).toNat xs).flatten = [] by rfl] at h
        exact .inl (.inr (.inr (.inr ⟨a, vs, rfl, rfl, ha, hne, fun p o hp hd => hP _ _ _ _ _ h (newTup r' hp hd .nil)⟩)))
      · refine .inl (.inr (.inl ⟨a, k, vs, rfl, rfl, ha, hne, by omega, h2, by omega, fun p o hp hd => hP _ _ _ _ _ h (newTup r' hp hd ?_)⟩))
        have go : ∀ m : Nat, RpA X.K S' H (List.replicate m vs).flatten (List.replicate m xs).flatten := fun m => by
          induction m with
          | zero => exact .nil
          | succ m ih => rw [List.replicate_succ, List.replicate_succ, List.flatten_cons, List.flatten_cons]; exact ra.append ih
        exact go _
  | fdiv =>
    cases dx <;> cases dy <;> first
      | exact h.elim
      | skip
    obtain rfl := ux.int
    obtain rfl := uy.int
    exact ⟨_, _, rfl, rfl, h.1, dat h.2 (.int _)⟩
  | mod =>
    cases dx <;> cases dy <;> first
      | exact h.elim
      | skip
    obtain rfl := ux.int
    obtain rfl := uy.int
    exact ⟨_, _, rfl, rfl, h.1, dat h.2 (.int _)⟩
  | pow =>
    cases dx <;> cases dy <;> first
      | exact h.elim
      | skip
    obtain rfl := ux.int
    obtain rfl := uy.int
    exact ⟨_, _, rfl, rfl, h.1, dat h.2 (.int _)⟩
theorem s_bin (op : Bop) (ha : PE X a (tE X B Wx wa)) (hb : PE X b (tE X B Wx wb)) : PE X (.BinOp a (opOf op) b pos)
    (tE X B Wx fun PX env P => wa PX env fun x env1 => wb PX env1 fun y env2 => useW x env2 fun dx => useW y env2 fun dy => bopW op dx dy fun o => P (.o o) env2) :=
  PE_imp (pe_op (op_bop op) ha hb) fun σ H Q h => s_two (bop_step op) h
end
end Vx
namespace Vx
open PySem PySem.Spec L2
section
variable {X : Cx} {B : Bs} {Wx : WX}
def toB (w : WT) : WB := fun PX env P => w PX env fun x env' => tst x fun b => P b env'
structure Snd (X : Cx) (B : Bs) (Wx : WX) (e : Expr) (w : WT) : Prop where
  pe : PE X e (tE X B Wx w)
  pt : PT X e (tT X B Wx (toB w))
theorem tst_some {x : W} {Q : Bool → Prop} (h : tst x Q) : ∃ b, x = .o (.d (.bool b)) ∧ Q b := by
  cases x with
  | o x =>
    cases x with
    | d x =>
      cases x with
      | bool b => exact ⟨b, rfl, h⟩
      | _ => exact h.elim
    | _ => exact h.elim
  | al _ _ _ => exact h.elim
theorem R.boolTop {S : Fz} {H : Hp} {σ : L2.St} {env : Env} {T : List (V × W)} {v : V} {b : Bool} {K : PySem.W.Frag} (r : R K B S H σ env ((v, .o (.d (.bool b))) :: T)) : v = .bl b := by
  have q : OwnR K S H v (.d (.bool b)) := r.tmps (v, .o (.d (.bool b))) List.mem_cons_self
  cases q with
  | d q => cases q; rfl
theorem R.intTop {S : Fz} {H : Hp} {σ : L2.St} {env : Env} {T : List (V × W)} {v : V} {b : Int} {K : PySem.W.Frag} (r : R K B S H σ env ((v, .o (.d (.int b))) :: T)) : v = .int b := by
  have q : OwnR K S H v (.d (.int b)) := r.tmps (v, .o (.d (.int b))) List.mem_cons_self
  cases q with
  | d q => cases q; rfl
theorem R.dataTop {S : Fz} {H : Hp} {σ : L2.St} {env : Env} {T : List (V × W)} {v : V} {x : D} {K : PySem.W.Frag} (r : R K B S H σ env ((v, .o (.d x)) :: T)) : Rp K S H v x := by
  have q : OwnR K S H v (.d x) := r.tmps (v, .o (.d x)) List.mem_cons_self
  cases q with
  | d q => exact q
theorem tT_tE {w : WT} {σ : L2.St} {H : Hp} {Q : Bool → Hp → Prop} (h : tT X B Wx (toB w) σ H Q) : tE X B Wx w σ H fun z H' => ∃ k, z = .bl k ∧ Q k H' := by
  obtain ⟨S, env, T, P, PX, r, hw, hP, hX⟩ := h
  refine ⟨S, env, T, _, PX, r, hw, fun x env' v S' H' q r' => ?_, hX⟩
  obtain ⟨b, rfl, q⟩ := tst_some q
  exact ⟨b, r'.boolTop, hP b env' S' H' q r'.pop⟩
theorem snd_plain {e : Expr} {w : WT} (h : PE X e (tE X B Wx w)) (he : ∀ whole, isTrue e X.env whole = (do let v ← whole; standAt e.pos; holding [v] (truthy v))) : Snd X B Wx e w :=
  ⟨h, PT_imp (pt_val h he) fun _ _ _ q => tT_tE q⟩
theorem lets_false {PX : Exn → Env → Prop} (h : ∀ ex env, ¬ PX ex env) : Lets X B Wx PX := fun ex env _ _ _ _ _ q => (h ex env q).elim
variable {a b c : Expr} {wa wb wc : WT} {pos : Pos}
theorem s_neg (ha : PE X a (tE X B Wx wa)) : PE X (.UnaryOp .USub a pos) (tE X B Wx fun PX env P => wa PX env fun x env1 => match x with
    | .o (.d (.int i)) => P (.o (.d (.int (-i)))) env1
    | _ => False) := by
  refine PE_imp (pe_un un_neg ha) fun σ H Q h => ?_
  obtain ⟨S, env, T, P, PX, r, hw, hP, hX⟩ := h
  refine ⟨S, env, T, _, PX, r, hw, fun x env1 vx S1 H1 hq r1 => ?_, hX⟩
  split at hq
  · exact ⟨_, r1.intTop, hP _ _ _ _ _ hq (r1.pop.push (.int _))⟩
  · exact hq.elim
theorem s_not (ha : Snd X B Wx a wa) : Snd X B Wx (.UnaryOp .Not a pos) (fun PX env P => wa PX env fun x env1 => tst x fun b => P (.o (.d (.bool (!b)))) env1) := by
  refine ⟨PE_imp (pe_not ha.pe) fun σ H Q h => ?_, PT_imp (pt_not ha.pt) fun σ H Q h => ?_⟩
  · obtain ⟨S, env, T, P, PX, r, hw, hP, hX⟩ := h
    refine ⟨S, env, T, _, PX, r, hw, fun x env1 vx S1 H1 hq r1 => ?_, hX⟩
    obtain ⟨b, rfl, hq⟩ := tst_some hq
    exact ⟨b, r1.boolTop, hP _ _ _ _ _ hq (r1.pop.push (.bl _))⟩
  · obtain ⟨S, env, T, P, PX, r, hw, hP, hX⟩ := h
    exact ⟨S, env, T, fun b env' => P (!b) env', PX, r, hw, fun b env' S' H' q r' => hP _ _ _ _ q r', hX⟩
structure SndL (X : Cx) (B : Bs) (Wx : WX) (op : BoolOp) (es : List Expr) (pos : Pos) (w : WT) : Prop where
  pe : PE X (.BoolOp op es pos) (tE X B Wx w)
  pw : PW X (.BoolOp op es pos) (tT X B Wx (toB w))
theorem PW_imp {e : Expr} {t t' : TT} (h : PW X e t) (f : ∀ σ H Q, t' σ H Q → t σ H Q) : PW X e t' := ⟨fun wh pins s σ H Q I q => h.run wh pins s σ H Q I (f σ H Q q)⟩
theorem sl_one {op : BoolOp} (ha : Snd X B Wx a wa) : SndL X B Wx op [a] pos wa := by
  refine ⟨pe_one ha.pe, ?_⟩
  cases op with
  | And => exact pw_and1 ha.pt
  | Or => exact pw_or1 ha.pt
theorem sl_and {rest : List Expr} (ha : Snd X B Wx a wa) (hb : SndL X B Wx .And (b :: rest) pos wb) :
    SndL X B Wx .And (a :: b :: rest) pos (fun PX env P => wa PX env fun x env1 => tst x fun t => if t = true then wb PX env1 P else P (.o (.d (.bool false))) env1) := by
  refine ⟨PE_imp (pe_and ha.pe hb.pe) fun σ H Q h => ?_, PW_imp (pw_and ha.pt hb.pw) fun σ H Q h => ?_⟩
  · obtain ⟨S, env, T, P, PX, r, hw, hP, hX⟩ := h
    refine ⟨S, env, T, _, PX, r, hw, fun x env1 vx S1 H1 hq r1 => ?_, hX⟩
    obtain ⟨t, rfl, hq⟩ := tst_some hq
    refine ⟨t, r1.boolTop, ?_⟩
    cases t with
    | true => exact iteT ⟨S1, env1, T, P, PX, r1.pop, hq, hP, hX⟩
    | false => exact iteF (hP _ _ _ _ _ hq (r1.pop.push (.bl _)))
  · obtain ⟨S, env, T, P, PX, r, hw, hP, hX⟩ := h
    refine ⟨S, env, T, fun t env1 => if t = true then wb PX env1 (fun x env' => tst x fun b => P b env') else P false env1, PX, r, hw, fun t env1 S1 H1 hq r1 => ?_, hX⟩
    cases t with
    | true => exact iteT ⟨S1, env1, T, P, PX, r1, hq, hP, hX⟩
    | false => exact iteF (hP _ _ _ _ hq r1)
theorem sl_or {rest : List Expr} (ha : Snd X B Wx a wa) (hb : SndL X B Wx .Or (b :: rest) pos wb) :
    SndL X B Wx .Or (a :: b :: rest) pos (fun PX env P => wa PX env fun x env1 => tst x fun t => if t = true then P (.o (.d (.bool true))) env1 else wb PX env1 P) := by
  refine ⟨PE_imp (pe_or ha.pe hb.pe) fun σ H Q h => ?_, PW_imp (pw_or ha.pt hb.pw) fun σ H Q h => ?_⟩
  · obtain ⟨S, env, T, P, PX, r, hw, hP, hX⟩ := h
    refine ⟨S, env, T, _, PX, r, hw, fun x env1 vx S1 H1 hq r1 => ?_, hX⟩
    obtain ⟨t, rfl, hq⟩ := tst_some hq
    refine ⟨t, r1.boolTop, ?_⟩
    cases t with
    | true => exact iteT (hP _ _ _ _ _ hq (r1.pop.push (.bl _)))
    | false => exact iteF ⟨S1, env1, T, P, PX, r1.pop, hq, hP, hX⟩
  · obtain ⟨S, env, T, P, PX, r, hw, hP, hX⟩ := h
    refine ⟨S, env, T, fun t env1 => if t = true then P true env1 else wb PX env1 (fun x env' => tst x fun b => P b env'), PX, r, hw, fun t env1 S1 H1 hq r1 => ?_, hX⟩
    cases t with
    | true => exact iteT (hP _ _ _ _ hq r1)
    | false => exact iteF ⟨S1, env1, T, P, PX, r1, hq, hP, hX⟩
theorem SndL.snd {op : BoolOp} {es : List Expr} {w : WT} (h : SndL X B Wx op es pos w) : Snd X B Wx (.BoolOp op es pos) w := ⟨h.pe, h.pw.pt⟩
theorem s_ife (hc : Snd X B Wx c wc) (ha : PE X a (tE X B Wx wa)) (hb : PE X b (tE X B Wx wb)) : PE X (.IfExp c a b pos)
    (tE X B Wx fun PX env P => wc PX env fun x env1 => tst x fun t => if t = true then wa PX env1 P else wb PX env1 P) := by
  refine PE_imp (pe_ifExp hc.pt ha hb) fun σ H Q h => ?_
  obtain ⟨S, env, T, P, PX, r, hw, hP, hX⟩ := h
  refine ⟨S, env, T, fun t env1 => if t = true then wa PX env1 P else wb PX env1 P, PX, r, hw, fun t env1 S1 H1 hq r1 => ?_, hX⟩
  cases t with
  | true => exact iteT ⟨S1, env1, T, P, PX, r1, hq, hP, hX⟩
  | false => exact iteF ⟨S1, env1, T, P, PX, r1, hq, hP, hX⟩
def cmpOf : Cop → CmpOp
  | .eq => .Eq
  | .ne => .NotEq
  | .lt => .Lt
  | .le => .LtE
  | .gt => .Gt
  | .ge => .GtE
  | .is => .Is
  | .isNot => .IsNot
  | .inn => .In
  | .notIn => .NotIn
def rStrB (f : List Nat → List Nat → Bool) : R2 := fun x y H Q => ∃ i j, x = .str i ∧ y = .str j ∧ Q (.bl (f i.cps.toList j.cps.toList)) H
def rInS (neg : Bool) : R2 := fun x y H Q => ∃ i j, x = .str i ∧ y = .str j ∧ Q (.bl (if neg then !(!(Builtin.Str.occurrences j i 0 j.length 1).isEmpty) else !(Builtin.Str.occurrences j i 0 j.length 1).isEmpty)) H
def rInT (K : PySem.W.Frag) (neg : Bool) : R2 := fun x y H Q => ∃ d ds, Dp K H x d ∧ Dp K H y (.tuple ds) ∧ SeqAt.shaped d = true ∧ SeqAt.shaped (.tuple ds) = true ∧ Q (.bl (if neg then !ds.any fun z => PyData.eqv z d else ds.any fun z => PyData.eqv z d)) H
theorem op_ltS : OpR X (compareOp .Lt) (rStrB fun a b => decide (a < b)) := op_lt_str
theorem op_leS : OpR X (compareOp .LtE) (rStrB fun a b => !decide (b < a)) := by
  intro pins s σ H x y v u Q I rx ry h
  obtain ⟨i, j, rfl, rfl, q⟩ := h
  obtain ⟨t, rfl⟩ := rx
  obtain ⟨t', rfl⟩ := ry
  exact PySem.P.le_str ⟨.bl _, H, I, rfl, q⟩
theorem op_gtS : OpR X (compareOp .Gt) (rStrB fun a b => decide (b < a)) := by
  intro pins s σ H x y v u Q I rx ry h
  obtain ⟨i, j, rfl, rfl, q⟩ := h
  obtain ⟨t, rfl⟩ := rx
  obtain ⟨t', rfl⟩ := ry
  exact PySem.P.gt_str ⟨.bl _, H, I, rfl, q⟩
theorem op_geS : OpR X (compareOp .GtE) (rStrB fun a b => !decide (a < b)) := by
  intro pins s σ H x y v u Q I rx ry h
  obtain ⟨i, j, rfl, rfl, q⟩ := h
  obtain ⟨t, rfl⟩ := rx
  obtain ⟨t', rfl⟩ := ry
  exact PySem.P.ge_str ⟨.bl _, H, I, rfl, q⟩
theorem op_inS : OpR X (compareOp .In) (rInS false) := op_in_str
theorem op_notInS : OpR X (compareOp .NotIn) (rInS true) := op_notIn_str
theorem op_inT (hu : X.A.units + 65 < cLine) : OpR X (compareOp .In) (rInT X.K false) := by
  intro pins s σ H x y v u Q I rx ry h
  obtain ⟨d, ds, hd, he, sd, se, q⟩ := h
  obtain ⟨as, r1⟩ := Dp.reads I d x v hd rx
  obtain ⟨bs, r2⟩ := Dp.reads I (.tuple ds) y u he ry
  exact SeqAt.in_tuple_reads r2 r1 (SeqAt.canLay_of_shaped se) (SeqAt.canLay_of_shaped sd) (PyProof.Rows.room_in_shaped sd hu) ⟨.bl _, H, I, rfl, q⟩
theorem op_notInT (hu : X.A.units + 65 < cLine) : OpR X (compareOp .NotIn) (rInT X.K true) := by
  intro pins s σ H x y v u Q I rx ry h
  obtain ⟨d, ds, hd, he, sd, se, q⟩ := h
  obtain ⟨as, r1⟩ := Dp.reads I d x v hd rx
  obtain ⟨bs, r2⟩ := Dp.reads I (.tuple ds) y u he ry
  exact SeqAt.notIn_tuple_reads r2 r1 (SeqAt.canLay_of_shaped se) (SeqAt.canLay_of_shaped sd) (PyProof.Rows.room_in_shaped sd hu) ⟨.bl _, H, I, rfl, q⟩
theorem intsOf_eq : ∀ {ds : List D} {ns : List Int}, intsOf ds = some ns → ds = ns.map PyData.int
  | [], ns, h => by cases h; rfl
  | .int i :: r, ns, h => by
    unfold intsOf at h
    cases e : intsOf r with
    | none => rw [e] at h; cases h
    | some es => rw [e] at h; cases h; rw [intsOf_eq e]; rfl
  | .none :: _, _, h => nomatch h
  | .bool _ :: _, _, h => nomatch h
  | .str _ :: _, _, h => nomatch h
  | .list _ :: _, _, h => nomatch h
  | .tuple _ :: _, _, h => nomatch h
  | .dict _ :: _, _, h => nomatch h
theorem lexAt_shift (e r : Nat → Bool) (z : Bool) : ∀ (k i : Nat), Ob.lexAt e r z (i + 1) k = Ob.lexAt (fun j => e (j + 1)) (fun j => r (j + 1)) z i k
  | 0, _ => rfl
  | k + 1, i => by rw [Ob.lexAt_succ, Ob.lexAt_succ, lexAt_shift e r z k (i + 1)]
theorem lexLt_at : ∀ ns ms : List Int, Ob.lexAt (fun j => decide (ns.getD j 0 = ms.getD j 0)) (fun j => decide (ns.getD j 0 < ms.getD j 0)) (decide (ns.length < ms.length)) 0 (min ns.length ms.length) = lexLt ns ms
  | [], [] => rfl
  | [], _ :: ms => by
    show decide ((0 : Nat) < ms.length + 1) = true
    exact decide_eq_true (Nat.succ_pos _)
  | _ :: ns, [] => by
    show decide (ns.length + 1 < 0) = false
    exact decide_eq_false (Nat.not_lt_zero _)
  | x :: ns, y :: ms => by
    have hm : min (x :: ns).length (y :: ms).length = min ns.length ms.length + 1 := by simp only [List.length_cons]; omega
    have hz : decide ((x :: ns).length < (y :: ms).length) = decide (ns.length < ms.length) := by simp
    rw [hm, hz, Ob.lexAt_succ, lexAt_shift]
    show (if decide (x = y) = true then Ob.lexAt (fun j => decide (ns.getD j 0 = ms.getD j 0)) (fun j => decide (ns.getD j 0 < ms.getD j 0)) _ 0 _ else decide (x < y)) = if x = y then lexLt ns ms else decide (x < y)
    rw [lexLt_at ns ms]
    by_cases h : x = y
    · rw [if_pos h, if_pos (decide_eq_true h)]
    · rw [if_neg h, if_neg (by rw [decide_eq_false h]; decide)]
def rLtT (K : PySem.W.Frag) : R2 := fun x y H Q => ∃ (a b : Addr) (ns ms : List Int), x = .ref a ∧ y = .ref b ∧ SqT K H a (ns.map V.int) ∧ SqT K H b (ms.map V.int) ∧ Q (.bl (lexLt ns ms)) H
theorem int_of {its : List Value} {ns : List Int} (r : PyProof.Rows.IntsAre its ns) {j : Nat} (h : j < its.toArray.size) : ∃ t, its.toArray[j] = .int (ns.getD j 0) t := PyProof.Rows.IntsAre.int_at r _ _ (by simp at h; simp [h])
theorem op_ltT {X : Cx} (room : X.A.units < cLine) : OpR X (compareOp .Lt) (rLtT X.K) := by
  rintro pins s σ H x y v u Q I rx ry ⟨a, b, ns, ms, rfl, rfl, ha, hb, q⟩
  obtain rfl : v = Value.ref a := rx
  obtain rfl : u = Value.ref b := ry
  obtain ⟨ia, ra, pa, _⟩ := I.tuple ha
  obtain ⟨ib, rb, pb, _⟩ := I.tuple hb
  have na : PyProof.Rows.IntsAre ia ns := Vals.ints ra
  have nb : PyProof.Rows.IntsAre ib ms := Vals.ints rb
  have la : ia.toArray.size = ns.length := by rw [List.size_toArray, na.length]
  have lb : ib.toArray.size = ms.length := by rw [List.size_toArray, nb.length]
  have same : ∀ p q : Int, (p == q) = decide (p = q) := fun p q => by
    by_cases h : p = q
    · subst h; simp
    · simp [h]
  have go := Ob.RcOp.tuples_lt (A := X.A) (s := s) (e := fun j => decide (ns.getD j 0 = ms.getD j 0)) (r := fun j => decide (ns.getD j 0 < ms.getD j 0)) pa pb room
    (fun j h h' => by
      obtain ⟨t, et⟩ := int_of na h
      obtain ⟨t2, et2⟩ := int_of nb h'
      rw [et, et2, ← same]
      exact SeqAt.EqAt.int_int _ _ _ _)
    (fun j h h' _ => by
      obtain ⟨t, et⟩ := int_of na h
      obtain ⟨t2, et2⟩ := int_of nb h'
      rw [et, et2]
      exact Ob.RcOp.lt_int _ _ t t2)
  rw [la, lb, lexLt_at] at go
  exact go X.prog X.w X.xe (EP X pins σ Q) ⟨.bl _, H, I, rfl, q⟩
theorem lexLe_at : ∀ ns ms : List Int, Ob.lexAt (fun j => decide (ns.getD j 0 = ms.getD j 0)) (fun j => decide (ns.getD j 0 ≤ ms.getD j 0)) (decide (ns.length ≤ ms.length)) 0 (min ns.length ms.length) = !lexLt ms ns
  | [], [] => rfl
  | [], _ :: ms => by
    show decide ((0 : Nat) ≤ ms.length + 1) = true
    exact decide_eq_true (Nat.zero_le _)
  | _ :: ns, [] => by
    show decide (ns.length + 1 ≤ 0) = false
    exact decide_eq_false (Nat.not_succ_le_zero _)
  | x :: ns, y :: ms => by
    have hm : min (x :: ns).length (y :: ms).length = min ns.length ms.length + 1 := by simp only [List.length_cons]; omega
    have hz : decide ((x :: ns).length ≤ (y :: ms).length) = decide (ns.length ≤ ms.length) := by simp
    rw [hm, hz, Ob.lexAt_succ, lexAt_shift]
    show (if decide (x = y) = true then Ob.lexAt (fun j => decide (ns.getD j 0 = ms.getD j 0)) (fun j => decide (ns.getD j 0 ≤ ms.getD j 0)) _ 0 _ else decide (x ≤ y)) = !(if y = x then lexLt ms ns else decide (y < x))
    rw [lexLe_at ns ms]
    by_cases h : x = y
    · subst h; rw [if_pos (decide_eq_true rfl), if_pos rfl]
    · rw [if_neg (by rw [decide_eq_false h]; decide), if_neg (fun z => h z.symm)]
      by_cases h2 : y < x
      · rw [decide_eq_true h2, decide_eq_false (by omega)]; rfl
      · rw [decide_eq_false h2, decide_eq_true (by omega)]; rfl
def rLeT2 (K : PySem.W.Frag) : R2 := fun x y H Q => ∃ (a b : Addr) (ns ms : List Int), x = .ref a ∧ y = .ref b ∧ SqT K H a (ns.map V.int) ∧ SqT K H b (ms.map V.int) ∧ Q (.bl (!lexLt ms ns)) H
theorem op_leT2 {X : Cx} (room : X.A.units < cLine) : OpR X (compareOp .LtE) (rLeT2 X.K) := by
  rintro pins s σ H x y v u Q I rx ry ⟨a, b, ns, ms, e1, e2, ha, hb, q⟩
  exact L2.op_leT room pins s σ H x y v u Q I rx ry ⟨a, b, ns, ms, e1, e2, ha, hb, by rw [lexLe_at]; exact q⟩
def rCop (X : Cx) : Cop → R2
  | .eq => fun x y H Q => rEq x y H Q ∨ rEqD X.K x y H Q
  | .ne => fun x y H Q => rNe x y H Q ∨ rNeD X.K x y H Q
  | .lt => fun x y H Q => rI0 (fun i j => .bl (decide (i < j))) x y H Q ∨ (rStrB (fun a b => decide (a < b)) x y H Q ∨ rLtT X.K x y H Q)
  | .le => fun x y H Q => rI0 (fun i j => .bl (decide (i ≤ j))) x y H Q ∨ (rStrB (fun a b => !decide (b < a)) x y H Q ∨ rLeT2 X.K x y H Q)
  | .gt => fun x y H Q => rI0 (fun i j => .bl (decide (j < i))) x y H Q ∨ rStrB (fun a b => decide (b < a)) x y H Q
  | .ge => fun x y H Q => rI0 (fun i j => .bl (decide (j ≤ i))) x y H Q ∨ rStrB (fun a b => !decide (a < b)) x y H Q
  | .is => fun x y H Q => (y = .non ∧ Q (.bl (decide (x = .non))) H) ∨ rIsB x y H Q
  | .isNot => fun x y H Q => (y = .non ∧ Q (.bl (!decide (x = .non))) H) ∨ rNotB x y H Q
  | .inn => fun x y H Q => rInD X.K x y H Q ∨ (rIn X.K false x y H Q ∨ (rInS false x y H Q ∨ rInT X.K false x y H Q))
  | .notIn => fun x y H Q => rNotInD X.K x y H Q ∨ (rIn X.K true x y H Q ∨ (rInS true x y H Q ∨ rInT X.K true x y H Q))
theorem op_cop (hr : X.A.units + 200 < cLine) : (op : Cop) → OpR X (compareOp (cmpOf op)) (rCop X op)
  | .eq => OpR.or op_eq (op_eqD (by omega))
  | .ne => OpR.or op_ne (op_neD (by omega))
  | .lt => OpR.or op_lt (OpR.or op_ltS (op_ltT (by omega)))
  | .le => OpR.or op_le (OpR.or op_leS (op_leT2 (by omega)))
  | .gt => OpR.or op_gt op_gtS
  | .ge => OpR.or op_ge op_geS
  | .is => OpR.or op_isN op_isBl
  | .isNot => OpR.or op_notN op_notBl
  | .inn => OpR.or (op_inD (by omega)) (OpR.or op_in_seq (OpR.or op_inS (op_inT (by omega))))
  | .notIn => OpR.or (op_notInD (by omega)) (OpR.or op_notIn_seq (OpR.or op_notInS (op_notInT (by omega))))
theorem rp_non {K : PySem.W.Frag} {S : Fz} {H : Hp} {v : V} {x : D} (u : Ud K S H v x) : decide (v = .non) = isNone x := by
  rcases u with u | ⟨a, vs, ds, rfl, rfl, _, _⟩
  · cases u <;> rfl
  · rfl
theorem plainD_sh {x : D} (h : plainD x = true) : SeqAt.shaped x = true := by
  unfold plainD at h
  exact (Bool.and_eq_true_iff.mp h).1
theorem plainD_no {x : D} (h : plainD x = true) : x.hasDict = false := by
  unfold plainD at h
  simpa using (Bool.and_eq_true_iff.mp h).2
theorem eq_scal {K : PySem.W.Frag} {S : Fz} {H : Hp} {v u : V} {x y : D} (hv : Ud K S H v x) (hu : Ud K S H u y) (h : eqOk x y = true) :
    (scal v u = true ∧ decide (v = u) = PyData.eqv x y) ∨ (plainD x = true ∧ plainD y = true) := by
  by_cases hs : plainD x = true ∧ plainD y = true
  · exact .inr hs
  · left
    have h2 : (plainD x && plainD y) = false := by
      cases e1 : plainD x <;> cases e2 : plainD y <;> simp_all
    cases x <;> cases y <;> first
      | (exfalso; simp only [eqOk] at h; rw [h2] at h; cases h; done)
      | skip
    all_goals first | (obtain rfl := hv.int) | (obtain rfl := hv.str) | (obtain rfl := hv.bool) | (obtain rfl := hv.non)
    all_goals first | (obtain rfl := hu.int) | (obtain rfl := hu.str) | (obtain rfl := hu.bool) | (obtain rfl := hu.non)
    all_goals first
      | exact ⟨rfl, rfl⟩
      | exact ⟨rfl, by rw [dec_int]; simp [PyData.eqv]⟩
      | exact ⟨rfl, by rw [dec_str]; simp [PyData.eqv]⟩
      | exact ⟨rfl, by rw [dec_bl]; simp [PyData.eqv]⟩
      | exact ⟨rfl, by simp [PyData.eqv]⟩
theorem scal_flat {K : PySem.W.Frag} {S : Fz} {H : Hp} {v : V} {x : D} (r : Rp K S H v x) (h : isScal x = true) : flatV v = true := by
  cases r <;> first | rfl | (cases h)
theorem scals_flat {K : PySem.W.Frag} {S : Fz} {H : Hp} : ∀ {vs : List V} {xs : List D}, RpA K S H vs xs → xs.all isScal = true → vs.all flatV = true
  | _, _, .nil, _ => rfl
  | _, _, .cons a b, h => by
    rw [List.all_cons, Bool.and_eq_true] at h ⊢
    exact ⟨scal_flat a h.1, scals_flat b h.2⟩
theorem eqV_eqv {K : PySem.W.Frag} {S : Fz} {H : Hp} {v u : V} {x y : D} (rv : Rp K S H v x) (ru : Rp K S H u y) (hx : isScal x = true) (hy : isScal y = true) : eqV v u = PyData.eqv x y := by
  cases rv <;> cases ru <;> first | rfl | (cases hx; done) | (cases hy; done) | (simp [eqV, PyData.eqv])
theorem inV_any {K : PySem.W.Frag} {S : Fz} {H : Hp} {u : V} {y : D} (ru : Rp K S H u y) (hy : isScal y = true) : ∀ {vs : List V} {xs : List D}, RpA K S H vs xs → xs.all isScal = true → inV u vs = xs.any fun z => PyData.eqv z y
  | _, _, .nil, _ => rfl
  | _, _, .cons a b, h => by
    rw [List.all_cons, Bool.and_eq_true] at h
    show (eqV _ u || inV u _) = (PyData.eqv _ y || List.any _ _)
    rw [inV_any ru hy b h.2, eqV_eqv a ru h.1 hy]
theorem Ud.rp_scal {K : PySem.W.Frag} {S : Fz} {H : Hp} {v : V} {x : D} (u : Ud K S H v x) (h : isScal x = true) : Rp K S H v x := by
  rcases u with u | ⟨a, vs, ds, rfl, rfl, _, _⟩
  · exact u
  · cases h
theorem cop_d (op : Cop) {S : Fz} {H : Hp} {vx vy : V} {dx dy : D} {k : Bool → Prop} {Q : VK} (ux : Ud X.K S H vx dx) (uy : Ud X.K S H vy dy) (h : cmpW op dx dy k) (hQ : ∀ t, k t → Q (.bl t) H) : rCop X op vx vy H Q := by
  cases op with
  | eq =>
    rcases eq_scal ux uy h.1 with ⟨h1, h2⟩ | ⟨h1, h2⟩
    · exact .inl ⟨h1, by rw [h2]; exact hQ _ h.2⟩
    · exact .inr ⟨dx, dy, ux.dp (plainD_no h1), uy.dp (plainD_no h2), plainD_sh h1, plainD_sh h2, hQ _ h.2⟩
  | ne =>
    rcases eq_scal ux uy h.1 with ⟨h1, h2⟩ | ⟨h1, h2⟩
    · exact .inl ⟨h1, by rw [h2]; exact hQ _ h.2⟩
    · exact .inr ⟨dx, dy, ux.dp (plainD_no h1), uy.dp (plainD_no h2), plainD_sh h1, plainD_sh h2, hQ _ h.2⟩
  | lt =>
    cases dx <;> cases dy <;> first
      | exact h.elim
      | skip
    · obtain rfl := ux.int
      obtain rfl := uy.int
      exact .inl ⟨_, _, rfl, rfl, hQ _ h⟩
    · obtain rfl := ux.str
      obtain rfl := uy.str
      exact .inr (.inl ⟨_, _, rfl, rfl, hQ _ h⟩)
    · obtain ⟨ns, e1, h⟩ := onSome_some h
      obtain ⟨ms, e2, h⟩ := onSome_some h
      obtain ⟨a, vs, rfl, qa, ra⟩ := ux.tup
      obtain ⟨b, us, rfl, qb, rb⟩ := uy.tup
      rw [intsOf_eq e1] at ra
      rw [intsOf_eq e2] at rb
      exact .inr (.inr ⟨a, b, ns, ms, rfl, rfl, by rw [← ra.ints]; exact qa, by rw [← rb.ints]; exact qb, hQ _ h⟩)
  | le =>
    cases dx <;> cases dy <;> first
      | exact h.elim
      | skip
    · obtain rfl := ux.int
      obtain rfl := uy.int
      exact .inl ⟨_, _, rfl, rfl, hQ _ h⟩
    · obtain rfl := ux.str
      obtain rfl := uy.str
      exact .inr (.inl ⟨_, _, rfl, rfl, hQ _ h⟩)
    · obtain ⟨ns, e1, h⟩ := onSome_some h
      obtain ⟨ms, e2, h⟩ := onSome_some h
      obtain ⟨a, vs, rfl, qa, ra⟩ := ux.tup
      obtain ⟨b, us, rfl, qb, rb⟩ := uy.tup
      rw [intsOf_eq e1] at ra
      rw [intsOf_eq e2] at rb
      exact .inr (.inr ⟨a, b, ns, ms, rfl, rfl, by rw [← ra.ints]; exact qa, by rw [← rb.ints]; exact qb, hQ _ h⟩)
  | gt =>
    cases dx <;> cases dy <;> first
      | exact h.elim
      | skip
    · obtain rfl := ux.int
      obtain rfl := uy.int
      exact .inl ⟨_, _, rfl, rfl, hQ _ h⟩
    · obtain rfl := ux.str
      obtain rfl := uy.str
      exact .inr ⟨_, _, rfl, rfl, hQ _ h⟩
  | ge =>
    cases dx <;> cases dy <;> first
      | exact h.elim
      | skip
    · obtain rfl := ux.int
      obtain rfl := uy.int
      exact .inl ⟨_, _, rfl, rfl, hQ _ h⟩
    · obtain rfl := ux.str
      obtain rfl := uy.str
      exact .inr ⟨_, _, rfl, rfl, hQ _ h⟩
  | is =>
    cases dy <;> first
      | (cases dx <;> exact h.elim)
      | skip
    · obtain rfl := uy.non
      refine .inl ⟨rfl, ?_⟩
      rw [rp_non ux]
      exact hQ _ (by cases dx <;> exact h)
    · cases dx <;> first
        | exact h.elim
        | skip
      obtain rfl := ux.bool
      obtain rfl := uy.bool
      exact .inr ⟨_, _, rfl, rfl, hQ _ h⟩
  | isNot =>
    cases dy <;> first
      | (cases dx <;> exact h.elim)
      | skip
    · obtain rfl := uy.non
      refine .inl ⟨rfl, ?_⟩
      rw [rp_non ux]
      exact hQ _ (by cases dx <;> exact h)
    · cases dx <;> first
        | exact h.elim
        | skip
      obtain rfl := ux.bool
      obtain rfl := uy.bool
      exact .inr ⟨_, _, rfl, rfl, hQ _ h⟩
  | inn =>
    cases dy <;> first
      | (cases dx <;> exact h.elim)
      | skip
    · cases dx <;> first
        | exact h.elim
        | skip
      obtain rfl := ux.str
      obtain rfl := uy.str
      exact .inr (.inr (.inl ⟨_, _, rfl, rfl, hQ _ h⟩))
    · rename_i ys
      have h' : plainD dx = true ∧ plainD (.list ys) = true ∧ k (ys.any fun y => PyData.eqv y dx) := by cases dx <;> exact h
      exact .inl ⟨dx, _, ux.dp (plainD_no h'.1), uy.dp (plainD_no h'.2.1), plainD_sh h'.1, plainD_sh h'.2.1, hQ _ h'.2.2⟩
    · rename_i ys
      have h' : inOk dx ys = true ∧ k (ys.any fun y => PyData.eqv y dx) := by cases dx <;> exact h
      rcases Bool.or_eq_true_iff.mp h'.1 with h1 | h1
      · obtain ⟨s1, s2⟩ := Bool.and_eq_true_iff.mp h1
        obtain ⟨a, vs, rfl, ha, ra⟩ := uy.tup
        refine .inr (.inl ⟨a, vs, rfl, .inr ha, scal_flat (ux.rp_scal s1) s1, scals_flat ra s2, ?_⟩)
        rw [inV_any (ux.rp_scal s1) s1 ra s2]
        exact hQ _ h'.2
      · obtain ⟨s1, s2⟩ := Bool.and_eq_true_iff.mp h1
        exact .inr (.inr (.inr ⟨dx, _, ux.dp (plainD_no s1), uy.dp (plainD_no s2), plainD_sh s1, plainD_sh s2, hQ _ h'.2⟩))
  | notIn =>
    cases dy <;> first
      | (cases dx <;> exact h.elim)
      | skip
    · cases dx <;> first
        | exact h.elim
        | skip
      obtain rfl := ux.str
      obtain rfl := uy.str
      exact .inr (.inr (.inl ⟨_, _, rfl, rfl, hQ _ h⟩))
    · rename_i ys
      have h' : plainD dx = true ∧ plainD (.list ys) = true ∧ k (!ys.any fun y => PyData.eqv y dx) := by cases dx <;> exact h
      exact .inl ⟨dx, _, ux.dp (plainD_no h'.1), uy.dp (plainD_no h'.2.1), plainD_sh h'.1, plainD_sh h'.2.1, hQ _ h'.2.2⟩
    · rename_i ys
      have h' : inOk dx ys = true ∧ k (!ys.any fun y => PyData.eqv y dx) := by cases dx <;> exact h
      rcases Bool.or_eq_true_iff.mp h'.1 with h1 | h1
      · obtain ⟨s1, s2⟩ := Bool.and_eq_true_iff.mp h1
        obtain ⟨a, vs, rfl, ha, ra⟩ := uy.tup
        refine .inr (.inl ⟨a, vs, rfl, .inr ha, scal_flat (ux.rp_scal s1) s1, scals_flat ra s2, ?_⟩)
        rw [inV_any (ux.rp_scal s1) s1 ra s2]
        exact hQ _ h'.2
      · obtain ⟨s1, s2⟩ := Bool.and_eq_true_iff.mp h1
        exact .inr (.inr (.inr ⟨dx, _, ux.dp (plainD_no s1), uy.dp (plainD_no s2), plainD_sh s1, plainD_sh s2, hQ _ h'.2⟩))
theorem cop_step (op : Cop) (S : Fz) (H : Hp) (σ : L2.St) (env : Env) (T : List (V × W)) (vx vy : V) (x y : W) (P : W → Env → Prop) (Q : VK) (r : R X.K B S H σ env ((vy, y) :: (vx, x) :: T))
    (h : useW x env fun dx => useW y env fun dy => cmpW op dx dy fun t => P (.o (.d (.bool t))) env)
    (hP : ∀ x env' v S' H', P x env' → R X.K B S' H' σ env' ((v, x) :: T) → Q v H') : rCop X op vx vy H Q := by
  obtain ⟨S', dx, dy, r', h, ux, uy⟩ := use2 r h
  exact cop_d op ux uy h fun t h => hP _ _ _ _ _ h (r'.push (.bl _))
theorem s_cmp (hr : X.A.units + 200 < cLine) (op : Cop) (ha : PE X a (tE X B Wx wa)) (hb : PE X b (tE X B Wx wb)) (hm : behindInMarks (cmpOf op) b = false) : Snd X B Wx (.Compare a [cmpOf op] [b] pos)
    (fun PX env P => wa PX env fun x env1 => wb PX env1 fun y env2 => useW x env2 fun dx => useW y env2 fun dy => cmpW op dx dy fun t => P (.o (.d (.bool t))) env2) :=
  ⟨PE_imp (pe_cmpR (op_cop hr op) ha hb hm) fun σ H Q h => s_two (cop_step op) h,
   PT_imp (pt_cmpR (op_cop hr op) ha hb hm) fun σ H Q h => s_two (cop_step op) (tT_tE h)⟩
theorem chain_step (op op2 : Cop) {σ : L2.St} {H : Hp} {Q : VK}
    (h : tE X B Wx (fun PX env P => wa PX env fun x env1 => wb PX env1 fun y env2 => useW x env2 fun dx => useW y env2 fun dy => cmpW op dx dy fun t =>
      if t = true then wc PX env2 fun z env3 => useW y env3 fun dy2 => useW z env3 fun dz => cmpW op2 dy2 dz fun t2 => P (.o (.d (.bool t2))) env3 else P (.o (.d (.bool false))) env2) σ H Q) :
    tChain (rCop X op) (rCop X op2) (tE X B Wx wa) (tE X B Wx wb) (tE X B Wx wc) σ H Q := by
  obtain ⟨S, env, T, P, PX, r, hw, hP, hX⟩ := h
  refine ⟨S, env, T, _, PX, r, hw, fun x env1 vx S1 H1 hq r1 => ?_, hX⟩
  refine ⟨S1, env1, (vx, x) :: T, _, PX, r1, hq, fun y env2 vy S2 H2 hk r2 => ?_, hX⟩
  obtain ⟨S3, r3, f⟩ := R.used (P := [(vy, y), (vx, x)]) (T := T) r2
  obtain ⟨dx, hk, ux⟩ := f (vx, x) (List.mem_cons_of_mem _ List.mem_cons_self) _ hk
  obtain ⟨dy, hk, uy⟩ := f (vy, y) List.mem_cons_self _ hk
  have r3' : R X.K B S3 H2 σ env2 (fzT (vy, y) :: T) := r3.perm (fun t ht => by
    rcases List.mem_cons.mp ht with e | ht
    · subst e; exact List.mem_cons_self
    · exact List.mem_cons_of_mem _ (List.mem_cons_of_mem _ ht)) fun b => by
      show cntW b (fzT (vy, y)).2 + cntT b T ≤ cntW b (fzT (vy, y)).2 + (cntW b (fzT (vx, x)).2 + cntT b T)
      omega
  have useF : ∀ {env : Env} {Q : D → Prop}, useW y env Q → useW (fzT (vy, y)).2 env Q := fun {env Q} h => by
    cases y with
    | o y => exact h
    | al _ _ _ => exact h
  have efz : fzT (vy, y) = (vy, (fzT (vy, y)).2) := by cases y <;> rfl
  refine cop_d op ux uy hk fun t ht => ⟨t, rfl, ?_⟩
  cases t with
  | false => exact iteF (hP _ _ _ _ _ ht ((r3'.pop).push (.bl _)))
  | true =>
    refine iteT ⟨S3, env2, _, _, PX, r3', ht, fun z env3 vz S4 H4 hz r4 => ?_, hX⟩
    rw [efz] at r4
    exact cop_step op2 S4 H4 σ env3 T vy vz _ z P Q r4 (useF hz) hP
theorem s_chain (hr : X.A.units + 200 < cLine) (op op2 : Cop) (ha : PE X a (tE X B Wx wa)) (hb : PE X b (tE X B Wx wb)) (hc : PE X c (tE X B Wx wc)) (hm : lastMarks [cmpOf op, cmpOf op2] [b, c] = false) : Snd X B Wx (.Compare a [cmpOf op, cmpOf op2] [b, c] pos)
    (fun PX env P => wa PX env fun x env1 => wb PX env1 fun y env2 => useW x env2 fun dx => useW y env2 fun dy => cmpW op dx dy fun t =>
      if t = true then wc PX env2 fun z env3 => useW y env3 fun dy2 => useW z env3 fun dz => cmpW op2 dy2 dz fun t2 => P (.o (.d (.bool t2))) env3 else P (.o (.d (.bool false))) env2) :=
  ⟨PE_imp (pe_chain (op_cop hr op) (op_cop hr op2) ha hb hc hm) fun σ H Q h => chain_step op op2 h,
   PT_imp (pt_chain (op_cop hr op) (op_cop hr op2) ha hb hc hm) fun σ H Q h => chain_step op op2 (tT_tE h)⟩
abbrev SndA (X : Cx) (B : Bs) (Wx : WX) (es : List Expr) (w : WA) : Prop := PA X es (tA' X B Wx w)
theorem sa_nil : SndA X B Wx [] fun _ env P => P [] env :=
  PA_imp pa_nil fun σ H Q ⟨S, env, T, P, PX, r, hw, hP, hX⟩ => hP env [] S H hw r
theorem sa_cons {e : Expr} {es : List Expr} {we : WT} {ws : WA} (he : PE X e (tE X B Wx we)) (hs : SndA X B Wx es ws) (st : starEach (e :: es) X.env = (false, eval e X.env) :: starEach es X.env) :
    SndA X B Wx (e :: es) fun PX env P => we PX env fun w env1 => ws PX env1 fun l env2 => P (w :: l) env2 := by
  refine PA_imp (pa_cons he hs st) fun σ H Q ⟨S, env, T, P, PX, r, hw, hP, hX⟩ => ?_
  refine ⟨S, env, T, _, PX, r, hw, fun x env1 vx S1 H1 hq r1 => ?_, hX⟩
  refine ⟨S1, env1, (vx, x) :: T, fun l env2 => P (x :: l) env2, PX, r1, hq, fun env2 Z S2 H2 h2 r2 => ?_, hX⟩
  refine hP env2 ((vx, x) :: Z) S2 H2 h2 (r2.perm (fun t ht => ?_) fun b => ?_)
  · rcases List.mem_append.mp ht with ht | ht
    · rcases List.mem_cons.mp ht with e | ht
      · subst e; exact List.mem_append_right _ List.mem_cons_self
      · exact List.mem_append_left _ ht
    · exact List.mem_append_right _ (List.mem_cons_of_mem _ ht)
  · rw [cntT_append, cntT_append]
    show cntW b x + cntT b Z + cntT b T ≤ cntT b Z + (cntW b x + cntT b T)
    omega
theorem datas_own {S : Fz} {H : Hp} {K : PySem.W.Frag} {vs : List V} {os : List O} {ds : List D} (w : OwnA K S H vs os) (h : datas os = some ds) : RpA K S H vs ds := by
  rw [datas_eq h] at w
  exact w.data
theorem intos_top {S : Fz} {H : Hp} {σ : L2.St} {env : Env} {T Z : List (V × W)} {Q : List O → Env → Prop} (r : R X.K B S H σ env (Z ++ T)) (h : inWs (Z.map (·.2)) env Q) :
    ∃ os env' S', Q os env' ∧ os.length = Z.length ∧ R X.K B S' H σ env' ((Z.map (·.1)).zip (os.map W.o) ++ T) ∧ OwnA X.K S' H (Z.map (·.1)) os ∧ ∀ b, cntT b ((Z.map (·.1)).zip (os.map W.o)) = O.cntL b os := by
  obtain ⟨os, env', S', q, hl, r0⟩ := R.intos (L := []) Z r h
  have r' : R X.K B S' H σ env' ((Z.map (·.1)).zip (os.map W.o) ++ T) := r0
  have hl' : (Z.map (·.1)).length = os.length := by rw [List.length_map]; exact hl.symm
  exact ⟨os, env', S', q, hl, r', ownA_of hl' fun t ht => r'.tmps t (List.mem_append_left _ ht), fun b => cntT_zip b hl'⟩
def tTupC (t : TA) : TE := fun σ H Q => t σ H fun xs H1 => xs.length ≤ sizeLine ∧ ∀ p o, H1 p = none → o.dict = none → Q (.ref p) (upd H1 p (.frz o (.tup xs)))
theorem pe_tupC {es : List Expr} {t : TA} {x1 : Nat} (h : PA X es t) : PE X (.Tuple es x1 pos) (tTupC t) := by
  refine ⟨fun pins s σ H Q I hq => ?_⟩
  refine wpAny_Tuple_spliced (thn (h.run pos pins s σ H _ I hq) fun us s1 ⟨xs, H1, I1, r, z, q⟩ => ⟨by rw [← r.length]; exact z, ?_⟩)
  exact ⟨.ref s1.heap.objs.size, _, I1.laid (t' := s1.toks) (fun b u e => Heap.get?_push_of_some _ e) (Nat.le_refl _) (new_tup z r), rfl, q _ _ (I1.hok.fresh (Nat.le_refl _)) rfl⟩
theorem s_tup {es : List Expr} {k : Nat} {ws : WA} (h : SndA X B Wx es ws) : PE X (.Tuple es k pos) (tE X B Wx fun PX env P => ws PX env fun l env1 => inWs l env1 fun os env2 => os.length ≤ sizeLine ∧ match datas os with
    | some ds => P (.o (.d (.tuple ds))) env2
    | none => P (.o (.tup os)) env2) := by
  refine PE_imp (pe_tupC h) fun σ H Q ⟨S, env, T, P, PX, r, hw, hP, hX⟩ => ?_
  refine ⟨S, env, T, _, PX, r, hw, fun env1 Z S1 H1 hq r1 => ?_, hX⟩
  obtain ⟨os, env2, S2, ⟨hz, q⟩, hl, r2, ow, hc⟩ := intos_top r1 hq
  refine ⟨by rw [List.length_map, ← hl]; exact hz, fun p o hp hd => ?_⟩
  cases e : datas os with
  | some ds =>
    simp only [e] at q
    exact hP _ _ _ _ _ q (newTup r2.pops hp hd (datas_own ow e))
  | none =>
    simp only [e] at q
    exact hP _ _ _ _ _ q (r2.newTup hp hd ow fun b => by rw [hc]; exact Nat.le_refl _)
theorem s_lst {es : List Expr} {ws : WA} (h : SndA X B Wx es ws) : PE X (.List es pos) (tE X B Wx fun PX env P => ws PX env fun l env1 => inWs l env1 fun os env2 => os.length ≤ sizeLine ∧ ∀ a, P (.o (.lst a os)) env2) := by
  refine PE_imp (pe_lst h) fun σ H Q ⟨S, env, T, P, PX, r, hw, hP, hX⟩ => ?_
  refine ⟨S, env, T, _, PX, r, hw, fun env1 Z S1 H1 hq r1 => ?_, hX⟩
  obtain ⟨os, env2, S2, ⟨hz, q⟩, hl, r2, ow, hc⟩ := intos_top r1 hq
  refine ⟨by rw [List.length_map, ← hl]; exact hz, fun p hp => ?_⟩
  exact hP _ _ _ _ _ (q p) (r2.newLst hp ow fun b => by rw [hc]; exact Nat.le_refl _)
theorem s_frz {e : Expr} {w : WT} (h : PE X e (tE X B Wx w)) : PE X e (tE X B Wx fun PX env P => w PX env fun x env1 => escW x env1 fun d env2 => P (.o (.d d)) env2) := by
  refine PE_imp h fun σ H Q ⟨S, env, T, P, PX, r, hw, hP, hX⟩ => ?_
  refine ⟨S, env, T, _, PX, r, hw, fun x env1 vx S1 H1 hq r1 => ?_, hX⟩
  obtain ⟨d, env2, S2, q, r2⟩ := r1.esc hq
  exact hP _ _ _ _ _ q r2
end
end Vx
namespace Vx
open PySem PySem.Spec L2
section
variable {X : Cx} {B : Bs} {Wx : WX} {a b c : Expr} {wa wb wc : WT} {pos : Pos}
theorem atI_len {α β : Type} {xs : List α} {ys : List β} {n : Int} {x : α} (hl : xs.length = ys.length) (h : atI xs n = some x) : ∃ j y, ixN xs.length n = some j ∧ xs[j]? = some x ∧ ys[j]? = some y ∧ atI ys n = some y := by
  unfold atI at h
  cases e : ixN xs.length n with
  | none => rw [e] at h; cases h
  | some j =>
    rw [e] at h
    have hj : j < ys.length := by rw [← hl]; exact (ixN_seq e).2.1
    refine ⟨j, ys[j], rfl, h, List.getElem?_eq_getElem hj, ?_⟩
    unfold atI
    rw [← hl, e]
    exact List.getElem?_eq_getElem hj
theorem use1 {S : Fz} {H : Hp} {σ : L2.St} {env : Env} {T : List (V × W)} {v : V} {x : W} {k : D → Prop} (r : R X.K B S H σ env ((v, x) :: T)) (h : useW x env k) :
    ∃ S' dx, R X.K B S' H σ env T ∧ k dx ∧ Ud X.K S' H v dx := by
  obtain ⟨S', r', f⟩ := R.used (P := [(v, x)]) (T := T) r
  obtain ⟨dx, h, ux⟩ := f (v, x) List.mem_cons_self _ h
  exact ⟨S', dx, R.pops r', h, ux⟩
def rIxDk : R2 := fun x y H Q => ∃ a kvs k v, x = .ref a ∧ H a = some (.dK kvs) ∧ y = kV k ∧ valV kvs k = some v ∧ Q v H
section
open PyProof.Rows
theorem ix_dk : IxR X rIxDk := by
  intro value slice pins s σ H x y v u Q I rx ry h hs
  obtain ⟨a, kvs, k, z, rfl, e, rfl, l, q⟩ := h
  obtain rfl : v = Value.ref a := rx
  obtain ⟨_, hd, vs, rel, dd⟩ := dk_of I.hok e
  obtain ⟨w', hw, rw'⟩ := RelO.some_of (v := z) (o := valueAt vs k) (by rw [← l]; exact rel.val k)
  exact tail_any dd.mapOf.typeIs slot_dict_getitem.lookup (wpAny_getItem_of (kV_is ry) dd.mapOf hw ⟨z, H, I.tok _, rw', q⟩) hs
end
def rIxA (K : PySem.W.Frag) : R2 := fun x y H Q => rIx K x y H Q ∨ rIxDk x y H Q
theorem ix_all : IxR X (rIxA X.K) := ix_seq.or ix_dk
theorem rIx_l {x y : V} {H : Hp} {Q : VK} (h : rIxL X.K x y H Q) : rIxA X.K x y H Q := .inl (.inl h)
theorem rIx_t {x y : V} {H : Hp} {Q : VK} (h : rIxT X.K x y H Q) : rIxA X.K x y H Q := .inl (.inr (.inl h))
theorem rIx_s {x y : V} {H : Hp} {Q : VK} (h : rIxS x y H Q) : rIxA X.K x y H Q := .inl (.inr (.inr h))
theorem rIx_d {x y : V} {H : Hp} {Q : VK} (h : rIxDk x y H Q) : rIxA X.K x y H Q := .inr h
theorem keyIx_cons {k k' : Key} {ks : List Key} : keyIx (k' :: ks) k = if k' = k then some 0 else (keyIx ks k).map (· + 1) := by
  unfold keyIx
  rw [List.findIdx?_cons]
  by_cases h : k' = k
  · rw [if_pos h, if_pos (by simpa using h)]
  · rw [if_neg h, if_neg (by simpa using h)]
theorem keyIx_lt {k : Key} : ∀ {ks : List Key} {j : Nat}, keyIx ks k = some j → j < ks.length ∧ ks[j]? = some k
  | [], j, h => by cases h
  | k' :: ks, j, h => by
    rw [keyIx_cons] at h
    by_cases e : k' = k
    · rw [if_pos e] at h; cases h; subst e; exact ⟨by simp, rfl⟩
    · rw [if_neg e] at h
      cases e2 : keyIx ks k with
      | none => rw [e2] at h; cases h
      | some i =>
        rw [e2] at h; cases h
        obtain ⟨h1, h2⟩ := keyIx_lt e2
        exact ⟨by show i + 1 < _; rw [List.length_cons]; omega, by simpa using h2⟩
theorem keyIx_none {k : Key} : ∀ {ks : List Key}, keyIx ks k = none → k ∉ ks
  | [], _, h => nomatch h
  | k' :: ks, h, hm => by
    rw [keyIx_cons] at h
    by_cases e : k' = k
    · rw [if_pos e] at h; cases h
    · rw [if_neg e] at h
      cases e2 : keyIx ks k with
      | none => exact (List.mem_cons.mp hm).elim (fun z => e z.symm) (keyIx_none e2)
      | some i => rw [e2] at h; cases h
theorem valV_ix {k : Key} : ∀ {ks : List Key} {vs : List V} {j : Nat}, ks.length = vs.length → keyIx ks k = some j → valV (ks.zip vs) k = vs[j]?
  | [], vs, j, _, h => by cases h
  | k' :: ks, [], j, hl, h => nomatch hl
  | k' :: ks, v :: vs, j, hl, h => by
    rw [keyIx_cons] at h
    show valV ((k', v) :: ks.zip vs) k = _
    by_cases e : k' = k
    · rw [if_pos e] at h; cases h
      rw [valV_pos (p := (k', v)) e]; rfl
    · rw [if_neg e] at h
      cases e2 : keyIx ks k with
      | none => rw [e2] at h; cases h
      | some i =>
        rw [e2] at h; cases h
        rw [valV_neg (p := (k', v)) e, valV_ix (Nat.succ.inj hl) e2]; rfl
theorem putK_ix {k : Key} {v : V} : ∀ {ks : List Key} {vs : List V} {j : Nat}, ks.length = vs.length → ks.Nodup → keyIx ks k = some j → (ks.zip vs).map (fun kv => if kv.1 = k then (kv.1, v) else kv) = ks.zip (vs.set j v)
  | [], vs, j, _, _, h => by cases h
  | k' :: ks, [], j, hl, _, h => nomatch hl
  | k' :: ks, u :: vs, j, hl, hn, h => by
    obtain ⟨h1, h2⟩ := List.nodup_cons.mp hn
    rw [keyIx_cons] at h
    show (if k' = k then (k', v) else (k', u)) :: (ks.zip vs).map _ = _
    by_cases e : k' = k
    · rw [if_pos e] at h; cases h
      rw [if_pos e]
      subst e
      have same : ∀ {ks : List Key} {vs : List V}, k' ∉ ks → (ks.zip vs).map (fun kv => if kv.1 = k' then (kv.1, v) else kv) = ks.zip vs := by
        intro ks vs hk
        conv => rhs; rw [← List.map_id (ks.zip vs)]
        refine List.map_congr_left fun kv hkv => ?_
        have : kv.1 ∈ ks := (List.of_mem_zip hkv).1
        rw [if_neg fun z => hk (by rw [← z]; exact this)]; rfl
      rw [same h1]; rfl
    · rw [if_neg e] at h
      cases e2 : keyIx ks k with
      | none => rw [e2] at h; cases h
      | some i =>
        rw [e2] at h; cases h
        rw [if_neg e, putK_ix (Nat.succ.inj hl) h2 e2]; rfl
theorem keyOf_ud {K : PySem.W.Frag} {S : Fz} {H : Hp} {v : V} {d : D} {k : Key} (u : Ud K S H v d) (h : keyOf d = some k) : v = kV k := by
  cases d with
  | int i => cases h; exact u.int
  | str i => cases h; exact u.str
  | _ => cases h
theorem ix_step (S : Fz) (H : Hp) (σ : L2.St) (env : Env) (T : List (V × W)) (vx vy : V) (x y : W) (P : W → Env → Prop) (Q : VK) (r : R X.K B S H σ env ((vy, y) :: (vx, x) :: T))
    (h : itemW x y env fun w => P w env) (hP : ∀ x env' v S' H', P x env' → R X.K B S' H' σ env' ((v, x) :: T) → Q v H') : rIxA X.K vx vy H Q := by
  have fin : ∀ {S : Fz} {v : V} {o : O}, R X.K B S H σ env ((vx, x) :: T) → OwnR X.K S H v o → (∀ b, o.cnt b ≤ cntW b x) → P (.o o) env → Q v H := fun {S v o} r q c h =>
    hP _ _ _ _ _ h (r.tmp (fun t ht => by
      rcases List.mem_cons.mp ht with e | ht
      · subst e; exact q
      · exact r.tmps t (List.mem_cons_of_mem _ ht)) fun b => by
      show o.cnt b + _ ≤ cntW b x + _
      have := c b
      omega)
  cases x with
  | o x =>
    cases x with
    | d dx =>
      obtain ⟨S', dy, r', h, uy⟩ := use1 (k := fun e => ixW dx e fun y => P (.o (.d y)) env) r h
      have rx := r'.dataTop
      cases dx with
      | list xs =>
        cases dy with
        | int n =>
          obtain ⟨z, hz, h⟩ := onSome_some h
          cases rx with
          | lst f ra =>
            obtain ⟨j, v, _, e1, e2, e3⟩ := atI_len ra.length.symm hz
            obtain ⟨v', e4, rz⟩ := ra.getD e1
            rw [e2] at e4; cases e4
            obtain rfl := uy.int
            exact rIx_l ⟨_, _, _, _, rfl, rfl, f.sq, e3, fin r' (OwnR.d rz) (fun _ => Nat.zero_le _) h⟩
        | _ => exact h.elim
      | tuple xs =>
        cases dy with
        | int n =>
          obtain ⟨z, hz, h⟩ := onSome_some h
          cases rx with
          | tup f ra =>
            obtain ⟨j, v, _, e1, e2, e3⟩ := atI_len ra.length.symm hz
            obtain ⟨v', e4, rz⟩ := ra.getD e1
            rw [e2] at e4; cases e4
            obtain rfl := uy.int
            exact rIx_t ⟨_, _, _, _, rfl, rfl, f.sq, e3, fin r' (OwnR.d rz) (fun _ => Nat.zero_le _) h⟩
        | _ => exact h.elim
      | str z =>
        cases dy with
        | int n =>
          obtain ⟨hl, h⟩ := h
          obtain ⟨cc, hc, h⟩ := onSome_some h
          cases rx
          obtain rfl := uy.int
          exact rIx_s ⟨_, _, _, rfl, rfl, hl, hc, fin r' (OwnR.d (.str _)) (fun _ => Nat.zero_le _) h⟩
        | _ => exact h.elim
      | _ => cases dy <;> exact h.elim
    | tup xs =>
      unfold itemW at h
      obtain ⟨S', dy, r', h, uy⟩ := use1 r h
      have rx : OwnR X.K S' H vx (.tup xs) := r'.tmps (vx, .o (.tup xs)) List.mem_cons_self
      cases dy with
      | int n =>
        obtain ⟨z, hz, h⟩ := onSome_some h
        cases rx with
        | tup f ra =>
          obtain ⟨j, v, _, e1, e2, e3⟩ := atI_len ra.length.symm hz
          obtain ⟨v', e4, rz⟩ := ra.get e1
          rw [e2] at e4; cases e4
          obtain rfl := uy.int
          exact rIx_t ⟨_, _, _, _, rfl, rfl, f.sq, e3, fin r' rz (fun b => O.cntL_get e1) h⟩
      | _ => exact h.elim
    | obj p kd xs =>
      cases kd with
      | ins _ _ _ _ => exact h.elim
      | dctL _ _ => exact h.elim
      | dct ks =>
        unfold itemW at h
        obtain ⟨S', dy, r', h, uy⟩ := use1 r h
        have rx : OwnR X.K S' H vx (.dct p ks xs) := r'.tmps (vx, .o (.dct p ks xs)) List.mem_cons_self
        obtain ⟨key, hk, h⟩ := onSome_some h
        obtain ⟨j, hj, h⟩ := onSome_some h
        obtain ⟨z, hz, h⟩ := onSome_some h
        cases rx with
        | obj f hf ra =>
          rename_i vs
          obtain ⟨v', e4, rz⟩ := ra.get hz
          refine rIx_d ⟨p, _, key, v', rfl, f, keyOf_ud uy hk, ?_, fin r' rz (fun b => Nat.le_trans (O.cntL_get hz) (Nat.le_add_left _ _)) h⟩
          rw [valV_ix hf.1 hj]; exact e4
      | lst =>
      unfold itemW at h
      obtain ⟨S', dy, r', h, uy⟩ := use1 r h
      have rx : OwnR X.K S' H vx (.lst p xs) := r'.tmps (vx, .o (.lst p xs)) List.mem_cons_self
      cases dy with
      | int n =>
        obtain ⟨z, hz, h⟩ := onSome_some h
        cases rx with
        | obj f _ ra =>
          obtain ⟨j, v, _, e1, e2, e3⟩ := atI_len ra.length.symm hz
          obtain ⟨v', e4, rz⟩ := ra.get e1
          rw [e2] at e4; cases e4
          obtain rfl := uy.int
          exact rIx_l ⟨_, _, _, _, rfl, rfl, .inl (.inl f), e3, fin r' rz (fun b => Nat.le_trans (O.cntL_get e1) (Nat.le_add_left _ _)) h⟩
      | _ => exact h.elim
  | al p i q =>
    unfold itemW at h
    cases e : envAt env i q with
    | none => simp only [e] at h
    | some z =>
      simp only [e] at h
      cases z with
      | d _ => exact h.elim
      | tup _ => exact h.elim
      | obj p' kd xs =>
       cases kd with
       | ins _ _ _ _ => exact h.elim
       | dctL _ _ => exact h.elim
       | dct ks =>
        obtain ⟨rfl, h⟩ := h
        obtain ⟨S', dy, r', h, uy⟩ := use1 r h
        have tv : vx = .ref p' := r'.tmps (vx, .al p' i q) List.mem_cons_self
        subst tv
        obtain ⟨key, hk, h⟩ := onSome_some h
        obtain ⟨j, hj, h⟩ := onSome_some h
        obtain ⟨y, hz, h⟩ := onSome_some h
        obtain ⟨vs, hv, hf, ow⟩ := r'.seenObj e
        obtain ⟨v', e4, rz⟩ := ow.get hz
        refine rIx_d ⟨p', _, key, v', rfl, hv, keyOf_ud uy hk, by rw [valV_ix hf.1 hj]; exact e4, ?_⟩
        cases y with
        | d y => exact fin r' rz (fun _ => Nat.zero_le _) h
        | tup _ => exact h.elim
        | obj c _ ys =>
          have ev := rz.ref rfl
          subst ev
          exact hP _ _ _ _ _ h r'.pop.seen
       | lst =>
        obtain ⟨rfl, h⟩ := h
        obtain ⟨S', dy, r', h, uy⟩ := use1 r h
        have tv : vx = .ref p' := r'.tmps (vx, .al p' i q) List.mem_cons_self
        subst tv
        cases dy with
        | int n =>
          obtain ⟨j, hj, h⟩ := onSome_some h
          obtain ⟨vs, hv, ow⟩ := r'.seenAt e
          obtain rfl := uy.int
          cases ej : xs[j]? with
          | none => rw [ej] at h; exact h.elim
          | some y =>
            rw [ej] at h
            have hat : atI xs n = some y := by unfold atI; rw [hj]; exact ej
            obtain ⟨j', v, k1, e1, e2, e3⟩ := atI_len ow.length.symm hat
            obtain ⟨v', e4, rz⟩ := ow.get e1
            rw [e2] at e4; cases e4
            refine rIx_l ⟨_, _, _, _, rfl, rfl, .inl (.inl hv), e3, ?_⟩
            cases y with
            | d y => exact fin r' rz (fun _ => Nat.zero_le _) h
            | tup _ => exact h.elim
            | obj c _ ys =>
              have ev := rz.ref rfl
              subst ev
              exact hP _ _ _ _ _ h r'.pop.seen
        | _ => exact h.elim
theorem s_ix (ha : PE X a (tE X B Wx wa)) (hb : PE X b (tE X B Wx wb)) (hs : PlainIx b) : PE X (.Subscript a b pos)
    (tE X B Wx fun PX env P => wa PX env fun x env1 => wb PX env1 fun y env2 => itemW x y env2 fun w => P w env2) :=
  PE_imp (pe_ix ix_all ha hb hs) fun σ H Q h => s_two ix_step h
abbrev WO := (Exn → Env → Prop) → Env → (Option Int → Env → Prop) → Prop
def tO (X : Cx) (B : Bs) (Wx : WX) (w : WO) : TO := fun σ H Q => ∃ S env T P PX, R X.K B S H σ env T ∧ w PX env P ∧ (∀ x env' S' H', P x env' → R X.K B S' H' σ env' T → Q x H') ∧ Lets X B Wx PX
theorem PO_imp {e : Option Expr} {t t' : TO} (h : PO X e t) (f : ∀ σ H Q, t' σ H Q → t σ H Q) : PO X e t' := ⟨fun pins s σ H Q I q => h.run pins s σ H Q I (f σ H Q q)⟩
theorem so_none : PO X none (tO X B Wx fun _ env P => P none env) := PO_imp po_none fun σ H Q ⟨S, env, T, P, PX, r, hw, hP, hX⟩ => hP _ _ _ _ hw r
theorem so_some (ha : PE X a (tE X B Wx wa)) : PO X (some a) (tO X B Wx fun PX env P => wa PX env fun w env1 => match w with
    | .o (.d (.int i)) => P (some i) env1
    | _ => False) := by
  refine PO_imp (po_some ha) fun σ H Q ⟨S, env, T, P, PX, r, hw, hP, hX⟩ => ?_
  refine ⟨S, env, T, _, PX, r, hw, fun x env1 vx S1 H1 hq r1 => ?_, hX⟩
  split at hq
  · exact ⟨_, r1.intTop, hP _ _ _ _ hq r1.pop⟩
  · exact hq.elim
theorem cut_whole {ds : List D} {lo hi : Option Int} (h : HT.sIx ds.length 0 lo = 0 ∧ HT.sIx ds.length ds.length hi = ds.length) : cutD ds lo hi = ds := by
  unfold cutD
  rw [h.1, h.2, List.drop_zero, Nat.sub_zero, List.take_length]
def rSlC (K : PySem.W.Frag) : V → Option Int → Option Int → Hp → VK → Prop := fun x lo hi H Q => ∃ a xs, x = .ref a ∧ SqT K H a xs ∧
  (HT.sIx xs.length 0 lo = 0 ∧ HT.sIx xs.length xs.length hi = xs.length → Q (.ref a) H) ∧ (¬ (HT.sIx xs.length 0 lo = 0 ∧ HT.sIx xs.length xs.length hi = xs.length) → ∀ p o, H p = none → o.dict = none → Q (.ref p) (upd H p (.frz o (.tup (cutV xs lo hi)))))
theorem sl_tupC : SlR X (rSlC X.K) := by
  intro pins s σ H x v vl vu lo hi sl Q I rx hs pl pu h
  obtain ⟨a, xs, rfl, hx, q1, q2⟩ := h
  cases rx
  obtain ⟨its, r, ht, hz⟩ := I.tuple hx
  have hlen : its.toArray.size = xs.length := by rw [List.size_toArray]; exact r.length.symm
  refine ⟨"tuple", _, PyProof.Rows.slot_tuple_getitem.lookup, ht.typeIs, ?_⟩
  by_cases hw : HT.sIx xs.length 0 lo = 0 ∧ HT.sIx xs.length xs.length hi = xs.length
  · exact getItem_tuple_whole ht hs pl pu (by rw [hlen]; exact hw) ⟨.ref a, H, I, rfl, q1 hw⟩
  · refine HT.getItem_tuple_cut ht hs pl pu (by rw [hlen]; exact hw) ?_ (by rw [hlen]; exact hz)
    rw [hlen]
    exact ⟨.ref s.heap.objs.size, _, I.laid (t' := s.toks) (fun b ob q => Heap.get?_push_of_some _ q) (Nat.le_refl _) (new_tup (xs := cutV xs lo hi) (Nat.le_trans (cutV_length xs lo hi) hz) ((r.drop (HT.sIx xs.length 0 lo)).take (HT.sIx xs.length xs.length hi - HT.sIx xs.length 0 lo))), rfl, q2 hw _ _ (I.hok.fresh (Nat.le_refl _)) rfl⟩
theorem sl_step {S : Fz} {H : Hp} {σ : L2.St} {env : Env} {T : List (V × W)} {vx : V} {x : W} {lo hi : Option Int} {P : W → Env → Prop} {Q : VK} (r : R X.K B S H σ env ((vx, x) :: T))
    (h : useW x env fun dx => slW dx lo hi fun o => P (.o o) env) (hP : ∀ x env' v S' H', P x env' → R X.K B S' H' σ env' ((v, x) :: T) → Q v H') : rSlL X.K vx lo hi H Q ∨ (rSlC X.K vx lo hi H Q ∨ rSlS vx lo hi H Q) := by
  obtain ⟨S', dx, r', h, ux⟩ := use1 r h
  cases dx with
  | list ds =>
    obtain ⟨p, vs, rfl, hq, ra⟩ := ux.list
    have hl := ra.length
    have rc : RpA X.K S' H (cutV vs lo hi) (cutD ds lo hi) := by
      unfold cutV cutD
      rw [hl]
      exact (ra.drop _).take _
    exact .inl ⟨p, vs, rfl, hq, fun p hp => hP _ _ _ _ _ (h p) (newData r' hp rc)⟩
  | tuple ds =>
    obtain ⟨p, vs, rfl, hq, ra⟩ := ux.tup
    have hl := ra.length
    have rc : RpA X.K S' H (cutV vs lo hi) (cutD ds lo hi) := by
      unfold cutV cutD
      rw [hl]
      exact (ra.drop _).take _
    refine .inr (.inl ⟨p, vs, rfl, hq, fun hw => ?_, fun _ p o hp hd => hP _ _ _ _ _ h (newTup r' hp hd rc)⟩)
    rw [hl] at hw
    have h' : P (.o (.d (.tuple ds))) env := by
      have := cut_whole hw
      rw [← this]; exact h
    exact hP _ _ _ _ _ h' (r'.push ux.rp_tup)
  | str x =>
    obtain rfl := ux.str
    exact .inr (.inr ⟨x, rfl, h.1, hP _ _ _ _ _ h.2 (r'.push (.str _))⟩)
  | _ => exact h.elim
theorem s_sl {lo hi : Option Expr} {p2 : Pos} {wl wh : WO} (ha : PE X a (tE X B Wx wa)) (hl : PO X lo (tO X B Wx wl)) (hh : PO X hi (tO X B Wx wh)) : PE X (.Subscript a (.Slice lo hi none p2) pos)
    (tE X B Wx fun PX env P => wa PX env fun x env1 => wl PX env1 fun l env2 => wh PX env2 fun h env3 => useW x env3 fun dx => slW dx l h fun o => P (.o o) env3) := by
  refine PE_imp (pe_slice (SlR.or sl_list (SlR.or sl_tupC sl_str)) ha hl hh) fun σ H Q ⟨S, env, T, P, PX, r, hw, hP, hX⟩ => ?_
  refine ⟨S, env, T, _, PX, r, hw, fun x env1 vx S1 H1 hq r1 => ?_, hX⟩
  refine ⟨S1, env1, (vx, x) :: T, _, PX, r1, hq, fun l env2 S2 H2 hq2 r2 => ?_, hX⟩
  refine ⟨S2, env2, (vx, x) :: T, _, PX, r2, hq2, fun h env3 S3 H3 hq3 r3 => ?_, hX⟩
  exact sl_step r3 hq3 hP
theorem cr_sumT (hc : X.calm = true) : CallR X (.builtin "sum") (fun vs H Q => ∃ (a : Addr) (ns : List Int), vs = [V.ref a] ∧ SqT X.K H a (ns.map V.int) ∧ Q (.int ns.sum) H) := by
  intro pins s σ H vs us Q I r h
  obtain ⟨t, ns, rfl, hs, q⟩ := h
  obtain rfl := Vals.ref1 r
  obtain ⟨its, rv, hl, _⟩ := I.tuple hs
  have hi : PyProof.Rows.IntsAre its ns := rv.ints
  obtain ⟨xs, e⟩ := hi.allInts.items
  have hn : numsOf (intItems xs).toList = ns := by rw [← e]; exact hi.numsOf
  rw [nums_intItems] at hn
  rw [e] at hl
  refine PySem.W.ktm_sumG (I.ok.hd hc) hl fun h' tk t' hk => ?_
  rw [preSum_eq, List.take_of_length_le (by simp), hn]
  exact ⟨.int ns.sum, H, I.kept (t' := tk) hk, ⟨t', rfl⟩, q⟩
theorem cr_repr {k : Nat} (hr : Room k X.A) (hg : X.A.guards = some []) : CallR X (.builtin "repr") (fun vs H Q => ∃ (v : V) (x : D), vs = [v] ∧ Dp X.K H v x ∧ PyData.showable x = true ∧ x.hasDict = false ∧ x.shown.length ≤ sizeLine ∧ x.depth ≤ 64 ∧ Q (.str x.shown) H) := by
  intro pins s σ H vs us Q I r h
  obtain ⟨v, x, rfl, dp, hs, hd, hz, hdep, q⟩ := h
  obtain ⟨u, rfl, ru⟩ := vals1 r
  obtain ⟨as, rd⟩ := Dp.reads I x v u dp ru
  have hu := hr.un
  cases dp with
  | non =>
    cases ru
    exact PySem.P.repr_of_none ⟨.str _, H, I.tok _, ⟨_, rfl⟩, q⟩
  | bl bb =>
    cases ru
    exact PySem.P.repr_of_bool ⟨.str _, H, I.tok _, ⟨_, rfl⟩, q⟩
  | int i =>
    obtain ⟨t, rfl⟩ := ru
    exact PySem.P.repr_of_int (by simpa [PyData.showable] using hs) ⟨.str _, H, I.tok _, ⟨_, rfl⟩, q⟩
  | str z =>
    obtain ⟨t, rfl⟩ := ru
    exact PySem.P.repr_of_str ⟨.str _, H, I.tok _, ⟨_, rfl⟩, q⟩ hz
  | lst f ra =>
    cases ru
    exact PySem.repr_of_reads' rd hs (PyData.noDict_hsm hd) hg (by omega) (fun _ _ e => e) (fun h' u tk hk => ⟨.str _, H, I.kept hk, ⟨_, rfl⟩, q⟩) hz
  | tup f ra =>
    cases ru
    exact PySem.repr_of_reads' rd hs (PyData.noDict_hsm hd) hg (by omega) (fun _ _ e => e) (fun h' u tk hk => ⟨.str _, H, I.kept hk, ⟨_, rfl⟩, q⟩) hz
theorem boolsOf_eq : ∀ {ds : List D} {ns : List Bool}, boolsOf ds = some ns → ds = ns.map PyData.bool
  | [], ns, h => by cases h; rfl
  | .bool i :: r, ns, h => by
    unfold boolsOf at h
    cases e : boolsOf r with
    | none => rw [e] at h; cases h
    | some es => rw [e] at h; cases h; rw [boolsOf_eq e]; rfl
  | .none :: _, _, h => nomatch h
  | .int _ :: _, _, h => nomatch h
  | .str _ :: _, _, h => nomatch h
  | .list _ :: _, _, h => nomatch h
  | .tuple _ :: _, _, h => nomatch h
  | .dict _ :: _, _, h => nomatch h
theorem UdA.one {S : Fz} {H : Hp} {K : PySem.W.Frag} {vs : List V} {x : D} (u : UdA K S H vs [x]) : ∃ v, vs = [v] ∧ Ud K S H v x := by
  cases u with
  | cons a b => cases b; exact ⟨_, rfl, a⟩
theorem UdA.two {S : Fz} {H : Hp} {K : PySem.W.Frag} {vs : List V} {x y : D} (u : UdA K S H vs [x, y]) : ∃ v w, vs = [v, w] ∧ Ud K S H v x ∧ Ud K S H w y := by
  cases u with
  | cons a b => cases b with
    | cons b c => cases c; exact ⟨_, _, rfl, a, b⟩
theorem pairsOf_eq : ∀ {ds : List D} {ps : List (Int × Int)}, pairsOf ds = some ps → ds = ps.map fun p => PyData.tuple [.int p.1, .int p.2]
  | [], ps, h => by cases h; rfl
  | x :: r, ps, h => by
    unfold pairsOf at h
    split at h
    · cases h
      rename_i h0
      cases h0
    · rename_i i j r' h0
      cases h0
      cases e : pairsOf r with
      | none => rw [e] at h; cases h
      | some es => rw [e] at h; cases h; rw [pairsOf_eq e]; rfl
    · cases h
end
end Vx
namespace Vx
open PySem PySem.Spec L2
section
variable {X : Cx} {B : Bs} {Wx : WX} {a b c : Expr} {wa wb wc : WT} {pos : Pos}
def rSortV (K : PySem.W.Frag) : List V → Hp → VK → Prop := fun vs H Q => ∃ (l : Addr) (xs : List V) (k : V → Int × Int), vs = [V.ref l] ∧ SqL K H l xs ∧ (∀ x ∈ xs, ∃ t, x = V.ref t ∧ SqT K H t [.int (k x).1, .int (k x).2]) ∧
  ∀ ys p, SrtO.Srtd (ltP k) ys → ys.Perm xs → H p = none → Q (.ref p) (upd H p (.lst ys))
theorem cr_sortV : CallR X (.builtin "sorted") (rSortV X.K) := by
  intro pins s σ H vs us Q I r h
  obtain ⟨l, xs, k, rfl, hs, hx, q⟩ := h
  obtain ⟨its, rv, hl, hz⟩ := I.list hs
  obtain rfl := Vals.ref1 r
  have refs : ∀ x ∈ xs, ∃ t, x = V.ref t := fun x m => let ⟨t, e, _⟩ := hx x m; ⟨t, e⟩
  obtain ⟨e1, e2⟩ := refs_back rv refs
  refine SrtO.sorted_pairsO (k := fun u => k (backV u)) hl.isList (by rw [← rv.length]; exact hz) (fun v hv => ?_) fun h' d out h1 h2 kp hd hn => ?_
  · obtain ⟨t, rfl⟩ := e2 v hv
    obtain ⟨t', e, ht⟩ := hx (V.ref t) (by rw [e1]; exact List.mem_map.mpr ⟨_, hv, rfl⟩)
    cases e
    obtain ⟨js, r2, ⟨o, ho, hc, n, hd⟩, _⟩ := I.tuple ht
    obtain ⟨t1, t2, rfl⟩ := Vals.int2 r2
    exact ⟨t, o, t1, t2, n, rfl, ho, hc, hd⟩
  · have h3 : ∀ u ∈ out, ∃ a, u = Value.ref a := fun u hu => e2 u (h2.perm.mem_iff.mp hu)
    have hp : (out.map backV).Perm xs := by rw [e1]; exact h2.perm.map backV
    obtain ⟨n, hn⟩ := hn
    refine ⟨.ref d, upd H d (.lst (out.map backV)), I.laid (t' := s.toks) kp hd ⟨?_, out, n, vals_back h3, hn⟩, rfl, q _ d (SrtO.srtd_map h1) hp (I.hok.fresh hd)⟩
    rw [hp.length_eq]
    exact hz
theorem pairLe_of {p q : Int × Int} (h : SrtO.lexB q p = false) : pairLe p q = true := by
  have h1 := SrtO.lexB_no.mp h
  unfold pairLe
  by_cases e : p.1 < q.1
  · rw [decide_eq_true e]; rfl
  · have e1 : p.1 = q.1 := by omega
    have e2 : p.2 ≤ q.2 := by omega
    rw [decide_eq_true e1, decide_eq_true e2, Bool.and_self, Bool.or_true]
theorem pairs_key {S : Fz} {H : Hp} {pins : List (Addr × Obj)} {σ : L2.St} {s : Shared} (I : L2.Inv X pins σ H s) : ∃ k : V → Int × Int, ∀ {vs : List V} {ps : List (Int × Int)}, RpA X.K S H vs (ps.map fun p => PyData.tuple [.int p.1, .int p.2]) →
    vs.map k = ps ∧ ∀ x ∈ vs, ∃ t, x = V.ref t ∧ CqT X.K H t [.int (k x).1, .int (k x).2] := by
  refine ⟨fun v => open Classical in if h : ∃ p : Int × Int, ∃ t, v = V.ref t ∧ CqT X.K H t [.int p.1, .int p.2] then h.choose else (0, 0), ?_⟩
  have key : ∀ {v : V} {p : Int × Int}, Rp X.K S H v (.tuple [.int p.1, .int p.2]) → (open Classical in if h : ∃ p : Int × Int, ∃ t, v = V.ref t ∧ CqT X.K H t [.int p.1, .int p.2] then h.choose else (0, 0)) = p ∧ ∃ t, v = V.ref t ∧ CqT X.K H t [.int p.1, .int p.2] := by
    intro v p r
    cases r with
    | tup f ra =>
      rename_i t xs
      have e : xs = [.int p.1, .int p.2] := RpA.ints (ns := [p.1, p.2]) ra
      subst e
      have h : ∃ p : Int × Int, ∃ u, V.ref t = V.ref u ∧ CqT X.K H u [.int p.1, .int p.2] := ⟨p, t, rfl, f⟩
      refine ⟨?_, t, rfl, f⟩
      rw [dif_pos h]
      obtain ⟨u, e, g⟩ := h.choose_spec
      cases e
      have e2 := I.tuple_inj g.sq f.sq
      injection e2 with e3 e4
      injection e4 with e5 _
      injection e3 with e3
      injection e5 with e5
      exact Prod.ext e3 e5
  intro vs ps
  induction ps generalizing vs with
  | nil => intro r; cases r; exact ⟨rfl, fun x h => nomatch h⟩
  | cons p ps ih =>
    intro r
    cases r with
    | cons ra rb =>
      obtain ⟨k1, t, e, f⟩ := key ra
      obtain ⟨h1, h2⟩ := ih rb
      refine ⟨by rw [List.map_cons, k1, h1], fun x hx => ?_⟩
      rcases List.mem_cons.mp hx with rfl | hx
      · refine ⟨t, e, ?_⟩
        simp only []
        rw [k1]; exact f
      · exact h2 x hx
def primV : Prim → Value
  | .len => .builtin "len"
  | .sum => .builtin "sum"
  | .tuple => .type "tuple"
  | .list => .type "list"
  | .sorted => .builtin "sorted"
  | .repr => .builtin "repr"
  | .abs => .builtin "abs"
  | .min2 => .builtin "min"
  | .max2 => .builtin "max"
  | .min => .builtin "min"
  | .max => .builtin "max"
  | .all => .builtin "all"
  | .any => .builtin "any"
  | .isi _ => .builtin "isinstance"
  | .isis _ => .builtin "isinstance"
def PrimOk (X : Cx) (p : Prim) : Prop :=
  ∀ (pins : List (Addr × Obj)) (s : Shared) (σ : L2.St) (H : Hp) (vs : List V) (us : List Value) (Q : VK) (B : Bs) (S : Fz) (env : Env) (T : List (V × W)) (ds : List D) (k : O → Prop),
    L2.Inv X pins σ H s → Vals vs us → R X.K B S H σ env T → UdA X.K S H vs ds → primW p ds k → (∀ o v S' H', k o → R X.K B S' H' σ env ((v, .o o) :: T) → Q v H') →
    wpAny (model X.prog X.w) X.A (call (primV p) us) (EP X pins σ Q) X.xe s
theorem lenV_of {S : Fz} {H : Hp} {v : V} {x : D} (u : Ud X.K S H v x) {n : Nat} (h : match x with | .list xs => n = xs.length | .tuple xs => n = xs.length | .str z => z.length ≤ sizeLine ∧ n = z.length | _ => False) : LenV X.K v H n := by
  cases x with
  | list xs =>
    obtain ⟨p, vs, rfl, hq, ra⟩ := u.list
    exact .inl ⟨vs, hq, by rw [ra.length]; exact h⟩
  | tuple xs =>
    obtain ⟨p, vs, rfl, hq, ra⟩ := u.tup
    exact .inr ⟨vs, hq, by rw [ra.length]; exact h⟩
  | str z => obtain rfl := u.str; exact h
  | _ => exact h.elim
theorem call_tupleC : CallR X (.type "tuple") (fun xs H Q => ∃ p ys, xs = [.ref p] ∧ ((SqL X.K H p ys ∧ ∀ l o, H l = none → o.dict = none → Q (.ref l) (upd H l (.frz o (.tup ys)))) ∨ (SqT X.K H p ys ∧ Q (.ref p) H))) := by
  intro pins s σ H xs us Q I r h
  obtain ⟨p, ys, rfl, h⟩ := h
  obtain ⟨u, rfl, rx⟩ := vals1 r
  cases rx
  rcases h with ⟨hq, q⟩ | ⟨hq, q⟩
  · obtain ⟨its, r', pl, hz⟩ := I.list hq
    have hlen := r'.length
    refine call_tuple_list pl.isList (fun h' kp => ?_) (by simp only [List.size_toArray] <;> omega)
    have I1 : L2.Inv X pins σ H { s with heap := h' } := I.kept (t' := s.toks) kp
    exact ⟨.ref h'.objs.size, _, I1.laid (t' := s.toks) (fun b o e => Heap.get?_push_of_some _ e) (Nat.le_refl _) (new_tup hz r'), rfl, q _ _ (I1.hok.fresh (Nat.le_refl _)) rfl⟩
  · exact call_tupleT pins s σ H _ _ Q I r ⟨p, ys, rfl, hq, q⟩
theorem prim_ok {k : Nat} (hr : Room k X.A) (hg : X.A.guards = some []) (hc : X.calm = true) : ∀ p : Prim, (∀ t, p ≠ .isi t) → (∀ ts, p ≠ .isis ts) → PrimOk X p := by
  intro p h1 h2 pins s σ H vs us Q B S env T ds k I r rr u h hP
  have dat : ∀ {v : V} {x : D}, k (.d x) → Rp X.K S H v x → Q v H := fun h q => hP _ _ _ _ h (rr.push q)
  cases p with
  | isi t => exact absurd rfl (h1 t)
  | isis t => exact absurd rfl (h2 t)
  | len =>
    match ds, u, h with
    | [x], u, h =>
      obtain ⟨v, rfl, ux⟩ := u.one
      cases x with
      | list xs => exact call_len pins s σ H _ us Q I r ⟨v, xs.length, rfl, lenV_of ux rfl, dat h (.int _)⟩
      | tuple xs => exact call_len pins s σ H _ us Q I r ⟨v, xs.length, rfl, lenV_of ux rfl, dat h (.int _)⟩
      | str z => exact call_len pins s σ H _ us Q I r ⟨v, z.length, rfl, lenV_of ux ⟨h.1, rfl⟩, dat h.2 (.int _)⟩
      | _ => exact h.elim
    | [], _, h => exact h.elim
    | x :: y :: z, _, h => cases x <;> exact h.elim
  | sum =>
    match ds, u, h with
    | [x], u, h =>
      obtain ⟨v, rfl, ux⟩ := u.one
      cases x with
      | list xs =>
        obtain ⟨ns, e, h⟩ := onSome_some h
        obtain ⟨p, ws, rfl, hq, ra⟩ := ux.list
        rw [intsOf_eq e] at ra
        rw [ra.ints] at hq
        exact cr_sum hc pins s σ H _ us Q I r ⟨p, ns, rfl, hq, dat h (.int _)⟩
      | tuple xs =>
        obtain ⟨ns, e, h⟩ := onSome_some h
        obtain ⟨p, ws, rfl, hq, ra⟩ := ux.tup
        rw [intsOf_eq e] at ra
        rw [ra.ints] at hq
        exact cr_sumT hc pins s σ H _ us Q I r ⟨p, ns, rfl, hq, dat h (.int _)⟩
      | _ => exact h.elim
    | [], _, h => exact h.elim
    | x :: y :: z, _, h => cases x <;> exact h.elim
  | tuple =>
    match ds, u, h with
    | [x], u, h =>
      obtain ⟨v, rfl, ux⟩ := u.one
      cases x with
      | list xs =>
        obtain ⟨p, ws, rfl, hq, ra⟩ := ux.list
        exact call_tupleC pins s σ H _ us Q I r ⟨p, ws, rfl, .inl ⟨hq, fun l o hl hd => hP _ _ _ _ h (newTup rr hl hd ra)⟩⟩
      | tuple xs =>
        obtain ⟨p, ws, rfl, hq, ra⟩ := ux.tup
        exact call_tupleC pins s σ H _ us Q I r ⟨p, ws, rfl, .inr ⟨hq, dat h ux.rp_tup⟩⟩
      | _ => exact h.elim
    | [], _, h => exact h.elim
    | x :: y :: z, _, h => cases x <;> exact h.elim
  | list =>
    match ds, u, h with
    | [x], u, h =>
      obtain ⟨v, rfl, ux⟩ := u.one
      cases x with
      | list xs =>
        obtain ⟨p, ws, rfl, hq, ra⟩ := ux.list
        exact call_list_of pins s σ H _ us Q I r ⟨p, ws, rfl, .inl hq, fun l hl => hP _ _ _ _ (h l) (newData rr hl ra)⟩
      | tuple xs =>
        obtain ⟨p, ws, rfl, hq, ra⟩ := ux.tup
        exact call_list_of pins s σ H _ us Q I r ⟨p, ws, rfl, .inr hq, fun l hl => hP _ _ _ _ (h l) (newData rr hl ra)⟩
      | _ => exact h.elim
    | [], _, h => exact h.elim
    | x :: y :: z, _, h => cases x <;> exact h.elim
  | sorted =>
    match ds, u, h with
    | [x], u, h =>
      obtain ⟨v, rfl, ux⟩ := u.one
      cases x with
      | list xs =>
        obtain ⟨ps, e, h⟩ := onSome_some h
        obtain ⟨p, ws, rfl, hq, ra⟩ := ux.list
        rw [pairsOf_eq e] at ra
        obtain ⟨kk, hk⟩ := pairs_key (S := S) I
        obtain ⟨k1, k2⟩ := hk ra
        refine cr_sortV pins s σ H _ us Q I r ⟨p, ws, kk, rfl, hq, fun x hx => let ⟨t, e, f⟩ := k2 x hx; ⟨t, e, f.sq⟩, fun ys l hs hp hl => ?_⟩
        have hp2 : (ys.map kk).Perm ps := by rw [← k1]; exact hp.map kk
        have hs2 : (ys.map kk).Pairwise (fun p q => pairLe p q = true) := by
          rw [List.pairwise_map]
          exact hs.imp fun h => pairLe_of h
        have rl : ∀ (zs : List V), (∀ z ∈ zs, z ∈ ws) → RpA X.K S H zs ((zs.map kk).map fun p => PyData.tuple [.int p.1, .int p.2]) := by
          intro zs
          induction zs with
          | nil => intro _; exact .nil
          | cons z zs ih =>
            intro hm
            obtain ⟨t, e, f⟩ := k2 z (hm z List.mem_cons_self)
            refine .cons ?_ (ih fun y hy => hm y (List.mem_cons_of_mem _ hy))
            rw [e] at f ⊢
            exact .tup f (.cons (.int _) (.cons (.int _) .nil))
        have rn := newData rr hl (rl ys fun z hz => hp.mem_iff.mp hz)
        rw [List.map_map] at rn
        exact hP _ _ _ _ (h _ hp2 hs2 l) rn
      | _ => exact h.elim
    | [], _, h => exact h.elim
    | x :: y :: z, _, h => cases x <;> exact h.elim
  | repr =>
    match ds, u, h with
    | [x], u, h =>
      obtain ⟨v, rfl, ux⟩ := u.one
      have h' : PyData.showable x = true ∧ x.hasDict = false ∧ x.shown.length ≤ sizeLine ∧ x.depth ≤ 64 ∧ k (.d (.str x.shown)) := by cases x <;> exact h
      exact cr_repr hr hg pins s σ H _ us Q I r ⟨v, x, rfl, ux.dp h'.2.1, h'.1, h'.2.1, h'.2.2.1, h'.2.2.2.1, dat h'.2.2.2.2 (.str _)⟩
    | [], _, h => exact h.elim
    | x :: y :: z, _, h => cases x <;> exact h.elim
  | abs =>
    match ds, u, h with
    | [x], u, h =>
      obtain ⟨v, rfl, ux⟩ := u.one
      cases x with
      | int i =>
        obtain rfl := ux.int
        exact call_abs pins s σ H _ us Q I r ⟨i, rfl, dat h (.int _)⟩
      | _ => exact h.elim
    | [], _, h => exact h.elim
    | x :: y :: z, _, h => cases x <;> exact h.elim
  | max2 =>
    match ds, u, h with
    | [x, y], u, h =>
      obtain ⟨v, w, rfl, ux, uy⟩ := u.two
      cases x <;> cases y <;> first
        | exact h.elim
        | skip
      obtain rfl := ux.int
      obtain rfl := uy.int
      exact call_max2 hc pins s σ H _ us Q I r ⟨_, _, rfl, dat h (.int _)⟩
    | [], _, h => exact h.elim
    | [x], _, h => cases x <;> exact h.elim
    | x :: y :: z :: _, _, h => cases x <;> cases y <;> exact h.elim
  | min2 =>
    match ds, u, h with
    | [x, y], u, h =>
      obtain ⟨v, w, rfl, ux, uy⟩ := u.two
      cases x <;> cases y <;> first
        | exact h.elim
        | skip
      obtain rfl := ux.int
      obtain rfl := uy.int
      exact call_min2 hc pins s σ H _ us Q I r ⟨_, _, rfl, dat h (.int _)⟩
    | [], _, h => exact h.elim
    | [x], _, h => cases x <;> exact h.elim
    | x :: y :: z :: _, _, h => cases x <;> cases y <;> exact h.elim
  | all =>
    match ds, u, h with
    | [x], u, h =>
      obtain ⟨v, rfl, ux⟩ := u.one
      cases x with
      | list xs =>
        obtain ⟨ns, e, h⟩ := onSome_some h
        obtain ⟨p, ws, rfl, hq, ra⟩ := ux.list
        rw [boolsOf_eq e] at ra
        rw [ra.bools] at hq
        exact cr_all hc pins s σ H _ us Q I r ⟨p, ns, rfl, hq, dat h (.bl _)⟩
      | _ => exact h.elim
    | [], _, h => exact h.elim
    | x :: y :: z, _, h => cases x <;> exact h.elim
  | any =>
    match ds, u, h with
    | [x], u, h =>
      obtain ⟨v, rfl, ux⟩ := u.one
      cases x with
      | list xs =>
        obtain ⟨ns, e, h⟩ := onSome_some h
        obtain ⟨p, ws, rfl, hq, ra⟩ := ux.list
        rw [boolsOf_eq e] at ra
        rw [ra.bools] at hq
        exact cr_any hc pins s σ H _ us Q I r ⟨p, ns, rfl, hq, dat h (.bl _)⟩
      | _ => exact h.elim
    | [], _, h => exact h.elim
    | x :: y :: z, _, h => cases x <;> exact h.elim
  | min => cases ds <;> exact h.elim
  | max => cases ds <;> exact h.elim
end
end Vx
namespace Vx
open PySem PySem.Spec L2
section
variable {X : Cx} {tg : Expr}
def iSeq (K : PySem.W.Frag) (tl : TE) : TI := fun σ H Rk => tl σ H fun x H1 =>
  (∃ a, x = .ref a ∧ (∃ xs, SqL K H1 a xs) ∧ Rk (Itl K a) H1) ∨ (∃ a, x = .ref a ∧ (∃ xs, SqT K H1 a xs) ∧ Rk (Itt K a) H1)
theorem pi_seq {l : Expr} {tl : TE} (hl : PE X l tl) : PI X tg l (iSeq X.K tl) := by
  refine ⟨fun pins s σ H Rk I h => thn (hl.run pins s σ H _ I h) fun v s1 ⟨x, H1, I1, r1, q1⟩ => ?_⟩
  have new : ∀ b ∈ [s1.heap.objs.size], FpOk X pins H1 b := fun b hb => by
    rw [List.mem_singleton.mp hb]
    exact I1.fpOk (Nat.le_refl _) (I1.hok.fresh (Nat.le_refl _))
  have grown : ∀ o : Obj, L2.Inv X pins σ H1 { s1 with heap := s1.heap.push o } := fun o => I1.kept (t' := s1.toks) fun b ob e => Heap.get?_push_of_some _ e
  rcases q1 with ⟨a, rfl, ⟨xs, hq⟩, q⟩ | ⟨a, rfl, ⟨xs, hq⟩, q⟩
  · cases r1
    obtain ⟨its, rv, p, _⟩ := I1.list hq
    exact wpAny_pyIter_list p.isList ⟨_, _, _, _, H1, rfl, grown _, turn_list a _, ⟨_, Heap.get?_push_size _ rfl, rfl, rfl⟩, new, q⟩
  · cases r1
    obtain ⟨its, rv, p, _⟩ := I1.tuple hq
    exact wpAny_pyIter_tuple (show s1.heap.IsTuple a its.toArray from p) ⟨_, _, _, _, H1, rfl, grown _, turn_tuple a _, ⟨_, Heap.get?_push_size _ rfl, rfl, rfl⟩, new, q⟩
end
end Vx
namespace Vx
open PySem PySem.Spec L2
section
variable {X : Cx} {B : Bs} {Wx : WX} {a b c : Expr} {wa wb wc : WT} {pos : Pos}
structure Else (is : List Nat) (σ σ' : L2.St) : Prop where
  len : σ'.length = σ.length
  at_ : ∀ j, j ∉ is → σ'[j]? = σ[j]?
theorem Else.set {i : Nat} {σ : L2.St} {v : Option V} {is : List Nat} (h : i ∈ is) : Else is σ (σ.set i v) :=
  ⟨List.length_set, fun j hj => List.getElem?_set_ne fun e => hj (by rw [← e]; exact h)⟩
theorem Else.trans {is : List Nat} {σ σ1 σ2 : L2.St} (x : Else is σ σ1) (y : Else is σ1 σ2) : Else is σ σ2 := ⟨y.len.trans x.len, fun j h => (y.at_ j h).trans (x.at_ j h)⟩
theorem Else.more {is js : List Nat} {σ σ1 : L2.St} (x : Else is σ σ1) (h : ∀ i ∈ is, i ∈ js) : Else js σ σ1 := ⟨x.len, fun j hj => x.at_ j fun q => hj (h j q)⟩
def gT (X : Cx) (B : Bs) (t : Tg) : TG := fun v σ H Q => ∃ S env T w P, R X.K B S H σ env ((v, w) :: T) ∧ bindT t w env P ∧
  ∀ env' S' σ', P env' → R X.K B S' H σ' env' T → Else t.slots σ σ' → env'.length = env.length → Q σ' H
theorem PG_imp {e : Expr} {t t' : TG} (h : PG X e t) (f : ∀ v σ H Q, t' v σ H Q → t v σ H Q) : PG X e t' := ⟨fun pins s σ H v u Q I r q => h.run pins s σ H v u Q I r (f v σ H Q q)⟩
theorem R.slot {S : Fz} {H : Hp} {σ : L2.St} {env : Env} {T : List (V × W)} {v : V} {o : O} {K : PySem.W.Frag} (r : R K B S H σ env ((v, .o o) :: T)) : ∃ S', R K B S' H σ env ((v, .o (slotO o)) :: T) := by
  cases o with
  | d x => exact ⟨S, r⟩
  | obj p k xs => exact ⟨S, r⟩
  | tup xs => exact ⟨_, r.froze⟩
theorem escW_len {w : W} {env : Env} {Q : D → Env → Prop} (h : escW w env Q) : escW w env fun x env' => env'.length = env.length ∧ Q x env' := by
  cases w with
  | o x => exact ⟨rfl, h⟩
  | al a i p =>
    unfold escW at h ⊢
    cases e : envAt env i p with
    | none => simp only [e] at h
    | some y =>
      simp only [e] at h ⊢
      cases y with
      | d _ => exact h.elim
      | tup _ => exact h.elim
      | obj b k xs => exact ⟨h.1, envPut_length, h.2⟩
theorem inW_len {w : W} {env : Env} {Q : O → Env → Prop} (h : inW w env Q) : inW w env fun x env' => env'.length = env.length ∧ Q x env' := by
  cases w with
  | o x => exact ⟨rfl, h⟩
  | al a i p =>
    have h' : escW (.al a i p) env fun x env' => Q (.d x) env' := h
    exact escW_len h'
theorem g_name {i : Nat} (h : PG X a (gName i)) : PG X a (gT X B (.v i)) := by
  refine PG_imp h fun v σ H Q ⟨S, env, T, w, P, r, hb, q⟩ => ?_
  have hb' : inW w env fun o env' => i < env'.length ∧ P (env'.set i (some (slotO o))) := hb
  obtain ⟨o, env', S', ⟨hl, hi, hp⟩, r1⟩ := r.into (inW_len hb')
  obtain ⟨S2, r2⟩ := r1.slot
  exact q _ _ _ hp (r2.store hi) (Else.set List.mem_cons_self) (by rw [List.length_set]; exact hl)
theorem setAll_len : ∀ {is : List Nat} {os : List O} {env : Env} {P : Env → Prop}, setAll is os env P → is.length = os.length
  | [], [], _, _, _ => rfl
  | [], _ :: _, _, _, h => h.elim
  | _ :: _, [], _, _, h => h.elim
  | _ :: _, _ :: _, _, _, h => congrArg (· + 1) (setAll_len h.2)
abbrev WI := (Exn → Env → Prop) → Env → (Src → Env → Prop) → Prop
structure Goes (X : Cx) (B : Bs) (J : L2.It) (s : Src) (Z : List (V × W)) : Prop where
  go : ∀ S H σ env T i, R X.K B S H σ env (Z ++ T) → s.still env → i < s.xs.length → J.go i H
  yl : ∀ S H σ env T i x H' d, R X.K B S H σ env (Z ++ T) → s.still env → J.yld i H x H' → s.xs[i]? = some d → R X.K B S H' σ env ((x, .o (.d d)) :: (Z ++ T))
  st : ∀ S H σ env T i, R X.K B S H σ env (Z ++ T) → s.still env → s.xs.length ≤ i → J.stop i H
def tI (X : Cx) (B : Bs) (Wx : WX) (w : WI) : TI := fun σ H Rk => ∃ S env T P PX, R X.K B S H σ env T ∧ w PX env P ∧
  (∀ s env' S' H' J Z, P s env' → R X.K B S' H' σ env' (Z ++ T) → Goes X B J s Z → s.still env' → Rk J H') ∧ Lets X B Wx PX
theorem PI_imp {tg e : Expr} {t t' : TI} (h : PI X tg e t) (f : ∀ σ H Q, t' σ H Q → t σ H Q) : PI X tg e t' := ⟨fun pins s σ H Q I q => h.run pins s σ H Q I (f σ H Q q)⟩
theorem Goes.list {v : V} {ds : List D} {p : Addr} (hv : v = .ref p) : Goes X B (Itl X.K p) ⟨ds, none⟩ [(v, .o (.d (.list ds)))] := by
  subst hv
  have key : ∀ {S H σ env T}, R X.K B S H σ env ([(V.ref p, W.o (.d (.list ds)))] ++ T) → ∃ vs, SqL X.K H p vs ∧ RpA X.K S H vs ds := by
    intro S H σ env T r
    have rx : Rp X.K S H (.ref p) (.list ds) := R.dataTop r
    cases rx with
    | lst f ra => exact ⟨_, f.sq, ra⟩
  refine ⟨fun S H σ env T i r _ hi => ?_, fun S H σ env T i x H' d r _ y hd => ?_, fun S H σ env T i r _ hi => ?_⟩
  · obtain ⟨vs, hq, ra⟩ := key r
    obtain ⟨v, hv, _⟩ := ra.getD (List.getElem?_eq_getElem hi)
    exact ⟨vs, v, hq, hv⟩
  · obtain ⟨vs, hq, ra⟩ := key r
    obtain ⟨rfl, y⟩ := y
    obtain ⟨v, hv, rv⟩ := ra.getD hd
    have e := y vs hq
    rw [hv] at e; cases e
    exact r.push rv
  · obtain ⟨vs, hq, ra⟩ := key r
    exact ⟨vs, hq, by rw [ra.length]; exact hi⟩
theorem Goes.tup {v : V} {ds : List D} {p : Addr} (hv : v = .ref p) : Goes X B (Itt X.K p) ⟨ds, none⟩ [(v, .o (.d (.tuple ds)))] := by
  subst hv
  have key : ∀ {S H σ env T}, R X.K B S H σ env ([(V.ref p, W.o (.d (.tuple ds)))] ++ T) → ∃ vs, SqT X.K H p vs ∧ RpA X.K S H vs ds := by
    intro S H σ env T r
    have rx : Rp X.K S H (.ref p) (.tuple ds) := R.dataTop r
    cases rx with
    | tup f ra => exact ⟨_, f.sq, ra⟩
  refine ⟨fun S H σ env T i r _ hi => ?_, fun S H σ env T i x H' d r _ y hd => ?_, fun S H σ env T i r _ hi => ?_⟩
  · obtain ⟨vs, hq, ra⟩ := key r
    obtain ⟨v, hv, _⟩ := ra.getD (List.getElem?_eq_getElem hi)
    exact ⟨vs, v, hq, hv⟩
  · obtain ⟨vs, hq, ra⟩ := key r
    obtain ⟨rfl, y⟩ := y
    obtain ⟨v, hv, rv⟩ := ra.getD hd
    have e := y vs hq
    rw [hv] at e; cases e
    exact r.push rv
  · obtain ⟨vs, hq, ra⟩ := key r
    exact ⟨vs, hq, by rw [ra.length]; exact hi⟩
theorem Goes.seen {v : V} {ds : List D} {p : Addr} {i : Nat} {q : List Stp} : Goes X B (Itl X.K p) ⟨ds, some (p, i, q)⟩ [] := by
  have key : ∀ {S H σ env T}, R X.K B S H σ env ([] ++ T) → envAt env i q = some (.lst p (ds.map O.d)) → ∃ vs, SqL X.K H p vs ∧ RpA X.K S H vs ds := by
    intro S H σ env T r h
    obtain ⟨vs, hv, ow⟩ := R.seenAt r h
    exact ⟨vs, .inl (.inl hv), ow.data⟩
  refine ⟨fun S H σ env T i r h hi => ?_, fun S H σ env T i x H' d r h y hd => ?_, fun S H σ env T i r h hi => ?_⟩
  · obtain ⟨vs, hq, ra⟩ := key r h
    obtain ⟨v, hv, _⟩ := ra.getD (List.getElem?_eq_getElem hi)
    exact ⟨vs, v, hq, hv⟩
  · obtain ⟨vs, hq, ra⟩ := key r h
    obtain ⟨rfl, y⟩ := y
    obtain ⟨v, hv, rv⟩ := ra.getD hd
    have e := y vs hq
    rw [hv] at e; cases e
    exact r.push rv
  · obtain ⟨vs, hq, ra⟩ := key r h
    exact ⟨vs, hq, by rw [ra.length]; exact hi⟩
theorem i_seq {tg : Expr} (h : PE X a (tE X B Wx wa)) : PI X tg a (tI X B Wx fun PX env P => wa PX env fun w env1 => srcW w env1 fun s => P s env1) := by
  refine PI_imp (pi_seq h) fun σ H Rk ⟨S, env, T, P, PX, r, hw, hP, hX⟩ => ?_
  refine ⟨S, env, T, _, PX, r, hw, fun x env1 vx S1 H1 hq r1 => ?_, hX⟩
  cases x with
  | o x =>
    obtain ⟨ds, hd, hq⟩ := onSome_some hq
    have r2 := r1.froze
    have rx := r2.dataTop
    cases hx : x.toD with
    | list es =>
      rw [hx] at hd rx r2
      cases hd
      cases rx with
      | lst f ra => exact .inl ⟨_, rfl, ⟨_, f.sq⟩, hP _ _ _ _ _ [(V.ref _, W.o (.d (.list _)))] hq r2 (Goes.list rfl) trivial⟩
    | tuple es =>
      rw [hx] at hd rx r2
      cases hd
      cases rx with
      | tup f ra => exact .inr ⟨_, rfl, ⟨_, f.sq⟩, hP _ _ _ _ _ [(V.ref _, W.o (.d (.tuple _)))] hq r2 (Goes.tup rfl) trivial⟩
    | none => rw [hx] at hd; cases hd
    | bool _ => rw [hx] at hd; cases hd
    | int _ => rw [hx] at hd; cases hd
    | str _ => rw [hx] at hd; cases hd
    | dict _ => rw [hx] at hd; cases hd
  | al p i q =>
    have tv : vx = .ref p := r1.tmps (vx, .al p i q) List.mem_cons_self
    subst tv
    unfold srcW at hq
    cases e : envAt env1 i q with
    | none => simp only [e] at hq
    | some z =>
      simp only [e] at hq
      cases z with
      | d _ => exact hq.elim
      | tup _ => exact hq.elim
      | obj p' k xs =>
        cases k with
        | dct _ => exact hq.elim
        | ins _ _ _ _ => exact hq.elim
        | dctL _ _ => exact hq.elim
        | lst =>
        obtain ⟨rfl, hq⟩ := hq
        obtain ⟨ds, hd, hq⟩ := onSome_some hq
        obtain ⟨vs, hv, ow⟩ := r1.seenAt e
        rw [datas_eq hd] at e
        exact .inl ⟨_, rfl, ⟨vs, .inl (.inl hv)⟩, hP _ _ _ _ _ [] hq r1.pop (Goes.seen (v := .non)) e⟩
theorem upTo_get {lo : Int} {n i : Nat} {d : D} (h : (upTo lo n)[i]? = some d) : d = .int (lo + i) := by
  unfold upTo at h
  rw [List.getElem?_map] at h
  cases e : (List.range n)[i]? with
  | none => rw [e] at h; cases h
  | some j =>
    rw [e] at h
    have : j = i := by
      obtain ⟨_, h2⟩ := List.getElem?_eq_some_iff.mp e
      simpa using h2.symm
    subst this
    exact (Option.some.inj h).symm
theorem upTo_length {lo : Int} {n : Nat} : (upTo lo n).length = n := by unfold upTo; simp
theorem Goes.range {lo : Int} {n : Nat} : Goes X B (L2.Itr lo n) ⟨upTo lo n, none⟩ [] := by
  refine ⟨fun S H σ env T i r _ hi => ?_, fun S H σ env T i x H' d r _ y hd => ?_, fun S H σ env T i r _ hi => ?_⟩
  · have hi' : i < (upTo lo n).length := hi
    rw [upTo_length] at hi'; exact hi'
  · obtain ⟨rfl, rfl⟩ := y
    rw [upTo_get hd]
    exact r.push (.int _)
  · have hi' : (upTo lo n).length ≤ i := hi
    rw [upTo_length] at hi'; exact hi'
theorem i_r1 {tg : Expr} {p : Pos} (hg : Gl X "range") (hm : X.mg "range" = none) (h : PE X a (tE X B Wx wa)) (hs : starEach [a] X.env = [(false, eval a X.env)]) : PI X tg (.Call (.Name "range" p) [a] [] pos)
    (tI X B Wx fun PX env P => wa PX env fun w env1 => match w with
      | .o (.d (.int i)) => inRange i ∧ P ⟨upTo 0 i.toNat, none⟩ env1
      | _ => False) := by
  refine PI_imp (pi_range1 hg hm (pa_cons h pa_nil hs) hs) fun σ H Rk ⟨S, env, T, P, PX, r, hw, hP, hX⟩ => ?_
  refine ⟨S, env, T, _, PX, r, hw, fun x env1 vx S1 H1 hq r1 => ?_, hX⟩
  split at hq
  · have ev := r1.intTop
    subst ev
    exact ⟨_, rfl, hq.1.1, hq.1.2, hP _ _ _ _ _ [] hq.2 r1.pop Goes.range trivial⟩
  · exact hq.elim
theorem i_r2 {tg : Expr} {p : Pos} (hg : Gl X "range") (hm : X.mg "range" = none) (ha : PE X a (tE X B Wx wa)) (hb : PE X b (tE X B Wx wb)) (hs : starEach [a, b] X.env = [(false, eval a X.env), (false, eval b X.env)]) (hs2 : starEach [b] X.env = [(false, eval b X.env)]) : PI X tg (.Call (.Name "range" p) [a, b] [] pos)
    (tI X B Wx fun PX env P => wa PX env fun w env1 => wb PX env1 fun u env2 => match w, u with
      | .o (.d (.int i)), .o (.d (.int j)) => inRange i ∧ inRange j ∧ P ⟨upTo i (j - i).toNat, none⟩ env2
      | _, _ => False) := by
  refine PI_imp (pi_range2 hg hm (pa_cons ha (pa_cons hb pa_nil hs2) (by rw [hs, hs2])) hs hs2) fun σ H Rk ⟨S, env, T, P, PX, r, hw, hP, hX⟩ => ?_
  refine ⟨S, env, T, _, PX, r, hw, fun x env1 vx S1 H1 hq r1 => ?_, hX⟩
  refine ⟨S1, env1, (vx, x) :: T, _, PX, r1, hq, fun y env2 vy S2 H2 hk r2 => ?_, hX⟩
  split at hk
  · have e1 := r2.intTop
    have e2 := r2.pop.intTop
    subst e1 e2
    exact ⟨_, _, rfl, ⟨hk.1.1, hk.1.2, hk.2.1.1, hk.2.1.2⟩, hP _ _ _ _ _ [] hk.2.2 r2.pop.pop Goes.range trivial⟩
  · exact hk.elim
end
end Vx
namespace Vx
open PySem PySem.Spec L2
theorem wipe_at {σ : L2.St} : ∀ {vs : List Nat} {j : Nat}, j ∉ vs → (wipe σ vs)[j]? = σ[j]?
  | [], j, _ => rfl
  | v :: vs, j, h => by
    unfold wipe
    rw [List.getElem?_set_ne fun e => h (by rw [e]; exact List.mem_cons_self)]
    exact wipe_at fun q => h (List.mem_cons_of_mem _ q)
theorem wipe_in {σ : L2.St} : ∀ {vs : List Nat} {j : Nat}, j ∈ vs → j < σ.length → (wipe σ vs)[j]? = some none
  | [], j, h, _ => nomatch h
  | v :: vs, j, h, hl => by
    unfold wipe
    by_cases e : v = j
    · subst e
      exact List.getElem?_set_self (by rw [wipe_length]; exact hl)
    · rw [List.getElem?_set_ne e]
      rcases List.mem_cons.mp h with q | q
      · exact absurd q.symm e
      · exact wipe_in q hl
theorem wipe_else {σ σ2 : L2.St} {vs : List Nat} (e : Else vs σ σ2) : wipe σ2 vs = wipe σ vs := by
  refine List.ext_getElem? fun j => ?_
  by_cases h : j ∈ vs
  · by_cases hl : j < σ.length
    · rw [wipe_in h hl, wipe_in h (by rw [e.len]; exact hl)]
    · rw [List.getElem?_eq_none (by rw [wipe_length, e.len]; omega), List.getElem?_eq_none (by rw [wipe_length]; omega)]
  · rw [wipe_at h, wipe_at h, e.at_ j h]
theorem wipe_twice {σ : L2.St} {vs : List Nat} : wipe (wipe σ vs) vs = wipe σ vs := wipe_else ⟨wipe_length _ _, fun j h => wipe_at h⟩
theorem void_length {env : Env} : ∀ {is : List Nat}, (void is env).length = env.length
  | [] => rfl
  | i :: is => by unfold void; rw [List.length_set]; exact void_length
theorem restore_length {old env : Env} : ∀ {is : List Nat}, (restore old is env).length = env.length
  | [] => rfl
  | i :: is => by unfold restore; rw [List.length_set]; exact restore_length
section
variable {K : PySem.W.Frag} {B : Bs} {S : Fz} {H : Hp} {σ : L2.St} {env : Env} {T : List (V × W)}
theorem R.voided (r : R K B S H σ env T) : ∀ is : List Nat, R K B S H (wipe σ is) (void is env) T
  | [] => r
  | i :: is => (R.voided r is).forget
theorem R.storeD {v : V} {x : D} {i : Nat} (r : R K B S H σ env T) (h : Rp K S H v x) (hi : i < env.length) : R K B S H (σ.set i (some v)) (env.set i (some (.d x))) T := (r.push h).store hi
theorem R.restored {S' : Fz} {H' : Hp} {env' old : Env} {U T' : List (V × W)} (hl : old.length = σ.length) (he : env'.length = old.length) :
    ∀ {own : List Nat}, (∀ i ∈ own, plainAt old i) → (∀ i ∈ own, ∀ x, old[i]? = some (some (.d x)) → ∃ v, σ[i]? = some (some v) ∧ (v, W.o (.d x)) ∈ U) → own.Nodup →
      R K B S' H' (wipe σ own) env' (U ++ T') → R K B S' H' σ (restore old own env') (U ++ T')
  | [], _, _, _, r => r
  | i :: is, hp, hu, hn, r => by
    have hi : i ∉ is := (List.nodup_cons.mp hn).1
    have hil : i < old.length := by
      have h := hp i List.mem_cons_self
      unfold plainAt at h
      cases e : old[i]? with
      | none => simp only [e] at h
      | some _ => exact (List.getElem?_eq_some_iff.mp e).1
    have hσ : i < σ.length := by rw [← hl]; exact hil
    -- the slot i as it was, with nothing known of it: then the rest, then i itself
    have go : R K B S' H' σ (restore old is (env'.set i none)) (U ++ T') → R K B S' H' σ (restore old (i :: is) env') (U ++ T') := by
      intro r2
      have comm : ∀ (js : List Nat) (y : Option O), i ∉ js → (restore old js (env'.set i none)).set i y = (restore old js env').set i y := by
        intro js
        induction js with
        | nil => intro y _; show (env'.set i none).set i y = _; rw [List.set_set]; rfl
        | cons j js ih =>
          intro y hj
          have ne : j ≠ i := fun e => hj (by rw [e]; exact List.mem_cons_self)
          unfold restore
          rw [List.set_comm _ _ ne, ih y fun q => hj (List.mem_cons_of_mem _ q), List.set_comm _ _ ne]
      have hp' := hp i List.mem_cons_self
      unfold plainAt at hp'
      unfold restore
      cases e : old[i]? with
      | none => simp only [e] at hp'
      | some o =>
        simp only [e] at hp' ⊢
        cases o with
        | none =>
          rw [← comm is none hi]
          have hgi : (restore old is (env'.set i none))[i]? = some none := by
            have at_ : ∀ (js : List Nat), i ∉ js → ∀ {e0 : Env}, (restore old js e0)[i]? = e0[i]? := by
              intro js
              induction js with
              | nil => intro _ e0; rfl
              | cons j js ih =>
                intro hj e0
                unfold restore
                rw [List.getElem?_set_ne fun e => hj (by rw [e]; exact List.mem_cons_self)]
                exact ih fun q => hj (List.mem_cons_of_mem _ q)
            rw [at_ is hi]
            exact List.getElem?_set_self (by rw [he]; exact hil)
          rw [set_same hgi]
          exact r2
        | some o =>
          cases o with
          | tup _ => exact hp'.elim
          | obj _ _ _ => exact hp'.elim
          | d x =>
            obtain ⟨v, hv, hm⟩ := hu i List.mem_cons_self x e
            have rx : Rp K S' H' v x := by
              have q : OwnR K S' H' v (.d x) := r2.tmps (v, .o (.d x)) (List.mem_append_left _ hm)
              cases q with
              | d q => exact q
            rw [← comm is (some (.d x)) hi]
            have r3 := r2.storeD (i := i) rx (by rw [restore_length, List.length_set, he]; exact hil)
            rw [set_same hv] at r3
            exact r3
    refine go (R.restored hl (by rw [List.length_set]; exact he) (fun j hj => hp j (List.mem_cons_of_mem _ hj)) (fun j hj => hu j (List.mem_cons_of_mem _ hj)) (List.nodup_cons.mp hn).2 ?_)
    -- wipe σ (i :: is) with none at i: the same as wipe σ is but for i, whose slot is void
    have r1 : R K B S' H' ((wipe σ is).set i none) env' (U ++ T') := r
    have r2 := r1.forget (i := i)
    rw [List.set_set] at r2
    refine ⟨?_, fun j o ej => ?_, r2.tmps, r2.one, r2.apart, r2.sH, r2.keep, r2.dom, r2.new, r2.newS, r2.sub⟩
    · rw [List.length_set, he, hl, wipe_length]
    · by_cases hj : j = i
      · subst hj
        rw [List.getElem?_set_self (by rw [he]; exact hil)] at ej
        cases ej
      · obtain ⟨v, hv, q⟩ := r2.slots j o ej
        refine ⟨v, ?_, q⟩
        rw [List.getElem?_set_ne (Ne.symm hj)] at hv
        exact hv
theorem R.hold (r : R K B S H σ env T) : ∀ own : List Nat, (∀ i ∈ own, plainAt env i) → ∃ U, (∀ i ∈ own, ∀ x, env[i]? = some (some (.d x)) → ∃ v, σ[i]? = some (some v) ∧ (v, W.o (.d x)) ∈ U) ∧ R K B S H σ env (U ++ T)
  | [], _ => ⟨[], (fun _ h => nomatch h), r⟩
  | i :: is, hp => by
    obtain ⟨U, h1, r1⟩ := R.hold r is fun j hj => hp j (List.mem_cons_of_mem _ hj)
    cases e : env[i]? with
    | none =>
      refine ⟨U, fun j hj x ex => ?_, r1⟩
      rcases List.mem_cons.mp hj with rfl | hj
      · rw [e] at ex; cases ex
      · exact h1 j hj x ex
    | some o =>
      have hp' := hp i List.mem_cons_self
      unfold plainAt at hp'
      simp only [e] at hp'
      cases o with
      | none =>
        refine ⟨U, fun j hj x ex => ?_, r1⟩
        rcases List.mem_cons.mp hj with rfl | hj
        · rw [e] at ex; cases ex
        · exact h1 j hj x ex
      | some o =>
        cases o with
        | tup _ => exact hp'.elim
        | obj _ _ _ => exact hp'.elim
        | d x =>
          obtain ⟨v, hv, q⟩ := r1.slots i _ e
          cases q with
          | d q =>
            refine ⟨(v, .o (.d x)) :: U, fun j hj y ey => ?_, r1.push q⟩
            rcases List.mem_cons.mp hj with rfl | hj
            · rw [e] at ey; cases ey
              exact ⟨v, hv, List.mem_cons_self⟩
            · obtain ⟨w, a, b⟩ := h1 j hj y ey
              exact ⟨w, a, List.mem_cons_of_mem _ b⟩
theorem R.appendTmp {p : Addr} {acc : List O} {v : V} {o : O} (r : R K B S H σ env ((v, .o o) :: (.ref p, .o (.lst p acc)) :: T)) :
    ∃ vs, H p = some (.lst vs) ∧ vs.length = acc.length ∧ R K B S (upd H p (.lst (vs ++ [v]))) σ env ((.ref p, .o (.lst p (acc ++ [o]))) :: T) := by
  have q : OwnR K S H (.ref p) (.lst p acc) := r.tmps (.ref p, .o (.lst p acc)) (List.mem_cons_of_mem _ List.mem_cons_self)
  have qo : OwnR K S H v o := r.tmps (v, .o o) List.mem_cons_self
  have hone : ∀ b, cntE b env + (o.cnt b + (((if p = b then 1 else 0) + O.cntL b acc) + cntT b T)) ≤ 1 := r.one
  have hp1 := hone p
  rw [if_pos rfl] at hp1
  cases q with
  | obj e hfit ow =>
    rename_i vs
    have e : H p = some (.lst vs) := e
    have nS : ¬ S p := fun h => by
      have h1 : cntE p env + (o.cnt p + (((if p = p then 1 else 0) + O.cntL p acc) + cntT p T)) = 0 := r.apart p h
      rw [if_pos rfl] at h1
      omega
    have k : Kp S S H (upd H p (.lst (vs ++ [v]))) := Kp.put e nS
    have other : ∀ b, p ≠ b → upd H p (.lst (vs ++ [v])) b = H b := fun b h => upd_ne (Ne.symm h)
    refine ⟨vs, e, ow.length, r.len, fun i x ex => ?_, fun t ht => ?_, fun b => ?_, fun b hb => ?_, fun b hb => ?_, fun b u h1 h2 => ?_, fun b hb => ?_, fun b hb => ?_, r.newS, r.sub⟩
    · obtain ⟨w, h1, h2⟩ := r.slots i x ex
      refine ⟨w, h1, h2.kp k fun b hb => other b fun z => ?_⟩
      subst z
      have : x.cnt p ≤ cntE p env := cntE_get ex
      omega
    · rcases List.mem_cons.mp ht with e1 | ht
      · subst e1
        refine OwnR.obj (k := .lst) upd_same True.intro ((ow.kp k fun b hb => other b fun z => ?_).append (.cons (qo.kp k fun b hb => other b fun z => ?_) .nil))
        · subst z; omega
        · subst z; omega
      · refine (r.tmps t (List.mem_cons_of_mem _ (List.mem_cons_of_mem _ ht))).kp k fun b hb => other b fun z => ?_
        subst z
        have := cntT_mem (b := p) ht
        omega
    · have := hone b
      show cntE b env + (((if p = b then 1 else 0) + O.cntL b (acc ++ [o])) + cntT b T) ≤ 1
      rw [O.cntL_append]
      show cntE b env + (((if p = b then 1 else 0) + (O.cntL b acc + (o.cnt b + 0))) + cntT b T) ≤ 1
      omega
    · have h1 : cntE b env + (o.cnt b + (((if p = b then 1 else 0) + O.cntL b acc) + cntT b T)) = 0 := r.apart b hb
      show cntE b env + (((if p = b then 1 else 0) + O.cntL b (acc ++ [o])) + cntT b T) = 0
      rw [O.cntL_append]
      show cntE b env + (((if p = b then 1 else 0) + (O.cntL b acc + (o.cnt b + 0))) + cntT b T) = 0
      omega
    · rw [k.h b hb]; exact r.sH b hb
    · have h3 := r.keep b u h1 h2
      by_cases z : p = b
      · subst z
        rcases r.new p (by show 0 < cntE p env + (o.cnt p + (((if p = p then 1 else 0) + O.cntL p acc) + cntT p T)); rw [if_pos rfl]; omega) with y | y
        · exact absurd y h2
        · rw [y] at h1; cases h1
      · rw [other b z]; exact h3
    · by_cases z : p = b
      · subst z; rw [upd_same] at hb; cases hb
      · rw [other b z] at hb; exact r.dom b hb
    · refine r.new b ?_
      have hb' : 0 < cntE b env + (((if p = b then 1 else 0) + O.cntL b (acc ++ [o])) + cntT b T) := hb
      rw [O.cntL_append] at hb'
      have hb2 : 0 < cntE b env + (((if p = b then 1 else 0) + (O.cntL b acc + (o.cnt b + 0))) + cntT b T) := hb'
      show 0 < cntE b env + (o.cnt b + (((if p = b then 1 else 0) + O.cntL b acc) + cntT b T))
      omega
end
section
variable {X : Cx} {B : Bs} {Wx : WX} {a b c : Expr} {wa wb wc : WT} {pos : Pos}
abbrev W0 : WX := fun _ _ _ _ => False
abbrev WC := Env → (Bool → Env → Prop) → Prop
def SndC (X : Cx) (B : Bs) (ifs : List Expr) (w : WC) : Prop := PTs X ifs fun σ H Q => ∃ S env T P, R X.K B S H σ env T ∧ w env P ∧ ∀ b env' S' H', P b env' → R X.K B S' H' σ env' T → Q b H'
theorem sc_nil : SndC X B [] fun env P => P true env := by
  have h : PTs X [] tYes := pts_nil
  exact ⟨fun pins s σ H Q I ⟨S, env, T, P, r, hw, hP⟩ => h.run pins s σ H Q I (hP _ _ _ _ hw r)⟩
theorem sc_one (h : Snd X B W0 c wc) : SndC X B [c] fun env P => wc (fun _ _ => False) env fun w env1 => tst w fun t => P t env1 := by
  have h2 : PTs X [c] (tT X B W0 (toB wc)) := pts_one h.pt
  exact ⟨fun pins s σ H Q I ⟨S, env, T, P, r, hw, hP⟩ => h2.run pins s σ H Q I ⟨S, env, T, P, _, r, hw, hP, lets_false fun _ _ h => h⟩⟩
def stepC (t : Tg) (own : List Nat) (wcnd : WC) (we : WT) : D → Env → List O → (Env → List O → Prop) → Prop := fun x env acc K =>
  bindT t (.o (.d x)) (void own env) fun env2 => wcnd env2 fun b env3 =>
    if b = true then we (fun _ _ => False) env3 fun w env4 => inW w env4 fun o env5 => acc.length < sizeLine ∧ K (void own env5) (acc ++ [o]) else K (void own env3) acc
theorem envAt_void {own : List Nat} {env : Env} {i : Nat} {p : List Stp} {a : Addr} {kd : Kd} {ys : List O} (hp : ∀ i ∈ own, plainAt env i) (h' : envAt env i p = some (.obj a kd ys)) : envAt (void own env) i p = some (.obj a kd ys) := by
  have hi : i ∉ own := fun hm => by
    have h1 := hp i hm
    obtain ⟨o, e, ha⟩ := envAt_some h'
    unfold plainAt at h1
    simp only [e] at h1
    cases o with
    | d x =>
      cases p with
      | nil => cases ha
      | cons s p => cases s; cases ha
    | tup _ => exact h1.elim
    | obj _ _ _ => exact h1.elim
  have at_ : ∀ (js : List Nat), i ∉ js → (void js env)[i]? = env[i]? := by
    intro js
    induction js with
    | nil => intro _; rfl
    | cons j js ih =>
      intro hj
      unfold void
      rw [List.getElem?_set_ne fun e => hj (by rw [e]; exact List.mem_cons_self)]
      exact ih fun q => hj (List.mem_cons_of_mem _ q)
  unfold envAt
  rw [at_ own hi]
  exact h'
theorem still_void {src : Src} {own : List Nat} {env : Env} (hp : ∀ i ∈ own, plainAt env i) (h : src.still env) : src.still (void own env) := by
  obtain ⟨xs, at?⟩ := src
  cases at? with
  | none => trivial
  | some q =>
    cases q with
    | seq q =>
      obtain ⟨a, i, p⟩ := q
      exact envAt_void hp h
    | keys a i p od ks =>
      obtain ⟨⟨ys, h1⟩, h2⟩ := h
      exact ⟨⟨ys, envAt_void hp h1⟩, h2⟩
def wComp (wi : WI) (own : List Nat) (t : Tg) (wcnd : WC) (we : WT) : WT := fun PX env P => wi PX env fun src env1 => (∀ i ∈ own, plainAt env1 i) ∧ ∀ a, goComp src (stepC t own wcnd we)
      src.xs (void own env1) [] fun env' acc => env'.length = env1.length → P (.o (.lst a acc)) (restore env1 own env')
abbrev tCnd (X : Cx) (B : Bs) (wcnd : WC) : TT := fun σ H Q => ∃ S env T P, R X.K B S H σ env T ∧ wcnd env P ∧ ∀ b env' S' H', P b env' → R X.K B S' H' σ env' T → Q b H'
theorem comp_reads {vs : List Nat} {t : Tg} {wi : WI} {wcnd : WC} {we : WT} (hown : vs.Nodup) (hsub : ∀ i ∈ t.slots, i ∈ vs) {σ : L2.St} {H : Hp} {Q : VK} (h : tE X B Wx (wComp wi vs t wcnd we) σ H Q) :
    tLc (tI X B Wx wi) (gT X B t) (tCnd X B wcnd) (tE X B W0 we) vs σ H Q := by
  obtain ⟨S, env, T, P, PX, r, hw, hP, hX⟩ := h
  refine ⟨S, env, T, _, PX, r, hw, fun src env1 S1 H1 J Z ⟨hpl, hgo⟩ r1 G still => ?_, hX⟩
  intro Da nD
  obtain ⟨U, hU, r2⟩ := R.hold r1 vs hpl
  have len1 : env1.length = σ.length := r1.len
  have r3 : R X.K B S1 (upd H1 Da (.lst [])) (wipe σ vs) (void vs env1) ((.ref Da, .o (.lst Da [])) :: (Z ++ (U ++ T))) := by
    have r4 := (R.newLst (P := []) (T := U ++ (Z ++ T)) r2 nD .nil (fun b => Nat.zero_le _)).voided vs
    refine r4.perm (fun t ht => ?_) fun b => ?_
    · rcases List.mem_cons.mp ht with e | ht
      · subst e; exact List.mem_cons_self
      · refine List.mem_cons_of_mem _ ?_
        rcases List.mem_append.mp ht with ht | ht
        · exact List.mem_append_right _ (List.mem_append_left _ ht)
        · rcases List.mem_append.mp ht with ht | ht
          · exact List.mem_append_left _ ht
          · exact List.mem_append_right _ (List.mem_append_right _ ht)
    · show _ + cntT b (Z ++ (U ++ T)) ≤ _ + cntT b (U ++ (Z ++ T))
      rw [cntT_append, cntT_append, cntT_append, cntT_append]; omega
  refine ⟨fun i m H => ∃ S env acc, R X.K B S H (wipe σ vs) env ((.ref Da, .o (.lst Da acc)) :: (Z ++ (U ++ T))) ∧ m = src.xs.length - i ∧ i ≤ src.xs.length ∧ src.still env ∧
      goComp src (stepC t vs wcnd we) (src.xs.drop i) env acc (fun env' acc => env'.length = env1.length → P (.o (.lst Da acc)) (restore env1 vs env')), ⟨src.xs.length, S1, _, [], r3, by simp, Nat.zero_le _, still_void hpl still, hgo Da⟩, ?_⟩
  rintro i m H2 ⟨S2, e2, acc, r4, rfl, hile, st2, hq⟩
  have r5 : R X.K B S2 H2 (wipe σ vs) e2 (Z ++ ((.ref Da, .o (.lst Da acc)) :: (U ++ T))) := r4.perm (fun t ht => by
    rcases List.mem_append.mp ht with ht | ht
    · exact List.mem_cons_of_mem _ (List.mem_append_left _ ht)
    · rcases List.mem_cons.mp ht with e | ht
      · subst e; exact List.mem_cons_self
      · exact List.mem_cons_of_mem _ (List.mem_append_right _ ht)) fun b => by
      rw [cntT_append]
      show _ ≤ _ + cntT b (Z ++ (U ++ T))
      rw [cntT_append]
      show cntT b Z + (_ + _) ≤ _
      omega
  by_cases hlt : i < src.xs.length
  · refine .inr ⟨G.go _ _ _ _ _ i r5 st2 hlt, fun H' => ∃ S env acc, R X.K B S H' (wipe σ vs) env ((.ref Da, .o (.lst Da acc)) :: (Z ++ (U ++ T))) ∧ src.still env ∧
      goComp src (stepC t vs wcnd we) (src.xs.drop (i + 1)) env acc (fun env' acc => env'.length = env1.length → P (.o (.lst Da acc)) (restore env1 vs env')), fun H' ⟨S', env', acc', a1, a2, a3⟩ => ⟨src.xs.length - (i + 1), by omega, S', env', acc', a1, rfl, hlt, a2, a3⟩, fun x H3 hy => ?_⟩
    have hd : src.xs[i]? = some src.xs[i] := List.getElem?_eq_getElem hlt
    rw [List.drop_eq_getElem_cons hlt] at hq
    have r6 := (G.yl _ _ _ _ _ i x H3 _ r5 st2 hy hd)
    have r7 : R X.K B S2 H3 (wipe σ vs) (void vs e2) ((x, .o (.d src.xs[i])) :: ((.ref Da, .o (.lst Da acc)) :: (Z ++ (U ++ T)))) := by
      have r8 := r6.voided vs
      rw [wipe_twice] at r8
      refine r8.perm (fun t ht => ?_) fun b => ?_
      · rcases List.mem_cons.mp ht with e | ht
        · subst e; exact List.mem_cons_self
        · refine List.mem_cons_of_mem _ ?_
          rcases List.mem_cons.mp ht with e | ht
          · subst e; exact List.mem_append_right _ List.mem_cons_self
          · rcases List.mem_append.mp ht with ht | ht
            · exact List.mem_append_left _ ht
            · exact List.mem_append_right _ (List.mem_cons_of_mem _ ht)
      · show _ + (_ + cntT b (Z ++ (U ++ T))) ≤ _ + cntT b (Z ++ (_ :: (U ++ T)))
        rw [cntT_append, cntT_append b Z (_ :: (U ++ T))]
        show _ ≤ _ + (_ + (_ + _))
        omega
    have hq1 : bindT t (.o (.d src.xs[i])) (void vs e2) fun e3 => wcnd e3 fun b e4 =>
        if b = true then we (fun _ _ => False) e4 fun w e5 => inW w e5 fun o e6 => acc.length < sizeLine ∧ (src.still (void vs e6) ∧ goComp src (stepC t vs wcnd we) (src.xs.drop (i + 1)) (void vs e6) (acc ++ [o]) fun env' acc => env'.length = env1.length → P (.o (.lst Da acc)) (restore env1 vs env'))
        else src.still (void vs e4) ∧ goComp src (stepC t vs wcnd we) (src.xs.drop (i + 1)) (void vs e4) acc fun env' acc => env'.length = env1.length → P (.o (.lst Da acc)) (restore env1 vs env') := hq
    refine ⟨S2, void vs e2, _, .o (.d src.xs[i]), _, r7, hq1, fun e3 S3 σ3 hc3 r8 el hl3 => ?_⟩
    have el' : Else vs (wipe σ vs) σ3 := el.more hsub
    have back : wipe σ3 vs = wipe σ vs := (wipe_else el').trans wipe_twice
    refine ⟨back, S3, e3, _, _, r8, hc3, fun bt e4 S4 H4 hb4 r9 => ?_⟩
    cases bt with
    | false =>
      refine iteF ⟨S4, void vs e4, acc, ?_, hb4.1, hb4.2⟩
      have := r9.voided vs
      rw [back] at this
      exact this
    | true =>
      refine iteT ⟨S4, e4, _, _, fun _ _ => False, r9, hb4, fun w e5 v S5 H5 hw5 r10 => ?_, lets_false fun _ _ h => h⟩
      obtain ⟨o, e6, S6, ⟨hz, h6⟩, r11⟩ := r10.into hw5
      obtain ⟨ws, hws, hwl, r12⟩ := r11.appendTmp
      refine ⟨ws, hws, by rw [hwl]; exact hz, S6, void vs e6, acc ++ [o], ?_, h6.1, h6.2⟩
      have := r12.voided vs
      rw [back] at this
      exact this
  · have hil : i = src.xs.length := by omega
    refine .inl ⟨G.st _ _ _ _ _ i r5 st2 (by omega), ?_⟩
    rw [List.drop_eq_nil_of_le (by omega)] at hq
    have len2 : e2.length = env1.length := by rw [r4.len, wipe_length, len1]
    have hq2 : P (.o (.lst Da acc)) (restore env1 vs e2) := hq len2
    have r6 : R X.K B S2 H2 (wipe σ vs) e2 (U ++ ((.ref Da, .o (.lst Da acc)) :: (Z ++ T))) := r4.perm (fun t ht => by
      rcases List.mem_append.mp ht with ht | ht
      · exact List.mem_cons_of_mem _ (List.mem_append_right _ (List.mem_append_left _ ht))
      · rcases List.mem_cons.mp ht with e | ht
        · subst e; exact List.mem_cons_self
        · rcases List.mem_append.mp ht with ht | ht
          · exact List.mem_cons_of_mem _ (List.mem_append_left _ ht)
          · exact List.mem_cons_of_mem _ (List.mem_append_right _ (List.mem_append_right _ ht))) fun b => by
        rw [cntT_append]
        show _ + (_ + cntT b (Z ++ T)) ≤ _ + cntT b (Z ++ (U ++ T))
        rw [cntT_append, cntT_append, cntT_append]
        omega
    have r7 := (R.restored (old := env1) len1 (by rw [len2]) hpl hU hown r6).pops
    refine hP _ _ _ _ _ hq2 (r7.perm (fun t ht => ?_) fun b => ?_)
    · rcases List.mem_cons.mp ht with e | ht
      · subst e; exact List.mem_cons_self
      · exact List.mem_cons_of_mem _ (List.mem_append_right _ ht)
    · show _ + cntT b T ≤ _ + cntT b (Z ++ T)
      rw [cntT_append]; omega
theorem s_comp {elt tg iter : Expr} {ifs : List Expr} {scope : Scope} {own : List (Str × Nat)} {t : Tg} {wi : WI} {wcnd : WC} {we : WT} (hc : X.calm = true) (hN : X.N.Nodup)
    (hi : PI X tg iter (tI X B Wx wi)) (ok : BlkOk X.N X.env.scope scope own) (hown : (own.map (·.2)).Nodup) (hsub : ∀ i ∈ t.slots, i ∈ own.map (·.2))
    (hg : ∀ (s : Shared) (H : Hp) (C : Addr) (cl : List (Str × Addr)) (fp : List Addr), PG (X.blk s H scope (compEnvC scope cl C X.env) fp) tg (gT X B t))
    (ht : ∀ (s : Shared) (H : Hp) (C : Addr) (cl : List (Str × Addr)) (fp : List Addr), SndC (X.blk s H scope (compEnvC scope cl C X.env) fp) B ifs wcnd)
    (he : ∀ (s : Shared) (H : Hp) (C : Addr) (cl : List (Str × Addr)) (fp : List Addr), PE (X.blk s H scope (compEnvC scope cl C X.env) fp) elt (tE X B W0 we))
    (hs : ∀ x, foldedSetIterable iter X.env x = pure x) :
    PE X (.ListComp elt [⟨tg, iter, ifs, 0⟩] scope pos) (tE X B Wx (wComp wi (own.map (·.2)) t wcnd we)) :=
  PE_imp (pe_lc (tt := tCnd X B wcnd) hc hN hi ok hg (fun s H C cl fp => ht s H C cl fp) he hs) fun _ _ _ h => comp_reads hown hsub h
end
end Vx
namespace Vx
open PySem PySem.Spec L2
section
variable {K : PySem.W.Frag} {B : Bs} {S : Fz} {H : Hp} {σ : L2.St} {env : Env} {T : List (V × W)}
theorem envAt_at {env env' : Env} {i : Nat} {p : List Stp} (h : env'[i]? = env[i]?) : envAt env' i p = envAt env i p := by
  unfold envAt; rw [h]
theorem lend_at : ∀ {ws : List W} {env env' : Env}, (∀ i ∈ lentAt ws, env'[i]? = env[i]?) → lend ws env' = lend ws env
  | [], _, _, _ => rfl
  | .o x :: r, env, env', h => by
    unfold lend
    rw [lend_at (ws := r) fun i hi => h i hi]
  | .al a i p :: r, env, env', h => by
    unfold lend
    rw [envAt_at (h i List.mem_cons_self), lend_at (ws := r) fun j hj => h j (List.mem_cons_of_mem _ hj)]
theorem lend_o {x : O} {r : List W} {os : List O} (h : lend (.o x :: r) env = some os) : ∃ os1, notTup x = true ∧ os = x :: os1 ∧ lend r env = some os1 := by
  unfold lend at h
  by_cases hx : notTup x = true
  · rw [if_pos hx] at h
    cases e : lend r env with
    | none => rw [e] at h; cases h
    | some os1 => rw [e] at h; cases h; exact ⟨os1, hx, rfl, rfl⟩
  · rw [if_neg hx] at h; cases h
theorem lend_al {a : Addr} {i : Nat} {p : List Stp} {r : List W} {os : List O} (h : lend (.al a i p :: r) env = some os) :
    ∃ kd xs os1, envAt env i p = some (O.obj a kd xs) ∧ os = .obj a kd xs :: os1 ∧ lend r env = some os1 := by
  unfold lend at h
  cases e : envAt env i p with
  | none => simp only [e] at h; cases h
  | some o =>
    simp only [e] at h
    cases o with
    | d _ => cases h
    | tup _ => cases h
    | obj b kd xs =>
      have h : (if b = a then (lend r env).map (O.obj b kd xs :: ·) else none) = some os := h
      by_cases q : b = a
      · subst q
        rw [if_pos rfl] at h
        cases e2 : lend r env with
        | none => rw [e2] at h; cases h
        | some os1 => rw [e2] at h; cases h; exact ⟨kd, xs, os1, rfl, rfl, rfl⟩
      · rw [if_neg q] at h; cases h
theorem lend_notTup : ∀ {ws : List W} {os : List O}, lend ws env = some os → os.all notTup = true
  | [], os, h => by cases h; rfl
  | .o x :: r, os, h => by
    obtain ⟨os1, h1, rfl, h2⟩ := lend_o h
    show (notTup x && os1.all notTup) = true
    rw [h1, lend_notTup h2]; rfl
  | .al a i p :: r, os, h => by
    obtain ⟨kd, xs, os1, h1, rfl, h2⟩ := lend_al h
    show (true && os1.all notTup) = true
    rw [lend_notTup (ws := r) h2]; rfl
def inSlots (b : Addr) : List W → List O → Nat
  | .al .. :: r, o :: os => o.cnt b + inSlots b r os
  | .o _ :: r, _ :: os => inSlots b r os
  | _, _ => 0
theorem cntE_void {env : Env} {i : Nat} {o : O} (h : env[i]? = some (some o)) (b : Addr) : cntE b (env.set i none) + o.cnt b = cntE b env := by
  have := cntE_set (b := b) (y := none) h
  exact this
theorem lend_slots (K : PySem.W.Frag) (S : Fz) (H : Hp) : ∀ {ws : List W} {os : List O} {env : Env}, lend ws env = some os → (lentAt ws).Nodup →
    (∀ (i : Nat) (o : O), env[i]? = some (some o) → ∃ v, OwnR K S H v o) → ∀ b, inSlots b ws os ≤ cntE b env
  | [], os, env, h, _, _, b => by cases h; exact Nat.zero_le _
  | .o x :: r, os, env, h, hn, hR, b => by
    obtain ⟨os1, _, rfl, h2⟩ := lend_o h
    exact lend_slots K S H (ws := r) h2 hn hR b
  | .al a i p :: r, os, env, h, hn, hR, b => by
    obtain ⟨kd, xs, os1, h1, rfl, h2⟩ := lend_al h
    obtain ⟨hi, hn2⟩ := List.nodup_cons.mp hn
    obtain ⟨o, e, ha⟩ := envAt_some h1
    have h3 : lend r (env.set i none) = some os1 := by
      rw [lend_at fun j hj => List.getElem?_set_ne fun z => hi (by rw [z]; exact hj)]; exact h2
    have ih := lend_slots K S H h3 hn2 (fun j x ej => by
      by_cases z : i = j
      · subst z
        rw [List.getElem?_set_self (List.getElem?_eq_some_iff.mp e).1] at ej; cases ej
      · rw [List.getElem?_set_ne z] at ej; exact hR j x ej) b
    have := cntE_void e b
    obtain ⟨v, q⟩ := hR i o e
    obtain ⟨_, _, c⟩ := q.at ha
    have := c b
    show (O.obj a kd xs).cnt b + inSlots b r os1 ≤ _
    omega
theorem lend_cnt : ∀ {Z : List (V × W)} {os : List O} {env : Env}, lend (Z.map (·.2)) env = some os → ∀ b, O.cntL b os = inSlots b (Z.map (·.2)) os + cntT b Z
  | [], os, env, h, b => by cases h; rfl
  | (v, .o x) :: r, os, env, h, b => by
    have h : lend (.o x :: r.map (·.2)) env = some os := h
    obtain ⟨os1, _, rfl, h2⟩ := lend_o h
    have := lend_cnt (Z := r) h2 b
    show x.cnt b + O.cntL b os1 = inSlots b (r.map (·.2)) os1 + (x.cnt b + cntT b r)
    omega
  | (v, .al a i p) :: r, os, env, h, b => by
    have h : lend (.al a i p :: r.map (·.2)) env = some os := h
    obtain ⟨kd, xs, os1, _, rfl, h2⟩ := lend_al h
    have := lend_cnt (Z := r) h2 b
    show (O.obj a kd xs).cnt b + O.cntL b os1 = (O.obj a kd xs).cnt b + inSlots b (r.map (·.2)) os1 + (0 + cntT b r)
    omega
theorem lend_own : ∀ {Z : List (V × W)} {os : List O}, lend (Z.map (·.2)) env = some os → (∀ t ∈ Z, TmpR K S H t) →
    (∀ (i : Nat) (o : O), env[i]? = some (some o) → ∃ v, OwnR K S H v o) → OwnA K S H (Z.map (·.1)) os
  | [], os, h, _, _ => by cases h; exact .nil
  | (v, .o x) :: r, os, h, ht, hR => by
    have h : lend (.o x :: r.map (·.2)) env = some os := h
    obtain ⟨os1, _, rfl, h2⟩ := lend_o h
    exact .cons (ht (v, .o x) List.mem_cons_self) (lend_own h2 (fun t q => ht t (List.mem_cons_of_mem _ q)) hR)
  | (v, .al a i p) :: r, os, h, ht, hR => by
    have h : lend (.al a i p :: r.map (·.2)) env = some os := h
    obtain ⟨kd, xs, os1, h1, rfl, h2⟩ := lend_al h
    have e1 : v = .ref a := ht (v, .al a i p) List.mem_cons_self
    obtain ⟨o, e, ha⟩ := envAt_some h1
    obtain ⟨u, q⟩ := hR i o e
    obtain ⟨u', q', _⟩ := q.at ha
    have : u' = .ref a := q'.ref rfl
    refine .cons ?_ (lend_own h2 (fun t q => ht t (List.mem_cons_of_mem _ q)) hR)
    show OwnR K S H v (O.obj a kd xs)
    rw [e1, ← this]; exact q'
theorem giveBack_o {x : O} {r : List W} {os' : List O} {env' : Env} (h : giveBack (.o x :: r) os' env = some env') : ∃ y os1, os' = y :: os1 ∧ giveBack r os1 env = some env' := by
  cases os' with
  | nil => unfold giveBack at h; cases h
  | cons y os1 => exact ⟨y, os1, rfl, h⟩
theorem giveBack_al {a : Addr} {i : Nat} {p : List Stp} {r : List W} {os' : List O} {env' : Env} (h : giveBack (.al a i p :: r) os' env = some env') :
    ∃ ke ys os1, os' = .obj a ke ys :: os1 ∧ giveBack r os1 (envPut env i p (O.obj a ke ys)) = some env' := by
  cases os' with
  | nil => unfold giveBack at h; cases h
  | cons y os1 =>
    cases y with
    | d _ => unfold giveBack at h; cases h
    | tup _ => unfold giveBack at h; cases h
    | obj b ke ys =>
      unfold giveBack at h
      by_cases q : b = a
      · subst q; rw [if_pos rfl] at h; exact ⟨ke, ys, os1, rfl, h⟩
      · rw [if_neg q] at h; cases h
theorem giveBack_length : ∀ {ws : List W} {os' : List O} {env env' : Env}, giveBack ws os' env = some env' → env'.length = env.length
  | [], os', env, env', h => by cases h; rfl
  | .o x :: r, os', env, env', h => by
    obtain ⟨y, os1, rfl, h2⟩ := giveBack_o h
    exact giveBack_length h2
  | .al a i p :: r, os', env, env', h => by
    obtain ⟨ke, ys, os1, rfl, h2⟩ := giveBack_al h
    rw [giveBack_length h2, envPut_length]
theorem envPut_else {env : Env} {i j : Nat} {p : List Stp} {y : O} (hj : j ≠ i) : (envPut env i p y)[j]? = env[j]? := by
  unfold envPut
  split
  · rw [List.getElem?_set_ne (Ne.symm hj)]
  · rfl
theorem giveBack_else : ∀ {ws : List W} {os' : List O} {env env' : Env} {i : Nat}, i ∉ lentAt ws → giveBack ws os' env = some env' → env'[i]? = env[i]?
  | [], os', env, env', i, _, g => by cases g; rfl
  | .o x :: r, os', env, env', i, hi, g => by
    obtain ⟨y, os1, rfl, h2⟩ := giveBack_o g
    exact giveBack_else (ws := r) hi h2
  | .al a i0 p :: r, os', env, env', i, hi, g => by
    obtain ⟨ke, ys, os1, rfl, h2⟩ := giveBack_al g
    rw [giveBack_else (ws := r) (fun hm => hi (List.mem_cons_of_mem _ hm)) h2, envPut_else fun z => hi (by rw [z]; exact List.mem_cons_self)]
theorem envPut_void {env : Env} {i i0 : Nat} {p : List Stp} {y : O} (h : i ≠ i0) : envPut (env.set i0 none) i p y = (envPut env i p y).set i0 none := by
  unfold envPut
  rw [List.getElem?_set_ne (Ne.symm h)]
  cases e : env[i]? with
  | none => rfl
  | some x =>
    cases x with
    | none => rfl
    | some o => exact List.set_comm _ _ (Ne.symm h)
theorem giveBack_void : ∀ {ws : List W} {os' : List O} {env env' : Env} {i0 : Nat}, i0 ∉ lentAt ws → giveBack ws os' env = some env' → giveBack ws os' (env.set i0 none) = some (env'.set i0 none)
  | [], os', env, env', i0, _, g => by cases g; rfl
  | .o x :: r, os', env, env', i0, hi, g => by
    obtain ⟨y, os1, rfl, h2⟩ := giveBack_o g
    exact giveBack_void (ws := r) hi h2
  | .al a i p :: r, os', env, env', i0, hi, g => by
    obtain ⟨ke, ys, os1, rfl, h2⟩ := giveBack_al g
    unfold giveBack
    rw [if_pos rfl, envPut_void fun z => hi (by rw [z]; exact List.mem_cons_self)]
    exact giveBack_void (ws := r) (fun hm => hi (List.mem_cons_of_mem _ hm)) h2
theorem giveBack_cnt : ∀ {ws : List W} {os os' : List O} {env env' : Env}, lend ws env = some os → (lentAt ws).Nodup → giveBack ws os' env = some env' → ∀ b, cntE b env' + inSlots b ws os = cntE b env + inSlots b ws os'
  | [], os, os', env, env', h, _, g, b => by cases h; cases g; rfl
  | .o x :: r, os, os', env, env', h, hn, g, b => by
    obtain ⟨os1, _, rfl, h2⟩ := lend_o h
    obtain ⟨y, os2, rfl, g2⟩ := giveBack_o g
    exact giveBack_cnt (ws := r) h2 hn g2 b
  | .al a i p :: r, os, os', env, env', h, hn, g, b => by
    obtain ⟨kd, xs, os1, h1, rfl, h2⟩ := lend_al h
    obtain ⟨ke, ys, os2, rfl, g2⟩ := giveBack_al g
    obtain ⟨hi, hn2⟩ := List.nodup_cons.mp hn
    have h3 : lend r (envPut env i p (O.obj a ke ys)) = some os1 := by
      rw [lend_at fun j hj => envPut_else fun z => hi (by rw [← z]; exact hj)]; exact h2
    have ih := giveBack_cnt (ws := r) h3 hn2 g2 b
    have := envPut_cnt (y := .obj a ke ys) h1 b
    show _ + ((O.obj a kd xs).cnt b + inSlots b r os1) = _ + ((O.obj a ke ys).cnt b + inSlots b r os2)
    omega
theorem giveBack_at (K : PySem.W.Frag) (S : Fz) (H : Hp) : ∀ {ws : List W} {os os' : List O} {env env' : Env}, lend ws env = some os → (lentAt ws).Nodup → giveBack ws os' env = some env' →
    (∀ (i : Nat) (o : O), env[i]? = some (some o) → ∃ v, OwnR K S H v o) → ∀ (i : Nat) (o' : O), env'[i]? = some (some o') →
    (env[i]? = some (some o') ∧ i ∉ lentAt ws) ∨ (i ∈ lentAt ws ∧ ∃ (o : O) (p : List Stp) (a : Addr) (kd ke : Kd) (xs ys : List O) (j : Nat), env[i]? = some (some o) ∧ O.at p o = some (O.obj a kd xs) ∧ o' = O.put p o (O.obj a ke ys) ∧ os[j]? = some (O.obj a kd xs) ∧ os'[j]? = some (O.obj a ke ys) ∧
      ∀ b : Addr, inSlots b ws os + o.cnt b ≤ cntE b env + (O.obj a kd xs).cnt b)
  | [], os, os', env, env', h, _, g, _, i, o', e => by cases h; cases g; exact .inl ⟨e, fun q => nomatch q⟩
  | .o x :: r, os, os', env, env', h, hn, g, hR, i, o', e => by
    obtain ⟨os1, _, rfl, h2⟩ := lend_o h
    obtain ⟨y, os2, rfl, g2⟩ := giveBack_o g
    rcases giveBack_at K S H (ws := r) h2 hn g2 hR i o' e with q | ⟨q1, o, p, a, kd, ke, xs, ys, j, a1, a2, a3, a4, a5, a6⟩
    · exact .inl q
    · exact .inr ⟨q1, o, p, a, kd, ke, xs, ys, j + 1, a1, a2, a3, by simpa using a4, by simpa using a5, a6⟩
  | .al a i0 p :: r, os, os', env, env', h, hn, g, hR, i, o', e => by
    obtain ⟨kd, xs, os1, h1, rfl, h2⟩ := lend_al h
    obtain ⟨ke, ys, os2, rfl, g2⟩ := giveBack_al g
    obtain ⟨hi, hn2⟩ := List.nodup_cons.mp hn
    obtain ⟨o0, e0, ha0⟩ := envAt_some h1
    have hv : ∀ b, cntE b (env.set i0 none) + o0.cnt b = cntE b env := fun b => cntE_void e0 b
    have i0l := (List.getElem?_eq_some_iff.mp e0).1
    -- with the slot void, both ways the same
    have h3 : lend r (env.set i0 none) = some os1 := by
      rw [lend_at fun j hj => List.getElem?_set_ne fun z => hi (by rw [z]; exact hj)]; exact h2
    have hR2 : ∀ (i : Nat) (o : O), (env.set i0 none)[i]? = some (some o) → ∃ v, OwnR K S H v o := fun j x ej => by
      by_cases z : i0 = j
      · subst z
        rw [List.getElem?_set_self i0l] at ej; cases ej
      · rw [List.getElem?_set_ne z] at ej; exact hR j x ej
    have g3 := giveBack_void (i0 := i0) (ws := r) (fun hm => hi hm) g2
    by_cases z : i = i0
    · subst z
      have e' : env'[i]? = (envPut env i p (O.obj a ke ys))[i]? := giveBack_else (ws := r) hi g2
      rw [e', envPut_eq e0, List.getElem?_set_self i0l] at e
      cases e
      refine .inr ⟨List.mem_cons_self, o0, p, a, kd, ke, xs, ys, 0, e0, ha0, rfl, rfl, rfl, fun b => ?_⟩
      have := lend_slots K S H h3 hn2 hR2 b
      have := hv b
      show (O.obj a kd xs).cnt b + inSlots b r os1 + o0.cnt b ≤ _
      omega
    · rw [show (envPut env i0 p (O.obj a ke ys)).set i0 none = env.set i0 none by rw [envPut_eq e0, List.set_set]] at g3
      rcases giveBack_at K S H (ws := r) h3 hn2 g3 hR2 i o' (by rw [List.getElem?_set_ne (Ne.symm z)]; exact e) with ⟨q1, q2⟩ | ⟨q1, o, p', a', kd', ke', xs', ys', j, a1, a2, a3, a4, a5, a6⟩
      · rw [List.getElem?_set_ne (Ne.symm z)] at q1
        exact .inl ⟨q1, fun hm => (List.mem_cons.mp hm).elim z q2⟩
      · rw [List.getElem?_set_ne (Ne.symm z)] at a1
        refine .inr ⟨List.mem_cons_of_mem _ q1, o, p', a', kd', ke', xs', ys', j + 1, a1, a2, a3, by simpa using a4, by simpa using a5, fun b => ?_⟩
        obtain ⟨v0, q0⟩ := hR i0 o0 e0
        obtain ⟨_, _, c0⟩ := q0.at ha0
        have := c0 b
        have := a6 b
        have := hv b
        show (O.obj a kd xs).cnt b + inSlots b r os1 + o.cnt b ≤ _
        omega
theorem inSlots_le : ∀ {ws : List W} {os : List O} (b : Addr), inSlots b ws os ≤ O.cntL b os
  | [], _, _ => Nat.zero_le _
  | .o _ :: r, [], _ => Nat.zero_le _
  | .al .. :: r, [], _ => Nat.zero_le _
  | .o _ :: r, o :: os, b => by
    have := inSlots_le (ws := r) (os := os) b
    show inSlots b r os ≤ o.cnt b + O.cntL b os
    omega
  | .al .. :: r, o :: os, b => by
    have := inSlots_le (ws := r) (os := os) b
    show o.cnt b + inSlots b r os ≤ o.cnt b + O.cntL b os
    omega
abbrev ownB (S : Fz) (H : Hp) (os : List O) : Bs := ⟨S, H, fun a => 0 < O.cntL a os⟩
abbrev RZ (K : PySem.W.Frag) (S : Fz) (H : Hp) (os : List O) (S' : Fz) (H' : Hp) (P : List (V × W)) : Prop := R K (ownB S H os) S' H' [] [] P
theorem tmp_zip : ∀ {vs : List V} {os : List O}, OwnA K S H vs os → ∀ t ∈ vs.zip (os.map W.o), TmpR K S H t
  | _, _, .nil, t, ht => nomatch ht
  | _, _, .cons r rs, t, ht => by
    rcases List.mem_cons.mp ht with e | ht
    · subst e; exact r
    · exact tmp_zip rs t ht
theorem R.lent {Z : List (V × W)} {os : List O} (r : R K B S H σ env (Z ++ T)) (h : lend (Z.map (·.2)) env = some os) (hn : (lentAt (Z.map (·.2))).Nodup) :
    OwnA K S H (Z.map (·.1)) os ∧ (∀ b, O.cntL b os ≤ cntE b env + cntT b Z) ∧ RZ K S H os S H ((Z.map (·.1)).zip (os.map W.o)) := by
  have hR : ∀ (i : Nat) (o : O), env[i]? = some (some o) → ∃ v, OwnR K S H v o := fun i o e => let ⟨v, _, q⟩ := r.slots i o e; ⟨v, q⟩
  have ow := lend_own h (fun t ht => r.tmps t (List.mem_append_left _ ht)) hR
  have c1 : ∀ b, O.cntL b os ≤ cntE b env + cntT b Z := fun b => by
    have := lend_slots K S H h hn hR b
    have := lend_cnt h b
    omega
  have hone : ∀ b, cntE b env + (cntT b Z + cntT b T) ≤ 1 := fun b => by rw [← cntT_append]; exact r.one b
  have hz : ∀ b, cntT b ((Z.map (·.1)).zip (os.map W.o)) = O.cntL b os := fun b => cntT_zip b ow.length
  refine ⟨ow, c1, ⟨rfl, (fun i o e => nomatch e), tmp_zip ow, fun b => ?_, fun b hb => ?_, r.sH, fun b o h1 _ => h1, fun b hb => hb, fun b hb => ?_, fun b hb => .inl hb, fun b hb => hb⟩⟩
  · show 0 + _ ≤ 1
    rw [hz]; have := c1 b; have := hone b; omega
  · show 0 + _ = 0
    rw [hz]
    have h1 := r.apart b hb
    rw [cntT_append] at h1
    have := c1 b
    omega
  · have hb' : 0 < 0 + cntT b ((Z.map (·.1)).zip (os.map W.o)) := hb
    rw [hz] at hb'
    exact .inl (by show 0 < O.cntL b os; omega)
theorem RZ.kp {os : List O} {S' : Fz} {H' : Hp} {P : List (V × W)} (q : RZ K S H os S' H' P) (hl : ∀ a, 0 < O.cntL a os → ∃ k xs, H a = some (hoOf k xs)) (hS : ∀ a, S a → O.cntL a os = 0) (sH : ∀ a, S a → H a ≠ none) : Kp S S' H H' := by
  refine ⟨fun a h => q.sub a h, fun a h => ?_, fun a o h hf => ?_⟩
  · cases e : H a with
    | none => exact absurd e (sH a h)
    | some o => exact q.keep a o e (by show ¬ 0 < O.cntL a os; have := hS a h; omega)
  · refine q.keep a o h fun z => ?_
    obtain ⟨k, xs, e⟩ := hl a z
    rw [h] at e; cases e; rw [hoOf_loose] at hf; cases hf
theorem R.back {Z : List (V × W)} {os os' : List O} {env' : Env} {S' : Fz} {H' : Hp} {N : List (V × W)} (r : R K B S H σ env (Z ++ T)) (h : lend (Z.map (·.2)) env = some os) (hn : (lentAt (Z.map (·.2))).Nodup)
    (g : giveBack (Z.map (·.2)) os' env = some env') (hl : os'.length = os.length) (q : RZ K S H os S' H' (N ++ (Z.map (·.1)).zip (os'.map W.o))) : R K B S' H' σ env' (N ++ T) := by
  obtain ⟨ow, c1, r0⟩ := r.lent h hn
  have hvl : (Z.map (·.1)).length = os'.length := by rw [hl]; exact ow.length
  have hone : ∀ b, cntE b env + (cntT b Z + cntT b T) ≤ 1 := fun b => by rw [← cntT_append]; exact r.one b
  have hlive : ∀ a, 0 < O.cntL a os → ∃ k xs, H a = some (hoOf k xs) := ow.live
  have hap : ∀ a, S a → O.cntL a os = 0 := fun a hs => by
    have h1 := r.apart a hs
    rw [cntT_append] at h1
    have := c1 a; omega
  have k : Kp S S' H H' := RZ.kp q hlive hap r.sH
  have qc : ∀ b, cntT b (N ++ (Z.map (·.1)).zip (os'.map W.o)) = cntT b N + O.cntL b os' := fun b => by rw [cntT_append, cntT_zip b hvl]
  have q1 : ∀ b, cntT b N + O.cntL b os' ≤ 1 := fun b => by
    have h1 : 0 + cntT b (N ++ (Z.map (·.1)).zip (os'.map W.o)) ≤ 1 := q.one b
    rw [qc] at h1; omega
  have q0 : ∀ b, S' b → cntT b N + O.cntL b os' = 0 := fun b hb => by
    have h1 : 0 + cntT b (N ++ (Z.map (·.1)).zip (os'.map W.o)) = 0 := q.apart b hb
    rw [qc] at h1; omega
  have qn : ∀ b, 0 < cntT b N + O.cntL b os' → 0 < O.cntL b os ∨ H b = none := fun b hb => q.new b (by
    show 0 < 0 + _
    rw [qc]; omega)
  have e1 := giveBack_cnt h hn g
  have e2 : ∀ b, inSlots b (Z.map (·.2)) os' ≤ O.cntL b os' := fun b => inSlots_le b
  have e3 := lend_cnt h
  have e4 : ∀ b, inSlots b (Z.map (·.2)) os ≤ cntE b env := lend_slots K S H h hn fun i o e => let ⟨v, _, q⟩ := r.slots i o e; ⟨v, q⟩
  -- what is not lent stays as it was
  have same : ∀ b o, O.cntL b os = 0 → H b = some o → H' b = some o := fun b o hb e => q.keep b o e (by show ¬ 0 < O.cntL b os; omega)
  have frs : ∀ b, H b = none → cntE b env + cntT b Z + cntT b T = 0 := fun b hb => by
    have := r.fresh hb
    rw [cntT_append] at this; omega
  refine ⟨by rw [giveBack_length g]; exact r.len, fun i o' ei => ?_, fun t ht => ?_, fun b => ?_, fun b hb => ?_, q.sH, fun b o h1 h2 => ?_, fun b hb => r.dom b (q.dom b hb), fun b hb => ?_, fun b hb => ?_, fun b hb => q.sub b (r.sub b hb)⟩
  · rcases giveBack_at K S H h hn g (fun i o e => let ⟨v, _, q⟩ := r.slots i o e; ⟨v, q⟩) i o' ei with ⟨a1, a2⟩ | ⟨a0, o, p, a, kd, ke, xs, ys, j, a1, a2, a3, a4, a5, a6⟩
    · obtain ⟨v, ev, qv⟩ := r.slots i o' a1
      refine ⟨v, ev, qv.kp k fun b hb => ?_⟩
      obtain ⟨_, zs, eb⟩ := qv.live b hb
      rw [eb]
      refine same b _ ?_ eb
      -- b's owner is slot i, which is not lent
      have h5 : ∀ {ws : List W} {ps : List O} {env : Env}, lend ws env = some ps → (lentAt ws).Nodup → i ∉ lentAt ws → env[i]? = some (some o') → (∀ (i : Nat) (o : O), env[i]? = some (some o) → ∃ v, OwnR K S H v o) → inSlots b ws ps + o'.cnt b ≤ cntE b env := by
        intro ws ps env hh hnn hi he hR
        have h6 : lend ws (env.set i none) = some ps := by
          rw [lend_at fun j hj => List.getElem?_set_ne fun z => hi (by rw [z]; exact hj)]; exact hh
        have := lend_slots K S H h6 hnn (fun j x ej => by
          by_cases z : i = j
          · subst z
            rw [List.getElem?_set_self (List.getElem?_eq_some_iff.mp he).1] at ej; cases ej
          · rw [List.getElem?_set_ne z] at ej; exact hR j x ej) b
        have := cntE_void he b
        omega
      have := h5 h hn a2 a1 fun i o e => let ⟨v, _, q⟩ := r.slots i o e; ⟨v, q⟩
      have := e3 b; have := hone b
      omega
    · obtain ⟨v, ev, qv⟩ := r.slots i o a1
      have hoc : ∀ b, o.cnt b ≤ cntE b env := fun b => cntE_get a1
      refine ⟨v, ev, ?_⟩
      rw [a3]
      obtain ⟨u, eu, qu⟩ := ow.get a4
      have eu2 : u = .ref a := qu.ref rfl
      have qy : OwnR K S' H' (.ref a) (O.obj a ke ys) := by
        have hm : ((Z.map (·.1))[j]?.getD .non, W.o (O.obj a ke ys)) ∈ (Z.map (·.1)).zip (os'.map W.o) := by
          refine List.mem_of_getElem? (i := j) ?_
          rw [List.getElem?_zip_eq_some]
          rw [eu]
          exact ⟨rfl, by rw [List.getElem?_map, a5]; rfl⟩
        rw [eu] at hm
        have := q.tmps _ (List.mem_append_right _ hm)
        rw [eu2] at this
        exact this
      refine OwnR.putAt (v' := v) k qv a2 (fun b => by have := hone b; have := hoc b; omega) (fun w qw => ?_) fun b hb hz => ?_
      · have : w = .ref a := qw.ref rfl
        rw [this]; exact qy
      · obtain ⟨_, zs, eb⟩ := qv.live b hb
        rw [eb]
        refine same b _ ?_ eb
        have := a6 b; have := e3 b; have := hone b; have := hoc b
        omega
  · have t1 := r.tmps
    rcases List.mem_append.mp ht with ht | ht
    · exact q.tmps t (List.mem_append_left _ ht)
    · refine (r.tmps t (List.mem_append_right _ ht)).kp k fun b hb => ?_
      have h3 : cntW b t.2 ≤ cntT b T := cntT_mem (b := b) ht
      obtain ⟨_, zs, eb⟩ := r.live (a := b) (by rw [cntT_append]; omega)
      rw [eb]
      refine same b _ ?_ eb
      have := hone b; have := c1 b
      omega
  · rw [cntT_append]
    have := e1 b; have := e2 b; have := e3 b; have := e4 b; have := hone b; have := q1 b; have := c1 b
    by_cases z : 0 < cntT b N + O.cntL b os'
    · rcases qn b z with z1 | z1
      · omega
      · have := frs b z1; omega
    · omega
  · rw [cntT_append]
    have := e1 b; have := e2 b; have := e3 b; have := e4 b; have := hone b; have := q0 b hb; have := c1 b
    rcases q.newS b hb with z | z | z
    · have h1 := r.apart b z
      rw [cntT_append] at h1
      omega
    · have z' : 0 < O.cntL b os := z
      omega
    · have := frs b z; omega
  · refine same b o ?_ (r.keep b o h1 h2)
    by_cases z : 0 < O.cntL b os
    · rcases r.new b (by rw [cntT_append]; have := c1 b; omega) with z1 | z1
      · exact absurd z1 h2
      · rw [z1] at h1; cases h1
    · omega
  · rw [cntT_append] at hb
    have := e1 b; have := e2 b; have := e3 b; have := e4 b
    by_cases z : 0 < cntE b env + cntT b (Z ++ T)
    · exact r.new b z
    · rw [cntT_append] at z
      rcases qn b (by omega) with z1 | z1
      · have := c1 b; omega
      · exact .inr (r.dom b z1)
  · rcases q.newS b hb with z | z | z
    · exact r.newS b z
    · exact .inr (r.new b (by rw [cntT_append]; have := c1 b; have z' : 0 < O.cntL b os := z; omega))
    · exact .inr (.inr (r.dom b z))
end
end Vx
namespace Vx
open PySem PySem.Spec L2
abbrev WS := (Exn → Env → Prop) → Env → Kt → Prop
structure EndsR (X : Cx) (B : Bs) (T : List (V × W)) (k : Kt) (D : L2.Ends) : Prop where
  nx : ∀ env σ S H, k.nx env → R X.K B S H σ env T → D.nx σ H
  rt : ∀ x env v σ S H, k.rt x env → R X.K B S H σ env ((v, x) :: T) → D.rt v H
  bk : ∀ env σ S H, k.bk env → R X.K B S H σ env T → D.bk σ H
  ct : ∀ env σ S H, k.ct env → R X.K B S H σ env T → D.ct σ H
def tS (X : Cx) (B : Bs) (Wx : WX) (w : WS) : TS := fun D σ H => ∃ S env T k PX, R X.K B S H σ env T ∧ w PX env k ∧ EndsR X B T k D ∧ Lets X B Wx PX
section
variable {X : Cx} {B : Bs} {Wx : WX} {a b c e : Expr} {wa wb wc we : WT} {pos : Pos} {st : Stmt} {rest : List Stmt} {w u : WS}
abbrev SS (X : Cx) (B : Bs) (Wx : WX) (l : List Stmt) (w : WS) : Prop := PSs X l (tS X B Wx w)
abbrev S1 (X : Cx) (B : Bs) (Wx : WX) (l : Stmt) (w : WS) : Prop := PS X l (tS X B Wx w)
theorem PS_imp {t t' : TS} (h : PS X st t) (f : ∀ D σ H, t' D σ H → t D σ H) : PS X st t' := ⟨fun pins s σ H D I q => h.run pins s σ H D I (f D σ H q)⟩
theorem PSs_imp {t t' : TS} (h : PSs X rest t) (f : ∀ D σ H, t' D σ H → t D σ H) : PSs X rest t' := ⟨fun pins s σ H D I q => h.run pins s σ H D I (f D σ H q)⟩
theorem ss_nil : SS X B Wx [] fun _ env k => k.nx env := PSs_imp pss_nil fun D σ H ⟨S, env, T, k, PX, r, hw, hE, hX⟩ => hE.nx _ _ _ _ hw r
theorem ss_cons (h : S1 X B Wx st w) (h2 : SS X B Wx rest u) : SS X B Wx (st :: rest) fun PX env k => w PX env { k with nx := fun env1 => u PX env1 k } :=
  PSs_imp (pss_cons h h2) fun D σ H ⟨S, env, T, k, PX, r, hw, hE, hX⟩ =>
    ⟨S, env, T, { k with nx := fun env1 => u PX env1 k }, PX, r, hw, ⟨fun env1 σ1 S1 H1 q r1 => ⟨S1, env1, T, k, PX, r1, q, hE, hX⟩, hE.rt, hE.bk, hE.ct⟩, hX⟩
theorem st_expr (he : PE X e (tE X B Wx we)) (hs : swapsWith e none pos.line X.env = pure false) : S1 X B Wx (.Expr e pos) fun PX env k => we PX env fun _ env1 => k.nx env1 :=
  PS_imp (ps_expr he hs) fun D σ H ⟨S, env, T, k, PX, r, hw, hE, hX⟩ => ⟨S, env, T, _, PX, r, hw, fun x env1 v S1 H1 q r1 => hE.nx _ _ _ _ q r1.pop, hX⟩
theorem st_ret (he : PE X e (tE X B Wx we)) : S1 X B Wx (.Return (some e) pos) fun PX env k => we PX env k.rt :=
  PS_imp (ps_ret he) fun D σ H ⟨S, env, T, k, PX, r, hw, hE, hX⟩ => ⟨S, env, T, _, PX, r, hw, fun x env1 v S1 H1 q r1 => hE.rt _ _ _ _ _ _ q r1, hX⟩
theorem R.pushNone {K : PySem.W.Frag} {S : Fz} {H : Hp} {σ : L2.St} {env : Env} {T : List (V × W)} (r : R K B S H σ env T) : R K B S H σ env ((.non, .o (.d .none)) :: T) := r.push .non
theorem st_if {xs ys : List Stmt} {wx wy : WS} (hc : Snd X B Wx c wc) (ha : SS X B Wx xs wx) (hb : SS X B Wx ys wy) : S1 X B Wx (.If c xs ys pos) fun PX env k => wc PX env fun x env1 => tst x fun t => if t = true then wx PX env1 k else wy PX env1 k := by
  refine PS_imp (ps_if hc.pt ha hb) fun D σ H ⟨S, env, T, k, PX, r, hw, hE, hX⟩ => ?_
  refine ⟨S, env, T, fun t env1 => if t = true then wx PX env1 k else wy PX env1 k, PX, r, hw, fun t env1 S1 H1 hq r1 => ?_, hX⟩
  cases t with
  | true => rw [if_pos rfl] at hq ⊢; exact ⟨S1, env1, T, k, PX, r1, hq, hE, hX⟩
  | false =>
    rw [if_neg (by decide)] at hq ⊢
    exact ⟨S1, env1, T, k, PX, r1, hq, hE, hX⟩
theorem asg_ends {t : Tg} {σ : L2.St} {H : Hp} {D : L2.Ends} (h : tS X B Wx (fun PX env k => we PX env fun w env1 => bindT t w env1 k.nx) D σ H) : tAsg (tE X B Wx we) (gT X B t) D σ H := by
  obtain ⟨S, env, T, k, PX, r, hw, hE, hX⟩ := h
  exact ⟨S, env, T, _, PX, r, hw, fun x env1 v S1 H1 q r1 => ⟨S1, env1, T, x, k.nx, r1, q, fun env2 S2 σ2 q2 r2 _ _ => hE.nx _ _ _ _ q2 r2⟩, hX⟩
theorem st_asg {tg : Expr} {t : Tg} (he : PE X e (tE X B Wx we)) (hg : PG X tg (gT X B t)) (hs : swapsWithSole [tg] e pos.line X.env = pure false) (hw : swappedStores [tg] e X.env = pure none)
    (h1 : (assignEach [tg] X.env).map (·.2) = [assign tg X.env]) : S1 X B Wx (.Assign [tg] e pos) fun PX env k => we PX env fun w env1 => bindT t w env1 k.nx :=
  PS_imp (ps_asg he hg hs hw h1) fun D σ H h => asg_ends h
theorem st_for {tg it : Expr} {t : Tg} {wi : WI} {body : List Stmt} {wb : WS} (hp : PassesOwn (model X.prog X.w) X.A X.env X.xe) (hc : X.calm = true) (hi : PI X tg it (tI X B Wx wi)) (hg : PG X tg (gT X B t)) (hb : SS X B Wx body wb)
    (hs : ∀ x, foldedSetIterable it X.env x = pure x) :
    S1 X B Wx (.For tg it body [] pos) fun PX env k => wi PX env fun s env1 => goFor s (fun x env2 K => bindT t (.o (.d x)) env2 fun env3 => wb PX env3 { k with nx := K, ct := K, bk := k.nx }) s.xs env1 k.nx := by
  refine PS_imp (ps_for hp hc hi hg hb hs) fun D σ H ⟨S, env, T, k, PX, r, hw, hE, hX⟩ => ?_
  refine ⟨S, env, T, _, PX, r, hw, fun src env1 S1 H1 J Z hgo r1 G still => ?_, hX⟩
  refine ⟨fun i m σ H => ∃ S env, R X.K B S H σ env (Z ++ T) ∧ m = src.xs.length - i ∧ i ≤ src.xs.length ∧ src.still env ∧
    goFor src (fun x env2 K => bindT t (.o (.d x)) env2 fun env3 => wb PX env3 { k with nx := K, ct := K, bk := k.nx }) (src.xs.drop i) env k.nx, ⟨src.xs.length, S1, env1, r1, by simp, Nat.zero_le _, still, hgo⟩, ?_⟩
  rintro i m σ2 H2 ⟨S2, e2, r2, rfl, hile, st2, hq⟩
  by_cases hlt : i < src.xs.length
  · have hd : src.xs[i]? = some src.xs[i] := List.getElem?_eq_getElem hlt
    rw [List.drop_eq_getElem_cons hlt] at hq
    refine .inr ⟨G.go _ _ _ _ _ i r2 st2 hlt, fun σ' H' => ∃ S env, R X.K B S H' σ' env (Z ++ T) ∧ src.still env ∧
      goFor src (fun x env2 K => bindT t (.o (.d x)) env2 fun env3 => wb PX env3 { k with nx := K, ct := K, bk := k.nx }) (src.xs.drop (i + 1)) env k.nx,
      fun σ' H' ⟨S', env', a1, a2, a3⟩ => ⟨src.xs.length - (i + 1), by omega, S', env', a1, rfl, hlt, a2, a3⟩, fun x H3 hy => ?_⟩
    have r3 := G.yl _ _ _ _ _ i x H3 _ r2 st2 hy hd
    have hq1 : bindT t (.o (.d src.xs[i])) e2 fun env3 => wb PX env3 { k with
        nx := fun e4 => src.still e4 ∧ goFor src (fun x env2 K => bindT t (.o (.d x)) env2 fun env3 => wb PX env3 { k with nx := K, ct := K, bk := k.nx }) (src.xs.drop (i + 1)) e4 k.nx,
        ct := fun e4 => src.still e4 ∧ goFor src (fun x env2 K => bindT t (.o (.d x)) env2 fun env3 => wb PX env3 { k with nx := K, ct := K, bk := k.nx }) (src.xs.drop (i + 1)) e4 k.nx, bk := k.nx } := hq
    refine ⟨S2, e2, Z ++ T, _, _, r3, hq1, fun e3 S3 σ3 h3 r4 _ _ => ?_⟩
    refine ⟨S3, e3, Z ++ T, _, PX, r4, h3, ⟨fun e4 σ4 S4 H4 q r5 => ⟨S4, e4, r5, q.1, q.2⟩, fun x e4 v σ4 S4 H4 q r5 => ?_, fun e4 σ4 S4 H4 q r5 => hE.nx _ _ _ _ q r5.pops, fun e4 σ4 S4 H4 q r5 => ⟨S4, e4, r5, q.1, q.2⟩⟩, hX⟩
    refine hE.rt _ _ _ _ _ _ q (r5.perm (fun t ht => ?_) fun b => ?_)
    · rcases List.mem_cons.mp ht with e | ht
      · rw [e]; exact List.mem_cons_self
      · exact List.mem_cons_of_mem _ (List.mem_append_right _ ht)
    · show _ + cntT b T ≤ _ + cntT b (Z ++ T)
      rw [cntT_append]; omega
  · refine .inl ⟨G.st _ _ _ _ _ i r2 st2 (by omega), ?_⟩
    rw [List.drop_eq_nil_of_le (by omega)] at hq
    exact hE.nx _ _ _ _ hq r2.pops
end
structure FnV (P : Program) (w : World) (K : PySem.W.Frag) (mg : Str → Option Value) (base : Heap) (k : Nat) (f : Addr) (fd : FuncData) (ps : List Str) (sp : Sp) : Prop where
  len : ∀ vs H Q E, sp vs H Q E → vs.length = ps.length
  run : ∀ (A : Around) (outer : List PySem.Env) (s : Shared) (H : Hp) (g : Args) (us : List Value) (vs : List V) (Q : VK) (E : XK), Room k A → A.guards = some [] → Env0 P w K mg base A outer s H → BindsTo s fd g (ps.zip us) → Vals vs us → sp vs H Q E →
    codeAny (model P w) A (.call (.ref f) g) (CR (L2N.CX P w) outer P w H s Q E) s
theorem FnV.mono {P : Program} {w : World} {K : PySem.W.Frag} {mg : Str → Option Value} {base : Heap} {j k : Nat} {f : Addr} {fd : FuncData} {ps : List Str} {sp : Sp} (F : FnV P w K mg base j f fd ps sp) (h : j ≤ k) : FnV P w K mg base k f fd ps sp :=
  ⟨F.len, fun A outer s H g us vs Q E hr => F.run A outer s H g us vs Q E (hr.mono h)⟩
open PyProof.Rows in
theorem fnV_of {P : Program} {w : World} {K : PySem.W.Frag} {mg : Str → Option Value} {base : Heap} {k : Nat} {f : Addr} {name qual : Str} {params : Arguments} {body : List Stmt} {scope : Scope} {dV kV doc pm cdv ct oc : Value} {an od : Option Addr}
    {osl : Array (Option Value)} {N ps : List Str} {sp : Sp} (lk : K.lookup f = some ⟨oc, od, .func (PySem.W.fnOf name qual params body scope dV kV doc pm an cdv ct), osl⟩) (hcd : PySem.W.codeIn K cdv qual = true) (sc : FnScope N ps scope)
    (len : ∀ vs H Q E, sp vs H Q E → vs.length = ps.length)
    (hb : ∀ (A : Around) (outer : List PySem.Env) (s : Shared) (H : Hp) (vs : List V) (Q : VK) (E : XK), Room k (A.deeper (envOfC qual scope s.heap.objs.size f cdv)) → A.guards = some [] → sp vs H Q E →
      ∃ t, PSs (cxOf (L2N.CX P w) P w K mg base N qual scope f cdv A outer s H E) body t ∧ t { nx := fun _ H1 => Q .non H1, rt := Q } (L2.start N vs) H) :
    FnV P w K mg base (k + 1) f (PySem.W.fnOf name qual params body scope dV kV doc pm an cdv ct) ps sp := by
  refine ⟨len, fun A outer s H g us vs Q E hr hg e0 bnd rv q => ?_⟩
  have vl := len _ _ _ _ q
  have inK : K.In s.heap := e0.mod.kin.keeps fun b o z => (e0.bs b o z).1
  have far : s.heap.NoLimit := e0.mod.nolimit.keeps fun b o z => (e0.bs b o z).1
  have kinds : ∀ y ∈ ps.zip us, scope.names.lookup y.1 = some .local ∨ (scope.names.lookup y.1 = some .cell ∧ ((cellsFrom (s.heap.objs.size + 1) scope.names []).lookup y.1).isSome = true) := by
    intro y hy
    obtain ⟨n, u⟩ := y
    have hn : n ∈ ps := (List.of_mem_zip hy).1
    exact (sc.par n hn).imp id fun z => ⟨z, PySem.W.cellsFrom_some _ _ _ (.inl z)⟩
  refine codeAny_call_function hr.depth (inK _ _ lk) rfl sc.co sc.gen rfl (PySem.W.codeRec_of inK hcd) (bnd _ _ _ _ ?_)
  refine wpAny_newFunctionEnv_cells sc.kind kinds fun en he s1 ic => ?_
  cases he
  refine ⟨far.keeps ic.toInCall.keep, codeAny_func ?_⟩
  obtain ⟨t, ht, h2⟩ := hb A outer s H vs Q E (hr.deeper _) hg q
  have J : L2.Inv (cxOf (L2N.CX P w) P w K mg base N qual scope f cdv A outer s H E) [] (L2.start N vs) H s1 := inv_start sc hr.hd e0 vl rv ic
  refine wpAny_mono (ht.run [] s1 _ H _ J h2) (fun r s2 z => ?_) fun _ _ z => z
  cases r with
  | brk => obtain ⟨_, _, _, z⟩ := z; exact z.elim
  | cont => obtain ⟨_, _, _, z⟩ := z; exact z.elim
  | next =>
    obtain ⟨σ2, H2, J2, z⟩ := z
    exact ⟨.non, H2, J2.os, J2.bare, J2.base, J2.hok, rfl, z⟩
  | ret u =>
    obtain ⟨v, σ2, H2, J2, ru, z⟩ := z
    exact ⟨v, H2, J2.os, J2.bare, J2.base, J2.hok, ru, z⟩
end Vx
namespace Vx
open PySem PySem.Spec L2
def spV (K : PySem.W.Frag) (mg : Str → Option Value) (n : Nat) (F : FSem) : Sp := fun vs H Q E => ∃ S os P PX, vs.length = n ∧ os.length = n ∧ os.all notTup = true ∧ RZ K S H os S H (vs.zip (os.map W.o)) ∧ OwnA K S H vs os ∧ F os P PX ∧
  (∀ r os' v S' H', P r os' → os'.length = os.length → RZ K S H os S' H' ((v, .o r) :: vs.zip (os'.map W.o)) → Q v H') ∧
  (∀ ex os' cls d S' H', PX ex os' → os'.length = os.length → RZ K S H os S' H' (vs.zip (os'.map W.o)) → ExR K mg S' H' ex cls d → E cls d H')
def ar (n : Nat) (F : FSem) : FSem := fun os P PX => os.length = n ∧ F os P PX
section
variable {K : PySem.W.Frag} {B : Bs} {S S' : Fz} {H H' : Hp} {σ : L2.St} {env : Env} {T N : List (V × W)}
theorem R.kpB {os : List O} (q : R K (ownB S H os) S' H' σ env N) (hl : ∀ a, 0 < O.cntL a os → ∃ k xs, H a = some (hoOf k xs)) (hS : ∀ a, S a → O.cntL a os = 0) (sH : ∀ a, S a → H a ≠ none) : Kp S S' H H' := by
  refine ⟨fun a h => q.sub a h, fun a h => ?_, fun a o h hf => ?_⟩
  · cases e : H a with
    | none => exact absurd e (sH a h)
    | some o => exact q.keep a o e (by show ¬ 0 < O.cntL a os; have := hS a h; omega)
  · refine q.keep a o h fun z => ?_
    obtain ⟨k, xs, e⟩ := hl a z
    rw [h] at e; cases e; rw [hoOf_loose] at hf; cases hf
theorem R.enter {vs : List V} {os : List O} {NN : List Str} {n : Nat} (q : RZ K S H os S H (vs.zip (os.map W.o))) (ow : OwnA K S H vs os) (hn : n = NN.length) (hle : vs.length ≤ n) : R K (ownB S H os) S H (L2.start NN vs) (start n os) [] := by
  have hl := ow.length
  have hz : ∀ b, cntT b (vs.zip (os.map W.o)) = O.cntL b os := fun b => cntT_zip b hl
  have hm : ∀ (xs : List O) b, cntE b (xs.map some) = O.cntL b xs := by
    intro xs b
    induction xs with
    | nil => rfl
    | cons x xs ih => show x.cnt b + cntE b (xs.map some) = x.cnt b + O.cntL b xs; rw [ih]
  have hr : ∀ (m : Nat) b, cntE b (List.replicate m none) = 0 := by
    intro m b
    induction m with
    | zero => rfl
    | succ m ih => show 0 + cntE b (List.replicate m none) = 0; rw [ih]
  have ha : ∀ (xs ys : Env) b, cntE b (xs ++ ys) = cntE b xs + cntE b ys := by
    intro xs ys b
    induction xs with
    | nil => show cntE b ys = 0 + cntE b ys; omega
    | cons x xs ih => show cntO b x + cntE b (xs ++ ys) = cntO b x + cntE b xs + cntE b ys; rw [ih]; omega
  have hc : ∀ b, cntE b (start n os) = O.cntL b os := fun b => by unfold start; rw [ha, hm, hr]; rfl
  refine ⟨?_, fun i o e => ?_, (fun t ht => nomatch ht), fun b => ?_, fun b hb => ?_, q.sH, fun b o h1 _ => h1, fun b hb => hb, fun b hb => ?_, fun b hb => .inl hb, fun b hb => hb⟩
  · unfold start L2.start
    rw [List.length_append, List.length_append, List.length_map, List.length_map, List.length_replicate, List.length_replicate]
    omega
  · unfold start at e
    have hi : i < os.length := by
      by_cases hi : i < os.length
      · exact hi
      · rw [List.getElem?_append_right (by simpa using hi), List.getElem?_replicate] at e
        split at e <;> cases e
    rw [List.getElem?_append_left (by simpa using hi), List.getElem?_map] at e
    cases e2 : os[i]? with
    | none => rw [e2] at e; cases e
    | some o2 =>
      rw [e2] at e; cases e
      obtain ⟨v, e3, r⟩ := ow.get e2
      refine ⟨v, ?_, r⟩
      unfold L2.start
      rw [List.getElem?_append_left (by simpa [hl] using hi), List.getElem?_map, e3]
      rfl
  · rw [hc]
    have := q.one b
    have h1 : 0 + cntT b (vs.zip (os.map W.o)) ≤ 1 := this
    rw [hz] at h1
    show _ + 0 ≤ 1
    omega
  · rw [hc]
    have h1 : 0 + cntT b (vs.zip (os.map W.o)) = 0 := q.apart b hb
    rw [hz] at h1
    show _ + 0 = 0
    omega
  · rw [hc] at hb
    exact .inl (by show 0 < O.cntL b os; have hb' : 0 < O.cntL b os + 0 := hb; omega)
theorem backs_cnt : ∀ {os os' : List O} {i : Nat} {env : Env}, backs i os env = some os' → os.all notTup = true → ∀ b, O.cntL b os' ≤ cntE b (env.drop i)
  | [], os', i, env, h, _, b => by cases h; exact Nat.zero_le _
  | .obj a kd xs :: r, os', i, env, h, hn, b => by
    unfold backs at h
    cases e : env[i]? with
    | none => simp only [e] at h; cases h
    | some x =>
      simp only [e] at h
      cases x with
      | none => cases h
      | some o =>
        cases o with
        | d _ => cases h
        | tup _ => cases h
        | obj c ke ys =>
          have h : (if c = a then (backs (i + 1) r env).map (O.obj c ke ys :: ·) else none) = some os' := h
          by_cases q : c = a
          · rw [if_pos q] at h
            cases e2 : backs (i + 1) r env with
            | none => rw [e2] at h; cases h
            | some os1 =>
              rw [e2] at h; cases h
              have ih := backs_cnt (os := r) e2 hn b
              obtain ⟨hi, e3⟩ := List.getElem?_eq_some_iff.mp e
              rw [List.drop_eq_getElem_cons hi, e3]
              show (O.obj c ke ys).cnt b + O.cntL b os1 ≤ (O.obj c ke ys).cnt b + cntE b (env.drop (i + 1))
              omega
          · rw [if_neg q] at h; cases h
  | .d x :: r, os', i, env, h, hn, b => by
    have h : (backs (i + 1) r env).map (O.d x :: ·) = some os' := h
    cases e2 : backs (i + 1) r env with
    | none => rw [e2] at h; cases h
    | some os1 =>
      rw [e2] at h; cases h
      have ih := backs_cnt (os := r) e2 hn b
      have mono : cntE b (env.drop (i + 1)) ≤ cntE b (env.drop i) := by
        by_cases hi : i < env.length
        · rw [List.drop_eq_getElem_cons hi]
          show _ ≤ cntO b env[i] + _
          omega
        · rw [List.drop_eq_nil_of_le (by omega)]; exact Nat.zero_le _
      show 0 + O.cntL b os1 ≤ _
      omega
  | .tup xs :: r, os', i, env, h, hn, b => by
    have : (notTup (.tup xs) && r.all notTup) = true := hn
    cases this
theorem backs_at : ∀ {os os' : List O} {i : Nat} {env : Env}, backs i os env = some os' → os.all notTup = true → os'.length = os.length ∧ ∀ j o', os'[j]? = some o' → (∃ x, o' = .d x ∧ os[j]? = some (.d x)) ∨ (∃ a kd ke xs ys, o' = .obj a ke ys ∧ os[j]? = some (.obj a kd xs) ∧ env[i + j]? = some (some (.obj a ke ys)))
  | [], os', i, env, h, _ => by cases h; exact ⟨rfl, fun j o' e => nomatch e⟩
  | .obj a kd xs :: r, os', i, env, h, hn => by
    unfold backs at h
    cases e : env[i]? with
    | none => simp only [e] at h; cases h
    | some x =>
      simp only [e] at h
      cases x with
      | none => cases h
      | some o =>
        cases o with
        | d _ => cases h
        | tup _ => cases h
        | obj c ke ys =>
          have h : (if c = a then (backs (i + 1) r env).map (O.obj c ke ys :: ·) else none) = some os' := h
          by_cases q : c = a
          · subst q
            rw [if_pos rfl] at h
            cases e2 : backs (i + 1) r env with
            | none => rw [e2] at h; cases h
            | some os1 =>
              rw [e2] at h; cases h
              obtain ⟨h1, h2⟩ := backs_at (os := r) e2 hn
              refine ⟨congrArg (· + 1) h1, fun j o' ej => ?_⟩
              cases j with
              | zero => cases ej; exact .inr ⟨c, kd, ke, xs, ys, rfl, rfl, e⟩
              | succ j =>
                rcases h2 j o' (by simpa using ej) with ⟨x, b1, b2⟩ | ⟨a', kd', ke', xs', ys', b1, b2, b3⟩
                · exact .inl ⟨x, b1, by simpa using b2⟩
                · exact .inr ⟨a', kd', ke', xs', ys', b1, by simpa using b2, by rw [show i + (j + 1) = i + 1 + j by omega]; exact b3⟩
          · rw [if_neg q] at h; cases h
  | .d x :: r, os', i, env, h, hn => by
    have h : (backs (i + 1) r env).map (O.d x :: ·) = some os' := h
    cases e2 : backs (i + 1) r env with
    | none => rw [e2] at h; cases h
    | some os1 =>
      rw [e2] at h; cases h
      obtain ⟨h1, h2⟩ := backs_at (os := r) e2 hn
      refine ⟨congrArg (· + 1) h1, fun j o' ej => ?_⟩
      cases j with
      | zero => cases ej; exact .inl ⟨x, rfl, rfl⟩
      | succ j =>
        rcases h2 j o' (by simpa using ej) with ⟨x, b1, b2⟩ | ⟨a', kd', ke', xs', ys', b1, b2, b3⟩
        · exact .inl ⟨x, b1, by simpa using b2⟩
        · exact .inr ⟨a', kd', ke', xs', ys', b1, by simpa using b2, by rw [show i + (j + 1) = i + 1 + j by omega]; exact b3⟩
  | .tup xs :: r, os', i, env, h, hn => by
    have : (notTup (.tup xs) && r.all notTup) = true := hn
    cases this
theorem R.exit {vs : List V} {os os' : List O} (ow : OwnA K S H vs os) (hS : ∀ a, S a → O.cntL a os = 0) (sH : ∀ a, S a → H a ≠ none) (hn : os.all notTup = true) (r : R K (ownB S H os) S' H' σ env N) (hb : backs 0 os env = some os') :
    os'.length = os.length ∧ RZ K S H os S' H' (N ++ vs.zip (os'.map W.o)) := by
  have k := r.kpB ow.live hS sH
  obtain ⟨hl, hat⟩ := backs_at hb hn
  have hvl : vs.length = os'.length := ow.length.trans hl.symm
  have hc : ∀ b, cntT b (N ++ vs.zip (os'.map W.o)) ≤ cntT b N + cntE b env := fun b => by
    rw [cntT_append, cntT_zip b hvl]
    have := backs_cnt hb hn b
    rw [List.drop_zero] at this
    omega
  refine ⟨hl, rfl, (fun i o e => nomatch e), fun t ht => ?_, fun b => ?_, fun b hb => ?_, r.sH, r.keep, r.dom, fun b hb => ?_, r.newS, r.sub⟩
  · rcases List.mem_append.mp ht with ht | ht
    · exact r.tmps t ht
    · obtain ⟨j, hj⟩ := List.mem_iff_getElem?.mp ht
      rw [List.getElem?_zip_eq_some] at hj
      obtain ⟨j1, j2⟩ := hj
      rw [List.getElem?_map] at j2
      cases e : os'[j]? with
      | none => rw [e] at j2; cases j2
      | some o' =>
        rw [e] at j2
        have j3 : W.o o' = t.2 := Option.some.inj j2
        obtain ⟨v, w⟩ := t
        have j3 : W.o o' = w := j3
        subst j3
        show OwnR K S' H' v o'
        rcases hat j o' e with ⟨x, rfl, e1⟩ | ⟨a, kd, ke, xs, ys, rfl, e1, e2⟩
        · obtain ⟨u, eu, q⟩ := ow.get e1
          rw [j1] at eu; cases eu
          cases q with
          | d q => exact .d (q.kp k)
        · obtain ⟨u, eu, q⟩ := ow.get e1
          rw [j1] at eu; cases eu
          have ev : v = .ref a := q.ref rfl
          rw [Nat.zero_add] at e2
          obtain ⟨u2, _, q2⟩ := r.slots j _ e2
          have eu2 : u2 = .ref a := q2.ref rfl
          rw [ev, ← eu2]; exact q2
  · show 0 + _ ≤ 1
    have := hc b; have := r.one b; omega
  · show 0 + _ = 0
    have := hc b; have := r.apart b hb; omega
  · have hb' : 0 < 0 + cntT b (N ++ vs.zip (os'.map W.o)) := hb
    exact r.new b (by have := hc b; omega)
theorem R.takeOut {v : V} {a : Addr} {kd : Kd} {i : Nat} {xs : List O} (r : R K B S H σ env ((v, .al a i []) :: T)) (e : env[i]? = some (some (.obj a kd xs))) : R K B S H (σ.set i none) (env.set i none) ((v, .o (.obj a kd xs)) :: T) := by
  have hv := cntE_void e
  have ev : v = .ref a := r.tmps (v, .al a i []) List.mem_cons_self
  obtain ⟨u, eu, q⟩ := r.slots i _ e
  have eu2 : u = .ref a := q.ref rfl
  have hi := (List.getElem?_eq_some_iff.mp e).1
  refine ⟨by rw [List.length_set, List.length_set]; exact r.len, fun j o ej => ?_, fun t ht => ?_, fun b => ?_, fun b hb => ?_, r.sH, r.keep, r.dom, fun b hb => ?_, r.newS, r.sub⟩
  · by_cases z : i = j
    · subst z; rw [List.getElem?_set_self hi] at ej; cases ej
    · rw [List.getElem?_set_ne z] at ej
      obtain ⟨w, h1, h2⟩ := r.slots j o ej
      exact ⟨w, by rw [List.getElem?_set_ne z]; exact h1, h2⟩
  · rcases List.mem_cons.mp ht with h | h
    · subst h
      show OwnR K S H v _
      rw [ev, ← eu2]; exact q
    · exact r.tmps t (List.mem_cons_of_mem _ h)
  · have h1 : cntE b env + (0 + cntT b T) ≤ 1 := r.one b
    have := hv b
    show _ + ((O.obj a kd xs).cnt b + cntT b T) ≤ 1
    omega
  · have h1 : cntE b env + (0 + cntT b T) = 0 := r.apart b hb
    have := hv b
    show _ + ((O.obj a kd xs).cnt b + cntT b T) = 0
    omega
  · have hb' : 0 < cntE b (env.set i none) + ((O.obj a kd xs).cnt b + cntT b T) := hb
    refine r.new b ?_
    show 0 < cntE b env + (0 + cntT b T)
    have := hv b
    omega
end
def backsW : Nat → List O → Env → (List O → Prop) → Prop
  | _, [], _, Q => Q []
  | i, .obj a kd xs :: r, env, Q => match env[i]? with
    | some (some (.obj b ke ys)) => b = a ∧ backsW (i + 1) r env fun os => Q (.obj b ke ys :: os)
    | _ => False
  | i, o :: r, env, Q => backsW (i + 1) r env fun os => Q (o :: os)
def lendW : List W → Env → (List O → Prop) → Prop
  | [], _, Q => Q []
  | .o x :: r, env, Q => notTup x = true ∧ lendW r env fun os => Q (x :: os)
  | .al a i p :: r, env, Q => match envAt env i p with
    | some (.obj b kd xs) => b = a ∧ lendW r env fun os => Q (.obj b kd xs :: os)
    | _ => False
def giveBackW : List W → List O → Env → (Env → Prop) → Prop
  | [], _, env, Q => Q env
  | .o _ :: r, _ :: os, env, Q => giveBackW r os env Q
  | .al a i p :: r, .obj b kd xs :: os, env, Q => b = a ∧ giveBackW r os (envPut env i p (.obj b kd xs)) Q
  | _, _, _, _ => False
def callV (F : FSem) (ws : List W) (env : Env) (Q : W → Env → Prop) (X : Exn → Env → Prop) : Prop :=
  lendW ws env fun os => decide (lentAt ws).Nodup = true ∧ F os (fun r os' => giveBackW ws os' env fun env' => Q (.o r) env') (fun ex os' => giveBackW ws os' env fun env' => X ex env')
theorem onSome_map {α β : Type} {o : Option α} {f : α → β} {Q : β → Prop} (h : onSome o fun x => Q (f x)) : onSome (o.map f) Q := by
  cases o with
  | none => exact h.elim
  | some x => exact h
theorem backs_of : ∀ {os : List O} {i : Nat} {env : Env} {Q : List O → Prop}, backsW i os env Q → onSome (backs i os env) Q
  | [], i, env, Q, h => h
  | .obj a kd xs :: r, i, env, Q, h => by
    unfold backsW at h
    unfold backs
    cases e : env[i]? with
    | none => simp only [e] at h
    | some x =>
      simp only [e] at h ⊢
      cases x with
      | none => exact h.elim
      | some o =>
        cases o with
        | d _ => exact h.elim
        | tup _ => exact h.elim
        | obj b ke ys =>
          obtain ⟨h1, h2⟩ := h
          subst h1
          show onSome (if b = b then (backs (i + 1) r env).map (O.obj b ke ys :: ·) else none) Q
          rw [if_pos rfl]
          exact onSome_map (backs_of h2)
  | .d x :: r, i, env, Q, h => onSome_map (f := (O.d x :: ·)) (backs_of (os := r) h)
  | .tup x :: r, i, env, Q, h => onSome_map (f := (O.tup x :: ·)) (backs_of (os := r) h)
theorem lend_of : ∀ {ws : List W} {env : Env} {Q : List O → Prop}, lendW ws env Q → onSome (lend ws env) Q
  | [], env, Q, h => h
  | .o x :: r, env, Q, h => by
    have h : notTup x = true ∧ lendW r env fun os => Q (x :: os) := h
    unfold lend
    rw [if_pos h.1]
    exact onSome_map (lend_of h.2)
  | .al a i p :: r, env, Q, h => by
    unfold lendW at h
    unfold lend
    cases e : envAt env i p with
    | none => simp only [e] at h
    | some o =>
      simp only [e] at h ⊢
      cases o with
      | d _ => exact h.elim
      | tup _ => exact h.elim
      | obj b kd xs =>
        obtain ⟨h1, h2⟩ := h
        subst h1
        show onSome (if b = b then (lend r env).map (O.obj b kd xs :: ·) else none) Q
        rw [if_pos rfl]
        exact onSome_map (lend_of h2)
theorem giveBack_of : ∀ {ws : List W} {os : List O} {env : Env} {Q : Env → Prop}, giveBackW ws os env Q → onSome (giveBack ws os env) Q
  | [], os, env, Q, h => h
  | .o _ :: r, [], env, Q, h => h.elim
  | .o _ :: r, _ :: os, env, Q, h => giveBack_of (ws := r) h
  | .al a i p :: r, [], env, Q, h => h.elim
  | .al a i p :: r, .d _ :: os, env, Q, h => h.elim
  | .al a i p :: r, .tup _ :: os, env, Q, h => h.elim
  | .al a i p :: r, .obj b kd xs :: os, env, Q, h => by
    obtain ⟨h1, h2⟩ := h
    subst h1
    unfold giveBack
    rw [if_pos rfl]
    exact giveBack_of h2
def semW (w : WS) (n : Nat) : FSem := fun os P PX => w (fun ex env => backsW 0 os env fun os' => PX ex os') (start n os)
    { nx := fun env => backsW 0 os env fun os' => P (.d .none) os'
      rt := fun x env => retW os x env fun r env' => backsW 0 os env' fun os' => P r os'
      bk := fun _ => False
      ct := fun _ => False }
def tS0 (X : Cx) (B : Bs) (Wx : WX) (w : WS) : TS := fun D σ H => ∃ S env k PX, R X.K B S H σ env [] ∧ w PX env k ∧ EndsR X B [] k D ∧ Lets X B Wx PX
abbrev SS0 (X : Cx) (B : Bs) (Wx : WX) (l : List Stmt) (w : WS) : Prop := PSs X l (tS0 X B Wx w)
section
variable {X : Cx} {B : Bs} {Wx : WX} {st : Stmt} {rest : List Stmt} {w u : WS}
theorem ss0_of (h : SS X B Wx rest w) : SS0 X B Wx rest w := PSs_imp h fun D σ H ⟨S, env, k, PX, r, hw, hE, hX⟩ => ⟨S, env, [], k, PX, r, hw, hE, hX⟩
end
section
open PyProof.Rows
theorem sem_body {X : Cx} {N : List Str} {n : Nat} {wb : WS} {F : FSem} {vs : List V} {H : Hp} {Q : VK} {E : XK} {S : Fz} {os : List O} {PP : O → List O → Prop} {PX : Exn → List O → Prop} (hn : N.length = n) (hle : vs.length ≤ n) (imp : ∀ os Q E, F os Q E → semW wb n os Q E)
    (hnt : os.all notTup = true) (rz : RZ X.K S H os S H (vs.zip (os.map W.o))) (ow : OwnA X.K S H vs os) (hF : F os PP PX)
    (hP : ∀ r os' v S' H', PP r os' → os'.length = os.length → RZ X.K S H os S' H' ((v, .o r) :: vs.zip (os'.map W.o)) → Q v H')
    (hE : ∀ ex os' cls d S' H', PX ex os' → os'.length = os.length → RZ X.K S H os S' H' (vs.zip (os'.map W.o)) → ExR X.K X.mg S' H' ex cls d → E cls d H') :
    tS0 X (ownB S H os) (fun cls d _ H1 => E cls d H1) wb { nx := fun _ H1 => Q .non H1, rt := Q } (L2.start N vs) H := by
  have r0 : R X.K (ownB S H os) S H (L2.start N vs) (start n os) [] := R.enter rz ow hn.symm hle
  have hS : ∀ a, S a → O.cntL a os = 0 := fun a h => by
    have h1 : 0 + cntT a (vs.zip (os.map W.o)) = 0 := rz.apart a h
    rw [cntT_zip a ow.length] at h1; omega
  have sH := rz.sH
  refine ⟨S, start n os, _, _, r0, imp _ _ _ hF, ⟨fun env σ S1 H1 q r1 => ?_, fun x env v σ S1 H1 q r1 => ?_, fun _ _ _ _ q _ => q.elim, fun _ _ _ _ q _ => q.elim⟩, fun ex env S1 H1 σ cls d q r1 hx => ?_⟩
  · obtain ⟨os', hbk, q⟩ := onSome_some (backs_of q)
    obtain ⟨hl, z⟩ := R.exit ow hS sH hnt r1.pushNone hbk
    exact hP _ _ _ _ _ q hl z
  · have fin : ∀ {r : O} {env' : Env} {σ' : L2.St} {S2 : Fz}, (backsW 0 os env' fun os' => PP r os') → R X.K (ownB S H os) S2 H1 σ' env' [(v, .o r)] → Q v H1 := by
      intro r env' σ' S2 q r2
      obtain ⟨os', hbk, q⟩ := onSome_some (backs_of q)
      obtain ⟨hl, z⟩ := R.exit ow hS sH hnt r2 hbk
      exact hP _ _ _ _ _ q hl z
    have r1 : R X.K (ownB S H os) S1 H1 σ env [(v, x)] := r1
    cases x with
    | o x => exact fin q r1
    | al a i p =>
      have esc : (escW (.al a i p) env fun x env' => backsW 0 os env' fun os' => PP (.d x) os') → Q v H1 := fun q => by
        obtain ⟨y, env', S2, q, r2⟩ := r1.esc q
        exact fin q r2
      cases p with
      | cons _ _ => exact esc q
      | nil =>
        have hne : (∀ b ke ys, os[i]? ≠ some (.obj b ke ys)) → Q v H1 := by
          intro hno
          have q2 : match env[i]? with
            | some (some (.obj b kd xs)) => b = a ∧ backsW 0 os (env.set i none) fun os' => PP (.obj b kd xs) os'
            | _ => False := by
            have q' : match os[i]? with
              | some (.obj _ _ _) => escW (.al a i []) env fun x env' => backsW 0 os env' fun os' => PP (.d x) os'
              | _ => match env[i]? with
                | some (some (.obj b kd xs)) => b = a ∧ backsW 0 os (env.set i none) fun os' => PP (.obj b kd xs) os'
                | _ => False := q
            cases e : os[i]? with
            | none => simp only [e] at q'; exact q'
            | some o =>
              cases o with
              | obj b ke ys => exact absurd e (hno b ke ys)
              | d _ => simp only [e] at q'; exact q'
              | tup _ => simp only [e] at q'; exact q'
          cases e : env[i]? with
          | none => simp only [e] at q2
          | some o =>
            simp only [e] at q2
            cases o with
            | none => exact q2.elim
            | some o =>
              cases o with
              | d _ => exact q2.elim
              | tup _ => exact q2.elim
              | obj b kd xs =>
                obtain ⟨hb, q2⟩ := q2
                subst hb
                exact fin q2 (r1.takeOut e)
        cases e : os[i]? with
        | none => exact hne fun b ke ys z => by rw [e] at z; cases z
        | some o =>
          cases o with
          | d _ => exact hne fun b ke ys z => by rw [e] at z; cases z
          | tup _ => exact hne fun b ke ys z => by rw [e] at z; cases z
          | obj b ke ys =>
            have q' : match os[i]? with
              | some (.obj _ _ _) => escW (.al a i []) env fun x env' => backsW 0 os env' fun os' => PP (.d x) os'
              | _ => match env[i]? with
                | some (some (.obj b kd xs)) => b = a ∧ backsW 0 os (env.set i none) fun os' => PP (.obj b kd xs) os'
                | _ => False := q
            simp only [e] at q'
            exact esc q'
  · obtain ⟨os', hbk, q⟩ := onSome_some (backs_of q)
    obtain ⟨hl, z⟩ := R.exit ow hS sH hnt r1 hbk
    exact hE _ _ _ _ _ _ q hl z hx
theorem fnV_sem0 {P : Program} {w : World} {K : PySem.W.Frag} {mg : Str → Option Value} {base : Heap} {k np n : Nat} {f : Addr} {name qual : Str} {params : Arguments} {body : List Stmt} {scope : Scope} {dV kV doc pm cdv ct oc : Value} {an od : Option Addr}
    {osl : Array (Option Value)} {N ps : List Str} {wb : WS} {F : FSem} (lk : K.lookup f = some ⟨oc, od, .func (PySem.W.fnOf name qual params body scope dV kV doc pm an cdv ct), osl⟩) (hcd : PySem.W.codeIn K cdv qual = true) (sc : FnScope N ps scope)
    (hnp : ps.length = np) (hn : N.length = n) (hle : np ≤ n) (imp : ∀ os Q E, F os Q E → semW wb n os Q E)
    (hb : ∀ (A : Around) (outer : List PySem.Env) (s : Shared) (H : Hp) (E : XK) (B : Bs), Room k (A.deeper (envOfC qual scope s.heap.objs.size f cdv)) → A.guards = some [] →
      SS0 (cxOf (L2N.CX P w) P w K mg base N qual scope f cdv A outer s H E) B (fun cls d _ H1 => E cls d H1) body wb) :
    FnV P w K mg base (k + 1) f (PySem.W.fnOf name qual params body scope dV kV doc pm an cdv ct) ps (spV K mg np F) := by
  refine fnV_of lk hcd sc (fun vs H Q E ⟨_, _, _, _, h, _⟩ => by rw [h, hnp]) fun A outer s H vs Q E hr hg ⟨S, os, PP, PX, hv, ho, hnt, rz, ow, hF, hP, hE⟩ => ?_
  exact ⟨_, hb A outer s H E (ownB S H os) hr hg, sem_body hn (by rw [hv]; exact hle) imp hnt rz ow hF hP hE⟩
theorem fnV_sem {P : Program} {w : World} {K : PySem.W.Frag} {mg : Str → Option Value} {base : Heap} {k np n : Nat} {f : Addr} {name qual : Str} {params : Arguments} {body : List Stmt} {scope : Scope} {dV kV doc pm cdv ct oc : Value} {an od : Option Addr}
    {osl : Array (Option Value)} {N ps : List Str} {wb : WS} {F : FSem} (lk : K.lookup f = some ⟨oc, od, .func (PySem.W.fnOf name qual params body scope dV kV doc pm an cdv ct), osl⟩) (hcd : PySem.W.codeIn K cdv qual = true) (sc : FnScope N ps scope)
    (hnp : ps.length = np) (hn : N.length = n) (hle : np ≤ n) (imp : ∀ os Q E, F os Q E → semW wb n os Q E)
    (hb : ∀ (A : Around) (outer : List PySem.Env) (s : Shared) (H : Hp) (E : XK) (B : Bs), Room k (A.deeper (envOfC qual scope s.heap.objs.size f cdv)) → A.guards = some [] →
      SS (cxOf (L2N.CX P w) P w K mg base N qual scope f cdv A outer s H E) B (fun cls d _ H1 => E cls d H1) body wb) :
    FnV P w K mg base (k + 1) f (PySem.W.fnOf name qual params body scope dV kV doc pm an cdv ct) ps (spV K mg np F) :=
  fnV_sem0 lk hcd sc hnp hn hle imp fun A outer s H E B hr hg => ss0_of (hb A outer s H E B hr hg)
variable {X : Cx} {B : Bs} {Wx : WX}
theorem s_call {k n : Nat} {f : Addr} {fd : FuncData} {ps : List Str} {F : FSem} {x : Str} {p pos : Pos} {e : Expr} {es : List Expr} {wa : WA} (Fn : FnV X.prog X.w X.K X.mg X.base k f fd ps (spV X.K X.mg n F)) (hr : Room k X.A) (hgd : X.A.guards = some [])
    (tk : L2N.Takes X Wx) (hg : Gl X x) (hm : X.mg x = some (.ref f)) (hk : PySem.W.keepIn X.K (.ref f) = true) (hb : Binds X.K fd ps []) (ha : SndA X B Wx (e :: es) wa)
    (hdb : (x == ("__debug__" : Str)) = false) (he : starEach (e :: es) X.env = (false, eval e X.env) :: starEach es X.env) (hpl : (backTo pos (starEach es X.env)).any (·.1) = false) :
    PE X (.Call (.Name x p) (e :: es) [] pos) (tE X B Wx fun PX env P => wa PX env fun ws env1 => callV (ar n F) ws env1 P PX) := by
  refine ⟨fun pins s σ H Q I ⟨S, env, T, P, PX, r, hw, hP, hX⟩ => ?_⟩
  have h2 : tA' X B Wx wa σ H fun vs H1 => spV X.K X.mg n F vs H1 Q fun cls d H2 => Wx cls d σ H2 := by
    refine ⟨S, env, T, _, PX, r, hw, fun env1 Z S1 H1 hq r1 => ?_, hX⟩
    obtain ⟨os, hl, hnd, hon, hF⟩ := onSome_some (lend_of hq)
    have hnd := of_decide_eq_true hnd
    obtain ⟨ow, _, rz⟩ := r1.lent hl hnd
    refine ⟨S1, os, _, _, by rw [ow.length, hon], hon, lend_notTup hl, rz, ow, hF, fun rr os' v S2 H2 q hlen z => ?_, fun ex os' cls d S2 H2 q hlen z hx => ?_⟩
    · obtain ⟨env', g, q⟩ := onSome_some (giveBack_of q)
      exact hP _ _ _ _ _ q (R.back (N := [(v, .o rr)]) r1 hl hnd g hlen z)
    · obtain ⟨env', g, q⟩ := onSome_some (giveBack_of q)
      exact hX _ _ _ _ _ _ _ q ((R.back (N := []) r1 hl hnd g hlen z).tmp (fun t ht => nomatch ht) fun b => Nat.zero_le _) hx
  refine wpAny_Call_Name_kw (ld_glob I hg hm ?_ hdb)
  refine PySem.W.callWith_K (h₀ := X.base) I.ok.mod.kin hk (thn (ha.run pos pins s σ H _ I h2) fun us s1 ⟨vs, H1, I1, rv, q⟩ => ⟨I1.kIn, ?_⟩) he hpl
  have vl := Fn.len _ _ _ _ q
  have bd := hb s1 us I1.kIn (by rw [List.append_nil, ← rv.length]; exact vl)
  rw [List.append_nil] at bd
  refine wpAny_call (codeAny_mono (Fn.run X.A X.stack s1 H1 ⟨us, []⟩ us vs Q _ hr hgd I1.env0 bd rv q) fun rr s2 z => ?_)
  cases rr with
  | error ev => exact L2N.passAt tk σ pins H1 s1 ev s2 I1 z
  | ok fl =>
    cases fl with
    | ret u => exact I1.after z
    | next => exact z.elim
    | brk => exact z.elim
    | cont => exact z.elim
end
end Vx
namespace Vx
open PySem PySem.Spec L2
def wK (x : D) : WT := fun _ env P => P (.o (.d x)) env
def wBin (op : Bop) (wa wb : WT) : WT := fun PX env P => wa PX env fun x env1 => wb PX env1 fun y env2 => useW x env2 fun dx => useW y env2 fun dy => bopW op dx dy fun o => P (.o o) env2
def wNeg (wa : WT) : WT := fun PX env P => wa PX env fun x env1 => match x with
  | .o (.d (.int i)) => P (.o (.d (.int (-i)))) env1
  | _ => False
def wNot (wa : WT) : WT := fun PX env P => wa PX env fun x env1 => tst x fun b => P (.o (.d (.bool (!b)))) env1
def wAnd (wa wb : WT) : WT := fun PX env P => wa PX env fun x env1 => tst x fun t => if t = true then wb PX env1 P else P (.o (.d (.bool false))) env1
def wOr (wa wb : WT) : WT := fun PX env P => wa PX env fun x env1 => tst x fun t => if t = true then P (.o (.d (.bool true))) env1 else wb PX env1 P
def wIfe (wc wa wb : WT) : WT := fun PX env P => wc PX env fun x env1 => tst x fun t => if t = true then wa PX env1 P else wb PX env1 P
def wCmp (op : Cop) (wa wb : WT) : WT := fun PX env P => wa PX env fun x env1 => wb PX env1 fun y env2 => useW x env2 fun dx => useW y env2 fun dy => cmpW op dx dy fun t => P (.o (.d (.bool t))) env2
def wChain (op op2 : Cop) (wa wb wc : WT) : WT := fun PX env P => wa PX env fun x env1 => wb PX env1 fun y env2 => useW x env2 fun dx => useW y env2 fun dy => cmpW op dx dy fun t =>
  if t = true then wc PX env2 fun z env3 => useW y env3 fun dy2 => useW z env3 fun dz => cmpW op2 dy2 dz fun t2 => P (.o (.d (.bool t2))) env3 else P (.o (.d (.bool false))) env2
def wTup (wl : WA) : WT := fun PX env P => wl PX env fun l env1 => inWs l env1 fun os env2 => os.length ≤ sizeLine ∧ match datas os with
  | some ds => P (.o (.d (.tuple ds))) env2
  | none => P (.o (.tup os)) env2
def wLst (wl : WA) : WT := fun PX env P => wl PX env fun l env1 => inWs l env1 fun os env2 => os.length ≤ sizeLine ∧ ∀ a, P (.o (.lst a os)) env2
def wIx (wa wb : WT) : WT := fun PX env P => wa PX env fun x env1 => wb PX env1 fun y env2 => itemW x y env2 fun w => P w env2
def wSl (wa : WT) (wl wh : WO) : WT := fun PX env P => wa PX env fun x env1 => wl PX env1 fun l env2 => wh PX env2 fun h env3 => useW x env3 fun dx => slW dx l h fun o => P (.o o) env3
def wPrim (p : Prim) (wl : WA) : WT := fun PX env P => wl PX env fun ws env1 => useWs ws env1 fun ds => primW p ds fun o => P (.o o) env1
def wCall (F : FSem) (wl : WA) : WT := fun PX env P => wl PX env fun ws env1 => callV F ws env1 P PX
def wFrz (wa : WT) : WT := fun PX env P => wa PX env fun x env1 => escW x env1 fun d env2 => P (.o (.d d)) env2
def aNil : WA := fun _ env P => P [] env
def aCons (we : WT) (ws : WA) : WA := fun PX env P => we PX env fun w env1 => ws PX env1 fun l env2 => P (w :: l) env2
def oNone : WO := fun _ env P => P none env
def oSome (wa : WT) : WO := fun PX env P => wa PX env fun w env1 => match w with
  | .o (.d (.int i)) => P (some i) env1
  | _ => False
def cAll : WC := fun env P => P true env
def cOne (wc : WT) : WC := fun env P => wc (fun _ _ => False) env fun w env1 => tst w fun t => P t env1
def iE (wa : WT) : WI := fun PX env P => wa PX env fun w env1 => srcW w env1 fun s => P s env1
def iR1 (wa : WT) : WI := fun PX env P => wa PX env fun w env1 => match w with
  | .o (.d (.int i)) => inRange i ∧ P ⟨upTo 0 i.toNat, none⟩ env1
  | _ => False
def iR2 (wa wb : WT) : WI := fun PX env P => wa PX env fun w env1 => wb PX env1 fun u env2 => match w, u with
  | .o (.d (.int i)), .o (.d (.int j)) => inRange i ∧ inRange j ∧ P ⟨upTo i (j - i).toNat, none⟩ env2
  | _, _ => False
def sNil : WS := fun _ env k => k.nx env
def sCons (w u : WS) : WS := fun PX env k => w PX env { k with nx := fun env1 => u PX env1 k }
def sPass : WS := fun _ env k => k.nx env
def sBrk : WS := fun _ env k => k.bk env
def sCnt : WS := fun _ env k => k.ct env
def sExpr (we : WT) : WS := fun PX env k => we PX env fun _ env1 => k.nx env1
def sRet (we : WT) : WS := fun PX env k => we PX env k.rt
def sRetN : WS := fun _ env k => k.rt (.o (.d .none)) env
def sIf (wc : WT) (wx wy : WS) : WS := fun PX env k => wc PX env fun x env1 => tst x fun t => if t = true then wx PX env1 k else wy PX env1 k
def sAsg (t : Tg) (we : WT) : WS := fun PX env k => we PX env fun w env1 => bindT t w env1 k.nx
def sSetIx (we wo wi : WT) : WS := fun PX env k => we PX env fun w env1 => inW w env1 fun x env2 => wo PX env2 fun t env3 => wi PX env3 fun n env4 => setW t n x env4 k.nx
def forStep (t : Tg) (wb : WS) (PX : Exn → Env → Prop) (k : Kt) : D → Env → (Env → Prop) → Prop := fun x env2 K => bindT t (.o (.d x)) env2 fun env3 => wb PX env3 { k with nx := K, ct := K, bk := k.nx }
def sFor (t : Tg) (wi : WI) (wb : WS) : WS := fun PX env k => wi PX env fun s env1 => goFor s (forStep t wb PX k) s.xs env1 k.nx
section
variable {X : Cx} {B : Bs} {Wx : WX} {a b c e o : Expr} {wa wb wc we wo wi : WT} {pos : Pos} {es : List Expr} {wl : WA}
abbrev PV (X : Cx) (B : Bs) (Wx : WX) (e : Expr) (w : WT) : Prop := PE X e (tE X B Wx w)
theorem c_int {i : Int} (h : PE X a (tC (.int i))) : PV X B Wx a (wK (.int i)) := s_const h fun _ _ _ => .int _
theorem c_str {i : Str} (h : PE X a (tC (.str i))) : PV X B Wx a (wK (.str i)) := s_const h fun _ _ _ => .str _
theorem c_bool {i : Bool} (h : PE X a (tC (.bl i))) : PV X B Wx a (wK (.bool i)) := s_const h fun _ _ _ => .bl _
theorem c_none (h : PE X a (tC .non)) : PV X B Wx a (wK .none) := s_const h fun _ _ _ => .non
theorem c_var (i : Nat) {x : Str} (hN : X.N[i]? = some x) (hv : Vis X.env.scope x) (hd : (x == ("__debug__" : Str)) = false) (hcd : (x == ("__classdict__" : Str)) = false) : PV X B Wx (.Name x pos) (wVar i) := s_var (pe_var hN hv hd hcd)
theorem c_bin (op : Bop) (ha : PV X B Wx a wa) (hb : PV X B Wx b wb) : PV X B Wx (.BinOp a (opOf op) b pos) (wBin op wa wb) := s_bin op ha hb
theorem c_neg (ha : PV X B Wx a wa) : PV X B Wx (.UnaryOp .USub a pos) (wNeg wa) := s_neg ha
theorem c_not (ha : Snd X B Wx a wa) : Snd X B Wx (.UnaryOp .Not a pos) (wNot wa) := s_not ha
theorem l_one {op : BoolOp} (ha : Snd X B Wx a wa) : SndL X B Wx op [a] pos wa := sl_one ha
theorem l_and {rest : List Expr} (ha : Snd X B Wx a wa) (hb : SndL X B Wx .And (b :: rest) pos wb) : SndL X B Wx .And (a :: b :: rest) pos (wAnd wa wb) := sl_and ha hb
theorem l_or {rest : List Expr} (ha : Snd X B Wx a wa) (hb : SndL X B Wx .Or (b :: rest) pos wb) : SndL X B Wx .Or (a :: b :: rest) pos (wOr wa wb) := sl_or ha hb
theorem c_ife (hc : Snd X B Wx c wc) (ha : PV X B Wx a wa) (hb : PV X B Wx b wb) : PV X B Wx (.IfExp c a b pos) (wIfe wc wa wb) := s_ife hc ha hb
theorem c_cmp {k : Nat} (hr : Room k X.A) (op : Cop) (ha : PV X B Wx a wa) (hb : PV X B Wx b wb) (hm : behindInMarks (cmpOf op) b = false) : Snd X B Wx (.Compare a [cmpOf op] [b] pos) (wCmp op wa wb) := s_cmp (by have := hr.un; omega) op ha hb hm
theorem c_chain {k : Nat} (hr : Room k X.A) (op op2 : Cop) (ha : PV X B Wx a wa) (hb : PV X B Wx b wb) (hc : PV X B Wx c wc) (hm : lastMarks [cmpOf op, cmpOf op2] [b, c] = false) : Snd X B Wx (.Compare a [cmpOf op, cmpOf op2] [b, c] pos) (wChain op op2 wa wb wc) := s_chain (by have := hr.un; omega) op op2 ha hb hc hm
theorem c_snd (h : PV X B Wx e we) (he : ∀ whole, isTrue e X.env whole = (do let v ← whole; standAt e.pos; holding [v] (truthy v))) : Snd X B Wx e we := snd_plain h he
theorem a_nil : SndA X B Wx [] aNil := sa_nil
theorem a_cons {ws : WA} (he : PV X B Wx e we) (hs : SndA X B Wx es ws) (st : starEach (e :: es) X.env = (false, eval e X.env) :: starEach es X.env) : SndA X B Wx (e :: es) (aCons we ws) := sa_cons he hs st
theorem c_tup {k : Nat} (h : SndA X B Wx es wl) : PV X B Wx (.Tuple es k pos) (wTup wl) := s_tup h
theorem c_lst (h : SndA X B Wx es wl) : PV X B Wx (.List es pos) (wLst wl) := s_lst h
theorem c_frz (h : PV X B Wx e we) : PV X B Wx e (wFrz we) := s_frz h
theorem c_ix (ha : PV X B Wx a wa) (hb : PV X B Wx b wb) (hs : PlainIx b) : PV X B Wx (.Subscript a b pos) (wIx wa wb) := s_ix ha hb hs
theorem o_none : PO X none (tO X B Wx oNone) := so_none
theorem o_some (ha : PV X B Wx a wa) : PO X (some a) (tO X B Wx (oSome wa)) := so_some ha
theorem c_sl {lo hi : Option Expr} {p2 : Pos} {wl wh : WO} (ha : PV X B Wx a wa) (hl : PO X lo (tO X B Wx wl)) (hh : PO X hi (tO X B Wx wh)) : PV X B Wx (.Subscript a (.Slice lo hi none p2) pos) (wSl wa wl wh) := s_sl ha hl hh
theorem i_e {tg : Expr} (h : PV X B Wx a wa) : PI X tg a (tI X B Wx (iE wa)) := i_seq h
theorem i_rg1 {tg : Expr} {p : Pos} (hg : Gl X "range") (hm : X.mg "range" = none) (h : PV X B Wx a wa) (hs : starEach [a] X.env = [(false, eval a X.env)]) : PI X tg (.Call (.Name "range" p) [a] [] pos) (tI X B Wx (iR1 wa)) := i_r1 hg hm h hs
theorem i_rg2 {tg : Expr} {p : Pos} (hg : Gl X "range") (hm : X.mg "range" = none) (ha : PV X B Wx a wa) (hb : PV X B Wx b wb) (hs : starEach [a, b] X.env = [(false, eval a X.env), (false, eval b X.env)]) (hs2 : starEach [b] X.env = [(false, eval b X.env)]) :
    PI X tg (.Call (.Name "range" p) [a, b] [] pos) (tI X B Wx (iR2 wa wb)) := i_r2 hg hm ha hb hs hs2
theorem q_all : SndC X B [] cAll := sc_nil
theorem q_one (h : Snd X B W0 c wc) : SndC X B [c] (cOne wc) := sc_one h
theorem z_nil : SS X B Wx [] sNil := ss_nil
theorem z_cons {st : Stmt} {rest : List Stmt} {w u : WS} (h : S1 X B Wx st w) (h2 : SS X B Wx rest u) : SS X B Wx (st :: rest) (sCons w u) := ss_cons (w := w) (u := u) h h2
theorem z_expr (he : PV X B Wx e we) (hs : swapsWith e none pos.line X.env = pure false) : S1 X B Wx (.Expr e pos) (sExpr we) := st_expr he hs
theorem z_ret (he : PV X B Wx e we) : S1 X B Wx (.Return (some e) pos) (sRet we) := st_ret he
theorem z_if {xs ys : List Stmt} {wx wy : WS} (hc : Snd X B Wx c wc) (ha : SS X B Wx xs wx) (hb : SS X B Wx ys wy) : S1 X B Wx (.If c xs ys pos) (sIf wc wx wy) := st_if hc ha hb
theorem z_asg {tg : Expr} {t : Tg} (he : PV X B Wx e we) (hg : PG X tg (gT X B t)) (hs : swapsWithSole [tg] e pos.line X.env = pure false) (hw : swappedStores [tg] e X.env = pure none)
    (h1 : (assignEach [tg] X.env).map (·.2) = [assign tg X.env]) : S1 X B Wx (.Assign [tg] e pos) (sAsg t we) := st_asg he hg hs hw h1
theorem z_for {tg it : Expr} {t : Tg} {wi : WI} {body : List Stmt} {wb : WS} (hp : PassesOwn (model X.prog X.w) X.A X.env X.xe) (hc : X.calm = true) (hi : PI X tg it (tI X B Wx wi)) (hg : PG X tg (gT X B t)) (hb : SS X B Wx body wb)
    (hs : ∀ x, foldedSetIterable it X.env x = pure x) : S1 X B Wx (.For tg it body [] pos) (sFor t wi wb) := st_for hp hc hi hg hb hs
theorem takes_blk (h : X.xe = fun _ _ => False) : L2N.Takes X W0 := fun u s' ⟨_, _, _, _, _, _, _, _, _, _, _, _, _, _, _, _, w⟩ => w.elim
theorem R.setAt {S : Fz} {H : Hp} {σ : L2.St} {env : Env} {T : List (V × W)} {K : PySem.W.Frag} {v : V} {o : O} {a : Addr} {i : Nat} {p : List Stp} {k : Kd} {xs : List O} (r : R K B S H σ env ((v, .o o) :: T)) (h : envAt env i p = some (.obj a k xs)) :
    ∃ vs, H a = some (hoOf k vs) ∧ vs.length = xs.length ∧ k.fits K vs.length ∧ (∀ j, j < xs.length → R K B S (upd H a (hoOf k (vs.set j v))) σ (envPut env i p (.obj a k (xs.set j o))) T) ∧
      ∀ k' : Kd, k'.fits K (vs.length + 1) → R K B S (upd H a (hoOf k' (vs ++ [v]))) σ (envPut env i p (.obj a k' (xs ++ [o]))) T := by
  obtain ⟨vs, e, hf, ow⟩ := r.seenObj h
  have qo : OwnR K S H v o := r.tmps (v, .o o) List.mem_cons_self
  obtain ⟨oo, eo, ha⟩ := envAt_some h
  have hoc : ∀ b, oo.cnt b ≤ cntE b env := fun b => cntE_get eo
  obtain ⟨vv, _, qq⟩ := r.slots i oo eo
  obtain ⟨_, q', hle⟩ := qq.at ha
  have hone : ∀ b, cntE b env + (o.cnt b + cntT b T) ≤ 1 := r.one
  have hself : 1 ≤ (O.obj a k xs).cnt a := by show 1 ≤ (if a = a then 1 else 0) + O.cntL a xs; rw [if_pos rfl]; omega
  have ha1 : ∀ b, (O.obj a k xs).cnt b + o.cnt b + cntT b T ≤ 1 := fun b => by have := hone b; have := hoc b; have := hle b; omega
  have nS : ¬ S a := fun z => by have h1 : cntE a env + (o.cnt a + cntT a T) = 0 := r.apart a z; have := hoc a; have := hle a; omega
  have na : o.cnt a = 0 := by have := ha1 a; omega
  have nT : cntT a T = 0 := by have := ha1 a; omega
  have cl : ∀ b, (O.obj a k xs).cnt b = (if a = b then 1 else 0) + O.cntL b xs := fun b => rfl
  have nx : O.cntL a xs = 0 := by have := ha1 a; have := cl a; rw [if_pos rfl] at this; omega
  have other : ∀ (u : HO) b, a ≠ b → upd H a u b = H b := fun us b z => upd_ne (Ne.symm z)
  have go : ∀ (k' : Kd) (us : List V) (ys : List O), k'.fits K us.length → (∀ H', Kp S S H H' → (∀ b, a ≠ b → H' b = H b) → OwnA K S H' us ys) → (∀ b, O.cntL b ys ≤ O.cntL b xs + o.cnt b) → R K B S (upd H a (hoOf k' us)) σ (envPut env i p (.obj a k' ys)) T := by
    intro k' us ys hf' how hc
    have kp : Kp S S H (upd H a (hoOf k' us)) := Kp.putO e (hoOf_loose _ _) nS
    have r' : R K B S H σ env ([(v, W.o o)] ++ T) := r
    have cP : ∀ b, cntT b [(v, W.o o)] = o.cnt b := fun b => by show o.cnt b + 0 = _; omega
    refine R.putAt (P := [(v, W.o o)]) r' h kp (fun w qw => ?_) (fun t ht qt => ?_) (fun b hb h0 h1 => ?_) (fun b => ?_) (fun b hb => .inl hb) (fun b hb => ?_) (fun b u hb h0 h1 => ?_) fun b hb => ?_
    · have : w = .ref a := qw.ref rfl
      rw [this]
      exact .obj upd_same hf' (how _ kp (other _))
    · refine qt.kp kp fun b hb => other _ b fun z => ?_
      subst z
      have h3 : cntW a t.2 ≤ cntT a T := cntT_mem (b := a) ht
      omega
    · refine other _ b fun z => ?_
      subst z; omega
    · rw [cP]
      show (if a = b then 1 else 0) + O.cntL b ys ≤ (O.obj a k xs).cnt b + o.cnt b
      have := hc b; have := cl b
      omega
    · rw [kp.h b hb]; exact r.sH b hb
    · rw [other _ b fun z => by subst z; omega]; exact hb
    · by_cases z : a = b
      · subst z; rw [upd_same] at hb; cases hb
      · rw [other _ b z] at hb; exact hb
  refine ⟨vs, e, ow.length, hf, fun j hj => go _ _ _ (by rw [List.length_set]; exact hf) (fun H' k ot => ?_) fun b => ?_, fun k' hf' => go _ _ _ (by rw [List.length_append]; exact hf') (fun H' k ot => ?_) fun b => ?_⟩
  · refine OwnA.set j (ow.kp k fun b hb => ot b fun z => ?_) (qo.kp k fun b hb => ot b fun z => ?_)
    · subst z; omega
    · subst z; omega
  · have hx : xs[j]? = some xs[j] := List.getElem?_eq_getElem hj
    have := O.cntL_set (p := b) (y := o) hx
    omega
  · refine (ow.kp k fun b hb => ot b fun z => ?_).append (.cons (qo.kp k fun b hb => ot b fun z => ?_) .nil)
    · subst z; omega
    · subst z; omega
  · rw [O.cntL_append]
    show O.cntL b xs + (o.cnt b + 0) ≤ _
    omega
theorem PSet.or {t u : TSet} (h : PSet X t) (h' : PSet X u) : PSet X fun o i v H Q => t o i v H Q ∨ u o i v H Q := by
  intro pins s σ H o i v ov iv w Q I ro ri rv q
  rcases q with q | q
  · exact h pins s σ H o i v ov iv w Q I ro ri rv q
  · exact h' pins s σ H o i v ov iv w Q I ro ri rv q
theorem any_ix {k : Key} {ks : List Key} {vs : List V} (hl : ks.length = vs.length) : ((ks.zip vs).any fun kv => decide (kv.1 = k)) = (keyIx ks k).isSome := by
  induction ks generalizing vs with
  | nil => rfl
  | cons k' ks ih =>
    cases vs with
    | nil => cases hl
    | cons v vs =>
      rw [keyIx_cons, List.zip_cons_cons, List.any_cons, ih (Nat.succ.inj hl)]
      by_cases e : k' = k
      · rw [if_pos e, decide_eq_true e]; rfl
      · rw [if_neg e, decide_eq_false e, Bool.false_or]
        cases keyIx ks k <;> rfl
theorem z_setIx {p2 : Pos} {kr : Nat} (hrm : Room kr X.A) (he : PV X B Wx e we) (ho : PV X B Wx o wo) (hi : PV X B Wx b wb)
    (ha : ∀ v, assign (.Subscript o b p2) X.env v = (do
      let ov ← holding [v] (eval o X.env)
      let iv ← holding [v, ov] (eval b X.env)
      standAt p2
      holding [v, ov, iv] (setItem ov iv v)
      release [v, ov, iv] []))
    (hs : swapsWithSole [.Subscript o b p2] e pos.line X.env = pure false) (hw : swappedStores [.Subscript o b p2] e X.env = pure none)
    (h1 : (assignEach [.Subscript o b p2] X.env).map (·.2) = [assign (.Subscript o b p2) X.env]) : S1 X B Wx (.Assign [.Subscript o b p2] e pos) (sSetIx we wo wb) := by
  have hu : X.A.units + 1 < cLine := hu_of hrm
  refine PS_imp (ps_asg he (pg_sub ho hi (PSet.or set_list (set_dict hu)) ha) hs hw h1) fun D σ H ⟨S, env, T, k, PX, r, hq, hE, hX⟩ => ?_
  refine ⟨S, env, T, _, PX, r, hq, fun x env1 v S1 H1 q r1 => ?_, hX⟩
  obtain ⟨x', env2, S2, q, r2⟩ := r1.into q
  refine ⟨S2, env2, (v, .o x') :: T, _, PX, r2, q, fun t env3 vt S3 H3 q r3 => ?_, hX⟩
  refine ⟨S3, env3, (vt, t) :: (v, .o x') :: T, _, PX, r3, q, fun n env4 vn S4 H4 q r4 => ?_, hX⟩
  have q9 : setW t n x' env4 k.nx := q
  clear q
  cases t with
  | o _ => exact q9.elim
  | al a i p =>
    unfold setW at q9
    cases ee : envAt env4 i p with
    | none => simp only [ee] at q9
    | some y =>
      simp only [ee] at q9
      cases y with
      | d _ => exact q9.elim
      | tup _ => exact q9.elim
      | obj b2 kd xs =>
        cases kd with
        | lst =>
          obtain ⟨hb, q8⟩ := q9
          subst hb
          have rr : R X.K B S4 H4 σ env4 ([(vn, n)] ++ ((vt, .al b2 i p) :: (v, .o x') :: T)) := r4
          obtain ⟨S5, r5, fu⟩ := rr.used
          obtain ⟨d, q7, ud⟩ := fu (vn, n) List.mem_cons_self _ q8
          cases d with
          | int m =>
            obtain ⟨j, hj, q6⟩ := onSome_some q7
            have ev : vn = .int m := ud.int
            have et : vt = .ref b2 := r4.tmps (vt, .al b2 i p) (List.mem_cons_of_mem _ List.mem_cons_self)
            have r6 : R X.K B S5 H4 σ env4 ((v, .o x') :: T) := r5.perm (fun t ht => List.mem_cons_of_mem _ (List.mem_cons_of_mem _ ht)) fun b => by
              show _ ≤ _ + (_ + _)
              omega
            obtain ⟨vs, hv, hl, _, rs, _⟩ := r6.setAt ee
            exact .inl ⟨b2, vs, m, j, et, ev, hv, by rw [hl]; exact hj, hE.nx _ _ _ _ q6 (rs j (ixN_seq hj).2.1)⟩
          | _ => exact q7.elim
        | ins _ _ _ _ => exact q9.elim
        | dctL _ _ => exact q9.elim
        | dct ks =>
          obtain ⟨hb, q8⟩ := q9
          subst hb
          have rr : R X.K B S4 H4 σ env4 ([(vn, n)] ++ ((vt, .al b2 i p) :: (v, .o x') :: T)) := r4
          obtain ⟨S5, r5, fu⟩ := rr.used
          obtain ⟨d, q7, ud⟩ := fu (vn, n) List.mem_cons_self _ q8
          obtain ⟨key, hk, hz, q6⟩ := onSome_some q7
          have ev : vn = kV key := keyOf_ud ud hk
          have et : vt = .ref b2 := r4.tmps (vt, .al b2 i p) (List.mem_cons_of_mem _ List.mem_cons_self)
          have r6 : R X.K B S5 H4 σ env4 ((v, .o x') :: T) := r5.perm (fun t ht => List.mem_cons_of_mem _ (List.mem_cons_of_mem _ ht)) fun b => by
            show _ ≤ _ + (_ + _)
            omega
          obtain ⟨vs, hv, hl, hf, rs, ra⟩ := r6.setAt ee
          have hzl : (ks.zip vs).length < sizeLine := by
            rw [List.length_zip]
            have : (1000000 : Nat) < sizeLine := by decide
            omega
          refine .inr ⟨b2, _, et, by rw [ev]; exact DPut.k hv hzl, ?_⟩
          unfold putK
          rw [any_ix hf.1]
          cases ej : keyIx ks key with
          | some j =>
            rw [ej] at q6
            rw [if_pos (by rfl), putK_ix hf.1 hf.2 ej]
            exact hE.nx _ _ _ _ q6 (rs j (by rw [← hl, ← hf.1]; exact (keyIx_lt ej).1))
          | none =>
            rw [ej] at q6
            rw [if_neg (by decide), show ks.zip vs ++ [(key, v)] = (ks ++ [key]).zip (vs ++ [v]) by rw [List.zip_append hf.1]; rfl]
            refine hE.nx _ _ _ _ q6 (ra (.dct (ks ++ [key])) ⟨by rw [List.length_append, hf.1]; rfl, ?_⟩)
            exact List.nodup_append.mpr ⟨hf.2, by simp, fun a ha b hb => by rw [List.mem_singleton.mp hb]; exact fun z => keyIx_none ej (by rw [← z]; exact ha)⟩
end
end Vx
namespace Vx
open PySem PySem.Spec L2
section
variable {X : Cx} {B : Bs} {Wx : WX} {a b c e o : Expr} {wa wb wc we wo wi : WT} {pos : Pos} {es : List Expr} {wl : WA}
theorem prim_run {p : Prim} (ok : PrimOk X p) (ha : SndA X B Wx es wl) {pins : List (Addr × Obj)} {s : Shared} {σ : L2.St} {H : Hp} {Q : VK} (I : L2.Inv X pins σ H s) (h : tE X B Wx (wPrim p wl) σ H Q) :
    ∃ Qa : List V → Hp → Prop, tA' X B Wx wl σ H Qa ∧ ∀ us s1 vs H1, L2.Inv X pins σ H1 s1 → Vals vs us → Qa vs H1 → wpAny (model X.prog X.w) X.A (call (primV p) us) (EP X pins σ Q) X.xe s1 := by
  obtain ⟨S, env, T, P, PX, r, hw, hP, hX⟩ := h
  refine ⟨fun vs H1 => ∃ S1 env1 ds, R X.K B S1 H1 σ env1 T ∧ UdA X.K S1 H1 vs ds ∧ primW p ds fun o => P (.o o) env1, ⟨S, env, T, _, PX, r, hw, fun env1 Z S1 H1 q r1 => ?_, hX⟩, fun us s1 vs H1 I1 rv ⟨S1, env1, ds, r1, ud, q⟩ => ?_⟩
  · obtain ⟨S2, ds, r2, q, ud⟩ := r1.usedAll q
    exact ⟨S2, env1, ds, r2.pops, ud, q⟩
  · exact ok pins s1 σ H1 vs us Q B S1 env1 T ds _ I1 rv r1 ud q fun o v S' H' q r2 => hP _ _ _ _ _ q r2
theorem c_primB {p : Prim} {id : String} {x : Str} {np : Pos} (ok : PrimOk X p) (hv : primV p = .builtin id) (hg : Gl X x) (hm : X.mg x = none) (hb : bootBuiltins x = some (.builtin id)) (ha : SndA X B Wx (e :: es) wl) (hn : x ≠ "__name__") (hd : (x == ("__debug__" : Str)) = false)
    (he : starEach (e :: es) X.env = (false, eval e X.env) :: starEach es X.env) (hpl : (backTo pos (starEach es X.env)).any (·.1) = false) : PV X B Wx (.Call (.Name x np) (e :: es) [] pos) (wPrim p wl) := by
  refine ⟨fun pins s σ H Q I h => ?_⟩
  obtain ⟨Qa, h2, run⟩ := prim_run ok ha I h
  rw [hv] at run
  exact wpAny_Call_Name_kw (ld_blt I hg hm hb (PyProof.Rows.callWith_builtin1 (thn (ha.run pos pins s σ H Qa I h2) fun us s1 ⟨vs, H1, I1, rv, q⟩ => run us s1 vs H1 I1 rv q) he hpl) hn hd)
theorem c_primT {p : Prim} {id : String} {x : Str} {np : Pos} (ok : PrimOk X p) (hv : primV p = .type id) (hg : Gl X x) (hm : X.mg x = none) (hb : bootBuiltins x = some (.type id)) (ha : SndA X B Wx (e :: es) wl) (hn : x ≠ "__name__") (hd : (x == ("__debug__" : Str)) = false)
    (he : starEach (e :: es) X.env = (false, eval e X.env) :: starEach es X.env) (hpl : (backTo pos (starEach es X.env)).any (·.1) = false) : PV X B Wx (.Call (.Name x np) (e :: es) [] pos) (wPrim p wl) := by
  refine ⟨fun pins s σ H Q I h => ?_⟩
  obtain ⟨Qa, h2, run⟩ := prim_run ok ha I h
  rw [hv] at run
  exact wpAny_Call_Name_kw (ld_blt I hg hm hb (PyProof.Rows.callWith_type1 (thn (ha.run pos pins s σ H Qa I h2) fun us s1 ⟨vs, H1, I1, rv, q⟩ => run us s1 vs H1 I1 rv q) he hpl) hn hd)
theorem c_comp {elt tg iter : Expr} {ifs : List Expr} {scope : Scope} {own : List (Str × Nat)} {t : Tg} {wi : WI} {wcnd : WC} (hc : X.calm = true) (hN : X.N.Nodup)
    (hi : PI X tg iter (tI X B Wx wi)) (ok : BlkOk X.N X.env.scope scope own) (hown : (own.map (·.2)).Nodup) (hsub : ∀ i ∈ t.slots, i ∈ own.map (·.2))
    (hb : ∀ (s : Shared) (H : Hp) (C : Addr) (cl : List (Str × Addr)) (fp : List Addr), PG (X.blk s H scope (compEnvC scope cl C X.env) fp) tg (gT X B t) ∧
      SndC (X.blk s H scope (compEnvC scope cl C X.env) fp) B ifs wcnd ∧ PE (X.blk s H scope (compEnvC scope cl C X.env) fp) elt (tE X B W0 we))
    (hs : ∀ x, foldedSetIterable iter X.env x = pure x) : PV X B Wx (.ListComp elt [⟨tg, iter, ifs, 0⟩] scope pos) (wComp wi (own.map (·.2)) t wcnd we) :=
  s_comp hc hN hi ok hown hsub (fun s H C cl fp => (hb s H C cl fp).1) (fun s H C cl fp => (hb s H C cl fp).2.1) (fun s H C cl fp => (hb s H C cl fp).2.2) hs
theorem g_nm {i : Nat} {x : Str} (hN : X.N.Nodup) (hi : X.N[i]? = some x) (hx : Loc X.env.scope x) (hf : X.fn x = true ∨ X.env.scope.names.lookup x = some .local) : PG X (.Name x pos) (gT X B (.v i)) := g_name (pg_name hN hi hx hf)
end
theorem spV_law {K : PySem.W.Frag} {mg : Str → Option Value} {F : FSem} {H : Hp} {a : Addr} {ns : List Int} (hO : Only H) (hS : SqL K H a (ns.map V.int)) (hF : F [.d (.list (ns.map PyData.int))] (fun r _ => r = .d (.bool true)) fun _ _ => False) :
    spV K mg 1 F [.ref a] H (fun v _ => v = .bl true) fun _ _ _ => False := by
  have fz : FzL K (fun _ => False) H a (ns.map V.int) := by
    rcases hS with h | h
    · rcases h with h | h
      · rcases hO a with z | ⟨o, xs, z⟩
        · rw [h] at z; cases z
        · rw [h] at z; cases z
      · exact .inr (.inl h)
    · exact .inr (.inr h)
  have rp : Rp K (fun _ => False) H (.ref a) (.list (ns.map PyData.int)) := .lst fz (RpA.of_ints ns)
  refine ⟨fun _ => False, [.d (.list (ns.map PyData.int))], _, _, rfl, rfl, rfl, ⟨rfl, (fun i o e => nomatch e), fun t ht => ?_, fun b => ?_, (fun _ h => h.elim), (fun _ h => h.elim), fun _ _ h _ => h, fun _ h => h, fun b hb => ?_, (fun _ h => h.elim), fun _ h => h⟩, .cons (.d rp) .nil, hF, fun r os' v S' H' q hl z => ?_, fun _ _ _ _ _ _ q => q.elim⟩
  · rcases List.mem_cons.mp ht with e | ht
    · subst e; exact OwnR.d rp
    · exact nomatch ht
  · show 0 + (0 + 0) ≤ 1
    omega
  · have hb' : 0 < 0 + (0 + 0) := hb
    omega
  · have q : r = .d (.bool true) := q
    subst q
    exact R.boolTop z
open PyProof.Rows in
theorem law_V {P : Program} {w : World} {K : PySem.W.Frag} {mg mb : Str → Option Value} {k : Nat} {fa a : Addr} {fd : FuncData} {x : Str} {F : FSem} {s₁ : Shared} {vs : List Value} {ns : List Int}
    (inK : K.In s₁.heap) (ng : s₁.heap.Ns mainGlobals mg) (nb : s₁.heap.Ns builtinsNs mb) (bb : ∀ x : Str, x ≠ "__name__" → mb x = bootBuiltins x) (far : s₁.heap.NoLimit) (gs : s₁.gens = #[])
    (ga : s₁.heap.get? a = some { cls := .type "list", data := .seq vs.toArray }) (hi : IntsAre vs ns) (hl : ns.length ≤ sizeLine) (hr : Room k callerA)
    (Fn : ∀ base : Heap, K.In base → base.Ns mainGlobals mg → FnV P w K mg base k fa fd [x] (spV K mg 1 F)) (bnd : ∀ (s : Shared) (u : Value), BindsTo s fd ⟨[u], []⟩ [(x, u)])
    (hF : F [.d (.list (ns.map PyData.int))] (fun r _ => r = .d (.bool true)) fun _ _ => False) :
    codeAny (model P w) callerA (.call (.ref fa) ⟨[.ref a], []⟩) (fun r s' => r = .ok (.ret (.bool true)) ∧ OldK s₁.heap s'.heap ∧ s'.os = s₁.os ∧ AllBare s'.gens) s₁ := by
  have iv : Vals (ns.map V.int) vs := vals_ints hi
  have nl := hi.length
  suffices main : ∀ H : Hp, Only H → SqL K H a (ns.map V.int) → HOk P w H s₁.heap → (∀ b, H b ≠ none → b = a) → (H a ≠ none → K.lookup a = none) →
      codeAny (model P w) callerA (.call (.ref fa) ⟨[.ref a], []⟩) (fun r s' => r = .ok (.ret (.bool true)) ∧ OldK s₁.heap s'.heap ∧ s'.os = s₁.os ∧ AllBare s'.gens) s₁ by
    cases ek : K.lookup a with
    | none =>
      have z1 : ∀ b, b ≠ a → (if b = a then some (HO.frz { cls := .type "list", data := .seq vs.toArray } (.lst (ns.map V.int))) else none) = none := fun b h => if_neg h
      refine main (fun b => if b = a then some (.frz { cls := .type "list", data := .seq vs.toArray } (.lst (ns.map V.int))) else none) (fun b => ?_) (.inl (.inr ⟨_, if_pos rfl⟩)) (fun b u z => ?_) (fun b z => ?_) fun _ => ek
      · by_cases h : b = a
        · exact .inr ⟨_, _, if_pos h⟩
        · exact .inl (z1 b h)
      · by_cases h : b = a
        · subst h
          have z' := (if_pos rfl).symm.trans z
          cases z'
          exact ⟨ga, by rw [List.length_map]; exact hl, vs, _, iv, ga⟩
        · cases (z1 b h).symm.trans z
      · by_cases h : b = a
        · exact h
        · exact absurd (z1 b h) z
    | some o =>
      have eo := inK a o ek
      rw [ga] at eo
      cases eo
      exact main (fun _ => none) (fun _ => .inl rfl) (.inr ⟨_, vs.toArray, _, ek, rfl, rfl, rfl, by rw [List.size_toArray, nl]; exact hl, by simpa using iv⟩) (fun b u z => nomatch (show (none : Option HO) = some u from z)) (fun b z => (z rfl).elim) fun z => (z rfl).elim
  intro H hO hS hok hA hK
  have there : ∀ {b : Addr} {o : Obj} {es : Array DictEntry} {ep : Nat}, s₁.heap.get? b = some o → o.data = .dict es ep → (hidT s₁.heap H).get? b = some o := fun {b o es ep} e d => by
    refine hidT_get e ?_
    cases q : H b with
    | none => rfl
    | some u =>
      obtain rfl : b = a := hA b (by rw [q]; exact fun z => nomatch z)
      rw [ga] at e
      cases e
      exact nomatch (show Data.seq vs.toArray _ = Data.dict es ep from d)
  have ns2 : ∀ {b : Addr} {m : Str → Option Value}, s₁.heap.Ns b m → (hidT s₁.heap H).Ns b m := fun {b m} ⟨o, es, ep, e, d, r⟩ => ⟨o, es, ep, there e d, d, r⟩
  have inB : K.In (hidT s₁.heap H) := fun b o e => hidT_get (inK b o e) (by
    cases q : H b with
    | none => rfl
    | some u =>
      obtain rfl : b = a := hA b (by rw [q]; exact fun z => nomatch z)
      rw [hK (by rw [q]; exact fun z => nomatch z)] at e
      cases e)
  obtain ⟨mc, l1, l2⟩ := far
  have md : Mod K mg (hidT s₁.heap H) := ⟨inB, ns2 ng, ⟨mb, ns2 nb, bb⟩, mc, ns2 l1, l2⟩
  have e0 : Env0 P w K mg (hidT s₁.heap H) callerA [] s₁ H := ⟨rfl, md, fun b o e => of_hidT e, Nat.le_of_eq (hidT_size _ _), trivial, (fun b hb => nomatch (show b ∈ ([] : List Addr) from hb)), hok, .of_eq gs⟩
  refine codeAny_mono ((Fn _ inB (ns2 ng)).run callerA [] s₁ H ⟨[.ref a], []⟩ [.ref a] [.ref a] _ _ hr rfl e0 (bnd s₁ (.ref a)) (.cons rfl .nil) (spV_law hO hS hF)) fun r s2 h => ?_
  cases r with
  | error e =>
    obtain ⟨_, _, _, _, _, _, _, _, _, _, _, _, z⟩ := h
    exact z.elim
  | ok fl =>
    cases fl with
    | next => exact h.elim
    | brk => exact h.elim
    | cont => exact h.elim
    | ret u =>
      obtain ⟨v, H2, os, bare, un, hok2, rv, q⟩ := h
      obtain rfl : v = .bl true := q
      obtain rfl : u = Value.bool true := rv
      refine ⟨rfl, OldK.of_keep fun b o e => ?_, os, bare⟩
      cases q : H b with
      | none => exact un.keep b o e q (fun z => nomatch (show b ∈ ([] : List Addr) from z)) (fun z => nomatch z)
      | some u =>
        rcases hO b with z | ⟨ob, xs, z⟩
        · rw [q] at z; cases z
        · obtain ⟨e1, _⟩ := hok b _ z
          obtain ⟨e2, _⟩ := hok2 b _ (un.frzs b ob _ z)
          rw [e] at e1
          cases e1
          exact e2
open PyProof.Rows in
theorem walk_V {l : PySem.W.OpenLaw} {n k : Nat} {q : Program} {loose : List Str} {XP : (Str → Option Value) → Heap → Prop} {YP : World → Heap → Prop} {d : DefRec} {K : Params → PySem.W.Frag} {F : FSem} {x : Str}
    (hn : l.most = some n) (hn2 : n ≤ sizeLine) (hdf : d.params.defaults = []) (hr : Room k callerA) (hY : ∀ (w : World) (h : Heap), YP w h → (K w.params).In h)
    (Fn : ∀ (w : World) (mg : Str → Option Value) (fa : Addr) (h : Heap), (K w.params).In h → h.Ns mainGlobals mg → mg d.name = some (.ref fa) →
      ∃ fd : FuncData, (∀ (s : Shared) (u : Value), BindsTo s fd ⟨[u], []⟩ [(x, u)]) ∧ ∀ base : Heap, (K w.params).In base → base.Ns mainGlobals mg → FnV l.prog w (K w.params) mg base k fa fd [x] (spV (K w.params) mg 1 F))
    (hF : ∀ ns : List Int, ns.length ≤ n → F [.d (.list (ns.map PyData.int))] (fun r _ => r = .d (.bool true)) fun _ _ => False) :
    PySem.W.WalkO q loose XP YP l.row.toRowW d [] (fun f vs => PySem.call f vs) := by
  refine Att.attach_call hn hdf fun w s₀ s₁ mg mb fa o pm cd doc a vs ns G Y ho hd hcd hmg hobj hints hlen hg => ?_
  obtain ⟨fd, bnd, go⟩ := Fn w mg fa _ (hY w _ Y) G.T.g hmg
  exact law_V (hY w _ Y) G.T.g G.T.b G.T.builtins G.T.nolimit hg hobj hints (Nat.le_trans hlen hn2) hr go bnd (hF ns hlen)
end Vx
namespace Vx
open PySem PySem.Spec L2
open PyProof.Rows in
theorem tkB {P : Program} {w : World} {K : PySem.W.Frag} {mg : Str → Option Value} {base : Heap} {N : List Str} {qual : Str} {scope : Scope} {f : Addr} {cdv : Value} {A : Around} {outer : List PySem.Env} {s : Shared} {H : Hp} {E : XK} :
    L2N.Takes (cxOf (L2N.CX P w) P w K mg base N qual scope f cdv A outer s H E) (fun cls d _ H1 => E cls d H1) := L2N.takes_of rfl rfl rfl rfl
open PyProof.Rows in
theorem poB {P : Program} {w : World} {K : PySem.W.Frag} {mg : Str → Option Value} {base : Heap} {N : List Str} {qual : Str} {scope : Scope} {f : Addr} {cdv : Value} {A : Around} {outer : List PySem.Env} {s : Shared} {H : Hp} {E : XK} {P2 : Program} {w2 : World} {A2 : Around} {en : PySem.Env} {xe : Value → Shared → Prop}
    (h1 : P2 = P) (h2 : w2 = w) (h3 : A2 = (cxOf (L2N.CX P w) P w K mg base N qual scope f cdv A outer s H E).A) (h4 : en = (cxOf (L2N.CX P w) P w K mg base N qual scope f cdv A outer s H E).env) (h5 : xe = (cxOf (L2N.CX P w) P w K mg base N qual scope f cdv A outer s H E).xe) :
    PassesOwn (model P2 w2) A2 en xe := by
  subst h1; subst h2; subst h3; subst h4; subst h5
  exact passes_of (X := cxOf (L2N.CX P2 w2) P2 w2 K mg base N qual scope f cdv A outer s H E) (K := fun e s2 => L2N.CX P2 w2 outer H s E e s2) (E₁ := fun e s2 => L2N.CX P2 w2 outer H s E e s2) rfl
end Vx
namespace Vx
open PySem PySem.Spec L2
theorem onSome_mk {α : Type} {o : Option α} {x : α} {Q : α → Prop} (h : o = some x) (q : Q x) : onSome o Q := by rw [h]; exact q
theorem ifB {b : Bool} {A C : Prop} (h1 : b = true → A) (h2 : b = false → C) : if b = true then A else C := by
  cases b
  · rw [if_neg (by decide)]; exact h2 rfl
  · rw [if_pos rfl]; exact h1 rfl
theorem stp {i n : Nat} {Q : Prop} (h : Nat.blt i n = true) (q : Q) : i < n ∧ Q := ⟨by simpa [Nat.blt_eq] using h, q⟩
theorem useW_al {a : Addr} {i : Nat} {p : List Stp} {env : Vx.Env} {Q : D → Prop} {xs : List O} {ds : List D} (h : envAt env i p = some (.lst a xs)) (h1 : datas xs = some ds) (q : Q (.list ds)) : useW (.al a i p) env Q := by
  simp only [useW, h, h1, onSome]
  exact ⟨trivial, q⟩
theorem ixN_nat {j m : Nat} (h : j < m) : ixN m (j : Int) = some j := by
  unfold ixN
  rw [if_pos (by omega), if_pos (by omega)]
  rfl
theorem ixN_int {i : Int} {m : Nat} (h0 : 0 ≤ i) (h : i < m) : ixN m i = some i.toNat := by
  unfold ixN
  rw [if_pos h0, if_pos h]
theorem ixN_fmod {k : Int} {m : Nat} (hm : 0 < m) : ∃ j, j < m ∧ ixN m (k.fmod (m : Int)) = some j := by
  have h0 : 0 ≤ k.fmod m := Int.fmod_nonneg_of_pos _ (by omega)
  have h1 : k.fmod m < m := Int.fmod_lt_of_pos _ (by omega)
  exact ⟨(k.fmod m).toNat, by omega, ixN_int h0 h1⟩
theorem cpowB {i j : Int} {Q : Prop} (h : decide (0 ≤ j) && decide (j ≤ 1000000) && decide (i.natAbs < 2 ^ 64) = true) (q : Q) : CPow i j ∧ Q := by
  simp only [Bool.and_eq_true, decide_eq_true_eq] at h
  exact ⟨⟨h.1.1, h.1.2, h.2⟩, q⟩
theorem neB {j : Int} {Q : Prop} (h : decide (j ≠ 0) = true) (q : Q) : j ≠ 0 ∧ Q := ⟨of_decide_eq_true h, q⟩
theorem divB {j : Int} {Q : Prop} (h : decide (j ≠ 0) && decide (j.natAbs < 1073741824) = true) (q : Q) : DivOk j ∧ Q := by
  simp only [Bool.and_eq_true, decide_eq_true_eq] at h
  exact ⟨.inl h, q⟩
theorem mulS {i j : Int} {Q : Prop} (h : -(2 ^ 64) < i ∧ i < 2 ^ 64) (q : Q) : Vx.MulOk i j ∧ Q := ⟨.inl (.inl h), q⟩
theorem mulT {i j : Int} {Q : Prop} (h : -(2 ^ 64) < j ∧ j < 2 ^ 64) (q : Q) : Vx.MulOk i j ∧ Q := ⟨.inl (.inr h), q⟩
theorem goFor_run {s : Src} {step : D → Vx.Env → (Vx.Env → Prop) → Prop} (I : Nat → Vx.Env → Prop) (hs : ∀ i env, I i env → s.still env) (hstep : ∀ i x env K, s.xs[i]? = some x → I i env → (∀ env', I (i + 1) env' → K env') → step x env K) {env : Vx.Env} {Q : Vx.Env → Prop}
    (h0 : I 0 env) (hq : ∀ env', I s.xs.length env' → Q env') : goFor s step s.xs env Q := by
  have go : ∀ (n i : Nat) (env : Vx.Env), i + n = s.xs.length → I i env → goFor s step (s.xs.drop i) env Q := by
    intro n
    induction n with
    | zero =>
      intro i env e h
      rw [List.drop_eq_nil_of_le (by omega)]
      exact hq env (by rw [← e]; exact h)
    | succ n ih =>
      intro i env e h
      have hi : i < s.xs.length := by omega
      rw [List.drop_eq_getElem_cons hi]
      exact hstep i _ env _ (List.getElem?_eq_getElem hi) h fun env' h' => ⟨hs _ _ h', ih (i + 1) env' (by omega) h'⟩
  have := go s.xs.length 0 env (by omega) h0
  rwa [List.drop_zero] at this
theorem goComp_run {s : Src} {step : D → Vx.Env → List O → (Vx.Env → List O → Prop) → Prop} (I : Nat → Vx.Env → List O → Prop) (hs : ∀ i env acc, I i env acc → s.still env)
    (hstep : ∀ i x env acc K, s.xs[i]? = some x → I i env acc → (∀ env' acc', I (i + 1) env' acc' → K env' acc') → step x env acc K) {env : Vx.Env} {acc : List O} {Q : Vx.Env → List O → Prop}
    (h0 : I 0 env acc) (hq : ∀ env' acc', I s.xs.length env' acc' → Q env' acc') : goComp s step s.xs env acc Q := by
  have go : ∀ (n i : Nat) (env : Vx.Env) (acc : List O), i + n = s.xs.length → I i env acc → goComp s step (s.xs.drop i) env acc Q := by
    intro n
    induction n with
    | zero =>
      intro i env acc e h
      rw [List.drop_eq_nil_of_le (by omega)]
      exact hq env acc (by rw [← e]; exact h)
    | succ n ih =>
      intro i env acc e h
      have hi : i < s.xs.length := by omega
      rw [List.drop_eq_getElem_cons hi]
      exact hstep i _ env acc _ (List.getElem?_eq_getElem hi) h fun env' acc' h' => ⟨hs _ _ _ h', ih (i + 1) env' acc' (by omega) h'⟩
  have := go s.xs.length 0 env acc (by omega) h0
  rwa [List.drop_zero] at this
theorem goComp_map {s : Src} {own : List Nat} {t : Tg} {wcnd : WC} {we : WT} (f : D → O) {env0 : Vx.Env} (hl : s.xs.length ≤ 1000000) (hs : s.still env0)
    (hstep : ∀ x ∈ s.xs, ∀ acc (K : Vx.Env → List O → Prop), acc.length < sizeLine → K env0 (acc ++ [f x]) → stepC t own wcnd we x env0 acc K) {Q : Vx.Env → List O → Prop}
    (hq : Q env0 (s.xs.map f)) : goComp s (stepC t own wcnd we) s.xs env0 [] Q := by
  refine goComp_run (fun i env acc => env = env0 ∧ acc = (s.xs.take i).map f) (fun i env acc h => by rw [h.1]; exact hs) (fun i x env acc K hx h hk => ?_) ⟨rfl, rfl⟩ fun env' acc' h => ?_
  · obtain ⟨rfl, rfl⟩ := h
    refine hstep x (List.mem_of_getElem? hx) _ K ?_ (hk _ _ ⟨rfl, ?_⟩)
    · rw [List.length_map, List.length_take]
      have : (1000000 : Nat) < sizeLine := by decide
      omega
    · rw [List.take_add_one, hx, List.map_append]
      rfl
  · obtain ⟨rfl, rfl⟩ := h
    rw [List.take_length]
    exact hq
theorem log2_lt {n k : Nat} (h : n < 2 ^ k) (hk : 0 < k) : n.log2 < k := by
  by_cases h0 : n = 0
  · subst h0; simpa using hk
  · exact (Nat.log2_lt h0).2 h
structure ShowOk (x : D) : Prop where
  a : PyData.showable x = true
  b : x.hasDict = false
  c : x.shown.length ≤ sizeLine
  d : x.depth ≤ 64
end Vx
namespace Vx
open PySem PySem.Spec L2
def tyName : Ty → String
  | .int => "int"
  | .bool => "bool"
  | .str => "str"
  | .tuple => "tuple"
  | .list => "list"
def kindOfD : D → String
  | .none => "NoneType"
  | .bool _ => "bool"
  | .int _ => "int"
  | .str _ => "str"
  | .list _ => "list"
  | .tuple _ => "tuple"
  | .dict _ => "dict"
def noDict : D → Bool
  | .dict _ => false
  | _ => true
theorem kit_at : ∀ (x : D) (t : Ty), kitB (kindOfD x) (tyName t) = some (decide (t ∈ tyOf x))
  | .none, t => (by cases t <;> decide : kitB "NoneType" (tyName t) = some (decide (t ∈ ([] : List Ty))))
  | .bool _, t => (by cases t <;> decide : kitB "bool" (tyName t) = some (decide (t ∈ [Ty.bool, .int])))
  | .int _, t => (by cases t <;> decide : kitB "int" (tyName t) = some (decide (t ∈ [Ty.int])))
  | .str _, t => (by cases t <;> decide : kitB "str" (tyName t) = some (decide (t ∈ [Ty.str])))
  | .list _, t => (by cases t <;> decide : kitB "list" (tyName t) = some (decide (t ∈ [Ty.list])))
  | .tuple _, t => (by cases t <;> decide : kitB "tuple" (tyName t) = some (decide (t ∈ [Ty.tuple])))
  | .dict _, t => (by cases t <;> decide : kitB "dict" (tyName t) = some (decide (t ∈ ([] : List Ty))))
inductive KdX (K : PySem.W.Frag) (H : Hp) : V → Value → Prop
  | ty {v : V} {t : Value} (h : TyX K H v t) : KdX K H v t
  | ex {a C dx : Addr} {fs : List (Str × V)} {ns : List Str} (h : H a = some (exHO a C dx)) (h2 : H dx = some (.xd fs)) (k : ExK K C ns) : KdX K H (.ref a) (.ref C)
theorem kit_ofX {X : Cx} {pins : List (Addr × Obj)} {σ : L2.St} {H : Hp} {s : Shared} {x : V} {u t : Value} (I : L2.Inv X pins σ H s) (rx : RelV x u) (ty : KdX X.K H x t) : ∃ P : Heap → Prop, PySem.W.KitX X.K u t P ∧ P s.heap ∧ u ≠ .builtin "__main__.__loader__#opaque" := by
  cases ty with
  | ty h => exact kit_of I rx h
  | @ex a C dx fs ns h h2 k =>
    obtain rfl : u = Value.ref a := rx
    have z : ObjOk X.prog X.w H s.heap a (.ext fun h => ∃ (oe : Obj) (vs : Array Value), h.get? a = some oe ∧ L2N.Zn (.ref C) (some dx) oe ∧ oe.data = .fields vs) := I.hok a _ h
    obtain ⟨oe, vs, ha, hz, hd⟩ := z.1
    have hx : ObjOk X.prog X.w H s.heap dx (.xd fs) := I.hok dx _ h2
    obtain ⟨mA, hns, hr⟩ := hx
    obtain ⟨od, ho, hl⟩ := lookIn_ns hns
    have J : PySem.W.InstAt s.heap a oe C (some od) := ⟨ha, hz.1, by unfold PySem.W.notCls; rw [hd] <;> rfl, by rw [hz.2.1]; exact ho⟩
    have c := k.c
    obtain ⟨cd, hc, _⟩ := PySem.W.any_some c.hd
    exact ⟨_, PySem.W.kitx_exc (by rw [hc]; rfl) c.hg c.hk c.hs c.ha c.hn c.ht c.hm, J, fun z => nomatch z⟩
def rIsiX (K : PySem.W.Frag) : List V → Hp → VK → Prop := fun xs H Q => ∃ (x c : V) (t u : Value) (b : Bool), xs = [x, c] ∧ ClsV c u ∧ KdX K H x t ∧ PySem.W.kitOne K t u = some b ∧ Q (.bl b) H
def rIsiTX (K : PySem.W.Frag) : List V → Hp → VK → Prop := fun xs H Q => ∃ (x : V) (tp : Addr) (cs : List V) (t : Value) (us : List Value) (b : Bool), xs = [x, .ref tp] ∧ H tp = some (.tup cs) ∧ Paired ClsV cs us ∧ KdX K H x t ∧ PySem.W.kitAny K t us = some b ∧ Q (.bl b) H
theorem call_isiX {X : Cx} : CallR X (.builtin "isinstance") (rIsiX X.K) := by
  intro pins s σ H xs us Q I r h
  obtain ⟨x, c, t, u, b, rfl, k, ty, e, q⟩ := h
  obtain ⟨u1, u2, rfl, r1, r2⟩ := vals2 r
  have e2 := k.eq r2
  subst e2
  obtain ⟨P, Z, p, hx⟩ := kit_ofX I r1 ty
  exact PySem.W.kia_one Z I.kIn p e hx fun tk => ⟨.bl b, H, I.tok tk, rfl, q⟩
theorem call_isiTX {X : Cx} : CallR X (.builtin "isinstance") (rIsiTX X.K) := by
  intro pins s σ H xs us Q I r h
  obtain ⟨x, tp, cs, t, ws, b, rfl, hT, k, ty, e, q⟩ := h
  obtain ⟨u1, u2, rfl, r1, r2⟩ := vals2 r
  cases (show u2 = Value.ref tp from r2)
  obtain ⟨P, Z, p, hx⟩ := kit_ofX I r1 ty
  obtain ⟨_, its, rv, o, h1, h2, n, h3⟩ := (show ObjOk X.prog X.w H s.heap tp (.tup cs) from I.hok tp _ hT)
  have e3 := ClsV.all k rv
  subst e3
  obtain ⟨oc, od, dt, sl⟩ := o
  simp only at h2 h3
  subst h2 h3
  exact PySem.W.kia_tup Z I.kIn p h1 e hx fun tk => ⟨.bl b, H, I.tok tk, rfl, q⟩
theorem exK_sub {K : PySem.W.Frag} {C : Addr} {ns : List Str} (k : ExK K C ns) (T : String) : PySem.W.subIn K (.ref C) (.type T) = some (PySem.HandSPX.veTail.contains (.type T)) := by
  obtain ⟨nm, q, N, bs, bm, sn, sub, ab, col, dd, k0, k1, k2, k3, k5, hC, hbm⟩ := k.o.cls
  show PySem.W.mroIn K C (.type T) = _
  unfold PySem.W.mroIn PySem.W.clsIn
  rw [hC]
  show (if (Value.ref C :: bm).isEmpty = true then none else some ((Value.ref C :: bm).contains (.type T))) = _
  rw [if_neg (fun h : (Value.ref C :: bm).isEmpty = true => by cases h)]
  rw [List.contains_cons, show ((Value.type T) == Value.ref C) = false from rfl, Bool.false_or, PySem.HandSPX.refsVE_contains T bm hbm]
theorem exK_ty {K : PySem.W.Frag} {C : Addr} {ns : List Str} (k : ExK K C ns) {T : String} (hm : PySem.W.kitMeta T = true) : PySem.W.kitOne K (.ref C) (.type T) = some (PySem.HandSPX.veTail.contains (.type T)) := by
  show (if (Value.ref C == Value.type T) = true then some true else if PySem.W.kitMeta T = true then PySem.W.subIn K (.ref C) (.type T) else none) = _
  rw [if_neg (by rw [show (Value.ref C == Value.type T) = false from rfl]; decide), if_pos hm, exK_sub k]
theorem ud_tyD {K : PySem.W.Frag} {S : Fz} {H : Hp} {v : V} : ∀ {x : D}, noDict x = true → Ud K S H v x → TyX K H v (.type (kindOfD x))
  | .dict _, h, _ => nomatch h
  | .none, _, u => by obtain rfl := u.non; exact .base .non
  | .bool b, _, u => by obtain rfl := u.bool; exact .base (.bl b)
  | .int i, _, u => by obtain rfl := u.int; exact .base (.int i)
  | .str i, _, u => by obtain rfl := u.str; exact .base (.str i)
  | .list ds, _, u => by
    obtain ⟨a, vs, rfl, hq, _⟩ := u.list
    rcases hq with (h | ⟨o, h⟩) | ⟨o, its, n, h, hc, _⟩
    · exact .base (.lst h)
    · exact .base (.frz h)
    · exact .kList h hc
  | .tuple ds, _, u => by
    obtain ⟨a, vs, rfl, hq, _⟩ := u.tup
    rcases hq with (h | ⟨o, h⟩) | ⟨o, its, n, h, hc, _⟩
    · exact .base (.tup h)
    · exact .fTuple h
    · exact .kTuple h hc
theorem ud_kd {K : PySem.W.Frag} {S : Fz} {H : Hp} {v : V} {x : D} (u : Ud K S H v x) : ∃ t, KdX K H v t ∧ ∀ ty : Ty, PySem.W.kitOne K t (.type (tyName ty)) = some (decide (ty ∈ tyOf x)) := by
  cases hx : noDict x with
  | true => exact ⟨_, .ty (ud_tyD hx u), fun ty => kit_ty (kit_at x ty)⟩
  | false =>
    cases x with
    | dict ds =>
      rcases u with u | ⟨_, _, _, _, h, _⟩
      · cases u with
        | dct _ e _ _ => exact ⟨_, .ty (.base (.dK e)), fun ty => kit_ty (kit_at (.dict []) ty)⟩
        | dcl _ e _ _ _ => exact ⟨_, .ty (.fDict e), fun ty => kit_ty (kit_at (.dict []) ty)⟩
        | ins _ e _ hk _ => exact ⟨_, .ty (.base (.ins e hk.c hk.ha hk.hn hk.ht hk.hm)), fun ty => by rw [hk.ty _ (by cases ty <;> decide +kernel)]; cases ty <;> rfl⟩
        | ex _ _ e e2 _ _ k _ => exact ⟨_, .ex e e2 k, fun ty => by rw [exK_ty k (by cases ty <;> decide +kernel)]; cases ty <;> rfl⟩
      · cases h
    | _ => cases hx
section
variable {X : Cx} {B : Bs} {Wx : WX} {a b c e o : Expr} {wa wb wc we wo wi : WT} {pos : Pos} {es : List Expr} {wl : WA}
theorem c_isi (t : Ty) {tn : Str} {p p2 : Pos} (hg : Gl X "isinstance") (hm : X.mg "isinstance" = none) (hv : bootBuiltins "isinstance" = some (.builtin "isinstance")) (hg2 : Gl X tn) (hm2 : X.mg tn = none) (hv2 : bootBuiltins tn = some (.type (tyName t)))
    (hn2 : tn ≠ "__name__") (hd2 : (tn == ("__debug__" : Str)) = false) (he : PV X B Wx e we)
    (hs1 : starEach [e, .Name tn p2] X.env = (false, eval e X.env) :: starEach [.Name tn p2] X.env) (hs2 : starEach [.Name tn p2] X.env = (false, eval (.Name tn p2) X.env) :: starEach [] X.env) (hpl : (backTo pos (starEach [.Name tn p2] X.env)).any (·.1) = false) :
    Snd X B Wx (.Call (.Name "isinstance" p) [e, .Name tn p2] [] pos) (wPrim (.isi t) (aCons we aNil)) := by
  have h1 : PE X (.Call (.Name "isinstance" p) [e, .Name tn p2] [] pos) (tCB (rIsiX X.K) (tCons (tE X B Wx we) (tCons (tC (.ty (tyName t))) tNil))) :=
    pe_callB call_isiX hg hm hv (pa_cons he (pa_cons (pe_bltn hg2 hm2 hv2 rfl hn2 hd2) pa_nil hs2) hs1) (by decide) (by decide) hs1 hpl
  have h2 : PV X B Wx (.Call (.Name "isinstance" p) [e, .Name tn p2] [] pos) (wPrim (.isi t) (aCons we aNil)) := by
    refine PE_imp h1 fun σ H Q ⟨S, env, T, P, PX, r, hw, hP, hX⟩ => ?_
    refine ⟨S, env, T, _, PX, r, hw, fun x env1 v S1 H1 q r1 => ?_, hX⟩
    have q : useW x env1 fun d => P (.o (.d (.bool (decide (t ∈ tyOf d))))) env1 := q
    have rr : R X.K B S1 H1 σ env1 ([(v, x)] ++ T) := r1
    obtain ⟨S2, r2, f⟩ := rr.used
    obtain ⟨d, q, u⟩ := f (v, x) List.mem_cons_self _ q
    obtain ⟨tv, ty, hk⟩ := ud_kd u
    refine ⟨v, .ty (tyName t), _, _, _, rfl, .ty _, ty, hk t, ?_⟩
    exact hP _ _ _ _ _ q (r2.pops.push (.bl _))
  exact snd_plain h2 (by intro _; rfl)
end
end Vx
namespace Vx
open PySem PySem.Spec L2
section
variable {X : Cx} {B : Bs} {Wx : WX} {a b c e o : Expr} {wa wb wc we wo wi : WT} {pos : Pos} {es : List Expr} {wl : WA}
def listAt (env : Env) (i : Nat) (p : List Stp) (a : Addr) : Prop := match envAt env i p with
  | some (.obj b .lst _) => b = a
  | _ => False
def wAppend (wo : WT) (wl : WA) : WT := fun PX env P => wo PX env fun t env1 => match t with
  | .al a i p => listAt env1 i p a ∧ wl PX env1 fun ws env2 => inWs ws env2 fun os env3 => match os with
    | [o] => match envAt env3 i p with
      | some (.obj b .lst xs) => b = a ∧ xs.length < sizeLine ∧ P (.o (.d .none)) (envPut env3 i p (.lst b (xs ++ [o])))
      | _ => False
    | _ => False
  | _ => False
theorem c_append {cpos apos : Pos} (ho : PV X B Wx o wo) (ha : SndA X B Wx [e] wl) (hbase : attributeBase o "append" X.env (eval o X.env) = eval o X.env)
    (hfew : ((backTo cpos (starEach [e] X.env)).all (fun x => !x.1) && (backToKw cpos (keywordEach [] X.env)).all (fun x => x.1.isSome) && decide ([e].length + ([] : List Keyword).length + (if ([] : List Keyword).isEmpty then 0 else 1) < 30)) = true)
    (hline : (apos.endLine == cpos.line) = true) (hs : starEach [e] X.env = (false, eval e X.env) :: starEach [] X.env) (hplain : (backTo cpos (starEach [] X.env)).any (·.1) = false) :
    PV X B Wx (.Call (.Attribute o "append" apos) [e] [] cpos) (wAppend wo wl) := by
  refine PE_imp (pe_bm PySem.F.plainAttrs_list PySem.F.slot_list_append PySem.F.type_list_append mt_append ho ha hbase hfew hline hs hplain) fun σ H Q ⟨S, env, T, P, PX, r, hw, hP, hX⟩ => ?_
  refine ⟨S, env, T, _, PX, r, hw, fun t env1 vt S1 H1 hq r1 => ?_, hX⟩
  cases t with
  | o _ => exact hq.elim
  | al a i p =>
    have et : vt = .ref a := r1.tmps (vt, .al a i p) List.mem_cons_self
    subst et
    obtain ⟨hat, hq⟩ := hq
    refine ⟨?_, ?_⟩
    · unfold listAt at hat
      cases ee : envAt env1 i p with
      | none => simp only [ee] at hat
      | some y =>
        simp only [ee] at hat
        cases y with
        | d _ => exact hat.elim
        | tup _ => exact hat.elim
        | obj b k xs =>
          cases k with
          | dct _ => exact hat.elim
          | ins _ _ _ _ => exact hat.elim
          | dctL _ _ => exact hat.elim
          | lst =>
            have hat : b = a := hat
            subst hat
            obtain ⟨vs, hv, _⟩ := r1.seenAt ee
            exact .inl ⟨rfl, vs, .inl (.inl hv)⟩
    · refine ⟨S1, env1, (.ref a, .al a i p) :: T, _, PX, r1, hq, fun env2 Z S2 H2 h2 r2 => ?_, hX⟩
      obtain ⟨os, env3, S3, q, hl, r3, ow, hc⟩ := intos_top r2 h2
      cases os with
      | nil => exact q.elim
      | cons o1 os =>
        cases os with
        | cons _ _ => exact q.elim
        | nil =>
          cases Z with
          | nil => cases hl
          | cons z Z =>
            cases Z with
            | cons _ _ => cases hl
            | nil =>
              obtain ⟨y, w⟩ := z
              have r4 : R X.K B S3 H2 σ env3 ((y, .o o1) :: (.ref a, .al a i p) :: T) := r3
              have r5 : R X.K B S3 H2 σ env3 ((y, .o o1) :: T) := r4.perm (fun t ht => by
                rcases List.mem_cons.mp ht with e | ht
                · rw [e]; exact List.mem_cons_self
                · exact List.mem_cons_of_mem _ (List.mem_cons_of_mem _ ht)) fun b => by
                show o1.cnt b + cntT b T ≤ o1.cnt b + (0 + cntT b T)
                omega
              cases ee : envAt env3 i p with
              | none => simp only [ee] at q
              | some y2 =>
                simp only [ee] at q
                cases y2 with
                | d _ => exact q.elim
                | tup _ => exact q.elim
                | obj b k xs =>
                  cases k with
                  | dct _ => exact q.elim
                  | ins _ _ _ _ => exact q.elim
                  | dctL _ _ => exact q.elim
                  | lst =>
                    obtain ⟨hb, hz, q⟩ := q
                    subst hb
                    obtain ⟨vs, hv, hvl, _, _, ra⟩ := r5.setAt ee
                    exact ⟨b, vs, y, rfl, rfl, hv, by rw [hvl]; exact hz, hP _ _ _ _ _ q (ra .lst True.intro).pushNone⟩
end
end Vx
namespace Vx
open PySem PySem.Spec L2
def strsOf : List D → Option (List Str)
  | [] => some []
  | .str x :: ds => (strsOf ds).map (x :: ·)
  | _ :: _ => none
theorem strsOf_eq : ∀ {ds : List D} {ys : List Str}, strsOf ds = some ys → ds = ys.map PyData.str
  | [], _, h => by cases h; rfl
  | d :: ds, ys, h => by
    cases d with
    | str x =>
      have h : (strsOf ds).map (x :: ·) = some ys := h
      cases e : strsOf ds with
      | none => rw [e] at h; cases h
      | some zs =>
        rw [e] at h
        cases h
        rw [strsOf_eq e]; rfl
    | _ => cases h
theorem strsOf_map : ∀ (ys : List Str), strsOf (ys.map PyData.str) = some ys
  | [] => rfl
  | y :: ys => by
    show (strsOf (ys.map PyData.str)).map (y :: ·) = _
    rw [strsOf_map ys]; rfl
inductive SMeth | index | join
def SMeth.run : SMeth → Str → D → (D → Prop) → Prop
  | .index, x, .str b, Q => onSome (Builtin.Str.occurrences x b 0 x.length 1).head? fun i => Q (.int (i : Nat))
  | .join, x, .list ds, Q => onSome (strsOf ds) fun ys => (ys.map (·.length)).sum + ys.length * x.length ≤ 16777216 ∧ Q (.str (Txt.join x ys))
  | .join, x, .tuple ds, Q => onSome (strsOf ds) fun ys => (ys.map (·.length)).sum + ys.length * x.length ≤ 16777216 ∧ Q (.str (Txt.join x ys))
  | _, _, _, _ => False
end Vx
namespace Vx
open PySem PySem.Spec L2
def letters (x : Str) : List D := x.cps.toList.map fun c => PyData.str ⟨#[c]⟩
section
variable {X : Cx} {B : Bs} {Wx : WX} {a b c e o : Expr} {wa wb wc we wo wi : WT} {pos : Pos} {es : List Expr} {wl : WA}
theorem Goes.str {x : Str} : Goes X B (L2.Its x) ⟨letters x, none⟩ [] := by
  refine ⟨fun S H σ env T i r _ hi => ?_, fun S H σ env T i v H' d r _ y hd => ?_, fun S H σ env T i r _ hi => ?_⟩
  · have hi' : i < (letters x).length := hi
    unfold letters at hi'
    rw [List.length_map, Array.length_toList] at hi'; exact hi'
  · obtain ⟨rfl, c, hc, rfl⟩ := y
    have hd' : (letters x)[i]? = some d := hd
    unfold letters at hd'
    rw [List.getElem?_map, Array.getElem?_toList, hc] at hd'
    cases hd'
    exact r.push (.str _)
  · have hi' : (letters x).length ≤ i := hi
    unfold letters at hi'
    rw [List.length_map, Array.length_toList] at hi'; exact hi'
def iS (we : WT) : WI := fun PX env P => we PX env fun w env1 => match w with
  | .o (.d (.str x)) => P ⟨letters x, none⟩ env1
  | _ => False
theorem i_s {tg : Expr} (h : PV X B Wx a wa) : PI X tg a (tI X B Wx (iS wa)) := by
  refine PI_imp (pi_str h) fun σ H Rk ⟨S, env, T, P, PX, r, hw, hP, hX⟩ => ?_
  refine ⟨S, env, T, _, PX, r, hw, fun x env1 vx S1 H1 hq r1 => ?_, hX⟩
  cases x with
  | al _ _ _ => exact hq.elim
  | o x =>
    cases x with
    | tup _ => exact hq.elim
    | obj _ _ _ => exact hq.elim
    | d d =>
      cases d with
      | str x =>
        have rx := r1.dataTop
        cases rx
        exact ⟨x, rfl, hP _ _ _ _ _ [] hq r1.pop Goes.str trivial⟩
      | _ => exact hq.elim
end
end Vx
namespace Vx
open PySem PySem.Spec L2
abbrev DSem := List D → (O → Prop) → Prop
def BltOk (X : Cx) (fv : Value) (f : DSem) : Prop :=
  ∀ (pins : List (Addr × Obj)) (s : Shared) (σ : L2.St) (H : Hp) (vs : List V) (us : List Value) (Q : VK) (B : Bs) (S : Fz) (env : Env) (T : List (V × W)) (ds : List D) (k : O → Prop),
    L2.Inv X pins σ H s → Vals vs us → R X.K B S H σ env T → UdA X.K S H vs ds → f ds k → (∀ o v S' H', k o → R X.K B S' H' σ env ((v, .o o) :: T) → Q v H') →
    wpAny (model X.prog X.w) X.A (call fv us) (EP X pins σ Q) X.xe s
def wBlt (f : DSem) (wl : WA) : WT := fun PX env P => wl PX env fun ws env1 => useWs ws env1 fun ds => f ds fun o => P (.o o) env1
section
variable {X : Cx} {B : Bs} {Wx : WX} {a b c e o : Expr} {wa wb wc we wo wi : WT} {pos : Pos} {es : List Expr} {wl : WA}
theorem blt_run {f : DSem} {fv : Value} (ok : BltOk X fv f) (ha : SndA X B Wx es wl) {pins : List (Addr × Obj)} {s : Shared} {σ : L2.St} {H : Hp} {Q : VK} (I : L2.Inv X pins σ H s) (h : tE X B Wx (wBlt f wl) σ H Q) :
    ∃ Qa : List V → Hp → Prop, tA' X B Wx wl σ H Qa ∧ ∀ us s1 vs H1, L2.Inv X pins σ H1 s1 → Vals vs us → Qa vs H1 → wpAny (model X.prog X.w) X.A (call fv us) (EP X pins σ Q) X.xe s1 := by
  obtain ⟨S, env, T, P, PX, r, hw, hP, hX⟩ := h
  refine ⟨fun vs H1 => ∃ S1 env1 ds, R X.K B S1 H1 σ env1 T ∧ UdA X.K S1 H1 vs ds ∧ f ds fun o => P (.o o) env1, ⟨S, env, T, _, PX, r, hw, fun env1 Z S1 H1 q r1 => ?_, hX⟩, fun us s1 vs H1 I1 rv ⟨S1, env1, ds, r1, ud, q⟩ => ?_⟩
  · obtain ⟨S2, ds, r2, q, ud⟩ := r1.usedAll q
    exact ⟨S2, env1, ds, r2.pops, ud, q⟩
  · exact ok pins s1 σ H1 vs us Q B S1 env1 T ds _ I1 rv r1 ud q fun o v S' H' q r2 => hP _ _ _ _ _ q r2
theorem c_bltT {f : DSem} {id : String} {x : Str} {np : Pos} (ok : BltOk X (.type id) f) (hg : Gl X x) (hm : X.mg x = none) (hb : bootBuiltins x = some (.type id)) (ha : SndA X B Wx (e :: es) wl) (hn : x ≠ "__name__") (hd : (x == ("__debug__" : Str)) = false)
    (he : starEach (e :: es) X.env = (false, eval e X.env) :: starEach es X.env) (hpl : (backTo pos (starEach es X.env)).any (·.1) = false) : PV X B Wx (.Call (.Name x np) (e :: es) [] pos) (wBlt f wl) := by
  refine ⟨fun pins s σ H Q I h => ?_⟩
  obtain ⟨Qa, h2, run⟩ := blt_run ok ha I h
  exact wpAny_Call_Name_kw (ld_blt I hg hm hb (PyProof.Rows.callWith_type1 (thn (ha.run pos pins s σ H Qa I h2) fun us s1 ⟨vs, H1, I1, rv, q⟩ => run us s1 vs H1 I1 rv q) he hpl) hn hd)
end
end Vx
namespace Vx
open PySem PySem.Spec L2
def wRevL (we : WT) : WT := fun PX env P => we PX env fun w env1 => useWs [w] env1 fun ds => match ds with
  | [.list xs] => ∀ a, P (.o (.lst a (xs.reverse.map O.d))) env1
  | _ => False
section
variable {X : Cx} {B : Bs} {Wx : WX} {a b c e o : Expr} {wa wb wc we wo wi : WT} {pos : Pos} {es : List Expr} {wl : WA}
theorem cntL_data {b : Addr} : ∀ ds : List D, O.cntL b (ds.map O.d) = 0
  | [] => rfl
  | d :: ds => by show 0 + O.cntL b (ds.map O.d) = 0; rw [cntL_data ds]
theorem RpA.rev {K : PySem.W.Frag} {S : Fz} {H : Hp} : ∀ {vs : List V} {ds : List D}, RpA K S H vs ds → OwnA K S H vs.reverse (ds.reverse.map O.d)
  | _, _, .nil => .nil
  | v :: vs, d :: ds, .cons r t => by
    rw [List.reverse_cons, List.reverse_cons, List.map_append]
    exact (RpA.rev t).append (.cons (.d r) .nil)
theorem c_revL {k : Nat} {p1 p2 p3 : Pos} (h : PV X B Wx e we) : PV X B Wx (.Subscript e (.Slice none none (some (.UnaryOp .USub (.Constant (.int 1) k p1) p2)) p3) pos) (wRevL we) := by
  refine PE_imp (pe_revL h) fun σ H Q ⟨S, env, T, P, PX, r, hw, hP, hX⟩ => ?_
  refine ⟨S, env, T, _, PX, r, hw, fun w env1 v S1 H1 hq r1 => ?_, hX⟩
  have r1' : R X.K B S1 H1 σ env1 ([(v, w)] ++ T) := r1
  obtain ⟨S2, ds, r2, q, ud⟩ := r1'.usedAll hq
  have r3 : R X.K B S2 H1 σ env1 T := r2.pops
  replace ud : UdA X.K S2 H1 [v] ds := ud
  cases ud with
  | cons u us =>
    cases us
    rename_i d
    cases d with
    | list xs =>
      obtain ⟨p, vs, rfl, hq, ra⟩ := u.list
      refine ⟨p, vs, rfl, hq, fun p' hp => ?_⟩
      have r4 : R X.K B S2 H1 σ env1 ([] ++ T) := r3
      exact hP _ _ _ _ _ (q p') (R.newLst (P := []) r4 hp ra.rev fun b => by rw [cntL_data]; exact Nat.zero_le _)
    | _ => exact q.elim
end
end Vx
namespace Vx
open PySem PySem.Spec L2
theorem R.renewAt {B : Bs} {S : Fz} {H : Hp} {σ : L2.St} {env : Env} {T : List (V × W)} {K : PySem.W.Frag} {a : Addr} {i : Nat} {p : List Stp} {xs : List O} (r : R K B S H σ env T) (h : envAt env i p = some (.lst a xs)) {us : List V} {ys : List O}
    (how : ∀ {vs : List V} {H' : Hp}, H a = some (.lst vs) → OwnA K S H vs xs → OwnA K S H us ys) (hc : ∀ b, O.cntL b ys ≤ O.cntL b xs) :
    R K B S (upd H a (.lst us)) σ (envPut env i p (.lst a ys)) T := by
  obtain ⟨vs, e, ow⟩ := r.seenAt h
  obtain ⟨oo, eo, ha⟩ := envAt_some h
  have hoc : ∀ b, oo.cnt b ≤ cntE b env := fun b => cntE_get eo
  obtain ⟨vv, _, qq⟩ := r.slots i oo eo
  obtain ⟨_, q', hle⟩ := qq.at ha
  have hone : ∀ b, cntE b env + cntT b T ≤ 1 := r.one
  have hself : 1 ≤ (O.lst a xs).cnt a := by show 1 ≤ (if a = a then 1 else 0) + O.cntL a xs; rw [if_pos rfl]; omega
  have ha1 : ∀ b, (O.lst a xs).cnt b + cntT b T ≤ 1 := fun b => by have := hone b; have := hoc b; have := hle b; omega
  have nS : ¬ S a := fun z => by have h1 : cntE a env + cntT a T = 0 := r.apart a z; have := hoc a; have := hle a; omega
  have nT : cntT a T = 0 := by have := ha1 a; omega
  have cl : ∀ b, (O.lst a xs).cnt b = (if a = b then 1 else 0) + O.cntL b xs := fun b => rfl
  have nx : O.cntL a xs = 0 := by have := ha1 a; have := cl a; rw [if_pos rfl] at this; omega
  have other : ∀ (u : HO) b, a ≠ b → upd H a u b = H b := fun us b z => upd_ne (Ne.symm z)
  have kp : Kp S S H (upd H a (.lst us)) := Kp.putO e rfl nS
  have r' : R K B S H σ env ([] ++ T) := r
  refine R.putAt (P := []) r' h kp (fun w qw => ?_) (fun t ht qt => ?_) (fun b hb h0 h1 => ?_) (fun b => ?_) (fun b hb => .inl hb) (fun b hb => ?_) (fun b u hb h0 h1 => ?_) fun b hb => ?_
  · have : w = .ref a := qw.ref rfl
    rw [this]
    refine .obj upd_same True.intro ((how (H' := H) e ow).kp kp fun b hb => other _ b fun z => ?_)
    subst z
    have := hc a
    omega
  · refine qt.kp kp fun b hb => other _ b fun z => ?_
    subst z
    have h3 : cntW a t.2 ≤ cntT a T := cntT_mem (b := a) ht
    omega
  · refine other _ b fun z => ?_
    subst z; omega
  · show (if a = b then 1 else 0) + O.cntL b ys ≤ (O.lst a xs).cnt b + 0
    have := hc b; have := cl b
    omega
  · rw [kp.h b hb]; exact r.sH b hb
  · rw [other _ b fun z => by subst z; omega]; exact hb
  · by_cases z : a = b
    · subst z; rw [upd_same] at hb; cases hb
    · rw [other _ b z] at hb; exact hb
end Vx
namespace Vx
open PySem PySem.Spec L2
theorem OwnA.reverse {K : PySem.W.Frag} {S : Fz} {H : Hp} : ∀ {vs : List V} {os : List O}, OwnA K S H vs os → OwnA K S H vs.reverse os.reverse
  | _, _, .nil => .nil
  | _, _, .cons r t => by
    rw [List.reverse_cons, List.reverse_cons]
    exact (OwnA.reverse t).append (.cons r .nil)
theorem O.cntL_reverse {b : Addr} : ∀ (os : List O), O.cntL b os.reverse = O.cntL b os
  | [] => rfl
  | o :: os => by
    rw [List.reverse_cons, O.cntL_append, O.cntL_reverse os]
    show O.cntL b os + (O.cnt b o + 0) = O.cnt b o + O.cntL b os
    omega
def wReverse (wo : WT) : WT := fun PX env P => wo PX env fun t env1 => match t with
  | .al a i p => match envAt env1 i p with
    | some (.obj b .lst xs) => b = a ∧ P (.o (.d .none)) (envPut env1 i p (.lst b xs.reverse))
    | _ => False
  | _ => False
section
variable {X : Cx} {B : Bs} {Wx : WX} {a b c e o : Expr} {wa wb wc we wo wi : WT} {pos : Pos} {es : List Expr} {wl : WA}
theorem alTop {S : Fz} {H : Hp} {σ : L2.St} {env : Env} {T : List (V × W)} {K : PySem.W.Frag} {v : V} {t : W} {f : Addr → List O → Nat → List Stp → Prop} (r : R K B S H σ env ((v, t) :: T))
    (q : match (motive := W → Prop) t with
      | .al a i p => match envAt env i p with
        | some (.obj b .lst xs) => b = a ∧ f b xs i p
        | _ => False
      | _ => False) : ∃ a i p xs vs, v = .ref a ∧ envAt env i p = some (.lst a xs) ∧ H a = some (.lst vs) ∧ OwnA K S H vs xs ∧ R K B S H σ env T ∧ f a xs i p := by
  cases t with
  | o _ => exact q.elim
  | al a i p =>
    have et : v = .ref a := r.tmps (v, .al a i p) List.mem_cons_self
    cases ee : envAt env i p with
    | none => simp only [ee] at q
    | some y =>
      simp only [ee] at q
      cases y with
      | d _ => exact q.elim
      | tup _ => exact q.elim
      | obj b k xs =>
        cases k with
        | dct _ => exact q.elim
        | ins _ _ _ _ => exact q.elim
        | dctL _ _ => exact q.elim
        | lst =>
          obtain ⟨hb, q⟩ := q
          subst hb
          obtain ⟨vs, hv, ow⟩ := r.seenAt ee
          exact ⟨b, i, p, xs, vs, et, ee, hv, ow, r.perm (fun t ht => List.mem_cons_of_mem _ ht) fun c => by show cntT c T ≤ 0 + cntT c T; omega, q⟩
theorem c_reverse {cpos apos : Pos} (ho : PV X B Wx o wo) (hbase : attributeBase o "reverse" X.env (eval o X.env) = eval o X.env) (hline : (apos.endLine == cpos.line) = true) :
    PV X B Wx (.Call (.Attribute o "reverse" apos) [] [] cpos) (wReverse wo) := by
  refine PE_imp (pe_bm0 PySem.F.plainAttrs_list PySem.F.slot_list_reverse PySem.F.type_list_reverse mt_reverse ho hbase hline) fun σ H Q ⟨S, env, T, P, PX, r, hw, hP, hX⟩ => ?_
  refine ⟨S, env, T, _, PX, r, hw, fun t env1 vt S1 H1 hq r1 => ?_, hX⟩
  obtain ⟨a, i, p, xs, vs, rfl, ee, hv, ow, r2, q⟩ := alTop r1 (f := fun b xs i p => P (.o (.d .none)) (envPut env1 i p (.lst b xs.reverse))) hq
  refine ⟨.inl ⟨rfl, vs, .inl (.inl hv)⟩, a, vs, rfl, rfl, hv, hP _ _ _ _ _ q (r2.renewAt ee (fun {vs'} {_} e2 o2 => ow.reverse) fun b => ?_).pushNone⟩
  rw [O.cntL_reverse]; exact Nat.le_refl _
end
end Vx
namespace Vx
open PySem PySem.Spec L2
@[irreducible] def Nx (u : WS) (PX : Exn → Env → Prop) (env : Env) (k : Kt) : Prop := u PX env k
theorem nx_in {u : WS} {PX : Exn → Env → Prop} {env : Env} {k : Kt} (h : u PX env k) : Nx u PX env k := by unfold Nx; exact h
theorem nx_out {u : WS} {PX : Exn → Env → Prop} {env : Env} {k : Kt} (h : Nx u PX env k) : u PX env k := by unfold Nx at h; exact h
theorem nx_eq {u : WS} {PX : Exn → Env → Prop} {env : Env} {k : Kt} : Nx u PX env k = u PX env k := by unfold Nx; rfl
structure KOk (k : Kt) (X : Exn → Env → Prop) (os : List O) (P : O → List O → Prop) (PX : Exn → List O → Prop) : Prop where
  rt : ∀ x env, (retW os x env fun r env' => backsW 0 os env' fun os' => P r os') → k.rt x env
  nx : ∀ env, (backsW 0 os env fun os' => P (.d .none) os') → k.nx env
  ex : ∀ ex env, (backsW 0 os env fun os' => PX ex os') → X ex env
theorem sem_go {w : WS} {n : Nat} {os : List O} {P : O → List O → Prop} {PX : Exn → List O → Prop} (h : ∀ (k : Kt) (X : Exn → Env → Prop), KOk k X os P PX → Nx w X (start n os) k) : semW w n os P PX :=
  nx_out (h _ _ ⟨fun _ _ h => h, fun _ h => h, fun _ _ h => h⟩)
theorem rt_go {k : Kt} {X : Exn → Env → Prop} {os : List O} {P : O → List O → Prop} {PX : Exn → List O → Prop} {x : W} {env : Env} (h : KOk k X os P PX) (q : retW os x env fun r env' => backsW 0 os env' fun os' => P r os') : k.rt x env := h.rt x env q
section
variable {u wb wx wy : WS} {we wo wi wc : WT} {wI : WI} {t : Tg} {PX : Exn → Env → Prop} {env : Env} {k : Kt}
theorem nx_nil (h : k.nx env) : Nx sNil PX env k := nx_in h
theorem nx_asg (h : we PX env fun w env1 => bindT t w env1 fun env2 => Nx u PX env2 k) : Nx (sCons (sAsg t we) u) PX env k := nx_in (by
  rw [show (fun w env1 => bindT t w env1 fun env2 => Nx u PX env2 k) = (fun w env1 => bindT t w env1 fun env2 => u PX env2 k) from by funext w env1; congr; funext env2; exact nx_eq] at h
  exact h)
theorem nx_set (h : we PX env fun w env1 => inW w env1 fun x env2 => wo PX env2 fun t env3 => wi PX env3 fun n env4 => setW t n x env4 fun env5 => Nx u PX env5 k) : Nx (sCons (sSetIx we wo wi) u) PX env k := nx_in (by
  have e : (fun env5 => Nx u PX env5 k) = fun env5 => u PX env5 k := by funext env5; exact nx_eq
  rw [e] at h
  exact h)
theorem nx_expr (h : we PX env fun _ env1 => Nx u PX env1 k) : Nx (sCons (sExpr we) u) PX env k := nx_in (by
  have e : (fun (_ : W) env5 => Nx u PX env5 k) = fun _ env5 => u PX env5 k := by funext _ env5; exact nx_eq
  rw [e] at h
  exact h)
theorem nx_ret (h : we PX env k.rt) : Nx (sCons (sRet we) u) PX env k := nx_in h
theorem nx_retN (h : k.rt (.o (.d .none)) env) : Nx (sCons sRetN u) PX env k := nx_in h
theorem nx_pass (h : Nx u PX env k) : Nx (sCons sPass u) PX env k := nx_in (by rw [nx_eq] at h; exact h)
theorem nx_brk (h : k.bk env) : Nx (sCons sBrk u) PX env k := nx_in h
theorem nx_cnt (h : k.ct env) : Nx (sCons sCnt u) PX env k := nx_in h
theorem nx_if (h : wc PX env fun x env1 => tst x fun t => if t = true then Nx wx PX env1 ⟨fun env2 => Nx u PX env2 k, k.rt, k.bk, k.ct⟩ else Nx wy PX env1 ⟨fun env2 => Nx u PX env2 k, k.rt, k.bk, k.ct⟩) : Nx (sCons (sIf wc wx wy) u) PX env k := nx_in (by
  have e : (fun env5 => Nx u PX env5 k) = fun env5 => u PX env5 k := by funext env5; exact nx_eq
  rw [e] at h
  simp only [nx_eq] at h
  exact h)
def stepN (t : Tg) (wb u : WS) (PX : Exn → Env → Prop) (k : Kt) : D → Env → (Env → Prop) → Prop := fun x env2 K => bindT t (.o (.d x)) env2 fun env3 => Nx wb PX env3 ⟨K, k.rt, fun env4 => Nx u PX env4 k, K⟩
theorem nx_for0 (h : wI PX env fun s env1 => goFor s (stepN t wb u PX k) s.xs env1 fun env2 => Nx u PX env2 k) : Nx (sCons (sFor t wI wb) u) PX env k := nx_in (by
  have e : (fun env5 => Nx u PX env5 k) = fun env5 => u PX env5 k := by funext env5; exact nx_eq
  have e2 : (fun s env1 => goFor s (stepN t wb u PX k) s.xs env1 fun env2 => Nx u PX env2 k) = fun s env1 => goFor s (forStep t wb PX { k with nx := fun env1 => u PX env1 k }) s.xs env1 fun env2 => u PX env2 k := by
    have e3 : stepN t wb u PX k = forStep t wb PX { k with nx := fun env1 => u PX env1 k } := by
      funext x env2 K
      unfold stepN forStep
      rw [e]
      congr
      funext env3
      exact nx_eq
    rw [e3, e]
  rw [e2] at h
  exact h)
@[irreducible] def LoopF (s : Src) (step : D → Env → (Env → Prop) → Prop) (env : Env) (Q : Env → Prop) : Prop := goFor s step s.xs env Q
theorem loop_go {s : Src} {step : D → Env → (Env → Prop) → Prop} {env : Env} {Q : Env → Prop} (h : goFor s step s.xs env Q) : LoopF s step env Q := by unfold LoopF; exact h
theorem loop_eq {s : Src} {step : D → Env → (Env → Prop) → Prop} {env : Env} {Q : Env → Prop} : LoopF s step env Q = goFor s step s.xs env Q := by unfold LoopF; rfl
theorem nx_for (h : wI PX env fun s env1 => LoopF s (stepN t wb u PX k) env1 fun env2 => Nx u PX env2 k) : Nx (sCons (sFor t wI wb) u) PX env k := nx_for0 (by
  simp only [loop_eq] at h
  exact h)
theorem loop_run {s : Src} {step : D → Env → (Env → Prop) → Prop} (I : Nat → Env → Prop) (hs : ∀ i env, I i env → s.still env) (hstep : ∀ i x env K, s.xs[i]? = some x → I i env → (∀ env', I (i + 1) env' → K env') → step x env K) {env : Env} {Q : Env → Prop}
    (h0 : I 0 env) (hq : ∀ env', I s.xs.length env' → Q env') : LoopF s step env Q := loop_go (goFor_run I hs hstep h0 hq)
theorem useO {x : O} {Q : D → Prop} (q : Q x.toD) : useW (.o x) env Q := q
theorem keyS {x : Str} {Q : Key → Prop} (q : Q (.inr x)) : onSome (keyOf (O.toD (.d (.str x)))) Q := q
theorem mulA {i j : Int} {Q : Prop} (h : (-18446744073709551616 < i ∧ i < 18446744073709551616) ∨ (-18446744073709551616 < j ∧ j < 18446744073709551616)) (q : Q) : Vx.MulOk i j ∧ Q := by
  rcases h with h | h
  · exact mulS h q
  · exact mulT h q
theorem divA {j : Int} {Q : Prop} (h : 0 < j ∧ j < 1073741824) (q : Q) : DivOk j ∧ Q := ⟨.inl ⟨by omega, by omega⟩, q⟩
theorem rangeA {i : Int} {Q : Prop} (h : -4611686018427387904 ≤ i ∧ i < 4611686018427387904) (q : Q) : inRange i ∧ Q := ⟨h, q⟩
theorem powA {i j : Int} {Q : Prop} (h : 0 ≤ j ∧ j ≤ 1000000 ∧ -18446744073709551616 < i ∧ i < 18446744073709551616) (q : Q) : CPow i j ∧ Q := ⟨⟨h.1, h.2.1, by omega⟩, q⟩
theorem atI_mod {cells : List Int} {p : Int} (h : 0 < cells.length) : ∃ c, atI (cells.map PyData.int) (p.fmod ((cells.map PyData.int).length : Int)) = some (.int c) := by
  obtain ⟨j, hj, e⟩ := ixN_fmod (k := p) (m := cells.length) h
  refine ⟨cells[j], ?_⟩
  unfold atI
  rw [List.length_map, e]
  simp [List.getElem?_eq_getElem hj]
theorem fmod_bd {a b : Int} (h : 0 < b) : 0 ≤ a.fmod b ∧ a.fmod b < b := ⟨Int.fmod_nonneg_of_pos _ h, Int.fmod_lt_of_pos _ h⟩
theorem fdiv_nn {a b : Int} (h : 0 < b) (h2 : 0 ≤ a) : 0 ≤ a.fdiv b := Int.fdiv_nonneg h2 (by omega)
theorem ste {i n : Nat} {Q : Prop} (h : Nat.ble i n = true) (q : Q) : i ≤ n ∧ Q := ⟨Nat.le_of_ble_eq_true h, q⟩
end
end Vx
namespace Vx
open PySem PySem.Spec L2
theorem upTo_len {lo : Int} {n : Nat} : (upTo lo n).length = n := by simp [upTo]
theorem upTo_at {lo : Int} {n i : Nat} {x : D} (h : (upTo lo n)[i]? = some x) : i < n ∧ x = .int (lo + i) := by
  obtain ⟨hi, e⟩ := List.getElem?_eq_some_iff.mp h
  rw [upTo_len] at hi
  refine ⟨hi, ?_⟩
  rw [← e]
  simp [upTo]
theorem upTo_mem {lo : Int} {n : Nat} {x : D} (h : x ∈ upTo lo n) : ∃ i : Nat, i < n ∧ x = .int (lo + i) := by
  obtain ⟨i, hi, e⟩ := List.getElem_of_mem h
  have := upTo_at (List.getElem?_eq_some_iff.mpr ⟨hi, e⟩)
  exact ⟨i, this⟩
theorem plain1 {env : Env} {j : Nat} (h : plainAt env j) : ∀ i ∈ [j], plainAt env i := fun i hi => by rw [List.mem_singleton.mp hi]; exact h
theorem plain2 {env : Env} {j k : Nat} (h : plainAt env j) (h2 : plainAt env k) : ∀ i ∈ [j, k], plainAt env i := fun i hi => by
  rcases List.mem_cons.mp hi with rfl | hi
  · exact h
  · rw [List.mem_singleton.mp hi]; exact h2
theorem small {n : Nat} (h : n ≤ 1000000) : n < sizeLine := Nat.lt_of_le_of_lt h (by decide)
theorem smallE {n : Nat} {Q : Prop} (h : n ≤ 1000000) (q : Q) : n ≤ sizeLine ∧ Q := ⟨Nat.le_of_lt (small h), q⟩
theorem stepC_v {i : Nat} {own : List Nat} {we : WT} {x : D} {env : Env} {acc : List O} {K : Env → List O → Prop} (h : Nat.blt i (void own env).length = true)
    (q : we (fun _ _ => False) ((void own env).set i (some (.d x))) fun w env4 => inW w env4 fun o env5 => acc.length < sizeLine ∧ K (void own env5) (acc ++ [o])) : stepC (.v i) own cAll we x env acc K := by
  refine ⟨by simpa [Nat.blt_eq] using h, ?_⟩
  exact q
theorem stepC_c {i : Nat} {own : List Nat} {wc we : WT} {x : D} {env : Env} {acc : List O} {K : Env → List O → Prop} (h : Nat.blt i (void own env).length = true)
    (q : wc (fun _ _ => False) ((void own env).set i (some (.d x))) fun w env3 => tst w fun b => if b = true then we (fun _ _ => False) env3 fun w env4 => inW w env4 fun o env5 => acc.length < sizeLine ∧ K (void own env5) (acc ++ [o]) else K (void own env3) acc) : stepC (.v i) own (cOne wc) we x env acc K := by
  refine ⟨by simpa [Nat.blt_eq] using h, ?_⟩
  exact q
theorem at_draw {α : Type} {f : α → D} {ys : List α} {v : Int} (h0 : 0 ≤ v) (h1 : v < ys.length) : ∃ (j : Nat) (y : α), v = j ∧ ys[j]? = some y ∧ atI (ys.map f) v = some (f y) := by
  refine ⟨v.toNat, ys[v.toNat]'(by omega), by omega, List.getElem?_eq_getElem _, ?_⟩
  unfold atI
  rw [ixN_int h0 (by rw [List.length_map]; exact h1)]
  simp [List.getElem?_eq_getElem (show v.toNat < ys.length by omega)]
end Vx
namespace Vx
open PySem PySem.Spec L2
structure Mo (n w : Nat) (d : D) : Prop where
  lay : PyData.canLay0 d = true
  dep : d.depth ≤ n
  shw : PyData.showable d = true
  shr : PyData.leavesShort 90 d = true
  wt : d.weight ≤ w
structure MoA (n w : Nat) (ds : List D) : Prop where
  lay : PyData.canLayAll0 ds = true
  dep : PyData.depthAll ds ≤ n
  shw : PyData.showableAll ds = true
  shr : PyData.leavesShortAll 90 ds = true
  wt : PyData.weightAll ds ≤ w
def plainS (x : Str) : Prop := ∀ c ∈ x.cps.toList, c < 128
theorem plainS_lit {x : Str} (h : (x.cps.toList.all fun c => decide (c < 128)) = true) : plainS x := fun c hc => of_decide_eq_true (List.all_eq_true.mp h c hc)
theorem Mo.non {n w : Nat} : Mo n w .none := ⟨by simp only [PyData.canLay0], by simp only [PyData.depth]; omega, by simp only [PyData.showable], by simp only [PyData.leavesShort], by simp only [PyData.weight]; omega⟩
theorem Mo.bool {n w : Nat} {b : Bool} : Mo n w (.bool b) := ⟨by simp only [PyData.canLay0], by simp only [PyData.depth]; omega, by simp only [PyData.showable], by simp only [PyData.leavesShort], by simp only [PyData.weight]; omega⟩
theorem Mo.int {n w : Nat} {i : Int} (h : i.natAbs < 10 ^ 80) (hw : 300 ≤ w) : Mo n w (.int i) := by
  have e2 : i.natAbs.log2 < 270 := log2_lt (Nat.lt_trans h (by decide +kernel)) (by decide)
  refine ⟨by simp only [PyData.canLay0], by simp only [PyData.depth]; omega, ?_, ?_, ?_⟩
  · simp only [PyData.showable, decide_eq_true_eq]; omega
  · have e1 : (PyData.shown (.int i)).length ≤ 81 := by
      have e := int_text_length_le10 (by decide) h
      simp only [PyData.shown]
      rw [ofString_length]; exact e
    simp only [PyData.leavesShort, decide_eq_true_eq]; omega
  · simp only [PyData.weight]
    split <;> omega
theorem Mo.str {n w : Nat} {x : Str} (h : plainS x) (hw : x.length ≤ w) : Mo n w (.str x) := by
  refine ⟨?_, by simp only [PyData.depth]; omega, by simp only [PyData.showable], ?_, ?_⟩
  · simp only [PyData.canLay0, PyData.strOk]
    rw [← Array.all_toList]
    exact List.all_eq_true.mpr fun c hc => decide_eq_true (Nat.lt_trans (h c hc) (by decide))
  · simp only [PyData.leavesShort]
    exact List.all_eq_true.mpr fun c hc => decide_eq_true (Nat.lt_trans (h c hc) (by decide))
  · simp only [PyData.weight]; exact hw
theorem MoA.nil {n w : Nat} : MoA n w [] := ⟨by simp only [PyData.canLayAll0], by simp only [PyData.depthAll]; omega, by simp only [PyData.showableAll], by simp only [PyData.leavesShortAll], by simp only [PyData.weightAll]; omega⟩
theorem MoA.cons {n w1 w2 : Nat} {d : D} {ds : List D} (h : Mo n w1 d) (h2 : MoA n w2 ds) : MoA n (w1 + 1 + w2) (d :: ds) := by
  refine ⟨?_, ?_, ?_, ?_, ?_⟩
  · simp only [PyData.canLayAll0, h.lay, h2.lay, Bool.and_self]
  · simp only [PyData.depthAll]; have := h.dep; have := h2.dep; omega
  · simp only [PyData.showableAll, h.shw, h2.shw, Bool.and_self]
  · simp only [PyData.leavesShortAll, h.shr, h2.shr, Bool.and_self]
  · simp only [PyData.weightAll]; have := h.wt; have := h2.wt; omega
theorem Mo.mono {n m w v : Nat} {d : D} (h : Mo n w d) (hn : n ≤ m) (hw : w ≤ v) : Mo m v d := ⟨h.lay, Nat.le_trans h.dep hn, h.shw, h.shr, Nat.le_trans h.wt hw⟩
theorem MoA.mono {n m w v : Nat} {d : List D} (h : MoA n w d) (hn : n ≤ m) (hw : w ≤ v) : MoA m v d := ⟨h.lay, Nat.le_trans h.dep hn, h.shw, h.shr, Nat.le_trans h.wt hw⟩
theorem MoA.of {n w : Nat} : ∀ {ds : List D}, (∀ d ∈ ds, Mo n w d) → MoA n ((w + 1) * ds.length) ds
  | [], _ => MoA.nil
  | d :: ds, h => (MoA.cons (h d List.mem_cons_self) (MoA.of fun x hx => h x (List.mem_cons_of_mem _ hx))).mono (Nat.le_refl _) (by rw [List.length_cons, Nat.mul_succ]; omega)
theorem Mo.tup {n w : Nat} {ds : List D} (h : MoA n w ds) : Mo (n + 1) w (.tuple ds) := by
  refine ⟨by simp only [PyData.canLay0, h.lay], ?_, by simp only [PyData.showable, h.shw], by simp only [PyData.leavesShort, h.shr], ?_⟩
  · simp only [PyData.depth]; have := h.dep; omega
  · simp only [PyData.weight]; exact h.wt
theorem Mo.lst {n w : Nat} {ds : List D} (h : MoA n w ds) : Mo (n + 1) w (.list ds) := by
  refine ⟨by simp only [PyData.canLay0, h.lay], ?_, by simp only [PyData.showable, h.shw], by simp only [PyData.leavesShort, h.shr], ?_⟩
  · simp only [PyData.depth]; have := h.dep; omega
  · simp only [PyData.weight]; exact h.wt
theorem Mo.plain {n w : Nat} {d : D} (h : Mo n w d) (hn : n ≤ 64) : plainD d = true := by
  unfold plainD SeqAt.shaped
  rw [h.lay, PyData.hasDict_of_canLay d h.lay, decide_eq_true (Nat.le_trans h.dep hn)]
  rfl
theorem Mo.show {n w : Nat} {d : D} (h : Mo n w d) (hn : n ≤ 64) (hw : w ≤ 180000) : ShowOk d := by
  refine ⟨h.shw, PyData.hasDict_of_canLay d h.lay, Nat.le_trans (PyData.shown_le 90 (by decide) _ h.shr) ?_, Nat.le_trans h.dep hn⟩
  have m : (90 + 2) * d.weight ≤ 92 * 180000 := Nat.mul_le_mul (by omega) (Nat.le_trans h.wt hw)
  have : (92 : Nat) * 180000 + 200 ≤ sizeLine := by decide
  omega
theorem eqOk_of {x y : D} (hx : plainD x = true) (hy : plainD y = true) : eqOk x y = true := by
  have : (plainD x && plainD y) = true := by rw [hx, hy]; rfl
  cases x <;> cases y <;> first | rfl | exact this
theorem reprB {d : D} {Q : Prop} (s : ShowOk d) (q : Q) : PyData.showable d = true ∧ d.hasDict = false ∧ d.shown.length ≤ sizeLine ∧ d.depth ≤ 64 ∧ Q := ⟨s.a, s.b, s.c, s.d, q⟩
theorem eqv_int {i j : Int} : PyData.eqv (.int i) (.int j) = decide (i = j) := by simp only [PyData.eqv]; rfl
theorem eqv_str {x y : Str} : PyData.eqv (.str x) (.str y) = decide (x = y) := by simp only [PyData.eqv]; rfl
theorem cut_to {xs : List D} {n : Int} (h0 : 0 ≤ n) : cutD xs none (some n) = xs.take n.toNat := by
  unfold cutD
  obtain ⟨k, rfl⟩ : ∃ k : Nat, n = k := ⟨n.toNat, by omega⟩
  rw [HT.sIx_none, show HT.sIx xs.length xs.length (some (k : Int)) = min k xs.length from HT.sIx_nat _ _ k, List.drop_zero, Nat.sub_zero]
  rw [Int.toNat_natCast]
  by_cases h : k ≤ xs.length
  · rw [Nat.min_eq_left h]
  · rw [Nat.min_eq_right (by omega), List.take_length, List.take_of_length_le (by omega)]
theorem cut_from {xs : List D} {n : Int} (h0 : 0 ≤ n) : cutD xs (some n) none = xs.drop n.toNat := by
  unfold cutD
  obtain ⟨k, rfl⟩ : ∃ k : Nat, n = k := ⟨n.toNat, by omega⟩
  rw [HT.sIx_none, show HT.sIx xs.length 0 (some (k : Int)) = min k xs.length from HT.sIx_nat _ _ k, Int.toNat_natCast]
  by_cases h : k ≤ xs.length
  · rw [Nat.min_eq_left h, List.take_of_length_le (by rw [List.length_drop]; omega)]
  · rw [Nat.min_eq_right (by omega), List.drop_length, List.drop_of_length_le (by omega), List.take_nil]
theorem goComp_filter {s : Src} {own : List Nat} {t : Tg} {wcnd : WC} {we : WT} (p : D → Bool) (f : D → O) {env0 : Env} (hl : s.xs.length ≤ 1000000) (hs : s.still env0)
    (hstep : ∀ x ∈ s.xs, ∀ acc (K : Env → List O → Prop), acc.length < sizeLine → (p x = true → K env0 (acc ++ [f x])) → (p x = false → K env0 acc) → stepC t own wcnd we x env0 acc K) {Q : Env → List O → Prop}
    (hq : Q env0 ((s.xs.filter p).map f)) : goComp s (stepC t own wcnd we) s.xs env0 [] Q := by
  refine goComp_run (fun i env acc => env = env0 ∧ acc = ((s.xs.take i).filter p).map f) (fun i env acc h => by rw [h.1]; exact hs) (fun i x env acc K hx h hk => ?_) ⟨rfl, rfl⟩ fun env' acc' h => ?_
  · obtain ⟨rfl, rfl⟩ := h
    refine hstep x (List.mem_of_getElem? hx) _ K ?_ (fun hp => hk _ _ ⟨rfl, ?_⟩) fun hp => hk _ _ ⟨rfl, ?_⟩
    · have h1 : ((s.xs.take i).filter p).length ≤ (s.xs.take i).length := List.length_filter_le ..
      rw [List.length_map]
      rw [List.length_take] at h1
      have : (1000000 : Nat) < sizeLine := by decide
      omega
    · rw [List.take_add_one, hx, List.filter_append, List.map_append]
      simp [hp]
    · rw [List.take_add_one, hx, List.filter_append, List.map_append]
      simp [hp]
  · obtain ⟨rfl, rfl⟩ := h
    rw [List.take_length]
    exact hq
theorem boolsOf_map {α : Type} (f : α → Bool) : ∀ ls : List α, boolsOf (ls.map fun l => PyData.bool (f l)) = some (ls.map f)
  | [] => rfl
  | l :: ls => by
    show (boolsOf (ls.map fun l => PyData.bool (f l))).map (f l :: ·) = _
    rw [boolsOf_map f ls]; rfl
theorem srcL {a : Addr} {ds : List D} {env : Env} {Q : Src → Prop} (q : Q ⟨ds, none⟩) : srcW (.o (.obj a .lst (ds.map O.d))) env Q := by
  show onSome (seqOf (.list (O.toDs (ds.map O.d)))) fun ds => Q ⟨ds, none⟩
  rw [O.toDs_map]; exact q
end Vx
namespace Vx
open PySem PySem.Spec L2
section
variable {X : Cx} {B : Bs} {Wx : WX} {a b c e o : Expr} {wa wb wc we wo wi : WT} {pos : Pos} {es : List Expr} {wl : WA}
theorem pe_gc {x : Str} {v : V} {u : Value} {p : Pos} (hg : Gl X x) (hm : X.mg x = some u) (r : RelV v u) (hdb : (x == ("__debug__" : Str)) = false) : PE X (.Name x p) (tC v) :=
  ⟨fun pins s σ H Q I h => ld_glob I hg hm ⟨v, H, I, r, h⟩ hdb⟩
theorem c_gstr {x s : Str} {t : Tok} {p : Pos} (hg : Gl X x) (hm : X.mg x = some (.str s t)) (hdb : (x == ("__debug__" : Str)) = false) : PV X B Wx (.Name x p) (wK (.str s)) := c_str (pe_gc hg hm ⟨t, rfl⟩ hdb)
theorem c_gint {x : Str} {i : Int} {t : Tok} {p : Pos} (hg : Gl X x) (hm : X.mg x = some (.int i t)) (hdb : (x == ("__debug__" : Str)) = false) : PV X B Wx (.Name x p) (wK (.int i)) := c_int (pe_gc hg hm ⟨t, rfl⟩ hdb)
end
section
open PyProof.Rows HT
variable {prog : Program} {w : World} {A : Around} {E : Value → Shared → Prop} {s : Shared}
theorem sliceApplied_rev {sl : Addr} {vl vu vs : Value} {n : Nat} {Q : Int × Int × Nat → Shared → Prop} (hs : s.heap.IsSliceOf sl vl vu vs) (pl : IsPart vl none) (pu : IsPart vu none) (ps : IsPart vs (some (-1)))
    (h : Q ((n : Int) - 1, -1, n) s) : wpAny (model prog w) A (Builtin.Slice.sliceApplied (.ref sl) (pure (n : Int))) Q E s := by
  obtain ⟨os, hos, hcs, hds⟩ := id hs
  unfold Builtin.Slice.sliceApplied Builtin.Slice.sliceFields
  refine wpAny_bind (wpAny_bind (wpAny_field hos hds (x := vl) rfl (wpAny_bind (wpAny_field hos hds (x := vu) rfl (wpAny_bind (wpAny_field hos hds (x := vs) rfl (wpAny_pure ?_)))))))
  refine wpAny_bind (HT.slicePart_ ps ?_)
  show wpAny _ _ (if ((-1 : Int) == 0) = true then _ else _) _ _ s
  rw [if_neg (by decide)]
  refine wpAny_bind (HT.slicePart_ pl (wpAny_bind (HT.slicePart_ pu (wpAny_bind (wpAny_pure ?_)))))
  have e : Builtin.Slice.sliceAdjust none none (-1) (n : Int) = ((n : Int) - 1, -1) := rfl
  have e2 : Builtin.Slice.slicePlaces ((n : Int) - 1) (-1) (-1) = n := by
    unfold Builtin.Slice.slicePlaces
    rw [if_neg (by decide)]
    by_cases h : (n : Int) - 1 > -1
    · rw [if_pos h, show (- -1 : Int) = 1 by decide, Int.ediv_one]; omega
    · rw [if_neg h]; omega
  show wpAny _ _ (match Builtin.Slice.sliceAdjust none none (-1) (n : Int) with | (lo, hi) => pure (lo, (-1 : Int), Builtin.Slice.slicePlaces lo hi (-1))) _ _ s
  rw [e]
  show wpAny _ _ (pure ((n : Int) - 1, (-1 : Int), Builtin.Slice.slicePlaces ((n : Int) - 1) (-1) (-1))) _ _ s
  rw [e2]
  exact wpAny_pure h
theorem fm_congr {α β : Type} {f g : α → Option β} : ∀ {l : List α}, (∀ x ∈ l, f x = g x) → l.filterMap f = l.filterMap g
  | [], _ => rfl
  | x :: l, h => by
    rw [List.filterMap_cons, List.filterMap_cons, h x List.mem_cons_self, fm_congr fun y hy => h y (List.mem_cons_of_mem _ hy)]
theorem pick_rev (xs : Array Value) : ((List.range xs.size).filterMap fun (m : Nat) => xs[((xs.size : Int) - 1 + (m : Int) * (-1)).toNat]?).toArray = xs.toList.reverse.toArray := by
  congr 1
  have e : ((List.range xs.size).filterMap fun (m : Nat) => xs[((xs.size : Int) - 1 + (m : Int) * (-1)).toNat]?) = ((List.range xs.size).map fun k => xs.size - 1 - k).filterMap (xs[·]?) := by
    rw [List.filterMap_map]
    refine fm_congr fun m hm => ?_
    have := List.mem_range.mp hm
    show xs[((xs.size : Int) - 1 + (m : Int) * (-1)).toNat]? = xs[xs.size - 1 - m]?
    congr 1
    omega
  rw [e, PySem.W.krv_range, List.filterMap_reverse, PySem.W.krv_all]
theorem getItem_tuple_rev {t sl : Addr} {items : Array Value} {vl vu vs : Value} {Q : Value → Shared → Prop} (ht : PyProof.Rows.IsTup s.heap t items) (hs : s.heap.IsSliceOf sl vl vu vs) (pl : IsPart vl none) (pu : IsPart vu none) (ps : IsPart vs (some (-1)))
    (h : Q (.ref s.heap.objs.size) { s with heap := s.heap.push { cls := .type "tuple", data := .seq items.toList.reverse.toArray } })
    (hsz : items.size ≤ sizeLine) : wpAny (model prog w) A (getItem (.ref t) (.ref sl)) Q E s := by
  have htake : sizeOk (.seq items.toList.reverse.toArray) := by
    show items.toList.reverse.toArray.size ≤ sizeLine
    rw [List.size_toArray, List.length_reverse, Array.length_toList]
    exact hsz
  obtain ⟨os, hos, hcs, hds⟩ := id hs
  have hTs : s.TypeIs (.ref sl) "slice" := ⟨os, hos, hcs⟩
  unfold getItem
  try with_reducible refine wpAny_holding ?_
  first | refine wpAny_bind (wpAny_pure ?_) | skip
  refine wpAny_bind (wpAny_sequenceKey ht.typeIs (by decide) ?_)
  refine wpAny_bind (wpAny_callSpecial?_slot (name := Str.ofString "__getitem__") ht.typeIs PyProof.Rows.slot_tuple_getitem
    (wpAny_call_entry PyProof.Rows.slot_tuple_getitem ht.typeIs entry_tuple_getitem ?_ (args_tuple_getitem _ _)))
  show wpAny _ _ (Builtin.Tuple.tupleItemsOf (.ref t) >>= _) _ _ s
  refine wpAny_bind (tupleItemsOf_ ht ?_)
  refine wpAny_bind (wpAny_typeOf hTs ?_)
  rw [if_pos (by decide)]
  refine wpAny_bind (sliceApplied_rev hs pl pu ps ?_)
  have hno : ¬ ((((items.size : Int) - 1) == 0 && (-1 : Int) == 1 && items.size == items.size) = true) := by
    intro q
    rw [Bool.and_eq_true, Bool.and_eq_true] at q
    exact absurd (eq_of_beq q.1.2) (by decide)
  show wpAny _ _ (if (((items.size : Int) - 1) == 0 && (-1 : Int) == 1 && items.size == items.size) = true then _ else _) _ _ s
  rw [if_neg hno, pick_rev]
  first
    | exact wpAny_bind (m := Builtin.Tuple.tupleExact _) (wpAny_newObj_type (wpAny_pure ⟨_, rfl, wpAny_pure h⟩) htake)
    | exact wpAny_bind (m := Builtin.Tuple.tupleExact _) (wpAny_newObj_type (wpAny_bind (wpAny_pure (wpAny_pure ⟨_, rfl, wpAny_pure h⟩))) htake)
    | exact wpAny_bind (m := Builtin.Tuple.tupleExact _) (wpAny_newObj_type (wpAny_pure (wpAny_pure h)) htake)
end
section
open PyProof.Rows HT
variable {X : Cx} {B : Bs} {Wx : WX} {a b c e o : Expr} {wa wb wc we wo wi : WT} {pos : Pos} {es : List Expr} {wl : WA}
def tRevT (K : PySem.W.Frag) (te : TE) : TE := fun σ H Q => te σ H fun x H1 => ∃ a xs, x = .ref a ∧ SqT K H1 a xs ∧ ∀ p o, H1 p = none → o.dict = none → Q (.ref p) (upd H1 p (.frz o (.tup xs.reverse)))
theorem pe_revT {te : TE} {k : Nat} {p1 p2 p3 : Pos} (he : PE X e te) : PE X (.Subscript e (.Slice none none (some (.UnaryOp .USub (.Constant (.int 1) k p1) p2)) p3) pos) (tRevT X.K te) := by
  refine ⟨fun pins s σ H Q I h => ?_⟩
  refine Subscript_ (thn (he.run pins s σ H _ I h) fun v s1 ⟨x, H1, I1, r1, q1⟩ => ?_)
  obtain ⟨a, xs, ex, hx, q⟩ := q1
  subst ex
  cases r1
  have hst : PO X (some (.UnaryOp .USub (.Constant (.int 1) k p1) p2)) (tPart (tUn (rU fun i => .int (-i)) (tC (.int 1)))) := po_some (pe_un un_neg pe_int)
  refine wpAny_Slice (thn (po_none.run pins s1 σ H1 (fun o H2 => o = none ∧ H2 = H1) I1 ⟨rfl, rfl⟩) fun vl s2 ⟨l, H2, I2, pl, el, e2⟩ => ?_)
  subst el e2
  refine thn (po_none.run pins s2 σ H2 (fun o H3 => o = none ∧ H3 = H2) I2 ⟨rfl, rfl⟩) fun vu s3 ⟨u, H3, I3, pu, eu, e3⟩ => ?_
  subst eu e3
  refine thn (hst.run pins s3 σ H3 (fun o H4 => o = some (-1) ∧ H4 = H3) I3 ⟨1, rfl, -1, rfl, rfl, rfl⟩) fun vs s4 ⟨o, H4, I4, ps, eo, e4⟩ => ?_
  subst eo e4
  have I5 : Inv X pins σ H4 { s4 with heap := s4.heap.push { cls := .type "slice", data := .fields #[vl, vu, vs] } } := I4.kept (t' := s4.toks) fun b ob q => Heap.get?_push_of_some _ q
  obtain ⟨its, r, ht, hz⟩ := I5.tuple hx
  have hlen := r.length
  show wpAny (model X.prog X.w) X.A (subscriptTail e (.Slice none none (some (.UnaryOp .USub (.Constant (.int 1) k p1) p2)) p3) (.ref a) (.ref s4.heap.objs.size)) (EP X pins σ Q) X.xe { s4 with heap := s4.heap.push { cls := .type "slice", data := .fields #[vl, vu, vs] } }
  refine tail_any (ops := [.ref a, .ref s4.heap.objs.size]) ht.typeIs (PyProof.Rows.slot_tuple_getitem.lookup) ?_ (by with_unfolding_all rfl)
  refine getItem_tuple_rev ht (Heap.IsSliceOf.new _ vl vu vs) pl pu ps ?_ (by rw [List.size_toArray]; omega)
  exact ⟨.ref _, _, I5.laid (t' := s4.toks) (fun b ob q => Heap.get?_push_of_some _ q) (Nat.le_refl _) (new_tup (by rw [List.length_reverse]; exact hz) r.reverse), rfl, q _ _ (I5.hok.fresh (Nat.le_refl _)) rfl⟩
def wRevT (we : WT) : WT := fun PX env P => we PX env fun w env1 => useWs [w] env1 fun ds => match ds with
  | [.tuple xs] => P (.o (.d (.tuple xs.reverse))) env1
  | _ => False
theorem c_revT {k : Nat} {p1 p2 p3 : Pos} (h : PV X B Wx e we) : PV X B Wx (.Subscript e (.Slice none none (some (.UnaryOp .USub (.Constant (.int 1) k p1) p2)) p3) pos) (wRevT we) := by
  refine PE_imp (pe_revT h) fun σ H Q ⟨S, env, T, P, PX, r, hw, hP, hX⟩ => ?_
  refine ⟨S, env, T, _, PX, r, hw, fun w env1 v S1 H1 hq r1 => ?_, hX⟩
  have r1' : R X.K B S1 H1 σ env1 ([(v, w)] ++ T) := r1
  obtain ⟨S2, ds, r2, q, ud⟩ := r1'.usedAll hq
  have r3 : R X.K B S2 H1 σ env1 T := r2.pops
  replace ud : UdA X.K S2 H1 [v] ds := ud
  cases ud with
  | cons u us =>
    cases us
    rename_i d
    cases d with
    | tuple xs =>
      obtain ⟨p, vs, rfl, hq, ra⟩ := u.tup
      refine ⟨p, vs, rfl, hq, fun p' o hp hd => ?_⟩
      exact hP _ _ _ _ _ q (newTup r3 hp hd ra.reverse)
    | _ => exact q.elim
theorem ty_up {K : PySem.W.Frag} {H : Hp} {v : V} {t : Value} {p : Addr} {o : HO} (h : TyX K H v t) (hp : H p = none) : TyX K (upd H p o) v t := by
  cases h with
  | base b =>
    refine .base ?_
    cases b with
    | lst e => exact .lst ((upd_ne (ne_of_none e hp)).trans e)
    | frz e => exact .frz ((upd_ne (ne_of_none e hp)).trans e)
    | tup e => exact .tup ((upd_ne (ne_of_none e hp)).trans e)
    | dK e => exact .dK ((upd_ne (ne_of_none e hp)).trans e)
    | dT e => exact .dT ((upd_ne (ne_of_none e hp)).trans e)
    | ins e c1 c2 c3 c4 c5 => exact .ins ((upd_ne (ne_of_none e hp)).trans e) c1 c2 c3 c4 c5
    | _ => constructor
  | byt b => exact .byt b
  | set e => exact .set ((upd_ne (ne_of_none e hp)).trans e)
  | kList e c => exact .kList e c
  | kTuple e c => exact .kTuple e c
  | kDict e c => exact .kDict e c
  | fTuple e => exact .fTuple ((upd_ne (ne_of_none e hp)).trans e)
  | fDict e => exact .fDict ((upd_ne (ne_of_none e hp)).trans e)
theorem kd_up {K : PySem.W.Frag} {H : Hp} {v : V} {t : Value} {p : Addr} {o : HO} (h : KdX K H v t) (hp : H p = none) : KdX K (upd H p o) v t := by
  cases h with
  | ty h => exact .ty (ty_up h hp)
  | ex h h2 k => exact .ex ((upd_ne (ne_of_none h hp)).trans h) ((upd_ne (ne_of_none h2 hp)).trans h2) k
theorem kit_twoX {K : PySem.W.Frag} {a b c : Value} {r1 r2 : Bool} (e1 : PySem.W.kitOne K a b = some r1) (e2 : PySem.W.kitOne K a c = some r2) : PySem.W.kitAny K a [b, c] = some (r1 || r2) := by
  unfold PySem.W.kitAny
  rw [e1]
  cases r1
  · show PySem.W.kitAny K a [c] = _
    unfold PySem.W.kitAny
    rw [e2]
    cases r2
    · rfl
    · rfl
  · rfl
theorem c_isis {t1 t2 : Ty} {n1 n2 : Str} {p pt p1 p2 : Pos} {kt : Nat} (hg : Gl X "isinstance") (hm : X.mg "isinstance" = none) (hv : bootBuiltins "isinstance" = some (.builtin "isinstance"))
    (hg1 : Gl X n1) (hm1 : X.mg n1 = none) (hv1 : bootBuiltins n1 = some (.type (tyName t1))) (hn1 : n1 ≠ "__name__") (hd1 : (n1 == ("__debug__" : Str)) = false)
    (hg2 : Gl X n2) (hm2 : X.mg n2 = none) (hv2 : bootBuiltins n2 = some (.type (tyName t2))) (hn2 : n2 ≠ "__name__") (hd2 : (n2 == ("__debug__" : Str)) = false)
    (he : PV X B Wx e we) (hs1 : starEach [e, .Tuple [.Name n1 p1, .Name n2 p2] kt pt] X.env = (false, eval e X.env) :: starEach [.Tuple [.Name n1 p1, .Name n2 p2] kt pt] X.env)
    (hs2 : starEach [.Tuple [.Name n1 p1, .Name n2 p2] kt pt] X.env = (false, eval (.Tuple [.Name n1 p1, .Name n2 p2] kt pt) X.env) :: starEach [] X.env)
    (hs3 : starEach [.Name n1 p1, .Name n2 p2] X.env = (false, eval (.Name n1 p1) X.env) :: starEach [.Name n2 p2] X.env) (hs4 : starEach [.Name n2 p2] X.env = (false, eval (.Name n2 p2) X.env) :: starEach [] X.env)
    (hpl : (backTo pos (starEach [.Tuple [.Name n1 p1, .Name n2 p2] kt pt] X.env)).any (·.1) = false) :
    Snd X B Wx (.Call (.Name "isinstance" p) [e, .Tuple [.Name n1 p1, .Name n2 p2] kt pt] [] pos) (wPrim (.isis [t1, t2]) (aCons we aNil)) := by
  have ht : PE X (.Tuple [.Name n1 p1, .Name n2 p2] kt pt) (tTup (tCons (tC (.ty (tyName t1))) (tCons (tC (.ty (tyName t2))) tNil))) :=
    pe_tup (pa_cons (pe_bltn hg1 hm1 hv1 rfl hn1 hd1) (pa_cons (pe_bltn hg2 hm2 hv2 rfl hn2 hd2) pa_nil hs4) hs3)
  have h1 := pe_callB (X := X) (p := p) call_isiTX hg hm hv (pa_cons he (pa_cons ht pa_nil hs2) hs1) (by decide) (by decide) hs1 hpl
  have h2 : PV X B Wx (.Call (.Name "isinstance" p) [e, .Tuple [.Name n1 p1, .Name n2 p2] kt pt] [] pos) (wPrim (.isis [t1, t2]) (aCons we aNil)) := by
    refine PE_imp h1 fun σ H Q ⟨S, env, T, P, PX, r, hw, hP, hX⟩ => ?_
    refine ⟨S, env, T, _, PX, r, hw, fun x env1 v S1 H1 q r1 => ?_, hX⟩
    have q : useW x env1 fun d => P (.o (.d (.bool ([t1, t2].any fun t => decide (t ∈ tyOf d))))) env1 := q
    have rr : R X.K B S1 H1 σ env1 ([(v, x)] ++ T) := r1
    obtain ⟨S2, r2, f⟩ := rr.used
    obtain ⟨d, q, u⟩ := f (v, x) List.mem_cons_self _ q
    refine ⟨show 2 ≤ sizeLine by decide, fun p' hp => ?_⟩
    have r3 : R X.K B S2 (upd H1 p' (.tup [.ty (tyName t1), .ty (tyName t2)])) σ env1 T := r2.pops.alloc (o := .tup [.ty (tyName t1), .ty (tyName t2)]) hp
    obtain ⟨tv, ty, hk⟩ := ud_kd u
    refine ⟨v, p', _, _, [.type (tyName t1), .type (tyName t2)], _, rfl, upd_same, .cons (.ty _) (.cons (.ty _) .nil), kd_up ty hp, kit_twoX (hk t1) (hk t2), ?_⟩
    have e : ([t1, t2].any fun t => decide (t ∈ tyOf d)) = (decide (t1 ∈ tyOf d) || decide (t2 ∈ tyOf d)) := by
      simp [List.any]
    rw [e] at q
    exact hP _ _ _ _ _ q (r3.push (.bl _))
  exact snd_plain h2 (by intro _; rfl)
end
end Vx
namespace Vx
open PySem PySem.Spec L2
theorem fnV_zero {P : Program} {w : World} {K : PySem.W.Frag} {mg : Str → Option Value} {base : Heap} {k np : Nat} {f : Addr} {fd : FuncData} {ps : List Str} : FnV P w K mg base k f fd ps (spV K mg np fun _ _ _ => False) :=
  ⟨fun vs H Q E ⟨_, _, _, _, _, _, _, _, _, h, _⟩ => h.elim, fun A outer s H g us vs Q E _ _ _ _ _ ⟨_, _, _, _, _, _, _, _, _, h, _⟩ => h.elim⟩
def fixF (w : FSem → WS) (n : Nat) : Nat → FSem
  | 0 => fun _ _ _ => False
  | m + 1 => semW (w (fixF w n m)) n
section
variable {X : Cx} {B : Bs} {Wx : WX} {a b c e o : Expr} {wa wb wc we wo wi : WT} {pos : Pos} {es : List Expr} {wl : WA}
def sPar (is : List Nat) (wl : WA) : WS := fun PX env k => wl PX env fun ws env1 => inWs ws env1 fun os env2 => os.all notTup = true ∧ setAll is os env2 k.nx
theorem z_par {i j : Nat} {x y : Str} {px py pt : Pos} {kt k2 : Nat} {pt2 : Pos} (hc : X.calm = true) (hN : X.N.Nodup) (hi : X.N[i]? = some x) (hj : X.N[j]? = some y) (hij : i ≠ j)
    (hx : X.env.scope.names.lookup x = some .local) (hy : X.env.scope.names.lookup y = some .local) (ha : SndA X B Wx [a, b] wl)
    (hw : swappedStores [.Tuple [.Name x px, .Name y py] kt pt] (.Tuple [a, b] k2 pt2) X.env = pure (some [x, y]))
    (hs : swapsWithSole [.Tuple [.Name x px, .Name y py] kt pt] (.Tuple [a, b] k2 pt2) pos.line X.env = pure false) :
    S1 X B Wx (.Assign [.Tuple [.Name x px, .Name y py] kt pt] (.Tuple [a, b] k2 pt2) pos) (sPar [i, j] wl) := by
  refine PS_imp (ps_par hc hN hi hj hij hx hy ha hw hs) fun D σ H ⟨S, env, T, k, PX, r, hq, hE, hX⟩ => ?_
  refine ⟨S, env, T, _, PX, r, hq, fun env1 Z S1 H1 hq r1 => ?_, hX⟩
  obtain ⟨os, env2, S2, ⟨_, q⟩, hl, r2, _, _⟩ := intos_top r1 hq
  have h2 := setAll_len q
  cases os with
  | nil => cases h2
  | cons o1 os =>
    cases os with
    | nil => cases h2
    | cons o2 os =>
      cases os with
      | cons _ _ => cases h2
      | nil =>
        cases Z with
        | nil => cases hl
        | cons z1 Z =>
          cases Z with
          | nil => cases hl
          | cons z2 Z =>
            cases Z with
            | cons _ _ => cases hl
            | nil =>
              obtain ⟨v1, w1⟩ := z1
              obtain ⟨v2, w2⟩ := z2
              have r3 : R X.K B S2 H1 σ env2 ((v1, .o o1) :: (v2, .o o2) :: T) := r2
              obtain ⟨hi2, hj2, q⟩ := q
              exact ⟨v1, v2, rfl, hE.nx _ _ _ _ q ((r3.store hi2).store hj2)⟩
theorem nx_par {is : List Nat} {u : WS} {PX : Exn → Env → Prop} {env : Env} {k : Kt} (h : wl PX env fun ws env1 => inWs ws env1 fun os env2 => os.all notTup = true ∧ setAll is os env2 fun env3 => Nx u PX env3 k) : Nx (sCons (sPar is wl) u) PX env k := nx_in (by
  have e : (fun env5 => Nx u PX env5 k) = fun env5 => u PX env5 k := by funext env5; exact nx_eq
  rw [e] at h
  exact h)
def fStr : DSem
  | [.int i], Q => i.natAbs.log2 < 1920 ∧ Q (.d (.str (PyData.shown (.int i))))
  | [.str x], Q => Q (.d (.str x))
  | [.bool b], Q => Q (.d (.str (if b then "True" else "False")))
  | _, _ => False
theorem ok_str : BltOk X (.type "str") fStr := by
  intro pins s σ H vs us Q B S env T ds k I rv r ud q hQ
  cases ud with
  | nil => exact q.elim
  | cons u us' =>
    rename_i v d vs' ds'
    cases us' with
    | cons _ _ => cases d <;> exact q.elim
    | nil =>
      cases d with
      | int i =>
        obtain rfl := u.int
        exact call_str_int pins s σ H _ us Q I rv ⟨i, rfl, q.1, hQ _ _ _ _ q.2 (r.push (.str _))⟩
      | str x =>
        obtain rfl := u.str
        exact SkE.call_str_str pins s σ H _ us Q I rv ⟨x, rfl, hQ _ _ _ _ q (r.push (.str _))⟩
      | bool b =>
        obtain rfl := u.bool
        obtain ⟨u, rfl, e⟩ := vals1 rv
        cases e
        exact PySem.P.str_of_bool ⟨.str _, _, I.tok _, ⟨_, rfl⟩, hQ _ _ _ _ q (r.push (.str _))⟩
      | _ => exact q.elim
end
end Vx
namespace Vx
open PySem PySem.Spec L2
theorem plain_app {x y : Str} (h : plainS x) (h2 : plainS y) : plainS (x ++ y) := by
  intro c hc
  rw [PySem.Str.cps_append, Array.toList_append] at hc
  rcases List.mem_append.mp hc with hc | hc
  · exact h c hc
  · exact h2 c hc
theorem plain_int {i : Int} : plainS (PyData.shown (.int i)) := by
  simp only [PyData.shown]
  intro c hc
  rw [PySem.Str.ofString_eq_toList] at hc
  obtain ⟨ch, hch, rfl⟩ := List.mem_map.mp hc
  have dig : ∀ m : Nat, ∀ ch ∈ Nat.toDigits 10 m, ch.toNat < 128 := fun m ch h => by
    have r := Nat.isDigit_of_mem_toDigits (b := 10) (n := m) (by decide) (by decide) h
    unfold Char.isDigit at r
    simp only [Bool.and_eq_true, decide_eq_true_eq] at r
    have r2 := r.2
    have : ch.toNat ≤ 57 := r2
    omega
  cases i with
  | ofNat m =>
    have e : (toString (Int.ofNat m)).toList = Nat.toDigits 10 m := by
      show (Nat.repr m).toList = _
      simp [Nat.repr]
    rw [e] at hch
    exact dig m ch hch
  | negSucc m =>
    have e : (toString (Int.negSucc m)).toList = '-' :: Nat.toDigits 10 (m + 1) := by
      show (Int.repr (Int.negSucc m)).toList = _
      simp [Int.repr, Nat.repr]
    rw [e] at hch
    rcases List.mem_cons.mp hch with rfl | hch
    · decide
    · exact dig _ ch hch
theorem plain_cut {x : Str} (lo hi : Option Int) (h : plainS x) : plainS (cutS x lo hi) := fun c hc => by
  have hc : c ∈ (x.cps.toList.drop (HT.sIx x.length 0 lo)).take (HT.sIx x.length x.length hi - HT.sIx x.length 0 lo) := hc
  exact h c (List.mem_of_mem_drop (List.mem_of_mem_take hc))
theorem len_cut {x : Str} (lo hi : Option Int) : (cutS x lo hi).length ≤ x.length := cutS_length x lo hi
inductive G (s : Nat) : Nat → D → Prop
  | non {n : Nat} : G s n .none
  | bool {n : Nat} {b : Bool} : G s n (.bool b)
  | int {n : Nat} {i : Int} (h : i.natAbs ≤ 2 ^ 199 + s) : G s n (.int i)
  | str {n : Nat} {x : Str} (h : plainS x) : G s n (.str x)
  | tup {n : Nat} {ds : List D} (h : ∀ d ∈ ds, G s n d) : G s (n + 1) (.tuple ds)
  | lst {n : Nat} {ds : List D} (h : ∀ d ∈ ds, G s n d) : G s (n + 1) (.list ds)
theorem G.mono {s t : Nat} (hs : s ≤ t) : ∀ {n : Nat} {d : D}, G s n d → ∀ {m : Nat}, n ≤ m → G t m d := by
  intro n d h
  induction h with
  | non => intro m _; exact .non
  | bool => intro m _; exact .bool
  | int h => intro m _; exact .int (Nat.le_trans h (Nat.add_le_add_left hs _))
  | str h => intro m _; exact .str h
  | tup h ih =>
    intro m hm
    obtain ⟨k, rfl⟩ : ∃ k, m = k + 1 := ⟨m - 1, by omega⟩
    exact .tup fun d hd => ih d hd (by omega)
  | lst h ih =>
    intro m hm
    obtain ⟨k, rfl⟩ : ∃ k, m = k + 1 := ⟨m - 1, by omega⟩
    exact .lst fun d hd => ih d hd (by omega)
theorem pow_le199 : (2 : Nat) ^ 199 + 1000 < 2 ^ 200 := by decide +kernel
theorem pow_le80 : (2 : Nat) ^ 200 < 10 ^ 80 := by decide +kernel
theorem MoA.exact {n : Nat} : ∀ {ds : List D}, (∀ d ∈ ds, Mo n d.weight d) → MoA n (PyData.weightAll ds) ds
  | [], _ => MoA.nil
  | d :: ds, h => (MoA.cons (h d List.mem_cons_self) (MoA.exact fun x hx => h x (List.mem_cons_of_mem _ hx))).mono (Nat.le_refl _) (by simp only [PyData.weightAll]; omega)
theorem G.mo {s : Nat} (hs : s ≤ 1000) : ∀ {n : Nat} {d : D}, G s n d → Mo n d.weight d := by
  intro n d h
  induction h with
  | non => exact .non
  | bool => exact .bool
  | int h =>
    have p1 := pow_le199
    have p2 := pow_le80
    have z := Mo.int (n := 0) (w := 300) (Nat.lt_of_le_of_lt h (Nat.lt_trans (show _ < 2 ^ 200 by omega) p2)) (Nat.le_refl _)
    exact ⟨z.lay, Nat.le_trans z.dep (Nat.zero_le _), z.shw, z.shr, Nat.le_refl _⟩
  | str h => exact (Mo.str h (Nat.le_refl _)).mono (Nat.le_refl _) (by simp only [PyData.weight]; exact Nat.le_refl _)
  | tup h ih => exact (Mo.tup (MoA.exact ih)).mono (Nat.le_refl _) (by simp only [PyData.weight]; exact Nat.le_refl _)
  | lst h ih => exact (Mo.lst (MoA.exact ih)).mono (Nat.le_refl _) (by simp only [PyData.weight]; exact Nat.le_refl _)
theorem wt_int {i : Int} {s : Nat} (hs : s ≤ 1000) (h : i.natAbs ≤ 2 ^ 199 + s) : PyData.weight (.int i) ≤ 200 := by
  have p1 := pow_le199
  have e2 : i.natAbs.log2 < 200 := log2_lt (show i.natAbs < 2 ^ 200 by omega) (by decide)
  simp only [PyData.weight]
  split <;> omega
theorem wt_app {xs ys : List D} : PyData.weightAll (xs ++ ys) = PyData.weightAll xs + PyData.weightAll ys := by
  induction xs with
  | nil => simp only [List.nil_append, PyData.weightAll]; omega
  | cons x xs ih => simp only [List.cons_append, PyData.weightAll, ih]; omega
theorem wt_rev {xs : List D} : PyData.weightAll xs.reverse = PyData.weightAll xs := by
  induction xs with
  | nil => rfl
  | cons x xs ih => rw [List.reverse_cons, wt_app, ih]; simp only [PyData.weightAll]; omega
theorem wt_split {xs : List D} {j : Nat} {d : D} (h : xs[j]? = some d) : PyData.weightAll (xs.take j) + d.weight + 1 + PyData.weightAll (xs.drop (j + 1)) = PyData.weightAll xs := by
  obtain ⟨hj, rfl⟩ := List.getElem?_eq_some_iff.mp h
  have e : PyData.weightAll xs = PyData.weightAll (xs.take j ++ xs.drop j) := by rw [List.take_append_drop]
  rw [e, wt_app, List.drop_eq_getElem_cons hj]
  simp only [PyData.weightAll]
  omega
theorem wt_take {xs : List D} {j : Nat} : PyData.weightAll (xs.take j) + PyData.weightAll (xs.drop j) = PyData.weightAll xs := by
  rw [← wt_app, List.take_append_drop]
theorem wt_drop {xs : List D} {j k : Nat} (h : j ≤ k) : PyData.weightAll (xs.drop k) ≤ PyData.weightAll (xs.drop j) := by
  have := wt_take (xs := xs.drop j) (j := k - j)
  rw [List.drop_drop, show j + (k - j) = k by omega] at this
  omega
theorem wt_mid {xs : List D} {j k : Nat} : PyData.weightAll ((xs.drop j).take k) ≤ PyData.weightAll xs := by
  have h1 := wt_take (xs := xs.drop j) (j := k)
  have h2 := wt_take (xs := xs) (j := j)
  omega
theorem len_wt {xs : List D} : xs.length ≤ PyData.weightAll xs := by
  induction xs with
  | nil => exact Nat.zero_le _
  | cons x xs ih => simp only [List.length_cons, PyData.weightAll]; omega
end Vx
namespace Vx
open PySem PySem.Spec L2
def Ev (w : WT) (env : Env) (v : D) : Prop := ∀ (PX : Exn → Env → Prop) (P : W → Env → Prop), P (.o (.d v)) env → w PX env P
def EvL (w : WT) (env : Env) (ds : List D) : Prop := ∀ (PX : Exn → Env → Prop) (P : W → Env → Prop), (∀ a, P (.o (.lst a (ds.map .d))) env) → w PX env P
def EvU (w : WT) (env : Env) (v : D) : Prop := ∀ (PX : Exn → Env → Prop) (P : W → Env → Prop), (∀ x, (∀ Q : D → Prop, Q v → useW x env Q) → P x env) → w PX env P
def EvA (w : WA) (env : Env) (vs : List D) : Prop := ∀ (PX : Exn → Env → Prop) (P : List W → Env → Prop), P (vs.map fun v => .o (.d v)) env → w PX env P
def EvUs (w : WA) (env : Env) (vs : List D) : Prop := ∀ (PX : Exn → Env → Prop) (P : List W → Env → Prop), (∀ ws, (∀ Q : List D → Prop, Q vs → useWs ws env Q) → P ws env) → w PX env P
def EvS (w : WI) (env : Env) (s : Src) : Prop := ∀ (PX : Exn → Env → Prop) (P : Src → Env → Prop), P s env → w PX env P
def BopV (op : Bop) (x y v : D) : Prop := ∀ Q : O → Prop, Q (.d v) → bopW op x y Q
def CmpV (op : Cop) (x y : D) (t : Bool) : Prop := ∀ Q : Bool → Prop, Q t → cmpW op x y Q
def PrimV (p : Prim) (ds : List D) (v : D) : Prop := ∀ Q : O → Prop, Q (.d v) → primW p ds Q
section
variable {w wa wb wc we : WT} {wl : WA} {env : Env} {x y z v : D} {ds vs : List D} {p q r : Bool} {i j : Nat}
theorem toD_lst {a : Addr} {ds : List D} : (O.lst a (ds.map .d)).toD = .list ds := by
  show PyData.list (O.toDs (ds.map .d)) = _
  rw [O.toDs_map]
theorem Ev.u (h : Ev w env v) : EvU w env v := fun PX P q => h PX P (q _ fun _ z => z)
theorem EvL.u (h : EvL w env ds) : EvU w env (.list ds) := fun PX P q => h PX P fun a => q _ fun Q z => by
  show Q (O.toD _)
  rw [toD_lst]; exact z
theorem Ev.to (h : Ev w env v) (e : v = x) : Ev w env x := by subst e; exact h
theorem EvL.to {es : List D} (h : EvL w env ds) (e : ds = es) : EvL w env es := by subst e; exact h
theorem e_k : Ev (wK x) env x := fun PX P q => q
theorem e_var (h : env[i]? = some (some (.d x))) : Ev (wVar i) env x := fun PX P q => by
  unfold wVar
  simp only [h]
  exact q
theorem u_own {a : Addr} (h : env[i]? = some (some (.lst a (ds.map .d)))) : EvU (wVar i) env (.list ds) := fun PX P q => by
  unfold wVar
  simp only [h]
  refine q _ fun Q z => ?_
  have e : envAt env i [] = some (.lst a (ds.map .d)) := by unfold envAt; simp only [h]; rfl
  exact useW_al e (datas_map ds) z
theorem e_bin (op : Bop) (ha : EvU wa env x) (hb : EvU wb env y) (h : BopV op x y v) : Ev (wBin op wa wb) env v := fun PX P q =>
  ha _ _ fun a h1 => hb _ _ fun b h2 => h1 _ (h2 _ (h _ q))
theorem e_catL (ha : EvU wa env (.list ds)) (hb : EvU wb env (.list vs)) (h : ds.length + vs.length ≤ 1000000) : EvL (wBin .add wa wb) env (ds ++ vs) := fun PX P q =>
  ha _ _ fun a h1 => hb _ _ fun b h2 => h1 _ (h2 _ ⟨Nat.le_of_lt (small h), q⟩)
theorem b_addI {i j : Int} : BopV .add (.int i) (.int j) (.int (i + j)) := fun Q q => q
theorem b_subI {i j : Int} : BopV .sub (.int i) (.int j) (.int (i - j)) := fun Q q => q
theorem b_modI {i j : Int} (h : j ≠ 0) : BopV .mod (.int i) (.int j) (.int (i.fmod j)) := fun Q q => ⟨h, q⟩
theorem b_addS {x y : Str} (h : x.length + y.length ≤ 1000000) : BopV .add (.str x) (.str y) (.str (x ++ y)) := fun Q q => smallE h q
theorem b_addT {xs ys : List D} (h : xs.length + ys.length ≤ 1000000) : BopV .add (.tuple xs) (.tuple ys) (.tuple (xs ++ ys)) := fun Q q => smallE h q
theorem e_not (ha : Ev wa env (.bool p)) : Ev (wNot wa) env (.bool (!p)) := fun PX P q => ha _ _ q
theorem e_and (ha : Ev wa env (.bool p)) (hb : p = true → Ev wb env (.bool q)) : Ev (wAnd wa wb) env (.bool (p && q)) := fun PX P h => by
  refine ha _ _ ?_
  show if p = true then _ else _
  cases p with
  | true => rw [if_pos rfl]; exact hb rfl _ _ h
  | false => rw [if_neg (by decide)]; exact h
theorem e_or (ha : Ev wa env (.bool p)) (hb : p = false → Ev wb env (.bool q)) : Ev (wOr wa wb) env (.bool (p || q)) := fun PX P h => by
  refine ha _ _ ?_
  show if p = true then _ else _
  cases p with
  | true => rw [if_pos rfl]; exact h
  | false => rw [if_neg (by decide)]; exact hb rfl _ _ h
theorem e_ife (hc : Ev wc env (.bool p)) (ha : p = true → Ev wa env x) (hb : p = false → Ev wb env y) : Ev (wIfe wc wa wb) env (if p = true then x else y) := fun PX P h => by
  refine hc _ _ ?_
  show if p = true then _ else _
  cases p with
  | true => rw [if_pos rfl] at h ⊢; exact ha rfl _ _ h
  | false => rw [if_neg (by decide)] at h ⊢; exact hb rfl _ _ h
theorem e_cmp (op : Cop) (ha : EvU wa env x) (hb : EvU wb env y) (h : CmpV op x y p) : Ev (wCmp op wa wb) env (.bool p) := fun PX P q =>
  ha _ _ fun a h1 => hb _ _ fun b h2 => h1 _ (h2 _ (h _ q))
theorem e_chain (op op2 : Cop) (ha : EvU wa env x) (hb : EvU wb env y) (hc : EvU wc env z) (h1 : CmpV op x y p) (h2 : CmpV op2 y z q) : Ev (wChain op op2 wa wb wc) env (.bool (p && q)) := fun PX P h =>
  ha _ _ fun a ka => hb _ _ fun b kb => ka _ (kb _ (h1 _ (by
    show if p = true then _ else _
    cases p with
    | true =>
      rw [if_pos rfl]
      exact hc _ _ fun c kc => kb _ (kc _ (h2 _ h))
    | false => rw [if_neg (by decide)]; exact h)))
theorem c_lt {i j : Int} : CmpV .lt (.int i) (.int j) (decide (i < j)) := fun Q q => q
theorem c_le {i j : Int} : CmpV .le (.int i) (.int j) (decide (i ≤ j)) := fun Q q => q
theorem c_gt {i j : Int} : CmpV .gt (.int i) (.int j) (decide (j < i)) := fun Q q => q
theorem c_ge {i j : Int} : CmpV .ge (.int i) (.int j) (decide (j ≤ i)) := fun Q q => q
theorem c_eqD (h : eqOk x y = true) : CmpV .eq x y (PyData.eqv x y) := fun Q q => ⟨h, q⟩
theorem c_neD (h : eqOk x y = true) : CmpV .ne x y (!PyData.eqv x y) := fun Q q => ⟨h, q⟩
theorem c_eqI {i j : Int} : CmpV .eq (.int i) (.int j) (decide (i = j)) := fun Q q => ⟨rfl, by rw [eqv_int]; exact q⟩
theorem c_neI {i j : Int} : CmpV .ne (.int i) (.int j) (!decide (i = j)) := fun Q q => ⟨rfl, by rw [eqv_int]; exact q⟩
theorem c_eqS {i j : Str} : CmpV .eq (.str i) (.str j) (decide (i = j)) := fun Q q => ⟨rfl, by rw [eqv_str]; exact q⟩
theorem c_neS {i j : Str} : CmpV .ne (.str i) (.str j) (!decide (i = j)) := fun Q q => ⟨rfl, by rw [eqv_str]; exact q⟩
theorem c_isN : CmpV .is x .none (isNone x) := fun Q q => by cases x <;> exact q
theorem c_isB {b c : Bool} : CmpV .is (.bool b) (.bool c) (decide (b = c)) := fun Q q => q
theorem b_mulS {x : Str} {k : Int} (h : -1000000 ≤ k ∧ k ≤ 1000000 ∧ x.length ≤ 1000000 ∧ x.length * k.toNat ≤ 1000000) : BopV .mul (.str x) (.int k) (.str (repS x k)) := fun Q q => ⟨h.1, h.2.1, h.2.2.1, h.2.2.2, q⟩
theorem e_mulL {k : Int} (ha : EvU wa env (.list ds)) (hb : EvU wb env (.int k)) (h : -1000000 ≤ k ∧ k ≤ 1000000 ∧ ds.length * k.toNat ≤ 1000000) : EvL (wBin .mul wa wb) env (List.replicate k.toNat ds).flatten := fun PX P q =>
  ha _ _ fun a h1 => hb _ _ fun b h2 => h1 _ (h2 _ ⟨h.1, h.2.1, h.2.2, q⟩)
theorem c_notN : CmpV .isNot x .none (!isNone x) := fun Q q => by cases x <;> exact q
theorem c_inT (h : inOk x ds = true) : CmpV .inn x (.tuple ds) (ds.any fun y => PyData.eqv y x) := fun Q q => by cases x <;> exact ⟨h, q⟩
theorem c_notInT (h : inOk x ds = true) : CmpV .notIn x (.tuple ds) (!ds.any fun y => PyData.eqv y x) := fun Q q => by cases x <;> exact ⟨h, q⟩
theorem c_notInL (h : plainD x = true) (h2 : plainD (.list ds) = true) : CmpV .notIn x (.list ds) (!ds.any fun y => PyData.eqv y x) := fun Q q => by cases x <;> exact ⟨h, h2, q⟩
theorem a_no : EvA aNil env [] := fun PX P q => q
theorem a_co {ws : WA} (h : Ev we env v) (h2 : EvA ws env vs) : EvA (aCons we ws) env (v :: vs) := fun PX P q => h _ _ (h2 _ _ q)
theorem us_no : EvUs aNil env [] := fun PX P q => q [] fun Q z => z
theorem us_co {ws : WA} (h : EvU we env v) (h2 : EvUs ws env vs) : EvUs (aCons we ws) env (v :: vs) := fun PX P q => h _ _ fun x hx => h2 _ _ fun l hl => q (x :: l) fun Q z => hx _ (hl _ z)
theorem e_prim (p : Prim) (ha : EvUs wl env ds) (h : PrimV p ds v) : Ev (wPrim p wl) env v := fun PX P q => ha _ _ fun ws k => k _ (h _ q)
theorem e_isi {t : Ty} (ha : EvU wa env x) : Ev (wPrim (.isi t) (aCons wa aNil)) env (.bool (decide (t ∈ tyOf x))) := e_prim _ (us_co ha us_no) fun Q q => q
theorem e_isis {ts : List Ty} (ha : EvU wa env x) : Ev (wPrim (.isis ts) (aCons wa aNil)) env (.bool (ts.any fun t => decide (t ∈ tyOf x))) := e_prim _ (us_co ha us_no) fun Q q => q
theorem e_lenT (ha : EvU wa env (.tuple ds)) : Ev (wPrim .len (aCons wa aNil)) env (.int ds.length) := e_prim _ (us_co ha us_no) fun Q q => q
theorem e_lenL (ha : EvU wa env (.list ds)) : Ev (wPrim .len (aCons wa aNil)) env (.int ds.length) := e_prim _ (us_co ha us_no) fun Q q => q
theorem e_lenS {x : Str} (ha : EvU wa env (.str x)) (h : x.length ≤ 1000000) : Ev (wPrim .len (aCons wa aNil)) env (.int x.length) := e_prim _ (us_co ha us_no) fun Q q => smallE h q
theorem e_all {bs : List Bool} (ha : EvU wa env (.list (bs.map .bool))) : Ev (wPrim .all (aCons wa aNil)) env (.bool (bs.all id)) := e_prim _ (us_co ha us_no) fun Q q => onSome_mk (x := bs) (by have := boolsOf_map (fun b => b) bs; rw [List.map_id'] at this; exact this) q
theorem e_repr (ha : EvU wa env x) (h : ShowOk x) : Ev (wPrim .repr (aCons wa aNil)) env (.str x.shown) := e_prim _ (us_co ha us_no) fun Q q => reprB h q
theorem e_tuple (ha : EvU wa env (.list ds)) : Ev (wPrim .tuple (aCons wa aNil)) env (.tuple ds) := e_prim _ (us_co ha us_no) fun Q q => q
theorem e_listT (ha : EvU wa env (.tuple ds)) : EvL (wPrim .list (aCons wa aNil)) env ds := fun PX P q => us_co ha us_no _ _ fun ws k => k _ q
theorem atI_int {ds : List D} {n : Int} {k : Nat} (e : ixN ds.length n = some k) (h : ds[k]? = some v) : atI ds n = some v := by
  unfold atI
  rw [e]; exact h
theorem e_ixT {n : Int} (ha : Ev wa env (.tuple ds)) (hb : EvU wb env (.int n)) (h : atI ds n = some v) : Ev (wIx wa wb) env v := fun PX P q => ha _ _ (hb _ _ fun k hk => hk (fun d => ixW (.tuple ds) d fun y => P (.o (.d y)) env) (onSome_mk h q))
theorem e_ixD {n : Int} (ha : Ev wa env (.list ds)) (hb : EvU wb env (.int n)) (h : atI ds n = some v) : Ev (wIx wa wb) env v := fun PX P q => ha _ _ (hb _ _ fun k hk => hk (fun d => ixW (.list ds) d fun y => P (.o (.d y)) env) (onSome_mk h q))
theorem atI_map {α β : Type} (f : α → β) (l : List α) (n : Int) : atI (l.map f) n = (atI l n).map f := by
  unfold atI
  rw [List.length_map]
  cases ixN l.length n with
  | none => rfl
  | some k => simp
theorem e_ixL {n : Int} (ha : EvL wa env ds) (hb : EvU wb env (.int n)) (h : atI ds n = some v) : Ev (wIx wa wb) env v := fun PX P q => ha _ _ fun a => hb _ _ fun k hk => by
  unfold itemW
  exact hk _ (onSome_mk (x := O.d v) (by rw [atI_map, h]; rfl) q)
theorem e_ixO {n : Int} {a : Addr} (ha : env[i]? = some (some (.lst a (ds.map .d)))) (hb : EvU wb env (.int n)) (h : atI ds n = some v) : Ev (wIx (wVar i) wb) env v := fun PX P q => by
  show wVar i _ _ _
  unfold wVar
  simp only [ha]
  refine hb _ _ fun k hk => ?_
  have e : envAt env i [] = some (.lst a (ds.map .d)) := by unfold envAt; simp only [ha]; rfl
  unfold itemW
  simp only [e]
  refine ⟨trivial, hk _ ?_⟩
  unfold atI at h
  cases e1 : ixN ds.length n with
  | none => rw [e1] at h; cases h
  | some j =>
    rw [e1] at h
    refine onSome_mk (x := j) (by rw [List.length_map]; exact e1) (onSome_mk (x := O.d v) (by rw [List.getElem?_map, show ds[j]? = some v from h]; rfl) q)
theorem e_sign {x : Str} {n : Int} {c : Nat} (ha : Ev wa env (.str x)) (hb : EvU wb env (.int n)) (hl : x.length ≤ 1000000) (h : atI x.cps.toList n = some c) : Ev (wIx wa wb) env (.str ⟨#[c]⟩) := fun PX P q => ha _ _ (hb _ _ fun k hk => hk (fun d => ixW (.str x) d fun y => P (.o (.d y)) env) (smallE hl (onSome_mk h q)))
def EvO (w : WO) (env : Env) (n : Option Int) : Prop := ∀ (PX : Exn → Env → Prop) (P : Option Int → Env → Prop), P n env → w PX env P
theorem ov_no : EvO oNone env none := fun PX P q => q
theorem ov_so {n : Int} (h : Ev we env (.int n)) : EvO (oSome we) env (some n) := fun PX P q => h _ _ q
theorem e_slT {wl wh : WO} {l h : Option Int} (ha : EvU wa env (.tuple ds)) (hl : EvO wl env l) (hh : EvO wh env h) : Ev (wSl wa wl wh) env (.tuple (cutD ds l h)) := fun PX P q => ha _ _ fun x hx => hl _ _ (hh _ _ (hx _ q))
theorem e_slS {wl wh : WO} {l h : Option Int} {x : Str} (ha : EvU wa env (.str x)) (hl : EvO wl env l) (hh : EvO wh env h) (hz : x.length ≤ 1000000) : Ev (wSl wa wl wh) env (.str (cutS x l h)) := fun PX P q => ha _ _ fun x hx => hl _ _ (hh _ _ (hx _ (smallE hz q)))
theorem e_slL {wl wh : WO} {l h : Option Int} (ha : EvU wa env (.list ds)) (hl : EvO wl env l) (hh : EvO wh env h) : EvL (wSl wa wl wh) env (cutD ds l h) := fun PX P q => ha _ _ fun x hx => hl _ _ (hh _ _ (hx _ q))
theorem inWs_d {vs : List D} {env : Env} {Q : List O → Env → Prop} (h : Q (vs.map .d) env) : inWs (vs.map fun v => .o (.d v)) env Q := by
  induction vs generalizing Q with
  | nil => exact h
  | cons v vs ih => exact ih (Q := fun os env'' => Q (.d v :: os) env'') h
theorem e_tup (ha : EvA wl env vs) (h : vs.length ≤ 1000000) : Ev (wTup wl) env (.tuple vs) := fun PX P q => ha _ _ (inWs_d ⟨by rw [List.length_map]; exact Nat.le_of_lt (small h), by rw [datas_map]; exact q⟩)
theorem e_lst (ha : EvA wl env vs) (h : vs.length ≤ 1000000) : EvL (wLst wl) env vs := fun PX P q => ha _ _ (inWs_d ⟨by rw [List.length_map]; exact Nat.le_of_lt (small h), q⟩)
theorem e_frzL (ha : EvL wa env ds) : Ev (wFrz wa) env (.list ds) := fun PX P q => ha _ _ fun a => by
  show P (.o (.d (O.toD _))) env
  rw [toD_lst]; exact q
theorem e_frz (ha : Ev wa env v) : Ev (wFrz wa) env v := fun PX P q => ha _ _ q
def RtF (F : FSem) (vs : List D) (v : D) : Prop := ∀ (P : O → List O → Prop) (PX : Exn → List O → Prop), P (.d v) (vs.map .d) → F (vs.map .d) P PX
theorem RtF.to {F : FSem} (h : RtF F vs v) (e : v = x) : RtF F vs x := by subst e; exact h
theorem lendW_d {vs : List D} {env : Env} {Q : List O → Prop} (h : Q (vs.map .d)) : lendW (vs.map fun v => .o (.d v)) env Q := by
  induction vs generalizing Q with
  | nil => exact h
  | cons v vs ih => exact ⟨rfl, ih (Q := fun os => Q (.d v :: os)) h⟩
theorem lentAt_d {vs : List D} : lentAt (vs.map fun v => .o (.d v)) = [] := by
  induction vs with
  | nil => rfl
  | cons v vs ih => exact ih
theorem giveBackW_d {vs : List D} {env : Env} {Q : Env → Prop} (h : Q env) : giveBackW (vs.map fun v => .o (.d v)) (vs.map .d) env Q := by
  induction vs with
  | nil => exact h
  | cons v vs ih => exact ih
theorem e_call {F : FSem} {n : Nat} (ha : EvA wl env vs) (h : RtF F vs v) (hn : vs.length = n) : Ev (wCall (ar n F) wl) env v := fun PX P q => ha _ _ (lendW_d ⟨by rw [lentAt_d]; rfl, by rw [List.length_map]; exact hn, h _ _ (giveBackW_d q)⟩)
def Rt (u : WS) (env : Env) (v : D) : Prop := ∀ (PX : Exn → Env → Prop) (k : Kt), (∀ env', k.rt (.o (.d v)) env') → u PX env k
theorem Rt.to {u : WS} (h : Rt u env v) (e : v = x) : Rt u env x := by subst e; exact h
theorem backsW_d {vs : List D} {i : Nat} {env : Env} {Q : List O → Prop} (h : Q (vs.map .d)) : backsW i (vs.map .d) env Q := by
  induction vs generalizing i Q with
  | nil => exact h
  | cons v vs ih => exact ih (Q := fun os => Q (.d v :: os)) h
theorem rtF {u : WS} {n : Nat} (h : Rt u (start n (vs.map .d)) v) : RtF (semW u n) vs v := fun P PX q => h _ _ fun env' => backsW_d q
section
variable {u ux uy : WS}
theorem r_ret (h : Ev we env v) : Rt (sCons (sRet we) u) env v := fun PX k q => h _ _ (q _)
theorem r_if (hc : Ev wc env (.bool p)) (ha : p = true → Rt ux env x) (hb : p = false → Rt u env y) : Rt (sCons (sIf wc ux sNil) u) env (if p = true then x else y) := fun PX k h => by
  refine hc _ _ ?_
  show if p = true then _ else _
  cases p with
  | true => rw [if_pos rfl] at h ⊢; exact ha rfl _ _ h
  | false => rw [if_neg (by decide)] at h ⊢; exact hb rfl _ _ h
theorem r_asg (h : Ev we env x) (hi : i < env.length) (hu : Rt u (env.set i (some (.d x))) v) : Rt (sCons (sAsg (.v i) we) u) env v := fun PX k q => h _ _ ⟨hi, hu _ _ q⟩
theorem r_asgL (h : EvL we env ds) (hi : i < env.length) (hu : ∀ a, Rt u (env.set i (some (.lst a (ds.map .d)))) v) : Rt (sCons (sAsg (.v i) we) u) env v := fun PX k q => h _ _ fun a => ⟨hi, hu a _ _ q⟩
end
theorem sv_e (h : Ev we env x) (e : seqOf x = some ds) : EvS (iE we) env ⟨ds, none⟩ := fun PX P q => h _ _ (onSome_mk e q)
theorem sv_l (h : EvL we env ds) : EvS (iE we) env ⟨ds, none⟩ := fun PX P q => h _ _ fun a => srcL q
theorem sv_r1 {n : Int} (h : Ev we env (.int n)) (hn : -4611686018427387904 ≤ n ∧ n < 4611686018427387904) : EvS (iR1 we) env ⟨upTo 0 n.toNat, none⟩ := fun PX P q => h _ _ ⟨hn, q⟩
theorem sv_r2 {m n : Int} (h : Ev wa env (.int m)) (h2 : Ev wb env (.int n)) (hm : -4611686018427387904 ≤ m ∧ m < 4611686018427387904) (hn : -4611686018427387904 ≤ n ∧ n < 4611686018427387904) : EvS (iR2 wa wb) env ⟨upTo m (n - m).toNat, none⟩ := fun PX P q => h _ _ (h2 _ _ ⟨hm, hn, q⟩)
theorem sv_s {x : Str} (h : Ev we env (.str x)) : EvS (iS we) env ⟨letters x, none⟩ := fun PX P q => h _ _ q
theorem restore_void1 {env : Env} {i : Nat} (hi : i < env.length) : restore env [i] (void [i] env) = env := by
  show (List.set _ _ _).set i _ = env
  rw [List.set_set]
  have : ∀ (l : Env) (o : Option (Option O)), o = some env[i] → l = env → l.set i (match o with | some o => o | none => none) = env := by
    intro l o h1 h2
    subst h1 h2
    exact List.set_getElem_self hi
  exact this _ _ (List.getElem?_eq_getElem hi) rfl
theorem e_compF {wi : WI} {wt : WT} {g : D → Bool} {f : D → D} (hs : EvS wi env ⟨ds, none⟩) (hp : plainAt env i) (hi : i < env.length) (hl : ds.length ≤ 1000000)
    (ht : ∀ x ∈ ds, Ev wt (env.set i (some (.d x))) (.bool (g x))) (he : ∀ x ∈ ds, g x = true → Ev we (env.set i (some (.d x))) (f x)) : EvL (wComp wi [i] (.v i) (cOne wt) we) env ((ds.filter g).map f) := fun PX P q => by
  refine hs _ _ ⟨plain1 hp, fun a => ?_⟩
  refine goComp_filter (s := ⟨ds, none⟩) g (fun x => .d (f x)) hl trivial (fun x hx acc K h1 h2 h3 => ?_) fun _ => ?_
  · have hv : Nat.blt i (void [i] (void [i] env)).length = true := by rw [void_length, void_length]; simpa [Nat.blt_eq] using hi
    refine stepC_c hv ?_
    have e : (void [i] (void [i] env)).set i (some (O.d x)) = env.set i (some (.d x)) := by show (List.set (List.set (List.set env i none) i none) i _) = _; rw [List.set_set, List.set_set]
    rw [e]
    refine ht x hx _ _ ?_
    show if g x = true then _ else _
    have e2 : void [i] (env.set i (some (O.d x))) = void [i] env := by show List.set (List.set env i _) i none = List.set env i none; rw [List.set_set]
    cases hg : g x with
    | true =>
      rw [if_pos rfl]
      exact he x hx hg _ _ ⟨h1, by rw [e2]; exact h2 hg⟩
    | false =>
      rw [if_neg (by decide), e2]
      exact h3 hg
  · rw [restore_void1 hi, show ((ds.filter g).map fun x => O.d (f x)) = ((ds.filter g).map f).map .d by rw [List.map_map]; rfl]
    exact q a
theorem e_comp {wi : WI} {f : D → D} (hs : EvS wi env ⟨ds, none⟩) (hp : plainAt env i) (hi : i < env.length) (hl : ds.length ≤ 1000000)
    (he : ∀ x ∈ ds, Ev we (env.set i (some (.d x))) (f x)) : EvL (wComp wi [i] (.v i) cAll we) env (ds.map f) := fun PX P q => by
  refine hs _ _ ⟨plain1 hp, fun a => ?_⟩
  refine goComp_map (s := ⟨ds, none⟩) (fun x => .d (f x)) hl trivial (fun x hx acc K h1 h2 => ?_) fun _ => ?_
  · have hv : Nat.blt i (void [i] (void [i] env)).length = true := by rw [void_length, void_length]; simpa [Nat.blt_eq] using hi
    refine stepC_v hv ?_
    have e : (void [i] (void [i] env)).set i (some (O.d x)) = env.set i (some (.d x)) := by show (List.set (List.set (List.set env i none) i none) i _) = _; rw [List.set_set, List.set_set]
    rw [e]
    have e2 : void [i] (env.set i (some (O.d x))) = void [i] env := by show List.set (List.set env i _) i none = List.set env i none; rw [List.set_set]
    exact he x hx _ _ ⟨h1, by rw [e2]; exact h2⟩
  · rw [restore_void1 hi, show (ds.map fun x => O.d (f x)) = (ds.map f).map .d by rw [List.map_map]; rfl]
    exact q a
def BodyR (u : WS) (env : Env) (q : Bool) (r : D) : Prop := ∀ (PX : Exn → Env → Prop) (k : Kt), (q = true → k.nx env) → (q = false → ∀ env', k.rt (.o (.d r)) env') → u PX env k
theorem br_nil {r : D} : BodyR sNil env true r := fun PX k h1 h2 => h1 rfl
theorem br_if {ux u : WS} {r : D} (hc : Ev wc env (.bool p)) (ha : p = true → Rt ux env r) (hb : p = false → BodyR u env q r) : BodyR (sCons (sIf wc ux sNil) u) env (!p && q) r := fun PX k h1 h2 => by
  refine hc _ _ ?_
  show if p = true then _ else _
  cases p with
  | true =>
    rw [if_pos rfl]
    exact ha rfl _ _ (h2 rfl)
  | false =>
    rw [if_neg (by decide)]
    refine hb rfl _ _ (fun hq => h1 ?_) (fun hq => h2 ?_)
    · rw [hq]; rfl
    · rw [hq]; rfl
theorem r_for {wi : WI} {wb u : WS} {g : D → Bool} {r0 : D} (hs : EvS wi env ⟨ds, none⟩) (hi : i < env.length) (hb : ∀ x ∈ ds, BodyR wb (env.set i (some (.d x))) (g x) r0) (hu : ∀ y, Rt u (env.set i y) v) :
    Rt (sCons (sFor (.v i) wi wb) u) env (if ds.all g = true then v else r0) := fun PX k h => by
  refine hs _ _ ?_
  show goFor _ _ ds env _
  have key : ∀ (l : List D) (y : Option O) (g2 : List D → Prop), (∀ x ∈ l, x ∈ ds) → (∀ env', k.rt (.o (.d (if l.all g = true then v else r0))) env') → goFor ⟨ds, none⟩ (forStep (.v i) wb PX { k with nx := fun env1 => u PX env1 k }) l (env.set i y) fun env1 => u PX env1 k := by
    intro l
    induction l with
    | nil =>
      intro y _ _ h
      exact hu y _ _ (by simpa using h)
    | cons x l ih =>
      intro y _ hm h
      show forStep _ _ _ _ _ _ _
      refine ⟨by rw [List.length_set]; exact hi, ?_⟩
      rw [List.set_set]
      refine hb x (hm x List.mem_cons_self) _ _ (fun hg => ⟨trivial, ?_⟩) fun hg env' => ?_
      · refine ih _ (fun _ => True) (fun z hz => hm z (List.mem_cons_of_mem _ hz)) fun env' => ?_
        have h2 := h env'
        rw [List.all_cons, hg, Bool.true_and] at h2
        exact h2
      · have h2 := h env'
        rw [List.all_cons, hg, Bool.false_and, if_neg (by decide)] at h2
        exact h2
  have e : env.set i env[i] = env := List.set_getElem_self hi
  have := key ds env[i] (fun _ => True) (fun _ h => h) h
  rw [e] at this
  exact this
end
end Vx
namespace Vx
open PySem PySem.Spec L2
def items : D → List D
  | .tuple ds => ds
  | .list ds => ds
  | _ => []
def intD : D → Int
  | .int i => i
  | _ => 0
def strD : D → Str
  | .str x => x
  | _ => ("" : Str)
abbrev isT (t : Ty) (x : D) : Bool := decide (t ∈ tyOf x)
def isNumD : D → Bool
  | .int _ => true
  | _ => false
theorem isNumD_eq {x : D} : isNumD x = (isT .int x && !isT .bool x) := by cases x <;> simp [isNumD, isT, tyOf]
theorem tup_of {x : D} (h : isT .tuple x = true) : x = .tuple (items x) := by cases x <;> first | rfl | (simp [isT, tyOf] at h)
theorem str_of {x : D} (h : isT .str x = true) : x = .str (strD x) := by cases x <;> first | rfl | (simp [isT, tyOf] at h)
theorem num_of {x : D} (h : isNumD x = true) : x = .int (intD x) := by cases x <;> first | rfl | (simp [isNumD] at h)
def atD (x : D) (n : Int) : D := (items x).getD n.toNat .none
theorem atI_nat {ds : List D} {n : Nat} (h : n < ds.length) : atI ds (n : Int) = some (ds.getD n .none) := by
  refine atI_int (ixN_nat h) ?_
  rw [List.getElem?_eq_getElem h, List.getD_eq_getElem?_getD, List.getElem?_eq_getElem h]; rfl
theorem atD_mem {x : D} {n : Int} (h : 0 ≤ n ∧ n < (items x).length) : atD x n ∈ items x := by
  have h2 : n.toNat < (items x).length := by omega
  unfold atD
  rw [List.getD_eq_getElem?_getD, List.getElem?_eq_getElem h2]
  exact List.getElem_mem h2
section
variable {w wa wb wc we : WT} {wl : WA} {env : Env} {x y z v : D} {ds vs : List D} {p q r : Bool} {i j : Nat}
theorem e_len (ha : EvU wa env x) (h : isT .tuple x = true) : Ev (wPrim .len (aCons wa aNil)) env (.int (items x).length) := by
  rw [tup_of h] at ha
  exact e_lenT ha
theorem e_lenX (ha : EvU wa env x) (h : isT .str x = true) (hl : (strD x).length ≤ 1000000) : Ev (wPrim .len (aCons wa aNil)) env (.int (strD x).length) := by
  rw [str_of h] at ha
  exact e_lenS ha hl
theorem e_ix {n : Int} (ha : Ev wa env x) (hb : EvU wb env (.int n)) (ht : isT .tuple x = true) (h : 0 ≤ n ∧ n < (items x).length) : Ev (wIx wa wb) env (atD x n) := by
  rw [tup_of ht] at ha
  obtain ⟨k, rfl⟩ : ∃ k : Nat, n = k := ⟨n.toNat, by omega⟩
  exact e_ixT ha hb (atI_nat (by omega))
theorem sv_t (h : Ev we env x) (ht : isT .tuple x = true) : EvS (iE we) env ⟨items x, none⟩ := by
  rw [tup_of ht] at h
  exact sv_e h rfl
theorem sv_x (h : Ev we env x) (ht : isT .str x = true) : EvS (iS we) env ⟨letters (strD x), none⟩ := by
  rw [str_of ht] at h
  exact sv_s h
theorem cx_lt (hx : isNumD x = true) (hy : isNumD y = true) : CmpV .lt x y (decide (intD x < intD y)) := by rw [num_of hx, num_of hy]; exact c_lt
theorem cx_le (hx : isNumD x = true) (hy : isNumD y = true) : CmpV .le x y (decide (intD x ≤ intD y)) := by rw [num_of hx, num_of hy]; exact c_le
theorem cx_gt (hx : isNumD x = true) (hy : isNumD y = true) : CmpV .gt x y (decide (intD y < intD x)) := by rw [num_of hx, num_of hy]; exact c_gt
theorem cx_ge (hx : isNumD x = true) (hy : isNumD y = true) : CmpV .ge x y (decide (intD y ≤ intD x)) := by rw [num_of hx, num_of hy]; exact c_ge
theorem cx_eqS {x : D} {t : Str} (hx : isT .str x = true) : CmpV .eq x (.str t) (decide (strD x = t)) := by rw [str_of hx]; exact c_eqS
theorem cx_neS {x : D} {t : Str} (hx : isT .str x = true) : CmpV .ne x (.str t) (!decide (strD x = t)) := by rw [str_of hx]; exact c_neS
theorem c_eqNil (h : plainD (.list ds) = true) : CmpV .eq (.list ds) (.list []) ds.isEmpty := fun Q q => by
  refine ⟨eqOk_of h rfl, ?_⟩
  have : PyData.eqv (.list ds) (.list []) = ds.isEmpty := by cases ds <;> simp [PyData.eqv, PyData.eqvAll]
  rw [this]; exact q
end
end Vx
namespace Vx
open PySem PySem.Spec L2
theorem mem_cutD {xs : List D} {lo hi : Option Int} {d : D} (h : d ∈ cutD xs lo hi) : d ∈ xs := List.mem_of_mem_drop (List.mem_of_mem_take h)
theorem cutD_len {xs : List D} {lo hi : Option Int} : (cutD xs lo hi).length ≤ xs.length := by
  unfold cutD
  rw [List.length_take, List.length_drop]
  omega
theorem wt_one {d : D} : PyData.weightAll [d] = d.weight + 1 := by simp only [PyData.weightAll] <;> omega
theorem wt_cut {ds : List D} {lo hi : Option Int} : PyData.weightAll (cutD ds lo hi) ≤ PyData.weightAll ds := wt_mid
theorem wt_cut2 {ds : List D} {v w : Int} (h0 : 0 ≤ v) (h1 : v ≤ w) : PyData.weightAll (cutD ds none (some v)) + PyData.weightAll (cutD ds (some w) none) ≤ PyData.weightAll ds := by
  rw [cut_to h0, cut_from (by omega)]
  have h2 := wt_take (xs := ds) (j := v.toNat)
  have h3 := wt_drop (xs := ds) (j := v.toNat) (k := w.toNat) (by omega)
  omega
theorem wt_mem {ds : List D} {d : D} (h : d ∈ ds) : d.weight ≤ PyData.weightAll ds := by
  obtain ⟨j, hj⟩ := List.getElem?_of_mem h
  have := wt_split hj
  omega
theorem wt_put {ds : List D} {d e : D} {j : Nat} (h : ds[j]? = some e) : PyData.weightAll (cutD ds none (some (j : Int)) ++ [d] ++ cutD ds (some ((j : Int) + 1)) none) + e.weight = PyData.weightAll ds + d.weight := by
  rw [cut_to (by omega), cut_from (by omega), wt_app, wt_app, wt_one]
  have := wt_split h
  rw [show ((j : Int)).toNat = j by omega, show ((j : Int) + 1).toNat = j + 1 by omega]
  omega
theorem wt_str {x : Str} : PyData.weight (.str x) = x.length := by simp only [PyData.weight]; rfl
theorem wt_tup {ds : List D} : PyData.weight (.tuple ds) = PyData.weightAll ds := by simp only [PyData.weight]
theorem wt_lst {ds : List D} : PyData.weight (.list ds) = PyData.weightAll ds := by simp only [PyData.weight]
theorem wt_none : PyData.weight .none = 0 := by simp only [PyData.weight]
theorem wt_cons {d : D} {ds : List D} : PyData.weightAll (d :: ds) = d.weight + 1 + PyData.weightAll ds := by simp only [PyData.weightAll]
theorem wt_all {w : Nat} {ds : List D} (h : ∀ d ∈ ds, d.weight ≤ w) : PyData.weightAll ds ≤ (w + 1) * ds.length := by
  induction ds with
  | nil => exact Nat.zero_le _
  | cons d ds ih =>
    have := ih fun y hy => h y (List.mem_cons_of_mem _ hy)
    have h1 := h d List.mem_cons_self
    rw [List.length_cons, Nat.mul_succ, wt_cons]
    omega
theorem tup_good {s n w m : Nat} {ds : List D} (h : ∀ d ∈ ds, G s n d ∧ d.weight ≤ w) (hm : ds.length ≤ m) : G s (n + 1) (.tuple ds) ∧ PyData.weight (.tuple ds) ≤ (w + 1) * m :=
  ⟨.tup fun d hd => (h d hd).1, by rw [wt_tup]; exact Nat.le_trans (wt_all fun d hd => (h d hd).2) (Nat.mul_le_mul_left _ hm)⟩
theorem G.kid {s : Nat} {x : D} {d : D} : ∀ {n : Nat}, G s n x → d ∈ items x → G s n d ∧ d.weight ≤ x.weight := fun {n} h hd => by
  cases h with
  | tup h => exact ⟨(h d hd).mono (Nat.le_refl _) (Nat.le_succ _), by rw [wt_tup]; exact wt_mem hd⟩
  | lst h => exact ⟨(h d hd).mono (Nat.le_refl _) (Nat.le_succ _), by rw [wt_lst]; exact wt_mem hd⟩
  | _ => cases hd
def GD (w : Nat) (x : D) : Prop := G 900 60 x ∧ x.weight ≤ w
theorem GDof {s n w v : Nat} {x : D} (h : G s n x) (hs : s ≤ 900) (hn : n ≤ 60) (hw : x.weight ≤ w) (h2 : w ≤ v) : GD v x := ⟨h.mono hs hn, Nat.le_trans hw h2⟩
theorem GD.mono {w v : Nat} {x : D} (h : GD w x) (hv : w ≤ v) : GD v x := ⟨h.1, Nat.le_trans h.2 hv⟩
theorem GD.kid {w : Nat} {x d : D} (h : GD w x) (hd : d ∈ items x) : GD w d := ⟨(G.kid h.1 hd).1, Nat.le_trans (G.kid h.1 hd).2 h.2⟩
theorem GD.len {w : Nat} {x : D} (h : GD w x) : (items x).length ≤ w := by
  refine Nat.le_trans ?_ h.2
  cases x with
  | tuple ds => rw [wt_tup]; exact len_wt
  | list ds => rw [wt_lst]; exact len_wt
  | _ => exact Nat.zero_le _
theorem GD.str {w : Nat} {x : D} (h : GD w x) : (strD x).length ≤ w + 1 := by
  cases x with
  | str x => exact Nat.le_succ_of_le (by have := h.2; rw [wt_str] at this; exact this)
  | _ => exact Nat.le_trans (show Str.length ("" : Str) ≤ 0 by decide +kernel) (Nat.zero_le _)
theorem GD.plain {w : Nat} {x : D} (h : GD w x) : plainD x = true := ((h.1.mo (by omega)).plain (by omega))
theorem GD.plainS {w : Nat} {x : D} (h : GD w x) : plainS (strD x) := by
  cases x with
  | str x => cases h.1 with | str h => exact h
  | _ => exact plainS_lit (x := ("" : Str)) (by decide +kernel)
theorem GD.show {w : Nat} {x : D} (h : GD w x) (hw : w ≤ 170000) : ShowOk x := (h.1.mo (by omega)).show (by omega) (Nat.le_trans h.2 (by omega))
theorem plain_sub {w : Nat} {x : D} {ds : List D} (h : GD w x) (hd : ∀ d ∈ ds, d ∈ items x) : plainD (.list ds) = true :=
  (G.mo (s := 900) (by omega) (G.lst (n := 60) fun d hm => (G.kid h.1 (hd d hm)).1)).plain (by omega)
theorem eqv_nil {ds : List D} : PyData.eqv (.list ds) (.list []) = ds.isEmpty := by cases ds <;> simp [PyData.eqv, PyData.eqvAll]
theorem nx_ifE {wc : WT} {wx wy u : WS} {PX : Exn → Vx.Env → Prop} {env : Vx.Env} {k : Kt} {p : Bool} (hc : Ev wc env (.bool p)) (h : if p = true then Nx wx PX env ⟨fun env2 => Nx u PX env2 k, k.rt, k.bk, k.ct⟩ else Nx wy PX env ⟨fun env2 => Nx u PX env2 k, k.rt, k.bk, k.ct⟩) : Nx (sCons (sIf wc wx wy) u) PX env k :=
  nx_if (hc _ _ h)
theorem nx_asgE {we : WT} {u : WS} {PX : Exn → Vx.Env → Prop} {env : Vx.Env} {k : Kt} {i : Nat} {v : D} (hc : Ev we env v) (hi : Nat.blt i env.length = true) (h : Nx u PX (env.set i (some (.d v))) k) : Nx (sCons (sAsg (.v i) we) u) PX env k :=
  nx_asg (hc _ _ ⟨by simpa [Nat.blt_eq] using hi, h⟩)
theorem nx_asgLE {we : WT} {u : WS} {PX : Exn → Vx.Env → Prop} {env : Vx.Env} {k : Kt} {i : Nat} {ds : List D} (hc : EvL we env ds) (hi : Nat.blt i env.length = true) (h : ∀ a, Nx u PX (env.set i (some (.lst a (ds.map .d)))) k) : Nx (sCons (sAsg (.v i) we) u) PX env k :=
  nx_asg (hc _ _ fun a => ⟨by simpa [Nat.blt_eq] using hi, h a⟩)
theorem nx_retE {we : WT} {u : WS} {PX : Exn → Vx.Env → Prop} {env : Vx.Env} {k : Kt} {v : D} (hc : Ev we env v) (h : k.rt (.o (.d v)) env) : Nx (sCons (sRet we) u) PX env k :=
  nx_ret (hc _ _ h)
theorem letters_len {x : Str} : (letters x).length = x.length := by unfold letters; rw [List.length_map, Array.length_toList]; rfl
theorem letters_mem {x : Str} {d : D} (h : d ∈ letters x) : ∃ c, c ∈ x.cps.toList ∧ d = .str ⟨#[c]⟩ := by
  obtain ⟨c, hc, rfl⟩ := List.mem_map.mp h
  exact ⟨c, hc, rfl⟩
end Vx
namespace Vx
open PySem PySem.Spec L2
end Vx
namespace Vx
open PySem PySem.Spec L2
theorem c_gtup {X : Cx} {B : Bs} {Wx : WX} {x : Str} {p : Pos} {a : Addr} {o : Obj} {its : Array Value} {n : Nat} {vs : List V} {ds : List D} (hg : Gl X x) (hm : X.mg x = some (.ref a)) (lk : X.K.lookup a = some o) (hc : o.cls = .type "tuple") (hdn : o.dict = none) (hd : o.data = .seq its n) (hz : its.size ≤ sizeLine)
    (hv : Vals vs its.toList) (hr : ∀ (S : Fz) (H : Hp), RpA X.K S H vs ds) (hdb : (x == ("__debug__" : Str)) = false) : PV X B Wx (.Name x p) (wK (.tuple ds)) :=
  PE_imp (pe_gc hg hm (show RelV (.ref a) (.ref a) from rfl) hdb) fun σ H Q h => by
    obtain ⟨S, env, T, P, PX, r, hw, hP, _⟩ := h
    exact hP _ env _ S H hw (r.push (.tup (.inr ⟨o, its, n, lk, hc, hdn, hd, hz, hv⟩) (hr S H)))
end Vx
namespace Vx
open PySem PySem.Spec L2
theorem item_in {a : Addr} {ds : List D} {v : Int} {env : Env} {Q : W → Prop} (h0 : 0 ≤ v) (h1 : v < ds.length) (q : ∀ d, ds[v.toNat]? = some d → Q (.o (.d d))) : itemW (.o (.lst a (ds.map O.d))) (.o (.d (.int v))) env Q := by
  have hj : v.toNat < ds.length := by omega
  show onSome (atI (ds.map O.d) v) fun o => Q (.o o)
  have e := atI_nat (ds := ds) (n := v.toNat) hj
  rw [show ((v.toNat : Nat) : Int) = v by omega] at e
  refine onSome_mk (x := O.d (ds[v.toNat])) (by rw [atI_map, e, List.getD_eq_getElem?_getD, List.getElem?_eq_getElem hj]; rfl) (q _ (List.getElem?_eq_getElem hj))
theorem item_mem {a : Addr} {ds : List D} {v : Int} {env : Env} {Q : W → Prop} (h0 : 0 ≤ v) (h1 : v < ds.length) (q : ∀ d, d ∈ ds → Q (.o (.d d))) : itemW (.o (.lst a (ds.map O.d))) (.o (.d (.int v))) env Q :=
  item_in h0 h1 fun d h => q d (List.mem_of_getElem? h)
theorem item_int {a : Addr} {is : List Int} {v : Int} {env : Env} {Q : W → Prop} (h0 : 0 ≤ v) (h1 : v < is.length) (q : ∀ x, x ∈ is → Q (.o (.d (.int x)))) : itemW (.o (.lst a ((is.map PyData.int).map O.d))) (.o (.d (.int v))) env Q :=
  item_mem h0 (by rw [List.length_map]; exact h1) fun d h => by
    obtain ⟨x, hx, rfl⟩ := List.mem_map.mp h
    exact q x hx
theorem e_revT {we : WT} {env : Env} {ds : List D} (h : EvU we env (.tuple ds)) : Ev (wRevT we) env (.tuple ds.reverse) := fun PX P q => h _ _ fun x hx => hx _ q
theorem at_mem {ds : List D} {v : Int} (h0 : 0 ≤ v) (h1 : v < ds.length) : ∃ d, d ∈ ds ∧ atI ds v = some d := by
  have hj : v.toNat < ds.length := by omega
  have e := atI_nat (ds := ds) (n := v.toNat) hj
  rw [show ((v.toNat : Nat) : Int) = v by omega] at e
  exact ⟨_, by rw [List.getD_eq_getElem?_getD, List.getElem?_eq_getElem hj]; exact List.getElem_mem hj, e⟩
theorem all_app {α : Type} {p : α → Prop} {xs ys : List α} (h : ∀ x ∈ xs, p x) (h2 : ∀ x ∈ ys, p x) : ∀ x ∈ xs ++ ys, p x := fun x hx => (List.mem_append.mp hx).elim (h x) (h2 x)
theorem all_one {α : Type} {p : α → Prop} {x : α} (h : p x) : ∀ y ∈ [x], p y := fun y hy => by rw [List.mem_singleton.mp hy]; exact h
theorem all_cons {α : Type} {p : α → Prop} {x : α} {xs : List α} (h : p x) (h2 : ∀ y ∈ xs, p y) : ∀ y ∈ x :: xs, p y := fun y hy => (List.mem_cons.mp hy).elim (fun e => by rw [e]; exact h) (h2 y)
theorem all_cut {p : D → Prop} {xs : List D} {lo hi : Option Int} (h : ∀ x ∈ xs, p x) : ∀ x ∈ cutD xs lo hi, p x := fun x hx => h x (mem_cutD hx)
theorem app_len {x y : Str} : (x ++ y).length = x.length + y.length := Array.size_append
theorem nx_appE {we : WT} {u : WS} {PX : Exn → Env → Prop} {env : Env} {k : Kt} {i : Nat} {a : Addr} {xs : List O} {v : D} (hc : Ev we env v) (he : env[i]? = some (some (.lst a xs))) (hl : xs.length ≤ 1000000)
    (h : Nx u PX (env.set i (some (.lst a (xs ++ [.d v])))) k) : Nx (sCons (sExpr (wAppend (wVar i) (aCons we aNil))) u) PX env k := by
  refine nx_expr ?_
  unfold wAppend
  unfold wVar
  simp only [he]
  have e : envAt env i [] = some (.lst a xs) := by unfold envAt; simp only [he]; rfl
  refine ⟨?_, ?_⟩
  · unfold listAt
    simp only [e]
  unfold aCons aNil
  refine hc _ _ ?_
  show match envAt env i [] with
    | some (.obj b .lst xs) => _
    | _ => False
  rw [e]
  refine ⟨rfl, small hl, ?_⟩
  unfold envPut
  simp only [he]
  exact h
def gB : Nat → D → Bool
  | _, .none => true
  | _, .bool _ => true
  | _, .int i => decide (i.natAbs ≤ 2 ^ 199)
  | _, .str x => x.cps.toList.all fun c => decide (c < 128)
  | n + 1, .tuple ds => ds.all (gB n)
  | n + 1, .list ds => ds.all (gB n)
  | _, _ => false
theorem gB_ok : ∀ {n : Nat} {d : D}, gB n d = true → G 0 n d
  | n, .none, _ => .non
  | n, .bool _, _ => .bool
  | n, .int i, h => by
    cases n <;> exact .int (of_decide_eq_true h)
  | n, .str x, h => by
    cases n <;> exact .str (plainS_lit h)
  | n + 1, .tuple ds, h => .tup fun d hd => gB_ok (List.all_eq_true.mp h d hd)
  | n + 1, .list ds, h => .lst fun d hd => gB_ok (List.all_eq_true.mp h d hd)
  | 0, .tuple ds, h => by cases h
  | 0, .list ds, h => by cases h
  | n + 1, .dict _, h => by cases h
  | 0, .dict _, h => by cases h
theorem gB_all {n w : Nat} {ds : List D} (h : (ds.all fun d => gB n d && decide (d.weight ≤ w)) = true) : ∀ d ∈ ds, G 0 n d ∧ d.weight ≤ w := fun d hd => by
  have z := List.all_eq_true.mp h d hd
  rw [Bool.and_eq_true] at z
  exact ⟨gB_ok z.1, of_decide_eq_true z.2⟩
section
variable {env : Env} {i : Nat} {we : WT} {ds : List D}
theorem e_allC {wi : WI} {g : D → Bool} (hs : EvS wi env ⟨ds, none⟩) (hp : plainAt env i) (hi : i < env.length) (hl : ds.length ≤ 1000000)
    (he : ∀ x ∈ ds, Ev we (env.set i (some (.d x))) (.bool (g x))) : Ev (wPrim .all (aCons (wComp wi [i] (.v i) cAll we) aNil)) env (.bool (ds.all g)) := by
  have z := e_all (bs := ds.map g) (env := env) (wa := wComp wi [i] (.v i) cAll we) (by
    rw [List.map_map]
    exact (e_comp (f := fun x => .bool (g x)) hs hp hi hl he).u)
  rw [List.all_map] at z
  exact z
end
theorem letter_str {x : Str} {d : D} (h : d ∈ letters x) : isT .str d = true := by
  obtain ⟨c, _, rfl⟩ := letters_mem h
  rfl
theorem cx_inS {x : D} {y : Str} (h : isT .str x = true) : CmpV .inn x (.str y) (!(Builtin.Str.occurrences y (strD x) 0 y.length 1).isEmpty) := fun Q q => by
  rw [str_of h]; exact q
end Vx
namespace Vx
open PySem PySem.Spec L2 PyProof.Rows
theorem wt_bits {i : Int} {k : Nat} (h : i.natAbs < 2 ^ k) (hk : 0 < k) : PyData.weight (.int i) ≤ k := by
  have e2 : i.natAbs.log2 < k := log2_lt h hk
  simp only [PyData.weight]
  split <;> omega
theorem nx_forE {wi : WI} {wb u : WS} {t : Tg} {PX : Exn → Vx.Env → Prop} {env : Vx.Env} {k : Kt} {s : Src} (hs : EvS wi env s) (h : LoopF s (stepN t wb u PX k) env fun env2 => Nx u PX env2 k) : Nx (sCons (sFor t wi wb) u) PX env k := nx_for (hs _ _ h)
end Vx
namespace HT
open PySem PySem.Spec L2 PyProof.Rows
theorem cut_run {a c m : Nat} (h : a ≤ m) (h2 : a ≤ c) : sliceBounds (some (a : Int)) (some (c : Int)) none m = ((a : Int), ((min c m : Nat) : Int), 1) := by
  simp only [sliceBounds, Option.getD_none]
  have q1 : ¬ ((a : Int) < 0) := by omega
  have q2 : ¬ ((c : Int) < 0) := by omega
  simp only [q1, q2, if_false, show (1 : Int) > 0 by decide, if_true]
  congr 1
  · omega
  · congr 1; omega
section
variable {pr : Program} {wd : World} {Ar : Around} {Ex : Value → Shared → Prop} {sh : Shared}
theorem store_cut {u b z : Addr} {its new : Array Value} {k1 k2 : Nat} {v1 v2 : Value} {a c : Nat} {Q : Unit → Shared → Prop}
    (e : sh.heap.get? u = some { cls := .type "list", data := .seq its k1 }) (e2 : sh.heap.get? b = some { cls := .type "list", data := .seq new k2 }) (ne : u ≠ b)
    (hz : sh.heap.IsSliceOf z v1 v2 .none) (p1 : IsPart v1 (some (a : Int))) (p2 : IsPart v2 (some (c : Int))) (hac : a ≤ c) (ham : a ≤ its.size)
    (small : its.size + new.size ≤ sizeLine) (q : Q () { sh with heap := sh.heap.update u (Obj.mapSeq fun ys => ys.extract 0 a ++ new ++ ys.extract (min c its.size) ys.size) }) :
    wpAny (model pr wd) Ar (setItem (.ref u) (.ref z) (.ref b)) Q Ex sh := by
  have lu : sh.heap.IsList u its := PySem.IsL.isList e
  have lb : sh.heap.IsList b new := PySem.IsL.isList e2
  obtain ⟨oz, hoz, hcz, hdz⟩ := id hz
  have tz : sh.TypeIs (.ref z) "slice" := ⟨oz, hoz, hcz⟩
  have no0 : ¬ ((rawPart none == rawInt 0) = true) := Bool.false_ne_true
  have unlike : Builtin.List.listSameRef (.ref u) (.ref b) = false := by
    unfold Builtin.List.listSameRef
    exact beq_eq_false_iff_ne.mpr ne
  have top : (max (a : Int) ((min c its.size : Nat) : Int)).toNat = min c its.size := by omega
  have fits : ((fun ys : Array Value => ys.extract 0 a ++ new ++ ys.extract (min c its.size) ys.size) its).size ≤ sizeLine + 1 := by
    simp only [Array.size_append, Array.size_extract]
    omega
  unfold setItem
  try with_reducible refine wpAny_holding ?_
  first | refine wpAny_bind (wpAny_pure ?_) | skip
  refine wpAny_bind (wpAny_sequenceKey lu.typeIs (by decide) ?_)
  refine wpAny_bind (wpAny_callSpecial?_slot (name := Str.ofString "__setitem__") lu.typeIs slot_list_setitem (wpAny_call_entry slot_list_setitem lu.typeIs entry_list_setitem ?_ (args_list_setitem _ _ _)))
  show wpAny _ _ (Builtin.List.listSubscript? (.ref z) >>= _) _ _ sh
  refine wpAny_bind ?_
  unfold Builtin.List.listSubscript?
  refine wpAny_bind (wpAny_specialOf tz slice_no_index ?_)
  simp only [Option.isNone_none, if_true]
  refine wpAny_pure ?_
  show wpAny _ _ (typeOf (.ref z) >>= _) _ _ sh
  refine wpAny_bind (wpAny_typeOf tz ?_)
  first
    | rw [if_neg (by decide)]
    | refine PySem.W.KFB.if_not (by decide) ?_
  rw [listSliceParts_eq]
  refine wpAny_bind (wpAny_bind (wpAny_field hoz hdz (x := .none) rfl (wpAny_bind (wpAny_listPart .none ?_))))
  rw [if_neg no0]
  refine wpAny_bind (wpAny_field hoz hdz (x := v1) rfl (wpAny_bind (wpAny_listPart p1 ?_)))
  refine wpAny_bind (wpAny_field hoz hdz (x := v2) rfl (wpAny_bind (wpAny_listPart p2 (wpAny_pure ?_))))
  first
    | simp only [unlike, Bool.false_eq_true, if_false]
    | refine PySem.W.KFB.if_not unlike ?_
    | (dsimp only
       rw [if_neg (by rw [unlike]; exact Bool.false_ne_true)])
  refine wpAny_bind (m := Builtin.List.listAllItems (.ref b) "must assign iterable to extended slice") ?_
  unfold Builtin.List.listAllItems
  refine wpAny_bind (wpAny_typeOf lb.typeIs ?_)
  first
    | refine PySem.W.KFB.if_so (by decide) ?_
    | rw [if_pos (by decide)]
    | simp only [beq_self_eq_true, Bool.true_or, if_true]
  unfold Builtin.List.listItems
  refine wpAny_bind (wpAny_seqItems e2 rfl (wpAny_pure ?_))
  refine wpAny_bind (wpAny_bind (wpAny_seqItems e rfl (wpAny_pure ?_)))
  refine wpAny_bind (wpAny_of_eq ((sliceIndices_raw (some (a : Int)) (some (c : Int)) none its.size (by simp)).trans (congrArg (pure : Int × Int × Int → Sem (Int × Int × Int)) (cut_run ham hac))) ?_)
  show wpAny _ _ (if ((1 : Int) == 1) = true then _ else _) _ _ sh
  rw [if_pos (by decide)]
  refine wpAny_bind (wpAny_rule ?_)
  first
    | simp only [notLongL small, Bool.false_eq_true, if_false]
    | refine PySem.W.KFB.if_not (notLongL small) ?_
  first | refine wpAny_bind (wpAny_pure ?_) | skip
  show wpAny _ _ (updateSeq u (fun ys => ys.extract 0 ((a : Int)).toNat ++ new ++ ys.extract (max (a : Int) ((min c its.size : Nat) : Int)).toNat ys.size) >>= _) _ _ sh
  rw [top, Int.toNat_natCast]
  refine wpAny_bind (wpAny_updateSeq (hz := Nat.le_trans (Nat.le_add_right _ _) small) (_hz' := fits) e rfl ?_)
  refine wpAny_bind (wpAny_letGo ?_)
  first
    | exact wpAny_bind (wpAny_pure (wpAny_pure ⟨.none, rfl, wpAny_pure q⟩))
    | exact wpAny_pure ⟨.none, rfl, wpAny_pure q⟩
end
end HT
namespace L2
open PySem PySem.Spec PyProof.Rows HT
section
variable {X : Cx}
theorem set_cut {pins : List (Addr × Obj)} {s : Shared} {σ : St} {H : Hp} {u b z : Addr} {xs ys : List V} {a c : Int} {v1 v2 : Value} {Q : Unit → Shared → Prop} (I : Inv X pins σ H s)
    (hu : H u = some (.lst xs)) (hb : H b = some (.lst ys)) (ne : u ≠ b) (hz : s.heap.IsSliceOf z v1 v2 .none) (p1 : IsPart v1 (some a)) (p2 : IsPart v2 (some c)) (h0 : 0 ≤ a) (hac : a ≤ c) (ham : a ≤ xs.length)
    (small : xs.length + ys.length ≤ sizeLine) (q : ∀ s', Inv X pins σ (upd H u (.lst (xs.take a.toNat ++ ys ++ xs.drop (min c.toNat xs.length)))) s' → Q () s') :
    wpAny (model X.prog X.w) X.A (setItem (.ref u) (.ref z) (.ref b)) Q X.xe s := by
  obtain ⟨l1, its, n, r, hl, e⟩ := I.lstM hu
  obtain ⟨l2, its2, n2, r2, hl2, e2⟩ := I.lstM hb
  obtain ⟨a', rfl⟩ := Int.eq_ofNat_of_zero_le h0
  obtain ⟨c', rfl⟩ := Int.eq_ofNat_of_zero_le (Int.le_trans h0 hac)
  simp only [Int.toNat_natCast] at q
  have ez : its.toArray.size = xs.length := by rw [List.size_toArray]; omega
  refine store_cut (a := a') (c := c') e e2 ne hz p1 p2 (by omega) (by rw [ez]; omega) (by rw [List.size_toArray, List.size_toArray]; omega) (q _ ?_)
  rw [ez]
  refine I.lset (its' := its.take a' ++ its2 ++ its.drop (min c' xs.length)) (t' := s.toks) hu e ?_ (Vals.append (Vals.append (r.take _) r2) (r.drop _)) ?_
  · exact splice_eq its its2 a' (min c' xs.length)
  · rw [List.length_append, List.length_append, List.length_take, List.length_drop]
    omega
variable {o l h : Expr} {pos p3 : Pos}
def gCut (to : TE) (tl th : TO) : TG := fun v σ H Q => to σ H fun x H1 => tl σ H1 fun lo H2 => th σ H2 fun hi H3 => ∃ (u b : Addr) (xs ys : List V) (a c : Int), x = .ref u ∧ v = .ref b ∧ lo = some a ∧ hi = some c ∧ H3 u = some (.lst xs) ∧ H3 b = some (.lst ys) ∧ u ≠ b ∧ 0 ≤ a ∧ a ≤ c ∧ a ≤ xs.length ∧ xs.length + ys.length ≤ sizeLine ∧
  Q σ (upd H3 u (.lst (xs.take a.toNat ++ ys ++ xs.drop (min c.toNat xs.length))))
theorem pg_cut {to : TE} {tl th : TO} (ho : PE X o to) (hl : PO X (some l) tl) (hh : PO X (some h) th)
    (ha : ∀ v, assign (.Subscript o (.Slice (some l) (some h) none p3) pos) X.env v = (do
      let ov ← holding [v] (eval o X.env)
      let iv ← holding [v, ov] (eval (.Slice (some l) (some h) none p3) X.env)
      standAt pos
      holding [v, ov, iv] (setItem ov iv v)
      release [iv, v, ov] [])) : PG X (.Subscript o (.Slice (some l) (some h) none p3) pos) (gCut to tl th) := by
  refine ⟨fun pins s σ H v w Q I r q0 => ?_⟩
  rw [ha]
  refine wpAny_bind (wpAny_holding (thn (ho.run pins s σ H _ I q0) fun ov s1 ⟨x, H1, I1, r1, q1⟩ => ?_))
  refine wpAny_bind (wpAny_holding (wpAny_Slice (thn (hl.run pins s1 σ H1 _ I1 q1) fun vl s2 ⟨lo, H2, I2, pl, q2⟩ => thn (hh.run pins s2 σ H2 _ I2 q2) fun vh s3 ⟨hi, H3, I3, ph, q3⟩ => thn (po_none.run pins s3 σ H3 (fun z H' => z = none ∧ H' = H3) I3 ⟨rfl, rfl⟩) fun vs s4 ⟨st, H4, I4, ps, es, e4⟩ => ?_)))
  subst es e4
  obtain ⟨u, b, xs, ys, a, c, rfl, rfl, rfl, rfl, hu, hb, ne, h0, hac, ham, hz, q⟩ := q3
  cases r1
  cases r
  cases ps
  have I5 : Inv X pins σ H4 { s4 with heap := s4.heap.push { cls := .type "slice", data := .fields #[vl, vh, .none] } } := I4.kept (t' := s4.toks) fun b ob q => Heap.get?_push_of_some _ q
  refine wpAny_bind (wpAny_standAt (wpAny_bind (wpAny_holding (set_cut I5 hu hb ne (Heap.IsSliceOf.new _ vl vh .none) pl ph h0 hac ham hz fun s' I6 => ?_))))
  exact wpAny_release ⟨σ, _, I6, q⟩
end
end L2
namespace Vx
open PySem PySem.Spec L2
def sSetSl (we wo : WT) (wl wh : WO) : WS := fun PX env k => we PX env fun w env1 => match w with
  | .o (.obj _ .lst os) => onSome (datas os) fun ys => wo PX env1 fun t env2 => wl PX env2 fun lo env3 => wh PX env3 fun hi env4 => match t with
    | .al a i p => onSome lo fun lo => onSome hi fun hi => (0 ≤ lo ∧ lo ≤ hi) ∧ match envAt env4 i p with
      | some (.obj c .lst xs) => c = a ∧ lo ≤ xs.length ∧ onSome (datas xs) fun ds => ds.length + ys.length ≤ sizeLine ∧ k.nx (envPut env4 i p (.lst a ((ds.take lo.toNat ++ ys ++ ds.drop (min hi.toNat ds.length)).map O.d)))
      | _ => False
    | _ => False
  | _ => False
section
variable {X : Cx} {B : Bs} {Wx : WX} {e o l h : Expr} {we wo : WT} {wl wh : WO} {pos p2 p3 : Pos}
theorem z_cut (he : PV X B Wx e we) (ho : PV X B Wx o wo) (hl : PO X (some l) (tO X B Wx wl)) (hh : PO X (some h) (tO X B Wx wh))
    (ha : ∀ v, assign (.Subscript o (.Slice (some l) (some h) none p3) p2) X.env v = (do
      let ov ← holding [v] (eval o X.env)
      let iv ← holding [v, ov] (eval (.Slice (some l) (some h) none p3) X.env)
      standAt p2
      holding [v, ov, iv] (setItem ov iv v)
      release [iv, v, ov] []))
    (hs : swapsWithSole [.Subscript o (.Slice (some l) (some h) none p3) p2] e pos.line X.env = pure false) (hw : swappedStores [.Subscript o (.Slice (some l) (some h) none p3) p2] e X.env = pure none)
    (h1 : (assignEach [.Subscript o (.Slice (some l) (some h) none p3) p2] X.env).map (·.2) = [assign (.Subscript o (.Slice (some l) (some h) none p3) p2) X.env]) : S1 X B Wx (.Assign [.Subscript o (.Slice (some l) (some h) none p3) p2] e pos) (sSetSl we wo wl wh) := by
  refine PS_imp (ps_asg he (pg_cut ho hl hh ha) hs hw h1) fun D σ H ⟨S, env, T, k, PX, r, hq, hE, hX⟩ => ?_
  refine ⟨S, env, T, _, PX, r, hq, fun x env1 v S1 H1 q r1 => ?_, hX⟩
  cases x with
  | al _ _ _ => exact q.elim
  | o x =>
    cases x with
    | d _ => exact q.elim
    | tup _ => exact q.elim
    | obj c kd os =>
      cases kd with
      | dct _ => exact q.elim
      | ins _ _ _ _ => exact q.elim
      | dctL _ _ => exact q.elim
      | lst =>
        obtain ⟨ys, hys, q⟩ := onSome_some (show onSome (datas os) _ from q)
        rw [datas_eq hys] at r1
        refine ⟨S1, env1, (v, .o (.obj c .lst (ys.map O.d))) :: T, _, PX, r1, q, fun t env2 vt S2 H2 q r2 => ?_, hX⟩
        refine ⟨S2, env2, (vt, t) :: (v, .o (.obj c .lst (ys.map O.d))) :: T, _, PX, r2, q, fun lo env3 S3 H3 q r3 => ?_, hX⟩
        refine ⟨S3, env3, (vt, t) :: (v, .o (.obj c .lst (ys.map O.d))) :: T, _, PX, r3, q, fun hi env4 S4 H4 q r4 => ?_, hX⟩
        cases t with
        | o _ => exact q.elim
        | al a i p =>
          obtain ⟨lo', e1, q5⟩ := onSome_some (show onSome lo _ from q)
          obtain ⟨hi', e2, q6⟩ := onSome_some (show onSome hi _ from q5)
          subst e1 e2
          obtain ⟨⟨h0, h2⟩, q⟩ := q6
          clear q5
          have et : vt = .ref a := r4.tmps (vt, .al a i p) List.mem_cons_self
          have z : OwnR X.K S4 H4 v (.obj c .lst (ys.map O.d)) := r4.tmps (v, .o (.obj c .lst (ys.map O.d))) (List.mem_cons_of_mem _ List.mem_cons_self)
          have r5 : R X.K B S4 H4 σ env4 T := r4.perm (fun t ht => List.mem_cons_of_mem _ (List.mem_cons_of_mem _ ht)) fun b => by
            show cntT b T ≤ 0 + (_ + cntT b T)
            omega
          cases ee : envAt env4 i p with
          | none => simp only [ee] at q
          | some y2 =>
            simp only [ee] at q
            cases y2 with
            | d _ => exact q.elim
            | tup _ => exact q.elim
            | obj b kd xs =>
              cases kd with
              | dct _ => exact q.elim
              | ins _ _ _ _ => exact q.elim
              | dctL _ _ => exact q.elim
              | lst =>
                obtain ⟨hb, hl2, q7⟩ := q
                subst hb
                obtain ⟨ds, hds, hsz, q8⟩ := onSome_some (show onSome (datas xs) _ from q7)
                have exs := datas_eq hds
                subst exs
                obtain ⟨vs, hv, ow⟩ := r5.seenAt ee
                have la : vs.length = ds.length := by rw [ow.length, List.length_map]
                have rp := ow.data
                cases z with
                | obj ec hf oc =>
                  rename_i zs
                  have zl : zs.length = ys.length := by rw [oc.length, List.length_map]
                  have ne : b ≠ c := by
                    intro x
                    subst x
                    obtain ⟨oo, eo, haa⟩ := envAt_some ee
                    obtain ⟨vv, _, qq⟩ := r5.slots i oo eo
                    obtain ⟨_, _, hle⟩ := qq.at haa
                    have c1 : oo.cnt b ≤ cntE b env4 := cntE_get eo
                    have c2 : (O.lst b (ds.map O.d)).cnt b ≤ oo.cnt b := hle b
                    have c3 : cntE b env4 + (0 + ((O.lst b (ys.map O.d)).cnt b + cntT b T)) ≤ 1 := r4.one b
                    have c4 : ∀ os : List O, 1 ≤ (O.lst b os).cnt b := fun os => by show 1 ≤ (if b = b then 1 else 0) + O.cntL b os; rw [if_pos rfl]; omega
                    have c5 := c4 (ys.map O.d)
                    have c6 := c4 (ds.map O.d)
                    omega
                  have r6 := r5.renewAt ee (us := vs.take lo'.toNat ++ zs ++ vs.drop (min hi'.toNat vs.length)) (ys := (ds.take lo'.toNat ++ ys ++ ds.drop (min hi'.toNat ds.length)).map O.d) (fun {vs'} {H'} e2 o2 => by
                    rw [la]
                    exact OwnA.of_data (((rp.take _).append oc.data).append (rp.drop _))) fun b => by
                    rw [cntL_data, cntL_data]; exact Nat.le_refl _
                  exact ⟨b, c, vs, zs, lo', hi', et, rfl, rfl, rfl, hv, ec, ne, h0, h2, by rw [la]; rw [List.length_map] at hl2; exact hl2, by rw [la, zl]; exact hsz, hE.nx _ _ _ _ q8 r6⟩
end
theorem nx_cut {we wo : WT} {wl wh : WO} {u : WS} {PX : Exn → Env → Prop} {env : Env} {k : Kt} (h : sSetSl we wo wl wh PX env { k with nx := fun env2 => Nx u PX env2 k }) : Nx (sCons (sSetSl we wo wl wh) u) PX env k := nx_in (by
  simp only [nx_eq] at h
  exact h)
theorem nx_cutE {we : WT} {wl wh : WO} {u : WS} {PX : Exn → Env → Prop} {env : Env} {k : Kt} {i : Nat} {a : Addr} {ds ys : List D} {lo hi : Int} (hc : EvL we env ys) (he : env[i]? = some (some (.lst a (ds.map .d)))) (hl : EvO wl env (some lo)) (hh : EvO wh env (some hi))
    (h0 : 0 ≤ lo ∧ lo ≤ hi) (ham : lo ≤ ds.length) (hsz : ds.length + ys.length ≤ 1000000) (h : Nx u PX (env.set i (some (.lst a ((ds.take lo.toNat ++ ys ++ ds.drop (min hi.toNat ds.length)).map O.d)))) k) : Nx (sCons (sSetSl we (wVar i) wl wh) u) PX env k := by
  refine nx_cut ?_
  unfold sSetSl
  refine hc _ _ fun b => ?_
  refine onSome_mk (datas_map ys) ?_
  unfold wVar
  simp only [he]
  refine hl _ _ (hh _ _ ?_)
  have e : envAt env i [] = some (.lst a (ds.map O.d)) := by unfold envAt; simp only [he]; rfl
  refine ⟨h0, ?_⟩
  show match envAt env i [] with
    | some (.obj c .lst xs) => _
    | _ => False
  rw [e]
  refine ⟨rfl, by rw [List.length_map]; exact ham, onSome_mk (datas_map ds) ⟨Nat.le_of_lt (small hsz), ?_⟩⟩
  unfold envPut
  simp only [he]
  exact h
end Vx
namespace Vx
open PySem PySem.Spec L2
section
variable {X : Cx} {B : Bs} {Wx : WX} {a b c e o : Expr} {wa wb wc we wo wi : WT} {pos : Pos} {es : List Expr} {wl : WA}
theorem gset {kr : Nat} (hrm : Room kr X.A) {S : Fz} {H : Hp} {σ : L2.St} {env : Env} {T : List (V × W)} {v : V} {x : O} {PX : Exn → Env → Prop} {Kx : Env → Prop} {Q : L2.St → Hp → Prop}
    (r : R X.K B S H σ env ((v, .o x) :: T)) (q : wo PX env fun t env3 => wi PX env3 fun n env4 => setW t n x env4 Kx) (hX : Lets X B Wx PX) (fin : ∀ env' S' H', Kx env' → R X.K B S' H' σ env' T → Q σ H') : gSub (tE X B Wx wo) (tE X B Wx wi) (fun o i v H Q => rSetL o i v H Q ∨ rSetD o i v H Q) v σ H Q := by
  have hu := hu_of hrm
  refine ⟨S, env, (v, .o x) :: T, _, PX, r, q, fun t env3 vt S3 H3 q r3 => ?_, hX⟩
  refine ⟨S3, env3, (vt, t) :: (v, .o x) :: T, _, PX, r3, q, fun n env4 vn S4 H4 q r4 => ?_, hX⟩
  have q9 : setW t n x env4 Kx := q
  clear q
  cases t with
  | o _ => exact q9.elim
  | al a i p =>
    unfold setW at q9
    cases ee : envAt env4 i p with
    | none => simp only [ee] at q9
    | some y =>
      simp only [ee] at q9
      cases y with
      | d _ => exact q9.elim
      | tup _ => exact q9.elim
      | obj b2 kd xs =>
        cases kd with
        | lst =>
          obtain ⟨hb, q8⟩ := q9
          subst hb
          have rr : R X.K B S4 H4 σ env4 ([(vn, n)] ++ ((vt, .al b2 i p) :: (v, .o x) :: T)) := r4
          obtain ⟨S5, r5, fu⟩ := rr.used
          obtain ⟨d, q7, ud⟩ := fu (vn, n) List.mem_cons_self _ q8
          cases d with
          | int m =>
            obtain ⟨j, hj, q6⟩ := onSome_some q7
            have ev : vn = .int m := ud.int
            have et : vt = .ref b2 := r4.tmps (vt, .al b2 i p) (List.mem_cons_of_mem _ List.mem_cons_self)
            have r6 : R X.K B S5 H4 σ env4 ((v, .o x) :: T) := r5.perm (fun t ht => List.mem_cons_of_mem _ (List.mem_cons_of_mem _ ht)) fun b => by
              show _ ≤ _ + (_ + _)
              omega
            obtain ⟨vs, hv, hl, _, rs, _⟩ := r6.setAt ee
            exact .inl ⟨b2, vs, m, j, et, ev, hv, by rw [hl]; exact hj, fin _ _ _ q6 (rs j (ixN_seq hj).2.1)⟩
          | _ => exact q7.elim
        | ins _ _ _ _ => exact q9.elim
        | dctL _ _ => exact q9.elim
        | dct ks =>
          obtain ⟨hb, q8⟩ := q9
          subst hb
          have rr : R X.K B S4 H4 σ env4 ([(vn, n)] ++ ((vt, .al b2 i p) :: (v, .o x) :: T)) := r4
          obtain ⟨S5, r5, fu⟩ := rr.used
          obtain ⟨d, q7, ud⟩ := fu (vn, n) List.mem_cons_self _ q8
          obtain ⟨key, hk, hz, q6⟩ := onSome_some q7
          have ev : vn = kV key := keyOf_ud ud hk
          have et : vt = .ref b2 := r4.tmps (vt, .al b2 i p) (List.mem_cons_of_mem _ List.mem_cons_self)
          have r6 : R X.K B S5 H4 σ env4 ((v, .o x) :: T) := r5.perm (fun t ht => List.mem_cons_of_mem _ (List.mem_cons_of_mem _ ht)) fun b => by
            show _ ≤ _ + (_ + _)
            omega
          obtain ⟨vs, hv, hl, hf, rs, ra⟩ := r6.setAt ee
          have hzl : (ks.zip vs).length < sizeLine := by
            rw [List.length_zip]
            have : (1000000 : Nat) < sizeLine := by decide
            omega
          refine .inr ⟨b2, _, et, by rw [ev]; exact DPut.k hv hzl, ?_⟩
          unfold putK
          rw [any_ix hf.1]
          cases ej : keyIx ks key with
          | some j =>
            rw [ej] at q6
            rw [if_pos (by rfl), putK_ix hf.1 hf.2 ej]
            exact fin _ _ _ q6 (rs j (by rw [← hl, ← hf.1]; exact (keyIx_lt ej).1))
          | none =>
            rw [ej] at q6
            rw [if_neg (by decide), show ks.zip vs ++ [(key, v)] = (ks ++ [key]).zip (vs ++ [v]) by rw [List.zip_append hf.1]; rfl]
            refine fin _ _ _ q6 (ra (.dct (ks ++ [key])) ⟨by rw [List.length_append, hf.1]; rfl, ?_⟩)
            exact List.nodup_append.mpr ⟨hf.2, by simp, fun a ha b hb => by rw [List.mem_singleton.mp hb]; exact fun z => keyIx_none ej (by rw [← z]; exact ha)⟩
def sSwap (wt wo wi wo2 wi2 : WT) : WS := fun PX env k => wt PX env fun w env1 => match w with
  | .o (.d (.tuple [x, y])) => wo PX env1 fun t env2 => wi PX env2 fun n env3 => setW t n (.d x) env3 fun env4 => wo2 PX env4 fun t2 env5 => wi2 PX env5 fun n2 env6 => setW t2 n2 (.d y) env6 k.nx
  | _ => False
theorem z_swap {kr kt : Nat} {o2 b2 : Expr} {wo2 wi2 : WT} {p2 p3 pt : Pos} (hrm : Room kr X.A) (hc : X.calm = true) (he : PV X B Wx e we) (ho : PV X B Wx o wo) (hi : PV X B Wx b wi) (ho2 : PV X B Wx o2 wo2) (hi2 : PV X B Wx b2 wi2)
    (ha : ∀ v, assign (.Subscript o b p2) X.env v = (do
      let ov ← holding [v] (eval o X.env)
      let iv ← holding [v, ov] (eval b X.env)
      standAt p2
      holding [v, ov, iv] (setItem ov iv v)
      release [v, ov, iv] []))
    (ha2 : ∀ v, assign (.Subscript o2 b2 p3) X.env v = (do
      let ov ← holding [v] (eval o2 X.env)
      let iv ← holding [v, ov] (eval b2 X.env)
      standAt p3
      holding [v, ov, iv] (setItem ov iv v)
      release [v, ov, iv] []))
    (hs1 : (assignEach [.Subscript o b p2, .Subscript o2 b2 p3] X.env).map (·.2) = assign (.Subscript o b p2) X.env :: (assignEach [.Subscript o2 b2 p3] X.env).map (·.2)) (hs2 : (assignEach [.Subscript o2 b2 p3] X.env).map (·.2) = assign (.Subscript o2 b2 p3) X.env :: (assignEach [] X.env).map (·.2))
    (hn : (assignEach [.Subscript o b p2, .Subscript o2 b2 p3] X.env).length = 2) (hst : (assignEach [.Subscript o b p2, .Subscript o2 b2 p3] X.env).findIdx? (·.1) = none)
    (hs : swapsWithSole [.Tuple [.Subscript o b p2, .Subscript o2 b2 p3] kt pt] e pos.line X.env = pure false) (hw : swappedStores [.Tuple [.Subscript o b p2, .Subscript o2 b2 p3] kt pt] e X.env = pure none)
    (h1 : (assignEach [.Tuple [.Subscript o b p2, .Subscript o2 b2 p3] kt pt] X.env).map (·.2) = [assign (.Tuple [.Subscript o b p2, .Subscript o2 b2 p3] kt pt) X.env]) :
    S1 X B Wx (.Assign [.Tuple [.Subscript o b p2, .Subscript o2 b2 p3] kt pt] e pos) (sSwap we wo wi wo2 wi2) := by
  have hu := hu_of hrm
  refine PS_imp (ps_asg he (pg_tup hc (pgs_cons (pg_sub ho hi (PSet.or set_list (set_dict hu)) ha) (pgs_cons (pg_sub ho2 hi2 (PSet.or set_list (set_dict hu)) ha2) pgs_nil hs2) hs1) hn hst) hs hw h1) fun D σ H ⟨S, env, T, k, PX, r, hq, hE, hX⟩ => ?_
  refine ⟨S, env, T, _, PX, r, hq, fun w env1 v S1 H1 q r1 => ?_, hX⟩
  cases w with
  | al _ _ _ => exact q.elim
  | o w =>
    cases w with
    | obj _ _ _ => exact q.elim
    | tup _ => exact q.elim
    | d w =>
      cases w with
      | tuple ds =>
        match ds, q, r1 with
        | [x, y], q, r1 =>
          have ow : OwnR X.K S1 H1 v (.d (.tuple [x, y])) := r1.tmps (v, .o (.d (.tuple [x, y]))) List.mem_cons_self
          cases ow with
          | d rp =>
            cases rp with
            | @tup a xs _ hsq ra =>
              cases ra with
              | @cons vx _ _ _ rx ra =>
                cases ra with
                | @cons vy _ _ _ ry ra =>
                  cases ra
                  refine ⟨a, _, rfl, hsq.sq, rfl, vx, [vy], rfl, ?_⟩
                  have r2 : R X.K B S1 H1 σ env1 ((vx, .o (.d x)) :: (vy, .o (.d y)) :: T) := (r1.pop.push ry).push rx
                  refine gset hrm r2 q hX fun env2 S2 H2 q2 r2 => ?_
                  refine ⟨vy, [], rfl, ?_⟩
                  refine gset hrm r2 q2 hX fun env3 S3 H3 q3 r3 => ?_
                  exact ⟨rfl, hE.nx _ _ _ _ q3 r3⟩
        | [], q, _ => exact q.elim
        | [_], q, _ => exact q.elim
        | _ :: _ :: _ :: _, q, _ => exact q.elim
      | _ => exact q.elim
end
end Vx
namespace Vx
open PySem PySem.Spec L2
abbrev Oc := Sum D Exn
def Out (r : Oc) (PX : Exn → Env → Prop) (k : Kt) : Prop := match r with
  | .inl v => ∀ e, k.rt (.o (.d v)) e
  | .inr ex => ∀ e, PX ex e
def RtX (u : WS) (env : Env) (r : Oc) : Prop := ∀ (PX : Exn → Env → Prop) (k : Kt), Out r PX k → u PX env k
def RtFX (F : FSem) (vs : List D) (r : Oc) : Prop := ∀ (P : O → List O → Prop) (PX : Exn → List O → Prop), (match r with
  | .inl v => P (.d v) (vs.map .d)
  | .inr ex => PX ex (vs.map .d)) → F (vs.map .d) P PX
theorem RtX.to {u : WS} {env : Env} {r s : Oc} (h : RtX u env r) (e : r = s) : RtX u env s := by subst e; exact h
theorem RtFX.to {F : FSem} {vs : List D} {r s : Oc} (h : RtFX F vs r) (e : r = s) : RtFX F vs s := by subst e; exact h
theorem RtFX.rt {F : FSem} {vs : List D} {v : D} (h : RtFX F vs (.inl v)) : RtF F vs v := fun P PX q => h P PX q
section
variable {w wa wb wc we : WT} {wl : WA} {env : Env} {x y z v : D} {ds vs : List D} {p q : Bool} {i j : Nat} {u ux uy : WS} {r s : Oc}
def BodyX (wb : WS) (e : Env) (I : Env → Prop) (q : Bool) (r : Oc) : Prop := ∀ (PX : Exn → Env → Prop) (k : Kt), (q = true → ∀ e', I e' → k.nx e') → (q = false → Out r PX k) → wb PX e k
theorem BodyX.to {wb : WS} {I : Env → Prop} {q2 : Bool} (h : BodyX wb env I q r) (e : q = q2) : BodyX wb env I q2 r := by subst e; exact h
theorem v_own {a : Addr} {xs : List O} {PX : Exn → Env → Prop} {P : W → Env → Prop} (h : env[i]? = some (some (.lst a xs))) (q : P (.al a i []) env) : wVar i PX env P := by
  unfold wVar
  simp only [h]
  exact q
end
end Vx
namespace Vx
open PySem PySem.Spec L2 HotX PyProof.Rows
def HotH (X : Cx) (H : Hp) : Prop := ∃ x1 C dx : Addr, X.A.handled = some (.ref x1) ∧ H x1 = some (exHO x1 C dx)
def HotB (X : Cx) (B : Bs) : Prop := ∃ x1 C dx : Addr, X.A.handled = some (.ref x1) ∧ B.H x1 = some (exHO x1 C dx) ∧ ¬ B.own x1
section
variable {X : Cx} {B : Bs} {S : Fz} {H : Hp} {σ : L2.St} {env : Env} {T : List (V × W)} {pins : List (Addr × Obj)} {s : Shared}
theorem HotB.heap (h : HotB X B) (r : R X.K B S H σ env T) : HotH X H := by
  obtain ⟨x1, C, dx, hh, e, n⟩ := h
  exact ⟨x1, C, dx, hh, r.keep _ _ e n⟩
theorem HotH.at (h : HotH X H) (I : L2.Inv X pins σ H s) : ∃ x1 C dx, H x1 = some (exHO x1 C dx) ∧ HotAt X.A x1 s.heap := by
  obtain ⟨x1, C, dx, hh, e⟩ := h
  have z : ObjOk X.prog X.w H s.heap x1 (.ext fun h => ∃ (oe : Obj) (vs : Array Value), h.get? x1 = some oe ∧ L2N.Zn (.ref C) (some dx) oe ∧ oe.data = .fields vs) := I.hok x1 _ e
  obtain ⟨oe, vs, ha, hz, hd⟩ := z.1
  exact ⟨x1, C, dx, e, hh, oe, vs, ha, hd, hz.2.2 vs hd⟩
end
end Vx
namespace Vx
open PySem PySem.Spec L2 HotX PyProof.Rows
def Bs.with (B : Bs) (a C dx : Addr) : Bs := { S := fun b => B.S b ∨ b = a, H := upd B.H a (exHO a C dx), own := fun b => B.own b ∧ b ≠ a }
end Vx
namespace Vx
open PySem PySem.Spec L2 PyProof.Rows
theorem room_u {k : Nat} {A : Around} (r : Room k A) : A.units + 200 < cLine := by have := r.un; omega
end Vx
namespace SX
open PySem PySem.Spec L2 PyProof.Rows
def txtOf (e : Int × Value) : Str := match e.2 with | .str x _ => x | _ => Str.empty
def IsTxt (pr : Program) (wd : World) (e : Int × Value) : Prop := ∃ x tk, e.2 = .str x tk ∧ e.1 = (PySem.strKind pr wd).hash x
def WSet (pr : Program) (wd : World) (hp : Heap) (z : Addr) (ts : List Str) : Prop :=
  ∃ ob es ep tb, hp.get? z = some ob ∧ ob.ExactSet ∧ ob.data = .set es ep tb ∧ (∀ e ∈ es.toList, IsTxt pr wd e) ∧ (es.toList.map txtOf).Nodup ∧ (∀ x, x ∈ ts ↔ x ∈ es.toList.map txtOf) ∧ es.size < scanBound ∧ tb.fits es.size = true ∧ es.size ≤ ts.length ∧
    Ris tb.place.toList ∧ (wd.params.followText "set-order" = true ∨ tb.led = true)
section
variable {pr : Program} {wd : World} {hp hq : Heap} {z : Addr} {ts : List Str}
theorem WSet.same {us : List Str} (W : WSet pr wd hp z ts) (h : ∀ x, x ∈ us ↔ x ∈ ts) (hl : ts.length ≤ us.length) : WSet pr wd hp z us := by
  obtain ⟨ob, es, ep, tb, ho, h1, h2, h3, h4, h5, h6, h7, h8, h9⟩ := W
  exact ⟨ob, es, ep, tb, ho, h1, h2, h3, h4, fun x => (h x).trans (h5 x), h6, h7, Nat.le_trans h8 hl, h9⟩
end
end SX
namespace Vx
open PySem PySem.Spec L2 PyProof.Rows
def insAtD (ds : List D) (n : Int) (d : D) : List D := ds.take n.toNat ++ [d] ++ ds.drop n.toNat
def wInsert (wo : WT) (wl : WA) : WT := fun PX env P => wo PX env fun t env1 => match t with
  | .al a i p => listAt env1 i p a ∧ wl PX env1 fun ws env2 => match ws with
    | [.o (.d (.int n)), .o (.d d)] => match envAt env2 i p with
      | some (.obj b .lst xs) => b = a ∧ onSome (datas xs) fun ds => 0 ≤ n ∧ n < 1000000 ∧ ds.length < sizeLine ∧ P (.o (.d .none)) (envPut env2 i p (.lst b ((insAtD ds n d).map O.d)))
      | _ => False
    | _ => False
  | _ => False
section
variable {X : Cx} {B : Bs} {Wx : WX} {a b c e e2 o : Expr} {wa wb wc we wo wi : WT} {pos : Pos} {es : List Expr} {wl : WA}
theorem c_insert {cpos apos : Pos} (ho : PV X B Wx o wo) (ha : SndA X B Wx [e, e2] wl) (hbase : attributeBase o "insert" X.env (eval o X.env) = eval o X.env)
    (hfew : ((backTo cpos (starEach [e, e2] X.env)).all (fun x => !x.1) && (backToKw cpos (keywordEach [] X.env)).all (fun x => x.1.isSome) && decide ([e, e2].length + ([] : List Keyword).length + (if ([] : List Keyword).isEmpty then 0 else 1) < 30)) = true)
    (hline : (apos.endLine == cpos.line) = true) (hs : starEach [e, e2] X.env = (false, eval e X.env) :: starEach [e2] X.env) (hplain : (backTo cpos (starEach [e2] X.env)).any (·.1) = false) :
    PV X B Wx (.Call (.Attribute o "insert" apos) [e, e2] [] cpos) (wInsert wo wl) := by
  refine PE_imp (pe_bm PySem.F.plainAttrs_list PySem.F.slot_list_insert PySem.F.type_list_insert mt_insert ho ha hbase hfew hline hs hplain) fun σ H Q ⟨S, env, T, P, PX, r, hw, hP, hX⟩ => ?_
  refine ⟨S, env, T, _, PX, r, hw, fun t env1 vt S1 H1 hq r1 => ?_, hX⟩
  cases t with
  | o _ => exact hq.elim
  | al a i p =>
    have et : vt = .ref a := r1.tmps (vt, .al a i p) List.mem_cons_self
    subst et
    obtain ⟨hat, hq⟩ := hq
    refine ⟨?_, ?_⟩
    · unfold listAt at hat
      cases ee : envAt env1 i p with
      | none => simp only [ee] at hat
      | some y =>
        simp only [ee] at hat
        cases y with
        | d _ => exact hat.elim
        | tup _ => exact hat.elim
        | obj b k xs =>
          cases k with
          | dct _ => exact hat.elim
          | ins _ _ _ _ => exact hat.elim
          | dctL _ _ => exact hat.elim
          | lst =>
            have hat : b = a := hat
            subst hat
            obtain ⟨vs, hv, _⟩ := r1.seenAt ee
            exact .inl ⟨rfl, vs, .inl (.inl hv)⟩
    · refine ⟨S1, env1, (.ref a, .al a i p) :: T, _, PX, r1, hq, fun env2 Z S2 H2 h2 r2 => ?_, hX⟩
      obtain ⟨v1, n, v2, d, rfl⟩ : ∃ v1 n v2 d, Z = [(v1, .o (.d (.int n))), (v2, .o (.d d))] := by
        match Z, h2 with
        | [], h2 => exact h2.elim
        | [(_, .al _ _ _)], h2 => exact h2.elim
        | [(_, .o (.d d))], h2 => cases d <;> exact h2.elim
        | [(_, .o (.tup _))], h2 => exact h2.elim
        | [(_, .o (.obj _ _ _))], h2 => exact h2.elim
        | [(v1, .o (.d (.int n))), (v2, .o (.d d))], _ => exact ⟨v1, n, v2, d, rfl⟩
        | (_, .al _ _ _) :: _ :: _, h2 => exact h2.elim
        | (_, .o (.tup _)) :: _ :: _, h2 => exact h2.elim
        | (_, .o (.obj _ _ _)) :: _ :: _, h2 => exact h2.elim
        | (_, .o (.d (.int _))) :: (_, .al _ _ _) :: _, h2 => exact h2.elim
        | (_, .o (.d (.int _))) :: (_, .o (.tup _)) :: _, h2 => exact h2.elim
        | (_, .o (.d (.int _))) :: (_, .o (.obj _ _ _)) :: _, h2 => exact h2.elim
        | (_, .o (.d (.int _))) :: (_, .o (.d _)) :: _ :: _, h2 => exact h2.elim
        | (_, .o (.d (.str _))) :: _ :: _, h2 => exact h2.elim
        | (_, .o (.d (.bool _))) :: _ :: _, h2 => exact h2.elim
        | (_, .o (.d .none)) :: _ :: _, h2 => exact h2.elim
        | (_, .o (.d (.tuple _))) :: _ :: _, h2 => exact h2.elim
        | (_, .o (.d (.list _))) :: _ :: _, h2 => exact h2.elim
        | (_, .o (.d (.dict _))) :: _ :: _, h2 => exact h2.elim
      have r3 : R X.K B S2 H2 σ env2 ((v1, .o (.d (.int n))) :: (v2, .o (.d d)) :: (.ref a, .al a i p) :: T) := r2
      obtain rfl := r3.intTop
      have z : OwnR X.K S2 H2 v2 (.d d) := r3.tmps (v2, .o (.d d)) (List.mem_cons_of_mem _ List.mem_cons_self)
      have rd : Rp X.K S2 H2 v2 d := by cases z with | d rp => exact rp
      have r5 : R X.K B S2 H2 σ env2 T := r3.perm (fun t ht => List.mem_cons_of_mem _ (List.mem_cons_of_mem _ (List.mem_cons_of_mem _ ht))) fun b => by
        show cntT b T ≤ _ + (_ + (0 + cntT b T))
        omega
      have h2 : match envAt env2 i p with
        | some (.obj b .lst xs) => b = a ∧ onSome (datas xs) fun ds => 0 ≤ n ∧ n < 1000000 ∧ ds.length < sizeLine ∧ P (.o (.d .none)) (envPut env2 i p (.lst b ((insAtD ds n d).map O.d)))
        | _ => False := h2
      cases ee : envAt env2 i p with
      | none => simp only [ee] at h2
      | some y2 =>
        simp only [ee] at h2
        cases y2 with
        | d _ => exact h2.elim
        | tup _ => exact h2.elim
        | obj b k xs =>
          cases k with
          | dct _ => exact h2.elim
          | ins _ _ _ _ => exact h2.elim
          | dctL _ _ => exact h2.elim
          | lst =>
            obtain ⟨hb, q⟩ := h2
            subst hb
            obtain ⟨ds, eds, n0, n1, hz, q⟩ := onSome_some q
            obtain ⟨vs, hv, ow⟩ := r5.seenAt ee
            have rp := datas_own ow eds
            have r6 := r5.renewAt ee (us := vs.take n.toNat ++ [v2] ++ vs.drop n.toNat) (ys := (insAtD ds n d).map O.d) (fun {vs'} {H'} e2 o2 => OwnA.of_data (((rp.take n.toNat).append (.cons rd .nil)).append (rp.drop n.toNat))) fun b => by
              rw [cntL_data]; exact Nat.zero_le _
            have hlen : vs.length = ds.length := by rw [ow.length, datas_eq eds, List.length_map]
            exact ⟨b, vs, n, v2, rfl, rfl, hv, by rw [hlen]; exact hz, n0, by omega, hP _ _ _ _ _ q r6.pushNone⟩
end
theorem nx_insE {wn we : WT} {u : WS} {PX : Exn → Env → Prop} {env : Env} {k : Kt} {i : Nat} {a : Addr} {ds : List D} {n : Int} {d : D} (hn : Ev wn env (.int n)) (hc : Ev we env d) (he : env[i]? = some (some (.lst a (ds.map O.d)))) (h0 : 0 ≤ n) (h1 : n < 1000000) (hl : ds.length ≤ 1000000)
    (h : Nx u PX (env.set i (some (.lst a ((insAtD ds n d).map O.d)))) k) : Nx (sCons (sExpr (wInsert (wVar i) (aCons wn (aCons we aNil)))) u) PX env k := by
  refine nx_expr ?_
  unfold wInsert
  unfold wVar
  simp only [he]
  have e : envAt env i [] = some (.lst a (ds.map O.d)) := by unfold envAt; simp only [he]; rfl
  refine ⟨?_, ?_⟩
  · unfold listAt
    simp only [e]
  unfold aCons aNil
  refine hn _ _ (hc _ _ ?_)
  show match envAt env i [] with
    | some (.obj b .lst xs) => _
    | _ => False
  rw [e]
  refine ⟨rfl, ?_⟩
  refine onSome_mk (datas_map ds) ⟨h0, h1, small hl, ?_⟩
  unfold envPut
  simp only [he]
  exact h
end Vx
namespace Vx
open PySem PySem.Spec L2 PyProof.Rows
theorem plainT {X : Cx} {pins : List (Addr × Obj)} {σ : L2.St} {H : Hp} {s : Shared} {a : Addr} {xs : List V} (I : L2.Inv X pins σ H s) (h : CqT X.K H a xs) : ∃ ob, s.heap.get? a = some ob ∧ ob.dict = none := by
  rcases h with ⟨o, h, hd⟩ | ⟨o, its, n, hk, hc, hd, hs, hz, r⟩
  · exact ⟨o, (show ObjOk X.prog X.w H s.heap a (.frz o (.tup xs)) from I.hok a _ h).1, hd⟩
  · exact ⟨o, I.kIn a o hk, hd⟩
theorem strsAre_of : ∀ {ns : List Str} {us : List Value}, Vals (ns.map V.str) us → StrsAre us ns
  | [], _, .nil => .nil
  | n :: ns, _, .cons r t => by
    obtain ⟨k, rfl⟩ := r
    exact .cons n k (strsAre_of t)
def wIdxT (wa : WT) (wb : WA) : WT := fun PX env P => wa PX env fun x env1 => useW x env1 fun dx => match dx with
  | .tuple ds => onSome (strsOf ds) fun ns => wb PX env1 fun ws env2 => useWs ws env2 fun es => match es with
    | [.str i] => i ∈ ns ∧ P (.o (.d (.int ((ns.idxOf i : Nat) : Int)))) env2
    | _ => False
  | _ => False
section
variable {X : Cx} {B : Bs} {Wx : WX} {a b : Expr} {wa : WT} {wb : WA} {apos cpos : Pos}
theorem c_idxT (hu : X.A.units + 200 < cLine) (ha : PV X B Wx a wa) (hb : SndA X B Wx [b] wb)
    (hbase : attributeBase a "index" X.env (eval a X.env) = eval a X.env)
    (hfew : ((backTo cpos (starEach [b] X.env)).all (fun x => !x.1) && (backToKw cpos (keywordEach [] X.env)).all (fun x => x.1.isSome) && decide ([b].length + ([] : List Keyword).length + (if ([] : List Keyword).isEmpty then 0 else 1) < 30)) = true)
    (hline : (apos.endLine == cpos.line) = true) (hs : starEach [b] X.env = (false, eval b X.env) :: starEach [] X.env) (hplain : (backTo cpos (starEach [] X.env)).any (·.1) = false) :
    PV X B Wx (.Call (.Attribute a "index" apos) [b] [] cpos) (wIdxT wa wb) := by
  refine ⟨fun pins s σ H Q I ⟨S, env, T, P, PX, r, hw, hP, hX⟩ => ?_⟩
  refine wpAny_Call_method_late hbase hfew hline rfl ?_
  have q0 : tE X B Wx wa σ H fun vx H1 => ∃ S1 env1 w, R X.K B S1 H1 σ env1 ((vx, w) :: T) ∧ useW w env1 fun dx => match dx with
      | .tuple ds => onSome (strsOf ds) fun ns => wb PX env1 fun ws env2 => useWs ws env2 fun es => match es with
        | [.str i] => i ∈ ns ∧ P (.o (.d (.int ((ns.idxOf i : Nat) : Int)))) env2
        | _ => False
      | _ => False :=
    ⟨S, env, T, _, PX, r, hw, fun x env1 vx S1 H1 hq r1 => ⟨S1, env1, x, r1, hq⟩, hX⟩
  refine thn (ha.run pins s σ H _ I q0) fun v s1 ⟨vx, H1, I1, rx, S1, env1, w, r1, q1⟩ => ?_
  obtain ⟨S4, dx, r4, q4, ux⟩ := use1 r1 q1
  cases dx with
  | tuple ds =>
    obtain ⟨ns, hns, q4⟩ := onSome_some q4
    have r5 := r4.push ux.rp_tup
    obtain ⟨t, vs, rfl, hC, ra⟩ := ux.tupC
    have hq := hC.sq
    cases rx
    obtain ⟨its, rv, ht, hz⟩ := I1.tuple hq
    refine ⟨"tuple", "tuple.index", PySem.F.plainAttrs_tuple, PySem.F.slot_tuple_index, PySem.F.type_tuple_index, ht.typeIs, fun a e => ?_, ?_⟩
    · cases e
      exact plainT I1 hC
    have h2 : tA' X B Wx wb σ H1 fun ys H4 => ∃ S5 env5 i, R X.K B S5 H4 σ env5 ((.ref t, .o (.d (.tuple ds))) :: T) ∧ ys = [V.str i] ∧ i ∈ ns ∧ P (.o (.d (.int ((ns.idxOf i : Nat) : Int)))) env5 := by
      refine ⟨S4, env1, _, _, PX, r5, q4, fun env5 Z S5 H4 q5 r6 => ?_, hX⟩
      obtain ⟨S6, es, r7, q6, ud⟩ := r6.usedAll q5
      match es, ud, q6 with
      | [.str i], ud, q6 =>
        obtain ⟨v, e, u⟩ := ud.one
        exact ⟨S6, env5, i, r7.pops, by rw [e, u.str], q6⟩
    have hA := hb.run cpos pins _ σ _ _ I1 h2
    rw [hs] at hA ⊢
    refine Calls.callWith_builtin (by show (false || (backTo cpos (starEach [] X.env)).any (·.1)) = false; rw [hplain] <;> rfl) (Calls.evalArgs_plain ?_)
    refine thn hA fun us s6 ⟨ys, H4, I6, ry, S5, env5, i, r8, ey, q7⟩ => ?_
    subst ey
    obtain ⟨u, rfl, ru⟩ := vals1 ry
    obtain ⟨tk, rfl⟩ := ru
    have rt : Rp X.K S5 H4 (.ref t) (.tuple ds) := r8.dataTop
    rw [strsOf_eq hns] at rt
    cases rt with
    | tup f rb =>
      have ev := RpA.strs rb
      subst ev
      obtain ⟨js, rj, hj, _⟩ := I6.tuple f.sq
      refine PySem.SeqAt.tuple_index_strs hj (strsAre_of rj) q7.1 ?_
      exact ⟨.int _, H4, I6.tok _, ⟨s6.toks, rfl⟩, hP _ _ _ _ _ q7.2 (r8.pop.push (.int _))⟩
  | _ => exact q4.elim
end
end Vx
namespace Vx
open PySem PySem.Spec L2 PyProof.Rows
section
variable {X : Cx} {B : Bs} {Wx : WX} {a b c e f o : Expr} {wa wb wd wk wz we : WT} {pos p apos cpos : Pos}
def Itk2 (d : Addr) (o : Obj) (ks : List Key) : L2.It :=
  ⟨fun i H => ∃ vs, H d = some (.frz o (.dK (ks.zip vs))) ∧ ks.length = vs.length ∧ i < ks.length, fun i H x H' => H' = H ∧ ∃ k, ks[i]? = some k ∧ x = kV k, fun i H => ∃ vs, H d = some (.frz o (.dK (ks.zip vs))) ∧ ks.length = vs.length ∧ ks.length ≤ i⟩
theorem Goes.keys {ks : List Key} {a0 : Addr} {i0 : Nat} {p0 : List Stp} {od : Obj} : Goes X B (Itk2 a0 od ks) ⟨ks.map keyD, some (.keys a0 i0 p0 od ks)⟩ [] := by
  have key : ∀ {S H σ env T}, R X.K B S H σ env ([] ++ T) → Src.still ⟨ks.map keyD, some (.keys a0 i0 p0 od ks)⟩ env → ∃ vs, H a0 = some (.frz od (.dK (ks.zip vs))) ∧ ks.length = vs.length := by
    intro S H σ env T r h
    obtain ⟨⟨ys, h1⟩, _⟩ := h
    obtain ⟨vs, hv, hf, _⟩ := R.seenObj r h1
    exact ⟨vs, hv, hf.1⟩
  refine ⟨fun S H σ env T i r h hi => ?_, fun S H σ env T i x H' d r h y hd => ?_, fun S H σ env T i r h hi => ?_⟩
  · obtain ⟨vs, h1, h2⟩ := key r h
    exact ⟨vs, h1, h2, by have hi : i < (ks.map keyD).length := hi; rw [List.length_map] at hi; exact hi⟩
  · obtain ⟨rfl, k, e1, e2⟩ := y
    have hd : (ks.map keyD)[i]? = some d := hd
    rw [List.getElem?_map, e1] at hd
    have hd := Option.some.inj hd
    subst hd
    subst e2
    refine R.push r ?_
    cases k with
    | inl i => exact .int i
    | inr z => exact .str z
  · obtain ⟨vs, h1, h2⟩ := key r h
    exact ⟨vs, h1, h2, by have hi : (ks.map keyD).length ≤ i := hi; rw [List.length_map] at hi; exact hi⟩
end
end Vx
namespace Vx
open PySem PySem.W PySem.Calls PyProof.Rows
inductive NL : PyData → Prop
  | non : NL .none
  | bool (b : Bool) : NL (.bool b)
  | int (i : Int) : NL (.int i)
  | str (x : Str) : NL (.str x)
  | tup {ds : List PyData} : (∀ d ∈ ds, NL d) → NL (.tuple ds)
theorem reads_nl {h : Heap} {d : PyData} (n : NL d) : ∀ {d' : PyData} {v : Value} {as as' : List Addr}, Reads h v d as → Reads h v d' as' → NL d' → d = d' := by
  induction n with
  | non => intro d' v as as' r r' _; cases r; cases r'; rfl
  | bool => intro d' v as as' r r' _; cases r; cases r'; rfl
  | int => intro d' v as as' r r' _; cases r; cases r'; rfl
  | str => intro d' v as as' r r' _; cases r; cases r'; rfl
  | @tup ds _ ih =>
    intro d' v as as' r r' n'
    cases r with
    | tuple h1 h2 h3 h4 =>
      cases r' with
      | tuple k1 k2 k3 k4 =>
        rw [h1] at k1; cases k1
        rw [h3] at k3; cases k3
        have key : ∀ {ds ds' : List PyData} {vs : List Value} {as as' : List Addr}, (∀ d ∈ ds, ∀ {d' : PyData} {v : Value} {as as' : List Addr}, Reads h v d as → Reads h v d' as' → NL d' → d = d') → (∀ d ∈ ds', NL d) → ReadsAll h vs ds as → ReadsAll h vs ds' as' → ds = ds' := by
          intro ds
          induction ds with
          | nil => intro ds' vs as as' _ _ r r'; cases r; cases r'; rfl
          | cons d ds ih2 =>
            intro ds' vs as as' ih hn r r'
            cases r with
            | cons a b =>
              cases r' with
              | cons a' b' => rw [ih d List.mem_cons_self a a' (hn _ List.mem_cons_self), ih2 (fun e he => ih e (List.mem_cons_of_mem _ he)) (fun e he => hn e (List.mem_cons_of_mem _ he)) b b']
        cases n' with
        | tup hn => rw [key ih hn h4 k4]
      | list k1 k2 k3 k4 => cases n'
      | dict k1 k2 k3 k4 k5 => cases n'
def cmpAll : List PyData → List PyData → Bool
  | x :: xs, y :: ys => alike x y && (!PyData.eqv x y || cmpAll xs ys)
  | _, _ => true
theorem cmp_cons {x y : PyData} {xs ys : List PyData} (h : cmpAll (x :: xs) (y :: ys) = true) : alike x y = true ∧ (PyData.eqv x y = true → cmpAll xs ys = true) := by
  unfold cmpAll at h
  rw [Bool.and_eq_true] at h
  refine ⟨h.1, fun e => ?_⟩
  have h2 := h.2
  rw [e] at h2
  simpa using h2
theorem katLex_cmp {prog : Program} {w : World} {A : Around} {s : Shared} {b fin : Bool} {Q : Bool → Shared → Prop} : ∀ (xs ys : List PyData) (i : Nat) (vs ws : List Value) (as bs : List Addr), ReadsAll s.heap vs xs as → ReadsAll s.heap ws ys bs → cmpAll xs ys = true →
    A.units + min (PyData.depthAll xs) (PyData.depthAll ys) < cLine → (b = true → i = 0 → ∀ x r t, xs = x :: r → x ≠ .tuple t) → fin = decide (xs.length < ys.length) → Q (PyProof.Rows.lexLt itemOrd (keyToksAll xs) (keyToksAll ys)) s → KatLex prog w A b fin Q (vs.zip ws) i s
  | [], [], i, _, _, _, _, ra, rb, _, _, _, hf, hq => by
    cases ra
    cases rb
    have e : fin = false := by rw [hf]; rfl
    subst e
    rw [lex_irrefl] at hq
    exact kat_nil hq
  | [], y :: ys, i, _, _, _, _, ra, rb, _, _, _, hf, hq => by
    cases ra
    have e : fin = true := by rw [hf]; exact decide_eq_true (Nat.succ_pos _)
    subst e
    rw [toks_all_cons] at hq
    simp only [keyToksAll] at hq
    rw [lex_diff (O := itemOrd) (by simp)] at hq
    rw [List.zip_nil_left]
    exact kat_nil (by simpa [itemLt] using hq)
  | x :: xs, [], i, _, _, _, _, ra, rb, _, _, _, hf, hq => by
    cases rb
    have e : fin = false := by rw [hf]; exact decide_eq_false (Nat.not_lt_zero _)
    subst e
    rw [toks_all_cons] at hq
    simp only [keyToksAll] at hq
    rw [lex_diff (O := itemOrd) (by simp)] at hq
    rw [List.zip_nil_right]
    exact kat_nil (by simpa [itemLt] using hq)
  | x :: xs, y :: ys, i, _, _, _, _, ra, rb, h, hu, hb, hf, hq => by
    obtain ⟨h1, h2⟩ := cmp_cons h
    have hf' : fin = decide (xs.length < ys.length) := by
      rw [hf]
      simp only [List.length_cons, Nat.add_lt_add_iff_right]
    cases ra with
    | cons r rs =>
      cases rb with
      | cons r' rs' =>
        rw [List.zip_cons_cons]
        refine kat_cons (eqAt_alike x y A s _ _ _ _ r r' h1 (SeqAt.room_head hu) prog w _ _ ?_)
        cases hx : PyData.eqv x y with
        | true =>
          rw [dataLt_all_yes h1 hx] at hq
          exact kat_yes (katLex_cmp xs ys (i + 1) _ _ _ _ rs rs' (h2 hx) (SeqAt.room_tail hu) (fun _ hi => absurd hi (Nat.succ_ne_zero i)) hf' hq)
        | false =>
          rw [dataLt_all_no h1 hx] at hq
          refine kat_no (oneLt_alike (fun hbi t => ?_) r r' h1 (ne_none_of h1 hx) (SeqAt.room_head hu) hq)
          rw [Bool.and_eq_true] at hbi
          exact hb hbi.1 (by simpa using hbi.2) x xs t rfl
def AllCmp (ds : List PyData) : Prop := ∀ d, d ∈ ds → ∃ x r, d = .tuple (x :: r) ∧ ∀ d', d' ∈ ds → ∃ y r', d' = .tuple (y :: r') ∧ cmpAll (x :: r) (y :: r') = true
theorem dataKind_nl {h : Heap} {ds : List PyData} (hn : ∀ d ∈ ds, NL d) {v : Value} {d : PyData} {as : List Addr} (hd : d ∈ ds) (r : Reads h v d as) : (dataKind h ds).keyOf v = some (keyToks d) := by
  have q : ∃ d, d ∈ ds ∧ ∃ as, Reads h v d as := ⟨d, hd, as, r⟩
  have e : (dataKind h ds).keyOf v = some (keyToks q.choose) := by
    show (open Classical in if q : ∃ d, d ∈ ds ∧ ∃ as, Reads h v d as then some (keyToks q.choose) else none) = _
    rw [dif_pos q]
  obtain ⟨h1, as', h2⟩ := q.choose_spec
  rw [e, reads_nl (hn _ h1) h2 r (hn _ hd)]
theorem sortsAt_cmp {prog : Program} {w : World} {A : Around} {s : Shared} {vs : List Value} {ds : List PyData} (e : EachIs (fun v d => ∃ as, Reads s.heap v d as) vs ds) (hn : ∀ d ∈ ds, NL d) (hc : AllCmp ds) (hu : ∀ d, d ∈ ds → A.units + d.depth < cLine) : SortsAt prog w A s (dataKind s.heap ds) vs := by
  have room : ∀ {d d' : PyData}, d ∈ ds → A.units + min d.depth d'.depth < cLine := fun {d d'} hd => Nat.lt_of_le_of_lt (Nat.add_le_add_left (Nat.min_le_left _ _) _) (hu d hd)
  have ht : ∀ d, d ∈ ds → ∃ x r, d = .tuple (x :: r) := fun d hd => let ⟨x, r, h, _⟩ := hc d hd; ⟨x, r, h⟩
  refine ⟨fun v hv => ?_, ?_⟩
  · obtain ⟨d, hd, as, r⟩ := e.left v hv
    exact ⟨_, dataKind_nl hn hd r⟩
  cases ds with
  | nil =>
    cases e
    exact ⟨general', fun E x y a b Q ha _ _ => (by
      obtain ⟨d, _, hd, _⟩ := dataKind_inv ha
      exact absurd hd (by simp)), fun h2 => absurd h2 (by simp)⟩
  | cons d₀ ds₀ =>
    obtain ⟨x₀, r₀, e₀, _⟩ := hc d₀ (List.mem_cons_self ..)
    have hfirst : ∀ x r, PyData.tuple (x :: r) ∈ d₀ :: ds₀ → alike x x₀ = true := by
      intro x r hm
      obtain ⟨x', r', e1, q⟩ := hc _ hm
      cases e1
      obtain ⟨y, r'', e2, q2⟩ := q d₀ (List.mem_cons_self ..)
      rw [e₀] at e2
      cases e2
      exact (cmp_cons q2).1
    refine ⟨tuples' (dataType x₀ != Value.type "tuple"), ?_, fun h2 E Q hq => ?_⟩
    · intro E x y a b Q ha hb hq
      obtain ⟨d, as, hd, ra, rfl⟩ := dataKind_inv ha
      obtain ⟨d', as', hd', rb, rfl⟩ := dataKind_inv hb
      have hroom := room (d' := d') hd
      obtain ⟨x1, r1, rfl, q1⟩ := hc d hd
      obtain ⟨x2, r2, rfl, hdd⟩ := q1 d' hd'
      have hq' : Q (dataLt (.tuple (x1 :: r1)) (.tuple (x2 :: r2))) s := hq
      rw [dataLt_tuple] at hq'
      cases ra with
      | @tuple l o xs n _ _ h1 h2 h3 h4 =>
        cases rb with
        | @tuple l' o' xs' n' _ _ k1 k2 k3 k4 =>
          have n1 : xs.size = (x1 :: r1).length := by simpa using SeqAt.ReadsAll.length _ _ _ h4
          have n2 : xs'.size = (x2 :: r2).length := by simpa using SeqAt.ReadsAll.length _ _ _ k4
          refine kat_lt h1 h3 k1 k3 (katLex_cmp (x1 :: r1) (x2 :: r2) 0 _ _ _ _ h4 k4 hdd (by have q := SeqAt.room_in hroom; omega) (fun hb _ x r t ex => ?_) (by rw [n1, n2]) hq')
          obtain ⟨rfl, rfl⟩ := List.cons.inj ex
          have q := dataType_alike (hfirst _ _ hd)
          rw [← q] at hb
          exact dataType_tuple hb t
    · obtain ⟨fs, t1, t2, t3⟩ := each_katTups e ht
      refine kat_kind (T := dataType x₀) t1 (by omega) (fun f hf => ?_) (beq_self_eq_true _) hq
      obtain ⟨x, r, as, m1, m2⟩ := t3 f hf
      rw [← dataType_alike (hfirst x r m1)]
      exact looks_reads m2
structure KzS (kz : List PyData) : Prop where
  n : ∀ c ∈ kz, NL c ∧ c.depth ≤ 60
  s : ∀ (prog : Program) (w : World) (A : Around) (s : Shared) (vs : List Value), EachIs (fun v d => ∃ as, Reads s.heap v d as) vs kz → (∀ d, d ∈ kz → A.units + d.depth < cLine) → SortsAt prog w A s (dataKind s.heap kz) vs
theorem KzS.alike {kz : List PyData} (h : AllAlike kz) (h2 : Sortable kz) (hn : ∀ c ∈ kz, NL c ∧ c.depth ≤ 60) : KzS kz := ⟨hn, fun _ _ _ _ _ e hu => SortsAt.data e h h2 hu⟩
theorem KzS.cmp {kz : List PyData} (h : AllCmp kz) (hn : ∀ c ∈ kz, NL c ∧ c.depth ≤ 60) : KzS kz := ⟨hn, fun _ _ _ _ _ e hu => sortsAt_cmp e (fun d hd => (hn d hd).1) h hu⟩
def KeyedOutC (rev : Bool) (kz : List PyData) (vs out : List Value) : Prop := ∃ h ks, out = sortVals (dataKind h kz) rev ks vs ∧ EachIs (fun v k => (dataKind h kz).keyOf v = some (keyToks k)) ks kz
theorem keyedOutC_each {rev : Bool} {β : Type} {R : Value → β → Prop} {bs : List β} {vs out : List Value} (k : β → PyData) (h : KeyedOutC rev (bs.map k) vs out) (hR : EachIs R vs bs) : EachIs R out (bs.mergeSort (dataLe rev k)) := by
  obtain ⟨hp, ks, rfl, hk⟩ := h
  exact sortVals_each (κ := dataKind hp (bs.map k)) (fun b => keyToks (k b)) hR (each_of_map k hk)
section
variable {prog : Program} {w : World} {A : Around} {E : Value → Shared → Prop} {s : Shared} {a kS : Addr} {b : Bool} {vs : List Value} {e1 : Nat} {P : PySem.Fin → Shared → Prop} {kz : List PyData}
def gone (h : Heap) (c : Addr) : Heap := h.update c fun o => { o with data := .freed }
theorem gone_self {h : Heap} {c : Addr} : (gone h c).get? c = none := by
  unfold gone Heap.update Heap.get?
  rcases h with ⟨objs, l⟩
  simp only [Array.getElem?_modify]
  cases objs[c]? <;> simp
theorem gone_ne {h : Heap} {c x : Addr} (hx : x ≠ c) : (gone h c).get? x = h.get? x := Heap.get?_update_ne h x c _ hx
theorem gone_keeps {h : Heap} {c : Addr} : KeepsBut a (gone h c) h := fun x o _ e => by
  by_cases hx : x = c
  · subst hx; rw [gone_self] at e; cases e
  · rw [gone_ne hx] at e; exact e
structure Mid (kz : List PyData) (kS a : Addr) (e1 i : Nat) (s : Shared) (kA : Array Value) (e : Nat) : Prop where
  k : s.heap.get? kS = some (seqObj "list" kA e)
  a : s.heap.get? a = some (seqObj "list" #[] e1)
  r : EachIs (fun v k => Reads s.heap v k []) kA.toList (kz.take i)
def pushed (s : Shared) (kS : Addr) (u : Value) : Shared := { s with heap := s.heap.update kS (Obj.mapSeq (·.push u)) }
theorem srt_rest {f : Value} (I : Nat → Shared → Prop) (hka : kS ≠ a) (hI : ∀ i s', I i s' → ∃ kA e, Mid kz kS a e1 i s' kA e) (h0 : I 0 s)
    (turn : ∀ (i : Nat) (v : Value) (k : PyData), vs[i]? = some v → kz[i]? = some k → ∀ (s' : Shared) (kA : Array Value) (e : Nat), I i s' → s'.heap.get? kS = some (seqObj "list" kA e) →
      wpAny (model prog w) A (call f [v]) (fun u s'' => s''.heap.get? kS = some (seqObj "list" kA e) ∧ I (i + 1) (pushed s'' kS u)) (fun _ _ => False) s')
    (hlen : kz.length = vs.length) (hZ : vs.length ≤ sizeLine) (hkz : KzS kz) (hu : ∀ d, d ∈ kz → A.units + d.depth < cLine)
    (h : ∀ s' h' tk out c, I vs.length s' → (∀ x o, x ≠ a → x ≠ kS → s'.heap.get? x = some o → h'.get? x = some o) → h'.get? a = some (seqObj "list" (List.toArray out) c) → KeyedOutC b kz vs out → P (.done (.ret .none)) { s' with heap := h', toks := tk }) :
    wpAny (model prog w) A (ksk_rest a f b vs.toArray e1 (.ref kS)) P E s := by
  unfold ksk_rest
  refine wpAny_bind (wpAny_rule ?_)
  first
    | rw [List.forIn_toArray]
    | (rw [← Array.forIn_toList]; simp only [List.toList_toArray])
    | rw [← Array.forIn_toList]
  refine wpAny_bind (ksk_fold I vs 0 s h0 ?step ?done)
  case step =>
    intro j x s' hx hIs
    obtain ⟨kA, e, m⟩ := hI _ _ hIs
    simp only [Nat.zero_add] at hIs m ⊢
    have hj : j < vs.length := (List.getElem?_eq_some_iff.mp hx).1
    obtain ⟨k, hkj⟩ : ∃ k, kz[j]? = some k := ⟨_, List.getElem?_eq_getElem (by omega)⟩
    have hz : kA.size ≤ vs.length := by
      have h1 := m.r.length
      rw [Array.length_toList, List.length_take] at h1
      omega
    refine wpAny_bind (wpAny_attempt (wpAny_mono (turn j x k hx hkj s' kA e hIs m.k) (fun v s'' he => ?_) fun _ _ hF => hF.elim))
    obtain ⟨nk2, hnext⟩ := he
    try dsimp only
    refine wpAny_bind (listUpdate_at nk2 rfl ?_ (Nat.le_trans hz hZ) (Nat.le_trans (Nat.le_of_eq (Array.size_push ..)) (Nat.succ_le_succ (Nat.le_trans hz hZ))))
    exact wpAny_pure ⟨rfl, hnext⟩
  case done =>
    intro s' hIs
    rw [Nat.zero_add] at hIs
    obtain ⟨kA, e, m⟩ := hI _ _ hIs
    have hk' : EachIs (fun v k => ∃ as, Reads s'.heap v k as) kA.toList kz := by
      have e3 : kz.take vs.length = kz := List.take_of_length_le (by omega)
      have mr := m.r
      rw [e3] at mr
      exact mr.mono fun v k q => ⟨[], q⟩
    have hsz : kA.size = vs.length := by
      have h1 := hk'.length
      rw [Array.length_toList] at h1
      omega
    try dsimp only
    refine wpAny_bind (listItems_at m.k rfl ?_)
    exact keyH_end (κ := dataKind s'.heap kz) (h₁ := gone s'.heap kS) gone_keeps gone_self m.k m.a hka (hkz.s _ _ _ s' _ hk' hu) hsz hZ fun h3 tk3 c k3 n3 => h s' h3 tk3 _ c hIs (fun x o h1 h2 q => k3 x o h1 (by rw [gone_ne h2]; exact q)) n3 ⟨s'.heap, kA.toList, rfl, (each_mem hk').mono fun v d q => let ⟨⟨as, r⟩, hd⟩ := q; dataKind_nl (fun c hc => (hkz.n c hc).1) hd r⟩
theorem srt_tree {f : Value} {n : Nat} (ho : s.heap.get? a = some (seqObj "list" vs.toArray n)) (hlen : kz.length = vs.length) (hZ : vs.length ≤ sizeLine) (hkz : KzS kz) (hu : ∀ d, d ∈ kz → A.units + d.depth < cLine)
    (I : Nat → Nat → Shared → Prop) (hI : ∀ e1 i s', I e1 i s' → ∃ kA e, Mid kz (s.heap.objs.size + 1) a e1 i s' kA e)
    (h0 : ∀ e1, (sortingHeap s.heap a vs).get? a = some (seqObj "list" #[] e1) → I e1 0 { s with heap := sortingHeap s.heap a vs })
    (turn : ∀ (e1 i : Nat) (v : Value) (k : PyData), vs[i]? = some v → kz[i]? = some k → ∀ (s' : Shared) (kA : Array Value) (e : Nat), I e1 i s' → s'.heap.get? (s.heap.objs.size + 1) = some (seqObj "list" kA e) →
      wpAny (model prog w) A (call f [v]) (fun u s'' => s''.heap.get? (s.heap.objs.size + 1) = some (seqObj "list" kA e) ∧ I e1 (i + 1) (pushed s'' (s.heap.objs.size + 1) u)) (fun _ _ => False) s')
    (h : ∀ e1 s' h' tk out c, I e1 vs.length s' → (∀ x o, x ≠ a → x ≠ s.heap.objs.size + 1 → s'.heap.get? x = some o → h'.get? x = some o) → h'.get? a = some (seqObj "list" (List.toArray out) c) → KeyedOutC b kz vs out → P (.done (.ret .none)) { s' with heap := h', toks := tk }) :
    wpAny (model prog w) A (ksk_tree a f b) P E s := by
  have ha : a < s.heap.objs.size := Heap.lt_size ho
  obtain ⟨e1, ho1⟩ : ∃ e1, (s.heap.update a (Obj.mapSeq fun _ => (#[] : Array Value))).get? a = some (seqObj "list" #[] e1) := ⟨_, get?_update_seq ho fun _ => #[]⟩
  have hkS : ((s.heap.update a (Obj.mapSeq fun _ => (#[] : Array Value))).push (seqObj "tuple" vs.toArray 0)).objs.size = s.heap.objs.size + 1 := by rw [size_push', Heap.size_update]
  have hs : (sortingHeap s.heap a vs).get? a = some (seqObj "list" #[] e1) := Heap.get?_push_of_some _ (Heap.get?_push_of_some _ ho1)
  unfold ksk_tree
  refine wpAny_bind (listItems_at ho rfl ?_)
  refine wpAny_bind (listUpdate_at ho rfl ?_ (by rw [List.size_toArray]; exact hZ) (Nat.zero_le _))
  refine wpAny_bind (seqEpoch_at ho1 rfl ?_)
  refine wpAny_bind (wpAny_newTuple ?_ (by show vs.length ≤ _; exact hZ))
  refine wpAny_bind (wpAny_newList ?_ (Nat.zero_le _))
  refine wpAny_holding ?_
  rw [hkS]
  exact srt_rest (kS := s.heap.objs.size + 1) (s := { s with heap := sortingHeap s.heap a vs }) (I e1) (Nat.ne_of_gt (Nat.lt_succ_of_lt ha)) (hI e1) (h0 e1 hs) (turn e1) hlen hZ hkz hu (h e1)
theorem srt_sorted {l : Addr} {f : Value} {kw : List (Str × Value)} {Q : Value → Shared → Prop} (hl : s.heap.IsList l vs.toArray) (hlen : kz.length = vs.length) (hZ : vs.length ≤ sizeLine) (hkz : KzS kz) (hu : ∀ d, d ∈ kz → A.units + 2 + d.depth < cLine)
    (ha1 : argsOk "sorted" ⟨[.ref l], kw⟩) (ha2 : ∀ x, argsOk "list.sort" ⟨[.ref x], kw⟩) (ht : ∀ x, Builtin.«list.sort» ⟨[.ref x], kw⟩ = ksk_tree x f b)
    (I : Nat → Nat → Shared → Prop) (hI : ∀ e1 i s', I e1 i s' → ∃ kA e, Mid kz ((copyHeap s.heap vs).objs.size + 1) (s.heap.objs.size + 1) e1 i s' kA e)
    (h0 : ∀ e1, (sortingHeap (copyHeap s.heap vs) (s.heap.objs.size + 1) vs).get? (s.heap.objs.size + 1) = some (seqObj "list" #[] e1) → I e1 0 { s with heap := sortingHeap (copyHeap s.heap vs) (s.heap.objs.size + 1) vs })
    (turn : ∀ (e1 i : Nat) (v : Value) (k : PyData), vs[i]? = some v → kz[i]? = some k → ∀ (s' : Shared) (kA : Array Value) (e : Nat), I e1 i s' → s'.heap.get? ((copyHeap s.heap vs).objs.size + 1) = some (seqObj "list" kA e) →
      wpAny (model prog w) A.in1.in1 (call f [v]) (fun u s'' => s''.heap.get? ((copyHeap s.heap vs).objs.size + 1) = some (seqObj "list" kA e) ∧ I e1 (i + 1) (pushed s'' ((copyHeap s.heap vs).objs.size + 1) u)) (fun _ _ => False) s')
    (h : ∀ e1 s' h' tk out c, I e1 vs.length s' → (∀ x o, x ≠ s.heap.objs.size + 1 → x ≠ (copyHeap s.heap vs).objs.size + 1 → s'.heap.get? x = some o → h'.get? x = some o) → h'.get? (s.heap.objs.size + 1) = some (seqObj "list" (List.toArray out) c) → KeyedOutC b kz vs out →
      Q (.ref (s.heap.objs.size + 1)) { s' with heap := h', toks := tk }) :
    wpAny (model prog w) A (call (.builtin "sorted") [.ref l] kw) Q E s := by
  refine sorted_of_sort hl hZ ha1 ha2 fun E' => ?_
  rw [ht]
  exact srt_tree (s := { s with heap := copyHeap s.heap vs }) (copyHeap_at s.heap vs) hlen hZ hkz (fun d hd => by have := hu d hd; show A.units + 1 + 1 + d.depth < cLine; omega) I hI h0 turn fun e1 s' h' tk out c hIs hk hD ko => ⟨rfl, h e1 s' h' tk out c hIs hk hD ko⟩
end
end Vx
namespace Vx
open PySem PySem.W PySem.Calls PyProof.Rows L2
section
variable {X : Cx} {k : Nat} {fa : Addr} {fd : FuncData} {ps : List Str} {sp : Sp}
theorem each_two {α β γ : Type} {R : α → β → Prop} {as : List α} {bs : List β} {cs : List γ} (h : EachIs R as bs) (hl : cs.length = bs.length) : EachIs (fun a (p : β × γ) => R a p.1) as (bs.zip cs) := by
  induction h generalizing cs with
  | nil => exact EachIs.nil
  | cons h1 _ ih =>
    cases cs with
    | nil => simp at hl
    | cons c cs => exact EachIs.cons h1 (ih (by simpa using hl))
theorem vals_each {vs : List V} {us : List Value} (r : Vals vs us) : EachIs (fun u v => RelV v u) us vs := by
  induction us generalizing vs with
  | nil => cases vs with
    | nil => exact EachIs.nil
    | cons _ _ => exact absurd r.length (by simp)
  | cons u us ih => cases vs with
    | nil => exact absurd r.length (by simp)
    | cons v vs => cases r with
      | cons h1 h2 => exact EachIs.cons h1 (ih h2)
theorem each_vals {β : Type} {f : β → V} {us : List Value} {bs : List β} (h : EachIs (fun u b => RelV (f b) u) us bs) : Vals (bs.map f) us := by
  induction h with
  | nil => exact Paired.nil
  | cons h1 _ ih => exact Paired.cons h1 ih
theorem copy_size {h : Heap} {vs : List Value} : (copyHeap h vs).objs.size = h.objs.size + 2 := by
  unfold copyHeap
  rw [size_push', Heap.size_update, size_push']
theorem sortK_run (F : FnV X.prog X.w X.K X.mg X.base k fa fd ps sp) (hr : Room k X.A.in1.in1) (hgd : X.A.in1.in1.guards = some []) (hb : Binds X.K fd ps [])
    {pins : List (Addr × Obj)} {s : Shared} {σ : L2.St} {H : Hp} {Q : VK} {p : Addr} {xs : List V} (I : L2.Inv X pins σ H s) (hp : SqL X.K H p xs) {kz : List PyData} (hlen : kz.length = xs.length) (hkz : KzS kz) (hu : ∀ d, d ∈ kz → X.A.units + 2 + d.depth < cLine)
    (J : Nat → Hp → List V → Prop) (j0 : J 0 H [])
    (step : ∀ i x H' ks, xs[i]? = some x → J i H' ks → sp [x] H' (fun v H'' => J (i + 1) H'' (ks ++ [v])) (fun _ _ _ => False))
    (rd : ∀ i H' ks pins' s' us, J i H' ks → L2.Inv X pins' σ H' s' → Vals ks us → EachIs (fun u d => Reads s'.heap u d []) us (kz.take i))
    (fin : ∀ H' ks a, J xs.length H' ks → H' a = none → Q (.ref a) (upd H' a (.lst (((xs.zip kz).mergeSort (dataLe false Prod.snd)).map Prod.fst)))) :
    wpAny (model X.prog X.w) X.A (call (.builtin "sorted") [.ref p] [(Str.ofString "key", .ref fa)]) (EP X pins σ Q) X.xe s := by
  obtain ⟨its, rv, hl, hz⟩ := I.list hp
  have hvl : xs.length = its.length := rv.length
  have sz := copy_size (h := s.heap) (vs := its)
  have hka : (copyHeap s.heap its).objs.size + 1 ≠ s.heap.objs.size + 1 := by rw [sz]; omega
  have fpa : ∀ H' : Hp, H' (s.heap.objs.size + 1) = none → FpOk X pins H' (s.heap.objs.size + 1) := fun H' h => I.fpOk (Nat.le_succ _) h
  have fpk : ∀ H' : Hp, H' ((copyHeap s.heap its).objs.size + 1) = none → FpOk X pins H' ((copyHeap s.heap its).objs.size + 1) := fun H' h => I.fpOk (by rw [sz]; omega) h
  have nocell : ∀ {xs : Array Value} {n : Nat} {v : Option Value}, (seqObj "list" xs n).data ≠ .cell v := fun h => by cases h
  refine srt_sorted (vs := its) (kz := kz) (b := false) hl.isList (by omega) (by omega) hkz hu (PyProof.Rows.ksk_s1 _ _) (fun _ => PyProof.Rows.ksk_l1 _ _) (fun _ => PyProof.Rows.ksk_t1 _ _)
    (fun e1 i s' => ∃ H' ks kA e, L2.Inv X (pins ++ [(s.heap.objs.size + 1, seqObj "list" #[] e1), ((copyHeap s.heap its).objs.size + 1, seqObj "list" kA e)]) σ H' s' ∧ J i H' ks ∧ Vals ks kA.toList) ?hI ?h0 ?turn ?hfin
  case hI =>
    rintro e1 i s' ⟨H', ks, kA, e, I', j, r⟩
    refine ⟨kA, e, (I'.pin (_, _) (List.mem_append_right _ (List.mem_append_right _ (List.mem_cons_of_mem _ List.mem_cons_self)))).1, (I'.pin (_, _) (List.mem_append_right _ (List.mem_append_right _ List.mem_cons_self))).1, ?_⟩
    exact rd i H' ks _ s' _ j I' r
  case h0 =>
    intro e1 he
    have kp : ∀ b o, s.heap.get? b = some o → (sortingHeap (copyHeap s.heap its) (s.heap.objs.size + 1) its).get? b = some o := fun b o q => sorting_copy_old q
    have I0 := I.kept (t' := s.toks) (h' := sortingHeap (copyHeap s.heap its) (s.heap.objs.size + 1) its) kp
    have hk : (sortingHeap (copyHeap s.heap its) (s.heap.objs.size + 1) its).get? ((copyHeap s.heap its).objs.size + 1) = some (seqObj "list" #[] 0) := by
      unfold sortingHeap
      have e : (copyHeap s.heap its).objs.size + 1 = (((copyHeap s.heap its).update (s.heap.objs.size + 1) (Obj.mapSeq fun _ => #[])).push (seqObj "tuple" its.toArray 0)).objs.size := by rw [size_push', Heap.size_update]
      rw [e]
      exact Heap.get?_push_size _ rfl
    have ha := fpa H (I.hok.fresh (Nat.le_succ _))
    have hk2 := fpk H (I.hok.fresh (by rw [sz]; omega))
    refine ⟨H, [], #[], 0, I0.pins_of fun q hq => ?_, j0, Paired.nil⟩
    rcases List.mem_append.mp hq with hq | hq
    · exact I0.pin q (List.mem_append_right _ hq)
    · rcases List.mem_cons.mp hq with rfl | hq
      · exact ⟨he, ha.1, ha.2.1, ha.2.2.1, fun v => nocell⟩
      · rw [List.mem_singleton.mp hq]
        exact ⟨hk, hk2.1, hk2.2.1, hk2.2.2.1, fun v => nocell⟩
  case turn =>
    rintro e1 i v d hv hd s' kA e ⟨H', ks, kA', e', I', j, r⟩ hk
    have ma : ∀ {kB : Array Value} {eB : Nat}, (s.heap.objs.size + 1, seqObj "list" #[] e1) ∈ X.pn ++ (pins ++ [(s.heap.objs.size + 1, seqObj "list" #[] e1), ((copyHeap s.heap its).objs.size + 1, seqObj "list" kB eB)]) := List.mem_append_right _ (List.mem_append_right _ List.mem_cons_self)
    have mk : ∀ {kB : Array Value} {eB : Nat}, ((copyHeap s.heap its).objs.size + 1, seqObj "list" kB eB) ∈ X.pn ++ (pins ++ [(s.heap.objs.size + 1, seqObj "list" #[] e1), ((copyHeap s.heap its).objs.size + 1, seqObj "list" kB eB)]) := List.mem_append_right _ (List.mem_append_right _ (List.mem_cons_of_mem _ List.mem_cons_self))
    have hkk : some (seqObj "list" kA' e') = some (seqObj "list" kA e) := by rw [← (I'.pin _ mk).1]; exact hk
    have hi : i < its.length := (List.getElem?_eq_some_iff.mp hv).1
    obtain ⟨v', hv', rx⟩ := rv.get (i := i) (x := xs[i]'(by omega)) (List.getElem?_eq_getElem _)
    rw [hv] at hv'
    cases hv'
    have r2 : Vals ([xs[i]'(by omega)] ++ []) ([v] ++ []) := Paired.cons rx Paired.nil
    have hst := step i _ H' ks (List.getElem?_eq_getElem (by omega)) j
    have hl2 : ([v] ++ [] : List Value).length = ps.length := F.len _ _ _ _ hst
    refine wpAny_call (codeAny_mono (F.run X.A.in1.in1 X.stack s' H' ⟨[v], []⟩ ([v] ++ []) _ _ _ hr hgd I'.env0.in1.in1 (hb s' [v] I'.kIn hl2) r2 hst) fun res s'' hq => ?_)
    cases res with
    | error ex =>
      obtain ⟨_, _, _, _, _, _, _, _, _, _, _, _, hE⟩ := (show L2N.CX X.prog X.w X.stack H' s' (fun _ _ _ => False) ex s'' from hq)
      exact hE.elim
    | ok fl =>
      cases fl with
      | next => exact False.elim hq
      | brk => exact False.elim hq
      | cont => exact False.elim hq
      | ret u =>
        obtain ⟨w, H'', I'', ru, jn⟩ := I'.after hq
        have pk := I''.pin _ mk
        have pa := I''.pin _ ma
        refine ⟨by rw [pk.1]; exact hkk, ?_⟩
        have s1 := Heap.SameBut.update s''.heap ((copyHeap s.heap its).objs.size + 1) (Obj.mapSeq (·.push u))
        obtain ⟨c2, hc2⟩ : ∃ c2, (s''.heap.update ((copyHeap s.heap its).objs.size + 1) (Obj.mapSeq (·.push u))).get? ((copyHeap s.heap its).objs.size + 1) = some (seqObj "list" (kA'.push u) c2) := ⟨_, get?_update_seq pk.1 (·.push u)⟩
        have I3 := (I''.unpinned).turnedL (t' := s''.toks) (h' := s''.heap.update ((copyHeap s.heap its).objs.size + 1) (Obj.mapSeq (·.push u))) (ch := [(copyHeap s.heap its).objs.size + 1]) (fun b o hb q => (s1.2 b (fun z => hb (by simp [z]))).trans q) (fun b hb => by rw [List.mem_singleton.mp hb]; exact fpk H'' pk.2.1)
        refine ⟨H'', ks ++ [w], kA'.push u, c2, I3.pins_of fun q hq => ?_, jn, ?_⟩
        · rcases List.mem_append.mp hq with hq | hq
          · exact I3.pin q (List.mem_append_right _ hq)
          · rcases List.mem_cons.mp hq with rfl | hq
            · exact ⟨(s1.2 _ hka.symm).trans pa.1, pa.2⟩
            · rw [List.mem_singleton.mp hq]
              exact ⟨hc2, pk.2.1, pk.2.2.1, pk.2.2.2.1, fun v => nocell⟩
        · rw [Array.toList_push]
          exact r.append (Paired.cons ru Paired.nil)
  case hfin =>
    rintro e1 s' h' tk out c ⟨H', ks, kA, e, I', j, r⟩ hk hD ko
    have pa := I'.pin (s.heap.objs.size + 1, seqObj "list" #[] e1) (List.mem_append_right _ (List.mem_append_right _ List.mem_cons_self))
    have pk := I'.pin ((copyHeap s.heap its).objs.size + 1, seqObj "list" kA e) (List.mem_append_right _ (List.mem_append_right _ (List.mem_cons_of_mem _ List.mem_cons_self)))
    have I2 := (I'.unpinned).turnedL (t' := tk) (h' := h') (ch := [(copyHeap s.heap its).objs.size + 1, s.heap.objs.size + 1]) (fun b o hb q => hk b o (fun z => hb (by simp [z])) (fun z => hb (by simp [z])) q) (fun b hb => by
      rcases List.mem_cons.mp hb with rfl | hb
      · exact fpk H' pk.2.1
      · rw [List.mem_singleton.mp hb]; exact fpa H' pa.2.1)
    have hzip : (xs.zip kz).map Prod.snd = kz := List.map_snd_zip (by omega)
    have eo := keyedOutC_each (rev := false) (R := fun u (q : V × PyData) => RelV q.1 u) (bs := xs.zip kz) Prod.snd (by rw [hzip]; exact ko) (each_two (vals_each rv) (by omega))
    have hvals := each_vals (f := Prod.fst) eo
    have hol : (((xs.zip kz).mergeSort (dataLe false Prod.snd)).map Prod.fst).length ≤ sizeLine := by
      rw [List.length_map, (List.mergeSort_perm _ _).length_eq, List.length_zip]; omega
    have I3 := I2.take (t' := tk) (it := s.heap.objs.size + 1) (o := .lst (((xs.zip kz).mergeSort (dataLe false Prod.snd)).map Prod.fst)) (h' := h') (fun b ob _ q => q) (fpa H' pa.2.1) ⟨hol, out, c, hvals, hD⟩
    rw [← hvl] at j
    exact ⟨.ref _, _, I3, rfl, fin H' ks _ j pa.2.1⟩
end
end Vx
namespace Vx
open PySem PySem.W PySem.Calls PyProof.Rows L2
section
variable {X : Cx} {pins : List (Addr × Obj)} {σ : L2.St} {H : Hp} {s : Shared} {S : Fz}
mutual
theorem rp_reads (I : L2.Inv X pins σ H s) : ∀ {v : V} {d : D}, Rp X.K S H v d → NL d → ∀ u, RelV v u → Reads s.heap u d []
  | _, _, .non, _, u, e => by
    obtain rfl : u = Value.none := e
    exact .none
  | _, _, .bl b, _, u, e => by
    obtain rfl : u = Value.bool b := e
    exact .bool b
  | _, _, .int i, _, u, e => by
    obtain ⟨t, rfl⟩ : ∃ t, u = Value.int i t := e
    exact .int i t
  | _, _, .str x, _, u, e => by
    obtain ⟨t, rfl⟩ : ∃ t, u = Value.str x t := e
    exact .str x t
  | _, _, .tup (a := a) (xs := xs) (ds := ds) h r, n, u, e => by
    obtain rfl : u = Value.ref a := e
    obtain ⟨its, rv, it, _⟩ := I.tuple h.sq
    have hn : ∀ d ∈ ds, NL d := by
      cases n with
      | tup h => exact h
    have ra := rpa_reads I r hn its rv
    obtain ⟨o, hg, hc, n2, hd⟩ := it
    exact Reads.tuple hg hc hd ra
  | _, _, .lst _ _, n, _, _ => nomatch n
  | _, _, .dct _ _ _ _, n, _, _ => nomatch n
  | _, _, .dcl _ _ _ _ _, n, _, _ => nomatch n
  | _, _, .ex _ _ _ _ _ _ _ _, n, _, _ => nomatch n
  | _, _, .ins _ _ _ _ _, n, _, _ => nomatch n
theorem rpa_reads (I : L2.Inv X pins σ H s) : ∀ {vs : List V} {ds : List D}, RpA X.K S H vs ds → (∀ d ∈ ds, NL d) → ∀ us, Vals vs us → ReadsAll s.heap us ds []
  | _, _, .nil, _, us, e => by
    cases e
    exact .nil
  | _, _, .cons a b, n, us, e => by
    cases e with
    | cons h1 h2 => exact ReadsAll.cons (as := []) (bs := []) (rp_reads I a (n _ List.mem_cons_self) _ h1) (rpa_reads I b (fun d hd => n d (List.mem_cons_of_mem _ hd)) _ h2)
end
theorem each_reads (I : L2.Inv X pins σ H s) : ∀ {vs : List V} {ds : List D} {us : List Value}, RpA X.K S H vs ds → (∀ d ∈ ds, NL d) → Vals vs us → EachIs (fun u d => Reads s.heap u d []) us ds
  | _, _, _, .nil, _, e => by
    cases e
    exact EachIs.nil
  | _, _, _, .cons a b, n, e => by
    cases e with
    | cons h1 h2 => exact EachIs.cons (rp_reads I a (n _ List.mem_cons_self) _ h1) (each_reads I b (fun d hd => n d (List.mem_cons_of_mem _ hd)) h2)
end
def sortK (ds kz : List D) : List D := ((ds.zip kz).mergeSort (dataLe false Prod.snd)).map Prod.fst
def fSortK (F : FSem) : DSem
  | [.list ds], Q => ∃ kz : List D, kz.length = ds.length ∧ (∀ (i : Nat) (d c : D), ds[i]? = some d → kz[i]? = some c → ∀ (P : O → List O → Prop) (PX : Exn → List O → Prop), P (.d c) [.d d] → F [.d d] P PX) ∧ KzS kz ∧ ∀ a, Q (.lst a ((sortK ds kz).map .d))
  | _, _ => False
section
variable {K : PySem.W.Frag} {S : Fz} {H : Hp}
theorem rpa_map {α : Type} {f : α → V} {g : α → D} : ∀ {l : List α}, (∀ t ∈ l, Rp K S H (f t) (g t)) → RpA K S H (l.map f) (l.map g)
  | [], _ => .nil
  | t :: l, h => .cons (h t List.mem_cons_self) (rpa_map fun u hu => h u (List.mem_cons_of_mem _ hu))
theorem rpa_zip : ∀ {xs : List V} {ds : List D}, RpA K S H xs ds → ∀ t ∈ xs.zip ds, Rp K S H t.1 t.2
  | _, _, .nil, t, h => by cases h
  | _, _, .cons a b, t, h => by
    rcases List.mem_cons.mp h with rfl | h
    · exact a
    · exact rpa_zip b t h
theorem rpa_len : ∀ {xs : List V} {ds : List D}, RpA K S H xs ds → xs.length = ds.length
  | _, _, .nil => rfl
  | _, _, .cons _ b => by rw [List.length_cons, List.length_cons, rpa_len b]
theorem rpa_snoc : ∀ {xs : List V} {ds : List D} {v : V} {d : D}, RpA K S H xs ds → Rp K S H v d → RpA K S H (xs ++ [v]) (ds ++ [d])
  | _, _, _, _, .nil, h => .cons h .nil
  | _, _, _, _, .cons a b, h => .cons a (rpa_snoc b h)
theorem sortK_rp {xs : List V} {ds kz : List D} (r : RpA K S H xs ds) (hk : kz.length = ds.length) : RpA K S H (((xs.zip kz).mergeSort (dataLe false Prod.snd)).map Prod.fst) (sortK ds kz) := by
  have hl := rpa_len r
  have e1 : ((xs.zip ds).zip kz).map (fun t => (t.1.1, t.2)) = xs.zip kz := by
    rw [show (fun t : (V × D) × D => (t.1.1, t.2)) = Prod.map Prod.fst id from rfl, ← List.zip_map, List.map_fst_zip (by omega), List.map_id]
  have e2 : ((xs.zip ds).zip kz).map (fun t => (t.1.2, t.2)) = ds.zip kz := by
    rw [show (fun t : (V × D) × D => (t.1.2, t.2)) = Prod.map Prod.snd id from rfl, ← List.zip_map, List.map_snd_zip (by omega), List.map_id]
  have m1 := List.map_mergeSort (r := dataLe false (fun t : (V × D) × D => t.2)) (s := dataLe false (Prod.snd (α := V))) (f := fun t => (t.1.1, t.2)) (l := (xs.zip ds).zip kz) (fun _ _ _ _ => rfl)
  have m2 := List.map_mergeSort (r := dataLe false (fun t : (V × D) × D => t.2)) (s := dataLe false (Prod.snd (α := D))) (f := fun t => (t.1.2, t.2)) (l := (xs.zip ds).zip kz) (fun _ _ _ _ => rfl)
  rw [e1] at m1
  rw [e2] at m2
  unfold sortK
  rw [← m1, ← m2, List.map_map, List.map_map]
  exact rpa_map fun t ht => rpa_zip r t.1 (List.of_mem_zip ((List.mergeSort_perm _ _).mem_iff.mp ht)).1
end
end Vx
namespace Vx
open PySem PySem.Spec PySem.W PySem.Calls L2
section
variable {X : Cx} {B : Bs} {Wx : WX} {k : Nat} {fa : Addr} {fd : FuncData} {ps : List Str} {F : FSem}
theorem sortF_run (Fn : FnV X.prog X.w X.K X.mg X.base k fa fd ps (spV X.K X.mg 1 F)) (hr : Room k X.A.in1.in1) (hgd : X.A.in1.in1.guards = some []) (hb : Binds X.K fd ps []) (hu : X.A.units + 64 < cLine)
    {pins : List (Addr × Obj)} {s : Shared} {σ : L2.St} {H : Hp} {vs : List V} {us : List Value} {Q : VK} {S : Fz} {env : Env} {T : List (V × W)} {ds : List D} {q : O → Prop}
    (I : L2.Inv X pins σ H s) (rv : Vals vs us) (r : R X.K B S H σ env T) (ud : UdA X.K S H vs ds) (hq : fSortK F ds q) (hQ : ∀ o v S' H', q o → R X.K B S' H' σ env ((v, .o o) :: T) → Q v H') :
    wpAny (model X.prog X.w) X.A (call (.builtin "sorted") us [(Str.ofString "key", .ref fa)]) (EP X pins σ Q) X.xe s := by
  cases ud with
  | nil => exact hq.elim
  | cons u us' =>
    rename_i v d vs' ds'
    cases us' with
    | cons _ _ => cases d <;> exact hq.elim
    | nil =>
      cases d with
      | list ds =>
        obtain ⟨kz, hl, hF, hkz, hq⟩ := hq
        have hnl := hkz.n
        obtain ⟨a, xs, rfl, hs, rs⟩ := u.list
        have hxl := rpa_len rs
        rw [Vals.ref1 rv]
        refine sortK_run Fn hr hgd hb I hs (kz := kz) (by omega) hkz (fun c hc => by have := (hnl c hc).2; omega)
          (fun i H' ks => ∃ S', Kp S S' H H' ∧ R X.K B S' H' σ env T ∧ RpA X.K S' H' ks (kz.take i)) ⟨S, ?_, r, by rw [List.take_zero]; exact .nil⟩ ?_ ?_ ?_
        · exact Kp.refl
        · rintro i x H' ks hx ⟨S', kp, r', rk⟩
          have hi : i < xs.length := (List.getElem?_eq_some_iff.mp hx).1
          obtain ⟨d, hd⟩ : ∃ d, ds[i]? = some d := ⟨_, List.getElem?_eq_getElem (by omega)⟩
          obtain ⟨c, hc⟩ : ∃ c, kz[i]? = some c := ⟨_, List.getElem?_eq_getElem (by omega)⟩
          have rx : Rp X.K S' H' x d := (rpa_zip rs (x, d) (List.mem_of_getElem? (i := i) (List.getElem?_zip_eq_some.mpr ⟨hx, hd⟩))).kp kp
          have r1 : R X.K B S' H' σ env ([(x, .o (.d d))] ++ T) := r'.push rx
          have hnd : (lentAt (([(x, W.o (.d d))] : List (V × W)).map (·.2))).Nodup := by simp [lentAt]
          obtain ⟨ow, _, rz⟩ := r1.lent (Z := [(x, .o (.d d))]) (os := [.d d]) rfl hnd
          refine ⟨S', [.d d], fun o os' => o = .d c ∧ os' = [.d d], fun _ _ => False, rfl, rfl, rfl, rz, ow, hF i d c hd hc _ _ ⟨rfl, rfl⟩, ?_, fun _ _ _ _ _ _ h => h.elim⟩
          rintro o os' w S2 H2 ⟨rfl, rfl⟩ hlen z
          have r2 := R.back (Z := [(x, .o (.d d))]) (os := [.d d]) (os' := [.d d]) (env' := env) (N := [(w, .o (.d c))]) r1 rfl hnd rfl hlen z
          have kp2 : Kp S' S2 H' H2 := RZ.kp z (fun a h => absurd h (by simp [O.cntL, O.cnt])) (fun a _ => rfl) r'.sH
          have rw2 : Rp X.K S2 H2 w c := by
            have := r2.tmps (w, .o (.d c)) List.mem_cons_self
            cases this with
            | d h => exact h
          refine ⟨S2, kp.trans kp2, r2.pop, ?_⟩
          rw [List.take_add_one, hc]
          exact rpa_snoc (RpA.kp kp2 rk) rw2
        · rintro i H' ks pins' s' us' ⟨S', _, _, rk⟩ I' rv'
          exact each_reads I' rk (fun c hc => (hnl c (List.mem_of_mem_take hc)).1) rv'
        · rintro H' ks p ⟨S', kp, r', _⟩ hp
          have rso := sortK_rp (RpA.kp kp rs) hl
          exact hQ _ _ _ _ (hq p) (R.newLst (P := []) r' hp (OwnA.of_data rso) fun b => by
            have : ∀ zs : List D, O.cntL b (zs.map O.d) = 0 := by
              intro zs
              induction zs with
              | nil => rfl
              | cons z zs ih => show 0 + O.cntL b (zs.map O.d) = 0; rw [ih]
            rw [this]; exact Nat.zero_le _)
      | _ => exact hq.elim
theorem c_sortK {x fx : Str} {np p2 kp pos : Pos} {e : Expr} {wl : WA} (Fn : FnV X.prog X.w X.K X.mg X.base k fa fd ps (spV X.K X.mg 1 F)) (hr : Room (k + 2) X.A) (hgd : X.A.guards = some []) (hb : Binds X.K fd ps [])
    (hg : Gl X x) (hm : X.mg x = none) (hv : bootBuiltins x = some (.builtin "sorted")) (hgf : Gl X fx) (hmf : X.mg fx = some (.ref fa)) (ha : SndA X B Wx [e] wl) (hn : x ≠ "__name__") (hd : (x == ("__debug__" : Str)) = false) (hdf : (fx == ("__debug__" : Str)) = false)
    (he : backTo pos (starEach [e] X.env) = (false, eval e X.env) :: backTo pos (starEach [] X.env)) (hpl : (backTo pos (starEach [e] X.env)).any (·.1) = false)
    (hall : (backToKw pos (keywordEach [⟨some (Str.ofString "key"), .Name fx p2, kp⟩] X.env)).all (·.1.isSome) = true) (hnone : (backToKw pos (keywordEach [⟨some (Str.ofString "key"), .Name fx p2, kp⟩] X.env)).any (·.1.isNone) = false) (hks : (backToKw pos (keywordEach [⟨some (Str.ofString "key"), .Name fx p2, kp⟩] X.env)).filterMap (·.1) = [Str.ofString "key"]) :
    PV X B Wx (.Call (.Name x np) [e] [⟨some (Str.ofString "key"), .Name fx p2, kp⟩] pos) (wBlt (fSortK F) wl) := by
  refine ⟨fun pins s σ H Q I ⟨S, env, T, P, PX, r, hw, hP, hX⟩ => ?_⟩
  have hk : PK X [⟨some (Str.ofString "key"), .Name fx p2, kp⟩] (tCons (tC (.ref fa)) tNil) := pk_cons (pe_gc hgf hmf (show RelV (.ref fa) (.ref fa) from rfl) hdf) pk_nil
  have h2 : tA' X B Wx wl σ H fun vs H1 => ∃ S1 env1 ds, R X.K B S1 H1 σ env1 T ∧ UdA X.K S1 H1 vs ds ∧ fSortK F ds fun o => P (.o o) env1 :=
    ⟨S, env, T, _, PX, r, hw, fun env1 Z S1 H1 q r1 => by
      obtain ⟨S2, ds, r2, q, ud⟩ := r1.usedAll q
      exact ⟨S2, env1, ds, r2.pops, ud, q⟩, hX⟩
  refine wpAny_Call_Name_kw (ld_blt I hg hm hv ?_ hn hd)
  refine PyProof.Rows.callWith_kw (thn (ha.run pos pins s σ H _ I h2) fun us s1 ⟨vs, H1, I1, r1, q1⟩ => thn (hk.run pos pins s1 σ H1 (fun zs H2 => zs = [.ref fa] ∧ ∃ S1 env1 ds, R X.K B S1 H2 σ env1 T ∧ UdA X.K S1 H2 vs ds ∧ fSortK F ds fun o => P (.o o) env1) I1 ⟨rfl, q1⟩) fun ws s2 ⟨zs, H2, I2, r2, q2⟩ => ?_) he hpl hall hnone
  rw [hks]
  obtain ⟨rfl, S1, env1, ds, r3, ud, q⟩ := q2
  rw [Vals.ref1 r2]
  exact sortF_run Fn (Room.in1 (Room.in1 hr)) (show X.A.guards = some [] from hgd) hb hr.units I2 r1 r3 ud q fun o v S' H' q r' => hP _ _ _ _ _ q r'
end
section
variable {F : FSem} {wa : WT} {env : Env} {ds kz : List D}
theorem e_sortK (ha : EvU wa env (.list ds)) (hl : kz.length = ds.length) (hF : ∀ (i : Nat) (d c : D), ds[i]? = some d → kz[i]? = some c → RtF F [d] c) (hkz : KzS kz) : EvL (wBlt (fSortK F) (aCons wa aNil)) env (sortK ds kz) := fun PX P q =>
  (us_co ha us_no) _ _ fun ws hk => hk _ ⟨kz, hl, fun i d c h1 h2 => hF i d c h1 h2, hkz, q⟩
end
end Vx
namespace Vx
open PySem PySem.Spec L2
def stpL {α : Type} (m : Nat) (xs : List α) : List α := (List.range (Builtin.Slice.slicePlaces 0 (xs.length : Int) (m : Int))).filterMap fun (k : Nat) => xs[(0 + (k : Int) * (m : Int)).toNat]?
theorem places_le {n m : Nat} (hm : 2 ≤ m) : Builtin.Slice.slicePlaces 0 (n : Int) (m : Int) ≤ n := by
  unfold Builtin.Slice.slicePlaces
  rw [if_pos (by omega)]
  by_cases h : (0 : Int) < n
  · rw [if_pos h]
    have := Int.ediv_le_self (a := (n : Int) - 0 - 1) (m : Int) (by omega)
    omega
  · rw [if_neg h]; omega
theorem stpL_le {α : Type} {m : Nat} {xs : List α} (hm : 2 ≤ m) : (stpL m xs).length ≤ xs.length := by
  unfold stpL
  refine Nat.le_trans (List.length_filterMap_le _ _) ?_
  rw [List.length_range]
  exact places_le hm
theorem stpL_mem {α : Type} {m : Nat} {xs : List α} {x : α} (h : x ∈ stpL m xs) : x ∈ xs := by
  obtain ⟨k, _, hk⟩ := List.mem_filterMap.mp h
  exact List.mem_of_getElem? hk
theorem vals_pick {xs : List V} {us : List Value} (r : Vals xs us) : ∀ js : List Nat, Vals (js.filterMap (xs[·]?)) (js.filterMap (us[·]?))
  | [] => .nil
  | j :: js => by
    have ih := vals_pick r js
    cases e : xs[j]? with
    | none =>
      rw [List.filterMap_cons_none e, List.filterMap_cons_none (r.none_of e)]
      exact ih
    | some x =>
      obtain ⟨u, hu, rx⟩ := r.get e
      rw [List.filterMap_cons_some e, List.filterMap_cons_some hu]
      exact .cons rx ih
theorem rpa_get {K : PySem.W.Frag} {S : Fz} {H : Hp} : ∀ {xs : List V} {ds : List D} {i : Nat} {x : V}, RpA K S H xs ds → xs[i]? = some x → ∃ d, ds[i]? = some d ∧ Rp K S H x d
  | _, _, i, _, .nil, h => by simp at h
  | _, _, 0, _, .cons a _, h => by cases h; exact ⟨_, rfl, a⟩
  | _, _, i + 1, _, .cons _ b, h => by
    obtain ⟨d, hd, r⟩ := rpa_get (i := i) b (by simpa using h)
    exact ⟨d, by simpa using hd, r⟩
theorem rpa_pick {K : PySem.W.Frag} {S : Fz} {H : Hp} {xs : List V} {ds : List D} (r : RpA K S H xs ds) : ∀ js : List Nat, RpA K S H (js.filterMap (xs[·]?)) (js.filterMap (ds[·]?))
  | [] => .nil
  | j :: js => by
    have ih := rpa_pick r js
    cases e : xs[j]? with
    | none =>
      have e2 : ds[j]? = none := by
        rw [List.getElem?_eq_none_iff] at e ⊢
        rw [← rpa_len r]; exact e
      rw [List.filterMap_cons_none e, List.filterMap_cons_none e2]
      exact ih
    | some x =>
      obtain ⟨d, hd, rx⟩ := rpa_get r e
      rw [List.filterMap_cons_some e, List.filterMap_cons_some hd]
      exact .cons rx ih
theorem stpL_js {α : Type} {m : Nat} {xs : List α} {n : Nat} (hn : xs.length = n) : stpL m xs = ((List.range (Builtin.Slice.slicePlaces 0 (n : Int) (m : Int))).map fun (k : Nat) => (0 + (k : Int) * (m : Int)).toNat).filterMap (xs[·]?) := by
  subst hn
  unfold stpL
  rw [List.filterMap_map]; rfl
section
open PyProof.Rows HT
variable {prog : Program} {w : World} {A : Around} {E : Value → Shared → Prop} {s : Shared}
theorem sliceApplied_stp {sl : Addr} {vl vu vs : Value} {n m : Nat} {Q : Int × Int × Nat → Shared → Prop} (hm : 2 ≤ m) (hs : s.heap.IsSliceOf sl vl vu vs) (pl : IsPart vl none) (pu : IsPart vu none) (ps : IsPart vs (some (m : Int)))
    (h : Q (0, (m : Int), Builtin.Slice.slicePlaces 0 (n : Int) (m : Int)) s) : wpAny (model prog w) A (Builtin.Slice.sliceApplied (.ref sl) (pure (n : Int))) Q E s := by
  obtain ⟨os, hos, hcs, hds⟩ := id hs
  unfold Builtin.Slice.sliceApplied Builtin.Slice.sliceFields
  refine wpAny_bind (wpAny_bind (wpAny_field hos hds (x := vl) rfl (wpAny_bind (wpAny_field hos hds (x := vu) rfl (wpAny_bind (wpAny_field hos hds (x := vs) rfl (wpAny_pure ?_)))))))
  refine wpAny_bind (HT.slicePart_ ps ?_)
  show wpAny _ _ (if ((m : Int) == 0) = true then _ else _) _ _ s
  rw [if_neg (by intro q; have := eq_of_beq q; omega)]
  refine wpAny_bind (HT.slicePart_ pl (wpAny_bind (HT.slicePart_ pu (wpAny_bind (wpAny_pure ?_)))))
  have e : Builtin.Slice.sliceAdjust none none (m : Int) (n : Int) = (0, (n : Int)) := by
    unfold Builtin.Slice.sliceAdjust
    simp only [show ¬ ((m : Int) < 0) by omega, if_false]
  show wpAny _ _ (match Builtin.Slice.sliceAdjust none none (m : Int) (n : Int) with | (lo, hi) => pure (lo, (m : Int), Builtin.Slice.slicePlaces lo hi (m : Int))) _ _ s
  rw [e]
  exact wpAny_pure h
theorem getItem_tuple_stp {t sl : Addr} {items : Array Value} {vl vu vs : Value} {m : Nat} {Q : Value → Shared → Prop} (hm : 2 ≤ m) (ht : PyProof.Rows.IsTup s.heap t items) (hs : s.heap.IsSliceOf sl vl vu vs) (pl : IsPart vl none) (pu : IsPart vu none) (ps : IsPart vs (some (m : Int)))
    (h : Q (.ref s.heap.objs.size) { s with heap := s.heap.push { cls := .type "tuple", data := .seq (stpL m items.toList).toArray } })
    (hsz : items.size ≤ sizeLine) : wpAny (model prog w) A (getItem (.ref t) (.ref sl)) Q E s := by
  have htake : sizeOk (.seq (stpL m items.toList).toArray) := by
    show (stpL m items.toList).toArray.size ≤ sizeLine
    rw [List.size_toArray]
    refine Nat.le_trans (stpL_le hm) ?_
    rw [Array.length_toList]; exact hsz
  have hpick : ((List.range (Builtin.Slice.slicePlaces 0 (items.size : Int) (m : Int))).filterMap fun (k : Nat) => items[(0 + (k : Int) * (m : Int)).toNat]?).toArray = (stpL m items.toList).toArray := by
    congr 1
    unfold stpL
    rw [Array.length_toList]
    exact fm_congr fun k _ => by rw [Array.getElem?_toList]
  obtain ⟨os, hos, hcs, hds⟩ := id hs
  have hTs : s.TypeIs (.ref sl) "slice" := ⟨os, hos, hcs⟩
  unfold getItem
  try with_reducible refine wpAny_holding ?_
  first | refine wpAny_bind (wpAny_pure ?_) | skip
  refine wpAny_bind (wpAny_sequenceKey ht.typeIs (by decide) ?_)
  refine wpAny_bind (wpAny_callSpecial?_slot (name := Str.ofString "__getitem__") ht.typeIs PyProof.Rows.slot_tuple_getitem
    (wpAny_call_entry PyProof.Rows.slot_tuple_getitem ht.typeIs entry_tuple_getitem ?_ (args_tuple_getitem _ _)))
  show wpAny _ _ (Builtin.Tuple.tupleItemsOf (.ref t) >>= _) _ _ s
  refine wpAny_bind (tupleItemsOf_ ht ?_)
  refine wpAny_bind (wpAny_typeOf hTs ?_)
  rw [if_pos (by decide)]
  refine wpAny_bind (sliceApplied_stp hm hs pl pu ps ?_)
  have hno : ¬ (((0 : Int) == 0 && (m : Int) == 1 && Builtin.Slice.slicePlaces 0 (items.size : Int) (m : Int) == items.size) = true) := by
    intro q
    rw [Bool.and_eq_true, Bool.and_eq_true] at q
    have := eq_of_beq q.1.2
    omega
  show wpAny _ _ (if ((0 : Int) == 0 && (m : Int) == 1 && Builtin.Slice.slicePlaces 0 (items.size : Int) (m : Int) == items.size) = true then _ else _) _ _ s
  rw [if_neg hno, hpick]
  first
    | exact wpAny_bind (m := Builtin.Tuple.tupleExact _) (wpAny_newObj_type (wpAny_pure ⟨_, rfl, wpAny_pure h⟩) htake)
    | exact wpAny_bind (m := Builtin.Tuple.tupleExact _) (wpAny_newObj_type (wpAny_bind (wpAny_pure (wpAny_pure ⟨_, rfl, wpAny_pure h⟩))) htake)
    | exact wpAny_bind (m := Builtin.Tuple.tupleExact _) (wpAny_newObj_type (wpAny_pure (wpAny_pure h)) htake)
end
section
open PyProof.Rows HT
variable {X : Cx} {B : Bs} {Wx : WX} {a e : Expr} {wa : WT} {we : WO} {pos p3 : Pos}
def wStpM (wa : WT) (we : WO) : WT := fun PX env P => wa PX env fun x env1 => we PX env1 fun e env2 => useW x env2 fun dx => match dx with
  | .tuple ds => match e with
    | some i => ∃ m : Nat, i = m ∧ 2 ≤ m ∧ P (.o (.d (.tuple (stpL m ds)))) env2
    | none => False
  | _ => False
theorem c_stpM (ha : PV X B Wx a wa) (he : PO X (some e) (tO X B Wx we)) : PV X B Wx (.Subscript a (.Slice none none (some e) p3) pos) (wStpM wa we) := by
  refine ⟨fun pins s σ H Q I ⟨S, env, T, P, PX, r, hw, hP, hX⟩ => ?_⟩
  have q0 : tE X B Wx wa σ H fun vx H1 => tO X B Wx we σ H1 fun l H2 => ∃ S3 env3 w, R X.K B S3 H2 σ env3 ((vx, w) :: T) ∧ useW w env3 fun dx => match dx with
      | .tuple ds => match l with
        | some i => ∃ m : Nat, i = m ∧ 2 ≤ m ∧ P (.o (.d (.tuple (stpL m ds)))) env3
        | none => False
      | _ => False := by
    refine ⟨S, env, T, _, PX, r, hw, fun x env1 vx S1 H1 hq r1 => ?_, hX⟩
    refine ⟨S1, env1, (vx, x) :: T, _, PX, r1, hq, fun l env2 S2 H2 hq2 r2 => ?_, hX⟩
    exact ⟨S2, env2, x, r2, hq2⟩
  refine Subscript_ (thn (ha.run pins s σ H _ I q0) fun v s1 ⟨vx, H1, I1, rx, q1⟩ => ?_)
  refine wpAny_Slice (thn (po_none.run pins s1 σ H1 (fun o H2 => o = none ∧ H2 = H1) I1 ⟨rfl, rfl⟩) fun vl s2 ⟨l, H2, I2, pl, el, e2⟩ => ?_)
  subst el e2
  refine thn (po_none.run pins s2 σ H2 (fun o H3 => o = none ∧ H3 = H2) I2 ⟨rfl, rfl⟩) fun vu s3 ⟨u, H3, I3, pu, eu, e3⟩ => ?_
  subst eu e3
  refine thn (he.run pins s3 σ H3 _ I3 q1) fun vs s4 ⟨o, H4, I4, ps, q3⟩ => ?_
  have I5 : L2.Inv X pins σ H4 { s4 with heap := s4.heap.push { cls := .type "slice", data := .fields #[vl, vu, vs] } } := I4.kept (t' := s4.toks) fun b ob q => Heap.get?_push_of_some _ q
  obtain ⟨S3, env3, w, r3, q3⟩ := q3
  obtain ⟨S4, dx, r4, q4, ux⟩ := use1 r3 q3
  cases dx with
  | tuple ds =>
    cases o with
    | none => exact q4.elim
    | some i =>
      obtain ⟨m, rfl, hm, q4⟩ := q4
      obtain ⟨t, xs, rfl, hq, ra⟩ := ux.tup
      cases rx
      obtain ⟨its, rr, ht, hz⟩ := I5.tuple hq
      have hlen := rr.length
      show wpAny (model X.prog X.w) X.A (subscriptTail a (.Slice none none (some e) p3) (.ref t) (.ref s4.heap.objs.size)) (EP X pins σ Q) X.xe { s4 with heap := s4.heap.push { cls := .type "slice", data := .fields #[vl, vu, vs] } }
      refine tail_any (ops := [.ref t, .ref s4.heap.objs.size]) ht.typeIs (PyProof.Rows.slot_tuple_getitem.lookup) ?_ (by with_unfolding_all rfl)
      refine getItem_tuple_stp hm ht (Heap.IsSliceOf.new _ vl vu vs) pl pu ps ?_ (by rw [List.size_toArray]; omega)
      have hn := I5.hok.fresh (Nat.le_refl _)
      have rr2 : Vals (stpL m xs) (stpL m its) := by
        rw [stpL_js (n := its.length) hlen, stpL_js (n := its.length) rfl]
        exact vals_pick rr _
      have ra2 : RpA X.K S4 H4 (stpL m xs) (stpL m ds) := by
        rw [stpL_js (n := its.length) hlen, stpL_js (n := its.length) ((rpa_len ra).symm.trans hlen)]
        exact rpa_pick ra _
      exact ⟨.ref _, _, I5.laid (t' := s4.toks) (fun b ob q => Heap.get?_push_of_some _ q) (Nat.le_refl _) (new_tup (Nat.le_trans (stpL_le hm) hz) rr2), rfl, hP _ _ _ _ _ q4 (newTup r4 hn rfl ra2)⟩
  | _ => exact q4.elim
end
section
variable {wa we : WT} {env : Env} {ds : List D} {m : Nat}
theorem e_stpM (ha : EvU wa env (.tuple ds)) (he : Ev we env (.int (m : Int))) (hm : 2 ≤ m) : Ev (wStpM wa (oSome we)) env (.tuple (stpL m ds)) := fun PX P q => ha _ _ fun x hx => he _ _ (hx _ ⟨m, rfl, hm, q⟩)
end
end Vx
namespace Vx
open PySem PySem.Spec PySem.W PySem.Calls PyProof.Rows L2
def keysD (k : List Key) : D := .tuple (k.map keyD)
def seenO (P : Program) (w : World) (p : Addr) (xs : List (List Key × Addr × Value)) : HO :=
  .ext fun h => ∃ o es ep, h.get? p = some o ∧ o.ExactDict ∧ o.data = .dict es ep ∧ es.toList = xs.map (entryOfKey (tupleKind (mixKind P w)))
def hasK (ks : List (List Key)) (k : List Key) : Bool := ks.any fun x => decide (x = k)
theorem hasK_mem {ks : List (List Key)} {k : List Key} : hasK ks k = true ↔ k ∈ ks := by
  unfold hasK
  rw [List.any_eq_true]
  constructor
  · rintro ⟨x, hx, e⟩
    exact of_decide_eq_true e ▸ hx
  · exact fun h => ⟨k, h, decide_eq_true rfl⟩
def addK (ks : List (List Key)) (k : List Key) : List (List Key) := if hasK ks k = true then ks else ks ++ [k]
def uniqK (ks : List (List Key)) : List (List Key) := ks.foldl addK []
theorem seenO_ok {P : Program} {w : World} {H : Hp} {h : Heap} {p : Addr} {xs : List (List Key × Addr × Value)} {o : Obj} {es : Array DictEntry} {ep : Nat} (h1 : h.get? p = some o) (h2 : o.ExactDict) (h3 : o.data = .dict es ep) (h4 : es.toList = xs.map (entryOfKey (tupleKind (mixKind P w)))) :
    ObjOk P w H h p (seenO P w p xs) :=
  ⟨⟨o, es, ep, h1, h2, h3, h4⟩, ⟨o, h1⟩, fun a b ⟨o, es, ep, h1, h2⟩ k => ⟨o, es, ep, k o h1, h2⟩⟩
structure Seen (P : Program) (w : World) (K : PySem.W.Frag) (H : Hp) (p : Addr) (xs : List (List Key × Addr × Value)) : Prop where
  e : H p = some (seenO P w p xs)
  q : ∀ x ∈ xs, CqT K H x.2.1 (x.1.map kV)
  n : (xs.map (·.1)).Nodup
  m : (p == sysModules) = false
theorem rpa_keys {K : PySem.W.Frag} {S : Fz} {H : Hp} : ∀ {k : List Key} {vs : List V}, RpA K S H vs (k.map keyD) → vs = k.map kV
  | [], [], _ => rfl
  | [], _ :: _, r => nomatch r
  | _ :: _, [], r => nomatch r
  | x :: k, v :: vs, r => by
    rw [List.map_cons] at r
    cases r with
    | cons a b =>
      rw [rpa_keys b, List.map_cons]
      cases x with
      | inl i => cases a; rfl
      | inr i => cases a; rfl
theorem rpa_of_keys {K : PySem.W.Frag} {S : Fz} {H : Hp} : ∀ k : List Key, RpA K S H (k.map kV) (k.map keyD)
  | [] => .nil
  | .inl i :: k => .cons (.int i) (rpa_of_keys k)
  | .inr i :: k => .cons (.str i) (rpa_of_keys k)
theorem rp_keysD {K : PySem.W.Frag} {S : Fz} {H : Hp} {v : V} {k : List Key} (r : Rp K S H v (keysD k)) : ∃ b, v = .ref b ∧ CqT K H b (k.map kV) := by
  cases r with
  | tup c ra => rw [rpa_keys ra] at c; exact ⟨_, rfl, c⟩
section
variable {X : Cx} {pins : List (Addr × Obj)} {σ : L2.St} {H : Hp} {s : Shared} {p b : Addr} {xs : List (List Key × Addr × Value)} {k : List Key}
theorem ktup_is (I : L2.Inv X pins σ H s) (c : CqT X.K H b (k.map kV)) : (tupleKind (mixKind X.prog X.w)).is s.heap k b := by
  obtain ⟨its, rv, ⟨o, h1, h2, n, h3⟩, _⟩ := I.tuple c.sq
  exact ⟨o, its.toArray, n, h1, h2, h3, by simpa using items_are rv⟩
theorem Seen.dict (I : L2.Inv X pins σ H s) (sn : Seen X.prog X.w X.K H p xs) : s.heap.DictOfH (tupleKind (mixKind X.prog X.w)) p xs := by
  obtain ⟨⟨o, es, ep, h1, h2, h3, h4⟩, _⟩ := (show ObjOk X.prog X.w H s.heap p (seenO X.prog X.w p xs) from I.hok p _ sn.e)
  exact ⟨o, es, ep, h1, h2, h3, h4, fun x hx => ktup_is I (sn.q x hx), sn.n⟩
theorem cq_upd {o u : HO} {K : PySem.W.Frag} {vs : List V} (e : H p = some u) (hu : fixedO u = false) (c : CqT K H b vs) : CqT K (upd H p o) b vs :=
  c.kp (S := fun _ => False) (S' := fun _ => False) (Kp.putO e hu id)
theorem stored_keys {v : Value} (hn : (xs.map (·.1)).Nodup) : (storedH xs k b v).map (·.1) = addK (xs.map (·.1)) k := by
  unfold storedH addK
  have e : (atKey xs k).isSome = true ↔ k ∈ xs.map (·.1) := by
    unfold atKey
    rw [Option.isSome_map, List.find?_isSome]
    constructor
    · rintro ⟨x, hx, e⟩
      exact List.mem_map.mpr ⟨x, hx, of_decide_eq_true e⟩
    · intro h
      obtain ⟨x, hx, e⟩ := List.mem_map.mp h
      exact ⟨x, hx, decide_eq_true e⟩
  by_cases q : (atKey xs k).isSome = true
  · rw [if_pos q, if_pos (hasK_mem.mpr (e.mp q)), List.map_map]
    refine List.map_congr_left fun x _ => ?_
    show (putAt k v x).1 = x.1
    unfold putAt
    split <;> rfl
  · rw [if_neg q, if_neg (fun z => q (e.mpr (hasK_mem.mp z))), List.map_append]
    rfl
theorem stored_mem {v : Value} {x : List Key × Addr × Value} (h : x ∈ storedH xs k b v) : (∃ y ∈ xs, y.1 = x.1 ∧ y.2.1 = x.2.1) ∨ (x.1 = k ∧ x.2.1 = b) := by
  unfold storedH at h
  split at h
  · obtain ⟨y, hy, e⟩ := List.mem_map.mp h
    unfold putAt at e
    split at e
    · subst e; exact .inl ⟨y, hy, rfl, rfl⟩
    · subst e; exact .inl ⟨y, hy, rfl, rfl⟩
  · rcases List.mem_append.mp h with h | h
    · exact .inl ⟨x, h, rfl, rfl⟩
    · rw [List.mem_singleton.mp h]; exact .inr ⟨rfl, rfl⟩
theorem seen_set {A : Around} {E : Value → Shared → Prop} {Q : Unit → Shared → Prop} {u : Value} (hu : A.units + 1 < cLine) (I : L2.Inv X pins σ H s) (sn : Seen X.prog X.w X.K H p xs) (c : CqT X.K H b (k.map kV)) (hz : xs.length ≤ sizeLine)
    (h : ∀ s' ys, L2.Inv X pins σ (upd H p (seenO X.prog X.w p ys)) s' → Seen X.prog X.w X.K (upd H p (seenO X.prog X.w p ys)) p ys → ys.map (·.1) = addK (xs.map (·.1)) k → Q () s') :
    wpAny (model X.prog X.w) A (setItem (.ref p) (.ref b) u) Q E s := by
  refine wpAny_setItem_heap (hsz := hz) (tupleKind_room_in1 hu) (ktup_is I c) (sn.dict I) fun h' dd' hs => ?_
  obtain ⟨q, es, ep, hq, h2, h3, h4, _, h5⟩ := dd'
  have hk := stored_keys (k := k) (b := b) (v := u) sn.n
  refine h _ (storedH xs k b u) (d_write I (by rw [sn.e]; exact True.intro) hs ⟨q, hq⟩ (seenO_ok hq h2 h3 h4)) ⟨upd_same, fun x hx => ?_, h5, sn.m⟩ hk
  rcases stored_mem hx with ⟨y, hy, e1, e2⟩ | ⟨e1, e2⟩
  · rw [← e1, ← e2]; exact cq_upd sn.e rfl (sn.q y hy)
  · rw [e1, e2]; exact cq_upd sn.e rfl c
def tSeen0 (X : Cx) : TE := fun _ H Q => ∀ p, H p = none → (p == sysModules) = false → Q (.ref p) (upd H p (seenO X.prog X.w p []))
theorem pe_seen0 {pos : Pos} : PE X (.Dict [] [] pos) (tSeen0 X) := ⟨fun pins s σ H Q I h =>
  wpAny_Dict_empty ⟨.ref s.heap.objs.size, _, I.laid (a := s.heap.objs.size) (o := seenO X.prog X.w s.heap.objs.size []) (t' := s.toks) (fun _ _ q => Heap.get?_push_of_some _ q) (Nat.le_refl _) (seenO_ok (Heap.get?_push_size _ rfl) ⟨rfl, rfl, rfl⟩ rfl rfl), rfl,
    h _ (I.hok.fresh (Nat.le_refl _)) (beq_eq_false_iff_ne.mpr (Ne.symm (Nat.ne_of_lt I.big)))⟩⟩
def sSeenPut (X : Cx) (i j : Nat) : TS := fun D σ H => ∃ p b k xs, σ[i]? = some (some (.ref p)) ∧ σ[j]? = some (some (.ref b)) ∧ CqT X.K H b (k.map kV) ∧ Seen X.prog X.w X.K H p xs ∧ xs.length ≤ sizeLine ∧
  ∀ ys, Seen X.prog X.w X.K (upd H p (seenO X.prog X.w p ys)) p ys → ys.map (·.1) = addK (xs.map (·.1)) k → D.nx σ (upd H p (seenO X.prog X.w p ys))
theorem ps_seenPut {i j : Nat} {o e value : Expr} {pos pos' : Pos} (hu : X.A.units + 1 < cLine) (ho : PE X o (tVar i)) (hi : PE X e (tVar j)) (hv : PE X value (tC (.bl true))) (hs : swapsWith value (some (.Subscript o e pos')) pos.line X.env = pure false) :
    PS X (.Assign [.Subscript o e pos'] value pos) (sSeenPut X i j) := by
  refine ⟨fun pins s σ H D I ⟨p, b, k, xs, e1, e2, c, sn, hz, q⟩ => ?_⟩
  refine wpAny_Assign_Subscript (thn (hv.run pins s σ H (fun v H1 => H1 = H) I rfl) fun r s1 ⟨v, H1, I1, rv, z1⟩ => ?_) hs
  subst z1
  refine thn (ho.run pins s1 σ _ (fun v H2 => H2 = H1 ∧ v = .ref p) I1 ⟨_, e1, rfl, rfl⟩) fun u s2 ⟨x, H2, I2, rx, z2, z3⟩ => ?_
  subst z2 z3
  refine thn (hi.run pins s2 σ _ (fun v H3 => H3 = H2 ∧ v = .ref b) I2 ⟨_, e2, rfl, rfl⟩) fun iv s3 ⟨y, H3, I3, ry, z4, z5⟩ => ?_
  subst z4 z5
  obtain rfl : u = Value.ref p := rx
  obtain rfl : iv = Value.ref b := ry
  exact seen_set hu I3 sn c hz fun s4 ys I4 sn4 hk => ⟨σ, _, I4, q ys sn4 hk⟩
end
end Vx
namespace Vx
open PySem PySem.W PySem.Calls PyProof.Rows L2
section
variable {X : Cx} {k : Nat} {fa : Addr} {fd : FuncData} {ps : List Str} {sp : Sp}
theorem seen_keys {X : Cx} {s : Shared} {p : Addr} {ts : List (List Key × Addr × Value)} {es : Array DictEntry} (h4 : es.toList = ts.map (entryOfKey (tupleKind (mixKind X.prog X.w)))) {acc : Array Value} (ha : ItemsOf (fun i v => ∃ hi : i < es.size, v = es[i].key) acc es.size) :
    Vals (ts.map fun t => V.ref t.2.1) acc.toList := by
  have e : acc.toList = ts.map fun t => Value.ref t.2.1 := by
    have hes : es.size = ts.length := by rw [← Array.length_toList, h4, List.length_map]
    refine List.ext_getElem (by rw [Array.length_toList, ha.1, hes, List.length_map]) fun i h1 h2 => ?_
    have h1' : i < acc.size := by simpa using h1
    obtain ⟨hi, hv⟩ := ha.2 i acc[i] (by rw [Array.getElem?_eq_getElem h1'])
    rw [Array.getElem_toList, hv, List.getElem_map]
    have h3 : es.toList[i]'(by simpa using hi) = entryOfKey (tupleKind (mixKind X.prog X.w)) (ts[i]'(by omega)) := by
      simp only [h4, List.getElem_map]
    rw [Array.getElem_toList] at h3
    rw [h3]
    rfl
  rw [e]
  clear e h4 ha
  induction ts with
  | nil => exact Paired.nil
  | cons t ts ih => exact Paired.cons rfl ih
theorem sortKD_run (F : FnV X.prog X.w X.K X.mg X.base k fa fd ps sp) (hr : Room k X.A.in1.in1) (hgd : X.A.in1.in1.guards = some []) (hb : Binds X.K fd ps []) (hcalm : X.calm = true)
    {pins : List (Addr × Obj)} {s : Shared} {σ : L2.St} {H : Hp} {Q : VK} {p : Addr} {ts : List (List Key × Addr × Value)} (I : L2.Inv X pins σ H s) (sn : Seen X.prog X.w X.K H p ts) (hz : ts.length ≤ sizeLine) {kz : List PyData} (hlen : kz.length = ts.length) (hkz : KzS kz) (hu : ∀ d, d ∈ kz → X.A.units + 2 + d.depth < cLine)
    (J : Nat → Hp → List V → Prop) (j0 : J 0 H [])
    (step : ∀ i x H' ks, (ts.map fun t => V.ref t.2.1)[i]? = some x → J i H' ks → sp [x] H' (fun v H'' => J (i + 1) H'' (ks ++ [v])) (fun _ _ _ => False))
    (rd : ∀ i H' ks pins' s' us, J i H' ks → L2.Inv X pins' σ H' s' → Vals ks us → EachIs (fun u d => Reads s'.heap u d []) us (kz.take i))
    (fin : ∀ H' ks a, J ts.length H' ks → H' a = none → Q (.ref a) (upd H' a (.lst ((((ts.map fun t => V.ref t.2.1).zip kz).mergeSort (dataLe false Prod.snd)).map Prod.fst)))) :
    wpAny (model X.prog X.w) X.A (call (.builtin "sorted") [.ref p] [(Str.ofString "key", .ref fa)]) (EP X pins σ Q) X.xe s := by
  obtain ⟨⟨o, es, ep, h1, h2, h3, h4⟩, _⟩ := (show ObjOk X.prog X.w H s.heap p (seenO X.prog X.w p ts) from I.hok p _ sn.e)
  have hes : es.size = ts.length := by rw [← Array.length_toList, h4, List.length_map]
  refine call_function_entry_kw kind_sorted plain_sorted entry_sorted (PyProof.Rows.ksk_s1 _ _) ?_
  unfold Builtin.«sorted»
  refine wpAny_bind (m := checkCount "sorted" 1 1 _) (wpAny_pure ?_)
  refine wpAny_bind (PySem.W.kdu_collect (A := X.A.in1) (KdlSrc.rawDict (es := es) (ep := ep) sn.m) (I.ok.hd hcalm) ⟨o, h1, h2, h3⟩ (by rw [hes]; exact hz) fun h' tk acc hk hacc => ?_)
  have rv : Vals (ts.map fun t => V.ref t.2.1) acc.toList := seen_keys (s := s) (p := p) h4 hacc
  generalize hxs : (ts.map fun t => V.ref t.2.1) = xs at *
  have hxl : xs.length = ts.length := by rw [← hxs, List.length_map]
  have hvl : xs.length = acc.toList.length := rv.length
  have I1 : L2.Inv X pins σ H { s with heap := h', toks := tk } := I.kept hk
  refine wpAny_bind (wpAny_newList ?_ (by omega))
  show wpAny _ _ _ _ _ { s with heap := h'.push (seqObj "list" acc.toList.toArray 0), toks := tk }
  have hoL : (h'.push (seqObj "list" acc.toList.toArray 0)).get? h'.objs.size = some (seqObj "list" acc.toList.toArray 0) := Heap.get?_push_size _ rfl
  have sz : (h'.push (seqObj "list" acc.toList.toArray 0)).objs.size = h'.objs.size + 1 := size_push' ..
  have hka : (h'.push (seqObj "list" acc.toList.toArray 0)).objs.size + 1 ≠ h'.objs.size := by rw [sz]; omega
  have fpa : ∀ H' : Hp, H' h'.objs.size = none → FpOk X pins H' h'.objs.size := fun H' h => I1.fpOk (Nat.le_refl _) h
  have fpk : ∀ H' : Hp, H' ((h'.push (seqObj "list" acc.toList.toArray 0)).objs.size + 1) = none → FpOk X pins H' ((h'.push (seqObj "list" acc.toList.toArray 0)).objs.size + 1) := fun H' h => I1.fpOk (by rw [sz]; show h'.objs.size ≤ _; omega) h
  have nocell : ∀ {xs : Array Value} {n : Nat} {v : Option Value}, (seqObj "list" xs n).data ≠ .cell v := fun h => by cases h
  refine wpAny_bind (wpAny_holding (wpAny_call_entry_kw slot_list_sort ⟨_, hoL, rfl⟩ entry_list_sort ?body (PyProof.Rows.ksk_l1 _ _)))
  case body =>
    show wpAny (model X.prog X.w) X.A.in1.in1 (Builtin.«list.sort» ⟨[.ref h'.objs.size], _⟩) _ _ _
    refine wpAny_mono (Q := fun f s' => f = .done (.ret .none) ∧ EP X pins σ Q (.ref h'.objs.size) s') ?_ (fun f s' hf => ?_) (fun _ _ e => e)
    rotate_left
    · obtain ⟨rfl, hq⟩ := hf
      exact ⟨_, rfl, wpAny_pure ⟨_, rfl, hq⟩⟩
    rw [PyProof.Rows.ksk_t1]
    refine srt_tree (vs := acc.toList) (kz := kz) (b := false) hoL (by omega) (by omega) hkz (fun d hd => by have := hu d hd; show X.A.units + 1 + 1 + d.depth < cLine; omega)
      (fun e1 i s' => ∃ H' ks kA e, L2.Inv X (pins ++ [(h'.objs.size, seqObj "list" #[] e1), ((h'.push (seqObj "list" acc.toList.toArray 0)).objs.size + 1, seqObj "list" kA e)]) σ H' s' ∧ J i H' ks ∧ Vals ks kA.toList) ?hI ?h0 ?turn ?hfin
    case hI =>
      rintro e1 i s' ⟨H', ks, kA, e, I', j, r⟩
      refine ⟨kA, e, (I'.pin (_, _) (List.mem_append_right _ (List.mem_append_right _ (List.mem_cons_of_mem _ List.mem_cons_self)))).1, (I'.pin (_, _) (List.mem_append_right _ (List.mem_append_right _ List.mem_cons_self))).1, ?_⟩
      exact rd i H' ks _ s' _ j I' r
    case h0 =>
      intro e1 he
      have kp : ∀ b o, h'.get? b = some o → (sortingHeap (h'.push (seqObj "list" acc.toList.toArray 0)) h'.objs.size acc.toList).get? b = some o := fun b o q =>
        sortingHeap_old (Nat.ne_of_lt (Heap.lt_size q)) (Heap.get?_push_of_some _ q)
      have I0 := I1.kept (t' := tk) (h' := sortingHeap (h'.push (seqObj "list" acc.toList.toArray 0)) h'.objs.size acc.toList) kp
      have hk : (sortingHeap (h'.push (seqObj "list" acc.toList.toArray 0)) h'.objs.size acc.toList).get? ((h'.push (seqObj "list" acc.toList.toArray 0)).objs.size + 1) = some (seqObj "list" #[] 0) := by
        unfold sortingHeap
        have e : (h'.push (seqObj "list" acc.toList.toArray 0)).objs.size + 1 = (((h'.push (seqObj "list" acc.toList.toArray 0)).update h'.objs.size (Obj.mapSeq fun _ => #[])).push (seqObj "tuple" acc.toList.toArray 0)).objs.size := by simp only [size_push', Heap.size_update]
        rw [e]
        exact Heap.get?_push_size _ rfl
      have ha := fpa H (I1.hok.fresh (Nat.le_refl _))
      have hk2 := fpk H (I1.hok.fresh (by rw [sz]; show h'.objs.size ≤ _; omega))
      refine ⟨H, [], #[], 0, I0.pins_of fun q hq => ?_, j0, Paired.nil⟩
      rcases List.mem_append.mp hq with hq | hq
      · exact I0.pin q (List.mem_append_right _ hq)
      · rcases List.mem_cons.mp hq with rfl | hq
        · exact ⟨he, ha.1, ha.2.1, ha.2.2.1, fun v => nocell⟩
        · rw [List.mem_singleton.mp hq]
          exact ⟨hk, hk2.1, hk2.2.1, hk2.2.2.1, fun v => nocell⟩
    case turn =>
      rintro e1 i v d hv hd s' kA e ⟨H', ks, kA', e', I', j, r⟩ hk
      have ma : ∀ {kB : Array Value} {eB : Nat}, (h'.objs.size, seqObj "list" #[] e1) ∈ X.pn ++ (pins ++ [(h'.objs.size, seqObj "list" #[] e1), ((h'.push (seqObj "list" acc.toList.toArray 0)).objs.size + 1, seqObj "list" kB eB)]) := List.mem_append_right _ (List.mem_append_right _ List.mem_cons_self)
      have mk : ∀ {kB : Array Value} {eB : Nat}, ((h'.push (seqObj "list" acc.toList.toArray 0)).objs.size + 1, seqObj "list" kB eB) ∈ X.pn ++ (pins ++ [(h'.objs.size, seqObj "list" #[] e1), ((h'.push (seqObj "list" acc.toList.toArray 0)).objs.size + 1, seqObj "list" kB eB)]) := List.mem_append_right _ (List.mem_append_right _ (List.mem_cons_of_mem _ List.mem_cons_self))
      have hkk : some (seqObj "list" kA' e') = some (seqObj "list" kA e) := by rw [← (I'.pin _ mk).1]; exact hk
      have hi : i < acc.toList.length := (List.getElem?_eq_some_iff.mp hv).1
      obtain ⟨v', hv', rx⟩ := rv.get (i := i) (x := xs[i]'(by omega)) (List.getElem?_eq_getElem _)
      rw [hv] at hv'
      cases hv'
      have r2 : Vals ([xs[i]'(by omega)] ++ []) ([v] ++ []) := Paired.cons rx Paired.nil
      have hst := step i _ H' ks (List.getElem?_eq_getElem (by omega)) j
      have hl2 : ([v] ++ [] : List Value).length = ps.length := F.len _ _ _ _ hst
      refine wpAny_call (codeAny_mono (F.run X.A.in1.in1 X.stack s' H' ⟨[v], []⟩ ([v] ++ []) _ _ _ hr hgd I'.env0.in1.in1 (hb s' [v] I'.kIn hl2) r2 hst) fun res s'' hq => ?_)
      cases res with
      | error ex =>
        obtain ⟨_, _, _, _, _, _, _, _, _, _, _, _, hE⟩ := (show L2N.CX X.prog X.w X.stack H' s' (fun _ _ _ => False) ex s'' from hq)
        exact hE.elim
      | ok fl =>
        cases fl with
        | next => exact False.elim hq
        | brk => exact False.elim hq
        | cont => exact False.elim hq
        | ret u =>
          obtain ⟨w, H'', I'', ru, jn⟩ := I'.after hq
          have pk := I''.pin _ mk
          have pa := I''.pin _ ma
          refine ⟨by rw [pk.1]; exact hkk, ?_⟩
          have s1 := Heap.SameBut.update s''.heap ((h'.push (seqObj "list" acc.toList.toArray 0)).objs.size + 1) (Obj.mapSeq (·.push u))
          obtain ⟨c2, hc2⟩ : ∃ c2, (s''.heap.update ((h'.push (seqObj "list" acc.toList.toArray 0)).objs.size + 1) (Obj.mapSeq (·.push u))).get? ((h'.push (seqObj "list" acc.toList.toArray 0)).objs.size + 1) = some (seqObj "list" (kA'.push u) c2) := ⟨_, get?_update_seq pk.1 (·.push u)⟩
          have I3 := (I''.unpinned).turnedL (t' := s''.toks) (h' := s''.heap.update ((h'.push (seqObj "list" acc.toList.toArray 0)).objs.size + 1) (Obj.mapSeq (·.push u))) (ch := [(h'.push (seqObj "list" acc.toList.toArray 0)).objs.size + 1]) (fun b o hb q => (s1.2 b (fun z => hb (by simp [z]))).trans q) (fun b hb => by rw [List.mem_singleton.mp hb]; exact fpk H'' pk.2.1)
          refine ⟨H'', ks ++ [w], kA'.push u, c2, I3.pins_of fun q hq => ?_, jn, ?_⟩
          · rcases List.mem_append.mp hq with hq | hq
            · exact I3.pin q (List.mem_append_right _ hq)
            · rcases List.mem_cons.mp hq with rfl | hq
              · exact ⟨(s1.2 _ hka.symm).trans pa.1, pa.2⟩
              · rw [List.mem_singleton.mp hq]
                exact ⟨hc2, pk.2.1, pk.2.2.1, pk.2.2.2.1, fun v => nocell⟩
          · rw [Array.toList_push]
            exact r.append (Paired.cons ru Paired.nil)
    case hfin =>
      rintro e1 s' h2' tk2 out c ⟨H', ks, kA, e, I', j, r⟩ hk hD ko
      refine ⟨rfl, ?_⟩
      have pa := I'.pin (h'.objs.size, seqObj "list" #[] e1) (List.mem_append_right _ (List.mem_append_right _ List.mem_cons_self))
      have pk := I'.pin ((h'.push (seqObj "list" acc.toList.toArray 0)).objs.size + 1, seqObj "list" kA e) (List.mem_append_right _ (List.mem_append_right _ (List.mem_cons_of_mem _ List.mem_cons_self)))
      have I2 := (I'.unpinned).turnedL (t' := tk2) (h' := h2') (ch := [(h'.push (seqObj "list" acc.toList.toArray 0)).objs.size + 1, h'.objs.size]) (fun b o hb q => hk b o (fun z => hb (by simp [z])) (fun z => hb (by simp [z])) q) (fun b hb => by
        rcases List.mem_cons.mp hb with rfl | hb
        · exact fpk H' pk.2.1
        · rw [List.mem_singleton.mp hb]; exact fpa H' pa.2.1)
      have hzip : (xs.zip kz).map Prod.snd = kz := List.map_snd_zip (by omega)
      have eo := keyedOutC_each (rev := false) (R := fun u (q : V × PyData) => RelV q.1 u) (bs := xs.zip kz) Prod.snd (by rw [hzip]; exact ko) (each_two (vals_each rv) (by omega))
      have hvals := each_vals (f := Prod.fst) eo
      have hol : (((xs.zip kz).mergeSort (dataLe false Prod.snd)).map Prod.fst).length ≤ sizeLine := by
        rw [List.length_map, (List.mergeSort_perm _ _).length_eq, List.length_zip]; omega
      have I3 := I2.take (t' := tk2) (it := h'.objs.size) (o := .lst (((xs.zip kz).mergeSort (dataLe false Prod.snd)).map Prod.fst)) (h' := h2') (fun b ob _ q => q) (fpa H' pa.2.1) ⟨hol, out, c, hvals, hD⟩
      rw [← hvl, hxl] at j
      exact ⟨.ref _, _, I3, rfl, fin H' ks _ j pa.2.1⟩
end
end Vx
namespace Vx
open PySem PySem.Spec PySem.W PySem.Calls L2
structure KzOk (F : FSem) (ds kz : List D) : Prop where
  l : kz.length = ds.length
  f : ∀ (i : Nat) (d c : D), ds[i]? = some d → kz[i]? = some c → ∀ (P : O → List O → Prop) (PX : Exn → List O → Prop), P (.d c) [.d d] → F [.d d] P PX
  z : KzS kz
def seqAt0 (env : Env) (ds : List D) : Prop := env[0]? = some (some (.d (.list ds))) ∨ env[0]? = some (some (.d (.tuple ds))) ∨ ∃ a, env[0]? = some (some (.lst a (ds.map .d)))
def wSeen (F : FSem) : WS := fun _ env k => ∃ (ks : List (List Key)) (kz : List D), seqAt0 env (ks.map keysD) ∧ ks.length ≤ 1000000 ∧ env.length = 3 ∧ KzOk F ((uniqK ks).map keysD) kz ∧
  k.rt (.o (.d (.tuple (sortK ((uniqK ks).map keysD) kz)))) ((env.set 1 none).set 2 none)
section
variable {K : PySem.W.Frag} {B : Bs} {S : Fz} {H : Hp} {σ : L2.St} {env : Env} {T : List (V × W)}
theorem R.loosen {i : Nat} (r : R K B S H σ env T) : R K B S H σ (env.set i none) T := by
  have hc : ∀ b, cntE b (env.set i none) ≤ cntE b env := fun b => by
    by_cases hi : i < env.length
    · have := cntE_set (b := b) (y := none) (List.getElem?_eq_getElem hi)
      have h0 : cntO b none = 0 := rfl
      omega
    · rw [List.set_eq_of_length_le (by omega)]; exact Nat.le_refl _
  refine ⟨by rw [List.length_set]; exact r.len, fun j o e => ?_, r.tmps, fun b => ?_, fun b hb => ?_, r.sH, r.keep, r.dom, fun b hb => r.new b ?_, r.newS, r.sub⟩
  · by_cases z : i = j
    · subst z
      by_cases hi : i < env.length
      · rw [List.getElem?_set_self hi] at e; cases e
      · rw [List.set_eq_of_length_le (by omega), List.getElem?_eq_none (by omega)] at e; cases e
    · rw [List.getElem?_set_ne z] at e
      exact r.slots j o e
  · have := r.one b; have := hc b; omega
  · have := r.apart b hb; have := hc b; omega
  · have := hc b; omega
theorem R.reslot {i : Nat} {v : Option V} (r : R K B S H σ env T) (h : env[i]? = some none) : R K B S H (σ.set i v) env T := by
  refine ⟨by rw [List.length_set]; exact r.len, fun j o e => ?_, r.tmps, r.one, r.apart, r.sH, r.keep, r.dom, r.new, r.newS, r.sub⟩
  by_cases z : i = j
  · subst z; rw [h] at e; cases e
  · obtain ⟨w, h1, h2⟩ := r.slots j o e
    exact ⟨w, by rw [List.getElem?_set_ne z]; exact h1, h2⟩
theorem R.putX {p : Addr} {u o : HO} (r : R K B S H σ env T) (e : H p = some u) (hu : fixedO u = false) (hs : ¬ S p) (h0 : cntE p env + cntT p T = 0) (hB : B.H p = none) : R K B S (upd H p o) σ env T := by
  refine r.heap (Kp.putO e hu hs) (fun a ha => ?_) (fun a o' h1 _ h2 => ?_) fun a h => ?_
  · refine upd_ne fun z => ?_
    subst z; omega
  · refine (upd_ne fun z => ?_).trans h2
    subst z; rw [hB] at h1; cases h1
  · by_cases z : a = p
    · subst z; rw [upd_same] at h; cases h
    · rw [upd_ne z] at h; exact h
theorem sqL_upd {p a : Addr} {u o : HO} {vs : List V} (e : H p = some u) (hn : ∀ ob xs, u ≠ .frz ob (.lst xs)) (hn2 : ∀ xs, u ≠ .lst xs) (h : SqL K H a vs) : SqL K (upd H p o) a vs := by
  rcases h with (h | ⟨ob, h⟩) | h
  · exact .inl (.inl (by rw [upd_ne (ne_of h e fun z => hn2 _ z.symm)]; exact h))
  · exact .inl (.inr ⟨ob, by rw [upd_ne (ne_of h e fun z => hn _ _ z.symm)]; exact h⟩)
  · exact .inr h
theorem sqT_upd {p a : Addr} {u o : HO} {vs : List V} (e : H p = some u) (hn : ∀ ob xs, u ≠ .frz ob (.tup xs)) (hn2 : ∀ xs, u ≠ .tup xs) (h : SqT K H a vs) : SqT K (upd H p o) a vs := by
  rcases h with (h | ⟨ob, h⟩) | h
  · exact .inl (.inl (by rw [upd_ne (ne_of h e fun z => hn2 _ z.symm)]; exact h))
  · exact .inl (.inr ⟨ob, by rw [upd_ne (ne_of h e fun z => hn _ _ z.symm)]; exact h⟩)
  · exact .inr h
end
theorem addK_len {ks : List (List Key)} {k : List Key} : (addK ks k).length ≤ ks.length + 1 := by
  unfold addK; split
  · omega
  · simp
theorem foldl_addK_len : ∀ (l acc : List (List Key)), (l.foldl addK acc).length ≤ acc.length + l.length
  | [], acc => by simp
  | k :: l, acc => by
    rw [List.foldl_cons, List.length_cons]
    have := foldl_addK_len l (addK acc k)
    have := addK_len (ks := acc) (k := k)
    omega
theorem uniqK_len (ks : List (List Key)) : (uniqK ks).length ≤ ks.length := by
  have := foldl_addK_len ks []
  unfold uniqK; simpa using this
theorem uniqK_snoc (ks : List (List Key)) (k : List Key) : uniqK (ks ++ [k]) = addK (uniqK ks) k := by unfold uniqK; rw [List.foldl_append]; rfl
section
variable {X : Cx} {B : Bs} {Wx : WX} {k : Nat} {fa : Addr} {fd : FuncData} {ps : List Str} {F : FSem}
theorem sortSeen_run (Fn : FnV X.prog X.w X.K X.mg X.base k fa fd ps (spV X.K X.mg 1 F)) (hr : Room k X.A.in1.in1) (hgd : X.A.in1.in1.guards = some []) (hb : Binds X.K fd ps []) (hu : X.A.units + 64 < cLine) (hcalm : X.calm = true)
    {pins : List (Addr × Obj)} {s : Shared} {σ : L2.St} {H : Hp} {Q : VK} {S : Fz} {env : Env} {T : List (V × W)} {p : Addr} {ts : List (List Key × Addr × Value)} {kz : List D}
    (I : L2.Inv X pins σ H s) (r : R X.K B S H σ env T) (sn : Seen X.prog X.w X.K H p ts) (hz : ts.length ≤ 1000000) (hk : KzOk F ((ts.map (·.1)).map keysD) kz)
    (hQ : ∀ v S' H' a, R X.K B S' H' σ env ((v, .o (.lst a ((sortK ((ts.map (·.1)).map keysD) kz).map .d))) :: T) → Q v H') :
    wpAny (model X.prog X.w) X.A (call (.builtin "sorted") [.ref p] [(Str.ofString "key", .ref fa)]) (EP X pins σ Q) X.xe s := by
  have hlz : kz.length = ts.length := by rw [hk.l, List.length_map, List.length_map]
  have rs : RpA X.K S H (ts.map fun t => V.ref t.2.1) ((ts.map (·.1)).map keysD) := by
    rw [List.map_map]
    exact rpa_map fun t ht => Rp.tup (sn.q t ht) (rpa_of_keys t.1)
  generalize hds : (ts.map (·.1)).map keysD = ds at *
  have hxl : (ts.map fun t => V.ref t.2.1).length = ds.length := rpa_len rs
  have hdl : ds.length = ts.length := by rw [← hxl, List.length_map]
  refine sortKD_run Fn hr hgd hb hcalm I sn (by rw [sizeLine_eq]; omega) hlz hk.z (fun c hc => by have := (hk.z.n c hc).2; omega)
    (fun i H' ks => ∃ S', Kp S S' H H' ∧ R X.K B S' H' σ env T ∧ RpA X.K S' H' ks (kz.take i)) ⟨S, Kp.refl, r, by rw [List.take_zero]; exact .nil⟩ ?_ ?_ ?_
  · rintro i x H' ks hx ⟨S', kp, r', rk⟩
    have hi : i < (ts.map fun t => V.ref t.2.1).length := (List.getElem?_eq_some_iff.mp hx).1
    obtain ⟨d, hd⟩ : ∃ d, ds[i]? = some d := ⟨_, List.getElem?_eq_getElem (by omega)⟩
    obtain ⟨c, hc⟩ : ∃ c, kz[i]? = some c := ⟨_, List.getElem?_eq_getElem (by omega)⟩
    have rx : Rp X.K S' H' x d := (rpa_zip rs (x, d) (List.mem_of_getElem? (i := i) (List.getElem?_zip_eq_some.mpr ⟨hx, hd⟩))).kp kp
    have r1 : R X.K B S' H' σ env ([(x, .o (.d d))] ++ T) := r'.push rx
    have hnd : (lentAt (([(x, W.o (.d d))] : List (V × W)).map (·.2))).Nodup := by simp [lentAt]
    obtain ⟨ow, _, rz⟩ := r1.lent (Z := [(x, .o (.d d))]) (os := [.d d]) rfl hnd
    refine ⟨S', [.d d], fun o os' => o = .d c ∧ os' = [.d d], fun _ _ => False, rfl, rfl, rfl, rz, ow, hk.f i d c hd hc _ _ ⟨rfl, rfl⟩, ?_, fun _ _ _ _ _ _ h => h.elim⟩
    rintro o os' w S2 H2 ⟨rfl, rfl⟩ hlen z
    have r2 := R.back (Z := [(x, .o (.d d))]) (os := [.d d]) (os' := [.d d]) (env' := env) (N := [(w, .o (.d c))]) r1 rfl hnd rfl hlen z
    have kp2 : Kp S' S2 H' H2 := RZ.kp z (fun a h => absurd h (by simp [O.cntL, O.cnt])) (fun a _ => rfl) r'.sH
    have rw2 : Rp X.K S2 H2 w c := by
      have := r2.tmps (w, .o (.d c)) List.mem_cons_self
      cases this with
      | d h => exact h
    refine ⟨S2, kp.trans kp2, r2.pop, ?_⟩
    rw [List.take_add_one, hc]
    exact rpa_snoc (RpA.kp kp2 rk) rw2
  · rintro i H' ks pins' s' us' ⟨S', _, _, rk⟩ I' rv'
    exact each_reads I' rk (fun c hc => (hk.z.n c (List.mem_of_mem_take hc)).1) rv'
  · rintro H' ks q ⟨S', kp, r', _⟩ hp
    have rso := sortK_rp (kz := kz) (RpA.kp kp rs) (by omega)
    exact hQ _ _ _ q (R.newLst (P := []) r' hp (OwnA.of_data rso) fun b => by
      have : ∀ zs : List D, O.cntL b (zs.map O.d) = 0 := by
        intro zs
        induction zs with
        | nil => rfl
        | cons z zs ih => show 0 + O.cntL b (zs.map O.d) = 0; rw [ih]
      rw [this]; exact Nat.zero_le _)
def tSortSeen (X : Cx) (B : Bs) (F : FSem) (i : Nat) : TE := fun σ H Q => ∃ p ts kz S env T, σ[i]? = some (some (.ref p)) ∧ R X.K B S H σ env T ∧ Seen X.prog X.w X.K H p ts ∧ ts.length ≤ 1000000 ∧ KzOk F ((ts.map (·.1)).map keysD) kz ∧
  ∀ v S' H' a, R X.K B S' H' σ env ((v, .o (.lst a ((sortK ((ts.map (·.1)).map keysD) kz).map .d))) :: T) → Q v H'
theorem pe_sortSeen {i : Nat} {x fx : Str} {np p2 kp pos : Pos} {e : Expr} (Fn : FnV X.prog X.w X.K X.mg X.base k fa fd ps (spV X.K X.mg 1 F)) (hr : Room (k + 2) X.A) (hgd : X.A.guards = some []) (hb : Binds X.K fd ps []) (hcalm : X.calm = true)
    (hg : Gl X x) (hm : X.mg x = none) (hv : bootBuiltins x = some (.builtin "sorted")) (hgf : Gl X fx) (hmf : X.mg fx = some (.ref fa)) (ha : PE X e (tVar i)) (hn : x ≠ "__name__") (hd : (x == ("__debug__" : Str)) = false) (hdf : (fx == ("__debug__" : Str)) = false)
    (hst : starEach [e] X.env = (false, eval e X.env) :: starEach [] X.env)
    (he : backTo pos (starEach [e] X.env) = (false, eval e X.env) :: backTo pos (starEach [] X.env)) (hpl : (backTo pos (starEach [e] X.env)).any (·.1) = false)
    (hall : (backToKw pos (keywordEach [⟨some (Str.ofString "key"), .Name fx p2, kp⟩] X.env)).all (·.1.isSome) = true) (hnone : (backToKw pos (keywordEach [⟨some (Str.ofString "key"), .Name fx p2, kp⟩] X.env)).any (·.1.isNone) = false) (hks : (backToKw pos (keywordEach [⟨some (Str.ofString "key"), .Name fx p2, kp⟩] X.env)).filterMap (·.1) = [Str.ofString "key"]) :
    PE X (.Call (.Name x np) [e] [⟨some (Str.ofString "key"), .Name fx p2, kp⟩] pos) (tSortSeen X B F i) := by
  refine ⟨fun pins s σ H Q I ⟨p, ts, kz, S, env, T, e1, r, sn, hz, hkz, hQ⟩ => ?_⟩
  have hk : PK X [⟨some (Str.ofString "key"), .Name fx p2, kp⟩] (tCons (tC (.ref fa)) tNil) := pk_cons (pe_gc hgf hmf (show RelV (.ref fa) (.ref fa) from rfl) hdf) pk_nil
  have hpa : PA X [e] (tCons (tVar i) tNil) := pa_cons ha pa_nil hst
  refine wpAny_Call_Name_kw (ld_blt I hg hm hv ?_ hn hd)
  refine PyProof.Rows.callWith_kw (thn (hpa.run pos pins s σ H (fun vs H1 => vs = [.ref p] ∧ H1 = H) I ⟨_, e1, rfl, rfl⟩) fun us s1 ⟨vs, H1, I1, r1, q1, q0⟩ => ?_) he hpl hall hnone
  subst q1 q0
  refine thn (hk.run pos pins s1 σ _ (fun zs H2 => zs = [.ref fa] ∧ H2 = H1) I1 ⟨rfl, rfl⟩) fun ws s2 ⟨zs, H2, I2, r2, q2, q3⟩ => ?_
  rw [hks]
  subst q2 q3
  rw [Vals.ref1 r2, Vals.ref1 r1]
  exact sortSeen_run Fn (Room.in1 (Room.in1 hr)) (show X.A.guards = some [] from hgd) hb hr.units hcalm I2 r sn hz hkz hQ
def tTupOf (X : Cx) (te : TE) : TE := fun σ H Q => te σ H fun v H1 => ∃ p ys, v = .ref p ∧ SqL X.K H1 p ys ∧ ∀ l o, H1 l = none → o.dict = none → Q (.ref l) (upd H1 l (.frz o (.tup ys)))
theorem pe_tupOf {te : TE} {x : Str} {np pos : Pos} {e : Expr} (h : PE X e te) (hg : Gl X x) (hm : X.mg x = none) (hv : bootBuiltins x = some (.type "tuple")) (hn : x ≠ "__name__") (hd : (x == ("__debug__" : Str)) = false)
    (he : starEach [e] X.env = (false, eval e X.env) :: starEach [] X.env) (hpl : (backTo pos (starEach [] X.env)).any (·.1) = false) : PE X (.Call (.Name x np) [e] [] pos) (tTupOf X te) := by
  refine ⟨fun pins s σ H Q I q => ?_⟩
  have hpa : PA X [e] (tCons te tNil) := pa_cons h pa_nil he
  refine wpAny_Call_Name_kw (ld_blt I hg hm hv (PyProof.Rows.callWith_type1 (thn (hpa.run pos pins s σ H (fun vs H1 => ∃ p ys, vs = [.ref p] ∧ SqL X.K H1 p ys ∧ ∀ l o, H1 l = none → o.dict = none → Q (.ref l) (upd H1 l (.frz o (.tup ys)))) I ?_) fun us s1 ⟨vs, H1, I1, rv, p, ys, e1, sq, q1⟩ => ?_) he hpl) hn hd)
  · refine (?_ : te σ H _)
    have : (fun v H1 => ∃ p ys, v = V.ref p ∧ SqL X.K H1 p ys ∧ ∀ l o, H1 l = none → o.dict = none → Q (.ref l) (upd H1 l (.frz o (.tup ys)))) = fun x H1 => tNil σ H1 fun xs H2 => ∃ p ys, x :: xs = [V.ref p] ∧ SqL X.K H2 p ys ∧ ∀ l o, H2 l = none → o.dict = none → Q (.ref l) (upd H2 l (.frz o (.tup ys))) := by
      funext v H1
      unfold tNil
      simp
    rw [← this]
    exact q
  · subst e1
    exact call_tupleC pins s1 σ H1 _ us Q I1 rv ⟨p, ys, rfl, .inl ⟨sq, q1⟩⟩
end
end Vx
namespace Vx
open PySem PySem.Spec PySem.W PySem.Calls L2
theorem roomU {k : Nat} {A : Around} (h : Room k A) : A.units + 1 < cLine := by have := h.units; omega
section
variable {X : Cx} {B : Bs} {Wx : WX} {F : FSem}
theorem seq_slot0 {S : Fz} {H : Hp} {σ : L2.St} {env : Env} {T : List (V × W)} {ds : List D} {K : PySem.W.Frag} (r : R K B S H σ env T) (h : seqAt0 env ds) :
    ∃ a vs, σ[0]? = some (some (.ref a)) ∧ RpA K S H vs ds ∧ (SqL K H a vs ∨ SqT K H a vs) := by
  rcases h with h | h | ⟨a, h⟩
  · obtain ⟨v, e, q⟩ := r.slots 0 _ h
    cases q with
    | d q =>
      cases q with
      | lst f ra => exact ⟨_, _, e, ra, .inl f.sq⟩
  · obtain ⟨v, e, q⟩ := r.slots 0 _ h
    cases q with
    | d q =>
      cases q with
      | tup f ra => exact ⟨_, _, e, ra, .inr f.sq⟩
  · obtain ⟨v, e, q⟩ := r.slots 0 _ h
    cases q with
    | obj e2 _ ow => exact ⟨_, _, e, ow.data, .inl (.inl (.inl e2))⟩
theorem seen_loop {S : Fz} {H : Hp} {σ : L2.St} {env : Env} {T : List (V × W)} {p : Addr} {ks : List (List Key)} {vs : List V} {P : Hp → Prop} {J : L2.It} {D : L2.Ends}
    (hJ : ∀ i H, P H → i < vs.length → J.go i H) (hY : ∀ i H x H', P H → J.yld i H x H' → H' = H ∧ vs[i]? = some x) (hS : ∀ i H, P H → vs.length ≤ i → J.stop i H)
    (hP : ∀ H o ts, H p = some (seenO X.prog X.w p ts) → P H → P (upd H p o))
    (hl : ks.length ≤ 1000000) (h3 : env.length = 3) (e2 : env[2]? = some none)
    (r : R X.K B S H σ env T) (p0 : P H) (ra : RpA X.K S H vs (ks.map keysD)) (e1 : σ[1]? = some (some (.ref p))) (sn : Seen X.prog X.w X.K H p []) (hsp : ¬ S p) (hc : cntE p env + cntT p T = 0) (hB : B.H p = none)
    (fin : ∀ σ' H' xs, R X.K B S H' σ' env T → σ'[1]? = some (some (.ref p)) → Seen X.prog X.w X.K H' p xs → xs.map (·.1) = uniqK ks → D.nx σ' H') :
    ∃ Wv : Nat → Nat → L2.St → Hp → Prop, (∃ m, Wv 0 m σ H) ∧ ∀ i m σ H, Wv i m σ H → (J.stop i H ∧ D.nx σ H) ∨ (J.go i H ∧ ∃ N : L2.St → Hp → Prop, (∀ σ' H', N σ' H' → ∃ m', m' < m ∧ Wv (i + 1) m' σ' H') ∧ ∀ x H', J.yld i H x H' → gName 2 x σ H' fun σ2 H2 => tSeq (sSeenPut X 1 2) tNext { D with nx := N, ct := N, bk := D.nx } σ2 H2) := by
  have hvl : vs.length = ks.length := by rw [rpa_len ra, List.length_map]
  refine ⟨fun i m σ H => ∃ xs, R X.K B S H σ env T ∧ P H ∧ RpA X.K S H vs (ks.map keysD) ∧ m = vs.length - i ∧ i ≤ vs.length ∧ σ[1]? = some (some (.ref p)) ∧ Seen X.prog X.w X.K H p xs ∧ xs.map (·.1) = uniqK (ks.take i), ⟨_, [], r, p0, ra, rfl, Nat.zero_le _, e1, sn, by rw [List.take_zero]; rfl⟩, ?_⟩
  rintro i m σ H ⟨xs, r, p0, ra, rfl, hi, e1, sn, hk⟩
  by_cases hlt : i < vs.length
  · refine .inr ⟨hJ i H p0 hlt, fun σ' H' => ∃ xs, R X.K B S H' σ' env T ∧ P H' ∧ RpA X.K S H' vs (ks.map keysD) ∧ σ'[1]? = some (some (.ref p)) ∧ Seen X.prog X.w X.K H' p xs ∧ xs.map (·.1) = uniqK (ks.take (i + 1)),
      fun σ' H' ⟨xs, a1, a2, a3, a4, a5, a6⟩ => ⟨vs.length - (i + 1), by omega, xs, a1, a2, a3, rfl, hlt, a4, a5, a6⟩, fun x H' hy => ?_⟩
    obtain ⟨rfl, hx⟩ := hY i H x H' p0 hy
    obtain ⟨d, hd, rx⟩ := ra.get hx
    have hik : i < ks.length := by omega
    rw [List.getElem?_map, List.getElem?_eq_getElem hik] at hd
    cases hd
    obtain ⟨b, rfl, c⟩ := rp_keysD rx
    have hs3 : σ.length = 3 := by rw [← r.len, h3]
    show tSeq (sSeenPut X 1 2) tNext _ (σ.set 2 (some (.ref b))) H'
    have hxl : xs.length ≤ 1000000 := by
      have h1 : (xs.map (·.1)).length ≤ (ks.take i).length := by rw [hk]; exact uniqK_len _
      rw [List.length_map, List.length_take] at h1
      omega
    refine ⟨p, b, ks[i], xs, by rw [List.getElem?_set_ne (by decide)]; exact e1, by rw [List.getElem?_set_self (by omega)], c, sn, by rw [sizeLine_eq]; omega, fun ys sn' hk' => ?_⟩
    have k1 : Kp S S H' (upd H' p (seenO X.prog X.w p ys)) := Kp.putO sn.e rfl hsp
    refine ⟨ys, (R.putX (r.reslot (i := 2) (v := some (.ref b)) e2) sn.e rfl hsp hc hB), hP _ _ _ sn.e p0, RpA.kp k1 ra, by rw [List.getElem?_set_ne (by decide)]; exact e1, sn', ?_⟩
    rw [hk', hk, List.take_add_one, List.getElem?_eq_getElem hik]
    exact (uniqK_snoc _ _).symm
  · refine .inl ⟨hS i H p0 (by omega), fin σ H xs r e1 sn ?_⟩
    rw [hk, List.take_of_length_le (by omega)]
theorem z_seen {st1 st2 st3 : Stmt} (h1 : PS X st1 (tAsg (tSeen0 X) (gName 1))) (h2 : PS X st2 (tFor (iSeq X.K (tVar 0)) (gName 2) (tSeq (sSeenPut X 1 2) tNext))) (h3 : PS X st3 (tRet (tTupOf X (tSortSeen X B F 1)))) :
    SS X B Wx [st1, st2, st3] (wSeen F) := by
  refine PSs_imp (pss_cons h1 (pss_cons h2 (pss_cons h3 pss_nil))) fun D σ H ⟨S, env, T, k, PX, r, ⟨ks, kz, hs, hl, hn, hk, hq⟩, hE, hX⟩ => ?_
  intro p hp hm
  show tFor (iSeq X.K (tVar 0)) (gName 2) (tSeq (sSeenPut X 1 2) tNext) _ (σ.set 1 (some (.ref p))) (upd H p (seenO X.prog X.w p []))
  have hsl : σ.length = 3 := by rw [← r.len, hn]
  have r1 : R X.K B S (upd H p (seenO X.prog X.w p [])) (σ.set 1 (some (.ref p))) ((env.set 1 none).set 2 none) T :=
    R.reslot (((r.alloc hp).loosen (i := 1)).loosen (i := 2)) (by rw [List.getElem?_set_ne (by decide), List.getElem?_set_self (by omega)])
  have hs' : seqAt0 ((env.set 1 none).set 2 none) (ks.map keysD) := by
    unfold seqAt0
    rw [List.getElem?_set_ne (by decide), List.getElem?_set_ne (by decide)]
    exact hs
  obtain ⟨a, vs, e0, ra, hsq⟩ := seq_slot0 r1 hs'
  have e1 : (σ.set 1 (some (V.ref p)))[1]? = some (some (.ref p)) := by rw [List.getElem?_set_self (by omega)]
  have hsp : ¬ S p := fun z => r.sH p z hp
  have hc : cntE p ((env.set 1 none).set 2 none) + cntT p T = 0 := by
    have h0 := (r.loosen (i := 1)).loosen (i := 2) |>.fresh hp
    exact h0
  have hB : B.H p = none := r.dom p hp
  have sn : Seen X.prog X.w X.K (upd H p (seenO X.prog X.w p [])) p [] := ⟨upd_same, (fun x hx => nomatch hx), List.nodup_nil, hm⟩
  have last : ∀ σ' H' xs, R X.K B S H' σ' ((env.set 1 none).set 2 none) T → σ'[1]? = some (some (.ref p)) → Seen X.prog X.w X.K H' p xs → xs.map (·.1) = uniqK ks → tSeq (tRet (tTupOf X (tSortSeen X B F 1))) tNext D σ' H' := by
    intro σ' H' xs r' e1 sn hk2
    have hxl : xs.length ≤ 1000000 := by
      have h1 : (xs.map (·.1)).length ≤ ks.length := by rw [hk2]; exact uniqK_len _
      rw [List.length_map] at h1
      omega
    refine ⟨p, xs, kz, S, _, T, e1, r', sn, hxl, by rw [hk2]; exact hk, fun v S2 H2 b r2 => ?_⟩
    rw [hk2] at r2
    have q := r2.tmps (v, .o (.lst b _)) List.mem_cons_self
    have q : OwnR X.K S2 H2 v (.lst b ((sortK ((uniqK ks).map keysD) kz).map .d)) := q
    cases q with
    | obj e3 _ ow =>
      exact ⟨b, _, rfl, .inl (.inl e3), fun l o hl hd => hE.rt _ _ _ _ _ _ hq (newTup r2.pop hl hd ow.data)⟩
  refine ⟨_, e0, ?_⟩
  rcases hsq with hsq | hsq
  · refine .inl ⟨a, rfl, ⟨vs, hsq⟩, ?_⟩
    exact seen_loop (P := fun H => SqL X.K H a vs) (fun i H q hi => ⟨vs, vs[i], q, List.getElem?_eq_getElem hi⟩) (fun i H x H' q y => ⟨y.1, y.2 vs q⟩) (fun i H q hi => ⟨vs, q, hi⟩)
      (fun H o ts e q => sqL_upd e (fun _ _ z => nomatch z) (fun _ z => nomatch z) q) hl (by rw [List.length_set, List.length_set]; exact hn) (by rw [List.getElem?_set_self (by rw [List.length_set]; omega)]) r1 hsq ra e1 sn hsp hc hB last
  · refine .inr ⟨a, rfl, ⟨vs, hsq⟩, ?_⟩
    exact seen_loop (P := fun H => SqT X.K H a vs) (fun i H q hi => ⟨vs, vs[i], q, List.getElem?_eq_getElem hi⟩) (fun i H x H' q y => ⟨y.1, y.2 vs q⟩) (fun i H q hi => ⟨vs, q, hi⟩)
      (fun H o ts e q => sqT_upd e (fun _ _ z => nomatch z) (fun _ z => nomatch z) q) hl (by rw [List.length_set, List.length_set]; exact hn) (by rw [List.getElem?_set_self (by rw [List.length_set]; omega)]) r1 hsq ra e1 sn hsp hc hB last
end
end Vx
namespace Vx
open PySem PySem.Spec L2
section
variable {PX : Exn → Env → Prop} {P : W → Env → Prop} {env : Env} {wa wb wc wd : WT} {F : FSem}
theorem v_obj {i : Nat} {a : Addr} {kd : Kd} {xs : List O} (h : env[i]? = some (some (.obj a kd xs))) (q : P (.al a i []) env) : wVar i PX env P := by
  unfold wVar
  simp only [h]
  exact q
theorem w_ix (h : wa PX env fun x env1 => wb PX env1 fun y env2 => itemW x y env2 fun w => P w env2) : wIx wa wb PX env P := h
theorem w_call1 (h : wa PX env fun x env1 => callV (ar 1 F) [x] env1 P PX) : wCall (ar 1 F) (aCons wa aNil) PX env P := h
theorem w_call2 (h : wa PX env fun x env1 => wb PX env1 fun y env2 => callV (ar 2 F) [x, y] env2 P PX) : wCall (ar 2 F) (aCons wa (aCons wb aNil)) PX env P := h
theorem w_call3 (h : wa PX env fun x env1 => wb PX env1 fun y env2 => wc PX env2 fun z env3 => callV (ar 3 F) [x, y, z] env3 P PX) : wCall (ar 3 F) (aCons wa (aCons wb (aCons wc aNil))) PX env P := h
theorem w_bin {op : Bop} (h : wa PX env fun x env1 => wb PX env1 fun y env2 => useW x env2 fun dx => useW y env2 fun dy => bopW op dx dy fun o => P (.o o) env2) : wBin op wa wb PX env P := h
theorem w_tup {wl : WA} (h : wl PX env fun l env1 => inWs l env1 fun os env2 => os.length ≤ sizeLine ∧ match datas os with
  | some ds => P (.o (.d (.tuple ds))) env2
  | none => P (.o (.tup os)) env2) : wTup wl PX env P := h
theorem a_cs {we : WT} {ws : WA} {Q : List W → Env → Prop} (h : we PX env fun w env1 => ws PX env1 fun l env2 => Q (w :: l) env2) : aCons we ws PX env Q := h
theorem w_frzC (h : wa PX env fun x env1 => escW x env1 fun d env2 => P (.o (.d d)) env2) : wFrz wa PX env P := h
theorem w_frzO {i : Nat} {b : Addr} {ds : List D} (he : env[i]? = some (some (.lst b (ds.map .d)))) (q : P (.o (.d (.list ds))) (env.set i (some (.d (.list ds))))) : wFrz (wVar i) PX env P := by
  refine w_frzC (v_own he ?_)
  have ee : envAt env i [] = some (.lst b (ds.map .d)) := by unfold envAt; simp only [he]; rfl
  unfold escW
  simp only [ee]
  refine ⟨trivial, ?_⟩
  rw [envPut_eq he, toD_lst]
  exact q
theorem use_bin {op : Bop} {x y v : D} {e1 e2 : Env} {Q : O → Prop} (h : BopV op x y v) (q : Q (.d v)) : useW (.o (.d x)) e1 fun dx => useW (.o (.d y)) e2 fun dy => bopW op dx dy Q := h Q q
theorem w_cmp {op : Cop} (h : wa PX env fun x env1 => wb PX env1 fun y env2 => useW x env2 fun dx => useW y env2 fun dy => cmpW op dx dy fun t => P (.o (.d (.bool t))) env2) : wCmp op wa wb PX env P := h
theorem use_cmp {op : Cop} {x y : D} {t : Bool} {e1 e2 : Env} {Q : Bool → Prop} (h : CmpV op x y t) (q : Q t) : useW (.o (.d x)) e1 fun dx => useW (.o (.d y)) e2 fun dy => cmpW op dx dy Q := h Q q
theorem escO {x : O} {Q : D → Env → Prop} (q : Q x.toD env) : escW (.o x) env Q := q
theorem tst_t {b : Bool} {Q : Bool → Prop} (q : Q b) : tst (.o (.d (.bool b))) Q := q
theorem e_orT {p : Bool} (h : Ev wa env (.bool p)) (hp : p = true) : Ev (wOr wa wb) env (.bool true) := by
  subst hp
  exact Ev.to (e_or (q := true) h fun h => by cases h) rfl
theorem e_orF {p q : Bool} (h : Ev wa env (.bool p)) (hp : p = false) (h2 : Ev wb env (.bool q)) : Ev (wOr wa wb) env (.bool q) := by
  subst hp
  exact Ev.to (e_or h fun _ => h2) rfl
theorem e_andT {p q : Bool} (h : Ev wa env (.bool p)) (hp : p = true) (h2 : Ev wb env (.bool q)) : Ev (wAnd wa wb) env (.bool q) := by
  subst hp
  exact Ev.to (e_and h fun _ => h2) rfl
theorem e_neg {i : Int} (h : Ev wa env (.int i)) : Ev (wNeg wa) env (.int (-i)) := fun PX P q => h _ _ q
theorem r_ifT {wc : WT} {ux u : WS} {p : Bool} {v : D} (hc : Ev wc env (.bool p)) (hp : p = true) (ha : Rt ux env v) : Rt (sCons (sIf wc ux sNil) u) env v := by
  subst hp
  exact Rt.to (r_if (y := v) hc (fun _ => ha) fun h => by cases h) rfl
theorem r_ifF {wc : WT} {ux u : WS} {p : Bool} {v : D} (hc : Ev wc env (.bool p)) (hp : p = false) (hb : Rt u env v) : Rt (sCons (sIf wc ux sNil) u) env v := by
  subst hp
  exact Rt.to (r_if (x := v) hc (fun h => by cases h) fun _ => hb) rfl
theorem callV_1 {i : Nat} {a : Addr} {kd : Kd} {xs : List O} {R : O → List O → Prop} (he : env[i]? = some (some (.obj a kd xs)))
    (h : ∀ (Q : O → List O → Prop) (QX : Exn → List O → Prop), (∀ r xs', R r xs' → Q r [.obj a kd xs']) → F [.obj a kd xs] Q QX) (q : ∀ r xs', R r xs' → P (.o r) (env.set i (some (.obj a kd xs')))) : callV (ar 1 F) [.al a i []] env P PX := by
  have e : envAt env i [] = some (.obj a kd xs) := by unfold envAt; simp only [he]; rfl
  unfold callV
  simp only [lendW, e]
  refine ⟨trivial, rfl, rfl, h _ _ fun r xs' hr => ?_⟩
  simp only [giveBackW]
  refine ⟨trivial, ?_⟩
  rw [envPut_eq he]
  exact q r xs' hr
theorem callV_2 {i : Nat} {a : Addr} {kd : Kd} {xs : List O} {d : D} {R : O → List O → Prop} (he : env[i]? = some (some (.obj a kd xs)))
    (h : ∀ (Q : O → List O → Prop) (QX : Exn → List O → Prop), (∀ r xs', R r xs' → Q r [.obj a kd xs', .d d]) → F [.obj a kd xs, .d d] Q QX) (q : ∀ r xs', R r xs' → P (.o r) (env.set i (some (.obj a kd xs')))) : callV (ar 2 F) [.al a i [], .o (.d d)] env P PX := by
  have e : envAt env i [] = some (.obj a kd xs) := by unfold envAt; simp only [he]; rfl
  unfold callV
  simp only [lendW, e]
  refine ⟨trivial, rfl, by simp [lentAt], rfl, h _ _ fun r xs' hr => ?_⟩
  simp only [giveBackW]
  refine ⟨trivial, ?_⟩
  rw [envPut_eq he]
  exact q r xs' hr
theorem callV_3 {i : Nat} {a : Addr} {kd : Kd} {xs : List O} {d d2 : D} {R : O → List O → Prop} (he : env[i]? = some (some (.obj a kd xs)))
    (h : ∀ (Q : O → List O → Prop) (QX : Exn → List O → Prop), (∀ r xs', R r xs' → Q r [.obj a kd xs', .d d, .d d2]) → F [.obj a kd xs, .d d, .d d2] Q QX) (q : ∀ r xs', R r xs' → P (.o r) (env.set i (some (.obj a kd xs')))) : callV (ar 3 F) [.al a i [], .o (.d d), .o (.d d2)] env P PX := by
  have e : envAt env i [] = some (.obj a kd xs) := by unfold envAt; simp only [he]; rfl
  unfold callV
  simp only [lendW, e]
  refine ⟨trivial, rfl, rfl, by simp [lentAt], rfl, h _ _ fun r xs' hr => ?_⟩
  simp only [giveBackW]
  refine ⟨trivial, ?_⟩
  rw [envPut_eq he]
  exact q r xs' hr
end
section
variable {w wa wb wc we : WT} {wl : WA} {env : Env} {x y z v : D} {ds vs : List D} {p q : Bool} {i j : Nat} {u ux uy : WS} {r s : Oc}
def EvX (w : WT) (env : Env) (r : Oc) : Prop := ∀ (PX : Exn → Env → Prop) (P : W → Env → Prop), (match r with
  | .inl v => P (.o (.d v)) env
  | .inr ex => PX ex env) → w PX env P
theorem EvX.to (h : EvX w env r) (e : r = s) : EvX w env s := by subst e; exact h
end
end Vx
namespace Vx
open PySem PySem.Spec L2
def wIdxL (wo : WT) (wl : WA) : WT := fun PX env P => wo PX env fun t env1 => match t with
  | .al a i p => listAt env1 i p a ∧ wl PX env1 fun ws env2 => useWs (ws ++ [t]) env2 fun es => match es with
    | [.str x, .list ds] => onSome (strsOf ds) fun ns => x ∈ ns ∧ P (.o (.d (.int ((ns.idxOf x : Nat) : Int)))) env2
    | _ => False
  | _ => False
theorem idx_before {x : Str} : ∀ {ns : List Str} {m : Nat} {y : Str}, m < ns.idxOf x → ns[m]? = some y → y ≠ x
  | [], m, y, h, e => by simp at e
  | n :: ns, m, y, h, e => by
    by_cases q : n = x
    · rw [q, List.idxOf_cons_self] at h; omega
    · have q2 : (n == x) = false := by simpa using q
      rw [List.idxOf_cons, q2] at h
      cases m with
      | zero => simp at e; rw [← e]; exact q
      | succ m => exact idx_before (ns := ns) (x := x) (m := m) (by have h : m + 1 < ns.idxOf x + 1 := h; omega) (by simpa using e)
section
variable {X : Cx} {B : Bs} {Wx : WX} {o e : Expr} {wo : WT} {wl : WA}
theorem c_idxL {cpos apos : Pos} (ho : PV X B Wx o wo) (ha : SndA X B Wx [e] wl) (hbase : attributeBase o "index" X.env (eval o X.env) = eval o X.env)
    (hfew : ((backTo cpos (starEach [e] X.env)).all (fun x => !x.1) && (backToKw cpos (keywordEach [] X.env)).all (fun x => x.1.isSome) && decide ([e].length + ([] : List Keyword).length + (if ([] : List Keyword).isEmpty then 0 else 1) < 30)) = true)
    (hline : (apos.endLine == cpos.line) = true) (hs : starEach [e] X.env = (false, eval e X.env) :: starEach [] X.env) (hplain : (backTo cpos (starEach [] X.env)).any (·.1) = false) :
    PV X B Wx (.Call (.Attribute o "index" apos) [e] [] cpos) (wIdxL wo wl) := by
  refine PE_imp (pe_bm PySem.F.plainAttrs_list PySem.F.slot_list_index PySem.F.type_list_index mt_index ho ha hbase hfew hline hs hplain) fun σ H Q ⟨S, env, T, P, PX, r, hw, hP, hX⟩ => ?_
  refine ⟨S, env, T, _, PX, r, hw, fun t env1 vt S1 H1 hq r1 => ?_, hX⟩
  cases t with
  | o _ => exact hq.elim
  | al a i p =>
    have et : vt = .ref a := r1.tmps (vt, .al a i p) List.mem_cons_self
    subst et
    obtain ⟨hat, hq⟩ := hq
    refine ⟨?_, ?_⟩
    · unfold listAt at hat
      cases ee : envAt env1 i p with
      | none => simp only [ee] at hat
      | some y =>
        simp only [ee] at hat
        cases y with
        | d _ => exact hat.elim
        | tup _ => exact hat.elim
        | obj b k xs =>
          cases k with
          | dct _ => exact hat.elim
          | ins _ _ _ _ => exact hat.elim
          | dctL _ _ => exact hat.elim
          | lst =>
            have hat : b = a := hat
            subst hat
            obtain ⟨vs, hv, _⟩ := r1.seenAt ee
            exact .inl ⟨rfl, vs, .inl (.inl hv)⟩
    · refine ⟨S1, env1, (.ref a, .al a i p) :: T, _, PX, r1, hq, fun env2 Z S2 H2 h2 r2 => ?_, hX⟩
      have e1 : Z ++ (V.ref a, W.al a i p) :: T = (Z ++ [(V.ref a, W.al a i p)]) ++ T := by simp
      rw [e1] at r2
      have e2 : Z.map (·.2) ++ [W.al a i p] = (Z ++ [(V.ref a, W.al a i p)]).map (·.2) := by simp
      have h2 : useWs (Z.map (·.2) ++ [W.al a i p]) env2 _ := h2
      rw [e2] at h2
      obtain ⟨S3, es, r3, q, ud⟩ := r2.usedAll h2
      have r4 := r3.pops
      rw [List.map_append] at ud
      match es, ud, q with
      | [.str x, .list ds], ud, q =>
        obtain ⟨ns, hns, hx, q⟩ := onSome_some q
        cases Z with
        | nil => cases ud with | cons _ u => cases u
        | cons z Z =>
          cases Z with
          | cons z2 Z =>
            cases ud with
            | cons _ u =>
              cases u with
              | cons _ u =>
                have := u
                cases Z <;> cases u
          | nil =>
            cases ud with
            | cons u1 u =>
              cases u with
              | cons u2 _ =>
                have ez : z.1 = .str x := u1.str
                obtain ⟨b, vs, eb, sq, ra⟩ := u2.list
                cases eb
                rw [strsOf_eq hns] at ra
                have ev := RpA.strs ra
                subst ev
                have hi : ns.idxOf x < ns.length := List.idxOf_lt_length_of_mem hx
                have hg : ns[ns.idxOf x]? = some x := by rw [List.getElem?_eq_getElem hi, List.getElem_idxOf hi]
                refine ⟨a, ns.map V.str, .str x, ns.idxOf x, .str x, rfl, ?_, sq, rfl, ?_, ?_, ?_, fun m z' hm hz => ?_, hP _ _ _ _ _ q (r4.push (.int _))⟩
                · show [z.1] = _; rw [ez]
                · rw [List.all_map]; exact List.all_eq_true.mpr fun _ _ => rfl
                · rw [List.getElem?_map, hg]; rfl
                · show (x == x) = true; simp
                · rw [List.getElem?_map] at hz
                  obtain ⟨y, hy, rfl⟩ := Option.map_eq_some_iff.mp hz
                  have := idx_before hm hy
                  show (y == x) = false
                  simpa using this
end
section
variable {wo wb : WT} {env : Env} {x : Str} {ns : List Str} {i : Nat} {a : Addr}
theorem e_idxL (he : env[i]? = some (some (.lst a ((ns.map PyData.str).map .d)))) (hb : Ev wb env (.str x)) (hx : x ∈ ns) : Ev (wIdxL (wVar i) (aCons wb aNil)) env (.int (ns.idxOf x : Nat)) := fun PX P q => by
  refine v_own he ?_
  have ee : envAt env i [] = some (.lst a ((ns.map PyData.str).map .d)) := by unfold envAt; simp only [he]; rfl
  refine ⟨?_, ?_⟩
  · unfold listAt
    simp only [ee]
  refine hb _ _ ?_
  have hu : ∀ Q : D → Prop, Q (.list (ns.map PyData.str)) → useW (.al a i []) env Q := fun Q z => useW_al ee (datas_map _) z
  show useW (.al a i []) env fun y => (match [PyData.str x, y] with
    | [.str x, .list ds] => onSome (strsOf ds) fun ns => x ∈ ns ∧ P (.o (.d (.int ((ns.idxOf x : Nat) : Int)))) env
    | _ => False)
  exact hu _ (onSome_mk (strsOf_map ns) ⟨hx, q⟩)
end
end Vx
namespace Vx
open PySem PySem.W PySem.Calls PyProof.Rows
inductive LtGo (A : Around) (s : Shared) : List Value → List Value → Bool → Prop
  | ends {z : Bool} {vs ws : List Value} (h : vs = [] ∨ ws = []) (hz : z = decide (vs.length < ws.length)) : LtGo A s vs ws z
  | like {z : Bool} {v w : Value} {vs ws : List Value} (h : SeqAt.EqAt A s v w true) (t : LtGo A s vs ws z) : LtGo A s (v :: vs) (w :: ws) z
  | unlike {z : Bool} {v w : Value} {vs ws : List Value} (h : SeqAt.EqAt A s v w false) (t : SeqAt.RcLt A s v w z) : LtGo A s (v :: vs) (w :: ws) z
theorem ltGo_ends {A : Around} {s : Shared} {z : Bool} {vs ws : List Value} (g : LtGo A s vs ws z) (h : vs.zip ws = []) : z = decide (vs.length < ws.length) := by
  cases g with
  | ends _ hz => exact hz
  | like => simp at h
  | unlike => simp at h
section
open PySem.SeqAt
open PySem.AutoSeq1 (wpAny_loadPart')
open PySem.MeetsSeq PySem.MeetsSeq2 PySem.MeetsSeq3
theorem tup_lt_go (a b : Addr) (va wb : Array Value) (na nb : Nat) (da db : Option Addr) (la lb : Array (Option Value)) (z : Bool) :
    Meets (Builtin.«tuple.__lt__» ⟨[.ref a, .ref b], []⟩)
      (fun A R s => s.heap.get? a = some { cls := .type "tuple", dict := da, data := .seq va na, slots := la } ∧ s.heap.get? b = some { cls := .type "tuple", dict := db, data := .seq wb nb, slots := lb } ∧
        LtGo A.in1 s va.toList wb.toList z ∧ R (.ok (.ret (.bool z))) s) :=
  .of_wp fun prog w A R s h => by
    obtain ⟨hp, g, d, tk, os⟩ := s; obtain ⟨ga, gb, hz, h⟩ := h
    have f2 := AutoSeq1.sub_tuple_tuple
    wp_walk using wpAny_loadPart' ga, wpAny_loadPart' gb, wpAny_forIn_list _ (fun rest b s' => b.1 = none ∧ s' = ⟨hp, g, d, tk, os⟩ ∧ ∃ vs ws : List Value, rest = vs.zip ws ∧ LtGo A.in1 ⟨hp, g, d, tk, os⟩ vs ws z ∧ vs.length + wb.size = ws.length + va.size) _
    case turn =>
      rintro ⟨y, x⟩ rest b s' ⟨hb', rfl, vs, ws, hc, hg, hl⟩
      cases hg with
      | ends q _ =>
        rcases q with q | q
        · subst q; rw [List.zip_nil_left] at hc; cases hc
        · subst q; rw [List.zip_nil_right] at hc; cases hc
      | like q t =>
        rw [List.zip_cons_cons] at hc
        cases hc
        refine wpAny_bind (q prog w _ _ ?_)
        wp_walk
        exact ⟨rfl, rfl, _, _, rfl, t, by simp only [List.length_cons] at hl; omega⟩
      | unlike q t =>
        rw [List.zip_cons_cons] at hc
        cases hc
        refine wpAny_bind (q prog w _ _ ?_)
        have t2 : ∀ (E : Value → Shared → Prop) (Q : Value → Shared → Prop), Q (.bool z) ⟨hp, g, d, tk, os⟩ → wpAny (model prog w) A.in1 (richCompare .Lt y x) Q E ⟨hp, g, d, tk, os⟩ := t prog w
        wp_walk using t2
        exact ⟨_, rfl, by simpa using h⟩
    case fin =>
      rintro ⟨b1, b2⟩ s' ⟨hb', rfl, vs, ws, hc, hg, hl⟩
      simp only at hb'
      subst hb'
      have e := ltGo_ends hg hc.symm
      have e2 : decide (va.size < wb.size) = z := by
        rw [e]
        exact decide_eq_decide.mpr (by omega)
      wp_walk
      exact ⟨_, rfl, by simpa [Builtin.Tuple.tupleCompareSizes, e2] using h⟩
    case h =>
      exact ⟨rfl, rfl, _, _, rfl, hz, by simp only [Array.length_toList]; omega⟩
theorem rcLt_tups {A : Around} {s : Shared} {a b : Addr} {va wb : Array Value} {z : Bool} (ha : s.heap.IsTuple a va) (hb : s.heap.IsTuple b wb) (hu : A.units < cLine) (hz : LtGo A.in1 s va.toList wb.toList z) : RcLt A s (.ref a) (.ref b) z := fun prog w E Q h => by
  obtain ⟨⟨c1, d1, t1, s1⟩, o1, e1, n1, q1⟩ := id ha
  obtain ⟨⟨c2, d2, t2, s2⟩, o2, e2, n2, q2⟩ := id hb
  simp only at e1 q1 e2 q2
  subst e1 q1 e2 q2
  exact richCompare_meets_room (op := .Lt) ⟨_, o1, rfl⟩ ⟨_, o2, rfl⟩ F.slot_tuple_lt F.entry_tuple_lt (F.args_tuple_lt_2 _ _) (tup_lt_go a b va wb n1 n2 d1 d2 s1 s2 z) ⟨o1, o2, hz, ⟨(fun x => nomatch x), h⟩⟩ hu
end
theorem ltGo_cmp {A : Around} {s : Shared} : ∀ (xs ys : List PyData) (vs ws : List Value) (as bs : List Addr), ReadsAll s.heap vs xs as → ReadsAll s.heap ws ys bs → cmpAll xs ys = true → A.units + min (PyData.depthAll xs) (PyData.depthAll ys) < cLine →
    LtGo A s vs ws (PyProof.Rows.lexLt itemOrd (keyToksAll xs) (keyToksAll ys))
  | [], [], _, _, _, _, ra, rb, _, _ => by
    cases ra
    cases rb
    rw [lex_irrefl]
    exact .ends (.inl rfl) rfl
  | [], y :: ys, _, _, _, _, ra, rb, _, _ => by
    cases ra
    cases rb
    refine .ends (.inl rfl) ?_
    rw [toks_all_cons]
    simp only [keyToksAll]
    rw [lex_diff (O := itemOrd) (by simp)]
    simp [itemLt]
  | x :: xs, [], _, _, _, _, ra, rb, _, _ => by
    cases ra
    cases rb
    refine .ends (.inr rfl) ?_
    rw [toks_all_cons]
    simp only [keyToksAll]
    rw [lex_diff (O := itemOrd) (by simp)]
    simp [itemLt]
  | x :: xs, y :: ys, _, _, _, _, ra, rb, h, hu => by
    obtain ⟨h1, h2⟩ := cmp_cons h
    cases ra with
    | cons r rs =>
      cases rb with
      | cons r' rs' =>
        have q := eqAt_alike x y A s _ _ _ _ r r' h1 (SeqAt.room_head hu)
        cases hx : PyData.eqv x y with
        | true =>
          rw [dataLt_all_yes h1 hx]
          rw [hx] at q
          exact .like q (ltGo_cmp xs ys _ _ _ _ rs rs' (h2 hx) (SeqAt.room_tail hu))
        | false =>
          rw [dataLt_all_no h1 hx]
          rw [hx] at q
          exact .unlike q (rcLt_alike x y A s _ _ _ _ r r' h1 (ne_none_of h1 hx) (SeqAt.room_head hu))
end Vx
namespace Vx
open PySem PySem.Spec L2 PyProof.Rows
structure LtOk (ds es : List D) : Prop where
  nl : ∀ d ∈ ds, NL d
  nr : ∀ d ∈ es, NL d
  cmp : cmpAll ds es = true
  dp : PyData.depthAll ds ≤ 60
def dLt (ds es : List D) : Bool := PyProof.Rows.lexLt PyProof.Rows.itemOrd (PySem.W.keyToksAll ds) (PySem.W.keyToksAll es)
def rLtN (K : PySem.W.Frag) : R2 := fun x y H Q => ∃ (S : Fz) (a b : Addr) (xs ys : List V) (ds es : List D), x = .ref a ∧ y = .ref b ∧ SqT K H a xs ∧ SqT K H b ys ∧ RpA K S H xs ds ∧ RpA K S H ys es ∧ LtOk ds es ∧ Q (.bl (dLt ds es)) H
theorem op_ltN {X : Cx} (room : X.A.units + 200 < cLine) : OpR X (compareOp .Lt) (rLtN X.K) := by
  rintro pins s σ H x y v u Q I rx ry ⟨S, a, b, xs, ys, ds, es, rfl, rfl, ha, hb, ra, rb, k, q⟩
  obtain rfl : v = Value.ref a := rx
  obtain rfl : u = Value.ref b := ry
  obtain ⟨ia, va, pa, _⟩ := I.tuple ha
  obtain ⟨ib, vb, pb, _⟩ := I.tuple hb
  have go := rcLt_tups (A := X.A) (s := s) pa pb (by omega) (ltGo_cmp ds es ia ib [] [] (rpa_reads I ra k.nl ia va) (rpa_reads I rb k.nr ib vb) k.cmp (by
    have := k.dp
    have e : X.A.in1.units ≤ X.A.units + 1 := by first | exact Nat.le_refl _ | (unfold Around.in1; simp)
    have := Nat.min_le_left (PyData.depthAll ds) (PyData.depthAll es)
    omega))
  exact go X.prog X.w X.xe (EP X pins σ Q) ⟨.bl _, H, I, rfl, q⟩
def wLtN (wa wb : WT) : WT := fun PX env P => wa PX env fun x env1 => wb PX env1 fun y env2 => useW x env2 fun dx => useW y env2 fun dy => match dx, dy with
  | .tuple ds, .tuple es => LtOk ds es ∧ P (.o (.d (.bool (dLt ds es)))) env2
  | _, _ => False
section
variable {X : Cx} {B : Bs} {Wx : WX} {a b : Expr} {wa wb : WT} {pos : Pos}
theorem ltN_step (S : Fz) (H : Hp) (σ : L2.St) (env : Env) (T : List (V × W)) (vx vy : V) (x y : W) (P : W → Env → Prop) (Q : VK) (r : R X.K B S H σ env ((vy, y) :: (vx, x) :: T))
    (h : useW x env fun dx => useW y env fun dy => match dx, dy with
      | .tuple ds, .tuple es => LtOk ds es ∧ P (.o (.d (.bool (dLt ds es)))) env
      | _, _ => False)
    (hP : ∀ x env' v S' H', P x env' → R X.K B S' H' σ env' ((v, x) :: T) → Q v H') : rLtN X.K vx vy H Q := by
  obtain ⟨S', dx, dy, r', h, ux, uy⟩ := use2 r h
  cases dx with
  | tuple ds =>
    cases dy with
    | tuple es =>
      obtain ⟨a, xs, rfl, ha, ra⟩ := ux.tup
      obtain ⟨b, ys, rfl, hb, rb⟩ := uy.tup
      exact ⟨S', a, b, xs, ys, ds, es, rfl, rfl, ha, hb, ra, rb, h.1, hP _ _ _ _ _ h.2 (r'.push (.bl _))⟩
    | _ => exact h.elim
  | _ => exact h.elim
theorem c_ltN {k : Nat} (hr : Room k X.A) (ha : PV X B Wx a wa) (hb : PV X B Wx b wb) (hm : behindInMarks .Lt b = false) : Snd X B Wx (.Compare a [.Lt] [b] pos) (wLtN wa wb) :=
  have hu : X.A.units + 200 < cLine := by have := hr.un; omega
  ⟨PE_imp (pe_cmpR (op_ltN hu) ha hb hm) fun σ H Q h => s_two ltN_step h,
   PT_imp (pt_cmpR (op_ltN hu) ha hb hm) fun σ H Q h => s_two ltN_step (tT_tE h)⟩
end
section
variable {wa wb : WT} {env : Env} {ds es : List D}
theorem e_ltN (ha : EvU wa env (.tuple ds)) (hb : EvU wb env (.tuple es)) (k : LtOk ds es) : Ev (wLtN wa wb) env (.bool (dLt ds es)) := fun PX P q =>
  ha _ _ fun x hx => hb _ _ fun y hy => hx _ (hy _ ⟨k, q⟩)
end
end Vx
namespace VL
open PySem PySem.Spec L2 Vx
/-! ### the text -/
def topS (i : Nat) : Stmt := PySem.Challenge.pw_almsrow_k39_books_in_order.main.body.getD i (.Pass ⟨0, 0, 0, 0⟩)
abbrev wNone : WT := wK .none
abbrev s__law_key : Stmt := topS 25
abbrev n__law_key : List Str := ["_law_page", "_law_kinds"]
theorem nd__law_key : List.Nodup n__law_key := by decide +kernel
theorem sc__law_key : FnScope n__law_key ["_law_page"] (defScope s__law_key) := ⟨rfl, rfl, rfl, nd__law_key, rfl, by decide +kernel, by decide +kernel⟩
abbrev s__law_draw : Stmt := topS 22
abbrev n__law_draw : List Str := ["_law_feed_here", "_law_many", "_law_found", "_law_cell", "_law_mixed"]
theorem nd__law_draw : List.Nodup n__law_draw := by decide +kernel
theorem sc__law_draw : FnScope n__law_draw ["_law_feed_here", "_law_many"] (defScope s__law_draw) := ⟨rfl, rfl, rfl, nd__law_draw, rfl, by decide +kernel, by decide +kernel⟩
abbrev s__law_some_page : Stmt := topS 24
abbrev n__law_some_page : List Str := ["_law_feed_here", "_law_names_here", "_law_day", "_law_moment", "_law_at", "_law_one", "_law_other", "_law_many", "_law_way", "_law_town", "_law_parent"]
theorem nd__law_some_page : List.Nodup n__law_some_page := by decide +kernel
theorem sc__law_some_page : FnScope n__law_some_page ["_law_feed_here", "_law_names_here"] (defScope s__law_some_page) := ⟨rfl, rfl, rfl, nd__law_some_page, rfl, by decide +kernel, by decide +kernel⟩
abbrev s__law_book : Stmt := topS 26
abbrev n__law_book : List Str := ["_law_feed_here", "_law_names_here", "_law_many", "_law_found", "_law_k", "_law_page"]
theorem nd__law_book : List.Nodup n__law_book := by decide +kernel
theorem sc__law_book : FnScope n__law_book ["_law_feed_here", "_law_names_here", "_law_many"] (defScope s__law_book) := ⟨rfl, rfl, rfl, nd__law_book, rfl, by decide +kernel, by decide +kernel⟩
abbrev s__law_feed : Stmt := topS 21
abbrev n__law_feed : List Str := ["_law_script"]
theorem nd__law_feed : List.Nodup n__law_feed := by decide +kernel
theorem sc__law_feed : FnScope n__law_feed ["_law_script"] (defScope s__law_feed) := ⟨rfl, rfl, rfl, nd__law_feed, rfl, by decide +kernel, by decide +kernel⟩
abbrev s_is_number : Stmt := topS 3
abbrev n_is_number : List Str := ["thing"]
theorem nd_is_number : List.Nodup n_is_number := by decide +kernel
theorem sc_is_number : FnScope n_is_number ["thing"] (defScope s_is_number) := ⟨rfl, rfl, rfl, nd_is_number, rfl, by decide +kernel, by decide +kernel⟩
abbrev s_is_word : Stmt := topS 4
abbrev n_is_word : List Str := ["thing", "sign"]
theorem nd_is_word : List.Nodup n_is_word := by decide +kernel
theorem sc_is_word : FnScope n_is_word ["thing"] (defScope s_is_word) := ⟨rfl, rfl, rfl, nd_is_word, rfl, by decide +kernel, by decide +kernel⟩
abbrev s_is_folk : Stmt := topS 12
abbrev n_is_folk : List Str := ["day", "rest"]
theorem nd_is_folk : List.Nodup n_is_folk := by decide +kernel
theorem sc_is_folk : FnScope n_is_folk ["day", "rest"] (defScope s_is_folk) := ⟨rfl, rfl, rfl, nd_is_folk, rfl, by decide +kernel, by decide +kernel⟩
abbrev s_is_from : Stmt := topS 6
abbrev n_is_from : List Str := ["thing", "least"]
theorem nd_is_from : List.Nodup n_is_from := by decide +kernel
theorem sc_is_from : FnScope n_is_from ["thing", "least"] (defScope s_is_from) := ⟨rfl, rfl, rfl, nd_is_from, rfl, by decide +kernel, by decide +kernel⟩
abbrev s_is_naming : Stmt := topS 13
abbrev n_is_naming : List Str := ["rest"]
theorem nd_is_naming : List.Nodup n_is_naming := by decide +kernel
theorem sc_is_naming : FnScope n_is_naming ["rest"] (defScope s_is_naming) := ⟨rfl, rfl, rfl, nd_is_naming, rfl, by decide +kernel, by decide +kernel⟩
abbrev s_is_rest : Stmt := topS 14
abbrev n_is_rest : List Str := ["kind", "day", "rest"]
theorem nd_is_rest : List.Nodup n_is_rest := by decide +kernel
theorem sc_is_rest : FnScope n_is_rest ["kind", "day", "rest"] (defScope s_is_rest) := ⟨rfl, rfl, rfl, nd_is_rest, rfl, by decide +kernel, by decide +kernel⟩
abbrev s_is_to : Stmt := topS 11
abbrev n_is_to : List Str := ["thing", "most"]
theorem nd_is_to : List.Nodup n_is_to := by decide +kernel
theorem sc_is_to : FnScope n_is_to ["thing", "most"] (defScope s_is_to) := ⟨rfl, rfl, rfl, nd_is_to, rfl, by decide +kernel, by decide +kernel⟩
abbrev s_is_page : Stmt := topS 15
abbrev n_is_page : List Str := ["thing"]
theorem nd_is_page : List.Nodup n_is_page := by decide +kernel
theorem sc_is_page : FnScope n_is_page ["thing"] (defScope s_is_page) := ⟨rfl, rfl, rfl, nd_is_page, rfl, by decide +kernel, by decide +kernel⟩
abbrev s__law_is_book : Stmt := topS 30
abbrev n__law_is_book : List Str := ["_law_thing", "_law_keys", "_law_one", "_law_page", "_law_k"]
theorem nd__law_is_book : List.Nodup n__law_is_book := by decide +kernel
theorem sc__law_is_book : FnScope n__law_is_book ["_law_thing"] (defScope s__law_is_book) := ⟨rfl, rfl, rfl, nd__law_is_book, rfl, by decide +kernel, by decide +kernel⟩
abbrev s__law_names : Stmt := topS 23
abbrev n__law_names : List Str := ["_law_feed_here", "_law_letters", "_law_at", "_law_x", "_law_y", "_law_some", "_law_more"]
theorem nd__law_names : List.Nodup n__law_names := by decide +kernel
theorem sc__law_names : FnScope n__law_names ["_law_feed_here"] (defScope s__law_names) := ⟨rfl, rfl, rfl, nd__law_names, rfl, by decide +kernel, by decide +kernel⟩
abbrev s__law_same : Stmt := topS 29
abbrev n__law_same : List Str := ["_law_found", "_law_due", "_law_kind", "_law_k"]
theorem nd__law_same : List.Nodup n__law_same := by decide +kernel
theorem sc__law_same : FnScope n__law_same ["_law_found", "_law_due"] (defScope s__law_same) := ⟨rfl, rfl, rfl, nd__law_same, rfl, by decide +kernel, by decide +kernel⟩
abbrev s__law_odd : Stmt := topS 27
abbrev n__law_odd : List Str := ["_law_feed_here", "_law_thing", "_law_some"]
theorem nd__law_odd : List.Nodup n__law_odd := by decide +kernel
theorem sc__law_odd : FnScope n__law_odd ["_law_feed_here", "_law_thing"] (defScope s__law_odd) := ⟨rfl, rfl, rfl, nd__law_odd, rfl, by decide +kernel, by decide +kernel⟩
abbrev s__law_bent : Stmt := topS 28
abbrev n__law_bent : List Str := ["_law_feed_here", "_law_thing", "_law_at", "_law_way", "_law_some"]
theorem nd__law_bent : List.Nodup n__law_bent := by decide +kernel
theorem sc__law_bent : FnScope n__law_bent ["_law_feed_here", "_law_thing"] (defScope s__law_bent) := ⟨rfl, rfl, rfl, nd__law_bent, rfl, by decide +kernel, by decide +kernel⟩
abbrev s__law_spoilt : Stmt := topS 31
abbrev n__law_spoilt : List Str := ["_law_feed_here", "_law_book_here", "_law_names_here", "_law_way", "_law_at", "_law_to", "_law_some"]
theorem nd__law_spoilt : List.Nodup n__law_spoilt := by decide +kernel
theorem sc__law_spoilt : FnScope n__law_spoilt ["_law_feed_here", "_law_book_here", "_law_names_here"] (defScope s__law_spoilt) := ⟨rfl, rfl, rfl, nd__law_spoilt, rfl, by decide +kernel, by decide +kernel⟩
abbrev s_page_place : Stmt := topS 16
abbrev n_page_place : List Str := ["page"]
theorem nd_page_place : List.Nodup n_page_place := by decide +kernel
theorem sc_page_place : FnScope n_page_place ["page"] (defScope s_page_place) := ⟨rfl, rfl, rfl, nd_page_place, rfl, by decide +kernel, by decide +kernel⟩
abbrev s_in_order : Stmt := topS 19
abbrev n_in_order : List Str := ["pages", "unlike", "page"]
theorem nd_in_order : List.Nodup n_in_order := by decide +kernel
theorem sc_in_order : FnScope n_in_order ["pages"] (defScope s_in_order) := ⟨rfl, rfl, rfl, nd_in_order, rfl, by decide +kernel, by decide +kernel⟩
abbrev s_is_book : Stmt := topS 18
abbrev n_is_book : List Str := ["thing", "one", "k"]
theorem nd_is_book : List.Nodup n_is_book := by decide +kernel
theorem sc_is_book : FnScope n_is_book ["thing"] (defScope s_is_book) := ⟨rfl, rfl, rfl, nd_is_book, rfl, by decide +kernel, by decide +kernel⟩
abbrev s_law : Stmt := topS 32
abbrev n_law : List Str := ["_law_script", "_law_feed_here", "_law_names_here", "_law_book_here", "_law_told", "_law_page", "_law_kept", "_law_found", "_law_long", "_law_things", "_law_k", "_law_thing", "_law_seen"]
theorem nd_law : List.Nodup n_law := by decide +kernel
theorem sc_law : FnScope n_law ["_law_script"] (defScope s_law) := ⟨rfl, rfl, rfl, nd_law, rfl, by decide +kernel, by decide +kernel⟩
/-! ### the meanings -/
abbrev w__law_key_1 : WS := sCons (sRet (wTup (aCons (wIx (wVar 0) (wK (.int 0))) (aCons (wIx (wVar 0) (wK (.int 1))) (aCons (wIdxL (wVar 1) (aCons (wIx (wVar 0) (wK (.int 2))) aNil)) (aCons (wSl (wVar 0) (oSome (wK (.int 3))) oNone) aNil)))))) sNil
abbrev w__law_key_0 : WS := sCons (sAsg (.v 1) (wLst (aCons (wK (.str "folk")) (aCons (wK (.str "heir")) (aCons (wK (.str "sell")) (aCons (wK (.str "away")) (aCons (wK (.str "rent")) (aCons (wK (.str "ask")) (aCons (wK (.str "name")) (aCons (wK (.str "go")) aNil)))))))))) w__law_key_1
abbrev w__law_key : WS := w__law_key_0
@[irreducible] def F__law_key : FSem := semW w__law_key 2
abbrev w__law_draw_4 : WS := sCons (sRet (wVar 2)) sNil
abbrev w__law_draw_3 : WS := sCons (sSetIx (wBin .fdiv (wIx (wVar 0) (wK (.int 2))) (wVar 1)) (wVar 0) (wK (.int 2))) w__law_draw_4
abbrev w__law_draw_2 : WS := sCons (sAsg (.v 2) (wBin .mod (wIx (wVar 0) (wK (.int 2))) (wVar 1))) w__law_draw_3
abbrev w__law_draw_9 : WS := sCons (sRet (wBin .mod (wVar 3) (wVar 1))) sNil
abbrev w__law_draw_8 : WS := sCons (sSetIx (wBin .fdiv (wVar 3) (wVar 1)) (wVar 0) (wK (.int 2))) w__law_draw_9
abbrev w__law_draw_11 : WS := sCons (sRet (wBin .mod (wBin .fdiv (wBin .mod (wBin .pow (wBin .add (wVar 4) (wBin .mul (wK (.int 7927)) (wIx (wVar 0) (wK (.int 3))))) (wK (.int 5))) (wK (.int 2147483549))) (wK (.int 8))) (wVar 1))) sNil
abbrev w__law_draw_10 : WS := sCons (sAsg (.v 4) (wBin .mod (wBin .pow (wBin .add (wBin .add (wBin .mod (wVar 3) (wK (.int 2147483629))) (wBin .mul (wK (.int 6007)) (wIx (wVar 0) (wK (.int 3))))) (wK (.int 19))) (wK (.int 5))) (wK (.int 2147483587)))) w__law_draw_11
abbrev w__law_draw_7 : WS := sCons (sIf (wAnd (wCmp .ge (wVar 3) (wBin .pow (wK (.int 10)) (wK (.int 18)))) (wCmp .le (wIx (wVar 0) (wK (.int 1))) (wPrim .len (aCons (wIx (wVar 0) (wK (.int 0))) aNil)))) w__law_draw_8 sNil) w__law_draw_10
abbrev w__law_draw_6 : WS := sCons (sSetIx (wBin .add (wIx (wVar 0) (wK (.int 1))) (wK (.int 1))) (wVar 0) (wK (.int 1))) w__law_draw_7
abbrev w__law_draw_5 : WS := sCons (sAsg (.v 3) (wIfe (wCmp .ne (wIx (wVar 0) (wK (.int 0))) (wLst aNil)) (wIx (wIx (wVar 0) (wK (.int 0))) (wBin .mod (wIx (wVar 0) (wK (.int 1))) (wPrim .len (aCons (wIx (wVar 0) (wK (.int 0))) aNil)))) (wK (.int 0)))) w__law_draw_6
abbrev w__law_draw_1 : WS := sCons (sIf (wCmp .gt (wIx (wVar 0) (wK (.int 2))) (wK (.int 0))) w__law_draw_2 sNil) w__law_draw_5
abbrev w__law_draw_0 : WS := sCons (sSetIx (wBin .add (wIx (wVar 0) (wK (.int 3))) (wK (.int 1))) (wVar 0) (wK (.int 3))) w__law_draw_1
abbrev w__law_draw : WS := w__law_draw_0
@[irreducible] def F__law_draw : FSem := semW w__law_draw 5
abbrev w__law_some_page_8 : WS := sCons (sRet (wBin .add (wVar 3) (wTup (aCons (wK (.str "folk")) (aCons (wVar 5) (aCons (wVar 9) (aCons (wBin .sub (wVar 2) (wVar 7)) (aCons (wVar 10) aNil)))))))) sNil
abbrev w__law_some_page_7 : WS := sCons (sPar [9, 10] (aCons (wIx (wLst (aCons (wK (.str "a")) (aCons (wK (.str "ab")) aNil))) (wCall (ar 2 F__law_draw) (aCons (wVar 0) (aCons (wK (.int 2)) aNil)))) (aCons (wIx (wLst (aCons (wK (.str "")) (aCons (wVar 6) aNil))) (wCall (ar 2 F__law_draw) (aCons (wVar 0) (aCons (wK (.int 2)) aNil)))) aNil))) w__law_some_page_8
abbrev w__law_some_page_10 : WS := sCons (sRet (wBin .add (wVar 3) (wTup (aCons (wK (.str "name")) (aCons (wVar 5) (aCons (wVar 7) (aCons (wIx (wLst (aCons (wVar 5) (aCons (wVar 6) aNil))) (wCall (ar 2 F__law_draw) (aCons (wVar 0) (aCons (wK (.int 2)) aNil)))) aNil))))))) sNil
abbrev w__law_some_page_12 : WS := sCons (sRet (wBin .add (wVar 3) (wTup (aCons (wIx (wLst (aCons (wK (.str "heir")) (aCons (wK (.str "sell")) aNil))) (wBin .sub (wVar 8) (wK (.int 2)))) (aCons (wVar 5) (aCons (wVar 6) aNil)))))) sNil
abbrev w__law_some_page_14 : WS := sCons (sRet (wBin .add (wVar 3) (wTup (aCons (wIx (wLst (aCons (wK (.str "ask")) (aCons (wK (.str "go")) aNil))) (wBin .sub (wVar 8) (wK (.int 4)))) (aCons (wVar 5) aNil))))) sNil
abbrev w__law_some_page_15 : WS := sCons (sRet (wBin .add (wVar 3) (wIfe (wCmp .eq (wVar 8) (wK (.int 6))) (wTup (aCons (wK (.str "away")) (aCons (wVar 5) (aCons (wBin .add (wK (.int 1)) (wVar 7)) aNil)))) (wTup (aCons (wK (.str "rent")) (aCons (wVar 7) aNil)))))) sNil
abbrev w__law_some_page_13 : WS := sCons (sIf (wCmp .lt (wVar 8) (wK (.int 6))) w__law_some_page_14 sNil) w__law_some_page_15
abbrev w__law_some_page_11 : WS := sCons (sIf (wCmp .lt (wVar 8) (wK (.int 4))) w__law_some_page_12 sNil) w__law_some_page_13
abbrev w__law_some_page_9 : WS := sCons (sIf (wCmp .eq (wVar 8) (wK (.int 1))) w__law_some_page_10 sNil) w__law_some_page_11
abbrev w__law_some_page_6 : WS := sCons (sIf (wCmp .eq (wVar 8) (wK (.int 0))) w__law_some_page_7 sNil) w__law_some_page_9
abbrev w__law_some_page_5 : WS := sCons (sAsg (.v 8) (wCall (ar 2 F__law_draw) (aCons (wVar 0) (aCons (wK (.int 8)) aNil)))) w__law_some_page_6
abbrev w__law_some_page_4 : WS := sCons (sAsg (.v 7) (wIx (wLst (aCons (wK (.int 0)) (aCons (wK (.int 1)) (aCons (wK (.int 7)) (aCons (wK (.int 100)) aNil))))) (wCall (ar 2 F__law_draw) (aCons (wVar 0) (aCons (wK (.int 4)) aNil))))) w__law_some_page_5
abbrev w__law_some_page_3 : WS := sCons (sPar [5, 6] (aCons (wIx (wVar 1) (wVar 4)) (aCons (wIx (wVar 1) (wBin .mod (wBin .add (wBin .add (wVar 4) (wK (.int 1))) (wCall (ar 2 F__law_draw) (aCons (wVar 0) (aCons (wBin .sub (wPrim .len (aCons (wVar 1) aNil)) (wK (.int 1))) aNil)))) (wPrim .len (aCons (wVar 1) aNil)))) aNil))) w__law_some_page_4
abbrev w__law_some_page_2 : WS := sCons (sAsg (.v 4) (wCall (ar 2 F__law_draw) (aCons (wVar 0) (aCons (wPrim .len (aCons (wVar 1) aNil)) aNil)))) w__law_some_page_3
abbrev w__law_some_page_1 : WS := sCons (sAsg (.v 3) (wTup (aCons (wVar 2) (aCons (wIx (wLst (aCons (wK (.int 0)) (aCons (wK (.int 1)) (aCons (wK (.int 999)) aNil)))) (wCall (ar 2 F__law_draw) (aCons (wVar 0) (aCons (wK (.int 3)) aNil)))) aNil)))) w__law_some_page_2
abbrev w__law_some_page_0 : WS := sCons (sAsg (.v 2) (wBin .add (wIx (wLst (aCons (wK (.int 0)) (aCons (wK (.int 3)) (aCons (wK (.int 3)) (aCons (wK (.int 40)) aNil))))) (wCall (ar 2 F__law_draw) (aCons (wVar 0) (aCons (wK (.int 4)) aNil)))) (wCall (ar 2 F__law_draw) (aCons (wVar 0) (aCons (wK (.int 2)) aNil))))) w__law_some_page_1
abbrev w__law_some_page : WS := w__law_some_page_0
@[irreducible] def F__law_some_page : FSem := semW w__law_some_page 11
abbrev w__law_book_4 : WS := sCons (sExpr (wAppend (wVar 3) (aCons (wVar 5) aNil))) sNil
abbrev w__law_book_3 : WS := sCons (sIf (wCmp .notIn (wVar 5) (wVar 3)) w__law_book_4 sNil) sNil
abbrev w__law_book_2 : WS := sCons (sAsg (.v 5) (wCall (ar 2 F__law_some_page) (aCons (wVar 0) (aCons (wVar 1) aNil)))) w__law_book_3
abbrev w__law_book_5 : WS := sCons (sRet (wPrim .tuple (aCons (wBlt (fSortK F__law_key) (aCons (wVar 3) aNil)) aNil))) sNil
abbrev w__law_book_1 : WS := sCons (sFor (.v 4) (iR1 (wVar 2)) w__law_book_2) w__law_book_5
abbrev w__law_book_0 : WS := sCons (sAsg (.v 3) (wLst aNil)) w__law_book_1
abbrev w__law_book : WS := w__law_book_0
@[irreducible] def F__law_book : FSem := semW w__law_book 6
abbrev w__law_feed_0 : WS := sCons (sRet (wLst (aCons (wFrz (wSl (wVar 0) oNone (oSome (wK (.int 63))))) (aCons (wK (.int 0)) (aCons (wK (.int 0)) (aCons (wK (.int 0)) aNil)))))) sNil
abbrev w__law_feed : WS := w__law_feed_0
@[irreducible] def F__law_feed : FSem := semW w__law_feed 1
abbrev w_is_number_0 : WS := sCons (sRet (wAnd (wPrim (.isi .int) (aCons (wVar 0) aNil)) (wNot (wPrim (.isi .bool) (aCons (wVar 0) aNil))))) sNil
abbrev w_is_number : WS := w_is_number_0
@[irreducible] def F_is_number : FSem := semW w_is_number 1
abbrev w_is_word_1 : WS := sCons (sRet (wK (.bool false))) sNil
abbrev w_is_word_2 : WS := sCons (sRet (wPrim .all (aCons (wComp (iS (wVar 0)) [1] (.v 1) cAll (wCmp .inn (wVar 1) (wK (.str "abcdefghijklmnopqrstuvwxyz")))) aNil))) sNil
abbrev w_is_word_0 : WS := sCons (sIf (wOr (wNot (wPrim (.isi .str) (aCons (wVar 0) aNil))) (wNot (wChain .le .le (wK (.int 1)) (wPrim .len (aCons (wVar 0) aNil)) (wK (.int 8))))) w_is_word_1 sNil) w_is_word_2
abbrev w_is_word : WS := w_is_word_0
@[irreducible] def F_is_word : FSem := semW w_is_word 2
abbrev w_is_folk_1 : WS := sCons (sRet (wK (.bool false))) sNil
abbrev w_is_folk_3 : WS := sCons (sRet (wK (.bool false))) sNil
abbrev w_is_folk_4 : WS := sCons (sRet (wOr (wCmp .eq (wIx (wVar 1) (wK (.int 3))) (wK (.str ""))) (wAnd (wCall (ar 1 F_is_word) (aCons (wIx (wVar 1) (wK (.int 3))) aNil)) (wCmp .ne (wIx (wVar 1) (wK (.int 3))) (wIx (wVar 1) (wK (.int 0))))))) sNil
abbrev w_is_folk_2 : WS := sCons (sIf (wOr (wNot (wCall (ar 1 F_is_number) (aCons (wIx (wVar 1) (wK (.int 2))) aNil))) (wOr (wCmp .gt (wIx (wVar 1) (wK (.int 2))) (wVar 0)) (wNot (wPrim (.isi .str) (aCons (wIx (wVar 1) (wK (.int 3))) aNil))))) w_is_folk_3 sNil) w_is_folk_4
abbrev w_is_folk_0 : WS := sCons (sIf (wOr (wCmp .ne (wPrim .len (aCons (wVar 1) aNil)) (wK (.int 4))) (wOr (wNot (wCall (ar 1 F_is_word) (aCons (wIx (wVar 1) (wK (.int 0))) aNil))) (wNot (wCall (ar 1 F_is_word) (aCons (wIx (wVar 1) (wK (.int 1))) aNil))))) w_is_folk_1 sNil) w_is_folk_2
abbrev w_is_folk : WS := w_is_folk_0
@[irreducible] def F_is_folk : FSem := semW w_is_folk 2
abbrev w_is_from_0 : WS := sCons (sRet (wAnd (wCall (ar 1 F_is_number) (aCons (wVar 0) aNil)) (wCmp .ge (wVar 0) (wVar 1)))) sNil
abbrev w_is_from : WS := w_is_from_0
@[irreducible] def F_is_from : FSem := semW w_is_from 2
abbrev w_is_naming_0 : WS := sCons (sRet (wAnd (wCmp .eq (wPrim .len (aCons (wVar 0) aNil)) (wK (.int 3))) (wAnd (wCall (ar 1 F_is_word) (aCons (wIx (wVar 0) (wK (.int 0))) aNil)) (wAnd (wCall (ar 2 F_is_from) (aCons (wIx (wVar 0) (wK (.int 1))) (aCons (wK (.int 0)) aNil))) (wCall (ar 1 F_is_word) (aCons (wIx (wVar 0) (wK (.int 2))) aNil)))))) sNil
abbrev w_is_naming : WS := w_is_naming_0
@[irreducible] def F_is_naming : FSem := semW w_is_naming 1
abbrev w_is_rest_1 : WS := sCons (sRet (wCall (ar 2 F_is_folk) (aCons (wVar 1) (aCons (wVar 2) aNil)))) sNil
abbrev w_is_rest_3 : WS := sCons (sRet (wCall (ar 1 F_is_naming) (aCons (wVar 2) aNil))) sNil
abbrev w_is_rest_5 : WS := sCons (sRet (wAnd (wCmp .eq (wPrim .len (aCons (wVar 2) aNil)) (wK (.int 2))) (wAnd (wCall (ar 1 F_is_word) (aCons (wIx (wVar 2) (wK (.int 0))) aNil)) (wAnd (wCall (ar 1 F_is_word) (aCons (wIx (wVar 2) (wK (.int 1))) aNil)) (wCmp .ne (wIx (wVar 2) (wK (.int 0))) (wIx (wVar 2) (wK (.int 1)))))))) sNil
abbrev w_is_rest_7 : WS := sCons (sRet (wAnd (wCmp .eq (wPrim .len (aCons (wVar 2) aNil)) (wK (.int 2))) (wAnd (wCall (ar 1 F_is_word) (aCons (wIx (wVar 2) (wK (.int 0))) aNil)) (wCall (ar 2 F_is_from) (aCons (wIx (wVar 2) (wK (.int 1))) (aCons (wK (.int 1)) aNil)))))) sNil
abbrev w_is_rest_9 : WS := sCons (sRet (wAnd (wCmp .eq (wPrim .len (aCons (wVar 2) aNil)) (wK (.int 1))) (wCall (ar 2 F_is_from) (aCons (wIx (wVar 2) (wK (.int 0))) (aCons (wK (.int 0)) aNil))))) sNil
abbrev w_is_rest_10 : WS := sCons (sRet (wAnd (wCmp .eq (wPrim .len (aCons (wVar 2) aNil)) (wK (.int 1))) (wCall (ar 1 F_is_word) (aCons (wIx (wVar 2) (wK (.int 0))) aNil)))) sNil
abbrev w_is_rest_8 : WS := sCons (sIf (wCmp .eq (wVar 0) (wK (.str "rent"))) w_is_rest_9 sNil) w_is_rest_10
abbrev w_is_rest_6 : WS := sCons (sIf (wCmp .eq (wVar 0) (wK (.str "away"))) w_is_rest_7 sNil) w_is_rest_8
abbrev w_is_rest_4 : WS := sCons (sIf (wCmp .inn (wVar 0) (wTup (aCons (wK (.str "heir")) (aCons (wK (.str "sell")) aNil)))) w_is_rest_5 sNil) w_is_rest_6
abbrev w_is_rest_2 : WS := sCons (sIf (wCmp .eq (wVar 0) (wK (.str "name"))) w_is_rest_3 sNil) w_is_rest_4
abbrev w_is_rest_0 : WS := sCons (sIf (wCmp .eq (wVar 0) (wK (.str "folk"))) w_is_rest_1 sNil) w_is_rest_2
abbrev w_is_rest : WS := w_is_rest_0
@[irreducible] def F_is_rest : FSem := semW w_is_rest 3
abbrev w_is_to_0 : WS := sCons (sRet (wAnd (wCall (ar 2 F_is_from) (aCons (wVar 0) (aCons (wK (.int 0)) aNil))) (wCmp .le (wVar 0) (wVar 1)))) sNil
abbrev w_is_to : WS := w_is_to_0
@[irreducible] def F_is_to : FSem := semW w_is_to 2
abbrev w_is_page_1 : WS := sCons (sRet (wK (.bool false))) sNil
abbrev w_is_page_3 : WS := sCons (sRet (wK (.bool false))) sNil
abbrev w_is_page_4 : WS := sCons (sRet (wCall (ar 3 F_is_rest) (aCons (wIx (wVar 0) (wK (.int 2))) (aCons (wIx (wVar 0) (wK (.int 0))) (aCons (wSl (wVar 0) (oSome (wK (.int 3))) oNone) aNil))))) sNil
abbrev w_is_page_2 : WS := sCons (sIf (wOr (wNot (wCall (ar 2 F_is_to) (aCons (wIx (wVar 0) (wK (.int 1))) (aCons (wK (.int 999)) aNil)))) (wOr (wNot (wPrim (.isi .str) (aCons (wIx (wVar 0) (wK (.int 2))) aNil))) (wCmp .notIn (wIx (wVar 0) (wK (.int 2))) (wK (.tuple [.str "folk", .str "heir", .str "sell", .str "away", .str "rent", .str "ask", .str "name", .str "go"]))))) w_is_page_3 sNil) w_is_page_4
abbrev w_is_page_0 : WS := sCons (sIf (wOr (wNot (wPrim (.isi .tuple) (aCons (wVar 0) aNil))) (wOr (wCmp .lt (wPrim .len (aCons (wVar 0) aNil)) (wK (.int 3))) (wNot (wCall (ar 2 F_is_to) (aCons (wIx (wVar 0) (wK (.int 0))) (aCons (wK (.int 99999)) aNil)))))) w_is_page_1 sNil) w_is_page_2
abbrev w_is_page : WS := w_is_page_0
@[irreducible] def F_is_page : FSem := semW w_is_page 1
abbrev w__law_is_book_1 : WS := sCons (sRet (wK (.bool false))) sNil
abbrev w__law_is_book_3 : WS := sCons (sRet (wCmp .eq (wComp (iR2 (wK (.int 1)) (wPrim .len (aCons (wVar 1) aNil))) [4] (.v 4) (cOne (wNot (wLtN (wIx (wVar 1) (wBin .sub (wVar 4) (wK (.int 1)))) (wIx (wVar 1) (wVar 4))))) (wVar 4)) (wLst aNil))) sNil
abbrev w__law_is_book_2 : WS := sCons (sAsg (.v 1) (wComp (iE (wVar 0)) [3] (.v 3) cAll (wCall (ar 1 F__law_key) (aCons (wVar 3) aNil)))) w__law_is_book_3
abbrev w__law_is_book_0 : WS := sCons (sIf (wOr (wNot (wPrim (.isi .tuple) (aCons (wVar 0) aNil))) (wCmp .ne (wComp (iE (wVar 0)) [2] (.v 2) (cOne (wNot (wCall (ar 1 F_is_page) (aCons (wVar 2) aNil)))) (wVar 2)) (wLst aNil))) w__law_is_book_1 sNil) w__law_is_book_2
abbrev w__law_is_book : WS := w__law_is_book_0
@[irreducible] def F__law_is_book : FSem := semW w__law_is_book 5
abbrev w__law_names_5 : WS := sCons (sRet (wIfe (wCmp .eq (wBin .mod (wVar 2) (wK (.int 8))) (wK (.int 0))) (wBin .add (wVar 5) (wVar 6)) (wVar 5))) sNil
abbrev w__law_names_4 : WS := sCons (sAsg (.v 6) (wLst (aCons (wBin .add (wBin .add (wVar 3) (wVar 4)) (wVar 4)) (aCons (wBin .add (wBin .add (wVar 4) (wVar 3)) (wVar 4)) (aCons (wBin .add (wBin .add (wVar 4) (wVar 4)) (wVar 3)) (aCons (wBin .mul (wVar 4) (wK (.int 3))) (aCons (wBin .mul (wVar 3) (wK (.int 3))) (aCons (wBin .mul (wVar 3) (wK (.int 8))) (aCons (wBin .mul (wVar 4) (wK (.int 8))) aNil))))))))) w__law_names_5
abbrev w__law_names_3 : WS := sCons (sAsg (.v 5) (wLst (aCons (wVar 3) (aCons (wBin .add (wVar 3) (wVar 4)) (aCons (wBin .add (wBin .add (wVar 3) (wVar 4)) (wVar 3)) (aCons (wVar 4) (aCons (wBin .add (wVar 4) (wVar 3)) (aCons (wBin .add (wVar 3) (wVar 3)) (aCons (wBin .add (wVar 4) (wVar 4)) (aCons (wBin .add (wVar 4) (wBin .mul (wVar 3) (wK (.int 7)))) (aCons (wBin .add (wBin .add (wVar 3) (wVar 3)) (wVar 4)) aNil))))))))))) w__law_names_4
abbrev w__law_names_2 : WS := sCons (sPar [3, 4] (aCons (wIx (wVar 1) (wVar 2)) (aCons (wIx (wVar 1) (wBin .mod (wBin .add (wBin .add (wVar 2) (wK (.int 1))) (wCall (ar 2 F__law_draw) (aCons (wVar 0) (aCons (wK (.int 25)) aNil)))) (wK (.int 26)))) aNil))) w__law_names_3
abbrev w__law_names_1 : WS := sCons (sAsg (.v 2) (wCall (ar 2 F__law_draw) (aCons (wVar 0) (aCons (wK (.int 26)) aNil)))) w__law_names_2
abbrev w__law_names_0 : WS := sCons (sAsg (.v 1) (wK (.str "abcdefghijklmnopqrstuvwxyz"))) w__law_names_1
abbrev w__law_names : WS := w__law_names_0
@[irreducible] def F__law_names : FSem := semW w__law_names 7
abbrev w__law_same_3 (Fr : FSem) : WS := sCons (sRet (wK (.bool false))) sNil
abbrev w__law_same_4 (Fr : FSem) : WS := sCons (sRet (wPrim .all (aCons (wComp (iR1 (wPrim .len (aCons (wVar 1) aNil))) [3] (.v 3) cAll (wCall (ar 2 Fr) (aCons (wIx (wVar 0) (wVar 3)) (aCons (wIx (wVar 1) (wVar 3)) aNil)))) aNil))) sNil
abbrev w__law_same_2 (Fr : FSem) : WS := sCons (sIf (wOr (wNot (wVar 2)) (wCmp .ne (wPrim .len (aCons (wVar 0) aNil)) (wPrim .len (aCons (wVar 1) aNil)))) (w__law_same_3 Fr) sNil) (w__law_same_4 Fr)
abbrev w__law_same_1 (Fr : FSem) : WS := sCons (sAsg (.v 2) (wIfe (wPrim (.isi .tuple) (aCons (wVar 1) aNil)) (wPrim (.isi .tuple) (aCons (wVar 0) aNil)) (wPrim (.isi .list) (aCons (wVar 0) aNil)))) (w__law_same_2 Fr)
abbrev w__law_same_6 (Fr : FSem) : WS := sCons (sRet (wCmp .is (wVar 0) wNone)) sNil
abbrev w__law_same_8 (Fr : FSem) : WS := sCons (sRet (wAnd (wPrim (.isi .str) (aCons (wVar 0) aNil)) (wCmp .eq (wVar 0) (wVar 1)))) sNil
abbrev w__law_same_10 (Fr : FSem) : WS := sCons (sRet (wAnd (wPrim (.isi .bool) (aCons (wVar 0) aNil)) (wCmp .eq (wVar 0) (wVar 1)))) sNil
abbrev w__law_same_11 (Fr : FSem) : WS := sCons (sRet (wAnd (wPrim (.isi .int) (aCons (wVar 0) aNil)) (wAnd (wNot (wPrim (.isi .bool) (aCons (wVar 0) aNil))) (wCmp .eq (wVar 0) (wVar 1))))) sNil
abbrev w__law_same_9 (Fr : FSem) : WS := sCons (sIf (wPrim (.isi .bool) (aCons (wVar 1) aNil)) (w__law_same_10 Fr) sNil) (w__law_same_11 Fr)
abbrev w__law_same_7 (Fr : FSem) : WS := sCons (sIf (wPrim (.isi .str) (aCons (wVar 1) aNil)) (w__law_same_8 Fr) sNil) (w__law_same_9 Fr)
abbrev w__law_same_5 (Fr : FSem) : WS := sCons (sIf (wCmp .is (wVar 1) wNone) (w__law_same_6 Fr) sNil) (w__law_same_7 Fr)
abbrev w__law_same_0 (Fr : FSem) : WS := sCons (sIf (wPrim (.isis [.tuple, .list]) (aCons (wVar 1) aNil)) (w__law_same_1 Fr) sNil) (w__law_same_5 Fr)
abbrev w__law_same (Fr : FSem) : WS := (w__law_same_0 Fr)
@[irreducible] def F__law_same (d : Nat) : FSem := fixF w__law_same 4 d
theorem F__law_same_s {d : Nat} : F__law_same (d + 1) = semW (w__law_same (F__law_same d)) 4 := by unfold F__law_same; rfl
abbrev w__law_odd_3 : WS := sCons (sAsg (.v 2) (wBin .add (wVar 2) (wBin .mul (wLst (aCons (wBin .add (wVar 1) (wK (.int 1))) (aCons (wBin .sub (wVar 1) (wK (.int 1))) (aCons (wBlt fStr (aCons (wVar 1) aNil)) aNil)))) (wK (.int 4))))) sNil
abbrev w__law_odd_5 : WS := sCons (sAsg (.v 2) (wBin .add (wVar 2) (wBin .mul (wLst (aCons (wBin .add (wVar 1) (wK (.str "a"))) (aCons (wSl (wVar 1) oNone (oSome (wNeg (wK (.int 1))))) (aCons (wBin .add (wVar 1) (wK (.str "A"))) (aCons (wBin .add (wVar 1) (wK (.str " "))) aNil))))) (wK (.int 4))))) sNil
abbrev w__law_odd_7 : WS := sCons (sAsg (.v 2) (wBin .add (wVar 2) (wBin .mul (wLst (aCons (wFrz (wPrim .list (aCons (wVar 1) aNil))) (aCons (wBin .add (wVar 1) (wTup (aCons wNone aNil))) (aCons (wBin .add (wVar 1) (wVar 1)) (aCons (wSl (wVar 1) oNone (oSome (wNeg (wK (.int 1))))) aNil))))) (wK (.int 4))))) sNil
abbrev w__law_odd_8 : WS := sCons (sRet (wFrz (wIx (wVar 2) (wCall (ar 2 F__law_draw) (aCons (wVar 0) (aCons (wPrim .len (aCons (wVar 2) aNil)) aNil)))))) sNil
abbrev w__law_odd_6 : WS := sCons (sIf (wPrim (.isi .tuple) (aCons (wVar 1) aNil)) w__law_odd_7 sNil) w__law_odd_8
abbrev w__law_odd_4 : WS := sCons (sIf (wPrim (.isi .str) (aCons (wVar 1) aNil)) w__law_odd_5 sNil) w__law_odd_6
abbrev w__law_odd_2 : WS := sCons (sIf (wPrim (.isi .int) (aCons (wVar 1) aNil)) w__law_odd_3 sNil) w__law_odd_4
abbrev w__law_odd_1 : WS := sCons (sAsg (.v 2) (wBin .add (wVar 2) (wLst (aCons (wK (.str "row")) (aCons (wK (.str "folk")) (aCons (wK (.int 99999)) (aCons (wK (.int 100000)) (aCons (wK (.int 999)) (aCons (wK (.int 1000)) (aCons (wK (.int 1001)) (aCons (wTup (aCons (wK (.str "age")) (aCons (wK (.int 3)) (aCons wNone aNil)))) (aCons (wTup (aCons (wK (.str "kin")) (aCons (wK (.int 0)) aNil))) aNil)))))))))))) w__law_odd_2
abbrev w__law_odd_0 : WS := sCons (sAsg (.v 2) (wLst (aCons wNone (aCons (wK (.bool true)) (aCons (wK (.bool false)) (aCons (wK (.str "")) (aCons (wFrz (wLst aNil)) (aCons (wTup aNil) (aCons (wK (.int 0)) (aCons (wK (.int 1)) (aCons (wNeg (wK (.int 1))) (aCons (wK (.str "none")) (aCons (wK (.str "a1")) (aCons (wK (.str "A")) (aCons (wK (.str "abcdefghi")) (aCons (wBin .pow (wK (.int 10)) (wK (.int 40))) (aCons (wK (.str "turn")) (aCons (wFrz (wLst (aCons (wK (.str "a")) aNil))) aNil)))))))))))))))))) w__law_odd_1
abbrev w__law_odd : WS := w__law_odd_0
@[irreducible] def F__law_odd : FSem := semW w__law_odd 3
abbrev w__law_bent_1 (Fr : FSem) : WS := sCons (sRet (wFrz (wCall (ar 2 F__law_odd) (aCons (wVar 0) (aCons (wVar 1) aNil))))) sNil
abbrev w__law_bent_5 (Fr : FSem) : WS := sCons (sRet (wFrz (wBin .add (wSl (wVar 1) oNone (oSome (wVar 2))) (wSl (wVar 1) (oSome (wBin .add (wVar 2) (wK (.int 1)))) oNone)))) sNil
abbrev w__law_bent_7 (Fr : FSem) : WS := sCons (sRet (wFrz (wBin .add (wSl (wVar 1) oNone (oSome (wBin .add (wVar 2) (wK (.int 1))))) (wSl (wVar 1) (oSome (wVar 2)) oNone)))) sNil
abbrev w__law_bent_11 (Fr : FSem) : WS := sCons (sRet (wFrz (wPrim .tuple (aCons (wVar 4) aNil)))) sNil
abbrev w__law_bent_10 (Fr : FSem) : WS := sCons (sSetSl (wRevL (wSl (wVar 4) (oSome (wVar 2)) (oSome (wBin .add (wVar 2) (wK (.int 2)))))) (wVar 4) (oSome (wVar 2)) (oSome (wBin .add (wVar 2) (wK (.int 2))))) (w__law_bent_11 Fr)
abbrev w__law_bent_9 (Fr : FSem) : WS := sCons (sAsg (.v 4) (wPrim .list (aCons (wVar 1) aNil))) (w__law_bent_10 Fr)
abbrev w__law_bent_12 (Fr : FSem) : WS := sCons (sRet (wFrz (wBin .add (wBin .add (wSl (wVar 1) oNone (oSome (wVar 2))) (wTup (aCons (wCall (ar 2 Fr) (aCons (wVar 0) (aCons (wIx (wVar 1) (wVar 2)) aNil))) aNil))) (wSl (wVar 1) (oSome (wBin .add (wVar 2) (wK (.int 1)))) oNone)))) sNil
abbrev w__law_bent_8 (Fr : FSem) : WS := sCons (sIf (wCmp .eq (wVar 3) (wK (.int 2))) (w__law_bent_9 Fr) sNil) (w__law_bent_12 Fr)
abbrev w__law_bent_6 (Fr : FSem) : WS := sCons (sIf (wCmp .eq (wVar 3) (wK (.int 1))) (w__law_bent_7 Fr) sNil) (w__law_bent_8 Fr)
abbrev w__law_bent_4 (Fr : FSem) : WS := sCons (sIf (wCmp .eq (wVar 3) (wK (.int 0))) (w__law_bent_5 Fr) sNil) (w__law_bent_6 Fr)
abbrev w__law_bent_3 (Fr : FSem) : WS := sCons (sAsg (.v 3) (wCall (ar 2 F__law_draw) (aCons (wVar 0) (aCons (wK (.int 9)) aNil)))) (w__law_bent_4 Fr)
abbrev w__law_bent_2 (Fr : FSem) : WS := sCons (sAsg (.v 2) (wCall (ar 2 F__law_draw) (aCons (wVar 0) (aCons (wPrim .len (aCons (wVar 1) aNil)) aNil)))) (w__law_bent_3 Fr)
abbrev w__law_bent_0 (Fr : FSem) : WS := sCons (sIf (wOr (wNot (wPrim (.isi .tuple) (aCons (wVar 1) aNil))) (wOr (wCmp .eq (wPrim .len (aCons (wVar 1) aNil)) (wK (.int 0))) (wCmp .eq (wCall (ar 2 F__law_draw) (aCons (wVar 0) (aCons (wK (.int 6)) aNil))) (wK (.int 0))))) (w__law_bent_1 Fr) sNil) (w__law_bent_2 Fr)
abbrev w__law_bent (Fr : FSem) : WS := (w__law_bent_0 Fr)
@[irreducible] def F__law_bent (d : Nat) : FSem := fixF w__law_bent 5 d
theorem F__law_bent_s {d : Nat} : F__law_bent (d + 1) = semW (w__law_bent (F__law_bent d)) 5 := by unfold F__law_bent; rfl
abbrev w__law_spoilt_4 : WS := sCons (sSwap (wTup (aCons (wIx (wVar 1) (wVar 5)) (aCons (wIx (wVar 1) (wVar 4)) aNil))) (wVar 6) (wVar 4) (wVar 6) (wVar 5)) sNil
abbrev w__law_spoilt_6 : WS := sCons (sExpr (wInsert (wVar 6) (aCons (wVar 5) (aCons (wIx (wVar 1) (wVar 4)) aNil)))) sNil
abbrev w__law_spoilt_8 : WS := sCons (sExpr (wInsert (wVar 6) (aCons (wVar 4) (aCons (wCall (ar 2 F__law_some_page) (aCons (wVar 0) (aCons (wVar 2) aNil))) aNil)))) sNil
abbrev w__law_spoilt_10 : WS := sCons (sExpr (wReverse (wVar 6))) sNil
abbrev w__law_spoilt_12 : WS := sCons (sSetIx (wCall (ar 2 (F__law_bent 4)) (aCons (wVar 0) (aCons (wIx (wVar 1) (wVar 4)) aNil))) (wVar 6) (wVar 4)) sNil
abbrev w__law_spoilt_14 : WS := sCons (sRet (wFrz (wVar 6))) sNil
abbrev w__law_spoilt_15 : WS := sCons (sRet (wFrz (wIfe (wCmp .lt (wVar 3) (wK (.int 6))) (wPrim .tuple (aCons (wVar 6) aNil)) (wBin .add (wSl (wVar 1) oNone (oSome (wVar 4))) (wSl (wVar 1) (oSome (wBin .add (wVar 4) (wK (.int 1)))) oNone))))) sNil
abbrev w__law_spoilt_13 : WS := sCons (sIf (wCmp .eq (wVar 3) (wK (.int 5))) w__law_spoilt_14 sNil) w__law_spoilt_15
abbrev w__law_spoilt_11 : WS := sCons (sIf (wCmp .eq (wVar 3) (wK (.int 4))) w__law_spoilt_12 sNil) w__law_spoilt_13
abbrev w__law_spoilt_9 : WS := sCons (sIf (wCmp .eq (wVar 3) (wK (.int 3))) w__law_spoilt_10 sNil) w__law_spoilt_11
abbrev w__law_spoilt_7 : WS := sCons (sIf (wCmp .eq (wVar 3) (wK (.int 2))) w__law_spoilt_8 sNil) w__law_spoilt_9
abbrev w__law_spoilt_5 : WS := sCons (sIf (wCmp .eq (wVar 3) (wK (.int 1))) w__law_spoilt_6 sNil) w__law_spoilt_7
abbrev w__law_spoilt_3 : WS := sCons (sIf (wCmp .eq (wVar 3) (wK (.int 0))) w__law_spoilt_4 sNil) w__law_spoilt_5
abbrev w__law_spoilt_2 : WS := sCons (sAsg (.v 6) (wPrim .list (aCons (wVar 1) aNil))) w__law_spoilt_3
abbrev w__law_spoilt_1 : WS := sCons (sAsg (.v 5) (wCall (ar 2 F__law_draw) (aCons (wVar 0) (aCons (wPrim .len (aCons (wVar 1) aNil)) aNil)))) w__law_spoilt_2
abbrev w__law_spoilt_0 : WS := sCons (sPar [3, 4] (aCons (wCall (ar 2 F__law_draw) (aCons (wVar 0) (aCons (wK (.int 7)) aNil))) (aCons (wCall (ar 2 F__law_draw) (aCons (wVar 0) (aCons (wPrim .len (aCons (wVar 1) aNil)) aNil))) aNil))) w__law_spoilt_1
abbrev w__law_spoilt : WS := w__law_spoilt_0
@[irreducible] def F__law_spoilt : FSem := semW w__law_spoilt 7
abbrev w_page_place_0 : WS := sCons (sRet (wTup (aCons (wIx (wVar 0) (wK (.int 0))) (aCons (wIx (wVar 0) (wK (.int 1))) (aCons (wIdxT (wK (.tuple [.str "folk", .str "heir", .str "sell", .str "away", .str "rent", .str "ask", .str "name", .str "go"])) (aCons (wIx (wVar 0) (wK (.int 2))) aNil)) (aCons (wSl (wVar 0) (oSome (wK (.int 3))) oNone) aNil)))))) sNil
abbrev w_page_place : WS := w_page_place_0
@[irreducible] def F_page_place : FSem := semW w_page_place 1
abbrev w_in_order_0 : WS := wSeen F_page_place
abbrev w_in_order : WS := w_in_order_0
@[irreducible] def F_in_order : FSem := semW w_in_order 3
abbrev w_is_book_1 : WS := sCons (sRet (wK (.bool false))) sNil
abbrev w_is_book_2 : WS := sCons (sRet (wPrim .all (aCons (wComp (iR1 (wBin .sub (wPrim .len (aCons (wVar 0) aNil)) (wK (.int 1)))) [2] (.v 2) cAll (wLtN (wCall (ar 1 F_page_place) (aCons (wIx (wVar 0) (wVar 2)) aNil)) (wCall (ar 1 F_page_place) (aCons (wIx (wVar 0) (wBin .add (wVar 2) (wK (.int 1)))) aNil)))) aNil))) sNil
abbrev w_is_book_0 : WS := sCons (sIf (wOr (wNot (wPrim (.isi .tuple) (aCons (wVar 0) aNil))) (wNot (wPrim .all (aCons (wComp (iE (wVar 0)) [1] (.v 1) cAll (wCall (ar 1 F_is_page) (aCons (wVar 1) aNil))) aNil)))) w_is_book_1 sNil) w_is_book_2
abbrev w_is_book : WS := w_is_book_0
@[irreducible] def F_is_book : FSem := semW w_is_book 3
abbrev w_law_5 : WS := sCons (sExpr (wInsert (wVar 4) (aCons (wCall (ar 2 F__law_draw) (aCons (wVar 1) (aCons (wBin .add (wPrim .len (aCons (wVar 4) aNil)) (wK (.int 1))) aNil))) (aCons (wVar 5) aNil)))) sNil
abbrev w_law_9 : WS := sCons (sRet (wK (.bool false))) sNil
abbrev w_law_12 : WS := sCons (sRet (wK (.bool false))) sNil
abbrev w_law_17 : WS := sCons (sExpr (wAppend (wVar 9) (aCons (wCall (ar 3 F__law_spoilt) (aCons (wVar 1) (aCons (wVar 3) (aCons (wVar 2) aNil)))) aNil))) sNil
abbrev w_law_16 : WS := sCons (sIf (wCmp .ne (wVar 3) (wTup aNil)) w_law_17 sNil) sNil
abbrev w_law_21 : WS := sCons (sRet (wK (.bool false))) sNil
abbrev w_law_20 : WS := sCons (sIf (wOr (wNot (wCall (ar 2 (F__law_same 5)) (aCons (wCall (ar 1 F_is_book) (aCons (wVar 11) aNil)) (aCons (wCall (ar 1 F__law_is_book) (aCons (wVar 11) aNil)) aNil)))) (wCmp .ne (wPrim .repr (aCons (wVar 11) aNil)) (wVar 12))) w_law_21 sNil) sNil
abbrev w_law_19 : WS := sCons (sAsg (.v 12) (wPrim .repr (aCons (wVar 11) aNil))) w_law_20
abbrev w_law_22 : WS := sCons (sRet (wAnd (wCall (ar 2 (F__law_same 5)) (aCons (wCall (ar 1 F_in_order) (aCons (wLst aNil) aNil)) (aCons (wTup aNil) aNil))) (wCmp .is (wCall (ar 1 F_is_book) (aCons (wVar 3) aNil)) (wK (.bool true))))) sNil
abbrev w_law_18 : WS := sCons (sFor (.v 11) (iE (wBin .add (wVar 9) (wSl (wVar 9) oNone (oSome (wK (.int 1)))))) w_law_19) w_law_22
abbrev w_law_15 : WS := sCons (sFor (.v 10) (iR1 (wK (.int 12))) w_law_16) w_law_18
abbrev w_law_14 : WS := sCons (sAsg (.v 9) (wLst (aCons (wVar 3) (aCons (wTup aNil) (aCons wNone (aCons (wK (.str "a")) (aCons (wFrz (wLst aNil)) (aCons (wTup (aCons (wTup aNil) aNil)) (aCons (wVar 8) (aCons (wBin .add (wVar 8) (wTup (aCons (wTup (aCons (wK (.int 0)) (aCons (wK (.int 0)) (aCons (wK (.str "rent")) (aCons (wNeg (wK (.int 1))) aNil))))) aNil))) (aCons (wBin .add (wVar 8) (wSl (wVar 8) (oSome (wNeg (wK (.int 1)))) oNone)) aNil))))))))))) w_law_15
abbrev w_law_13 : WS := sCons (sAsg (.v 8) (wPrim .tuple (aCons (wComp (iR1 (wK (.int 160))) [10] (.v 10) cAll (wTup (aCons (wK (.int 0)) (aCons (wK (.int 0)) (aCons (wK (.str "rent")) (aCons (wVar 10) aNil)))))) aNil))) w_law_14
abbrev w_law_11 : WS := sCons (sIf (wOr (wNot (wCall (ar 2 (F__law_same 5)) (aCons (wVar 7) (aCons (wVar 3) aNil)))) (wNot (wCall (ar 2 (F__law_same 5)) (aCons (wCall (ar 1 F_in_order) (aCons (wPrim .tuple (aCons (wRevT (wVar 3)) aNil)) aNil)) (aCons (wVar 3) aNil))))) w_law_12 sNil) w_law_13
abbrev w_law_10 : WS := sCons (sExpr (wAppend (wVar 4) (aCons (wTup (aCons (wK (.int 0)) (aCons (wK (.int 0)) (aCons (wK (.str "rent")) (aCons (wK (.int 3)) aNil))))) aNil))) w_law_11
abbrev w_law_8 : WS := sCons (sIf (wOr (wNot (wCall (ar 2 (F__law_same 5)) (aCons (wVar 7) (aCons (wVar 3) aNil)))) (wOr (wNot (wCall (ar 2 (F__law_same 5)) (aCons (wCall (ar 1 F_in_order) (aCons (wPrim .tuple (aCons (wVar 4) aNil)) aNil)) (aCons (wVar 3) aNil)))) (wCmp .ne (wPrim .repr (aCons (wVar 4) aNil)) (wVar 6)))) w_law_9 sNil) w_law_10
abbrev w_law_7 : WS := sCons (sAsg (.v 7) (wCall (ar 1 F_in_order) (aCons (wVar 4) aNil))) w_law_8
abbrev w_law_6 : WS := sCons (sAsg (.v 6) (wPrim .repr (aCons (wVar 4) aNil))) w_law_7
abbrev w_law_4 : WS := sCons (sFor (.v 5) (iE (wBin .add (wBin .add (wVar 3) (wStpM (wVar 3) (oSome (wK (.int 2))))) (wStpM (wVar 3) (oSome (wK (.int 3)))))) w_law_5) w_law_6
abbrev w_law_3 : WS := sCons (sAsg (.v 4) (wLst aNil)) w_law_4
abbrev w_law_2 : WS := sCons (sAsg (.v 3) (wCall (ar 3 F__law_book) (aCons (wVar 1) (aCons (wVar 2) (aCons (wIfe (wCmp .gt (wCall (ar 2 F__law_draw) (aCons (wVar 1) (aCons (wK (.int 8)) aNil))) (wK (.int 0))) (wIx (wLst (aCons (wK (.int 3)) (aCons (wK (.int 8)) (aCons (wK (.int 24)) (aCons (wK (.int 60)) aNil))))) (wCall (ar 2 F__law_draw) (aCons (wVar 1) (aCons (wK (.int 4)) aNil)))) (wK (.int 100))) aNil))))) w_law_3
abbrev w_law_1 : WS := sCons (sAsg (.v 2) (wFrz (wCall (ar 1 F__law_names) (aCons (wVar 1) aNil)))) w_law_2
abbrev w_law_0 : WS := sCons (sAsg (.v 1) (wCall (ar 1 F__law_feed) (aCons (wVar 0) aNil))) w_law_1
abbrev w_law : WS := w_law_0
@[irreducible] def F_law : FSem := semW w_law 13
/-! ### the bodies -/
section
open PyProof.Rows
variable {P : Program} {w : World} {K : PySem.W.Frag} {mg : Str → Option Value} {base : Heap}
set_option maxHeartbeats 4000000 in
theorem ok__law_key {f : Addr} {fd : FuncData} (fn : Fun K "_law_key" "_law_key" s__law_key f fd) : FnV P w K mg base 1 f fd ["_law_page"] (spV K mg 1 F__law_key) := by
  obtain ⟨oc, od, kV, doc, pm, an, cdv, ct, osl, rfl, lk, hcd⟩ := fn.ex
  refine fnV_sem (k := 0) (N := n__law_key) (wb := w__law_key) lk hcd sc__law_key rfl rfl (by decide) (fun _ _ _ h => by unfold F__law_key at h; exact h) fun A outer s H E B hr hgd => ?_
  exact (z_cons (z_asg (c_lst (a_cons (c_str pe_str) (a_cons (c_str pe_str) (a_cons (c_str pe_str) (a_cons (c_str pe_str) (a_cons (c_str pe_str) (a_cons (c_str pe_str) (a_cons (c_str pe_str) (a_cons (c_str pe_str) a_nil (by rfl)) (by rfl)) (by rfl)) (by rfl)) (by rfl)) (by rfl)) (by rfl)) (by rfl))) (g_nm nd__law_key (by rfl) (by first | exact Or.inl rfl | exact Or.inr rfl) (by first | exact Or.inl rfl | exact Or.inr rfl)) (by rfl) (by rfl) (by rfl)) (z_cons (z_ret (c_tup (a_cons (c_ix (c_var 0 (by rfl) (by first | exact Or.inl rfl | exact Or.inr (Or.inl rfl) | exact Or.inr (Or.inr rfl)) (by rfl) (by rfl)) (c_int pe_int) (fun _ _ => rfl)) (a_cons (c_ix (c_var 0 (by rfl) (by first | exact Or.inl rfl | exact Or.inr (Or.inl rfl) | exact Or.inr (Or.inr rfl)) (by rfl) (by rfl)) (c_int pe_int) (fun _ _ => rfl)) (a_cons (c_idxL (c_var 1 (by rfl) (by first | exact Or.inl rfl | exact Or.inr (Or.inl rfl) | exact Or.inr (Or.inr rfl)) (by rfl) (by rfl)) (a_cons (c_ix (c_var 0 (by rfl) (by first | exact Or.inl rfl | exact Or.inr (Or.inl rfl) | exact Or.inr (Or.inr rfl)) (by rfl) (by rfl)) (c_int pe_int) (fun _ _ => rfl)) a_nil (by rfl)) (by rfl) (by rfl) (by rfl) (by rfl) (by rfl)) (a_cons (c_sl (c_var 0 (by rfl) (by first | exact Or.inl rfl | exact Or.inr (Or.inl rfl) | exact Or.inr (Or.inr rfl)) (by rfl) (by rfl)) (o_some (c_int pe_int)) o_none) a_nil (by rfl)) (by rfl)) (by rfl)) (by rfl)))) z_nil))
set_option maxHeartbeats 4000000 in
theorem ok__law_draw {f : Addr} {fd : FuncData} (fn : Fun K "_law_draw" "_law_draw" s__law_draw f fd) (z_len : mg "len" = none) : FnV P w K mg base 1 f fd ["_law_feed_here", "_law_many"] (spV K mg 2 F__law_draw) := by
  obtain ⟨oc, od, kV, doc, pm, an, cdv, ct, osl, rfl, lk, hcd⟩ := fn.ex
  refine fnV_sem (k := 0) (N := n__law_draw) (wb := w__law_draw) lk hcd sc__law_draw rfl rfl (by decide) (fun _ _ _ h => by unfold F__law_draw at h; exact h) fun A outer s H E B hr hgd => ?_
  exact (z_cons (z_setIx hr (c_bin .add (c_ix (c_var 0 (by rfl) (by first | exact Or.inl rfl | exact Or.inr (Or.inl rfl) | exact Or.inr (Or.inr rfl)) (by rfl) (by rfl)) (c_int pe_int) (fun _ _ => rfl)) (c_int pe_int)) (c_var 0 (by rfl) (by first | exact Or.inl rfl | exact Or.inr (Or.inl rfl) | exact Or.inr (Or.inr rfl)) (by rfl) (by rfl)) (c_int pe_int) (by intro _; rfl) (by rfl) (by rfl) (by rfl)) (z_cons (z_if (c_cmp hr .gt (c_ix (c_var 0 (by rfl) (by first | exact Or.inl rfl | exact Or.inr (Or.inl rfl) | exact Or.inr (Or.inr rfl)) (by rfl) (by rfl)) (c_int pe_int) (fun _ _ => rfl)) (c_int pe_int) (nomark _)) (z_cons (z_asg (c_bin .mod (c_ix (c_var 0 (by rfl) (by first | exact Or.inl rfl | exact Or.inr (Or.inl rfl) | exact Or.inr (Or.inr rfl)) (by rfl) (by rfl)) (c_int pe_int) (fun _ _ => rfl)) (c_var 1 (by rfl) (by first | exact Or.inl rfl | exact Or.inr (Or.inl rfl) | exact Or.inr (Or.inr rfl)) (by rfl) (by rfl))) (g_nm nd__law_draw (by rfl) (by first | exact Or.inl rfl | exact Or.inr rfl) (by first | exact Or.inl rfl | exact Or.inr rfl)) (by rfl) (by rfl) (by rfl)) (z_cons (z_setIx hr (c_bin .fdiv (c_ix (c_var 0 (by rfl) (by first | exact Or.inl rfl | exact Or.inr (Or.inl rfl) | exact Or.inr (Or.inr rfl)) (by rfl) (by rfl)) (c_int pe_int) (fun _ _ => rfl)) (c_var 1 (by rfl) (by first | exact Or.inl rfl | exact Or.inr (Or.inl rfl) | exact Or.inr (Or.inr rfl)) (by rfl) (by rfl))) (c_var 0 (by rfl) (by first | exact Or.inl rfl | exact Or.inr (Or.inl rfl) | exact Or.inr (Or.inr rfl)) (by rfl) (by rfl)) (c_int pe_int) (by intro _; rfl) (by rfl) (by rfl) (by rfl)) (z_cons (z_ret (c_var 2 (by rfl) (by first | exact Or.inl rfl | exact Or.inr (Or.inl rfl) | exact Or.inr (Or.inr rfl)) (by rfl) (by rfl))) z_nil))) z_nil) (z_cons (z_asg (c_ife (c_cmp hr .ne (c_ix (c_var 0 (by rfl) (by first | exact Or.inl rfl | exact Or.inr (Or.inl rfl) | exact Or.inr (Or.inr rfl)) (by rfl) (by rfl)) (c_int pe_int) (fun _ _ => rfl)) (c_lst a_nil) (nomark _)) (c_ix (c_ix (c_var 0 (by rfl) (by first | exact Or.inl rfl | exact Or.inr (Or.inl rfl) | exact Or.inr (Or.inr rfl)) (by rfl) (by rfl)) (c_int pe_int) (fun _ _ => rfl)) (c_bin .mod (c_ix (c_var 0 (by rfl) (by first | exact Or.inl rfl | exact Or.inr (Or.inl rfl) | exact Or.inr (Or.inr rfl)) (by rfl) (by rfl)) (c_int pe_int) (fun _ _ => rfl)) (c_primB (prim_ok hr hgd (by rfl) .len (fun _ => nofun) (fun _ => nofun)) rfl (by rfl) z_len (by rfl) (a_cons (c_ix (c_var 0 (by rfl) (by first | exact Or.inl rfl | exact Or.inr (Or.inl rfl) | exact Or.inr (Or.inr rfl)) (by rfl) (by rfl)) (c_int pe_int) (fun _ _ => rfl)) a_nil (by rfl)) (by decide) (by rfl) (by rfl) (by rfl))) (fun _ _ => rfl)) (c_int pe_int)) (g_nm nd__law_draw (by rfl) (by first | exact Or.inl rfl | exact Or.inr rfl) (by first | exact Or.inl rfl | exact Or.inr rfl)) (by rfl) (by rfl) (by rfl)) (z_cons (z_setIx hr (c_bin .add (c_ix (c_var 0 (by rfl) (by first | exact Or.inl rfl | exact Or.inr (Or.inl rfl) | exact Or.inr (Or.inr rfl)) (by rfl) (by rfl)) (c_int pe_int) (fun _ _ => rfl)) (c_int pe_int)) (c_var 0 (by rfl) (by first | exact Or.inl rfl | exact Or.inr (Or.inl rfl) | exact Or.inr (Or.inr rfl)) (by rfl) (by rfl)) (c_int pe_int) (by intro _; rfl) (by rfl) (by rfl) (by rfl)) (z_cons (z_if ((l_and (c_cmp hr .ge (c_var 3 (by rfl) (by first | exact Or.inl rfl | exact Or.inr (Or.inl rfl) | exact Or.inr (Or.inr rfl)) (by rfl) (by rfl)) (c_bin .pow (c_int pe_int) (c_int pe_int)) (nomark _)) (l_one (c_cmp hr .le (c_ix (c_var 0 (by rfl) (by first | exact Or.inl rfl | exact Or.inr (Or.inl rfl) | exact Or.inr (Or.inr rfl)) (by rfl) (by rfl)) (c_int pe_int) (fun _ _ => rfl)) (c_primB (prim_ok hr hgd (by rfl) .len (fun _ => nofun) (fun _ => nofun)) rfl (by rfl) z_len (by rfl) (a_cons (c_ix (c_var 0 (by rfl) (by first | exact Or.inl rfl | exact Or.inr (Or.inl rfl) | exact Or.inr (Or.inr rfl)) (by rfl) (by rfl)) (c_int pe_int) (fun _ _ => rfl)) a_nil (by rfl)) (by decide) (by rfl) (by rfl) (by rfl)) (nomark _))))).snd (z_cons (z_setIx hr (c_bin .fdiv (c_var 3 (by rfl) (by first | exact Or.inl rfl | exact Or.inr (Or.inl rfl) | exact Or.inr (Or.inr rfl)) (by rfl) (by rfl)) (c_var 1 (by rfl) (by first | exact Or.inl rfl | exact Or.inr (Or.inl rfl) | exact Or.inr (Or.inr rfl)) (by rfl) (by rfl))) (c_var 0 (by rfl) (by first | exact Or.inl rfl | exact Or.inr (Or.inl rfl) | exact Or.inr (Or.inr rfl)) (by rfl) (by rfl)) (c_int pe_int) (by intro _; rfl) (by rfl) (by rfl) (by rfl)) (z_cons (z_ret (c_bin .mod (c_var 3 (by rfl) (by first | exact Or.inl rfl | exact Or.inr (Or.inl rfl) | exact Or.inr (Or.inr rfl)) (by rfl) (by rfl)) (c_var 1 (by rfl) (by first | exact Or.inl rfl | exact Or.inr (Or.inl rfl) | exact Or.inr (Or.inr rfl)) (by rfl) (by rfl)))) z_nil)) z_nil) (z_cons (z_asg (c_bin .mod (c_bin .pow (c_bin .add (c_bin .add (c_bin .mod (c_var 3 (by rfl) (by first | exact Or.inl rfl | exact Or.inr (Or.inl rfl) | exact Or.inr (Or.inr rfl)) (by rfl) (by rfl)) (c_int pe_int)) (c_bin .mul (c_int pe_int) (c_ix (c_var 0 (by rfl) (by first | exact Or.inl rfl | exact Or.inr (Or.inl rfl) | exact Or.inr (Or.inr rfl)) (by rfl) (by rfl)) (c_int pe_int) (fun _ _ => rfl)))) (c_int pe_int)) (c_int pe_int)) (c_int pe_int)) (g_nm nd__law_draw (by rfl) (by first | exact Or.inl rfl | exact Or.inr rfl) (by first | exact Or.inl rfl | exact Or.inr rfl)) (by rfl) (by rfl) (by rfl)) (z_cons (z_ret (c_bin .mod (c_bin .fdiv (c_bin .mod (c_bin .pow (c_bin .add (c_var 4 (by rfl) (by first | exact Or.inl rfl | exact Or.inr (Or.inl rfl) | exact Or.inr (Or.inr rfl)) (by rfl) (by rfl)) (c_bin .mul (c_int pe_int) (c_ix (c_var 0 (by rfl) (by first | exact Or.inl rfl | exact Or.inr (Or.inl rfl) | exact Or.inr (Or.inr rfl)) (by rfl) (by rfl)) (c_int pe_int) (fun _ _ => rfl)))) (c_int pe_int)) (c_int pe_int)) (c_int pe_int)) (c_var 1 (by rfl) (by first | exact Or.inl rfl | exact Or.inr (Or.inl rfl) | exact Or.inr (Or.inr rfl)) (by rfl) (by rfl)))) z_nil)))))))
set_option maxHeartbeats 4000000 in
theorem ok__law_some_page {f : Addr} {fd : FuncData} (fn : Fun K "_law_some_page" "_law_some_page" s__law_some_page f fd) {f__law_draw : Addr} {d__law_draw : FuncData} (g__law_draw : FnV P w K mg base 1 f__law_draw d__law_draw ["_law_feed_here", "_law_many"] (spV K mg 2 F__law_draw)) (m__law_draw : mg "_law_draw" = some (.ref f__law_draw)) (k__law_draw : PySem.W.keepIn K (.ref f__law_draw) = true) (b__law_draw : Binds K d__law_draw ["_law_feed_here", "_law_many"] []) (z_len : mg "len" = none) : FnV P w K mg base 2 f fd ["_law_feed_here", "_law_names_here"] (spV K mg 2 F__law_some_page) := by
  obtain ⟨oc, od, kV, doc, pm, an, cdv, ct, osl, rfl, lk, hcd⟩ := fn.ex
  refine fnV_sem (k := 1) (N := n__law_some_page) (wb := w__law_some_page) lk hcd sc__law_some_page rfl rfl (by decide) (fun _ _ _ h => by unfold F__law_some_page at h; exact h) fun A outer s H E B hr hgd => ?_
  exact (z_cons (z_asg (c_bin .add (c_ix (c_lst (a_cons (c_int pe_int) (a_cons (c_int pe_int) (a_cons (c_int pe_int) (a_cons (c_int pe_int) a_nil (by rfl)) (by rfl)) (by rfl)) (by rfl))) (s_call g__law_draw (hr.mono (by first | decide | omega)) hgd tkB (by rfl) m__law_draw k__law_draw b__law_draw (a_cons (c_var 0 (by rfl) (by first | exact Or.inl rfl | exact Or.inr (Or.inl rfl) | exact Or.inr (Or.inr rfl)) (by rfl) (by rfl)) (a_cons (c_int pe_int) a_nil (by rfl)) (by rfl)) (by rfl) (by rfl) (by rfl)) (fun _ _ => rfl)) (s_call g__law_draw (hr.mono (by first | decide | omega)) hgd tkB (by rfl) m__law_draw k__law_draw b__law_draw (a_cons (c_var 0 (by rfl) (by first | exact Or.inl rfl | exact Or.inr (Or.inl rfl) | exact Or.inr (Or.inr rfl)) (by rfl) (by rfl)) (a_cons (c_int pe_int) a_nil (by rfl)) (by rfl)) (by rfl) (by rfl) (by rfl))) (g_nm nd__law_some_page (by rfl) (by first | exact Or.inl rfl | exact Or.inr rfl) (by first | exact Or.inl rfl | exact Or.inr rfl)) (by rfl) (by rfl) (by rfl)) (z_cons (z_asg (c_tup (a_cons (c_var 2 (by rfl) (by first | exact Or.inl rfl | exact Or.inr (Or.inl rfl) | exact Or.inr (Or.inr rfl)) (by rfl) (by rfl)) (a_cons (c_ix (c_lst (a_cons (c_int pe_int) (a_cons (c_int pe_int) (a_cons (c_int pe_int) a_nil (by rfl)) (by rfl)) (by rfl))) (s_call g__law_draw (hr.mono (by first | decide | omega)) hgd tkB (by rfl) m__law_draw k__law_draw b__law_draw (a_cons (c_var 0 (by rfl) (by first | exact Or.inl rfl | exact Or.inr (Or.inl rfl) | exact Or.inr (Or.inr rfl)) (by rfl) (by rfl)) (a_cons (c_int pe_int) a_nil (by rfl)) (by rfl)) (by rfl) (by rfl) (by rfl)) (fun _ _ => rfl)) a_nil (by rfl)) (by rfl))) (g_nm nd__law_some_page (by rfl) (by first | exact Or.inl rfl | exact Or.inr rfl) (by first | exact Or.inl rfl | exact Or.inr rfl)) (by rfl) (by rfl) (by rfl)) (z_cons (z_asg (s_call g__law_draw (hr.mono (by first | decide | omega)) hgd tkB (by rfl) m__law_draw k__law_draw b__law_draw (a_cons (c_var 0 (by rfl) (by first | exact Or.inl rfl | exact Or.inr (Or.inl rfl) | exact Or.inr (Or.inr rfl)) (by rfl) (by rfl)) (a_cons (c_primB (prim_ok hr hgd (by rfl) .len (fun _ => nofun) (fun _ => nofun)) rfl (by rfl) z_len (by rfl) (a_cons (c_var 1 (by rfl) (by first | exact Or.inl rfl | exact Or.inr (Or.inl rfl) | exact Or.inr (Or.inr rfl)) (by rfl) (by rfl)) a_nil (by rfl)) (by decide) (by rfl) (by rfl) (by rfl)) a_nil (by rfl)) (by rfl)) (by rfl) (by rfl) (by rfl)) (g_nm nd__law_some_page (by rfl) (by first | exact Or.inl rfl | exact Or.inr rfl) (by first | exact Or.inl rfl | exact Or.inr rfl)) (by rfl) (by rfl) (by rfl)) (z_cons (z_par (i := 5) (j := 6) (by rfl) nd__law_some_page (by rfl) (by rfl) (by decide) (by rfl) (by rfl) (a_cons (c_ix (c_var 1 (by rfl) (by first | exact Or.inl rfl | exact Or.inr (Or.inl rfl) | exact Or.inr (Or.inr rfl)) (by rfl) (by rfl)) (c_var 4 (by rfl) (by first | exact Or.inl rfl | exact Or.inr (Or.inl rfl) | exact Or.inr (Or.inr rfl)) (by rfl) (by rfl)) (fun _ _ => rfl)) (a_cons (c_ix (c_var 1 (by rfl) (by first | exact Or.inl rfl | exact Or.inr (Or.inl rfl) | exact Or.inr (Or.inr rfl)) (by rfl) (by rfl)) (c_bin .mod (c_bin .add (c_bin .add (c_var 4 (by rfl) (by first | exact Or.inl rfl | exact Or.inr (Or.inl rfl) | exact Or.inr (Or.inr rfl)) (by rfl) (by rfl)) (c_int pe_int)) (s_call g__law_draw (hr.mono (by first | decide | omega)) hgd tkB (by rfl) m__law_draw k__law_draw b__law_draw (a_cons (c_var 0 (by rfl) (by first | exact Or.inl rfl | exact Or.inr (Or.inl rfl) | exact Or.inr (Or.inr rfl)) (by rfl) (by rfl)) (a_cons (c_bin .sub (c_primB (prim_ok hr hgd (by rfl) .len (fun _ => nofun) (fun _ => nofun)) rfl (by rfl) z_len (by rfl) (a_cons (c_var 1 (by rfl) (by first | exact Or.inl rfl | exact Or.inr (Or.inl rfl) | exact Or.inr (Or.inr rfl)) (by rfl) (by rfl)) a_nil (by rfl)) (by decide) (by rfl) (by rfl) (by rfl)) (c_int pe_int)) a_nil (by rfl)) (by rfl)) (by rfl) (by rfl) (by rfl))) (c_primB (prim_ok hr hgd (by rfl) .len (fun _ => nofun) (fun _ => nofun)) rfl (by rfl) z_len (by rfl) (a_cons (c_var 1 (by rfl) (by first | exact Or.inl rfl | exact Or.inr (Or.inl rfl) | exact Or.inr (Or.inr rfl)) (by rfl) (by rfl)) a_nil (by rfl)) (by decide) (by rfl) (by rfl) (by rfl))) (fun _ _ => rfl)) a_nil (by rfl)) (by rfl)) (by rfl) (by rfl)) (z_cons (z_asg (c_ix (c_lst (a_cons (c_int pe_int) (a_cons (c_int pe_int) (a_cons (c_int pe_int) (a_cons (c_int pe_int) a_nil (by rfl)) (by rfl)) (by rfl)) (by rfl))) (s_call g__law_draw (hr.mono (by first | decide | omega)) hgd tkB (by rfl) m__law_draw k__law_draw b__law_draw (a_cons (c_var 0 (by rfl) (by first | exact Or.inl rfl | exact Or.inr (Or.inl rfl) | exact Or.inr (Or.inr rfl)) (by rfl) (by rfl)) (a_cons (c_int pe_int) a_nil (by rfl)) (by rfl)) (by rfl) (by rfl) (by rfl)) (fun _ _ => rfl)) (g_nm nd__law_some_page (by rfl) (by first | exact Or.inl rfl | exact Or.inr rfl) (by first | exact Or.inl rfl | exact Or.inr rfl)) (by rfl) (by rfl) (by rfl)) (z_cons (z_asg (s_call g__law_draw (hr.mono (by first | decide | omega)) hgd tkB (by rfl) m__law_draw k__law_draw b__law_draw (a_cons (c_var 0 (by rfl) (by first | exact Or.inl rfl | exact Or.inr (Or.inl rfl) | exact Or.inr (Or.inr rfl)) (by rfl) (by rfl)) (a_cons (c_int pe_int) a_nil (by rfl)) (by rfl)) (by rfl) (by rfl) (by rfl)) (g_nm nd__law_some_page (by rfl) (by first | exact Or.inl rfl | exact Or.inr rfl) (by first | exact Or.inl rfl | exact Or.inr rfl)) (by rfl) (by rfl) (by rfl)) (z_cons (z_if (c_cmp hr .eq (c_var 8 (by rfl) (by first | exact Or.inl rfl | exact Or.inr (Or.inl rfl) | exact Or.inr (Or.inr rfl)) (by rfl) (by rfl)) (c_int pe_int) (nomark _)) (z_cons (z_par (i := 9) (j := 10) (by rfl) nd__law_some_page (by rfl) (by rfl) (by decide) (by rfl) (by rfl) (a_cons (c_ix (c_lst (a_cons (c_str pe_str) (a_cons (c_str pe_str) a_nil (by rfl)) (by rfl))) (s_call g__law_draw (hr.mono (by first | decide | omega)) hgd tkB (by rfl) m__law_draw k__law_draw b__law_draw (a_cons (c_var 0 (by rfl) (by first | exact Or.inl rfl | exact Or.inr (Or.inl rfl) | exact Or.inr (Or.inr rfl)) (by rfl) (by rfl)) (a_cons (c_int pe_int) a_nil (by rfl)) (by rfl)) (by rfl) (by rfl) (by rfl)) (fun _ _ => rfl)) (a_cons (c_ix (c_lst (a_cons (c_str pe_str) (a_cons (c_var 6 (by rfl) (by first | exact Or.inl rfl | exact Or.inr (Or.inl rfl) | exact Or.inr (Or.inr rfl)) (by rfl) (by rfl)) a_nil (by rfl)) (by rfl))) (s_call g__law_draw (hr.mono (by first | decide | omega)) hgd tkB (by rfl) m__law_draw k__law_draw b__law_draw (a_cons (c_var 0 (by rfl) (by first | exact Or.inl rfl | exact Or.inr (Or.inl rfl) | exact Or.inr (Or.inr rfl)) (by rfl) (by rfl)) (a_cons (c_int pe_int) a_nil (by rfl)) (by rfl)) (by rfl) (by rfl) (by rfl)) (fun _ _ => rfl)) a_nil (by rfl)) (by rfl)) (by rfl) (by rfl)) (z_cons (z_ret (c_bin .add (c_var 3 (by rfl) (by first | exact Or.inl rfl | exact Or.inr (Or.inl rfl) | exact Or.inr (Or.inr rfl)) (by rfl) (by rfl)) (c_tup (a_cons (c_str pe_str) (a_cons (c_var 5 (by rfl) (by first | exact Or.inl rfl | exact Or.inr (Or.inl rfl) | exact Or.inr (Or.inr rfl)) (by rfl) (by rfl)) (a_cons (c_var 9 (by rfl) (by first | exact Or.inl rfl | exact Or.inr (Or.inl rfl) | exact Or.inr (Or.inr rfl)) (by rfl) (by rfl)) (a_cons (c_bin .sub (c_var 2 (by rfl) (by first | exact Or.inl rfl | exact Or.inr (Or.inl rfl) | exact Or.inr (Or.inr rfl)) (by rfl) (by rfl)) (c_var 7 (by rfl) (by first | exact Or.inl rfl | exact Or.inr (Or.inl rfl) | exact Or.inr (Or.inr rfl)) (by rfl) (by rfl))) (a_cons (c_var 10 (by rfl) (by first | exact Or.inl rfl | exact Or.inr (Or.inl rfl) | exact Or.inr (Or.inr rfl)) (by rfl) (by rfl)) a_nil (by rfl)) (by rfl)) (by rfl)) (by rfl)) (by rfl))))) z_nil)) z_nil) (z_cons (z_if (c_cmp hr .eq (c_var 8 (by rfl) (by first | exact Or.inl rfl | exact Or.inr (Or.inl rfl) | exact Or.inr (Or.inr rfl)) (by rfl) (by rfl)) (c_int pe_int) (nomark _)) (z_cons (z_ret (c_bin .add (c_var 3 (by rfl) (by first | exact Or.inl rfl | exact Or.inr (Or.inl rfl) | exact Or.inr (Or.inr rfl)) (by rfl) (by rfl)) (c_tup (a_cons (c_str pe_str) (a_cons (c_var 5 (by rfl) (by first | exact Or.inl rfl | exact Or.inr (Or.inl rfl) | exact Or.inr (Or.inr rfl)) (by rfl) (by rfl)) (a_cons (c_var 7 (by rfl) (by first | exact Or.inl rfl | exact Or.inr (Or.inl rfl) | exact Or.inr (Or.inr rfl)) (by rfl) (by rfl)) (a_cons (c_ix (c_lst (a_cons (c_var 5 (by rfl) (by first | exact Or.inl rfl | exact Or.inr (Or.inl rfl) | exact Or.inr (Or.inr rfl)) (by rfl) (by rfl)) (a_cons (c_var 6 (by rfl) (by first | exact Or.inl rfl | exact Or.inr (Or.inl rfl) | exact Or.inr (Or.inr rfl)) (by rfl) (by rfl)) a_nil (by rfl)) (by rfl))) (s_call g__law_draw (hr.mono (by first | decide | omega)) hgd tkB (by rfl) m__law_draw k__law_draw b__law_draw (a_cons (c_var 0 (by rfl) (by first | exact Or.inl rfl | exact Or.inr (Or.inl rfl) | exact Or.inr (Or.inr rfl)) (by rfl) (by rfl)) (a_cons (c_int pe_int) a_nil (by rfl)) (by rfl)) (by rfl) (by rfl) (by rfl)) (fun _ _ => rfl)) a_nil (by rfl)) (by rfl)) (by rfl)) (by rfl))))) z_nil) z_nil) (z_cons (z_if (c_cmp hr .lt (c_var 8 (by rfl) (by first | exact Or.inl rfl | exact Or.inr (Or.inl rfl) | exact Or.inr (Or.inr rfl)) (by rfl) (by rfl)) (c_int pe_int) (nomark _)) (z_cons (z_ret (c_bin .add (c_var 3 (by rfl) (by first | exact Or.inl rfl | exact Or.inr (Or.inl rfl) | exact Or.inr (Or.inr rfl)) (by rfl) (by rfl)) (c_tup (a_cons (c_ix (c_lst (a_cons (c_str pe_str) (a_cons (c_str pe_str) a_nil (by rfl)) (by rfl))) (c_bin .sub (c_var 8 (by rfl) (by first | exact Or.inl rfl | exact Or.inr (Or.inl rfl) | exact Or.inr (Or.inr rfl)) (by rfl) (by rfl)) (c_int pe_int)) (fun _ _ => rfl)) (a_cons (c_var 5 (by rfl) (by first | exact Or.inl rfl | exact Or.inr (Or.inl rfl) | exact Or.inr (Or.inr rfl)) (by rfl) (by rfl)) (a_cons (c_var 6 (by rfl) (by first | exact Or.inl rfl | exact Or.inr (Or.inl rfl) | exact Or.inr (Or.inr rfl)) (by rfl) (by rfl)) a_nil (by rfl)) (by rfl)) (by rfl))))) z_nil) z_nil) (z_cons (z_if (c_cmp hr .lt (c_var 8 (by rfl) (by first | exact Or.inl rfl | exact Or.inr (Or.inl rfl) | exact Or.inr (Or.inr rfl)) (by rfl) (by rfl)) (c_int pe_int) (nomark _)) (z_cons (z_ret (c_bin .add (c_var 3 (by rfl) (by first | exact Or.inl rfl | exact Or.inr (Or.inl rfl) | exact Or.inr (Or.inr rfl)) (by rfl) (by rfl)) (c_tup (a_cons (c_ix (c_lst (a_cons (c_str pe_str) (a_cons (c_str pe_str) a_nil (by rfl)) (by rfl))) (c_bin .sub (c_var 8 (by rfl) (by first | exact Or.inl rfl | exact Or.inr (Or.inl rfl) | exact Or.inr (Or.inr rfl)) (by rfl) (by rfl)) (c_int pe_int)) (fun _ _ => rfl)) (a_cons (c_var 5 (by rfl) (by first | exact Or.inl rfl | exact Or.inr (Or.inl rfl) | exact Or.inr (Or.inr rfl)) (by rfl) (by rfl)) a_nil (by rfl)) (by rfl))))) z_nil) z_nil) (z_cons (z_ret (c_bin .add (c_var 3 (by rfl) (by first | exact Or.inl rfl | exact Or.inr (Or.inl rfl) | exact Or.inr (Or.inr rfl)) (by rfl) (by rfl)) (c_ife (c_cmp hr .eq (c_var 8 (by rfl) (by first | exact Or.inl rfl | exact Or.inr (Or.inl rfl) | exact Or.inr (Or.inr rfl)) (by rfl) (by rfl)) (c_int pe_int) (nomark _)) (c_tup (a_cons (c_str pe_str) (a_cons (c_var 5 (by rfl) (by first | exact Or.inl rfl | exact Or.inr (Or.inl rfl) | exact Or.inr (Or.inr rfl)) (by rfl) (by rfl)) (a_cons (c_bin .add (c_int pe_int) (c_var 7 (by rfl) (by first | exact Or.inl rfl | exact Or.inr (Or.inl rfl) | exact Or.inr (Or.inr rfl)) (by rfl) (by rfl))) a_nil (by rfl)) (by rfl)) (by rfl))) (c_tup (a_cons (c_str pe_str) (a_cons (c_var 7 (by rfl) (by first | exact Or.inl rfl | exact Or.inr (Or.inl rfl) | exact Or.inr (Or.inr rfl)) (by rfl) (by rfl)) a_nil (by rfl)) (by rfl)))))) z_nil)))))))))))
set_option maxHeartbeats 4000000 in
theorem ok__law_book {f : Addr} {fd : FuncData} (fn : Fun K "_law_book" "_law_book" s__law_book f fd) {f__law_key : Addr} {d__law_key : FuncData} (g__law_key : FnV P w K mg base 1 f__law_key d__law_key ["_law_page"] (spV K mg 1 F__law_key)) (m__law_key : mg "_law_key" = some (.ref f__law_key)) (k__law_key : PySem.W.keepIn K (.ref f__law_key) = true) (b__law_key : Binds K d__law_key ["_law_page"] []) {f__law_some_page : Addr} {d__law_some_page : FuncData} (g__law_some_page : FnV P w K mg base 2 f__law_some_page d__law_some_page ["_law_feed_here", "_law_names_here"] (spV K mg 2 F__law_some_page)) (m__law_some_page : mg "_law_some_page" = some (.ref f__law_some_page)) (k__law_some_page : PySem.W.keepIn K (.ref f__law_some_page) = true) (b__law_some_page : Binds K d__law_some_page ["_law_feed_here", "_law_names_here"] []) (z_range : mg "range" = none) (z_sorted : mg "sorted" = none) (z_tuple : mg "tuple" = none) : FnV P w K mg base 4 f fd ["_law_feed_here", "_law_names_here", "_law_many"] (spV K mg 3 F__law_book) := by
  obtain ⟨oc, od, kV, doc, pm, an, cdv, ct, osl, rfl, lk, hcd⟩ := fn.ex
  refine fnV_sem (k := 3) (N := n__law_book) (wb := w__law_book) lk hcd sc__law_book rfl rfl (by decide) (fun _ _ _ h => by unfold F__law_book at h; exact h) fun A outer s H E B hr hgd => ?_
  exact (z_cons (z_asg (c_lst a_nil) (g_nm nd__law_book (by rfl) (by first | exact Or.inl rfl | exact Or.inr rfl) (by first | exact Or.inl rfl | exact Or.inr rfl)) (by rfl) (by rfl) (by rfl)) (z_cons (z_for (poB rfl rfl rfl rfl rfl) (by rfl) (i_rg1 (by rfl) z_range (c_var 2 (by rfl) (by first | exact Or.inl rfl | exact Or.inr (Or.inl rfl) | exact Or.inr (Or.inr rfl)) (by rfl) (by rfl)) (by rfl)) (g_nm nd__law_book (by rfl) (by first | exact Or.inl rfl | exact Or.inr rfl) (by first | exact Or.inl rfl | exact Or.inr rfl)) (z_cons (z_asg (s_call g__law_some_page (hr.mono (by first | decide | omega)) hgd tkB (by rfl) m__law_some_page k__law_some_page b__law_some_page (a_cons (c_var 0 (by rfl) (by first | exact Or.inl rfl | exact Or.inr (Or.inl rfl) | exact Or.inr (Or.inr rfl)) (by rfl) (by rfl)) (a_cons (c_var 1 (by rfl) (by first | exact Or.inl rfl | exact Or.inr (Or.inl rfl) | exact Or.inr (Or.inr rfl)) (by rfl) (by rfl)) a_nil (by rfl)) (by rfl)) (by rfl) (by rfl) (by rfl)) (g_nm nd__law_book (by rfl) (by first | exact Or.inl rfl | exact Or.inr rfl) (by first | exact Or.inl rfl | exact Or.inr rfl)) (by rfl) (by rfl) (by rfl)) (z_cons (z_if (c_cmp hr .notIn (c_var 5 (by rfl) (by first | exact Or.inl rfl | exact Or.inr (Or.inl rfl) | exact Or.inr (Or.inr rfl)) (by rfl) (by rfl)) (c_var 3 (by rfl) (by first | exact Or.inl rfl | exact Or.inr (Or.inl rfl) | exact Or.inr (Or.inr rfl)) (by rfl) (by rfl)) (by rfl)) (z_cons (z_expr (c_append (c_var 3 (by rfl) (by first | exact Or.inl rfl | exact Or.inr (Or.inl rfl) | exact Or.inr (Or.inr rfl)) (by rfl) (by rfl)) (a_cons (c_var 5 (by rfl) (by first | exact Or.inl rfl | exact Or.inr (Or.inl rfl) | exact Or.inr (Or.inr rfl)) (by rfl) (by rfl)) a_nil (by rfl)) (by rfl) (by rfl) (by rfl) (by rfl) (by rfl)) (by rfl)) z_nil) z_nil) z_nil)) (by intro _; rfl)) (z_cons (z_ret (c_primT (prim_ok hr hgd (by rfl) .tuple (fun _ => nofun) (fun _ => nofun)) rfl (by rfl) z_tuple (by rfl) (a_cons (c_sortK g__law_key (hr.mono (by first | decide | omega)) hgd b__law_key (by rfl) z_sorted (by rfl) (by rfl) m__law_key (a_cons (c_var 3 (by rfl) (by first | exact Or.inl rfl | exact Or.inr (Or.inl rfl) | exact Or.inr (Or.inr rfl)) (by rfl) (by rfl)) a_nil (by rfl)) (by decide) (by rfl) (by rfl) (by rfl) (by rfl) (by rfl) (by rfl) (by rfl)) a_nil (by rfl)) (by decide) (by rfl) (by rfl) (by rfl))) z_nil)))
set_option maxHeartbeats 4000000 in
theorem ok__law_feed {f : Addr} {fd : FuncData} (fn : Fun K "_law_feed" "_law_feed" s__law_feed f fd) : FnV P w K mg base 1 f fd ["_law_script"] (spV K mg 1 F__law_feed) := by
  obtain ⟨oc, od, kV, doc, pm, an, cdv, ct, osl, rfl, lk, hcd⟩ := fn.ex
  refine fnV_sem (k := 0) (N := n__law_feed) (wb := w__law_feed) lk hcd sc__law_feed rfl rfl (by decide) (fun _ _ _ h => by unfold F__law_feed at h; exact h) fun A outer s H E B hr hgd => ?_
  exact (z_cons (z_ret (c_lst (a_cons (c_frz (c_sl (c_var 0 (by rfl) (by first | exact Or.inl rfl | exact Or.inr (Or.inl rfl) | exact Or.inr (Or.inr rfl)) (by rfl) (by rfl)) o_none (o_some (c_int pe_int)))) (a_cons (c_int pe_int) (a_cons (c_int pe_int) (a_cons (c_int pe_int) a_nil (by rfl)) (by rfl)) (by rfl)) (by rfl)))) z_nil)
set_option maxHeartbeats 4000000 in
theorem ok_is_number {f : Addr} {fd : FuncData} (fn : Fun K "is_number" "is_number" s_is_number f fd) (z_bool : mg "bool" = none) (z_int : mg "int" = none) (z_isinstance : mg "isinstance" = none) : FnV P w K mg base 1 f fd ["thing"] (spV K mg 1 F_is_number) := by
  obtain ⟨oc, od, kV, doc, pm, an, cdv, ct, osl, rfl, lk, hcd⟩ := fn.ex
  refine fnV_sem (k := 0) (N := n_is_number) (wb := w_is_number) lk hcd sc_is_number rfl rfl (by decide) (fun _ _ _ h => by unfold F_is_number at h; exact h) fun A outer s H E B hr hgd => ?_
  exact (z_cons (z_ret (((l_and (c_isi .int (by rfl) z_isinstance (by rfl) (by rfl) z_int (by rfl) (by decide) (by rfl) (c_var 0 (by rfl) (by first | exact Or.inl rfl | exact Or.inr (Or.inl rfl) | exact Or.inr (Or.inr rfl)) (by rfl) (by rfl)) (by rfl) (by rfl) (by rfl)) (l_one (c_not (c_isi .bool (by rfl) z_isinstance (by rfl) (by rfl) z_bool (by rfl) (by decide) (by rfl) (c_var 0 (by rfl) (by first | exact Or.inl rfl | exact Or.inr (Or.inl rfl) | exact Or.inr (Or.inr rfl)) (by rfl) (by rfl)) (by rfl) (by rfl) (by rfl)))))).snd).pe) z_nil)
set_option maxHeartbeats 4000000 in
theorem ok_is_word {f : Addr} {fd : FuncData} (fn : Fun K "is_word" "is_word" s_is_word f fd) (z_all : mg "all" = none) (z_isinstance : mg "isinstance" = none) (z_len : mg "len" = none) (z_str : mg "str" = none) {t_LETTERS : Tok} (x_LETTERS : mg "LETTERS" = some (.str "abcdefghijklmnopqrstuvwxyz" t_LETTERS)) {t_LONGEST : Tok} (x_LONGEST : mg "LONGEST" = some (.int 8 t_LONGEST)) : FnV P w K mg base 1 f fd ["thing"] (spV K mg 1 F_is_word) := by
  obtain ⟨oc, od, kV, doc, pm, an, cdv, ct, osl, rfl, lk, hcd⟩ := fn.ex
  refine fnV_sem (k := 0) (N := n_is_word) (wb := w_is_word) lk hcd sc_is_word rfl rfl (by decide) (fun _ _ _ h => by unfold F_is_word at h; exact h) fun A outer s H E B hr hgd => ?_
  exact (z_cons (z_if ((l_or (c_not (c_isi .str (by rfl) z_isinstance (by rfl) (by rfl) z_str (by rfl) (by decide) (by rfl) (c_var 0 (by rfl) (by first | exact Or.inl rfl | exact Or.inr (Or.inl rfl) | exact Or.inr (Or.inr rfl)) (by rfl) (by rfl)) (by rfl) (by rfl) (by rfl))) (l_one (c_not (c_chain hr .le .le (c_int pe_int) (c_primB (prim_ok hr hgd (by rfl) .len (fun _ => nofun) (fun _ => nofun)) rfl (by rfl) z_len (by rfl) (a_cons (c_var 0 (by rfl) (by first | exact Or.inl rfl | exact Or.inr (Or.inl rfl) | exact Or.inr (Or.inr rfl)) (by rfl) (by rfl)) a_nil (by rfl)) (by decide) (by rfl) (by rfl) (by rfl)) (c_gint (by rfl) x_LONGEST (by rfl)) (by rfl)))))).snd (z_cons (z_ret (c_bool pe_bl)) z_nil) z_nil) (z_cons (z_ret (c_primB (prim_ok hr hgd (by rfl) .all (fun _ => nofun) (fun _ => nofun)) rfl (by rfl) z_all (by rfl) (a_cons (c_comp (own := [("sign", 1)]) (by rfl) nd_is_word (i_s (c_var 0 (by rfl) (by first | exact Or.inl rfl | exact Or.inr (Or.inl rfl) | exact Or.inr (Or.inr rfl)) (by rfl) (by rfl))) (blkOk_by (own := [("sign", 1)]) (N := n_is_word) (sc := (defScope s_is_word)) (by decide +kernel)) (by decide) (by decide) (fun _ _ _ _ _ => ⟨(g_nm nd_is_word (by rfl) (by first | exact Or.inl rfl | exact Or.inr rfl) (by first | exact Or.inl rfl | exact Or.inr rfl)), q_all, ((c_cmp hr .inn (c_var 1 (by rfl) (by first | exact Or.inl rfl | exact Or.inr (Or.inl rfl) | exact Or.inr (Or.inr rfl)) (by rfl) (by rfl)) (c_gstr (by rfl) x_LETTERS (by rfl)) (by rfl))).pe⟩) (by intro _; rfl)) a_nil (by rfl)) (by decide) (by rfl) (by rfl) (by rfl))) z_nil))
set_option maxHeartbeats 4000000 in
theorem ok_is_folk {f : Addr} {fd : FuncData} (fn : Fun K "is_folk" "is_folk" s_is_folk f fd) {f_is_number : Addr} {d_is_number : FuncData} (g_is_number : FnV P w K mg base 1 f_is_number d_is_number ["thing"] (spV K mg 1 F_is_number)) (m_is_number : mg "is_number" = some (.ref f_is_number)) (k_is_number : PySem.W.keepIn K (.ref f_is_number) = true) (b_is_number : Binds K d_is_number ["thing"] []) {f_is_word : Addr} {d_is_word : FuncData} (g_is_word : FnV P w K mg base 1 f_is_word d_is_word ["thing"] (spV K mg 1 F_is_word)) (m_is_word : mg "is_word" = some (.ref f_is_word)) (k_is_word : PySem.W.keepIn K (.ref f_is_word) = true) (b_is_word : Binds K d_is_word ["thing"] []) (z_isinstance : mg "isinstance" = none) (z_len : mg "len" = none) (z_str : mg "str" = none) : FnV P w K mg base 2 f fd ["day", "rest"] (spV K mg 2 F_is_folk) := by
  obtain ⟨oc, od, kV, doc, pm, an, cdv, ct, osl, rfl, lk, hcd⟩ := fn.ex
  refine fnV_sem (k := 1) (N := n_is_folk) (wb := w_is_folk) lk hcd sc_is_folk rfl rfl (by decide) (fun _ _ _ h => by unfold F_is_folk at h; exact h) fun A outer s H E B hr hgd => ?_
  exact (z_cons (z_if ((l_or (c_cmp hr .ne (c_primB (prim_ok hr hgd (by rfl) .len (fun _ => nofun) (fun _ => nofun)) rfl (by rfl) z_len (by rfl) (a_cons (c_var 1 (by rfl) (by first | exact Or.inl rfl | exact Or.inr (Or.inl rfl) | exact Or.inr (Or.inr rfl)) (by rfl) (by rfl)) a_nil (by rfl)) (by decide) (by rfl) (by rfl) (by rfl)) (c_int pe_int) (nomark _)) (l_or (c_not (c_snd (s_call g_is_word (hr.mono (by first | decide | omega)) hgd tkB (by rfl) m_is_word k_is_word b_is_word (a_cons (c_ix (c_var 1 (by rfl) (by first | exact Or.inl rfl | exact Or.inr (Or.inl rfl) | exact Or.inr (Or.inr rfl)) (by rfl) (by rfl)) (c_int pe_int) (fun _ _ => rfl)) a_nil (by rfl)) (by rfl) (by rfl) (by rfl)) (by intro _; rfl))) (l_one (c_not (c_snd (s_call g_is_word (hr.mono (by first | decide | omega)) hgd tkB (by rfl) m_is_word k_is_word b_is_word (a_cons (c_ix (c_var 1 (by rfl) (by first | exact Or.inl rfl | exact Or.inr (Or.inl rfl) | exact Or.inr (Or.inr rfl)) (by rfl) (by rfl)) (c_int pe_int) (fun _ _ => rfl)) a_nil (by rfl)) (by rfl) (by rfl) (by rfl)) (by intro _; rfl))))))).snd (z_cons (z_ret (c_bool pe_bl)) z_nil) z_nil) (z_cons (z_if ((l_or (c_not (c_snd (s_call g_is_number (hr.mono (by first | decide | omega)) hgd tkB (by rfl) m_is_number k_is_number b_is_number (a_cons (c_ix (c_var 1 (by rfl) (by first | exact Or.inl rfl | exact Or.inr (Or.inl rfl) | exact Or.inr (Or.inr rfl)) (by rfl) (by rfl)) (c_int pe_int) (fun _ _ => rfl)) a_nil (by rfl)) (by rfl) (by rfl) (by rfl)) (by intro _; rfl))) (l_or (c_cmp hr .gt (c_ix (c_var 1 (by rfl) (by first | exact Or.inl rfl | exact Or.inr (Or.inl rfl) | exact Or.inr (Or.inr rfl)) (by rfl) (by rfl)) (c_int pe_int) (fun _ _ => rfl)) (c_var 0 (by rfl) (by first | exact Or.inl rfl | exact Or.inr (Or.inl rfl) | exact Or.inr (Or.inr rfl)) (by rfl) (by rfl)) (nomark _)) (l_one (c_not (c_isi .str (by rfl) z_isinstance (by rfl) (by rfl) z_str (by rfl) (by decide) (by rfl) (c_ix (c_var 1 (by rfl) (by first | exact Or.inl rfl | exact Or.inr (Or.inl rfl) | exact Or.inr (Or.inr rfl)) (by rfl) (by rfl)) (c_int pe_int) (fun _ _ => rfl)) (by rfl) (by rfl) (by rfl))))))).snd (z_cons (z_ret (c_bool pe_bl)) z_nil) z_nil) (z_cons (z_ret (((l_or (c_cmp hr .eq (c_ix (c_var 1 (by rfl) (by first | exact Or.inl rfl | exact Or.inr (Or.inl rfl) | exact Or.inr (Or.inr rfl)) (by rfl) (by rfl)) (c_int pe_int) (fun _ _ => rfl)) (c_str pe_str) (nomark _)) (l_one ((l_and (c_snd (s_call g_is_word (hr.mono (by first | decide | omega)) hgd tkB (by rfl) m_is_word k_is_word b_is_word (a_cons (c_ix (c_var 1 (by rfl) (by first | exact Or.inl rfl | exact Or.inr (Or.inl rfl) | exact Or.inr (Or.inr rfl)) (by rfl) (by rfl)) (c_int pe_int) (fun _ _ => rfl)) a_nil (by rfl)) (by rfl) (by rfl) (by rfl)) (by intro _; rfl)) (l_one (c_cmp hr .ne (c_ix (c_var 1 (by rfl) (by first | exact Or.inl rfl | exact Or.inr (Or.inl rfl) | exact Or.inr (Or.inr rfl)) (by rfl) (by rfl)) (c_int pe_int) (fun _ _ => rfl)) (c_ix (c_var 1 (by rfl) (by first | exact Or.inl rfl | exact Or.inr (Or.inl rfl) | exact Or.inr (Or.inr rfl)) (by rfl) (by rfl)) (c_int pe_int) (fun _ _ => rfl)) (nomark _))))).snd))).snd).pe) z_nil)))
set_option maxHeartbeats 4000000 in
theorem ok_is_from {f : Addr} {fd : FuncData} (fn : Fun K "is_from" "is_from" s_is_from f fd) {f_is_number : Addr} {d_is_number : FuncData} (g_is_number : FnV P w K mg base 1 f_is_number d_is_number ["thing"] (spV K mg 1 F_is_number)) (m_is_number : mg "is_number" = some (.ref f_is_number)) (k_is_number : PySem.W.keepIn K (.ref f_is_number) = true) (b_is_number : Binds K d_is_number ["thing"] []) : FnV P w K mg base 2 f fd ["thing", "least"] (spV K mg 2 F_is_from) := by
  obtain ⟨oc, od, kV, doc, pm, an, cdv, ct, osl, rfl, lk, hcd⟩ := fn.ex
  refine fnV_sem (k := 1) (N := n_is_from) (wb := w_is_from) lk hcd sc_is_from rfl rfl (by decide) (fun _ _ _ h => by unfold F_is_from at h; exact h) fun A outer s H E B hr hgd => ?_
  exact (z_cons (z_ret (((l_and (c_snd (s_call g_is_number (hr.mono (by first | decide | omega)) hgd tkB (by rfl) m_is_number k_is_number b_is_number (a_cons (c_var 0 (by rfl) (by first | exact Or.inl rfl | exact Or.inr (Or.inl rfl) | exact Or.inr (Or.inr rfl)) (by rfl) (by rfl)) a_nil (by rfl)) (by rfl) (by rfl) (by rfl)) (by intro _; rfl)) (l_one (c_cmp hr .ge (c_var 0 (by rfl) (by first | exact Or.inl rfl | exact Or.inr (Or.inl rfl) | exact Or.inr (Or.inr rfl)) (by rfl) (by rfl)) (c_var 1 (by rfl) (by first | exact Or.inl rfl | exact Or.inr (Or.inl rfl) | exact Or.inr (Or.inr rfl)) (by rfl) (by rfl)) (nomark _))))).snd).pe) z_nil)
set_option maxHeartbeats 4000000 in
theorem ok_is_naming {f : Addr} {fd : FuncData} (fn : Fun K "is_naming" "is_naming" s_is_naming f fd) {f_is_from : Addr} {d_is_from : FuncData} (g_is_from : FnV P w K mg base 2 f_is_from d_is_from ["thing", "least"] (spV K mg 2 F_is_from)) (m_is_from : mg "is_from" = some (.ref f_is_from)) (k_is_from : PySem.W.keepIn K (.ref f_is_from) = true) (b_is_from : Binds K d_is_from ["thing", "least"] []) {f_is_word : Addr} {d_is_word : FuncData} (g_is_word : FnV P w K mg base 1 f_is_word d_is_word ["thing"] (spV K mg 1 F_is_word)) (m_is_word : mg "is_word" = some (.ref f_is_word)) (k_is_word : PySem.W.keepIn K (.ref f_is_word) = true) (b_is_word : Binds K d_is_word ["thing"] []) (z_len : mg "len" = none) : FnV P w K mg base 3 f fd ["rest"] (spV K mg 1 F_is_naming) := by
  obtain ⟨oc, od, kV, doc, pm, an, cdv, ct, osl, rfl, lk, hcd⟩ := fn.ex
  refine fnV_sem (k := 2) (N := n_is_naming) (wb := w_is_naming) lk hcd sc_is_naming rfl rfl (by decide) (fun _ _ _ h => by unfold F_is_naming at h; exact h) fun A outer s H E B hr hgd => ?_
  exact (z_cons (z_ret (((l_and (c_cmp hr .eq (c_primB (prim_ok hr hgd (by rfl) .len (fun _ => nofun) (fun _ => nofun)) rfl (by rfl) z_len (by rfl) (a_cons (c_var 0 (by rfl) (by first | exact Or.inl rfl | exact Or.inr (Or.inl rfl) | exact Or.inr (Or.inr rfl)) (by rfl) (by rfl)) a_nil (by rfl)) (by decide) (by rfl) (by rfl) (by rfl)) (c_int pe_int) (nomark _)) (l_and (c_snd (s_call g_is_word (hr.mono (by first | decide | omega)) hgd tkB (by rfl) m_is_word k_is_word b_is_word (a_cons (c_ix (c_var 0 (by rfl) (by first | exact Or.inl rfl | exact Or.inr (Or.inl rfl) | exact Or.inr (Or.inr rfl)) (by rfl) (by rfl)) (c_int pe_int) (fun _ _ => rfl)) a_nil (by rfl)) (by rfl) (by rfl) (by rfl)) (by intro _; rfl)) (l_and (c_snd (s_call g_is_from (hr.mono (by first | decide | omega)) hgd tkB (by rfl) m_is_from k_is_from b_is_from (a_cons (c_ix (c_var 0 (by rfl) (by first | exact Or.inl rfl | exact Or.inr (Or.inl rfl) | exact Or.inr (Or.inr rfl)) (by rfl) (by rfl)) (c_int pe_int) (fun _ _ => rfl)) (a_cons (c_int pe_int) a_nil (by rfl)) (by rfl)) (by rfl) (by rfl) (by rfl)) (by intro _; rfl)) (l_one (c_snd (s_call g_is_word (hr.mono (by first | decide | omega)) hgd tkB (by rfl) m_is_word k_is_word b_is_word (a_cons (c_ix (c_var 0 (by rfl) (by first | exact Or.inl rfl | exact Or.inr (Or.inl rfl) | exact Or.inr (Or.inr rfl)) (by rfl) (by rfl)) (c_int pe_int) (fun _ _ => rfl)) a_nil (by rfl)) (by rfl) (by rfl) (by rfl)) (by intro _; rfl))))))).snd).pe) z_nil)
set_option maxHeartbeats 4000000 in
theorem ok_is_rest {f : Addr} {fd : FuncData} (fn : Fun K "is_rest" "is_rest" s_is_rest f fd) {f_is_folk : Addr} {d_is_folk : FuncData} (g_is_folk : FnV P w K mg base 2 f_is_folk d_is_folk ["day", "rest"] (spV K mg 2 F_is_folk)) (m_is_folk : mg "is_folk" = some (.ref f_is_folk)) (k_is_folk : PySem.W.keepIn K (.ref f_is_folk) = true) (b_is_folk : Binds K d_is_folk ["day", "rest"] []) {f_is_from : Addr} {d_is_from : FuncData} (g_is_from : FnV P w K mg base 2 f_is_from d_is_from ["thing", "least"] (spV K mg 2 F_is_from)) (m_is_from : mg "is_from" = some (.ref f_is_from)) (k_is_from : PySem.W.keepIn K (.ref f_is_from) = true) (b_is_from : Binds K d_is_from ["thing", "least"] []) {f_is_naming : Addr} {d_is_naming : FuncData} (g_is_naming : FnV P w K mg base 3 f_is_naming d_is_naming ["rest"] (spV K mg 1 F_is_naming)) (m_is_naming : mg "is_naming" = some (.ref f_is_naming)) (k_is_naming : PySem.W.keepIn K (.ref f_is_naming) = true) (b_is_naming : Binds K d_is_naming ["rest"] []) {f_is_word : Addr} {d_is_word : FuncData} (g_is_word : FnV P w K mg base 1 f_is_word d_is_word ["thing"] (spV K mg 1 F_is_word)) (m_is_word : mg "is_word" = some (.ref f_is_word)) (k_is_word : PySem.W.keepIn K (.ref f_is_word) = true) (b_is_word : Binds K d_is_word ["thing"] []) (z_len : mg "len" = none) : FnV P w K mg base 4 f fd ["kind", "day", "rest"] (spV K mg 3 F_is_rest) := by
  obtain ⟨oc, od, kV, doc, pm, an, cdv, ct, osl, rfl, lk, hcd⟩ := fn.ex
  refine fnV_sem (k := 3) (N := n_is_rest) (wb := w_is_rest) lk hcd sc_is_rest rfl rfl (by decide) (fun _ _ _ h => by unfold F_is_rest at h; exact h) fun A outer s H E B hr hgd => ?_
  exact (z_cons (z_if (c_cmp hr .eq (c_var 0 (by rfl) (by first | exact Or.inl rfl | exact Or.inr (Or.inl rfl) | exact Or.inr (Or.inr rfl)) (by rfl) (by rfl)) (c_str pe_str) (nomark _)) (z_cons (z_ret (s_call g_is_folk (hr.mono (by first | decide | omega)) hgd tkB (by rfl) m_is_folk k_is_folk b_is_folk (a_cons (c_var 1 (by rfl) (by first | exact Or.inl rfl | exact Or.inr (Or.inl rfl) | exact Or.inr (Or.inr rfl)) (by rfl) (by rfl)) (a_cons (c_var 2 (by rfl) (by first | exact Or.inl rfl | exact Or.inr (Or.inl rfl) | exact Or.inr (Or.inr rfl)) (by rfl) (by rfl)) a_nil (by rfl)) (by rfl)) (by rfl) (by rfl) (by rfl))) z_nil) z_nil) (z_cons (z_if (c_cmp hr .eq (c_var 0 (by rfl) (by first | exact Or.inl rfl | exact Or.inr (Or.inl rfl) | exact Or.inr (Or.inr rfl)) (by rfl) (by rfl)) (c_str pe_str) (nomark _)) (z_cons (z_ret (s_call g_is_naming (hr.mono (by first | decide | omega)) hgd tkB (by rfl) m_is_naming k_is_naming b_is_naming (a_cons (c_var 2 (by rfl) (by first | exact Or.inl rfl | exact Or.inr (Or.inl rfl) | exact Or.inr (Or.inr rfl)) (by rfl) (by rfl)) a_nil (by rfl)) (by rfl) (by rfl) (by rfl))) z_nil) z_nil) (z_cons (z_if (c_cmp hr .inn (c_var 0 (by rfl) (by first | exact Or.inl rfl | exact Or.inr (Or.inl rfl) | exact Or.inr (Or.inr rfl)) (by rfl) (by rfl)) (c_tup (a_cons (c_str pe_str) (a_cons (c_str pe_str) a_nil (by rfl)) (by rfl))) (by rfl)) (z_cons (z_ret (((l_and (c_cmp hr .eq (c_primB (prim_ok hr hgd (by rfl) .len (fun _ => nofun) (fun _ => nofun)) rfl (by rfl) z_len (by rfl) (a_cons (c_var 2 (by rfl) (by first | exact Or.inl rfl | exact Or.inr (Or.inl rfl) | exact Or.inr (Or.inr rfl)) (by rfl) (by rfl)) a_nil (by rfl)) (by decide) (by rfl) (by rfl) (by rfl)) (c_int pe_int) (nomark _)) (l_and (c_snd (s_call g_is_word (hr.mono (by first | decide | omega)) hgd tkB (by rfl) m_is_word k_is_word b_is_word (a_cons (c_ix (c_var 2 (by rfl) (by first | exact Or.inl rfl | exact Or.inr (Or.inl rfl) | exact Or.inr (Or.inr rfl)) (by rfl) (by rfl)) (c_int pe_int) (fun _ _ => rfl)) a_nil (by rfl)) (by rfl) (by rfl) (by rfl)) (by intro _; rfl)) (l_and (c_snd (s_call g_is_word (hr.mono (by first | decide | omega)) hgd tkB (by rfl) m_is_word k_is_word b_is_word (a_cons (c_ix (c_var 2 (by rfl) (by first | exact Or.inl rfl | exact Or.inr (Or.inl rfl) | exact Or.inr (Or.inr rfl)) (by rfl) (by rfl)) (c_int pe_int) (fun _ _ => rfl)) a_nil (by rfl)) (by rfl) (by rfl) (by rfl)) (by intro _; rfl)) (l_one (c_cmp hr .ne (c_ix (c_var 2 (by rfl) (by first | exact Or.inl rfl | exact Or.inr (Or.inl rfl) | exact Or.inr (Or.inr rfl)) (by rfl) (by rfl)) (c_int pe_int) (fun _ _ => rfl)) (c_ix (c_var 2 (by rfl) (by first | exact Or.inl rfl | exact Or.inr (Or.inl rfl) | exact Or.inr (Or.inr rfl)) (by rfl) (by rfl)) (c_int pe_int) (fun _ _ => rfl)) (nomark _))))))).snd).pe) z_nil) z_nil) (z_cons (z_if (c_cmp hr .eq (c_var 0 (by rfl) (by first | exact Or.inl rfl | exact Or.inr (Or.inl rfl) | exact Or.inr (Or.inr rfl)) (by rfl) (by rfl)) (c_str pe_str) (nomark _)) (z_cons (z_ret (((l_and (c_cmp hr .eq (c_primB (prim_ok hr hgd (by rfl) .len (fun _ => nofun) (fun _ => nofun)) rfl (by rfl) z_len (by rfl) (a_cons (c_var 2 (by rfl) (by first | exact Or.inl rfl | exact Or.inr (Or.inl rfl) | exact Or.inr (Or.inr rfl)) (by rfl) (by rfl)) a_nil (by rfl)) (by decide) (by rfl) (by rfl) (by rfl)) (c_int pe_int) (nomark _)) (l_and (c_snd (s_call g_is_word (hr.mono (by first | decide | omega)) hgd tkB (by rfl) m_is_word k_is_word b_is_word (a_cons (c_ix (c_var 2 (by rfl) (by first | exact Or.inl rfl | exact Or.inr (Or.inl rfl) | exact Or.inr (Or.inr rfl)) (by rfl) (by rfl)) (c_int pe_int) (fun _ _ => rfl)) a_nil (by rfl)) (by rfl) (by rfl) (by rfl)) (by intro _; rfl)) (l_one (c_snd (s_call g_is_from (hr.mono (by first | decide | omega)) hgd tkB (by rfl) m_is_from k_is_from b_is_from (a_cons (c_ix (c_var 2 (by rfl) (by first | exact Or.inl rfl | exact Or.inr (Or.inl rfl) | exact Or.inr (Or.inr rfl)) (by rfl) (by rfl)) (c_int pe_int) (fun _ _ => rfl)) (a_cons (c_int pe_int) a_nil (by rfl)) (by rfl)) (by rfl) (by rfl) (by rfl)) (by intro _; rfl)))))).snd).pe) z_nil) z_nil) (z_cons (z_if (c_cmp hr .eq (c_var 0 (by rfl) (by first | exact Or.inl rfl | exact Or.inr (Or.inl rfl) | exact Or.inr (Or.inr rfl)) (by rfl) (by rfl)) (c_str pe_str) (nomark _)) (z_cons (z_ret (((l_and (c_cmp hr .eq (c_primB (prim_ok hr hgd (by rfl) .len (fun _ => nofun) (fun _ => nofun)) rfl (by rfl) z_len (by rfl) (a_cons (c_var 2 (by rfl) (by first | exact Or.inl rfl | exact Or.inr (Or.inl rfl) | exact Or.inr (Or.inr rfl)) (by rfl) (by rfl)) a_nil (by rfl)) (by decide) (by rfl) (by rfl) (by rfl)) (c_int pe_int) (nomark _)) (l_one (c_snd (s_call g_is_from (hr.mono (by first | decide | omega)) hgd tkB (by rfl) m_is_from k_is_from b_is_from (a_cons (c_ix (c_var 2 (by rfl) (by first | exact Or.inl rfl | exact Or.inr (Or.inl rfl) | exact Or.inr (Or.inr rfl)) (by rfl) (by rfl)) (c_int pe_int) (fun _ _ => rfl)) (a_cons (c_int pe_int) a_nil (by rfl)) (by rfl)) (by rfl) (by rfl) (by rfl)) (by intro _; rfl))))).snd).pe) z_nil) z_nil) (z_cons (z_ret (((l_and (c_cmp hr .eq (c_primB (prim_ok hr hgd (by rfl) .len (fun _ => nofun) (fun _ => nofun)) rfl (by rfl) z_len (by rfl) (a_cons (c_var 2 (by rfl) (by first | exact Or.inl rfl | exact Or.inr (Or.inl rfl) | exact Or.inr (Or.inr rfl)) (by rfl) (by rfl)) a_nil (by rfl)) (by decide) (by rfl) (by rfl) (by rfl)) (c_int pe_int) (nomark _)) (l_one (c_snd (s_call g_is_word (hr.mono (by first | decide | omega)) hgd tkB (by rfl) m_is_word k_is_word b_is_word (a_cons (c_ix (c_var 2 (by rfl) (by first | exact Or.inl rfl | exact Or.inr (Or.inl rfl) | exact Or.inr (Or.inr rfl)) (by rfl) (by rfl)) (c_int pe_int) (fun _ _ => rfl)) a_nil (by rfl)) (by rfl) (by rfl) (by rfl)) (by intro _; rfl))))).snd).pe) z_nil))))))
set_option maxHeartbeats 4000000 in
theorem ok_is_to {f : Addr} {fd : FuncData} (fn : Fun K "is_to" "is_to" s_is_to f fd) {f_is_from : Addr} {d_is_from : FuncData} (g_is_from : FnV P w K mg base 2 f_is_from d_is_from ["thing", "least"] (spV K mg 2 F_is_from)) (m_is_from : mg "is_from" = some (.ref f_is_from)) (k_is_from : PySem.W.keepIn K (.ref f_is_from) = true) (b_is_from : Binds K d_is_from ["thing", "least"] []) : FnV P w K mg base 3 f fd ["thing", "most"] (spV K mg 2 F_is_to) := by
  obtain ⟨oc, od, kV, doc, pm, an, cdv, ct, osl, rfl, lk, hcd⟩ := fn.ex
  refine fnV_sem (k := 2) (N := n_is_to) (wb := w_is_to) lk hcd sc_is_to rfl rfl (by decide) (fun _ _ _ h => by unfold F_is_to at h; exact h) fun A outer s H E B hr hgd => ?_
  exact (z_cons (z_ret (((l_and (c_snd (s_call g_is_from (hr.mono (by first | decide | omega)) hgd tkB (by rfl) m_is_from k_is_from b_is_from (a_cons (c_var 0 (by rfl) (by first | exact Or.inl rfl | exact Or.inr (Or.inl rfl) | exact Or.inr (Or.inr rfl)) (by rfl) (by rfl)) (a_cons (c_int pe_int) a_nil (by rfl)) (by rfl)) (by rfl) (by rfl) (by rfl)) (by intro _; rfl)) (l_one (c_cmp hr .le (c_var 0 (by rfl) (by first | exact Or.inl rfl | exact Or.inr (Or.inl rfl) | exact Or.inr (Or.inr rfl)) (by rfl) (by rfl)) (c_var 1 (by rfl) (by first | exact Or.inl rfl | exact Or.inr (Or.inl rfl) | exact Or.inr (Or.inr rfl)) (by rfl) (by rfl)) (nomark _))))).snd).pe) z_nil)
set_option maxHeartbeats 4000000 in
theorem ok_is_page {f : Addr} {fd : FuncData} (fn : Fun K "is_page" "is_page" s_is_page f fd) {f_is_rest : Addr} {d_is_rest : FuncData} (g_is_rest : FnV P w K mg base 4 f_is_rest d_is_rest ["kind", "day", "rest"] (spV K mg 3 F_is_rest)) (m_is_rest : mg "is_rest" = some (.ref f_is_rest)) (k_is_rest : PySem.W.keepIn K (.ref f_is_rest) = true) (b_is_rest : Binds K d_is_rest ["kind", "day", "rest"] []) {f_is_to : Addr} {d_is_to : FuncData} (g_is_to : FnV P w K mg base 3 f_is_to d_is_to ["thing", "most"] (spV K mg 2 F_is_to)) (m_is_to : mg "is_to" = some (.ref f_is_to)) (k_is_to : PySem.W.keepIn K (.ref f_is_to) = true) (b_is_to : Binds K d_is_to ["thing", "most"] []) (z_isinstance : mg "isinstance" = none) (z_len : mg "len" = none) (z_str : mg "str" = none) (z_tuple : mg "tuple" = none) {a_KINDS n_KINDS : Nat} {sl_KINDS : Array (Option Value)} {t0_KINDS t1_KINDS t2_KINDS t3_KINDS t4_KINDS t5_KINDS t6_KINDS t7_KINDS : Tok} (x_KINDS : mg "KINDS" = some (.ref a_KINDS)) (l_KINDS : K.lookup a_KINDS = some ⟨.type "tuple", none, .seq #[.str "folk" t0_KINDS, .str "heir" t1_KINDS, .str "sell" t2_KINDS, .str "away" t3_KINDS, .str "rent" t4_KINDS, .str "ask" t5_KINDS, .str "name" t6_KINDS, .str "go" t7_KINDS] n_KINDS, sl_KINDS⟩) {t_MOST_DAY : Tok} (x_MOST_DAY : mg "MOST_DAY" = some (.int 99999 t_MOST_DAY)) {t_MOST_NUMBER : Tok} (x_MOST_NUMBER : mg "MOST_NUMBER" = some (.int 999 t_MOST_NUMBER)) : FnV P w K mg base 5 f fd ["thing"] (spV K mg 1 F_is_page) := by
  obtain ⟨oc, od, kV, doc, pm, an, cdv, ct, osl, rfl, lk, hcd⟩ := fn.ex
  refine fnV_sem (k := 4) (N := n_is_page) (wb := w_is_page) lk hcd sc_is_page rfl rfl (by decide) (fun _ _ _ h => by unfold F_is_page at h; exact h) fun A outer s H E B hr hgd => ?_
  exact (z_cons (z_if ((l_or (c_not (c_isi .tuple (by rfl) z_isinstance (by rfl) (by rfl) z_tuple (by rfl) (by decide) (by rfl) (c_var 0 (by rfl) (by first | exact Or.inl rfl | exact Or.inr (Or.inl rfl) | exact Or.inr (Or.inr rfl)) (by rfl) (by rfl)) (by rfl) (by rfl) (by rfl))) (l_or (c_cmp hr .lt (c_primB (prim_ok hr hgd (by rfl) .len (fun _ => nofun) (fun _ => nofun)) rfl (by rfl) z_len (by rfl) (a_cons (c_var 0 (by rfl) (by first | exact Or.inl rfl | exact Or.inr (Or.inl rfl) | exact Or.inr (Or.inr rfl)) (by rfl) (by rfl)) a_nil (by rfl)) (by decide) (by rfl) (by rfl) (by rfl)) (c_int pe_int) (nomark _)) (l_one (c_not (c_snd (s_call g_is_to (hr.mono (by first | decide | omega)) hgd tkB (by rfl) m_is_to k_is_to b_is_to (a_cons (c_ix (c_var 0 (by rfl) (by first | exact Or.inl rfl | exact Or.inr (Or.inl rfl) | exact Or.inr (Or.inr rfl)) (by rfl) (by rfl)) (c_int pe_int) (fun _ _ => rfl)) (a_cons (c_gint (by rfl) x_MOST_DAY (by rfl)) a_nil (by rfl)) (by rfl)) (by rfl) (by rfl) (by rfl)) (by intro _; rfl))))))).snd (z_cons (z_ret (c_bool pe_bl)) z_nil) z_nil) (z_cons (z_if ((l_or (c_not (c_snd (s_call g_is_to (hr.mono (by first | decide | omega)) hgd tkB (by rfl) m_is_to k_is_to b_is_to (a_cons (c_ix (c_var 0 (by rfl) (by first | exact Or.inl rfl | exact Or.inr (Or.inl rfl) | exact Or.inr (Or.inr rfl)) (by rfl) (by rfl)) (c_int pe_int) (fun _ _ => rfl)) (a_cons (c_gint (by rfl) x_MOST_NUMBER (by rfl)) a_nil (by rfl)) (by rfl)) (by rfl) (by rfl) (by rfl)) (by intro _; rfl))) (l_or (c_not (c_isi .str (by rfl) z_isinstance (by rfl) (by rfl) z_str (by rfl) (by decide) (by rfl) (c_ix (c_var 0 (by rfl) (by first | exact Or.inl rfl | exact Or.inr (Or.inl rfl) | exact Or.inr (Or.inr rfl)) (by rfl) (by rfl)) (c_int pe_int) (fun _ _ => rfl)) (by rfl) (by rfl) (by rfl))) (l_one (c_cmp hr .notIn (c_ix (c_var 0 (by rfl) (by first | exact Or.inl rfl | exact Or.inr (Or.inl rfl) | exact Or.inr (Or.inr rfl)) (by rfl) (by rfl)) (c_int pe_int) (fun _ _ => rfl)) (c_gtup (vs := [.str "folk", .str "heir", .str "sell", .str "away", .str "rent", .str "ask", .str "name", .str "go"]) (ds := [.str "folk", .str "heir", .str "sell", .str "away", .str "rent", .str "ask", .str "name", .str "go"]) (by rfl) x_KINDS l_KINDS rfl rfl rfl (Nat.le_of_ble_eq_true rfl) (.cons ⟨_, rfl⟩ (.cons ⟨_, rfl⟩ (.cons ⟨_, rfl⟩ (.cons ⟨_, rfl⟩ (.cons ⟨_, rfl⟩ (.cons ⟨_, rfl⟩ (.cons ⟨_, rfl⟩ (.cons ⟨_, rfl⟩ .nil)))))))) (fun _ _ => (.cons (.str _) (.cons (.str _) (.cons (.str _) (.cons (.str _) (.cons (.str _) (.cons (.str _) (.cons (.str _) (.cons (.str _) .nil))))))))) (by rfl)) (by rfl)))))).snd (z_cons (z_ret (c_bool pe_bl)) z_nil) z_nil) (z_cons (z_ret (s_call g_is_rest (hr.mono (by first | decide | omega)) hgd tkB (by rfl) m_is_rest k_is_rest b_is_rest (a_cons (c_ix (c_var 0 (by rfl) (by first | exact Or.inl rfl | exact Or.inr (Or.inl rfl) | exact Or.inr (Or.inr rfl)) (by rfl) (by rfl)) (c_int pe_int) (fun _ _ => rfl)) (a_cons (c_ix (c_var 0 (by rfl) (by first | exact Or.inl rfl | exact Or.inr (Or.inl rfl) | exact Or.inr (Or.inr rfl)) (by rfl) (by rfl)) (c_int pe_int) (fun _ _ => rfl)) (a_cons (c_sl (c_var 0 (by rfl) (by first | exact Or.inl rfl | exact Or.inr (Or.inl rfl) | exact Or.inr (Or.inr rfl)) (by rfl) (by rfl)) (o_some (c_int pe_int)) o_none) a_nil (by rfl)) (by rfl)) (by rfl)) (by rfl) (by rfl) (by rfl))) z_nil)))
set_option maxHeartbeats 4000000 in
theorem ok__law_is_book {f : Addr} {fd : FuncData} (fn : Fun K "_law_is_book" "_law_is_book" s__law_is_book f fd) {f__law_key : Addr} {d__law_key : FuncData} (g__law_key : FnV P w K mg base 1 f__law_key d__law_key ["_law_page"] (spV K mg 1 F__law_key)) (m__law_key : mg "_law_key" = some (.ref f__law_key)) (k__law_key : PySem.W.keepIn K (.ref f__law_key) = true) (b__law_key : Binds K d__law_key ["_law_page"] []) {f_is_page : Addr} {d_is_page : FuncData} (g_is_page : FnV P w K mg base 5 f_is_page d_is_page ["thing"] (spV K mg 1 F_is_page)) (m_is_page : mg "is_page" = some (.ref f_is_page)) (k_is_page : PySem.W.keepIn K (.ref f_is_page) = true) (b_is_page : Binds K d_is_page ["thing"] []) (z_isinstance : mg "isinstance" = none) (z_len : mg "len" = none) (z_range : mg "range" = none) (z_tuple : mg "tuple" = none) : FnV P w K mg base 6 f fd ["_law_thing"] (spV K mg 1 F__law_is_book) := by
  obtain ⟨oc, od, kV, doc, pm, an, cdv, ct, osl, rfl, lk, hcd⟩ := fn.ex
  refine fnV_sem (k := 5) (N := n__law_is_book) (wb := w__law_is_book) lk hcd sc__law_is_book rfl rfl (by decide) (fun _ _ _ h => by unfold F__law_is_book at h; exact h) fun A outer s H E B hr hgd => ?_
  exact (z_cons (z_if ((l_or (c_not (c_isi .tuple (by rfl) z_isinstance (by rfl) (by rfl) z_tuple (by rfl) (by decide) (by rfl) (c_var 0 (by rfl) (by first | exact Or.inl rfl | exact Or.inr (Or.inl rfl) | exact Or.inr (Or.inr rfl)) (by rfl) (by rfl)) (by rfl) (by rfl) (by rfl))) (l_one (c_cmp hr .ne (c_comp (own := [("_law_one", 2)]) (by rfl) nd__law_is_book (i_e (c_var 0 (by rfl) (by first | exact Or.inl rfl | exact Or.inr (Or.inl rfl) | exact Or.inr (Or.inr rfl)) (by rfl) (by rfl))) (blkOk_by (own := [("_law_one", 2)]) (N := n__law_is_book) (sc := (defScope s__law_is_book)) (by decide +kernel)) (by decide) (by decide) (fun _ _ _ _ _ => ⟨(g_nm nd__law_is_book (by rfl) (by first | exact Or.inl rfl | exact Or.inr rfl) (by first | exact Or.inl rfl | exact Or.inr rfl)), (q_one (c_not (c_snd (s_call g_is_page (hr.mono (by first | decide | omega)) hgd (takes_blk rfl) (by rfl) m_is_page k_is_page b_is_page (a_cons (c_var 2 (by rfl) (by first | exact Or.inl rfl | exact Or.inr (Or.inl rfl) | exact Or.inr (Or.inr rfl)) (by rfl) (by rfl)) a_nil (by rfl)) (by rfl) (by rfl) (by rfl)) (by intro _; rfl)))), (c_var 2 (by rfl) (by first | exact Or.inl rfl | exact Or.inr (Or.inl rfl) | exact Or.inr (Or.inr rfl)) (by rfl) (by rfl))⟩) (by intro _; rfl)) (c_lst a_nil) (nomark _))))).snd (z_cons (z_ret (c_bool pe_bl)) z_nil) z_nil) (z_cons (z_asg (c_comp (own := [("_law_page", 3)]) (by rfl) nd__law_is_book (i_e (c_var 0 (by rfl) (by first | exact Or.inl rfl | exact Or.inr (Or.inl rfl) | exact Or.inr (Or.inr rfl)) (by rfl) (by rfl))) (blkOk_by (own := [("_law_page", 3)]) (N := n__law_is_book) (sc := (defScope s__law_is_book)) (by decide +kernel)) (by decide) (by decide) (fun _ _ _ _ _ => ⟨(g_nm nd__law_is_book (by rfl) (by first | exact Or.inl rfl | exact Or.inr rfl) (by first | exact Or.inl rfl | exact Or.inr rfl)), q_all, (s_call g__law_key (hr.mono (by first | decide | omega)) hgd (takes_blk rfl) (by rfl) m__law_key k__law_key b__law_key (a_cons (c_var 3 (by rfl) (by first | exact Or.inl rfl | exact Or.inr (Or.inl rfl) | exact Or.inr (Or.inr rfl)) (by rfl) (by rfl)) a_nil (by rfl)) (by rfl) (by rfl) (by rfl))⟩) (by intro _; rfl)) (g_nm nd__law_is_book (by rfl) (by first | exact Or.inl rfl | exact Or.inr rfl) (by first | exact Or.inl rfl | exact Or.inr rfl)) (by rfl) (by rfl) (by rfl)) (z_cons (z_ret ((c_cmp hr .eq (c_comp (own := [("_law_k", 4)]) (by rfl) nd__law_is_book (i_rg2 (by rfl) z_range (c_int pe_int) (c_primB (prim_ok hr hgd (by rfl) .len (fun _ => nofun) (fun _ => nofun)) rfl (by rfl) z_len (by rfl) (a_cons (c_var 1 (by rfl) (by first | exact Or.inl rfl | exact Or.inr (Or.inl rfl) | exact Or.inr (Or.inr rfl)) (by rfl) (by rfl)) a_nil (by rfl)) (by decide) (by rfl) (by rfl) (by rfl)) (by rfl) (by rfl)) (blkOk_by (own := [("_law_k", 4)]) (N := n__law_is_book) (sc := (defScope s__law_is_book)) (by decide +kernel)) (by decide) (by decide) (fun _ _ _ _ _ => ⟨(g_nm nd__law_is_book (by rfl) (by first | exact Or.inl rfl | exact Or.inr rfl) (by first | exact Or.inl rfl | exact Or.inr rfl)), (q_one (c_not (c_ltN hr (c_ix (c_var 1 (by rfl) (by first | exact Or.inl rfl | exact Or.inr (Or.inl rfl) | exact Or.inr (Or.inr rfl)) (by rfl) (by rfl)) (c_bin .sub (c_var 4 (by rfl) (by first | exact Or.inl rfl | exact Or.inr (Or.inl rfl) | exact Or.inr (Or.inr rfl)) (by rfl) (by rfl)) (c_int pe_int)) (fun _ _ => rfl)) (c_ix (c_var 1 (by rfl) (by first | exact Or.inl rfl | exact Or.inr (Or.inl rfl) | exact Or.inr (Or.inr rfl)) (by rfl) (by rfl)) (c_var 4 (by rfl) (by first | exact Or.inl rfl | exact Or.inr (Or.inl rfl) | exact Or.inr (Or.inr rfl)) (by rfl) (by rfl)) (fun _ _ => rfl)) (nomark _)))), (c_var 4 (by rfl) (by first | exact Or.inl rfl | exact Or.inr (Or.inl rfl) | exact Or.inr (Or.inr rfl)) (by rfl) (by rfl))⟩) (by intro _; rfl)) (c_lst a_nil) (nomark _))).pe) z_nil)))
set_option maxHeartbeats 4000000 in
theorem ok__law_names {f : Addr} {fd : FuncData} (fn : Fun K "_law_names" "_law_names" s__law_names f fd) {f__law_draw : Addr} {d__law_draw : FuncData} (g__law_draw : FnV P w K mg base 1 f__law_draw d__law_draw ["_law_feed_here", "_law_many"] (spV K mg 2 F__law_draw)) (m__law_draw : mg "_law_draw" = some (.ref f__law_draw)) (k__law_draw : PySem.W.keepIn K (.ref f__law_draw) = true) (b__law_draw : Binds K d__law_draw ["_law_feed_here", "_law_many"] []) : FnV P w K mg base 2 f fd ["_law_feed_here"] (spV K mg 1 F__law_names) := by
  obtain ⟨oc, od, kV, doc, pm, an, cdv, ct, osl, rfl, lk, hcd⟩ := fn.ex
  refine fnV_sem (k := 1) (N := n__law_names) (wb := w__law_names) lk hcd sc__law_names rfl rfl (by decide) (fun _ _ _ h => by unfold F__law_names at h; exact h) fun A outer s H E B hr hgd => ?_
  exact (z_cons (z_asg (c_str pe_str) (g_nm nd__law_names (by rfl) (by first | exact Or.inl rfl | exact Or.inr rfl) (by first | exact Or.inl rfl | exact Or.inr rfl)) (by rfl) (by rfl) (by rfl)) (z_cons (z_asg (s_call g__law_draw (hr.mono (by first | decide | omega)) hgd tkB (by rfl) m__law_draw k__law_draw b__law_draw (a_cons (c_var 0 (by rfl) (by first | exact Or.inl rfl | exact Or.inr (Or.inl rfl) | exact Or.inr (Or.inr rfl)) (by rfl) (by rfl)) (a_cons (c_int pe_int) a_nil (by rfl)) (by rfl)) (by rfl) (by rfl) (by rfl)) (g_nm nd__law_names (by rfl) (by first | exact Or.inl rfl | exact Or.inr rfl) (by first | exact Or.inl rfl | exact Or.inr rfl)) (by rfl) (by rfl) (by rfl)) (z_cons (z_par (i := 3) (j := 4) (by rfl) nd__law_names (by rfl) (by rfl) (by decide) (by rfl) (by rfl) (a_cons (c_ix (c_var 1 (by rfl) (by first | exact Or.inl rfl | exact Or.inr (Or.inl rfl) | exact Or.inr (Or.inr rfl)) (by rfl) (by rfl)) (c_var 2 (by rfl) (by first | exact Or.inl rfl | exact Or.inr (Or.inl rfl) | exact Or.inr (Or.inr rfl)) (by rfl) (by rfl)) (fun _ _ => rfl)) (a_cons (c_ix (c_var 1 (by rfl) (by first | exact Or.inl rfl | exact Or.inr (Or.inl rfl) | exact Or.inr (Or.inr rfl)) (by rfl) (by rfl)) (c_bin .mod (c_bin .add (c_bin .add (c_var 2 (by rfl) (by first | exact Or.inl rfl | exact Or.inr (Or.inl rfl) | exact Or.inr (Or.inr rfl)) (by rfl) (by rfl)) (c_int pe_int)) (s_call g__law_draw (hr.mono (by first | decide | omega)) hgd tkB (by rfl) m__law_draw k__law_draw b__law_draw (a_cons (c_var 0 (by rfl) (by first | exact Or.inl rfl | exact Or.inr (Or.inl rfl) | exact Or.inr (Or.inr rfl)) (by rfl) (by rfl)) (a_cons (c_int pe_int) a_nil (by rfl)) (by rfl)) (by rfl) (by rfl) (by rfl))) (c_int pe_int)) (fun _ _ => rfl)) a_nil (by rfl)) (by rfl)) (by rfl) (by rfl)) (z_cons (z_asg (c_lst (a_cons (c_var 3 (by rfl) (by first | exact Or.inl rfl | exact Or.inr (Or.inl rfl) | exact Or.inr (Or.inr rfl)) (by rfl) (by rfl)) (a_cons (c_bin .add (c_var 3 (by rfl) (by first | exact Or.inl rfl | exact Or.inr (Or.inl rfl) | exact Or.inr (Or.inr rfl)) (by rfl) (by rfl)) (c_var 4 (by rfl) (by first | exact Or.inl rfl | exact Or.inr (Or.inl rfl) | exact Or.inr (Or.inr rfl)) (by rfl) (by rfl))) (a_cons (c_bin .add (c_bin .add (c_var 3 (by rfl) (by first | exact Or.inl rfl | exact Or.inr (Or.inl rfl) | exact Or.inr (Or.inr rfl)) (by rfl) (by rfl)) (c_var 4 (by rfl) (by first | exact Or.inl rfl | exact Or.inr (Or.inl rfl) | exact Or.inr (Or.inr rfl)) (by rfl) (by rfl))) (c_var 3 (by rfl) (by first | exact Or.inl rfl | exact Or.inr (Or.inl rfl) | exact Or.inr (Or.inr rfl)) (by rfl) (by rfl))) (a_cons (c_var 4 (by rfl) (by first | exact Or.inl rfl | exact Or.inr (Or.inl rfl) | exact Or.inr (Or.inr rfl)) (by rfl) (by rfl)) (a_cons (c_bin .add (c_var 4 (by rfl) (by first | exact Or.inl rfl | exact Or.inr (Or.inl rfl) | exact Or.inr (Or.inr rfl)) (by rfl) (by rfl)) (c_var 3 (by rfl) (by first | exact Or.inl rfl | exact Or.inr (Or.inl rfl) | exact Or.inr (Or.inr rfl)) (by rfl) (by rfl))) (a_cons (c_bin .add (c_var 3 (by rfl) (by first | exact Or.inl rfl | exact Or.inr (Or.inl rfl) | exact Or.inr (Or.inr rfl)) (by rfl) (by rfl)) (c_var 3 (by rfl) (by first | exact Or.inl rfl | exact Or.inr (Or.inl rfl) | exact Or.inr (Or.inr rfl)) (by rfl) (by rfl))) (a_cons (c_bin .add (c_var 4 (by rfl) (by first | exact Or.inl rfl | exact Or.inr (Or.inl rfl) | exact Or.inr (Or.inr rfl)) (by rfl) (by rfl)) (c_var 4 (by rfl) (by first | exact Or.inl rfl | exact Or.inr (Or.inl rfl) | exact Or.inr (Or.inr rfl)) (by rfl) (by rfl))) (a_cons (c_bin .add (c_var 4 (by rfl) (by first | exact Or.inl rfl | exact Or.inr (Or.inl rfl) | exact Or.inr (Or.inr rfl)) (by rfl) (by rfl)) (c_bin .mul (c_var 3 (by rfl) (by first | exact Or.inl rfl | exact Or.inr (Or.inl rfl) | exact Or.inr (Or.inr rfl)) (by rfl) (by rfl)) (c_int pe_int))) (a_cons (c_bin .add (c_bin .add (c_var 3 (by rfl) (by first | exact Or.inl rfl | exact Or.inr (Or.inl rfl) | exact Or.inr (Or.inr rfl)) (by rfl) (by rfl)) (c_var 3 (by rfl) (by first | exact Or.inl rfl | exact Or.inr (Or.inl rfl) | exact Or.inr (Or.inr rfl)) (by rfl) (by rfl))) (c_var 4 (by rfl) (by first | exact Or.inl rfl | exact Or.inr (Or.inl rfl) | exact Or.inr (Or.inr rfl)) (by rfl) (by rfl))) a_nil (by rfl)) (by rfl)) (by rfl)) (by rfl)) (by rfl)) (by rfl)) (by rfl)) (by rfl)) (by rfl))) (g_nm nd__law_names (by rfl) (by first | exact Or.inl rfl | exact Or.inr rfl) (by first | exact Or.inl rfl | exact Or.inr rfl)) (by rfl) (by rfl) (by rfl)) (z_cons (z_asg (c_lst (a_cons (c_bin .add (c_bin .add (c_var 3 (by rfl) (by first | exact Or.inl rfl | exact Or.inr (Or.inl rfl) | exact Or.inr (Or.inr rfl)) (by rfl) (by rfl)) (c_var 4 (by rfl) (by first | exact Or.inl rfl | exact Or.inr (Or.inl rfl) | exact Or.inr (Or.inr rfl)) (by rfl) (by rfl))) (c_var 4 (by rfl) (by first | exact Or.inl rfl | exact Or.inr (Or.inl rfl) | exact Or.inr (Or.inr rfl)) (by rfl) (by rfl))) (a_cons (c_bin .add (c_bin .add (c_var 4 (by rfl) (by first | exact Or.inl rfl | exact Or.inr (Or.inl rfl) | exact Or.inr (Or.inr rfl)) (by rfl) (by rfl)) (c_var 3 (by rfl) (by first | exact Or.inl rfl | exact Or.inr (Or.inl rfl) | exact Or.inr (Or.inr rfl)) (by rfl) (by rfl))) (c_var 4 (by rfl) (by first | exact Or.inl rfl | exact Or.inr (Or.inl rfl) | exact Or.inr (Or.inr rfl)) (by rfl) (by rfl))) (a_cons (c_bin .add (c_bin .add (c_var 4 (by rfl) (by first | exact Or.inl rfl | exact Or.inr (Or.inl rfl) | exact Or.inr (Or.inr rfl)) (by rfl) (by rfl)) (c_var 4 (by rfl) (by first | exact Or.inl rfl | exact Or.inr (Or.inl rfl) | exact Or.inr (Or.inr rfl)) (by rfl) (by rfl))) (c_var 3 (by rfl) (by first | exact Or.inl rfl | exact Or.inr (Or.inl rfl) | exact Or.inr (Or.inr rfl)) (by rfl) (by rfl))) (a_cons (c_bin .mul (c_var 4 (by rfl) (by first | exact Or.inl rfl | exact Or.inr (Or.inl rfl) | exact Or.inr (Or.inr rfl)) (by rfl) (by rfl)) (c_int pe_int)) (a_cons (c_bin .mul (c_var 3 (by rfl) (by first | exact Or.inl rfl | exact Or.inr (Or.inl rfl) | exact Or.inr (Or.inr rfl)) (by rfl) (by rfl)) (c_int pe_int)) (a_cons (c_bin .mul (c_var 3 (by rfl) (by first | exact Or.inl rfl | exact Or.inr (Or.inl rfl) | exact Or.inr (Or.inr rfl)) (by rfl) (by rfl)) (c_int pe_int)) (a_cons (c_bin .mul (c_var 4 (by rfl) (by first | exact Or.inl rfl | exact Or.inr (Or.inl rfl) | exact Or.inr (Or.inr rfl)) (by rfl) (by rfl)) (c_int pe_int)) a_nil (by rfl)) (by rfl)) (by rfl)) (by rfl)) (by rfl)) (by rfl)) (by rfl))) (g_nm nd__law_names (by rfl) (by first | exact Or.inl rfl | exact Or.inr rfl) (by first | exact Or.inl rfl | exact Or.inr rfl)) (by rfl) (by rfl) (by rfl)) (z_cons (z_ret (c_ife (c_cmp hr .eq (c_bin .mod (c_var 2 (by rfl) (by first | exact Or.inl rfl | exact Or.inr (Or.inl rfl) | exact Or.inr (Or.inr rfl)) (by rfl) (by rfl)) (c_int pe_int)) (c_int pe_int) (nomark _)) (c_bin .add (c_var 5 (by rfl) (by first | exact Or.inl rfl | exact Or.inr (Or.inl rfl) | exact Or.inr (Or.inr rfl)) (by rfl) (by rfl)) (c_var 6 (by rfl) (by first | exact Or.inl rfl | exact Or.inr (Or.inl rfl) | exact Or.inr (Or.inr rfl)) (by rfl) (by rfl))) (c_var 5 (by rfl) (by first | exact Or.inl rfl | exact Or.inr (Or.inl rfl) | exact Or.inr (Or.inr rfl)) (by rfl) (by rfl)))) z_nil))))))
set_option maxHeartbeats 4000000 in
theorem ok__law_same {f : Addr} {fd : FuncData} (fn : Fun K "_law_same" "_law_same" s__law_same f fd) (z_all : mg "all" = none) (z_bool : mg "bool" = none) (z_int : mg "int" = none) (z_isinstance : mg "isinstance" = none) (z_len : mg "len" = none) (z_list : mg "list" = none) (z_range : mg "range" = none) (z_str : mg "str" = none) (z_tuple : mg "tuple" = none) (m__law_same : mg "_law_same" = some (.ref f)) (k__law_same : PySem.W.keepIn K (.ref f) = true) (b__law_same : Binds K fd ["_law_found", "_law_due"] []) : ∀ d : Nat, FnV P w K mg base (1 + d) f fd ["_law_found", "_law_due"] (spV K mg 2 (F__law_same d)) := by
  obtain ⟨oc, od, kV, doc, pm, an, cdv, ct, osl, rfl, lk, hcd⟩ := fn.ex
  intro d
  induction d with
  | zero => unfold F__law_same; exact fnV_zero
  | succ d ih =>
    refine fnV_sem (k := 1 + d) (N := n__law_same) (wb := w__law_same (F__law_same d)) lk hcd sc__law_same rfl rfl (by decide) (fun _ _ _ h => by rw [F__law_same_s] at h; exact h) fun A outer s H E B hr hgd => ?_
    exact (z_cons (z_if (c_isis (t1 := .tuple) (t2 := .list) (by rfl) z_isinstance (by rfl) (by rfl) z_tuple (by rfl) (by decide) (by rfl) (by rfl) z_list (by rfl) (by decide) (by rfl) (c_var 1 (by rfl) (by first | exact Or.inl rfl | exact Or.inr (Or.inl rfl) | exact Or.inr (Or.inr rfl)) (by rfl) (by rfl)) (by rfl) (by rfl) (by rfl) (by rfl) (by rfl)) (z_cons (z_asg (c_ife (c_isi .tuple (by rfl) z_isinstance (by rfl) (by rfl) z_tuple (by rfl) (by decide) (by rfl) (c_var 1 (by rfl) (by first | exact Or.inl rfl | exact Or.inr (Or.inl rfl) | exact Or.inr (Or.inr rfl)) (by rfl) (by rfl)) (by rfl) (by rfl) (by rfl)) ((c_isi .tuple (by rfl) z_isinstance (by rfl) (by rfl) z_tuple (by rfl) (by decide) (by rfl) (c_var 0 (by rfl) (by first | exact Or.inl rfl | exact Or.inr (Or.inl rfl) | exact Or.inr (Or.inr rfl)) (by rfl) (by rfl)) (by rfl) (by rfl) (by rfl))).pe ((c_isi .list (by rfl) z_isinstance (by rfl) (by rfl) z_list (by rfl) (by decide) (by rfl) (c_var 0 (by rfl) (by first | exact Or.inl rfl | exact Or.inr (Or.inl rfl) | exact Or.inr (Or.inr rfl)) (by rfl) (by rfl)) (by rfl) (by rfl) (by rfl))).pe) (g_nm nd__law_same (by rfl) (by first | exact Or.inl rfl | exact Or.inr rfl) (by first | exact Or.inl rfl | exact Or.inr rfl)) (by rfl) (by rfl) (by rfl)) (z_cons (z_if ((l_or (c_not (c_snd (c_var 2 (by rfl) (by first | exact Or.inl rfl | exact Or.inr (Or.inl rfl) | exact Or.inr (Or.inr rfl)) (by rfl) (by rfl)) (by intro _; rfl))) (l_one (c_cmp hr .ne (c_primB (prim_ok hr hgd (by rfl) .len (fun _ => nofun) (fun _ => nofun)) rfl (by rfl) z_len (by rfl) (a_cons (c_var 0 (by rfl) (by first | exact Or.inl rfl | exact Or.inr (Or.inl rfl) | exact Or.inr (Or.inr rfl)) (by rfl) (by rfl)) a_nil (by rfl)) (by decide) (by rfl) (by rfl) (by rfl)) (c_primB (prim_ok hr hgd (by rfl) .len (fun _ => nofun) (fun _ => nofun)) rfl (by rfl) z_len (by rfl) (a_cons (c_var 1 (by rfl) (by first | exact Or.inl rfl | exact Or.inr (Or.inl rfl) | exact Or.inr (Or.inr rfl)) (by rfl) (by rfl)) a_nil (by rfl)) (by decide) (by rfl) (by rfl) (by rfl)) (nomark _))))).snd (z_cons (z_ret (c_bool pe_bl)) z_nil) z_nil) (z_cons (z_ret (c_primB (prim_ok hr hgd (by rfl) .all (fun _ => nofun) (fun _ => nofun)) rfl (by rfl) z_all (by rfl) (a_cons (c_comp (own := [("_law_k", 3)]) (by rfl) nd__law_same (i_rg1 (by rfl) z_range (c_primB (prim_ok hr hgd (by rfl) .len (fun _ => nofun) (fun _ => nofun)) rfl (by rfl) z_len (by rfl) (a_cons (c_var 1 (by rfl) (by first | exact Or.inl rfl | exact Or.inr (Or.inl rfl) | exact Or.inr (Or.inr rfl)) (by rfl) (by rfl)) a_nil (by rfl)) (by decide) (by rfl) (by rfl) (by rfl)) (by rfl)) (blkOk_by (own := [("_law_k", 3)]) (N := n__law_same) (sc := (defScope s__law_same)) (by decide +kernel)) (by decide) (by decide) (fun _ _ _ _ _ => ⟨(g_nm nd__law_same (by rfl) (by first | exact Or.inl rfl | exact Or.inr rfl) (by first | exact Or.inl rfl | exact Or.inr rfl)), q_all, (s_call ih (hr.mono (by omega)) hgd (takes_blk rfl) (by rfl) m__law_same k__law_same b__law_same (a_cons (c_ix (c_var 0 (by rfl) (by first | exact Or.inl rfl | exact Or.inr (Or.inl rfl) | exact Or.inr (Or.inr rfl)) (by rfl) (by rfl)) (c_var 3 (by rfl) (by first | exact Or.inl rfl | exact Or.inr (Or.inl rfl) | exact Or.inr (Or.inr rfl)) (by rfl) (by rfl)) (fun _ _ => rfl)) (a_cons (c_ix (c_var 1 (by rfl) (by first | exact Or.inl rfl | exact Or.inr (Or.inl rfl) | exact Or.inr (Or.inr rfl)) (by rfl) (by rfl)) (c_var 3 (by rfl) (by first | exact Or.inl rfl | exact Or.inr (Or.inl rfl) | exact Or.inr (Or.inr rfl)) (by rfl) (by rfl)) (fun _ _ => rfl)) a_nil (by rfl)) (by rfl)) (by rfl) (by rfl) (by rfl))⟩) (by intro _; rfl)) a_nil (by rfl)) (by decide) (by rfl) (by rfl) (by rfl))) z_nil))) z_nil) (z_cons (z_if (c_cmp hr .is (c_var 1 (by rfl) (by first | exact Or.inl rfl | exact Or.inr (Or.inl rfl) | exact Or.inr (Or.inr rfl)) (by rfl) (by rfl)) (c_none pe_non) (nomark _)) (z_cons (z_ret ((c_cmp hr .is (c_var 0 (by rfl) (by first | exact Or.inl rfl | exact Or.inr (Or.inl rfl) | exact Or.inr (Or.inr rfl)) (by rfl) (by rfl)) (c_none pe_non) (nomark _))).pe) z_nil) z_nil) (z_cons (z_if (c_isi .str (by rfl) z_isinstance (by rfl) (by rfl) z_str (by rfl) (by decide) (by rfl) (c_var 1 (by rfl) (by first | exact Or.inl rfl | exact Or.inr (Or.inl rfl) | exact Or.inr (Or.inr rfl)) (by rfl) (by rfl)) (by rfl) (by rfl) (by rfl)) (z_cons (z_ret (((l_and (c_isi .str (by rfl) z_isinstance (by rfl) (by rfl) z_str (by rfl) (by decide) (by rfl) (c_var 0 (by rfl) (by first | exact Or.inl rfl | exact Or.inr (Or.inl rfl) | exact Or.inr (Or.inr rfl)) (by rfl) (by rfl)) (by rfl) (by rfl) (by rfl)) (l_one (c_cmp hr .eq (c_var 0 (by rfl) (by first | exact Or.inl rfl | exact Or.inr (Or.inl rfl) | exact Or.inr (Or.inr rfl)) (by rfl) (by rfl)) (c_var 1 (by rfl) (by first | exact Or.inl rfl | exact Or.inr (Or.inl rfl) | exact Or.inr (Or.inr rfl)) (by rfl) (by rfl)) (nomark _))))).snd).pe) z_nil) z_nil) (z_cons (z_if (c_isi .bool (by rfl) z_isinstance (by rfl) (by rfl) z_bool (by rfl) (by decide) (by rfl) (c_var 1 (by rfl) (by first | exact Or.inl rfl | exact Or.inr (Or.inl rfl) | exact Or.inr (Or.inr rfl)) (by rfl) (by rfl)) (by rfl) (by rfl) (by rfl)) (z_cons (z_ret (((l_and (c_isi .bool (by rfl) z_isinstance (by rfl) (by rfl) z_bool (by rfl) (by decide) (by rfl) (c_var 0 (by rfl) (by first | exact Or.inl rfl | exact Or.inr (Or.inl rfl) | exact Or.inr (Or.inr rfl)) (by rfl) (by rfl)) (by rfl) (by rfl) (by rfl)) (l_one (c_cmp hr .eq (c_var 0 (by rfl) (by first | exact Or.inl rfl | exact Or.inr (Or.inl rfl) | exact Or.inr (Or.inr rfl)) (by rfl) (by rfl)) (c_var 1 (by rfl) (by first | exact Or.inl rfl | exact Or.inr (Or.inl rfl) | exact Or.inr (Or.inr rfl)) (by rfl) (by rfl)) (nomark _))))).snd).pe) z_nil) z_nil) (z_cons (z_ret (((l_and (c_isi .int (by rfl) z_isinstance (by rfl) (by rfl) z_int (by rfl) (by decide) (by rfl) (c_var 0 (by rfl) (by first | exact Or.inl rfl | exact Or.inr (Or.inl rfl) | exact Or.inr (Or.inr rfl)) (by rfl) (by rfl)) (by rfl) (by rfl) (by rfl)) (l_and (c_not (c_isi .bool (by rfl) z_isinstance (by rfl) (by rfl) z_bool (by rfl) (by decide) (by rfl) (c_var 0 (by rfl) (by first | exact Or.inl rfl | exact Or.inr (Or.inl rfl) | exact Or.inr (Or.inr rfl)) (by rfl) (by rfl)) (by rfl) (by rfl) (by rfl))) (l_one (c_cmp hr .eq (c_var 0 (by rfl) (by first | exact Or.inl rfl | exact Or.inr (Or.inl rfl) | exact Or.inr (Or.inr rfl)) (by rfl) (by rfl)) (c_var 1 (by rfl) (by first | exact Or.inl rfl | exact Or.inr (Or.inl rfl) | exact Or.inr (Or.inr rfl)) (by rfl) (by rfl)) (nomark _)))))).snd).pe) z_nil)))))
set_option maxHeartbeats 4000000 in
theorem ok__law_odd {f : Addr} {fd : FuncData} (fn : Fun K "_law_odd" "_law_odd" s__law_odd f fd) {f__law_draw : Addr} {d__law_draw : FuncData} (g__law_draw : FnV P w K mg base 1 f__law_draw d__law_draw ["_law_feed_here", "_law_many"] (spV K mg 2 F__law_draw)) (m__law_draw : mg "_law_draw" = some (.ref f__law_draw)) (k__law_draw : PySem.W.keepIn K (.ref f__law_draw) = true) (b__law_draw : Binds K d__law_draw ["_law_feed_here", "_law_many"] []) (z_int : mg "int" = none) (z_isinstance : mg "isinstance" = none) (z_len : mg "len" = none) (z_list : mg "list" = none) (z_str : mg "str" = none) (z_tuple : mg "tuple" = none) : FnV P w K mg base 2 f fd ["_law_feed_here", "_law_thing"] (spV K mg 2 F__law_odd) := by
  obtain ⟨oc, od, kV, doc, pm, an, cdv, ct, osl, rfl, lk, hcd⟩ := fn.ex
  refine fnV_sem (k := 1) (N := n__law_odd) (wb := w__law_odd) lk hcd sc__law_odd rfl rfl (by decide) (fun _ _ _ h => by unfold F__law_odd at h; exact h) fun A outer s H E B hr hgd => ?_
  exact (z_cons (z_asg (c_lst (a_cons (c_none pe_non) (a_cons (c_bool pe_bl) (a_cons (c_bool pe_bl) (a_cons (c_str pe_str) (a_cons (c_frz (c_lst a_nil)) (a_cons (c_tup a_nil) (a_cons (c_int pe_int) (a_cons (c_int pe_int) (a_cons (c_neg (c_int pe_int)) (a_cons (c_str pe_str) (a_cons (c_str pe_str) (a_cons (c_str pe_str) (a_cons (c_str pe_str) (a_cons (c_bin .pow (c_int pe_int) (c_int pe_int)) (a_cons (c_str pe_str) (a_cons (c_frz (c_lst (a_cons (c_str pe_str) a_nil (by rfl)))) a_nil (by rfl)) (by rfl)) (by rfl)) (by rfl)) (by rfl)) (by rfl)) (by rfl)) (by rfl)) (by rfl)) (by rfl)) (by rfl)) (by rfl)) (by rfl)) (by rfl)) (by rfl)) (by rfl))) (g_nm nd__law_odd (by rfl) (by first | exact Or.inl rfl | exact Or.inr rfl) (by first | exact Or.inl rfl | exact Or.inr rfl)) (by rfl) (by rfl) (by rfl)) (z_cons (z_asg (c_bin .add (c_var 2 (by rfl) (by first | exact Or.inl rfl | exact Or.inr (Or.inl rfl) | exact Or.inr (Or.inr rfl)) (by rfl) (by rfl)) (c_lst (a_cons (c_str pe_str) (a_cons (c_str pe_str) (a_cons (c_int pe_int) (a_cons (c_int pe_int) (a_cons (c_int pe_int) (a_cons (c_int pe_int) (a_cons (c_int pe_int) (a_cons (c_tup (a_cons (c_str pe_str) (a_cons (c_int pe_int) (a_cons (c_none pe_non) a_nil (by rfl)) (by rfl)) (by rfl))) (a_cons (c_tup (a_cons (c_str pe_str) (a_cons (c_int pe_int) a_nil (by rfl)) (by rfl))) a_nil (by rfl)) (by rfl)) (by rfl)) (by rfl)) (by rfl)) (by rfl)) (by rfl)) (by rfl)) (by rfl)))) (g_nm nd__law_odd (by rfl) (by first | exact Or.inl rfl | exact Or.inr rfl) (by first | exact Or.inl rfl | exact Or.inr rfl)) (by rfl) (by rfl) (by rfl)) (z_cons (z_if (c_isi .int (by rfl) z_isinstance (by rfl) (by rfl) z_int (by rfl) (by decide) (by rfl) (c_var 1 (by rfl) (by first | exact Or.inl rfl | exact Or.inr (Or.inl rfl) | exact Or.inr (Or.inr rfl)) (by rfl) (by rfl)) (by rfl) (by rfl) (by rfl)) (z_cons (z_asg (c_bin .add (c_var 2 (by rfl) (by first | exact Or.inl rfl | exact Or.inr (Or.inl rfl) | exact Or.inr (Or.inr rfl)) (by rfl) (by rfl)) (c_bin .mul (c_lst (a_cons (c_bin .add (c_var 1 (by rfl) (by first | exact Or.inl rfl | exact Or.inr (Or.inl rfl) | exact Or.inr (Or.inr rfl)) (by rfl) (by rfl)) (c_int pe_int)) (a_cons (c_bin .sub (c_var 1 (by rfl) (by first | exact Or.inl rfl | exact Or.inr (Or.inl rfl) | exact Or.inr (Or.inr rfl)) (by rfl) (by rfl)) (c_int pe_int)) (a_cons (c_bltT ok_str (by rfl) z_str (by rfl) (a_cons (c_var 1 (by rfl) (by first | exact Or.inl rfl | exact Or.inr (Or.inl rfl) | exact Or.inr (Or.inr rfl)) (by rfl) (by rfl)) a_nil (by rfl)) (by decide) (by rfl) (by rfl) (by rfl)) a_nil (by rfl)) (by rfl)) (by rfl))) (c_int pe_int))) (g_nm nd__law_odd (by rfl) (by first | exact Or.inl rfl | exact Or.inr rfl) (by first | exact Or.inl rfl | exact Or.inr rfl)) (by rfl) (by rfl) (by rfl)) z_nil) z_nil) (z_cons (z_if (c_isi .str (by rfl) z_isinstance (by rfl) (by rfl) z_str (by rfl) (by decide) (by rfl) (c_var 1 (by rfl) (by first | exact Or.inl rfl | exact Or.inr (Or.inl rfl) | exact Or.inr (Or.inr rfl)) (by rfl) (by rfl)) (by rfl) (by rfl) (by rfl)) (z_cons (z_asg (c_bin .add (c_var 2 (by rfl) (by first | exact Or.inl rfl | exact Or.inr (Or.inl rfl) | exact Or.inr (Or.inr rfl)) (by rfl) (by rfl)) (c_bin .mul (c_lst (a_cons (c_bin .add (c_var 1 (by rfl) (by first | exact Or.inl rfl | exact Or.inr (Or.inl rfl) | exact Or.inr (Or.inr rfl)) (by rfl) (by rfl)) (c_str pe_str)) (a_cons (c_sl (c_var 1 (by rfl) (by first | exact Or.inl rfl | exact Or.inr (Or.inl rfl) | exact Or.inr (Or.inr rfl)) (by rfl) (by rfl)) o_none (o_some (c_neg (c_int pe_int)))) (a_cons (c_bin .add (c_var 1 (by rfl) (by first | exact Or.inl rfl | exact Or.inr (Or.inl rfl) | exact Or.inr (Or.inr rfl)) (by rfl) (by rfl)) (c_str pe_str)) (a_cons (c_bin .add (c_var 1 (by rfl) (by first | exact Or.inl rfl | exact Or.inr (Or.inl rfl) | exact Or.inr (Or.inr rfl)) (by rfl) (by rfl)) (c_str pe_str)) a_nil (by rfl)) (by rfl)) (by rfl)) (by rfl))) (c_int pe_int))) (g_nm nd__law_odd (by rfl) (by first | exact Or.inl rfl | exact Or.inr rfl) (by first | exact Or.inl rfl | exact Or.inr rfl)) (by rfl) (by rfl) (by rfl)) z_nil) z_nil) (z_cons (z_if (c_isi .tuple (by rfl) z_isinstance (by rfl) (by rfl) z_tuple (by rfl) (by decide) (by rfl) (c_var 1 (by rfl) (by first | exact Or.inl rfl | exact Or.inr (Or.inl rfl) | exact Or.inr (Or.inr rfl)) (by rfl) (by rfl)) (by rfl) (by rfl) (by rfl)) (z_cons (z_asg (c_bin .add (c_var 2 (by rfl) (by first | exact Or.inl rfl | exact Or.inr (Or.inl rfl) | exact Or.inr (Or.inr rfl)) (by rfl) (by rfl)) (c_bin .mul (c_lst (a_cons (c_frz (c_primT (prim_ok hr hgd (by rfl) .list (fun _ => nofun) (fun _ => nofun)) rfl (by rfl) z_list (by rfl) (a_cons (c_var 1 (by rfl) (by first | exact Or.inl rfl | exact Or.inr (Or.inl rfl) | exact Or.inr (Or.inr rfl)) (by rfl) (by rfl)) a_nil (by rfl)) (by decide) (by rfl) (by rfl) (by rfl))) (a_cons (c_bin .add (c_var 1 (by rfl) (by first | exact Or.inl rfl | exact Or.inr (Or.inl rfl) | exact Or.inr (Or.inr rfl)) (by rfl) (by rfl)) (c_tup (a_cons (c_none pe_non) a_nil (by rfl)))) (a_cons (c_bin .add (c_var 1 (by rfl) (by first | exact Or.inl rfl | exact Or.inr (Or.inl rfl) | exact Or.inr (Or.inr rfl)) (by rfl) (by rfl)) (c_var 1 (by rfl) (by first | exact Or.inl rfl | exact Or.inr (Or.inl rfl) | exact Or.inr (Or.inr rfl)) (by rfl) (by rfl))) (a_cons (c_sl (c_var 1 (by rfl) (by first | exact Or.inl rfl | exact Or.inr (Or.inl rfl) | exact Or.inr (Or.inr rfl)) (by rfl) (by rfl)) o_none (o_some (c_neg (c_int pe_int)))) a_nil (by rfl)) (by rfl)) (by rfl)) (by rfl))) (c_int pe_int))) (g_nm nd__law_odd (by rfl) (by first | exact Or.inl rfl | exact Or.inr rfl) (by first | exact Or.inl rfl | exact Or.inr rfl)) (by rfl) (by rfl) (by rfl)) z_nil) z_nil) (z_cons (z_ret (c_frz (c_ix (c_var 2 (by rfl) (by first | exact Or.inl rfl | exact Or.inr (Or.inl rfl) | exact Or.inr (Or.inr rfl)) (by rfl) (by rfl)) (s_call g__law_draw (hr.mono (by first | decide | omega)) hgd tkB (by rfl) m__law_draw k__law_draw b__law_draw (a_cons (c_var 0 (by rfl) (by first | exact Or.inl rfl | exact Or.inr (Or.inl rfl) | exact Or.inr (Or.inr rfl)) (by rfl) (by rfl)) (a_cons (c_primB (prim_ok hr hgd (by rfl) .len (fun _ => nofun) (fun _ => nofun)) rfl (by rfl) z_len (by rfl) (a_cons (c_var 2 (by rfl) (by first | exact Or.inl rfl | exact Or.inr (Or.inl rfl) | exact Or.inr (Or.inr rfl)) (by rfl) (by rfl)) a_nil (by rfl)) (by decide) (by rfl) (by rfl) (by rfl)) a_nil (by rfl)) (by rfl)) (by rfl) (by rfl) (by rfl)) (fun _ _ => rfl)))) z_nil))))))
set_option maxHeartbeats 4000000 in
theorem ok__law_bent {f : Addr} {fd : FuncData} (fn : Fun K "_law_bent" "_law_bent" s__law_bent f fd) {f__law_draw : Addr} {d__law_draw : FuncData} (g__law_draw : FnV P w K mg base 1 f__law_draw d__law_draw ["_law_feed_here", "_law_many"] (spV K mg 2 F__law_draw)) (m__law_draw : mg "_law_draw" = some (.ref f__law_draw)) (k__law_draw : PySem.W.keepIn K (.ref f__law_draw) = true) (b__law_draw : Binds K d__law_draw ["_law_feed_here", "_law_many"] []) {f__law_odd : Addr} {d__law_odd : FuncData} (g__law_odd : FnV P w K mg base 2 f__law_odd d__law_odd ["_law_feed_here", "_law_thing"] (spV K mg 2 F__law_odd)) (m__law_odd : mg "_law_odd" = some (.ref f__law_odd)) (k__law_odd : PySem.W.keepIn K (.ref f__law_odd) = true) (b__law_odd : Binds K d__law_odd ["_law_feed_here", "_law_thing"] []) (z_isinstance : mg "isinstance" = none) (z_len : mg "len" = none) (z_list : mg "list" = none) (z_tuple : mg "tuple" = none) (m__law_bent : mg "_law_bent" = some (.ref f)) (k__law_bent : PySem.W.keepIn K (.ref f) = true) (b__law_bent : Binds K fd ["_law_feed_here", "_law_thing"] []) : ∀ d : Nat, FnV P w K mg base (3 + d) f fd ["_law_feed_here", "_law_thing"] (spV K mg 2 (F__law_bent d)) := by
  obtain ⟨oc, od, kV, doc, pm, an, cdv, ct, osl, rfl, lk, hcd⟩ := fn.ex
  intro d
  induction d with
  | zero => unfold F__law_bent; exact fnV_zero
  | succ d ih =>
    refine fnV_sem (k := 3 + d) (N := n__law_bent) (wb := w__law_bent (F__law_bent d)) lk hcd sc__law_bent rfl rfl (by decide) (fun _ _ _ h => by rw [F__law_bent_s] at h; exact h) fun A outer s H E B hr hgd => ?_
    exact (z_cons (z_if ((l_or (c_not (c_isi .tuple (by rfl) z_isinstance (by rfl) (by rfl) z_tuple (by rfl) (by decide) (by rfl) (c_var 1 (by rfl) (by first | exact Or.inl rfl | exact Or.inr (Or.inl rfl) | exact Or.inr (Or.inr rfl)) (by rfl) (by rfl)) (by rfl) (by rfl) (by rfl))) (l_or (c_cmp hr .eq (c_primB (prim_ok hr hgd (by rfl) .len (fun _ => nofun) (fun _ => nofun)) rfl (by rfl) z_len (by rfl) (a_cons (c_var 1 (by rfl) (by first | exact Or.inl rfl | exact Or.inr (Or.inl rfl) | exact Or.inr (Or.inr rfl)) (by rfl) (by rfl)) a_nil (by rfl)) (by decide) (by rfl) (by rfl) (by rfl)) (c_int pe_int) (nomark _)) (l_one (c_cmp hr .eq (s_call g__law_draw (hr.mono (by first | decide | omega)) hgd tkB (by rfl) m__law_draw k__law_draw b__law_draw (a_cons (c_var 0 (by rfl) (by first | exact Or.inl rfl | exact Or.inr (Or.inl rfl) | exact Or.inr (Or.inr rfl)) (by rfl) (by rfl)) (a_cons (c_int pe_int) a_nil (by rfl)) (by rfl)) (by rfl) (by rfl) (by rfl)) (c_int pe_int) (nomark _)))))).snd (z_cons (z_ret (c_frz (s_call g__law_odd (hr.mono (by first | decide | omega)) hgd tkB (by rfl) m__law_odd k__law_odd b__law_odd (a_cons (c_var 0 (by rfl) (by first | exact Or.inl rfl | exact Or.inr (Or.inl rfl) | exact Or.inr (Or.inr rfl)) (by rfl) (by rfl)) (a_cons (c_var 1 (by rfl) (by first | exact Or.inl rfl | exact Or.inr (Or.inl rfl) | exact Or.inr (Or.inr rfl)) (by rfl) (by rfl)) a_nil (by rfl)) (by rfl)) (by rfl) (by rfl) (by rfl)))) z_nil) z_nil) (z_cons (z_asg (s_call g__law_draw (hr.mono (by first | decide | omega)) hgd tkB (by rfl) m__law_draw k__law_draw b__law_draw (a_cons (c_var 0 (by rfl) (by first | exact Or.inl rfl | exact Or.inr (Or.inl rfl) | exact Or.inr (Or.inr rfl)) (by rfl) (by rfl)) (a_cons (c_primB (prim_ok hr hgd (by rfl) .len (fun _ => nofun) (fun _ => nofun)) rfl (by rfl) z_len (by rfl) (a_cons (c_var 1 (by rfl) (by first | exact Or.inl rfl | exact Or.inr (Or.inl rfl) | exact Or.inr (Or.inr rfl)) (by rfl) (by rfl)) a_nil (by rfl)) (by decide) (by rfl) (by rfl) (by rfl)) a_nil (by rfl)) (by rfl)) (by rfl) (by rfl) (by rfl)) (g_nm nd__law_bent (by rfl) (by first | exact Or.inl rfl | exact Or.inr rfl) (by first | exact Or.inl rfl | exact Or.inr rfl)) (by rfl) (by rfl) (by rfl)) (z_cons (z_asg (s_call g__law_draw (hr.mono (by first | decide | omega)) hgd tkB (by rfl) m__law_draw k__law_draw b__law_draw (a_cons (c_var 0 (by rfl) (by first | exact Or.inl rfl | exact Or.inr (Or.inl rfl) | exact Or.inr (Or.inr rfl)) (by rfl) (by rfl)) (a_cons (c_int pe_int) a_nil (by rfl)) (by rfl)) (by rfl) (by rfl) (by rfl)) (g_nm nd__law_bent (by rfl) (by first | exact Or.inl rfl | exact Or.inr rfl) (by first | exact Or.inl rfl | exact Or.inr rfl)) (by rfl) (by rfl) (by rfl)) (z_cons (z_if (c_cmp hr .eq (c_var 3 (by rfl) (by first | exact Or.inl rfl | exact Or.inr (Or.inl rfl) | exact Or.inr (Or.inr rfl)) (by rfl) (by rfl)) (c_int pe_int) (nomark _)) (z_cons (z_ret (c_frz (c_bin .add (c_sl (c_var 1 (by rfl) (by first | exact Or.inl rfl | exact Or.inr (Or.inl rfl) | exact Or.inr (Or.inr rfl)) (by rfl) (by rfl)) o_none (o_some (c_var 2 (by rfl) (by first | exact Or.inl rfl | exact Or.inr (Or.inl rfl) | exact Or.inr (Or.inr rfl)) (by rfl) (by rfl)))) (c_sl (c_var 1 (by rfl) (by first | exact Or.inl rfl | exact Or.inr (Or.inl rfl) | exact Or.inr (Or.inr rfl)) (by rfl) (by rfl)) (o_some (c_bin .add (c_var 2 (by rfl) (by first | exact Or.inl rfl | exact Or.inr (Or.inl rfl) | exact Or.inr (Or.inr rfl)) (by rfl) (by rfl)) (c_int pe_int))) o_none)))) z_nil) z_nil) (z_cons (z_if (c_cmp hr .eq (c_var 3 (by rfl) (by first | exact Or.inl rfl | exact Or.inr (Or.inl rfl) | exact Or.inr (Or.inr rfl)) (by rfl) (by rfl)) (c_int pe_int) (nomark _)) (z_cons (z_ret (c_frz (c_bin .add (c_sl (c_var 1 (by rfl) (by first | exact Or.inl rfl | exact Or.inr (Or.inl rfl) | exact Or.inr (Or.inr rfl)) (by rfl) (by rfl)) o_none (o_some (c_bin .add (c_var 2 (by rfl) (by first | exact Or.inl rfl | exact Or.inr (Or.inl rfl) | exact Or.inr (Or.inr rfl)) (by rfl) (by rfl)) (c_int pe_int)))) (c_sl (c_var 1 (by rfl) (by first | exact Or.inl rfl | exact Or.inr (Or.inl rfl) | exact Or.inr (Or.inr rfl)) (by rfl) (by rfl)) (o_some (c_var 2 (by rfl) (by first | exact Or.inl rfl | exact Or.inr (Or.inl rfl) | exact Or.inr (Or.inr rfl)) (by rfl) (by rfl))) o_none)))) z_nil) z_nil) (z_cons (z_if (c_cmp hr .eq (c_var 3 (by rfl) (by first | exact Or.inl rfl | exact Or.inr (Or.inl rfl) | exact Or.inr (Or.inr rfl)) (by rfl) (by rfl)) (c_int pe_int) (nomark _)) (z_cons (z_asg (c_primT (prim_ok hr hgd (by rfl) .list (fun _ => nofun) (fun _ => nofun)) rfl (by rfl) z_list (by rfl) (a_cons (c_var 1 (by rfl) (by first | exact Or.inl rfl | exact Or.inr (Or.inl rfl) | exact Or.inr (Or.inr rfl)) (by rfl) (by rfl)) a_nil (by rfl)) (by decide) (by rfl) (by rfl) (by rfl)) (g_nm nd__law_bent (by rfl) (by first | exact Or.inl rfl | exact Or.inr rfl) (by first | exact Or.inl rfl | exact Or.inr rfl)) (by rfl) (by rfl) (by rfl)) (z_cons (z_cut (c_revL (c_sl (c_var 4 (by rfl) (by first | exact Or.inl rfl | exact Or.inr (Or.inl rfl) | exact Or.inr (Or.inr rfl)) (by rfl) (by rfl)) (o_some (c_var 2 (by rfl) (by first | exact Or.inl rfl | exact Or.inr (Or.inl rfl) | exact Or.inr (Or.inr rfl)) (by rfl) (by rfl))) (o_some (c_bin .add (c_var 2 (by rfl) (by first | exact Or.inl rfl | exact Or.inr (Or.inl rfl) | exact Or.inr (Or.inr rfl)) (by rfl) (by rfl)) (c_int pe_int))))) (c_var 4 (by rfl) (by first | exact Or.inl rfl | exact Or.inr (Or.inl rfl) | exact Or.inr (Or.inr rfl)) (by rfl) (by rfl)) (o_some (c_var 2 (by rfl) (by first | exact Or.inl rfl | exact Or.inr (Or.inl rfl) | exact Or.inr (Or.inr rfl)) (by rfl) (by rfl))) (o_some (c_bin .add (c_var 2 (by rfl) (by first | exact Or.inl rfl | exact Or.inr (Or.inl rfl) | exact Or.inr (Or.inr rfl)) (by rfl) (by rfl)) (c_int pe_int))) (by intro _; rfl) (by rfl) (by rfl) (by rfl)) (z_cons (z_ret (c_frz (c_primT (prim_ok hr hgd (by rfl) .tuple (fun _ => nofun) (fun _ => nofun)) rfl (by rfl) z_tuple (by rfl) (a_cons (c_var 4 (by rfl) (by first | exact Or.inl rfl | exact Or.inr (Or.inl rfl) | exact Or.inr (Or.inr rfl)) (by rfl) (by rfl)) a_nil (by rfl)) (by decide) (by rfl) (by rfl) (by rfl)))) z_nil))) z_nil) (z_cons (z_ret (c_frz (c_bin .add (c_bin .add (c_sl (c_var 1 (by rfl) (by first | exact Or.inl rfl | exact Or.inr (Or.inl rfl) | exact Or.inr (Or.inr rfl)) (by rfl) (by rfl)) o_none (o_some (c_var 2 (by rfl) (by first | exact Or.inl rfl | exact Or.inr (Or.inl rfl) | exact Or.inr (Or.inr rfl)) (by rfl) (by rfl)))) (c_tup (a_cons (s_call ih (hr.mono (by omega)) hgd tkB (by rfl) m__law_bent k__law_bent b__law_bent (a_cons (c_var 0 (by rfl) (by first | exact Or.inl rfl | exact Or.inr (Or.inl rfl) | exact Or.inr (Or.inr rfl)) (by rfl) (by rfl)) (a_cons (c_ix (c_var 1 (by rfl) (by first | exact Or.inl rfl | exact Or.inr (Or.inl rfl) | exact Or.inr (Or.inr rfl)) (by rfl) (by rfl)) (c_var 2 (by rfl) (by first | exact Or.inl rfl | exact Or.inr (Or.inl rfl) | exact Or.inr (Or.inr rfl)) (by rfl) (by rfl)) (fun _ _ => rfl)) a_nil (by rfl)) (by rfl)) (by rfl) (by rfl) (by rfl)) a_nil (by rfl)))) (c_sl (c_var 1 (by rfl) (by first | exact Or.inl rfl | exact Or.inr (Or.inl rfl) | exact Or.inr (Or.inr rfl)) (by rfl) (by rfl)) (o_some (c_bin .add (c_var 2 (by rfl) (by first | exact Or.inl rfl | exact Or.inr (Or.inl rfl) | exact Or.inr (Or.inr rfl)) (by rfl) (by rfl)) (c_int pe_int))) o_none)))) z_nil)))))))
set_option maxHeartbeats 4000000 in
theorem ok__law_spoilt {f : Addr} {fd : FuncData} (fn : Fun K "_law_spoilt" "_law_spoilt" s__law_spoilt f fd) {f__law_bent : Addr} {d__law_bent : FuncData} (g__law_bent : FnV P w K mg base 7 f__law_bent d__law_bent ["_law_feed_here", "_law_thing"] (spV K mg 2 (F__law_bent 4))) (m__law_bent : mg "_law_bent" = some (.ref f__law_bent)) (k__law_bent : PySem.W.keepIn K (.ref f__law_bent) = true) (b__law_bent : Binds K d__law_bent ["_law_feed_here", "_law_thing"] []) {f__law_draw : Addr} {d__law_draw : FuncData} (g__law_draw : FnV P w K mg base 1 f__law_draw d__law_draw ["_law_feed_here", "_law_many"] (spV K mg 2 F__law_draw)) (m__law_draw : mg "_law_draw" = some (.ref f__law_draw)) (k__law_draw : PySem.W.keepIn K (.ref f__law_draw) = true) (b__law_draw : Binds K d__law_draw ["_law_feed_here", "_law_many"] []) {f__law_some_page : Addr} {d__law_some_page : FuncData} (g__law_some_page : FnV P w K mg base 2 f__law_some_page d__law_some_page ["_law_feed_here", "_law_names_here"] (spV K mg 2 F__law_some_page)) (m__law_some_page : mg "_law_some_page" = some (.ref f__law_some_page)) (k__law_some_page : PySem.W.keepIn K (.ref f__law_some_page) = true) (b__law_some_page : Binds K d__law_some_page ["_law_feed_here", "_law_names_here"] []) (z_len : mg "len" = none) (z_list : mg "list" = none) (z_tuple : mg "tuple" = none) : FnV P w K mg base 8 f fd ["_law_feed_here", "_law_book_here", "_law_names_here"] (spV K mg 3 F__law_spoilt) := by
  obtain ⟨oc, od, kV, doc, pm, an, cdv, ct, osl, rfl, lk, hcd⟩ := fn.ex
  refine fnV_sem (k := 7) (N := n__law_spoilt) (wb := w__law_spoilt) lk hcd sc__law_spoilt rfl rfl (by decide) (fun _ _ _ h => by unfold F__law_spoilt at h; exact h) fun A outer s H E B hr hgd => ?_
  exact (z_cons (z_par (i := 3) (j := 4) (by rfl) nd__law_spoilt (by rfl) (by rfl) (by decide) (by rfl) (by rfl) (a_cons (s_call g__law_draw (hr.mono (by first | decide | omega)) hgd tkB (by rfl) m__law_draw k__law_draw b__law_draw (a_cons (c_var 0 (by rfl) (by first | exact Or.inl rfl | exact Or.inr (Or.inl rfl) | exact Or.inr (Or.inr rfl)) (by rfl) (by rfl)) (a_cons (c_int pe_int) a_nil (by rfl)) (by rfl)) (by rfl) (by rfl) (by rfl)) (a_cons (s_call g__law_draw (hr.mono (by first | decide | omega)) hgd tkB (by rfl) m__law_draw k__law_draw b__law_draw (a_cons (c_var 0 (by rfl) (by first | exact Or.inl rfl | exact Or.inr (Or.inl rfl) | exact Or.inr (Or.inr rfl)) (by rfl) (by rfl)) (a_cons (c_primB (prim_ok hr hgd (by rfl) .len (fun _ => nofun) (fun _ => nofun)) rfl (by rfl) z_len (by rfl) (a_cons (c_var 1 (by rfl) (by first | exact Or.inl rfl | exact Or.inr (Or.inl rfl) | exact Or.inr (Or.inr rfl)) (by rfl) (by rfl)) a_nil (by rfl)) (by decide) (by rfl) (by rfl) (by rfl)) a_nil (by rfl)) (by rfl)) (by rfl) (by rfl) (by rfl)) a_nil (by rfl)) (by rfl)) (by rfl) (by rfl)) (z_cons (z_asg (s_call g__law_draw (hr.mono (by first | decide | omega)) hgd tkB (by rfl) m__law_draw k__law_draw b__law_draw (a_cons (c_var 0 (by rfl) (by first | exact Or.inl rfl | exact Or.inr (Or.inl rfl) | exact Or.inr (Or.inr rfl)) (by rfl) (by rfl)) (a_cons (c_primB (prim_ok hr hgd (by rfl) .len (fun _ => nofun) (fun _ => nofun)) rfl (by rfl) z_len (by rfl) (a_cons (c_var 1 (by rfl) (by first | exact Or.inl rfl | exact Or.inr (Or.inl rfl) | exact Or.inr (Or.inr rfl)) (by rfl) (by rfl)) a_nil (by rfl)) (by decide) (by rfl) (by rfl) (by rfl)) a_nil (by rfl)) (by rfl)) (by rfl) (by rfl) (by rfl)) (g_nm nd__law_spoilt (by rfl) (by first | exact Or.inl rfl | exact Or.inr rfl) (by first | exact Or.inl rfl | exact Or.inr rfl)) (by rfl) (by rfl) (by rfl)) (z_cons (z_asg (c_primT (prim_ok hr hgd (by rfl) .list (fun _ => nofun) (fun _ => nofun)) rfl (by rfl) z_list (by rfl) (a_cons (c_var 1 (by rfl) (by first | exact Or.inl rfl | exact Or.inr (Or.inl rfl) | exact Or.inr (Or.inr rfl)) (by rfl) (by rfl)) a_nil (by rfl)) (by decide) (by rfl) (by rfl) (by rfl)) (g_nm nd__law_spoilt (by rfl) (by first | exact Or.inl rfl | exact Or.inr rfl) (by first | exact Or.inl rfl | exact Or.inr rfl)) (by rfl) (by rfl) (by rfl)) (z_cons (z_if (c_cmp hr .eq (c_var 3 (by rfl) (by first | exact Or.inl rfl | exact Or.inr (Or.inl rfl) | exact Or.inr (Or.inr rfl)) (by rfl) (by rfl)) (c_int pe_int) (nomark _)) (z_cons (z_swap hr (by rfl) (c_tup (a_cons (c_ix (c_var 1 (by rfl) (by first | exact Or.inl rfl | exact Or.inr (Or.inl rfl) | exact Or.inr (Or.inr rfl)) (by rfl) (by rfl)) (c_var 5 (by rfl) (by first | exact Or.inl rfl | exact Or.inr (Or.inl rfl) | exact Or.inr (Or.inr rfl)) (by rfl) (by rfl)) (fun _ _ => rfl)) (a_cons (c_ix (c_var 1 (by rfl) (by first | exact Or.inl rfl | exact Or.inr (Or.inl rfl) | exact Or.inr (Or.inr rfl)) (by rfl) (by rfl)) (c_var 4 (by rfl) (by first | exact Or.inl rfl | exact Or.inr (Or.inl rfl) | exact Or.inr (Or.inr rfl)) (by rfl) (by rfl)) (fun _ _ => rfl)) a_nil (by rfl)) (by rfl))) (c_var 6 (by rfl) (by first | exact Or.inl rfl | exact Or.inr (Or.inl rfl) | exact Or.inr (Or.inr rfl)) (by rfl) (by rfl)) (c_var 4 (by rfl) (by first | exact Or.inl rfl | exact Or.inr (Or.inl rfl) | exact Or.inr (Or.inr rfl)) (by rfl) (by rfl)) (c_var 6 (by rfl) (by first | exact Or.inl rfl | exact Or.inr (Or.inl rfl) | exact Or.inr (Or.inr rfl)) (by rfl) (by rfl)) (c_var 5 (by rfl) (by first | exact Or.inl rfl | exact Or.inr (Or.inl rfl) | exact Or.inr (Or.inr rfl)) (by rfl) (by rfl)) (by intro _; rfl) (by intro _; rfl) (by rfl) (by rfl) (by rfl) (by rfl) (by rfl) (by rfl) (by rfl)) z_nil) z_nil) (z_cons (z_if (c_cmp hr .eq (c_var 3 (by rfl) (by first | exact Or.inl rfl | exact Or.inr (Or.inl rfl) | exact Or.inr (Or.inr rfl)) (by rfl) (by rfl)) (c_int pe_int) (nomark _)) (z_cons (z_expr (c_insert (c_var 6 (by rfl) (by first | exact Or.inl rfl | exact Or.inr (Or.inl rfl) | exact Or.inr (Or.inr rfl)) (by rfl) (by rfl)) (a_cons (c_var 5 (by rfl) (by first | exact Or.inl rfl | exact Or.inr (Or.inl rfl) | exact Or.inr (Or.inr rfl)) (by rfl) (by rfl)) (a_cons (c_ix (c_var 1 (by rfl) (by first | exact Or.inl rfl | exact Or.inr (Or.inl rfl) | exact Or.inr (Or.inr rfl)) (by rfl) (by rfl)) (c_var 4 (by rfl) (by first | exact Or.inl rfl | exact Or.inr (Or.inl rfl) | exact Or.inr (Or.inr rfl)) (by rfl) (by rfl)) (fun _ _ => rfl)) a_nil (by rfl)) (by rfl)) (by rfl) (by rfl) (by rfl) (by rfl) (by rfl)) (by rfl)) z_nil) z_nil) (z_cons (z_if (c_cmp hr .eq (c_var 3 (by rfl) (by first | exact Or.inl rfl | exact Or.inr (Or.inl rfl) | exact Or.inr (Or.inr rfl)) (by rfl) (by rfl)) (c_int pe_int) (nomark _)) (z_cons (z_expr (c_insert (c_var 6 (by rfl) (by first | exact Or.inl rfl | exact Or.inr (Or.inl rfl) | exact Or.inr (Or.inr rfl)) (by rfl) (by rfl)) (a_cons (c_var 4 (by rfl) (by first | exact Or.inl rfl | exact Or.inr (Or.inl rfl) | exact Or.inr (Or.inr rfl)) (by rfl) (by rfl)) (a_cons (s_call g__law_some_page (hr.mono (by first | decide | omega)) hgd tkB (by rfl) m__law_some_page k__law_some_page b__law_some_page (a_cons (c_var 0 (by rfl) (by first | exact Or.inl rfl | exact Or.inr (Or.inl rfl) | exact Or.inr (Or.inr rfl)) (by rfl) (by rfl)) (a_cons (c_var 2 (by rfl) (by first | exact Or.inl rfl | exact Or.inr (Or.inl rfl) | exact Or.inr (Or.inr rfl)) (by rfl) (by rfl)) a_nil (by rfl)) (by rfl)) (by rfl) (by rfl) (by rfl)) a_nil (by rfl)) (by rfl)) (by rfl) (by rfl) (by rfl) (by rfl) (by rfl)) (by rfl)) z_nil) z_nil) (z_cons (z_if (c_cmp hr .eq (c_var 3 (by rfl) (by first | exact Or.inl rfl | exact Or.inr (Or.inl rfl) | exact Or.inr (Or.inr rfl)) (by rfl) (by rfl)) (c_int pe_int) (nomark _)) (z_cons (z_expr (c_reverse (c_var 6 (by rfl) (by first | exact Or.inl rfl | exact Or.inr (Or.inl rfl) | exact Or.inr (Or.inr rfl)) (by rfl) (by rfl)) (by rfl) (by rfl)) (by rfl)) z_nil) z_nil) (z_cons (z_if (c_cmp hr .eq (c_var 3 (by rfl) (by first | exact Or.inl rfl | exact Or.inr (Or.inl rfl) | exact Or.inr (Or.inr rfl)) (by rfl) (by rfl)) (c_int pe_int) (nomark _)) (z_cons (z_setIx hr (s_call g__law_bent (hr.mono (by first | omega | decide)) hgd tkB (by rfl) m__law_bent k__law_bent b__law_bent (a_cons (c_var 0 (by rfl) (by first | exact Or.inl rfl | exact Or.inr (Or.inl rfl) | exact Or.inr (Or.inr rfl)) (by rfl) (by rfl)) (a_cons (c_ix (c_var 1 (by rfl) (by first | exact Or.inl rfl | exact Or.inr (Or.inl rfl) | exact Or.inr (Or.inr rfl)) (by rfl) (by rfl)) (c_var 4 (by rfl) (by first | exact Or.inl rfl | exact Or.inr (Or.inl rfl) | exact Or.inr (Or.inr rfl)) (by rfl) (by rfl)) (fun _ _ => rfl)) a_nil (by rfl)) (by rfl)) (by rfl) (by rfl) (by rfl)) (c_var 6 (by rfl) (by first | exact Or.inl rfl | exact Or.inr (Or.inl rfl) | exact Or.inr (Or.inr rfl)) (by rfl) (by rfl)) (c_var 4 (by rfl) (by first | exact Or.inl rfl | exact Or.inr (Or.inl rfl) | exact Or.inr (Or.inr rfl)) (by rfl) (by rfl)) (by intro _; rfl) (by rfl) (by rfl) (by rfl)) z_nil) z_nil) (z_cons (z_if (c_cmp hr .eq (c_var 3 (by rfl) (by first | exact Or.inl rfl | exact Or.inr (Or.inl rfl) | exact Or.inr (Or.inr rfl)) (by rfl) (by rfl)) (c_int pe_int) (nomark _)) (z_cons (z_ret (c_frz (c_var 6 (by rfl) (by first | exact Or.inl rfl | exact Or.inr (Or.inl rfl) | exact Or.inr (Or.inr rfl)) (by rfl) (by rfl)))) z_nil) z_nil) (z_cons (z_ret (c_frz (c_ife (c_cmp hr .lt (c_var 3 (by rfl) (by first | exact Or.inl rfl | exact Or.inr (Or.inl rfl) | exact Or.inr (Or.inr rfl)) (by rfl) (by rfl)) (c_int pe_int) (nomark _)) (c_primT (prim_ok hr hgd (by rfl) .tuple (fun _ => nofun) (fun _ => nofun)) rfl (by rfl) z_tuple (by rfl) (a_cons (c_var 6 (by rfl) (by first | exact Or.inl rfl | exact Or.inr (Or.inl rfl) | exact Or.inr (Or.inr rfl)) (by rfl) (by rfl)) a_nil (by rfl)) (by decide) (by rfl) (by rfl) (by rfl)) (c_bin .add (c_sl (c_var 1 (by rfl) (by first | exact Or.inl rfl | exact Or.inr (Or.inl rfl) | exact Or.inr (Or.inr rfl)) (by rfl) (by rfl)) o_none (o_some (c_var 4 (by rfl) (by first | exact Or.inl rfl | exact Or.inr (Or.inl rfl) | exact Or.inr (Or.inr rfl)) (by rfl) (by rfl)))) (c_sl (c_var 1 (by rfl) (by first | exact Or.inl rfl | exact Or.inr (Or.inl rfl) | exact Or.inr (Or.inr rfl)) (by rfl) (by rfl)) (o_some (c_bin .add (c_var 4 (by rfl) (by first | exact Or.inl rfl | exact Or.inr (Or.inl rfl) | exact Or.inr (Or.inr rfl)) (by rfl) (by rfl)) (c_int pe_int))) o_none))))) z_nil))))))))))
set_option maxHeartbeats 4000000 in
theorem ok_page_place {f : Addr} {fd : FuncData} (fn : Fun K "page_place" "page_place" s_page_place f fd) {a_KINDS n_KINDS : Nat} {sl_KINDS : Array (Option Value)} {t0_KINDS t1_KINDS t2_KINDS t3_KINDS t4_KINDS t5_KINDS t6_KINDS t7_KINDS : Tok} (x_KINDS : mg "KINDS" = some (.ref a_KINDS)) (l_KINDS : K.lookup a_KINDS = some ⟨.type "tuple", none, .seq #[.str "folk" t0_KINDS, .str "heir" t1_KINDS, .str "sell" t2_KINDS, .str "away" t3_KINDS, .str "rent" t4_KINDS, .str "ask" t5_KINDS, .str "name" t6_KINDS, .str "go" t7_KINDS] n_KINDS, sl_KINDS⟩) : FnV P w K mg base 1 f fd ["page"] (spV K mg 1 F_page_place) := by
  obtain ⟨oc, od, kV, doc, pm, an, cdv, ct, osl, rfl, lk, hcd⟩ := fn.ex
  refine fnV_sem (k := 0) (N := n_page_place) (wb := w_page_place) lk hcd sc_page_place rfl rfl (by decide) (fun _ _ _ h => by unfold F_page_place at h; exact h) fun A outer s H E B hr hgd => ?_
  exact (z_cons (z_ret (c_tup (a_cons (c_ix (c_var 0 (by rfl) (by first | exact Or.inl rfl | exact Or.inr (Or.inl rfl) | exact Or.inr (Or.inr rfl)) (by rfl) (by rfl)) (c_int pe_int) (fun _ _ => rfl)) (a_cons (c_ix (c_var 0 (by rfl) (by first | exact Or.inl rfl | exact Or.inr (Or.inl rfl) | exact Or.inr (Or.inr rfl)) (by rfl) (by rfl)) (c_int pe_int) (fun _ _ => rfl)) (a_cons (c_idxT (room_u hr) (c_gtup (vs := [.str "folk", .str "heir", .str "sell", .str "away", .str "rent", .str "ask", .str "name", .str "go"]) (ds := [.str "folk", .str "heir", .str "sell", .str "away", .str "rent", .str "ask", .str "name", .str "go"]) (by rfl) x_KINDS l_KINDS rfl rfl rfl (Nat.le_of_ble_eq_true rfl) (.cons ⟨_, rfl⟩ (.cons ⟨_, rfl⟩ (.cons ⟨_, rfl⟩ (.cons ⟨_, rfl⟩ (.cons ⟨_, rfl⟩ (.cons ⟨_, rfl⟩ (.cons ⟨_, rfl⟩ (.cons ⟨_, rfl⟩ .nil)))))))) (fun _ _ => (.cons (.str _) (.cons (.str _) (.cons (.str _) (.cons (.str _) (.cons (.str _) (.cons (.str _) (.cons (.str _) (.cons (.str _) .nil))))))))) (by rfl)) (a_cons (c_ix (c_var 0 (by rfl) (by first | exact Or.inl rfl | exact Or.inr (Or.inl rfl) | exact Or.inr (Or.inr rfl)) (by rfl) (by rfl)) (c_int pe_int) (fun _ _ => rfl)) a_nil (by rfl)) (by rfl) (by rfl) (by rfl) (by rfl) (by rfl)) (a_cons (c_sl (c_var 0 (by rfl) (by first | exact Or.inl rfl | exact Or.inr (Or.inl rfl) | exact Or.inr (Or.inr rfl)) (by rfl) (by rfl)) (o_some (c_int pe_int)) o_none) a_nil (by rfl)) (by rfl)) (by rfl)) (by rfl)))) z_nil)
set_option maxHeartbeats 4000000 in
theorem ok_in_order {f : Addr} {fd : FuncData} (fn : Fun K "in_order" "in_order" s_in_order f fd) {f_page_place : Addr} {d_page_place : FuncData} (g_page_place : FnV P w K mg base 1 f_page_place d_page_place ["page"] (spV K mg 1 F_page_place)) (m_page_place : mg "page_place" = some (.ref f_page_place)) (k_page_place : PySem.W.keepIn K (.ref f_page_place) = true) (b_page_place : Binds K d_page_place ["page"] []) (z_sorted : mg "sorted" = none) (z_tuple : mg "tuple" = none) : FnV P w K mg base 4 f fd ["pages"] (spV K mg 1 F_in_order) := by
  obtain ⟨oc, od, kV, doc, pm, an, cdv, ct, osl, rfl, lk, hcd⟩ := fn.ex
  refine fnV_sem (k := 3) (N := n_in_order) (wb := w_in_order) lk hcd sc_in_order rfl rfl (by decide) (fun _ _ _ h => by unfold F_in_order at h; exact h) fun A outer s H E B hr hgd => ?_
  exact (z_seen (ps_asg pe_seen0 (pg_name nd_in_order (by rfl) (by first | exact Or.inl rfl | exact Or.inr rfl) (by first | exact Or.inl rfl | exact Or.inr rfl)) (by rfl) (by rfl) (by rfl)) (ps_for (poB rfl rfl rfl rfl rfl) (by rfl) (pi_seq (pe_var (by rfl) (by first | exact Or.inl rfl | exact Or.inr (Or.inl rfl) | exact Or.inr (Or.inr rfl)) (by rfl) (by rfl))) (pg_name nd_in_order (by rfl) (by first | exact Or.inl rfl | exact Or.inr rfl) (by first | exact Or.inl rfl | exact Or.inr rfl)) (pss_cons (ps_seenPut (roomU hr) (pe_var (by rfl) (by first | exact Or.inl rfl | exact Or.inr (Or.inl rfl) | exact Or.inr (Or.inr rfl)) (by rfl) (by rfl)) (pe_var (by rfl) (by first | exact Or.inl rfl | exact Or.inr (Or.inl rfl) | exact Or.inr (Or.inr rfl)) (by rfl) (by rfl)) pe_bl (by rfl)) pss_nil) (by intro _; rfl)) (ps_ret (pe_tupOf (pe_sortSeen g_page_place (hr.mono (by first | decide | omega)) hgd b_page_place (by rfl) (by rfl) z_sorted (by rfl) (by rfl) m_page_place (pe_var (by rfl) (by first | exact Or.inl rfl | exact Or.inr (Or.inl rfl) | exact Or.inr (Or.inr rfl)) (by rfl) (by rfl)) (by decide) (by rfl) (by rfl) (by rfl) (by rfl) (by rfl) (by rfl) (by rfl) (by rfl)) (by rfl) z_tuple (by rfl) (by decide) (by rfl) (by rfl) (by rfl))))
set_option maxHeartbeats 4000000 in
theorem ok_is_book {f : Addr} {fd : FuncData} (fn : Fun K "is_book" "is_book" s_is_book f fd) {f_is_page : Addr} {d_is_page : FuncData} (g_is_page : FnV P w K mg base 5 f_is_page d_is_page ["thing"] (spV K mg 1 F_is_page)) (m_is_page : mg "is_page" = some (.ref f_is_page)) (k_is_page : PySem.W.keepIn K (.ref f_is_page) = true) (b_is_page : Binds K d_is_page ["thing"] []) {f_page_place : Addr} {d_page_place : FuncData} (g_page_place : FnV P w K mg base 1 f_page_place d_page_place ["page"] (spV K mg 1 F_page_place)) (m_page_place : mg "page_place" = some (.ref f_page_place)) (k_page_place : PySem.W.keepIn K (.ref f_page_place) = true) (b_page_place : Binds K d_page_place ["page"] []) (z_all : mg "all" = none) (z_isinstance : mg "isinstance" = none) (z_len : mg "len" = none) (z_range : mg "range" = none) (z_tuple : mg "tuple" = none) : FnV P w K mg base 6 f fd ["thing"] (spV K mg 1 F_is_book) := by
  obtain ⟨oc, od, kV, doc, pm, an, cdv, ct, osl, rfl, lk, hcd⟩ := fn.ex
  refine fnV_sem (k := 5) (N := n_is_book) (wb := w_is_book) lk hcd sc_is_book rfl rfl (by decide) (fun _ _ _ h => by unfold F_is_book at h; exact h) fun A outer s H E B hr hgd => ?_
  exact (z_cons (z_if ((l_or (c_not (c_isi .tuple (by rfl) z_isinstance (by rfl) (by rfl) z_tuple (by rfl) (by decide) (by rfl) (c_var 0 (by rfl) (by first | exact Or.inl rfl | exact Or.inr (Or.inl rfl) | exact Or.inr (Or.inr rfl)) (by rfl) (by rfl)) (by rfl) (by rfl) (by rfl))) (l_one (c_not (c_snd (c_primB (prim_ok hr hgd (by rfl) .all (fun _ => nofun) (fun _ => nofun)) rfl (by rfl) z_all (by rfl) (a_cons (c_comp (own := [("one", 1)]) (by rfl) nd_is_book (i_e (c_var 0 (by rfl) (by first | exact Or.inl rfl | exact Or.inr (Or.inl rfl) | exact Or.inr (Or.inr rfl)) (by rfl) (by rfl))) (blkOk_by (own := [("one", 1)]) (N := n_is_book) (sc := (defScope s_is_book)) (by decide +kernel)) (by decide) (by decide) (fun _ _ _ _ _ => ⟨(g_nm nd_is_book (by rfl) (by first | exact Or.inl rfl | exact Or.inr rfl) (by first | exact Or.inl rfl | exact Or.inr rfl)), q_all, (s_call g_is_page (hr.mono (by first | decide | omega)) hgd (takes_blk rfl) (by rfl) m_is_page k_is_page b_is_page (a_cons (c_var 1 (by rfl) (by first | exact Or.inl rfl | exact Or.inr (Or.inl rfl) | exact Or.inr (Or.inr rfl)) (by rfl) (by rfl)) a_nil (by rfl)) (by rfl) (by rfl) (by rfl))⟩) (by intro _; rfl)) a_nil (by rfl)) (by decide) (by rfl) (by rfl) (by rfl)) (by intro _; rfl)))))).snd (z_cons (z_ret (c_bool pe_bl)) z_nil) z_nil) (z_cons (z_ret (c_primB (prim_ok hr hgd (by rfl) .all (fun _ => nofun) (fun _ => nofun)) rfl (by rfl) z_all (by rfl) (a_cons (c_comp (own := [("k", 2)]) (by rfl) nd_is_book (i_rg1 (by rfl) z_range (c_bin .sub (c_primB (prim_ok hr hgd (by rfl) .len (fun _ => nofun) (fun _ => nofun)) rfl (by rfl) z_len (by rfl) (a_cons (c_var 0 (by rfl) (by first | exact Or.inl rfl | exact Or.inr (Or.inl rfl) | exact Or.inr (Or.inr rfl)) (by rfl) (by rfl)) a_nil (by rfl)) (by decide) (by rfl) (by rfl) (by rfl)) (c_int pe_int)) (by rfl)) (blkOk_by (own := [("k", 2)]) (N := n_is_book) (sc := (defScope s_is_book)) (by decide +kernel)) (by decide) (by decide) (fun _ _ _ _ _ => ⟨(g_nm nd_is_book (by rfl) (by first | exact Or.inl rfl | exact Or.inr rfl) (by first | exact Or.inl rfl | exact Or.inr rfl)), q_all, ((c_ltN hr (s_call g_page_place (hr.mono (by first | decide | omega)) hgd (takes_blk rfl) (by rfl) m_page_place k_page_place b_page_place (a_cons (c_ix (c_var 0 (by rfl) (by first | exact Or.inl rfl | exact Or.inr (Or.inl rfl) | exact Or.inr (Or.inr rfl)) (by rfl) (by rfl)) (c_var 2 (by rfl) (by first | exact Or.inl rfl | exact Or.inr (Or.inl rfl) | exact Or.inr (Or.inr rfl)) (by rfl) (by rfl)) (fun _ _ => rfl)) a_nil (by rfl)) (by rfl) (by rfl) (by rfl)) (s_call g_page_place (hr.mono (by first | decide | omega)) hgd (takes_blk rfl) (by rfl) m_page_place k_page_place b_page_place (a_cons (c_ix (c_var 0 (by rfl) (by first | exact Or.inl rfl | exact Or.inr (Or.inl rfl) | exact Or.inr (Or.inr rfl)) (by rfl) (by rfl)) (c_bin .add (c_var 2 (by rfl) (by first | exact Or.inl rfl | exact Or.inr (Or.inl rfl) | exact Or.inr (Or.inr rfl)) (by rfl) (by rfl)) (c_int pe_int)) (fun _ _ => rfl)) a_nil (by rfl)) (by rfl) (by rfl) (by rfl)) (nomark _))).pe⟩) (by intro _; rfl)) a_nil (by rfl)) (by decide) (by rfl) (by rfl) (by rfl))) z_nil))
set_option maxHeartbeats 4000000 in
theorem ok_law {f : Addr} {fd : FuncData} (fn : Fun K "law" "law" s_law f fd) {f__law_book : Addr} {d__law_book : FuncData} (g__law_book : FnV P w K mg base 4 f__law_book d__law_book ["_law_feed_here", "_law_names_here", "_law_many"] (spV K mg 3 F__law_book)) (m__law_book : mg "_law_book" = some (.ref f__law_book)) (k__law_book : PySem.W.keepIn K (.ref f__law_book) = true) (b__law_book : Binds K d__law_book ["_law_feed_here", "_law_names_here", "_law_many"] []) {f__law_draw : Addr} {d__law_draw : FuncData} (g__law_draw : FnV P w K mg base 1 f__law_draw d__law_draw ["_law_feed_here", "_law_many"] (spV K mg 2 F__law_draw)) (m__law_draw : mg "_law_draw" = some (.ref f__law_draw)) (k__law_draw : PySem.W.keepIn K (.ref f__law_draw) = true) (b__law_draw : Binds K d__law_draw ["_law_feed_here", "_law_many"] []) {f__law_feed : Addr} {d__law_feed : FuncData} (g__law_feed : FnV P w K mg base 1 f__law_feed d__law_feed ["_law_script"] (spV K mg 1 F__law_feed)) (m__law_feed : mg "_law_feed" = some (.ref f__law_feed)) (k__law_feed : PySem.W.keepIn K (.ref f__law_feed) = true) (b__law_feed : Binds K d__law_feed ["_law_script"] []) {f__law_is_book : Addr} {d__law_is_book : FuncData} (g__law_is_book : FnV P w K mg base 6 f__law_is_book d__law_is_book ["_law_thing"] (spV K mg 1 F__law_is_book)) (m__law_is_book : mg "_law_is_book" = some (.ref f__law_is_book)) (k__law_is_book : PySem.W.keepIn K (.ref f__law_is_book) = true) (b__law_is_book : Binds K d__law_is_book ["_law_thing"] []) {f__law_names : Addr} {d__law_names : FuncData} (g__law_names : FnV P w K mg base 2 f__law_names d__law_names ["_law_feed_here"] (spV K mg 1 F__law_names)) (m__law_names : mg "_law_names" = some (.ref f__law_names)) (k__law_names : PySem.W.keepIn K (.ref f__law_names) = true) (b__law_names : Binds K d__law_names ["_law_feed_here"] []) {f__law_same : Addr} {d__law_same : FuncData} (g__law_same : FnV P w K mg base 6 f__law_same d__law_same ["_law_found", "_law_due"] (spV K mg 2 (F__law_same 5))) (m__law_same : mg "_law_same" = some (.ref f__law_same)) (k__law_same : PySem.W.keepIn K (.ref f__law_same) = true) (b__law_same : Binds K d__law_same ["_law_found", "_law_due"] []) {f__law_spoilt : Addr} {d__law_spoilt : FuncData} (g__law_spoilt : FnV P w K mg base 8 f__law_spoilt d__law_spoilt ["_law_feed_here", "_law_book_here", "_law_names_here"] (spV K mg 3 F__law_spoilt)) (m__law_spoilt : mg "_law_spoilt" = some (.ref f__law_spoilt)) (k__law_spoilt : PySem.W.keepIn K (.ref f__law_spoilt) = true) (b__law_spoilt : Binds K d__law_spoilt ["_law_feed_here", "_law_book_here", "_law_names_here"] []) {f_in_order : Addr} {d_in_order : FuncData} (g_in_order : FnV P w K mg base 4 f_in_order d_in_order ["pages"] (spV K mg 1 F_in_order)) (m_in_order : mg "in_order" = some (.ref f_in_order)) (k_in_order : PySem.W.keepIn K (.ref f_in_order) = true) (b_in_order : Binds K d_in_order ["pages"] []) {f_is_book : Addr} {d_is_book : FuncData} (g_is_book : FnV P w K mg base 6 f_is_book d_is_book ["thing"] (spV K mg 1 F_is_book)) (m_is_book : mg "is_book" = some (.ref f_is_book)) (k_is_book : PySem.W.keepIn K (.ref f_is_book) = true) (b_is_book : Binds K d_is_book ["thing"] []) (z_len : mg "len" = none) (z_range : mg "range" = none) (z_repr : mg "repr" = none) (z_tuple : mg "tuple" = none) : FnV P w K mg base 9 f fd ["_law_script"] (spV K mg 1 F_law) := by
  obtain ⟨oc, od, kV, doc, pm, an, cdv, ct, osl, rfl, lk, hcd⟩ := fn.ex
  refine fnV_sem (k := 8) (N := n_law) (wb := w_law) lk hcd sc_law rfl rfl (by decide) (fun _ _ _ h => by unfold F_law at h; exact h) fun A outer s H E B hr hgd => ?_
  exact (z_cons (z_asg (s_call g__law_feed (hr.mono (by first | decide | omega)) hgd tkB (by rfl) m__law_feed k__law_feed b__law_feed (a_cons (c_var 0 (by rfl) (by first | exact Or.inl rfl | exact Or.inr (Or.inl rfl) | exact Or.inr (Or.inr rfl)) (by rfl) (by rfl)) a_nil (by rfl)) (by rfl) (by rfl) (by rfl)) (g_nm nd_law (by rfl) (by first | exact Or.inl rfl | exact Or.inr rfl) (by first | exact Or.inl rfl | exact Or.inr rfl)) (by rfl) (by rfl) (by rfl)) (z_cons (z_asg (c_frz (s_call g__law_names (hr.mono (by first | decide | omega)) hgd tkB (by rfl) m__law_names k__law_names b__law_names (a_cons (c_var 1 (by rfl) (by first | exact Or.inl rfl | exact Or.inr (Or.inl rfl) | exact Or.inr (Or.inr rfl)) (by rfl) (by rfl)) a_nil (by rfl)) (by rfl) (by rfl) (by rfl))) (g_nm nd_law (by rfl) (by first | exact Or.inl rfl | exact Or.inr rfl) (by first | exact Or.inl rfl | exact Or.inr rfl)) (by rfl) (by rfl) (by rfl)) (z_cons (z_asg (s_call g__law_book (hr.mono (by first | decide | omega)) hgd tkB (by rfl) m__law_book k__law_book b__law_book (a_cons (c_var 1 (by rfl) (by first | exact Or.inl rfl | exact Or.inr (Or.inl rfl) | exact Or.inr (Or.inr rfl)) (by rfl) (by rfl)) (a_cons (c_var 2 (by rfl) (by first | exact Or.inl rfl | exact Or.inr (Or.inl rfl) | exact Or.inr (Or.inr rfl)) (by rfl) (by rfl)) (a_cons (c_ife (c_cmp hr .gt (s_call g__law_draw (hr.mono (by first | decide | omega)) hgd tkB (by rfl) m__law_draw k__law_draw b__law_draw (a_cons (c_var 1 (by rfl) (by first | exact Or.inl rfl | exact Or.inr (Or.inl rfl) | exact Or.inr (Or.inr rfl)) (by rfl) (by rfl)) (a_cons (c_int pe_int) a_nil (by rfl)) (by rfl)) (by rfl) (by rfl) (by rfl)) (c_int pe_int) (nomark _)) (c_ix (c_lst (a_cons (c_int pe_int) (a_cons (c_int pe_int) (a_cons (c_int pe_int) (a_cons (c_int pe_int) a_nil (by rfl)) (by rfl)) (by rfl)) (by rfl))) (s_call g__law_draw (hr.mono (by first | decide | omega)) hgd tkB (by rfl) m__law_draw k__law_draw b__law_draw (a_cons (c_var 1 (by rfl) (by first | exact Or.inl rfl | exact Or.inr (Or.inl rfl) | exact Or.inr (Or.inr rfl)) (by rfl) (by rfl)) (a_cons (c_int pe_int) a_nil (by rfl)) (by rfl)) (by rfl) (by rfl) (by rfl)) (fun _ _ => rfl)) (c_int pe_int)) a_nil (by rfl)) (by rfl)) (by rfl)) (by rfl) (by rfl) (by rfl)) (g_nm nd_law (by rfl) (by first | exact Or.inl rfl | exact Or.inr rfl) (by first | exact Or.inl rfl | exact Or.inr rfl)) (by rfl) (by rfl) (by rfl)) (z_cons (z_asg (c_lst a_nil) (g_nm nd_law (by rfl) (by first | exact Or.inl rfl | exact Or.inr rfl) (by first | exact Or.inl rfl | exact Or.inr rfl)) (by rfl) (by rfl) (by rfl)) (z_cons (z_for (poB rfl rfl rfl rfl rfl) (by rfl) (i_e (c_bin .add (c_bin .add (c_var 3 (by rfl) (by first | exact Or.inl rfl | exact Or.inr (Or.inl rfl) | exact Or.inr (Or.inr rfl)) (by rfl) (by rfl)) (c_stpM (c_var 3 (by rfl) (by first | exact Or.inl rfl | exact Or.inr (Or.inl rfl) | exact Or.inr (Or.inr rfl)) (by rfl) (by rfl)) (o_some (c_int pe_int)))) (c_stpM (c_var 3 (by rfl) (by first | exact Or.inl rfl | exact Or.inr (Or.inl rfl) | exact Or.inr (Or.inr rfl)) (by rfl) (by rfl)) (o_some (c_int pe_int))))) (g_nm nd_law (by rfl) (by first | exact Or.inl rfl | exact Or.inr rfl) (by first | exact Or.inl rfl | exact Or.inr rfl)) (z_cons (z_expr (c_insert (c_var 4 (by rfl) (by first | exact Or.inl rfl | exact Or.inr (Or.inl rfl) | exact Or.inr (Or.inr rfl)) (by rfl) (by rfl)) (a_cons (s_call g__law_draw (hr.mono (by first | decide | omega)) hgd tkB (by rfl) m__law_draw k__law_draw b__law_draw (a_cons (c_var 1 (by rfl) (by first | exact Or.inl rfl | exact Or.inr (Or.inl rfl) | exact Or.inr (Or.inr rfl)) (by rfl) (by rfl)) (a_cons (c_bin .add (c_primB (prim_ok hr hgd (by rfl) .len (fun _ => nofun) (fun _ => nofun)) rfl (by rfl) z_len (by rfl) (a_cons (c_var 4 (by rfl) (by first | exact Or.inl rfl | exact Or.inr (Or.inl rfl) | exact Or.inr (Or.inr rfl)) (by rfl) (by rfl)) a_nil (by rfl)) (by decide) (by rfl) (by rfl) (by rfl)) (c_int pe_int)) a_nil (by rfl)) (by rfl)) (by rfl) (by rfl) (by rfl)) (a_cons (c_var 5 (by rfl) (by first | exact Or.inl rfl | exact Or.inr (Or.inl rfl) | exact Or.inr (Or.inr rfl)) (by rfl) (by rfl)) a_nil (by rfl)) (by rfl)) (by rfl) (by rfl) (by rfl) (by rfl) (by rfl)) (by rfl)) z_nil) (by intro _; rfl)) (z_cons (z_asg (c_primB (prim_ok hr hgd (by rfl) .repr (fun _ => nofun) (fun _ => nofun)) rfl (by rfl) z_repr (by rfl) (a_cons (c_var 4 (by rfl) (by first | exact Or.inl rfl | exact Or.inr (Or.inl rfl) | exact Or.inr (Or.inr rfl)) (by rfl) (by rfl)) a_nil (by rfl)) (by decide) (by rfl) (by rfl) (by rfl)) (g_nm nd_law (by rfl) (by first | exact Or.inl rfl | exact Or.inr rfl) (by first | exact Or.inl rfl | exact Or.inr rfl)) (by rfl) (by rfl) (by rfl)) (z_cons (z_asg (s_call g_in_order (hr.mono (by first | decide | omega)) hgd tkB (by rfl) m_in_order k_in_order b_in_order (a_cons (c_var 4 (by rfl) (by first | exact Or.inl rfl | exact Or.inr (Or.inl rfl) | exact Or.inr (Or.inr rfl)) (by rfl) (by rfl)) a_nil (by rfl)) (by rfl) (by rfl) (by rfl)) (g_nm nd_law (by rfl) (by first | exact Or.inl rfl | exact Or.inr rfl) (by first | exact Or.inl rfl | exact Or.inr rfl)) (by rfl) (by rfl) (by rfl)) (z_cons (z_if ((l_or (c_not (c_snd (s_call g__law_same (hr.mono (by first | omega | decide)) hgd tkB (by rfl) m__law_same k__law_same b__law_same (a_cons (c_var 7 (by rfl) (by first | exact Or.inl rfl | exact Or.inr (Or.inl rfl) | exact Or.inr (Or.inr rfl)) (by rfl) (by rfl)) (a_cons (c_var 3 (by rfl) (by first | exact Or.inl rfl | exact Or.inr (Or.inl rfl) | exact Or.inr (Or.inr rfl)) (by rfl) (by rfl)) a_nil (by rfl)) (by rfl)) (by rfl) (by rfl) (by rfl)) (by intro _; rfl))) (l_or (c_not (c_snd (s_call g__law_same (hr.mono (by first | omega | decide)) hgd tkB (by rfl) m__law_same k__law_same b__law_same (a_cons (s_call g_in_order (hr.mono (by first | decide | omega)) hgd tkB (by rfl) m_in_order k_in_order b_in_order (a_cons (c_primT (prim_ok hr hgd (by rfl) .tuple (fun _ => nofun) (fun _ => nofun)) rfl (by rfl) z_tuple (by rfl) (a_cons (c_var 4 (by rfl) (by first | exact Or.inl rfl | exact Or.inr (Or.inl rfl) | exact Or.inr (Or.inr rfl)) (by rfl) (by rfl)) a_nil (by rfl)) (by decide) (by rfl) (by rfl) (by rfl)) a_nil (by rfl)) (by rfl) (by rfl) (by rfl)) (a_cons (c_var 3 (by rfl) (by first | exact Or.inl rfl | exact Or.inr (Or.inl rfl) | exact Or.inr (Or.inr rfl)) (by rfl) (by rfl)) a_nil (by rfl)) (by rfl)) (by rfl) (by rfl) (by rfl)) (by intro _; rfl))) (l_one (c_cmp hr .ne (c_primB (prim_ok hr hgd (by rfl) .repr (fun _ => nofun) (fun _ => nofun)) rfl (by rfl) z_repr (by rfl) (a_cons (c_var 4 (by rfl) (by first | exact Or.inl rfl | exact Or.inr (Or.inl rfl) | exact Or.inr (Or.inr rfl)) (by rfl) (by rfl)) a_nil (by rfl)) (by decide) (by rfl) (by rfl) (by rfl)) (c_var 6 (by rfl) (by first | exact Or.inl rfl | exact Or.inr (Or.inl rfl) | exact Or.inr (Or.inr rfl)) (by rfl) (by rfl)) (nomark _)))))).snd (z_cons (z_ret (c_bool pe_bl)) z_nil) z_nil) (z_cons (z_expr (c_append (c_var 4 (by rfl) (by first | exact Or.inl rfl | exact Or.inr (Or.inl rfl) | exact Or.inr (Or.inr rfl)) (by rfl) (by rfl)) (a_cons (c_tup (a_cons (c_int pe_int) (a_cons (c_int pe_int) (a_cons (c_str pe_str) (a_cons (c_int pe_int) a_nil (by rfl)) (by rfl)) (by rfl)) (by rfl))) a_nil (by rfl)) (by rfl) (by rfl) (by rfl) (by rfl) (by rfl)) (by rfl)) (z_cons (z_if ((l_or (c_not (c_snd (s_call g__law_same (hr.mono (by first | omega | decide)) hgd tkB (by rfl) m__law_same k__law_same b__law_same (a_cons (c_var 7 (by rfl) (by first | exact Or.inl rfl | exact Or.inr (Or.inl rfl) | exact Or.inr (Or.inr rfl)) (by rfl) (by rfl)) (a_cons (c_var 3 (by rfl) (by first | exact Or.inl rfl | exact Or.inr (Or.inl rfl) | exact Or.inr (Or.inr rfl)) (by rfl) (by rfl)) a_nil (by rfl)) (by rfl)) (by rfl) (by rfl) (by rfl)) (by intro _; rfl))) (l_one (c_not (c_snd (s_call g__law_same (hr.mono (by first | omega | decide)) hgd tkB (by rfl) m__law_same k__law_same b__law_same (a_cons (s_call g_in_order (hr.mono (by first | decide | omega)) hgd tkB (by rfl) m_in_order k_in_order b_in_order (a_cons (c_primT (prim_ok hr hgd (by rfl) .tuple (fun _ => nofun) (fun _ => nofun)) rfl (by rfl) z_tuple (by rfl) (a_cons (c_revT (c_var 3 (by rfl) (by first | exact Or.inl rfl | exact Or.inr (Or.inl rfl) | exact Or.inr (Or.inr rfl)) (by rfl) (by rfl))) a_nil (by rfl)) (by decide) (by rfl) (by rfl) (by rfl)) a_nil (by rfl)) (by rfl) (by rfl) (by rfl)) (a_cons (c_var 3 (by rfl) (by first | exact Or.inl rfl | exact Or.inr (Or.inl rfl) | exact Or.inr (Or.inr rfl)) (by rfl) (by rfl)) a_nil (by rfl)) (by rfl)) (by rfl) (by rfl) (by rfl)) (by intro _; rfl)))))).snd (z_cons (z_ret (c_bool pe_bl)) z_nil) z_nil) (z_cons (z_asg (c_primT (prim_ok hr hgd (by rfl) .tuple (fun _ => nofun) (fun _ => nofun)) rfl (by rfl) z_tuple (by rfl) (a_cons (c_comp (own := [("_law_k", 10)]) (by rfl) nd_law (i_rg1 (by rfl) z_range (c_int pe_int) (by rfl)) (blkOk_by (own := [("_law_k", 10)]) (N := n_law) (sc := (defScope s_law)) (by decide +kernel)) (by decide) (by decide) (fun _ _ _ _ _ => ⟨(g_nm nd_law (by rfl) (by first | exact Or.inl rfl | exact Or.inr rfl) (by first | exact Or.inl rfl | exact Or.inr rfl)), q_all, (c_tup (a_cons (c_int pe_int) (a_cons (c_int pe_int) (a_cons (c_str pe_str) (a_cons (c_var 10 (by rfl) (by first | exact Or.inl rfl | exact Or.inr (Or.inl rfl) | exact Or.inr (Or.inr rfl)) (by rfl) (by rfl)) a_nil (by rfl)) (by rfl)) (by rfl)) (by rfl)))⟩) (by intro _; rfl)) a_nil (by rfl)) (by decide) (by rfl) (by rfl) (by rfl)) (g_nm nd_law (by rfl) (by first | exact Or.inl rfl | exact Or.inr rfl) (by first | exact Or.inl rfl | exact Or.inr rfl)) (by rfl) (by rfl) (by rfl)) (z_cons (z_asg (c_lst (a_cons (c_var 3 (by rfl) (by first | exact Or.inl rfl | exact Or.inr (Or.inl rfl) | exact Or.inr (Or.inr rfl)) (by rfl) (by rfl)) (a_cons (c_tup a_nil) (a_cons (c_none pe_non) (a_cons (c_str pe_str) (a_cons (c_frz (c_lst a_nil)) (a_cons (c_tup (a_cons (c_tup a_nil) a_nil (by rfl))) (a_cons (c_var 8 (by rfl) (by first | exact Or.inl rfl | exact Or.inr (Or.inl rfl) | exact Or.inr (Or.inr rfl)) (by rfl) (by rfl)) (a_cons (c_bin .add (c_var 8 (by rfl) (by first | exact Or.inl rfl | exact Or.inr (Or.inl rfl) | exact Or.inr (Or.inr rfl)) (by rfl) (by rfl)) (c_tup (a_cons (c_tup (a_cons (c_int pe_int) (a_cons (c_int pe_int) (a_cons (c_str pe_str) (a_cons (c_neg (c_int pe_int)) a_nil (by rfl)) (by rfl)) (by rfl)) (by rfl))) a_nil (by rfl)))) (a_cons (c_bin .add (c_var 8 (by rfl) (by first | exact Or.inl rfl | exact Or.inr (Or.inl rfl) | exact Or.inr (Or.inr rfl)) (by rfl) (by rfl)) (c_sl (c_var 8 (by rfl) (by first | exact Or.inl rfl | exact Or.inr (Or.inl rfl) | exact Or.inr (Or.inr rfl)) (by rfl) (by rfl)) (o_some (c_neg (c_int pe_int))) o_none)) a_nil (by rfl)) (by rfl)) (by rfl)) (by rfl)) (by rfl)) (by rfl)) (by rfl)) (by rfl)) (by rfl))) (g_nm nd_law (by rfl) (by first | exact Or.inl rfl | exact Or.inr rfl) (by first | exact Or.inl rfl | exact Or.inr rfl)) (by rfl) (by rfl) (by rfl)) (z_cons (z_for (poB rfl rfl rfl rfl rfl) (by rfl) (i_rg1 (by rfl) z_range (c_int pe_int) (by rfl)) (g_nm nd_law (by rfl) (by first | exact Or.inl rfl | exact Or.inr rfl) (by first | exact Or.inl rfl | exact Or.inr rfl)) (z_cons (z_if (c_cmp hr .ne (c_var 3 (by rfl) (by first | exact Or.inl rfl | exact Or.inr (Or.inl rfl) | exact Or.inr (Or.inr rfl)) (by rfl) (by rfl)) (c_tup a_nil) (nomark _)) (z_cons (z_expr (c_append (c_var 9 (by rfl) (by first | exact Or.inl rfl | exact Or.inr (Or.inl rfl) | exact Or.inr (Or.inr rfl)) (by rfl) (by rfl)) (a_cons (s_call g__law_spoilt (hr.mono (by first | decide | omega)) hgd tkB (by rfl) m__law_spoilt k__law_spoilt b__law_spoilt (a_cons (c_var 1 (by rfl) (by first | exact Or.inl rfl | exact Or.inr (Or.inl rfl) | exact Or.inr (Or.inr rfl)) (by rfl) (by rfl)) (a_cons (c_var 3 (by rfl) (by first | exact Or.inl rfl | exact Or.inr (Or.inl rfl) | exact Or.inr (Or.inr rfl)) (by rfl) (by rfl)) (a_cons (c_var 2 (by rfl) (by first | exact Or.inl rfl | exact Or.inr (Or.inl rfl) | exact Or.inr (Or.inr rfl)) (by rfl) (by rfl)) a_nil (by rfl)) (by rfl)) (by rfl)) (by rfl) (by rfl) (by rfl)) a_nil (by rfl)) (by rfl) (by rfl) (by rfl) (by rfl) (by rfl)) (by rfl)) z_nil) z_nil) z_nil) (by intro _; rfl)) (z_cons (z_for (poB rfl rfl rfl rfl rfl) (by rfl) (i_e (c_bin .add (c_var 9 (by rfl) (by first | exact Or.inl rfl | exact Or.inr (Or.inl rfl) | exact Or.inr (Or.inr rfl)) (by rfl) (by rfl)) (c_sl (c_var 9 (by rfl) (by first | exact Or.inl rfl | exact Or.inr (Or.inl rfl) | exact Or.inr (Or.inr rfl)) (by rfl) (by rfl)) o_none (o_some (c_int pe_int))))) (g_nm nd_law (by rfl) (by first | exact Or.inl rfl | exact Or.inr rfl) (by first | exact Or.inl rfl | exact Or.inr rfl)) (z_cons (z_asg (c_primB (prim_ok hr hgd (by rfl) .repr (fun _ => nofun) (fun _ => nofun)) rfl (by rfl) z_repr (by rfl) (a_cons (c_var 11 (by rfl) (by first | exact Or.inl rfl | exact Or.inr (Or.inl rfl) | exact Or.inr (Or.inr rfl)) (by rfl) (by rfl)) a_nil (by rfl)) (by decide) (by rfl) (by rfl) (by rfl)) (g_nm nd_law (by rfl) (by first | exact Or.inl rfl | exact Or.inr rfl) (by first | exact Or.inl rfl | exact Or.inr rfl)) (by rfl) (by rfl) (by rfl)) (z_cons (z_if ((l_or (c_not (c_snd (s_call g__law_same (hr.mono (by first | omega | decide)) hgd tkB (by rfl) m__law_same k__law_same b__law_same (a_cons (s_call g_is_book (hr.mono (by first | decide | omega)) hgd tkB (by rfl) m_is_book k_is_book b_is_book (a_cons (c_var 11 (by rfl) (by first | exact Or.inl rfl | exact Or.inr (Or.inl rfl) | exact Or.inr (Or.inr rfl)) (by rfl) (by rfl)) a_nil (by rfl)) (by rfl) (by rfl) (by rfl)) (a_cons (s_call g__law_is_book (hr.mono (by first | decide | omega)) hgd tkB (by rfl) m__law_is_book k__law_is_book b__law_is_book (a_cons (c_var 11 (by rfl) (by first | exact Or.inl rfl | exact Or.inr (Or.inl rfl) | exact Or.inr (Or.inr rfl)) (by rfl) (by rfl)) a_nil (by rfl)) (by rfl) (by rfl) (by rfl)) a_nil (by rfl)) (by rfl)) (by rfl) (by rfl) (by rfl)) (by intro _; rfl))) (l_one (c_cmp hr .ne (c_primB (prim_ok hr hgd (by rfl) .repr (fun _ => nofun) (fun _ => nofun)) rfl (by rfl) z_repr (by rfl) (a_cons (c_var 11 (by rfl) (by first | exact Or.inl rfl | exact Or.inr (Or.inl rfl) | exact Or.inr (Or.inr rfl)) (by rfl) (by rfl)) a_nil (by rfl)) (by decide) (by rfl) (by rfl) (by rfl)) (c_var 12 (by rfl) (by first | exact Or.inl rfl | exact Or.inr (Or.inl rfl) | exact Or.inr (Or.inr rfl)) (by rfl) (by rfl)) (nomark _))))).snd (z_cons (z_ret (c_bool pe_bl)) z_nil) z_nil) z_nil)) (by intro _; rfl)) (z_cons (z_ret (((l_and (c_snd (s_call g__law_same (hr.mono (by first | omega | decide)) hgd tkB (by rfl) m__law_same k__law_same b__law_same (a_cons (s_call g_in_order (hr.mono (by first | decide | omega)) hgd tkB (by rfl) m_in_order k_in_order b_in_order (a_cons (c_lst a_nil) a_nil (by rfl)) (by rfl) (by rfl) (by rfl)) (a_cons (c_tup a_nil) a_nil (by rfl)) (by rfl)) (by rfl) (by rfl) (by rfl)) (by intro _; rfl)) (l_one (c_cmp hr .is (s_call g_is_book (hr.mono (by first | decide | omega)) hgd tkB (by rfl) m_is_book k_is_book b_is_book (a_cons (c_var 3 (by rfl) (by first | exact Or.inl rfl | exact Or.inr (Or.inl rfl) | exact Or.inr (Or.inr rfl)) (by rfl) (by rfl)) a_nil (by rfl)) (by rfl) (by rfl) (by rfl)) (c_bool pe_bl) (nomark _))))).snd).pe) z_nil)))))))))))))))
end
/-! ### the head -/
set_option maxHeartbeats 0 in
open PyProof.Rows in
theorem all_mk {l : PySem.W.OpenLaw} {w : World} {K : PySem.W.Frag} {h : Heap} {mg : Str → Option Value} {fa : Addr} (X : K.In h) (G : h.Ns mainGlobals mg) (hfa : mg "law" = some (.ref fa))
    {f0 : Addr} {od0 an0 : Option Addr} {sl0 : Array (Option Value)} {oc0 kV0 dc0 pm0 cd0 ct0 : Value}
    (a0 : PySem.W.nsIn K mainGlobals "_law_key" = some (some (.ref f0))) (l0 : K.lookup f0 = some ⟨oc0, od0, .func (PySem.W.fnOf "_law_key" "_law_key" (defArgs s__law_key) (defBody s__law_key) (defScope s__law_key) .none kV0 dc0 pm0 an0 cd0 ct0), sl0⟩) (c0 : PySem.W.codeIn K cd0 "_law_key" = true) (k0 : PySem.W.keepIn K (.ref f0) = true)
    {f1 : Addr} {od1 an1 : Option Addr} {sl1 : Array (Option Value)} {oc1 kV1 dc1 pm1 cd1 ct1 : Value}
    (a1 : PySem.W.nsIn K mainGlobals "_law_draw" = some (some (.ref f1))) (l1 : K.lookup f1 = some ⟨oc1, od1, .func (PySem.W.fnOf "_law_draw" "_law_draw" (defArgs s__law_draw) (defBody s__law_draw) (defScope s__law_draw) .none kV1 dc1 pm1 an1 cd1 ct1), sl1⟩) (c1 : PySem.W.codeIn K cd1 "_law_draw" = true) (k1 : PySem.W.keepIn K (.ref f1) = true)
    {f2 : Addr} {od2 an2 : Option Addr} {sl2 : Array (Option Value)} {oc2 kV2 dc2 pm2 cd2 ct2 : Value}
    (a2 : PySem.W.nsIn K mainGlobals "_law_some_page" = some (some (.ref f2))) (l2 : K.lookup f2 = some ⟨oc2, od2, .func (PySem.W.fnOf "_law_some_page" "_law_some_page" (defArgs s__law_some_page) (defBody s__law_some_page) (defScope s__law_some_page) .none kV2 dc2 pm2 an2 cd2 ct2), sl2⟩) (c2 : PySem.W.codeIn K cd2 "_law_some_page" = true) (k2 : PySem.W.keepIn K (.ref f2) = true)
    {f3 : Addr} {od3 an3 : Option Addr} {sl3 : Array (Option Value)} {oc3 kV3 dc3 pm3 cd3 ct3 : Value}
    (a3 : PySem.W.nsIn K mainGlobals "_law_book" = some (some (.ref f3))) (l3 : K.lookup f3 = some ⟨oc3, od3, .func (PySem.W.fnOf "_law_book" "_law_book" (defArgs s__law_book) (defBody s__law_book) (defScope s__law_book) .none kV3 dc3 pm3 an3 cd3 ct3), sl3⟩) (c3 : PySem.W.codeIn K cd3 "_law_book" = true) (k3 : PySem.W.keepIn K (.ref f3) = true)
    {f4 : Addr} {od4 an4 : Option Addr} {sl4 : Array (Option Value)} {oc4 kV4 dc4 pm4 cd4 ct4 : Value}
    (a4 : PySem.W.nsIn K mainGlobals "_law_feed" = some (some (.ref f4))) (l4 : K.lookup f4 = some ⟨oc4, od4, .func (PySem.W.fnOf "_law_feed" "_law_feed" (defArgs s__law_feed) (defBody s__law_feed) (defScope s__law_feed) .none kV4 dc4 pm4 an4 cd4 ct4), sl4⟩) (c4 : PySem.W.codeIn K cd4 "_law_feed" = true) (k4 : PySem.W.keepIn K (.ref f4) = true)
    {f5 : Addr} {od5 an5 : Option Addr} {sl5 : Array (Option Value)} {oc5 kV5 dc5 pm5 cd5 ct5 : Value}
    (a5 : PySem.W.nsIn K mainGlobals "is_number" = some (some (.ref f5))) (l5 : K.lookup f5 = some ⟨oc5, od5, .func (PySem.W.fnOf "is_number" "is_number" (defArgs s_is_number) (defBody s_is_number) (defScope s_is_number) .none kV5 dc5 pm5 an5 cd5 ct5), sl5⟩) (c5 : PySem.W.codeIn K cd5 "is_number" = true) (k5 : PySem.W.keepIn K (.ref f5) = true)
    {f6 : Addr} {od6 an6 : Option Addr} {sl6 : Array (Option Value)} {oc6 kV6 dc6 pm6 cd6 ct6 : Value}
    (a6 : PySem.W.nsIn K mainGlobals "is_word" = some (some (.ref f6))) (l6 : K.lookup f6 = some ⟨oc6, od6, .func (PySem.W.fnOf "is_word" "is_word" (defArgs s_is_word) (defBody s_is_word) (defScope s_is_word) .none kV6 dc6 pm6 an6 cd6 ct6), sl6⟩) (c6 : PySem.W.codeIn K cd6 "is_word" = true) (k6 : PySem.W.keepIn K (.ref f6) = true)
    {f7 : Addr} {od7 an7 : Option Addr} {sl7 : Array (Option Value)} {oc7 kV7 dc7 pm7 cd7 ct7 : Value}
    (a7 : PySem.W.nsIn K mainGlobals "is_folk" = some (some (.ref f7))) (l7 : K.lookup f7 = some ⟨oc7, od7, .func (PySem.W.fnOf "is_folk" "is_folk" (defArgs s_is_folk) (defBody s_is_folk) (defScope s_is_folk) .none kV7 dc7 pm7 an7 cd7 ct7), sl7⟩) (c7 : PySem.W.codeIn K cd7 "is_folk" = true) (k7 : PySem.W.keepIn K (.ref f7) = true)
    {f8 : Addr} {od8 an8 : Option Addr} {sl8 : Array (Option Value)} {oc8 kV8 dc8 pm8 cd8 ct8 : Value}
    (a8 : PySem.W.nsIn K mainGlobals "is_from" = some (some (.ref f8))) (l8 : K.lookup f8 = some ⟨oc8, od8, .func (PySem.W.fnOf "is_from" "is_from" (defArgs s_is_from) (defBody s_is_from) (defScope s_is_from) .none kV8 dc8 pm8 an8 cd8 ct8), sl8⟩) (c8 : PySem.W.codeIn K cd8 "is_from" = true) (k8 : PySem.W.keepIn K (.ref f8) = true)
    {f9 : Addr} {od9 an9 : Option Addr} {sl9 : Array (Option Value)} {oc9 kV9 dc9 pm9 cd9 ct9 : Value}
    (a9 : PySem.W.nsIn K mainGlobals "is_naming" = some (some (.ref f9))) (l9 : K.lookup f9 = some ⟨oc9, od9, .func (PySem.W.fnOf "is_naming" "is_naming" (defArgs s_is_naming) (defBody s_is_naming) (defScope s_is_naming) .none kV9 dc9 pm9 an9 cd9 ct9), sl9⟩) (c9 : PySem.W.codeIn K cd9 "is_naming" = true) (k9 : PySem.W.keepIn K (.ref f9) = true)
    {f10 : Addr} {od10 an10 : Option Addr} {sl10 : Array (Option Value)} {oc10 kV10 dc10 pm10 cd10 ct10 : Value}
    (a10 : PySem.W.nsIn K mainGlobals "is_rest" = some (some (.ref f10))) (l10 : K.lookup f10 = some ⟨oc10, od10, .func (PySem.W.fnOf "is_rest" "is_rest" (defArgs s_is_rest) (defBody s_is_rest) (defScope s_is_rest) .none kV10 dc10 pm10 an10 cd10 ct10), sl10⟩) (c10 : PySem.W.codeIn K cd10 "is_rest" = true) (k10 : PySem.W.keepIn K (.ref f10) = true)
    {f11 : Addr} {od11 an11 : Option Addr} {sl11 : Array (Option Value)} {oc11 kV11 dc11 pm11 cd11 ct11 : Value}
    (a11 : PySem.W.nsIn K mainGlobals "is_to" = some (some (.ref f11))) (l11 : K.lookup f11 = some ⟨oc11, od11, .func (PySem.W.fnOf "is_to" "is_to" (defArgs s_is_to) (defBody s_is_to) (defScope s_is_to) .none kV11 dc11 pm11 an11 cd11 ct11), sl11⟩) (c11 : PySem.W.codeIn K cd11 "is_to" = true) (k11 : PySem.W.keepIn K (.ref f11) = true)
    {f12 : Addr} {od12 an12 : Option Addr} {sl12 : Array (Option Value)} {oc12 kV12 dc12 pm12 cd12 ct12 : Value}
    (a12 : PySem.W.nsIn K mainGlobals "is_page" = some (some (.ref f12))) (l12 : K.lookup f12 = some ⟨oc12, od12, .func (PySem.W.fnOf "is_page" "is_page" (defArgs s_is_page) (defBody s_is_page) (defScope s_is_page) .none kV12 dc12 pm12 an12 cd12 ct12), sl12⟩) (c12 : PySem.W.codeIn K cd12 "is_page" = true) (k12 : PySem.W.keepIn K (.ref f12) = true)
    {f13 : Addr} {od13 an13 : Option Addr} {sl13 : Array (Option Value)} {oc13 kV13 dc13 pm13 cd13 ct13 : Value}
    (a13 : PySem.W.nsIn K mainGlobals "_law_is_book" = some (some (.ref f13))) (l13 : K.lookup f13 = some ⟨oc13, od13, .func (PySem.W.fnOf "_law_is_book" "_law_is_book" (defArgs s__law_is_book) (defBody s__law_is_book) (defScope s__law_is_book) .none kV13 dc13 pm13 an13 cd13 ct13), sl13⟩) (c13 : PySem.W.codeIn K cd13 "_law_is_book" = true) (k13 : PySem.W.keepIn K (.ref f13) = true)
    {f14 : Addr} {od14 an14 : Option Addr} {sl14 : Array (Option Value)} {oc14 kV14 dc14 pm14 cd14 ct14 : Value}
    (a14 : PySem.W.nsIn K mainGlobals "_law_names" = some (some (.ref f14))) (l14 : K.lookup f14 = some ⟨oc14, od14, .func (PySem.W.fnOf "_law_names" "_law_names" (defArgs s__law_names) (defBody s__law_names) (defScope s__law_names) .none kV14 dc14 pm14 an14 cd14 ct14), sl14⟩) (c14 : PySem.W.codeIn K cd14 "_law_names" = true) (k14 : PySem.W.keepIn K (.ref f14) = true)
    {f15 : Addr} {od15 an15 : Option Addr} {sl15 : Array (Option Value)} {oc15 kV15 dc15 pm15 cd15 ct15 : Value}
    (a15 : PySem.W.nsIn K mainGlobals "_law_same" = some (some (.ref f15))) (l15 : K.lookup f15 = some ⟨oc15, od15, .func (PySem.W.fnOf "_law_same" "_law_same" (defArgs s__law_same) (defBody s__law_same) (defScope s__law_same) .none kV15 dc15 pm15 an15 cd15 ct15), sl15⟩) (c15 : PySem.W.codeIn K cd15 "_law_same" = true) (k15 : PySem.W.keepIn K (.ref f15) = true)
    {f16 : Addr} {od16 an16 : Option Addr} {sl16 : Array (Option Value)} {oc16 kV16 dc16 pm16 cd16 ct16 : Value}
    (a16 : PySem.W.nsIn K mainGlobals "_law_odd" = some (some (.ref f16))) (l16 : K.lookup f16 = some ⟨oc16, od16, .func (PySem.W.fnOf "_law_odd" "_law_odd" (defArgs s__law_odd) (defBody s__law_odd) (defScope s__law_odd) .none kV16 dc16 pm16 an16 cd16 ct16), sl16⟩) (c16 : PySem.W.codeIn K cd16 "_law_odd" = true) (k16 : PySem.W.keepIn K (.ref f16) = true)
    {f17 : Addr} {od17 an17 : Option Addr} {sl17 : Array (Option Value)} {oc17 kV17 dc17 pm17 cd17 ct17 : Value}
    (a17 : PySem.W.nsIn K mainGlobals "_law_bent" = some (some (.ref f17))) (l17 : K.lookup f17 = some ⟨oc17, od17, .func (PySem.W.fnOf "_law_bent" "_law_bent" (defArgs s__law_bent) (defBody s__law_bent) (defScope s__law_bent) .none kV17 dc17 pm17 an17 cd17 ct17), sl17⟩) (c17 : PySem.W.codeIn K cd17 "_law_bent" = true) (k17 : PySem.W.keepIn K (.ref f17) = true)
    {f18 : Addr} {od18 an18 : Option Addr} {sl18 : Array (Option Value)} {oc18 kV18 dc18 pm18 cd18 ct18 : Value}
    (a18 : PySem.W.nsIn K mainGlobals "_law_spoilt" = some (some (.ref f18))) (l18 : K.lookup f18 = some ⟨oc18, od18, .func (PySem.W.fnOf "_law_spoilt" "_law_spoilt" (defArgs s__law_spoilt) (defBody s__law_spoilt) (defScope s__law_spoilt) .none kV18 dc18 pm18 an18 cd18 ct18), sl18⟩) (c18 : PySem.W.codeIn K cd18 "_law_spoilt" = true) (k18 : PySem.W.keepIn K (.ref f18) = true)
    {f19 : Addr} {od19 an19 : Option Addr} {sl19 : Array (Option Value)} {oc19 kV19 dc19 pm19 cd19 ct19 : Value}
    (a19 : PySem.W.nsIn K mainGlobals "page_place" = some (some (.ref f19))) (l19 : K.lookup f19 = some ⟨oc19, od19, .func (PySem.W.fnOf "page_place" "page_place" (defArgs s_page_place) (defBody s_page_place) (defScope s_page_place) .none kV19 dc19 pm19 an19 cd19 ct19), sl19⟩) (c19 : PySem.W.codeIn K cd19 "page_place" = true) (k19 : PySem.W.keepIn K (.ref f19) = true)
    {f20 : Addr} {od20 an20 : Option Addr} {sl20 : Array (Option Value)} {oc20 kV20 dc20 pm20 cd20 ct20 : Value}
    (a20 : PySem.W.nsIn K mainGlobals "in_order" = some (some (.ref f20))) (l20 : K.lookup f20 = some ⟨oc20, od20, .func (PySem.W.fnOf "in_order" "in_order" (defArgs s_in_order) (defBody s_in_order) (defScope s_in_order) .none kV20 dc20 pm20 an20 cd20 ct20), sl20⟩) (c20 : PySem.W.codeIn K cd20 "in_order" = true) (k20 : PySem.W.keepIn K (.ref f20) = true)
    {f21 : Addr} {od21 an21 : Option Addr} {sl21 : Array (Option Value)} {oc21 kV21 dc21 pm21 cd21 ct21 : Value}
    (a21 : PySem.W.nsIn K mainGlobals "is_book" = some (some (.ref f21))) (l21 : K.lookup f21 = some ⟨oc21, od21, .func (PySem.W.fnOf "is_book" "is_book" (defArgs s_is_book) (defBody s_is_book) (defScope s_is_book) .none kV21 dc21 pm21 an21 cd21 ct21), sl21⟩) (c21 : PySem.W.codeIn K cd21 "is_book" = true) (k21 : PySem.W.keepIn K (.ref f21) = true)
    {f22 : Addr} {od22 an22 : Option Addr} {sl22 : Array (Option Value)} {oc22 kV22 dc22 pm22 cd22 ct22 : Value}
    (a22 : PySem.W.nsIn K mainGlobals "law" = some (some (.ref f22))) (l22 : K.lookup f22 = some ⟨oc22, od22, .func (PySem.W.fnOf "law" "law" (defArgs s_law) (defBody s_law) (defScope s_law) .none kV22 dc22 pm22 an22 cd22 ct22), sl22⟩) (c22 : PySem.W.codeIn K cd22 "law" = true) (k22 : PySem.W.keepIn K (.ref f22) = true)
    {a_KINDS n_KINDS : Nat} {sl_KINDS : Array (Option Value)} {t0_KINDS t1_KINDS t2_KINDS t3_KINDS t4_KINDS t5_KINDS t6_KINDS t7_KINDS : Tok} (x_KINDS : PySem.W.nsIn K mainGlobals "KINDS" = some (some (.ref a_KINDS))) (l_KINDS : K.lookup a_KINDS = some ⟨.type "tuple", none, .seq #[.str "folk" t0_KINDS, .str "heir" t1_KINDS, .str "sell" t2_KINDS, .str "away" t3_KINDS, .str "rent" t4_KINDS, .str "ask" t5_KINDS, .str "name" t6_KINDS, .str "go" t7_KINDS] n_KINDS, sl_KINDS⟩)
    {t_LETTERS : Tok} (x_LETTERS : PySem.W.nsIn K mainGlobals "LETTERS" = some (some (.str "abcdefghijklmnopqrstuvwxyz" t_LETTERS)))
    {t_LONGEST : Tok} (x_LONGEST : PySem.W.nsIn K mainGlobals "LONGEST" = some (some (.int 8 t_LONGEST)))
    {t_MOST_DAY : Tok} (x_MOST_DAY : PySem.W.nsIn K mainGlobals "MOST_DAY" = some (some (.int 99999 t_MOST_DAY)))
    {t_MOST_NUMBER : Tok} (x_MOST_NUMBER : PySem.W.nsIn K mainGlobals "MOST_NUMBER" = some (some (.int 999 t_MOST_NUMBER)))
    (z_all : PySem.W.nsIn K mainGlobals "all" = some none)
    (z_bool : PySem.W.nsIn K mainGlobals "bool" = some none)
    (z_int : PySem.W.nsIn K mainGlobals "int" = some none)
    (z_isinstance : PySem.W.nsIn K mainGlobals "isinstance" = some none)
    (z_len : PySem.W.nsIn K mainGlobals "len" = some none)
    (z_list : PySem.W.nsIn K mainGlobals "list" = some none)
    (z_range : PySem.W.nsIn K mainGlobals "range" = some none)
    (z_repr : PySem.W.nsIn K mainGlobals "repr" = some none)
    (z_sorted : PySem.W.nsIn K mainGlobals "sorted" = some none)
    (z_str : PySem.W.nsIn K mainGlobals "str" = some none)
    (z_tuple : PySem.W.nsIn K mainGlobals "tuple" = some none) :
    ∃ fd : FuncData, (∀ (s : Shared) (u : Value), BindsTo s fd ⟨[u], []⟩ [("_law_script", u)]) ∧ ∀ base : Heap, K.In base → base.Ns mainGlobals mg → FnV l.prog w K mg base 9 fa fd ["_law_script"] (spV K mg 1 F_law) := by
  have e := hfa.symm.trans (PySem.W.mg_of X G a22)
  cases e
  have F0 := fun_mk (st := s__law_key) l0 c0 k0
  have b0 := F0.binds (ps := ["_law_page"]) fun _ _ _ _ _ _ us hl => match us, hl with | [_], _ => rfl
  have m0 := PySem.W.mg_of X G a0
  have F1 := fun_mk (st := s__law_draw) l1 c1 k1
  have b1 := F1.binds (ps := ["_law_feed_here", "_law_many"]) fun _ _ _ _ _ _ us hl => match us, hl with | [_, _], _ => rfl
  have m1 := PySem.W.mg_of X G a1
  have F2 := fun_mk (st := s__law_some_page) l2 c2 k2
  have b2 := F2.binds (ps := ["_law_feed_here", "_law_names_here"]) fun _ _ _ _ _ _ us hl => match us, hl with | [_, _], _ => rfl
  have m2 := PySem.W.mg_of X G a2
  have F3 := fun_mk (st := s__law_book) l3 c3 k3
  have b3 := F3.binds (ps := ["_law_feed_here", "_law_names_here", "_law_many"]) fun _ _ _ _ _ _ us hl => match us, hl with | [_, _, _], _ => rfl
  have m3 := PySem.W.mg_of X G a3
  have F4 := fun_mk (st := s__law_feed) l4 c4 k4
  have b4 := F4.binds (ps := ["_law_script"]) fun _ _ _ _ _ _ us hl => match us, hl with | [_], _ => rfl
  have m4 := PySem.W.mg_of X G a4
  have F5 := fun_mk (st := s_is_number) l5 c5 k5
  have b5 := F5.binds (ps := ["thing"]) fun _ _ _ _ _ _ us hl => match us, hl with | [_], _ => rfl
  have m5 := PySem.W.mg_of X G a5
  have F6 := fun_mk (st := s_is_word) l6 c6 k6
  have b6 := F6.binds (ps := ["thing"]) fun _ _ _ _ _ _ us hl => match us, hl with | [_], _ => rfl
  have m6 := PySem.W.mg_of X G a6
  have F7 := fun_mk (st := s_is_folk) l7 c7 k7
  have b7 := F7.binds (ps := ["day", "rest"]) fun _ _ _ _ _ _ us hl => match us, hl with | [_, _], _ => rfl
  have m7 := PySem.W.mg_of X G a7
  have F8 := fun_mk (st := s_is_from) l8 c8 k8
  have b8 := F8.binds (ps := ["thing", "least"]) fun _ _ _ _ _ _ us hl => match us, hl with | [_, _], _ => rfl
  have m8 := PySem.W.mg_of X G a8
  have F9 := fun_mk (st := s_is_naming) l9 c9 k9
  have b9 := F9.binds (ps := ["rest"]) fun _ _ _ _ _ _ us hl => match us, hl with | [_], _ => rfl
  have m9 := PySem.W.mg_of X G a9
  have F10 := fun_mk (st := s_is_rest) l10 c10 k10
  have b10 := F10.binds (ps := ["kind", "day", "rest"]) fun _ _ _ _ _ _ us hl => match us, hl with | [_, _, _], _ => rfl
  have m10 := PySem.W.mg_of X G a10
  have F11 := fun_mk (st := s_is_to) l11 c11 k11
  have b11 := F11.binds (ps := ["thing", "most"]) fun _ _ _ _ _ _ us hl => match us, hl with | [_, _], _ => rfl
  have m11 := PySem.W.mg_of X G a11
  have F12 := fun_mk (st := s_is_page) l12 c12 k12
  have b12 := F12.binds (ps := ["thing"]) fun _ _ _ _ _ _ us hl => match us, hl with | [_], _ => rfl
  have m12 := PySem.W.mg_of X G a12
  have F13 := fun_mk (st := s__law_is_book) l13 c13 k13
  have b13 := F13.binds (ps := ["_law_thing"]) fun _ _ _ _ _ _ us hl => match us, hl with | [_], _ => rfl
  have m13 := PySem.W.mg_of X G a13
  have F14 := fun_mk (st := s__law_names) l14 c14 k14
  have b14 := F14.binds (ps := ["_law_feed_here"]) fun _ _ _ _ _ _ us hl => match us, hl with | [_], _ => rfl
  have m14 := PySem.W.mg_of X G a14
  have F15 := fun_mk (st := s__law_same) l15 c15 k15
  have b15 := F15.binds (ps := ["_law_found", "_law_due"]) fun _ _ _ _ _ _ us hl => match us, hl with | [_, _], _ => rfl
  have m15 := PySem.W.mg_of X G a15
  have F16 := fun_mk (st := s__law_odd) l16 c16 k16
  have b16 := F16.binds (ps := ["_law_feed_here", "_law_thing"]) fun _ _ _ _ _ _ us hl => match us, hl with | [_, _], _ => rfl
  have m16 := PySem.W.mg_of X G a16
  have F17 := fun_mk (st := s__law_bent) l17 c17 k17
  have b17 := F17.binds (ps := ["_law_feed_here", "_law_thing"]) fun _ _ _ _ _ _ us hl => match us, hl with | [_, _], _ => rfl
  have m17 := PySem.W.mg_of X G a17
  have F18 := fun_mk (st := s__law_spoilt) l18 c18 k18
  have b18 := F18.binds (ps := ["_law_feed_here", "_law_book_here", "_law_names_here"]) fun _ _ _ _ _ _ us hl => match us, hl with | [_, _, _], _ => rfl
  have m18 := PySem.W.mg_of X G a18
  have F19 := fun_mk (st := s_page_place) l19 c19 k19
  have b19 := F19.binds (ps := ["page"]) fun _ _ _ _ _ _ us hl => match us, hl with | [_], _ => rfl
  have m19 := PySem.W.mg_of X G a19
  have F20 := fun_mk (st := s_in_order) l20 c20 k20
  have b20 := F20.binds (ps := ["pages"]) fun _ _ _ _ _ _ us hl => match us, hl with | [_], _ => rfl
  have m20 := PySem.W.mg_of X G a20
  have F21 := fun_mk (st := s_is_book) l21 c21 k21
  have b21 := F21.binds (ps := ["thing"]) fun _ _ _ _ _ _ us hl => match us, hl with | [_], _ => rfl
  have m21 := PySem.W.mg_of X G a21
  have F22 := fun_mk (st := s_law) l22 c22 k22
  have m22 := PySem.W.mg_of X G a22
  have u_KINDS := PySem.W.mg_of X G x_KINDS
  have u_LETTERS := PySem.W.mg_of X G x_LETTERS
  have u_LONGEST := PySem.W.mg_of X G x_LONGEST
  have u_MOST_DAY := PySem.W.mg_of X G x_MOST_DAY
  have u_MOST_NUMBER := PySem.W.mg_of X G x_MOST_NUMBER
  have y_all := PySem.W.mg_none_of X G z_all
  have y_bool := PySem.W.mg_none_of X G z_bool
  have y_int := PySem.W.mg_none_of X G z_int
  have y_isinstance := PySem.W.mg_none_of X G z_isinstance
  have y_len := PySem.W.mg_none_of X G z_len
  have y_list := PySem.W.mg_none_of X G z_list
  have y_range := PySem.W.mg_none_of X G z_range
  have y_repr := PySem.W.mg_none_of X G z_repr
  have y_sorted := PySem.W.mg_none_of X G z_sorted
  have y_str := PySem.W.mg_none_of X G z_str
  have y_tuple := PySem.W.mg_none_of X G z_tuple
  refine ⟨PySem.W.fnOf "law" "law" (defArgs s_law) (defBody s_law) (defScope s_law) .none kV22 dc22 pm22 an22 cd22 ct22, fun s v => .of_eq rfl, fun base _ _ => ?_⟩
  have G0 := ok__law_key (P := l.prog) (w := w) (mg := mg) (base := base) F0
  have G1 := ok__law_draw (P := l.prog) (w := w) (mg := mg) (base := base) F1 y_len
  have G2 := ok__law_some_page (P := l.prog) (w := w) (mg := mg) (base := base) F2 G1 m1 F1.kp b1 y_len
  have G3 := ok__law_book (P := l.prog) (w := w) (mg := mg) (base := base) F3 G0 m0 F0.kp b0 G2 m2 F2.kp b2 y_range y_sorted y_tuple
  have G4 := ok__law_feed (P := l.prog) (w := w) (mg := mg) (base := base) F4
  have G5 := ok_is_number (P := l.prog) (w := w) (mg := mg) (base := base) F5 y_bool y_int y_isinstance
  have G6 := ok_is_word (P := l.prog) (w := w) (mg := mg) (base := base) F6 y_all y_isinstance y_len y_str u_LETTERS u_LONGEST
  have G7 := ok_is_folk (P := l.prog) (w := w) (mg := mg) (base := base) F7 G5 m5 F5.kp b5 G6 m6 F6.kp b6 y_isinstance y_len y_str
  have G8 := ok_is_from (P := l.prog) (w := w) (mg := mg) (base := base) F8 G5 m5 F5.kp b5
  have G9 := ok_is_naming (P := l.prog) (w := w) (mg := mg) (base := base) F9 G8 m8 F8.kp b8 G6 m6 F6.kp b6 y_len
  have G10 := ok_is_rest (P := l.prog) (w := w) (mg := mg) (base := base) F10 G7 m7 F7.kp b7 G8 m8 F8.kp b8 G9 m9 F9.kp b9 G6 m6 F6.kp b6 y_len
  have G11 := ok_is_to (P := l.prog) (w := w) (mg := mg) (base := base) F11 G8 m8 F8.kp b8
  have G12 := ok_is_page (P := l.prog) (w := w) (mg := mg) (base := base) F12 G10 m10 F10.kp b10 G11 m11 F11.kp b11 y_isinstance y_len y_str y_tuple u_KINDS l_KINDS u_MOST_DAY u_MOST_NUMBER
  have G13 := ok__law_is_book (P := l.prog) (w := w) (mg := mg) (base := base) F13 G0 m0 F0.kp b0 G12 m12 F12.kp b12 y_isinstance y_len y_range y_tuple
  have G14 := ok__law_names (P := l.prog) (w := w) (mg := mg) (base := base) F14 G1 m1 F1.kp b1
  have G15 := ok__law_same (P := l.prog) (w := w) (mg := mg) (base := base) F15 y_all y_bool y_int y_isinstance y_len y_list y_range y_str y_tuple m15 F15.kp b15 5
  have G16 := ok__law_odd (P := l.prog) (w := w) (mg := mg) (base := base) F16 G1 m1 F1.kp b1 y_int y_isinstance y_len y_list y_str y_tuple
  have G17 := ok__law_bent (P := l.prog) (w := w) (mg := mg) (base := base) F17 G1 m1 F1.kp b1 G16 m16 F16.kp b16 y_isinstance y_len y_list y_tuple m17 F17.kp b17 4
  have G18 := ok__law_spoilt (P := l.prog) (w := w) (mg := mg) (base := base) F18 G17 m17 F17.kp b17 G1 m1 F1.kp b1 G2 m2 F2.kp b2 y_len y_list y_tuple
  have G19 := ok_page_place (P := l.prog) (w := w) (mg := mg) (base := base) F19 u_KINDS l_KINDS
  have G20 := ok_in_order (P := l.prog) (w := w) (mg := mg) (base := base) F20 G19 m19 F19.kp b19 y_sorted y_tuple
  have G21 := ok_is_book (P := l.prog) (w := w) (mg := mg) (base := base) F21 G12 m12 F12.kp b12 G19 m19 F19.kp b19 y_all y_isinstance y_len y_range y_tuple
  exact ok_law F22 G3 m3 F3.kp b3 G1 m1 F1.kp b1 G4 m4 F4.kp b4 G13 m13 F13.kp b13 G14 m14 F14.kp b14 G15 m15 F15.kp b15 G18 m18 F18.kp b18 G20 m20 F20.kp b20 G21 m21 F21.kp b21 y_len y_range y_repr y_tuple

local macro_rules | `(tactic| trivial) => `(tactic| ((repeat (first | refine And.intro rfl ?_ | refine stp rfl ?_ | refine ste rfl ?_ | refine cpowB rfl ?_ | refine neB rfl ?_ | refine divB rfl ?_ | with_reducible refine useO ?_ | with_reducible refine keyS ?_ | refine And.intro (plain1 True.intro) ?_ | refine And.intro (plain2 True.intro True.intro) ?_ | refine And.intro (by omega) ?_ | refine mulA (by omega) ?_ | refine divA (by omega) ?_ | refine rangeA (by omega) ?_ | refine powA (by omega) ?_ | refine fun (_ : Addr) => ?_)); (try show Nx _ _ _ _)))
local macro_rules | `(tactic| simp_wf) => `(tactic| (try dsimp only [Vx.start, Vx.restore, Vx.void, List.set, Vx.envPut, Vx.slotO, O.toD, O.toDs, O.put, List.map, List.length, List.reduceReplicate, Nat.reduceAdd, Nat.reduceSub, List.getElem?_cons_zero, List.getElem?_cons_succ, List.append, List.cons_append, List.nil_append]))
local macro_rules | `(tactic| clean_wf) => `(tactic| (try ((first | with_reducible refine nx_asg ?_ | with_reducible refine nx_set ?_ | with_reducible refine nx_par ?_ | with_reducible refine nx_if ?_ | with_reducible refine nx_expr ?_ | with_reducible refine nx_ret ?_ | with_reducible refine nx_for ?_ | with_reducible refine nx_pass ?_ | with_reducible refine nx_nil ?_ | with_reducible refine nx_retN ?_ | with_reducible refine nx_brk ?_ | with_reducible refine nx_cnt ?_); trivial; simp_wf; (try (refine rt_go (by assumption) ?_; trivial; simp_wf)))))
local macro_rules | `(tactic| decreasing_trivial) => `(tactic| first | assumption | omega | (simp only [Bool.not_eq_false', Bool.not_eq_true', Bool.or_eq_false_iff, Bool.or_eq_true, Bool.and_eq_true, Bool.and_eq_false_imp, decide_eq_false_iff_not, decide_eq_true_eq, Bool.not_not, Decidable.not_not] at *; first | done | assumption | omega | (simp_all; done) | (simp_all; omega)))
local macro_rules | `(tactic| decreasing_trivial_pre_omega) => `(tactic| assumption)
local macro_rules | `(tactic| get_elem_tactic_trivial) => `(tactic| first
  | (intro _; get_elem_tactic_trivial)
  | with_reducible exact e_k
  | ((with_reducible apply e_var); (focus rfl))
  | with_reducible exact a_no
  | with_reducible exact us_no
  | with_reducible exact ov_no
  | ((with_reducible apply a_co) <;> get_elem_tactic_trivial)
  | ((with_reducible apply us_co) <;> get_elem_tactic_trivial)
  | ((with_reducible apply ov_so) <;> get_elem_tactic_trivial)
  | ((with_reducible apply e_not) <;> get_elem_tactic_trivial)
  | ((with_reducible apply e_and) <;> get_elem_tactic_trivial)
  | ((with_reducible apply e_or) <;> get_elem_tactic_trivial)
  | ((with_reducible apply e_ife) <;> get_elem_tactic_trivial)
  | ((with_reducible apply e_isi) <;> get_elem_tactic_trivial)
  | ((with_reducible apply e_isis) <;> get_elem_tactic_trivial)
  | ((with_reducible apply e_cmp) <;> get_elem_tactic_trivial)
  | ((with_reducible apply e_chain) <;> get_elem_tactic_trivial)
  | ((with_reducible apply e_bin) <;> get_elem_tactic_trivial)
  | ((with_reducible apply e_ix); (focus (get_elem_tactic_trivial)); (focus (get_elem_tactic_trivial)); (focus (decreasing_trivial)); (focus (decreasing_trivial)))
  | ((with_reducible apply e_len); (focus (get_elem_tactic_trivial)); (focus (decreasing_trivial)))
  | ((with_reducible apply e_lenX); (focus (get_elem_tactic_trivial)); (focus (decreasing_trivial)); (focus (decreasing_trivial)))
  | ((with_reducible apply e_lenL); (focus (get_elem_tactic_trivial)))
  | ((with_reducible apply e_all); (focus (get_elem_tactic_trivial)))
  | ((with_reducible apply e_call); (focus (get_elem_tactic_trivial)); (focus (decreasing_trivial_pre_omega)); (focus rfl))
  | ((with_reducible apply e_tup); (focus (get_elem_tactic_trivial)); (focus (first | exact Nat.le_of_ble_eq_true rfl | decide)))
  | ((with_reducible apply e_lst); (focus (get_elem_tactic_trivial)); (focus (first | exact Nat.le_of_ble_eq_true rfl | decide)))
  | ((with_reducible apply e_comp); (focus (get_elem_tactic_trivial)); (focus ((exact True.intro))); (focus (first | exact Nat.le_of_ble_eq_true rfl | decide)); (focus (decreasing_trivial)); (focus (get_elem_tactic_trivial)))
  | ((with_reducible apply e_compF); (focus (get_elem_tactic_trivial)); (focus ((exact True.intro))); (focus (first | exact Nat.le_of_ble_eq_true rfl | decide)); (focus (decreasing_trivial)); (focus (get_elem_tactic_trivial)); (focus (get_elem_tactic_trivial)))
  | ((with_reducible apply sv_t); (focus (get_elem_tactic_trivial)); (focus (decreasing_trivial)))
  | ((with_reducible apply sv_x); (focus (get_elem_tactic_trivial)); (focus (decreasing_trivial)))
  | ((with_reducible apply sv_r1); (focus (get_elem_tactic_trivial)); (focus (decreasing_trivial)))
  | ((with_reducible apply sv_r2); (focus (get_elem_tactic_trivial)); (focus (get_elem_tactic_trivial)); (focus (decreasing_trivial)); (focus (decreasing_trivial)))
  | ((with_reducible apply Ev.u); (focus (get_elem_tactic_trivial)))
  | ((with_reducible apply EvL.u); (focus (get_elem_tactic_trivial)))
  | with_reducible exact c_lt
  | with_reducible exact c_le
  | with_reducible exact c_gt
  | with_reducible exact c_ge
  | with_reducible exact c_eqI
  | with_reducible exact c_neI
  | with_reducible exact c_eqS
  | with_reducible exact c_neS
  | with_reducible exact c_isN
  | with_reducible exact c_notN
  | with_reducible exact b_addI
  | with_reducible exact b_subI
  | ((with_reducible apply cx_eqS); (focus (decreasing_trivial)))
  | ((with_reducible apply cx_neS); (focus (decreasing_trivial)))
  | ((with_reducible apply cx_lt) <;> decreasing_trivial)
  | ((with_reducible apply cx_le) <;> decreasing_trivial)
  | ((with_reducible apply cx_gt) <;> decreasing_trivial)
  | ((with_reducible apply cx_ge) <;> decreasing_trivial)
  | ((with_reducible apply c_eqNil); (focus (decreasing_trivial)))
  | ((with_reducible apply r_ret); (focus (get_elem_tactic_trivial)))
  | ((with_reducible apply r_if) <;> get_elem_tactic_trivial)
  | ((with_reducible apply r_asg); (focus (get_elem_tactic_trivial)); (focus (first | exact Nat.le_of_ble_eq_true rfl | decide)); (focus (get_elem_tactic_trivial)))
  | ((with_reducible apply r_for); (focus (get_elem_tactic_trivial)); (focus (first | exact Nat.le_of_ble_eq_true rfl | decide)); (focus (get_elem_tactic_trivial)); (focus (get_elem_tactic_trivial)))
  | ((with_reducible apply br_if) <;> get_elem_tactic_trivial)
  | with_reducible exact br_nil)
section
abbrev fdO (a : Addr) (cells : List Int) (p q n : Int) : O := .lst a [.d (.list (cells.map PyData.int)), .d (.int p), .d (.int q), .d (.int n)]
theorem plain_ints {ns : List Int} : plainD (.list (ns.map PyData.int)) = true := by
  have h : PyData.canLayAll0 (ns.map PyData.int) = true ∧ PyData.depthAll (ns.map PyData.int) ≤ 5 := by
    induction ns with
    | nil => exact ⟨by simp only [List.map_nil, PyData.canLayAll0], by simp only [List.map_nil, PyData.depthAll]; omega⟩
    | cons n ns ih =>
      refine ⟨?_, ?_⟩
      · simp only [List.map_cons, PyData.canLayAll0, PyData.canLay0, ih.1]; rfl
      · simp only [List.map_cons, PyData.depthAll, PyData.depth]; have := ih.2; omega
  have l : PyData.canLay0 (.list (ns.map PyData.int)) = true := by simp only [PyData.canLay0]; exact h.1
  have d : PyData.depth (.list (ns.map PyData.int)) ≤ 64 := by simp only [PyData.depth]; omega
  unfold plainD SeqAt.shaped
  rw [l, PyData.hasDict_of_canLay _ l, decide_eq_true d]
  rfl
theorem feed0_ok {ns : List Int} {P : O → List O → Prop} {PX : Exn → List O → Prop}
    (h : ∀ (a : Addr) , P (fdO a (ns.take 63) 0 0 0) [.d (.list (ns.map PyData.int))]) : F__law_feed [.d (.list (ns.map PyData.int))] P PX := by
  unfold F__law_feed
  refine sem_go fun k X hk => ?_
  clean_wf
  trivial
  rw [O.toDs_map, cut_to (by decide), ← List.map_take]
  exact h _
theorem draw_ok {a : Addr} {cells : List Int} {p q n many : Int} {P : O → List O → Prop} {PX : Exn → List O → Prop} (hp : 0 ≤ p) (hp2 : p ≤ n) (hq : 0 ≤ q) (hn : 0 ≤ n) (hn2 : n < 100000) (hm : 0 < many) (hm2 : many < 1073741824)
    (h : ∀ v p' q' : Int, 0 ≤ v → v < many → 0 ≤ p' → p' ≤ n + 1 → 0 ≤ q' → P (.d (.int v)) [fdO a cells p' q' (n + 1), .d (.int many)]) : F__law_draw [fdO a cells p q n, .d (.int many)] P PX := by
  unfold F__law_draw
  refine sem_go fun k X hk => ?_
  have q0 : 0 ≤ q.fdiv many := fdiv_nn hm hq
  have md : ∀ x : Int, 0 ≤ x.fmod many ∧ x.fmod many < many := fun x => fmod_bd hm
  clean_wf
  clean_wf
  refine ifB (fun g => ?_) (fun g => ?_)
  · clean_wf
    clean_wf
    clean_wf
    exact h _ p _ (md _).1 (md _).2 hp (by omega) q0
  · clean_wf
    clean_wf
    refine And.intro (eqOk_of plain_ints rfl) ?_
    rw [eqv_nil]
    have fin : ∀ c : Int, Nx w__law_draw_6 X [some (fdO a cells p q (n + 1)), some (O.d (PyData.int many)), none, some (.d (.int c)), none] k := by
      intro c
      have q1 : 0 ≤ c → 0 ≤ c.fdiv many := fun h => fdiv_nn hm h
      have tail : Nx w__law_draw_10 X [some (fdO a cells (p + 1) q (n + 1)), some (O.d (PyData.int many)), none, some (.d (.int c)), none] k := by
        have e1 := fmod_bd (a := c) (b := 2147483629) (by decide)
        clean_wf
        generalize hz : ((c.fmod 2147483629 + 6007 * (n + 1) + 19) ^ (5 : Int).toNat).fmod 2147483587 = z
        have e2 : 0 ≤ z ∧ z < 2147483587 := by rw [← hz]; exact fmod_bd (by decide)
        clean_wf
        exact h _ (p + 1) _ (md _).1 (md _).2 (by omega) (by omega) hq
      clean_wf
      clean_wf
      refine ifB (fun g2 => ?_) (fun g2 => ?_)
      · have g4 : (10 : Int) ^ (18 : Int).toNat ≤ c := of_decide_eq_true g2
        have g5 : (0 : Int) ≤ (10 : Int) ^ (18 : Int).toNat := by decide
        trivial
        refine ifB (fun g3 => ?_) (fun g3 => ?_)
        · clean_wf
          clean_wf
          exact h _ (p + 1) _ (md _).1 (md _).2 (by omega) (by omega) (q1 (by omega))
        · clean_wf
          exact tail
      · trivial
        clean_wf
        exact tail
    refine ifB (fun g1 => ?_) (fun g1 => ?_)
    · have g2 : 0 < cells.length := by
        cases cells with
        | nil => simp at g1
        | cons c cs => simp
      have g3 : (0 : Int) < ((cells.map PyData.int).length : Int) := by rw [List.length_map]; omega
      obtain ⟨c, hc⟩ := atI_mod (cells := cells) (p := p) g2
      trivial
      refine onSome_mk hc ?_
      refine stp rfl ?_
      exact fin c
    · trivial
      exact fin 0
end
def Feed (xs : List O) (n : Nat) : Prop := ∃ (cells : List Int) (p q c : Int), xs = [.d (.list (cells.map PyData.int)), .d (.int p), .d (.int q), .d (.int c)] ∧ 0 ≤ p ∧ p ≤ c ∧ 0 ≤ q ∧ 0 ≤ c ∧ c ≤ n
abbrev fd (a : Addr) (xs : List O) : O := .lst a xs
theorem Feed.mono {xs : List O} {n m : Nat} (h : Feed xs n) (hm : n ≤ m) : Feed xs m := by
  obtain ⟨cells, p, q, c, e, h1, h2, h3, h4, h5⟩ := h
  exact ⟨cells, p, q, c, e, h1, h2, h3, h4, by omega⟩
theorem dw {a : Addr} {xs : List O} {n : Nat} {many : Int} {P : O → List O → Prop} {PX : Exn → List O → Prop} (ht : Feed xs n) (hm : 0 < many) (hn : n < 90000) (hm2 : many < 1073741824)
    (h : ∀ v xs', 0 ≤ v → v < many → Feed xs' (n + 1) → P (.d (.int v)) [fd a xs', .d (.int many)]) : F__law_draw [fd a xs, .d (.int many)] P PX := by
  obtain ⟨cells, p, q, c, rfl, h1, h2, h3, h4, h5⟩ := ht
  exact draw_ok h1 h2 h3 h4 (by omega) hm hm2 fun v p' q' h5 h6 h7 h8 h9 => h v _ h5 h6 ⟨cells, p', q', c + 1, rfl, h7, h8, h9, by omega, by omega⟩
theorem feed_ok {ns : List Int} {P : O → List O → Prop} {PX : Exn → List O → Prop}
    (h : ∀ (a : Addr) xs, Feed xs 0 → P (fd a xs) [.d (.list (ns.map PyData.int))]) : F__law_feed [.d (.list (ns.map PyData.int))] P PX :=
  feed0_ok fun a => h a _ ⟨ns.take 63, 0, 0, 0, rfl, by omega, by omega, by omega, by omega, by omega⟩
section
local macro_rules | `(tactic| decreasing_trivial_pre_omega) => `(tactic| omega)
local macro_rules | `(tactic| get_elem_tactic_trivial) => `(tactic| first
  | ((with_reducible apply b_addT); (focus ((try simp only [List.length_append, List.length_cons, List.length_nil]); omega)))
  | ((with_reducible apply b_addS); (focus ((try simp only [app_len]); omega)))
  | ((with_reducible apply e_frzL) ; (focus (get_elem_tactic_trivial)))
  | ((with_reducible apply e_listT) ; (focus (get_elem_tactic_trivial)))
  | ((with_reducible apply e_slT); (focus (get_elem_tactic_trivial)); (focus (get_elem_tactic_trivial)); (focus (get_elem_tactic_trivial)))
  | ((with_reducible apply e_tup); (focus (get_elem_tactic_trivial)); (focus (first | exact Nat.le_of_ble_eq_true rfl | decide))))
def odd0 : List D := [.none, .bool true, .bool false, .str "", .list [], .tuple [], .int 0, .int 1, .int (-1), .str "none", .str "a1", .str "A", .str "abcdefghi", .int (10 ^ (40 : Int).toNat), .str "turn", .list [.str "a"]]
def odd1 : List D := [.str "row", .str "folk", .int 99999, .int 100000, .int 999, .int 1000, .int 1001, .tuple [.str "age", .int 3, .none], .tuple [.str "kin", .int 0]]
theorem e_neg {wa : WT} {env : Vx.Env} {i : Int} (h : Ev wa env (.int i)) : Ev (wNeg wa) env (.int (-i)) := fun PX P q => h _ _ q
theorem e_str {wa : WT} {env : Vx.Env} {i : Int} (ha : EvU wa env (.int i)) (h : i.natAbs.log2 < 1920) : Ev (wBlt fStr (aCons wa aNil)) env (.str (PyData.shown (.int i))) := fun PX P q => us_co ha us_no _ _ fun ws k => k _ ⟨h, q⟩
theorem odd_ok {a : Addr} {xs : List O} {n s dn : Nat} {x : D} {P : O → List O → Prop} {PX : Exn → List O → Prop} (ht : Feed xs n) (hn : n < 80000) (hx : G s dn x) (hs : s ≤ 900) (hw : x.weight ≤ 100000)
    (h : ∀ d xs', G (s + 1) (dn + 2) d → d.weight ≤ 2 * x.weight + 20000 → Feed xs' (n + 1) → P (.d d) [fd a xs', .d x]) : F__law_odd [fd a xs, .d x] P PX := by
  unfold F__law_odd
  refine sem_go fun k X hk => ?_
  have last : ∀ (c : Addr) (L : List D) (k' : Kt), (∀ d ∈ L, G (s + 1) (dn + 2) d ∧ d.weight ≤ 2 * x.weight + 20000) → 0 < L.length → L.length ≤ 100 → (∀ x env, k.rt x env → k'.rt x env) → Nx w__law_odd_8 X [some (fd a xs), some (.d x), some (.lst c (L.map .d))] k' := by
    intro c L k' hL l0 l1 hkk
    clean_wf
    refine onSome_mk (datas_map L) ?_
    trivial
    refine dw ht (by omega) (by omega) (by omega) fun v xs2 h1 h2 ht2 => ?_
    trivial
    obtain ⟨d, hd, hat⟩ : ∃ d, L[v.toNat]? = some d ∧ (L.map O.d)[v.toNat]? = some (.d d) := by
      have hj : v.toNat < L.length := by omega
      exact ⟨L[v.toNat], List.getElem?_eq_getElem hj, by rw [List.getElem?_map, List.getElem?_eq_getElem hj]; rfl⟩
    refine onSome_mk (x := v.toNat) (ixN_int h1 (by rw [List.length_map]; exact h2)) ?_
    refine onSome_mk hat ?_
    have q := hL d (List.mem_of_getElem? hd)
    trivial
    refine hkk _ _ ?_
    refine rt_go hk ?_
    trivial
    exact h d xs2 q.1 q.2 ht2
  have g0 : ∀ {ds : List D}, (∀ d ∈ ds, G 0 2 d ∧ d.weight ≤ 300) → ∀ d ∈ ds, G (s + 1) (dn + 2) d ∧ d.weight ≤ 2 * x.weight + 20000 := fun h d hd => ⟨(h d hd).1.mono (by omega) (by omega), Nat.le_trans (h d hd).2 (by omega)⟩
  simp_wf
  clean_wf
  rename_i c0
  show Nx w__law_odd_1 X [some (fd a xs), some (.d x), some (.lst c0 (odd0.map .d))] k
  apply nx_asgLE (ds := odd0 ++ odd1)
  · apply e_catL
    · exact u_own rfl
    · apply EvL.u
      apply e_lst
      · unfold odd1
        get_elem_tactic_trivial
      · exact Nat.le_of_ble_eq_true rfl
    · exact Nat.le_of_ble_eq_true rfl
  · rfl
  intro c1
  have gc : ∀ d ∈ odd0 ++ odd1, G (s + 1) (dn + 2) d ∧ d.weight ≤ 2 * x.weight + 20000 := g0 (gB_all (by decide +kernel))
  have lc : (odd0 ++ odd1).length = 25 := rfl
  show Nx w__law_odd_2 X [some (fd a xs), some (.d x), some (.lst c1 ((odd0 ++ odd1).map .d))] k
  generalize odd0 ++ odd1 = L at gc lc
  have four : ∀ {ds : List D}, (∀ d ∈ ds, G (s + 1) (dn + 2) d ∧ d.weight ≤ 2 * x.weight + 20000) → ∀ d ∈ (List.replicate (4 : Int).toNat ds).flatten, G (s + 1) (dn + 2) d ∧ d.weight ≤ 2 * x.weight + 20000 := fun h d hd => by
    obtain ⟨l, hl, hd⟩ := List.mem_flatten.mp hd
    rw [(List.mem_replicate.mp hl).2] at hd
    exact h d hd
  have fin : ∀ (k' : Kt), (∀ x env, k.rt x env → k'.rt x env) → Nx w__law_odd_8 X [some (fd a xs), some (.d x), some (.lst c1 (L.map .d))] k' := fun k' hkk => last c1 L k' gc (by omega) (by omega) hkk
  have grow : ∀ (c2 : Addr) (es : List D) (k' : Kt), (∀ d ∈ es, G (s + 1) (dn + 2) d ∧ d.weight ≤ 2 * x.weight + 20000) → es.length ≤ 4 → (∀ x env, k.rt x env → k'.rt x env) → Nx w__law_odd_8 X [some (fd a xs), some (.d x), some (.lst c2 ((L ++ (List.replicate (4 : Int).toNat es).flatten).map .d))] k' := fun c2 es k' he hl hkk => by
    refine last c2 _ k' (all_app gc (four he)) (by rw [List.length_append]; omega) ?_ hkk
    have : (List.replicate (4 : Int).toNat es).flatten.length = 4 * es.length := by
      show (List.replicate 4 es).flatten.length = _
      simp [List.replicate_succ]; omega
    rw [List.length_append, this]; omega
  cases hx with
  | non =>
    iterate 6 clean_wf
    exact fin _ fun _ _ h => h
  | @int _ i hi =>
    clean_wf
    have gi : G (s + 1) (dn + 2) (.int i) := .int (by omega)
    have hlog : i.natAbs.log2 < 1920 := by
      have p1 := pow_le199
      have e2 : i.natAbs.log2 < 200 := log2_lt (show i.natAbs < 2 ^ 200 by omega) (by decide)
      omega
    have wi := wt_int (i := i) (s := s) (by omega) hi
    have sl : (PyData.shown (.int i)).length ≤ 20000 := by
      refine Nat.le_trans (PyData.shown_le 90 (by decide) _ (gi.mo (by omega)).shr) ?_
      omega
    apply nx_asgLE (ds := L ++ (List.replicate (4 : Int).toNat [.int (i + 1), .int (i - 1), .str (PyData.shown (.int i))]).flatten)
    · apply e_catL
      · exact u_own rfl
      · apply EvL.u
        apply e_mulL
        · apply EvL.u
          apply e_lst
          · apply a_co
            · get_elem_tactic_trivial
            apply a_co
            · get_elem_tactic_trivial
            apply a_co
            · exact e_str (Ev.u (e_var rfl)) hlog
            exact a_no
          · exact Nat.le_of_ble_eq_true rfl
        · get_elem_tactic_trivial
        · exact ⟨by omega, by omega, Nat.le_of_ble_eq_true rfl⟩
      · show L.length + 12 ≤ _
        omega
    · rfl
    intro c2
    refine nx_nil ?_
    have ge : ∀ d ∈ ([.int (i + 1), .int (i - 1), .str (PyData.shown (.int i))] : List D), G (s + 1) (dn + 2) d ∧ d.weight ≤ 2 * PyData.weight (.int i) + 20000 :=
      all_cons ⟨.int (by omega), Nat.le_trans (wt_int (s := s + 1) (by omega) (by omega)) (by omega)⟩ (all_cons ⟨.int (by omega), Nat.le_trans (wt_int (s := s + 1) (by omega) (by omega)) (by omega)⟩ (all_one ⟨.str plain_int, by rw [wt_str]; omega⟩))
    simp_wf
    show Nx w__law_odd_4 X [some (fd a xs), some (.d (.int i)), some (.lst c2 ((L ++ (List.replicate (4 : Int).toNat [PyData.int (i + 1), PyData.int (i - 1), PyData.str (PyData.shown (.int i))]).flatten).map .d))] k
    have fin2 := fun (k' : Kt) hkk => grow c2 [.int (i + 1), .int (i - 1), .str (PyData.shown (.int i))] k' ge (Nat.le_of_ble_eq_true rfl) hkk
    generalize L ++ (List.replicate (4 : Int).toNat [PyData.int (i + 1), PyData.int (i - 1), PyData.str (PyData.shown (.int i))]).flatten = L2 at fin2
    iterate 4 clean_wf
    exact fin2 _ fun _ _ h => h
  | @bool _ b =>
    clean_wf
    have hb : (0 : Int) ≤ (if b = true then (1 : Int) else 0) ∧ (if b = true then (1 : Int) else 0) ≤ 1 := by cases b <;> decide
    generalize hz : (if b = true then (1 : Int) else 0) = z at hb
    have st : Ev (wBlt fStr (aCons (wVar 1) aNil)) [some (fd a xs), some (.d (.bool b)), some (.lst c1 (L.map .d))] (.str (if b then "True" else "False")) := fun PX P q => us_co (Ev.u (e_var (x := .bool b) rfl)) us_no _ _ fun ws k => k _ q
    apply nx_asgLE (ds := L ++ (List.replicate (4 : Int).toNat [.int (z + 1), .int (z - 1), .str (if b then "True" else "False")]).flatten)
    · apply e_catL
      · exact u_own rfl
      · apply EvL.u
        apply e_mulL
        · apply EvL.u
          apply e_lst
          · apply a_co
            · exact e_bin .add (Ev.u (e_var rfl)) (Ev.u e_k) (fun Q q => by rw [← hz] at q; exact q)
            apply a_co
            · exact e_bin .sub (Ev.u (e_var rfl)) (Ev.u e_k) (fun Q q => by rw [← hz] at q; exact q)
            apply a_co
            · exact st
            exact a_no
          · exact Nat.le_of_ble_eq_true rfl
        · get_elem_tactic_trivial
        · exact ⟨by omega, by omega, Nat.le_of_ble_eq_true rfl⟩
      · show L.length + 12 ≤ _
        omega
    · rfl
    intro c2
    refine nx_nil ?_
    have ge : ∀ d ∈ ([.int (z + 1), .int (z - 1), .str (if b then "True" else "False")] : List D), G (s + 1) (dn + 2) d ∧ d.weight ≤ 2 * PyData.weight (.bool b) + 20000 := by
      refine all_cons ⟨.int (by omega), Nat.le_trans (wt_int (s := s + 1) (by omega) (by omega)) (by omega)⟩ (all_cons ⟨.int (by omega), Nat.le_trans (wt_int (s := s + 1) (by omega) (by omega)) (by omega)⟩ (all_one ⟨.str ?_, ?_⟩))
      · cases b <;> exact plainS_lit (by decide +kernel)
      · rw [wt_str]
        cases b
        · exact Nat.le_trans (show Str.length ("False" : Str) ≤ 5 by decide +kernel) (by omega)
        · exact Nat.le_trans (show Str.length ("True" : Str) ≤ 5 by decide +kernel) (by omega)
    simp_wf
    show Nx w__law_odd_4 X [some (fd a xs), some (.d (.bool b)), some (.lst c2 ((L ++ (List.replicate (4 : Int).toNat [PyData.int (z + 1), PyData.int (z - 1), PyData.str (if b then "True" else "False")]).flatten).map .d))] k
    have fin2 := fun (k' : Kt) hkk => grow c2 [.int (z + 1), .int (z - 1), .str (if b then "True" else "False")] k' ge (Nat.le_of_ble_eq_true rfl) hkk
    generalize L ++ (List.replicate (4 : Int).toNat [PyData.int (z + 1), PyData.int (z - 1), PyData.str (if b then "True" else "False")]).flatten = L2 at fin2
    iterate 4 clean_wf
    exact fin2 _ fun _ _ h => h
  | @str _ x hp =>
    rw [wt_str] at hw
    have c1' := len_cut (x := x) none (some (-1))
    have la : Str.length ("a" : Str) = 1 := by decide +kernel
    have lA : Str.length ("A" : Str) = 1 := by decide +kernel
    have ls : Str.length (" " : Str) = 1 := by decide +kernel
    clean_wf
    clean_wf
    clean_wf
    apply nx_asgLE (ds := L ++ (List.replicate (4 : Int).toNat [.str (x ++ ("a" : Str)), .str (cutS x none (some (-1))), .str (x ++ ("A" : Str)), .str (x ++ (" " : Str))]).flatten)
    · apply e_catL
      · exact u_own rfl
      · apply EvL.u
        apply e_mulL
        · apply EvL.u
          apply e_lst
          · apply a_co
            · get_elem_tactic_trivial
            apply a_co
            · exact e_slS (Ev.u (e_var rfl)) ov_no (ov_so (e_neg e_k)) (by omega)
            get_elem_tactic_trivial
          · exact Nat.le_of_ble_eq_true rfl
        · get_elem_tactic_trivial
        · exact ⟨by omega, by omega, Nat.le_of_ble_eq_true rfl⟩
      · show L.length + 16 ≤ _
        omega
    · rfl
    intro c2
    refine nx_nil ?_
    have pl : plainS ("a" : Str) ∧ plainS ("A" : Str) ∧ plainS (" " : Str) := ⟨plainS_lit (by decide +kernel), plainS_lit (by decide +kernel), plainS_lit (by decide +kernel)⟩
    have ge : ∀ d ∈ ([.str (x ++ ("a" : Str)), .str (cutS x none (some (-1))), .str (x ++ ("A" : Str)), .str (x ++ (" " : Str))] : List D), G (s + 1) (dn + 2) d ∧ d.weight ≤ 2 * PyData.weight (.str x) + 20000 := by
      have st : ∀ {y : Str}, plainS y → y.length ≤ x.length + 1 → G (s + 1) (dn + 2) (.str y) ∧ PyData.weight (.str y) ≤ 2 * PyData.weight (.str x) + 20000 := fun h1 h2 => ⟨.str h1, by rw [wt_str, wt_str]; omega⟩
      exact all_cons (st (plain_app hp pl.1) (by rw [app_len]; omega)) (all_cons (st (plain_cut _ _ hp) (by omega)) (all_cons (st (plain_app hp pl.2.1) (by rw [app_len]; omega)) (all_one (st (plain_app hp pl.2.2) (by rw [app_len]; omega)))))
    simp_wf
    show Nx w__law_odd_6 X [some (fd a xs), some (.d (.str x)), some (.lst c2 ((L ++ (List.replicate (4 : Int).toNat [PyData.str (x ++ ("a" : Str)), PyData.str (cutS x none (some (-1))), PyData.str (x ++ ("A" : Str)), PyData.str (x ++ (" " : Str))]).flatten).map .d))] k
    have fin2 := fun (k' : Kt) hkk => grow c2 [.str (x ++ ("a" : Str)), .str (cutS x none (some (-1))), .str (x ++ ("A" : Str)), .str (x ++ (" " : Str))] k' ge (Nat.le_of_ble_eq_true rfl) hkk
    generalize L ++ (List.replicate (4 : Int).toNat [PyData.str (x ++ ("a" : Str)), PyData.str (cutS x none (some (-1))), PyData.str (x ++ ("A" : Str)), PyData.str (x ++ (" " : Str))]).flatten = L2 at fin2
    iterate 2 clean_wf
    exact fin2 _ fun _ _ h => h
  | @lst m ds hd =>
    iterate 6 clean_wf
    exact fin _ fun _ _ h => h
  | @tup m ds hd =>
    have hW : PyData.weightAll ds ≤ 100000 := by rw [← wt_tup]; exact hw
    have hL : ds.length ≤ 100000 := Nat.le_trans len_wt hW
    have c1' := cutD_len (xs := ds) (lo := none) (hi := some (-1))
    have gd : ∀ d ∈ ds, G (s + 1) (m + 2) d := fun d h => (hd d h).mono (by omega) (by omega)
    iterate 5 clean_wf
    apply nx_asgLE (ds := L ++ (List.replicate (4 : Int).toNat [.list ds, .tuple (ds ++ [.none]), .tuple (ds ++ ds), .tuple (cutD ds none (some (-1)))]).flatten)
    · apply e_catL
      · exact u_own rfl
      · apply EvL.u
        apply e_mulL
        · apply EvL.u
          apply e_lst
          · apply a_co
            · get_elem_tactic_trivial
            apply a_co
            · get_elem_tactic_trivial
            apply a_co
            · get_elem_tactic_trivial
            apply a_co
            · exact e_slT (Ev.u (e_var rfl)) ov_no (ov_so (e_neg e_k))
            exact a_no
          · exact Nat.le_of_ble_eq_true rfl
        · get_elem_tactic_trivial
        · exact ⟨by omega, by omega, Nat.le_of_ble_eq_true rfl⟩
      · show L.length + 16 ≤ _
        omega
    · rfl
    intro c2
    refine nx_nil ?_
    have w1 := wt_cut (ds := ds) (lo := none) (hi := some (-1))
    have ge : ∀ d ∈ ([.list ds, .tuple (ds ++ [.none]), .tuple (ds ++ ds), .tuple (cutD ds none (some (-1)))] : List D), G (s + 1) (m + 1 + 2) d ∧ d.weight ≤ 2 * PyData.weight (.tuple ds) + 20000 := by
      have tp : ∀ {L : List D}, (∀ d ∈ L, G (s + 1) (m + 2) d) → PyData.weightAll L ≤ 2 * PyData.weightAll ds + 300 → G (s + 1) (m + 1 + 2) (.tuple L) ∧ PyData.weight (.tuple L) ≤ 2 * PyData.weight (.tuple ds) + 20000 := fun h1 h2 => ⟨.tup h1, by rw [wt_tup, wt_tup]; omega⟩
      exact all_cons ⟨.lst gd, by rw [wt_lst, wt_tup]; omega⟩ (all_cons (tp (all_app gd (all_one .non)) (by rw [wt_app, wt_one, wt_none]; omega)) (all_cons (tp (all_app gd gd) (by rw [wt_app]; omega)) (all_one (tp (all_cut gd) (by omega)))))
    simp_wf
    show Nx w__law_odd_8 X [some (fd a xs), some (.d (.tuple ds)), some (.lst c2 ((L ++ (List.replicate (4 : Int).toNat [PyData.list ds, PyData.tuple (ds ++ [.none]), PyData.tuple (ds ++ ds), PyData.tuple (cutD ds none (some (-1)))]).flatten).map .d))] k
    exact grow c2 [.list ds, .tuple (ds ++ [.none]), .tuple (ds ++ ds), .tuple (cutD ds none (some (-1)))] k ge (Nat.le_of_ble_eq_true rfl) fun _ _ h => h
end
theorem e_revL {we : WT} {env : Vx.Env} {ds : List D} (ha : EvU we env (.list ds)) : EvL (wRevL we) env ds.reverse := fun PX P q => ha _ _ fun x hx => hx _ q
theorem wt_rev {ds : List D} : PyData.weightAll ds.reverse = PyData.weightAll ds := by
  induction ds with
  | nil => rfl
  | cons d ds ih => rw [List.reverse_cons, wt_app, wt_one, ih, wt_cons]; omega
section
local macro_rules | `(tactic| decreasing_trivial_pre_omega) => `(tactic| omega)
local macro_rules | `(tactic| get_elem_tactic_trivial) => `(tactic| first
  | ((with_reducible apply b_addT); (focus ((try simp only [List.length_append, List.length_cons, List.length_nil]); omega)))
  | ((with_reducible apply e_frz) ; (focus (get_elem_tactic_trivial)))
  | ((with_reducible apply e_slT); (focus (get_elem_tactic_trivial)); (focus (get_elem_tactic_trivial)); (focus (get_elem_tactic_trivial)))
  | ((with_reducible apply e_tup); (focus (get_elem_tactic_trivial)); (focus (first | exact Nat.le_of_ble_eq_true rfl | decide))))
set_option maxHeartbeats 2000000 in
theorem bent_ok : ∀ (m : Nat) {a : Addr} {xs : List O} {n s dn : Nat} {x : D} {P : O → List O → Prop} {PX : Exn → List O → Prop}, Feed xs n → n + 6 * m < 70000 → m < 100 → G s dn x → s ≤ 900 → dn ≤ 50 → dn < m → x.weight ≤ 100000 →
    (∀ d xs', G (s + 1) (dn + 2) d → d.weight ≤ 2 * x.weight + 20000 → Feed xs' (n + 6 * m) → P (.d d) [fd a xs', .d x]) → F__law_bent m [fd a xs, .d x] P PX
  | 0, _, _, _, _, _, _, _, _, _, _, _, _, _, _, h0, _, _ => by omega
  | m + 1, a, xs, n, s, dn, x, P, PX, ht, hn, hm, hx, hs, hdn, hdm, hw, h => by
    rw [F__law_bent_s]
    refine sem_go fun k X hk => ?_
    have oddg : ∀ {xs' : List O} {k' : Kt}, Feed xs' (n + 2) → (∀ x env, k.rt x env → k'.rt x env) → Nx (w__law_bent_1 (F__law_bent m)) X [some (fd a xs'), some (.d x), none, none, none] k' := by
      intro xs' k' ht' hkk
      clean_wf
      refine odd_ok ht' (by omega) hx hs hw fun d xs2 hd hw ht2 => ?_
      trivial
      refine hkk _ _ ?_
      refine rt_go hk ?_
      trivial
      exact h d xs2 hd hw (ht2.mono (by omega))
    cases hx with
    | @tup dn ds hd =>
      simp only [wt_tup] at h hw
      have hL : ds.length ≤ 100000 := Nat.le_trans len_wt hw
      have ho : ∀ {xs' : List O} {k' : Kt}, Feed xs' (n + 2) → (∀ x env, k.rt x env → k'.rt x env) → Nx (w__law_bent_1 (F__law_bent m)) X [some (fd a xs'), some (.d (.tuple ds)), none, none, none] k' := oddg
      clean_wf
      rw [eqv_int]
      refine ifB (fun g => ?_) (fun g => ?_)
      · trivial
        exact ho (ht.mono (by omega)) fun _ _ h => h
      have g : 0 < (ds.length : Int) := by have := of_decide_eq_false g; omega
      trivial
      refine dw ht (by omega) (by omega) (by omega) fun v0 xs1 g1 g2 ht => ?_
      trivial
      refine ifB (fun g3 => ?_) (fun g3 => ?_)
      · trivial
        exact ho (ht.mono (by omega)) fun _ _ h => h
      trivial
      clean_wf
      clean_wf
      refine dw ht (by omega) (by omega) (by omega) fun v xs2 g4 g5 ht => ?_
      trivial
      simp_wf
      clean_wf
      refine dw ht (by omega) (by omega) (by omega) fun w xs3 g6 g7 ht => ?_
      trivial
      show Nx (w__law_bent_4 (F__law_bent m)) X [some (fd a xs3), some (.d (.tuple ds)), some (.d (.int v)), some (.d (.int w)), none] _
      obtain ⟨j, rfl⟩ : ∃ j : Nat, v = j := ⟨v.toNat, by omega⟩
      obtain ⟨e, he, hat⟩ := at_mem (ds := ds) g4 g5
      have hat2 : ds[j]? = some e := by
        unfold atI at hat
        rw [ixN_int g4 g5] at hat
        exact hat
      have hwe := wt_mem he
      have gd : ∀ d ∈ ds, G (s + 1) (dn + 2) d := fun d h => (hd d h).mono (by omega) (by omega)
      have c1 := cutD_len (xs := ds) (lo := none) (hi := some (j : Int))
      have c2 := cutD_len (xs := ds) (lo := none) (hi := some ((j : Int) + 1))
      have c3 := cutD_len (xs := ds) (lo := some (j : Int)) (hi := none)
      have c4 := cutD_len (xs := ds) (lo := some ((j : Int) + 1)) (hi := none)
      have tp : ∀ {L : List D} {xs' : List O}, (∀ d ∈ L, G (s + 1) (dn + 2) d) → PyData.weightAll L ≤ 2 * PyData.weightAll ds + 20000 → Feed xs' (n + 6 * (m + 1)) → P (.d (.tuple L)) [fd a xs', .d (.tuple ds)] := fun h1 h2 h3 => h _ _ (.tup h1) (by rw [wt_tup]; exact h2) h3
      apply nx_ifE
      · get_elem_tactic_trivial
      refine ifB (fun g8 => ?_) (fun g8 => ?_)
      · apply nx_retE
        · get_elem_tactic_trivial
        show k.rt _ _
        refine rt_go hk ?_
        trivial
        have w2 := wt_cut2 (ds := ds) g4 (show (j : Int) ≤ (j : Int) + 1 by omega)
        exact tp (all_app (all_cut gd) (all_cut gd)) (by rw [wt_app]; omega) (ht.mono (by omega))
      refine nx_nil ?_
      apply nx_ifE
      · get_elem_tactic_trivial
      refine ifB (fun g9 => ?_) (fun g9 => ?_)
      · apply nx_retE
        · get_elem_tactic_trivial
        show k.rt _ _
        refine rt_go hk ?_
        trivial
        have w2 := wt_cut (ds := ds) (lo := none) (hi := some ((j : Int) + 1))
        have w4 := wt_cut (ds := ds) (lo := some (j : Int)) (hi := none)
        exact tp (all_app (all_cut gd) (all_cut gd)) (by rw [wt_app]; omega) (ht.mono (by omega))
      refine nx_nil ?_
      apply nx_ifE
      · get_elem_tactic_trivial
      refine ifB (fun g10 => ?_) (fun g10 => ?_)
      · apply nx_asgLE (ds := ds)
        · exact e_listT (Ev.u (e_var rfl))
        · rfl
        intro c1
        have cL := cutD_len (xs := ds) (lo := some (j : Int)) (hi := some ((j : Int) + 2))
        have wL := wt_cut (ds := ds) (lo := some (j : Int)) (hi := some ((j : Int) + 2))
        apply nx_cutE (a := c1) (ds := ds) (ys := (cutD ds (some (j : Int)) (some ((j : Int) + 2))).reverse) (lo := j) (hi := (j : Int) + 2)
        · apply e_revL
          apply EvL.u
          apply e_slL
          · exact u_own rfl
          · get_elem_tactic_trivial
          · get_elem_tactic_trivial
        · rfl
        · get_elem_tactic_trivial
        · get_elem_tactic_trivial
        · omega
        · omega
        · rw [List.length_reverse]; omega
        have er : PyData.weightAll (cutD ds (some (j : Int)) (some ((j : Int) + 2))).reverse = PyData.weightAll (cutD ds (some (j : Int)) (some ((j : Int) + 2))) := wt_rev
        have wt := wt_drop (xs := ds) (j := j) (k := min ((j : Int) + 2).toNat ds.length) (by omega)
        have gr : ∀ d ∈ ds.take (j : Int).toNat ++ (cutD ds (some (j : Int)) (some ((j : Int) + 2))).reverse ++ ds.drop (min ((j : Int) + 2).toNat ds.length), G (s + 1) (dn + 2) d :=
          all_app (all_app (fun d hd => gd d (List.mem_of_mem_take hd)) fun d hd => gd d (mem_cutD (List.mem_reverse.mp hd))) fun d hd => gd d (List.mem_of_mem_drop hd)
        have wr : PyData.weightAll (ds.take (j : Int).toNat ++ (cutD ds (some (j : Int)) (some ((j : Int) + 2))).reverse ++ ds.drop (min ((j : Int) + 2).toNat ds.length)) ≤ 2 * PyData.weightAll ds + 20000 := by
          rw [wt_app, wt_app, er]
          have h3 := wt_take (xs := ds) (j := j)
          rw [show ((j : Int)).toNat = j by omega]
          omega
        generalize ds.take (j : Int).toNat ++ (cutD ds (some (j : Int)) (some ((j : Int) + 2))).reverse ++ ds.drop (min ((j : Int) + 2).toNat ds.length) = L at gr wr
        apply nx_retE (v := .tuple L)
        · apply e_frz
          apply e_tuple
          exact u_own rfl
        show k.rt _ _
        refine rt_go hk ?_
        trivial
        exact tp gr wr (ht.mono (by omega))
      refine nx_nil ?_
      refine nx_ret ?_
      unfold wFrz wBin
      refine (e_slT (ds := ds) (Ev.u (e_var rfl)) ov_no (ov_so (e_var rfl))) _ _ ?_
      unfold wTup aCons aNil wCall
      trivial
      refine onSome_mk hat ?_
      trivial
      refine bent_ok m ht (by omega) (by omega) (hd e he) hs (by omega) (by omega) (by omega) fun d xs4 hd2 hw2 ht3 => ?_
      trivial
      refine smallE (by show (cutD ds none (some (j : Int))).length + 1 ≤ _; omega) ?_
      trivial
      refine smallE (by rw [List.length_append]; show (cutD ds none (some (j : Int))).length + 1 + (cutD ds (some ((j : Int) + 1)) none).length ≤ _; omega) ?_
      trivial
      show k.rt _ _
      refine rt_go hk ?_
      trivial
      have wp := wt_put (d := d) (j := j) hat2
      refine h _ xs4 (.tup (all_app (all_app (all_cut gd) (all_one hd2)) (all_cut gd))) ?_ (ht3.mono (by omega))
      show PyData.weight (.tuple (cutD ds none (some (j : Int)) ++ [d] ++ cutD ds (some ((j : Int) + 1)) none)) ≤ _
      rw [wt_tup]
      omega
    | _ =>
      iterate 1 clean_wf
      exact oddg (ht.mono (by omega)) fun _ _ h => h
end
section
theorem plain_letters {w : Nat} {x : D} {p : D → Bool} (h : GD w x) : plainD (.list (((letters (strD x)).filter p).map fun x => x)) = true := by
  have z : G 0 1 (.list (((letters (strD x)).filter p).map fun x => x)) := .lst fun d hd => by
    rw [List.map_id'] at hd
    obtain ⟨c, hc, rfl⟩ := letters_mem (List.mem_filter.mp hd).1
    exact .str fun z hz => by
      have hz : z ∈ [c] := hz
      rw [List.mem_singleton.mp hz]
      exact h.plainS c hc
  exact (z.mo (by omega)).plain (by omega)
theorem cx_ltL {x : D} {y : Str} (h : isT .str x = true) : CmpV .lt x (.str y) (decide ((strD x).cps.toList < y.cps.toList)) := fun Q q => by
  rw [str_of h]; exact q
theorem cx_gtL {x : D} {y : Str} (h : isT .str x = true) : CmpV .gt x (.str y) (decide (y.cps.toList < (strD x).cps.toList)) := fun Q q => by
  rw [str_of h]; exact q
local macro_rules | `(tactic| get_elem_tactic_trivial) => `(tactic| first
  | ((with_reducible apply cx_inS); (focus (exact letter_str (by assumption))))
  | ((with_reducible apply cx_ltL); (focus (exact letter_str (by assumption))))
  | ((with_reducible apply cx_gtL); (focus (exact letter_str (by assumption))))
  | ((with_reducible apply e_compF); (focus (get_elem_tactic_trivial)); (focus ((exact True.intro))); (focus (first | exact Nat.le_of_ble_eq_true rfl | decide)); (focus (first | (rw [letters_len]; omega) | decreasing_trivial)); (focus (get_elem_tactic_trivial)); (focus (get_elem_tactic_trivial)))
  | ((with_reducible apply c_eqNil); (focus (exact plain_letters (by assumption))))
  | ((with_reducible apply e_allC); (focus (get_elem_tactic_trivial)); (focus ((exact True.intro))); (focus (first | exact Nat.le_of_ble_eq_true rfl | decide)); (focus (first | (rw [letters_len]; omega) | decreasing_trivial)); (focus (get_elem_tactic_trivial))))
def isLow (c : Nat) : Bool := decide (97 ≤ c ∧ c ≤ 122)
def isWordD (x : D) : Bool := isT .str x && decide (1 ≤ (strD x).length ∧ (strD x).length ≤ 8) && (strD x).cps.toList.all isLow
theorem word_str {x : D} (h : isWordD x = true) : isT .str x = true := by
  unfold isWordD at h
  simp only [Bool.and_eq_true] at h
  exact h.1.1
theorem letters_all {x : Str} {p : D → Bool} {q : Nat → Bool} (hx : plainS x) (h : ∀ c, c < 128 → p (.str ⟨#[c]⟩) = q c) : (letters x).all p = x.cps.toList.all q := by
  unfold letters
  rw [List.all_map]
  have e : ∀ l : List Nat, (∀ c ∈ l, c < 128) → l.all (p ∘ fun c => PyData.str ⟨#[c]⟩) = l.all q := by
    intro l hl
    induction l with
    | nil => rfl
    | cons c l ih =>
      rw [List.all_cons, List.all_cons, ih fun z hz => hl z (List.mem_cons_of_mem _ hz)]
      show (p (.str ⟨#[c]⟩) && _) = _
      rw [h c (hl c List.mem_cons_self)]
  exact e _ hx
theorem word_r {x : D} (h : GD 700000 x) : RtF F_is_word [x] (.bool (isWordD x)) := by
  have hl := h.str
  unfold F_is_word
  apply RtF.to
  · apply rtF
    get_elem_tactic_trivial
  · rw [letters_all (q := isLow) h.plainS (by decide +kernel)]
    unfold isWordD
    show _ = PyData.bool (decide (Ty.str ∈ tyOf x) && _ && _)
    have e : (decide ((1 : Int) ≤ ((strD x).length : Int)) && decide (((strD x).length : Int) ≤ 8)) = decide (1 ≤ (strD x).length ∧ (strD x).length ≤ 8) := by
      rw [← Bool.decide_and]
      exact decide_eq_decide.mpr ⟨fun h => ⟨by omega, by omega⟩, fun h => ⟨by omega, by omega⟩⟩
    rw [e]
    cases decide (Ty.str ∈ tyOf x)
    · rfl
    · cases decide (1 ≤ (strD x).length ∧ (strD x).length ≤ 8) <;> rfl
theorem number_r {x : D} : RtF F_is_number [x] (.bool (isNumD x)) := by
  unfold F_is_number
  apply RtF.to
  · apply rtF
    get_elem_tactic_trivial
  · rw [isNumD_eq]
end
section
def fromD (x : D) (lo : Int) : Bool := isNumD x && decide (lo ≤ intD x)
def toB (x : D) (hi : Int) : Bool := (isNumD x && decide (0 ≤ intD x)) && decide (intD x ≤ hi)
theorem toB_num {x : D} {hi : Int} (h : toB x hi = true) : isNumD x = true := by
  unfold toB at h
  simp only [Bool.and_eq_true] at h
  exact h.1.1
theorem fromD_num {x : D} {hi : Int} (h : fromD x hi = true) : isNumD x = true := by
  unfold fromD at h
  simp only [Bool.and_eq_true] at h
  exact h.1
theorem from_r {x : D} {lo : Int} : RtF F_is_from [x, .int lo] (.bool (fromD x lo)) := by
  unfold F_is_from
  apply RtF.to
  · apply rtF
    apply r_ret
    apply e_and
    · apply e_call
      · get_elem_tactic_trivial
      · exact number_r
      · rfl
    · intro h
      apply e_cmp
      · exact Ev.u (e_var rfl)
      · exact Ev.u (e_var rfl)
      · exact cx_ge h rfl
  · rfl
theorem to_r {x : D} {hi : Int} : RtF F_is_to [x, .int hi] (.bool (toB x hi)) := by
  unfold F_is_to
  apply RtF.to
  · apply rtF
    apply r_ret
    apply e_and
    · apply e_call
      · get_elem_tactic_trivial
      · exact from_r
      · rfl
    · intro h
      apply e_cmp
      · exact Ev.u (e_var rfl)
      · exact Ev.u (e_var rfl)
      · exact cx_le (fromD_num h) rfl
  · rfl
theorem cx_neSS {x y : D} (hx : isT .str x = true) (hy : isT .str y = true) : CmpV .ne x y (!decide (strD x = strD y)) := by rw [str_of hx, str_of hy]; exact c_neS
def len4 (r : D) (n : Int) : Bool := decide (((items r).length : Int) = n)
def folkD (day : Int) (r : D) : Bool := (len4 r 4 && (isWordD (atD r 0) && isWordD (atD r 1))) && ((isNumD (atD r 2) && decide (intD (atD r 2) ≤ day) && isT .str (atD r 3)) && (decide (strD (atD r 3) = ("" : Str)) || (isWordD (atD r 3) && !decide (strD (atD r 3) = strD (atD r 0)))))
def restD (k : Str) (day : Int) (r : D) : Bool :=
  if k = ("folk" : Str) then folkD day r
  else if k = ("name" : Str) then len4 r 3 && (isWordD (atD r 0) && (fromD (atD r 1) 0 && isWordD (atD r 2)))
  else if k = ("heir" : Str) ∨ k = ("sell" : Str) then len4 r 2 && (isWordD (atD r 0) && (isWordD (atD r 1) && !decide (strD (atD r 0) = strD (atD r 1))))
  else if k = ("away" : Str) then len4 r 2 && (isWordD (atD r 0) && fromD (atD r 1) 1)
  else if k = ("rent" : Str) then len4 r 1 && fromD (atD r 0) 0
  else len4 r 1 && isWordD (atD r 0)
abbrev Gq (d : D) : Prop := GD 700000 d
theorem gq_at {r : List D} {n : Int} (h : ∀ d ∈ r, Gq d) (h0 : 0 ≤ n ∧ n < (r.length : Int)) : Gq (atD (.tuple r) n) := h _ (atD_mem (x := .tuple r) h0)
theorem len_of {r : D} {n : Int} (h : len4 r n = true) : ((items r).length : Int) = n := of_decide_eq_true h
local macro_rules | `(tactic| decreasing_trivial_pre_omega) => `(tactic| first
  | assumption | exact number_r | exact from_r
  | (refine word_r (gq_at (by assumption) ?_); decreasing_trivial))
theorem e_ixR {wa wb : WT} {env : Vx.Env} {r : List D} {n : Int} (ha : Ev wa env (.tuple r)) (hb : EvU wb env (.int n)) (h : 0 ≤ n ∧ n < (r.length : Int)) : Ev (wIx wa wb) env (atD (.tuple r) n) := e_ix ha hb rfl h
local macro_rules | `(tactic| get_elem_tactic_trivial) => `(tactic| first
  | ((with_reducible apply e_ixR); (focus (get_elem_tactic_trivial)); (focus (get_elem_tactic_trivial)); (focus (first | omega | decreasing_trivial))))
theorem folk_r {day : Int} {r : List D} (hr : ∀ d ∈ r, Gq d) : RtF F_is_folk [.int day, .tuple r] (.bool (folkD day (.tuple r))) := by
  unfold F_is_folk
  apply RtF.to
  · apply rtF
    apply r_if (p := !len4 (.tuple r) 4 || (!isWordD (atD (.tuple r) 0) || !isWordD (atD (.tuple r) 1)))
    · apply e_or
      · apply e_cmp
        · exact Ev.u (e_lenT (Ev.u (e_var rfl)))
        · exact Ev.u e_k
        · exact c_neI
      · intro h
        have hl : (r.length : Int) = 4 := len_of (r := .tuple r) (n := 4) (by simpa using h)
        get_elem_tactic_trivial
    · intro _
      exact r_ret e_k
    · intro h
      simp only [Bool.or_eq_false_iff, Bool.not_eq_false'] at h
      have hl : (r.length : Int) = 4 := len_of h.1
      apply r_if
      · apply e_or
        · get_elem_tactic_trivial
        · intro h2
          apply e_or
          · apply e_cmp
            · get_elem_tactic_trivial
            · exact Ev.u (e_var rfl)
            · exact cx_gt (by simpa using h2) rfl
          · intro h3
            get_elem_tactic_trivial
      · intro _
        exact r_ret e_k
      · intro h2
        simp only [Bool.or_eq_false_iff, Bool.not_eq_false'] at h2
        apply r_ret
        apply e_or
        · apply e_cmp
          · get_elem_tactic_trivial
          · exact Ev.u e_k
          · exact cx_eqS h2.2.2
        · intro h3
          apply e_and
          · get_elem_tactic_trivial
          · intro h4
            apply e_cmp
            · get_elem_tactic_trivial
            · get_elem_tactic_trivial
            · exact cx_neSS h2.2.2 (word_str h.2.1)
  · unfold folkD
    rw [show decide (intD (atD (.tuple r) 2) ≤ day) = !decide (day < intD (atD (.tuple r) 2)) by rw [← decide_not]; exact decide_eq_decide.mpr ⟨fun h => by omega, fun h => by omega⟩]
    generalize len4 (.tuple r) 4 = p1
    generalize isWordD (atD (.tuple r) 0) = p2
    generalize isWordD (atD (.tuple r) 1) = p3
    generalize isNumD (atD (.tuple r) 2) = p4
    show (if _ then PyData.bool false else if (_ || (_ || !decide (Ty.str ∈ tyOf _))) = true then _ else _) = PyData.bool (_ && (_ && _ && decide (Ty.str ∈ tyOf _) && _))
    rw [show intD (PyData.int day) = day from rfl]
    generalize decide (day < intD (atD (.tuple r) 2)) = p5
    generalize decide (Ty.str ∈ tyOf (atD (.tuple r) 3)) = p6
    cases p1 <;> cases p2 <;> cases p3 <;> cases p4 <;> cases p5 <;> cases p6 <;> rfl
theorem naming_r {r : List D} (hr : ∀ d ∈ r, Gq d) : RtF F_is_naming [.tuple r] (.bool (len4 (.tuple r) 3 && (isWordD (atD (.tuple r) 0) && (fromD (atD (.tuple r) 1) 0 && isWordD (atD (.tuple r) 2))))) := by
  unfold F_is_naming
  apply RtF.to
  · apply rtF
    apply r_ret
    apply e_and (p := len4 (.tuple r) 3)
    · apply e_cmp
      · exact Ev.u (e_lenT (Ev.u (e_var rfl)))
      · exact Ev.u e_k
      · exact c_eqI
    · intro h
      have hl : (r.length : Int) = 3 := len_of h
      get_elem_tactic_trivial
  · rfl
theorem in2 {k : Str} {Q : Bool → Prop} (q : Q (decide (k = ("heir" : Str) ∨ k = ("sell" : Str)))) : cmpW .inn (.str k) (.tuple [.str "heir", .str "sell"]) Q := by
  refine c_inT (by rfl) _ ?_
  simp only [List.any_cons, List.any_nil, eqv_str]
  have e : (decide (("heir" : Str) = k) || (decide (("sell" : Str) = k) || false)) = decide (k = ("heir" : Str) ∨ k = ("sell" : Str)) := by
    rw [Bool.or_false, ← Bool.decide_or]
    exact decide_eq_decide.mpr ⟨fun h => h.imp Eq.symm Eq.symm, fun h => h.imp Eq.symm Eq.symm⟩
  rw [e]; exact q
set_option maxHeartbeats 1000000 in
theorem rest_r {k : Str} {day : Int} {r : List D} (hr : ∀ d ∈ r, Gq d) : RtF F_is_rest [.str k, .int day, .tuple r] (.bool (restD k day (.tuple r))) := by
  unfold F_is_rest
  apply RtF.to
  · apply rtF
    apply r_if
    · get_elem_tactic_trivial
    · intro _
      apply r_ret
      apply e_call
      · get_elem_tactic_trivial
      · exact folk_r hr
      · rfl
    · intro _
      apply r_if
      · get_elem_tactic_trivial
      · intro _
        apply r_ret
        apply e_call
        · get_elem_tactic_trivial
        · exact naming_r hr
        · rfl
      · intro _
        apply r_if
        · apply e_cmp
          · exact Ev.u (e_var rfl)
          · get_elem_tactic_trivial
          · exact fun Q q => in2 q
        · intro _
          apply r_ret
          apply e_and (p := len4 (.tuple r) 2)
          · apply e_cmp
            · exact Ev.u (e_lenT (Ev.u (e_var rfl)))
            · exact Ev.u e_k
            · exact c_eqI
          · intro h
            have hl : (r.length : Int) = 2 := len_of h
            apply e_and
            · get_elem_tactic_trivial
            · intro h1
              apply e_and
              · get_elem_tactic_trivial
              · intro h2
                apply e_cmp
                · get_elem_tactic_trivial
                · get_elem_tactic_trivial
                · exact cx_neSS (word_str h1) (word_str h2)
        · intro _
          apply r_if
          · get_elem_tactic_trivial
          · intro _
            apply r_ret
            apply e_and (p := len4 (.tuple r) 2)
            · apply e_cmp
              · exact Ev.u (e_lenT (Ev.u (e_var rfl)))
              · exact Ev.u e_k
              · exact c_eqI
            · intro h
              have hl : (r.length : Int) = 2 := len_of h
              get_elem_tactic_trivial
          · intro _
            apply r_if
            · get_elem_tactic_trivial
            · intro _
              apply r_ret
              apply e_and (p := len4 (.tuple r) 1)
              · apply e_cmp
                · exact Ev.u (e_lenT (Ev.u (e_var rfl)))
                · exact Ev.u e_k
                · exact c_eqI
              · intro h
                have hl : (r.length : Int) = 1 := len_of h
                get_elem_tactic_trivial
            · intro _
              apply r_ret
              apply e_and (p := len4 (.tuple r) 1)
              · apply e_cmp
                · exact Ev.u (e_lenT (Ev.u (e_var rfl)))
                · exact Ev.u e_k
                · exact c_eqI
              · intro h
                have hl : (r.length : Int) = 1 := len_of h
                get_elem_tactic_trivial
  · unfold restD
    simp only [decide_eq_true_eq]
    split
    · rfl
    split
    · rfl
    split
    · rfl
    split
    · rfl
    split <;> rfl
end
section
def kindD (k : Str) : Bool := decide (k = ("folk" : Str) ∨ k = ("heir" : Str) ∨ k = ("sell" : Str) ∨ k = ("away" : Str) ∨ k = ("rent" : Str) ∨ k = ("ask" : Str) ∨ k = ("name" : Str) ∨ k = ("go" : Str))
def pageL (ds : List D) : Bool := (decide (3 ≤ (ds.length : Int)) && toB (atD (.tuple ds) 0) 99999) && ((toB (atD (.tuple ds) 1) 999 && (isT .str (atD (.tuple ds) 2) && kindD (strD (atD (.tuple ds) 2)))) && restD (strD (atD (.tuple ds) 2)) (intD (atD (.tuple ds) 0)) (.tuple (ds.drop 3)))
def pageD : D → Bool
  | .tuple ds => pageL ds
  | _ => false
theorem notIn8 {x : D} {Q : Bool → Prop} (hx : isT .str x = true) (q : Q (!kindD (strD x))) : cmpW .notIn x (.tuple [.str "folk", .str "heir", .str "sell", .str "away", .str "rent", .str "ask", .str "name", .str "go"]) Q := by
  rw [str_of hx]
  refine c_notInT (by rfl) _ ?_
  simp only [List.any_cons, List.any_nil, eqv_str]
  have e : kindD (strD x) = (decide (("folk" : Str) = strD x) || (decide (("heir" : Str) = strD x) || (decide (("sell" : Str) = strD x) || (decide (("away" : Str) = strD x) || (decide (("rent" : Str) = strD x) || (decide (("ask" : Str) = strD x) || (decide (("name" : Str) = strD x) || (decide (("go" : Str) = strD x) || false)))))))) := by
    rw [Bool.or_false]
    simp only [← Bool.decide_or]
    exact decide_eq_decide.mpr (by simp only [eq_comm])
  rw [← e]; exact q
local macro_rules | `(tactic| decreasing_trivial_pre_omega) => `(tactic| first
  | assumption | exact to_r)
local macro_rules | `(tactic| get_elem_tactic_trivial) => `(tactic| first
  | ((with_reducible apply e_ixR); (focus (get_elem_tactic_trivial)); (focus (get_elem_tactic_trivial)); (focus (first | omega | decreasing_trivial))))
theorem page_r {x : D} (h : Gq x) : RtF F_is_page [x] (.bool (pageD x)) := by
  cases x with
  | tuple ds =>
    unfold F_is_page
    apply RtF.to
    · apply rtF
      apply r_if (p := !(decide (3 ≤ (ds.length : Int)) && toB (atD (.tuple ds) 0) 99999))
      · rw [show (!(decide (3 ≤ (ds.length : Int)) && toB (atD (.tuple ds) 0) 99999)) = (!true || (decide ((ds.length : Int) < 3) || !toB (atD (.tuple ds) 0) 99999)) by
          rw [Bool.not_and, ← decide_not, show decide (¬ 3 ≤ (ds.length : Int)) = decide ((ds.length : Int) < 3) from decide_eq_decide.mpr ⟨fun h => by omega, fun h => by omega⟩]
          rfl]
        apply e_or
        · exact e_not (Ev.to (e_isi (Ev.u (e_var rfl))) (by rfl))
        · intro _
          apply e_or
          · apply e_cmp
            · exact Ev.u (e_lenT (Ev.u (e_var rfl)))
            · exact Ev.u e_k
            · exact c_lt
          · intro h2
            have h2 : ¬ (ds.length : Int) < 3 := of_decide_eq_false h2
            get_elem_tactic_trivial
      · intro _
        exact r_ret e_k
      · intro h1
        simp only [Bool.not_eq_false', Bool.and_eq_true] at h1
        have hl : 3 ≤ (ds.length : Int) := of_decide_eq_true h1.1
        have hn := toB_num h1.2
        apply r_if
        · apply e_or
          · get_elem_tactic_trivial
          · intro h2
            apply e_or
            · get_elem_tactic_trivial
            · intro h3
              apply e_cmp
              · get_elem_tactic_trivial
              · exact Ev.u e_k
              · exact fun Q q => notIn8 (by simpa using h3) q
        · intro _
          exact r_ret e_k
        · intro h2
          simp only [Bool.or_eq_false_iff, Bool.not_eq_false'] at h2
          apply r_ret
          apply e_call (vs := [.str (strD (atD (.tuple ds) 2)), .int (intD (atD (.tuple ds) 0)), .tuple (ds.drop 3)])
          · apply a_co
            · refine Ev.to (e_ixR (n := 2) (e_var rfl) (Ev.u e_k) (by omega)) (str_of h2.2.1)
            apply a_co
            · refine Ev.to (e_ixR (n := 0) (e_var rfl) (Ev.u e_k) (by omega)) (num_of hn)
            apply a_co
            · refine Ev.to (e_slT (l := some 3) (h := none) (Ev.u (e_var rfl)) (ov_so e_k) ov_no) ?_
              rw [cut_from (by omega)]; rfl
            exact a_no
          · exact rest_r fun d hd => GD.kid h (x := .tuple ds) (List.mem_of_mem_drop hd)
          · rfl
    · show _ = PyData.bool (pageL ds)
      unfold pageL
      generalize (decide (3 ≤ (ds.length : Int)) && toB (atD (.tuple ds) 0) 99999) = p1
      generalize toB (atD (.tuple ds) 1) 999 = p2
      show (if _ then PyData.bool false else if (_ || (!decide (Ty.str ∈ tyOf _) || _)) = true then _ else _) = PyData.bool (_ && (_ && (decide (Ty.str ∈ tyOf _) && _) && _))
      generalize decide (Ty.str ∈ tyOf (atD (.tuple ds) 2)) = p3
      generalize kindD (strD (atD (.tuple ds) 2)) = p4
      cases p1 <;> cases p2 <;> cases p3 <;> cases p4 <;> rfl
  | _ =>
    intro P PX q
    show F_is_page [.d _] P PX
    unfold F_is_page
    refine sem_go fun k X hk => ?_
    iterate 3 clean_wf
    exact q
local macro_rules | `(tactic| decreasing_trivial_pre_omega) => `(tactic| first
  | assumption | exact lnumber_r
  | (refine lword_r (gq_at (by assumption) ?_); decreasing_trivial))
end
section
open PySem.W hiding keyD
open PyProof.Rows
def knL : List Str := ["folk", "heir", "sell", "away", "rent", "ask", "name", "go"]
def kn (i : Nat) : Str := knL.getD i ""
def shp : Nat → List Bool
  | 0 => [false, false, true, false]
  | 1 => [false, false]
  | 2 => [false, false]
  | 3 => [false, true]
  | 4 => [true]
  | 5 => [false]
  | 6 => [false, true, false]
  | _ => [false]
def SmK : Key → Prop
  | .inl i => i.natAbs ≤ 1000000
  | .inr x => plainS x ∧ x.length ≤ 10
structure Pg (k : List Key) : Prop where
  ex : ∃ (d n : Int) (i : Nat) (r : List Key), k = .inl d :: .inl n :: .inr (kn i) :: r ∧ i < 8 ∧ r.map Sum.isLeft = shp i
  sm : ∀ x ∈ k, SmK x
def pkey : List Key → D
  | .inl d :: .inl n :: .inr s :: r => .tuple [.int d, .int n, .int (knL.idxOf s : Nat), .tuple (r.map keyD)]
  | _ => .none
theorem kn_idx : ∀ {i : Nat}, i < 8 → knL.idxOf (kn i) = i := by
  intro i h
  have z := (by decide +kernel : ∀ i : Nat, i < 8 → knL.idxOf (kn i) = i)
  exact z i h
theorem shp_len : ∀ {i : Nat}, (shp i).length ≤ 4
  | 0 => by decide
  | 1 => by decide
  | 2 => by decide
  | 3 => by decide
  | 4 => by decide
  | 5 => by decide
  | 6 => by decide
  | _ + 7 => Nat.le_of_ble_eq_true rfl
theorem alike_keys : ∀ {r r' : List Key}, r.map Sum.isLeft = r'.map Sum.isLeft → alikeAll (r.map keyD) (r'.map keyD) = true
  | [], _, _ => by simp [alikeAll]
  | _ :: _, [], h => by simp at h
  | x :: r, y :: r', h => by
    rw [List.map_cons, List.map_cons] at h
    injection h with h1 h2
    rw [List.map_cons, List.map_cons]
    unfold alikeAll
    rw [alike_keys h2, Bool.and_true]
    cases x <;> cases y <;> first | rfl | (simp at h1; done) | simp [keyD, alike]
theorem Pg.key {k : List Key} (h : Pg k) : ∃ (d n : Int) (i : Nat) (r : List Key), k = .inl d :: .inl n :: .inr (kn i) :: r ∧ i < 8 ∧ r.map Sum.isLeft = shp i ∧ pkey k = .tuple [.int d, .int n, .int (i : Nat), .tuple (r.map keyD)] := by
  obtain ⟨d, n, i, r, rfl, hi, hs⟩ := h.ex
  refine ⟨d, n, i, r, rfl, hi, hs, ?_⟩
  show PyData.tuple _ = _
  rw [kn_idx hi]
theorem eqvI {i j : Int} (h : PyData.eqv (.int i) (.int j) = true) : i = j := by
  rw [eqv_int] at h; exact of_decide_eq_true h
theorem cmp_go {x y : D} {xs ys : List D} (h : alike x y = true) (h2 : PyData.eqv x y = true → cmpAll xs ys = true) : cmpAll (x :: xs) (y :: ys) = true := by
  unfold cmpAll
  rw [h, Bool.true_and]
  cases e : PyData.eqv x y with
  | true => rw [h2 e]; rfl
  | false => rfl
theorem cmp_pg {k k' : List Key} (h : Pg k) (h' : Pg k') : ∃ x r, pkey k = .tuple (x :: r) ∧ ∃ y r', pkey k' = .tuple (y :: r') ∧ cmpAll (x :: r) (y :: r') = true := by
  obtain ⟨d, n, i, r, -, hi, hs, e⟩ := h.key
  obtain ⟨d', n', i', r', -, hi', hs', e'⟩ := h'.key
  refine ⟨_, _, e, _, _, e', cmp_go rfl fun _ => cmp_go rfl fun _ => cmp_go rfl fun q => cmp_go ?_ fun _ => rfl⟩
  have q := eqvI q
  have q : i = i' := by omega
  subst q
  unfold alike
  exact alike_keys (hs.trans hs'.symm)
theorem nl_keys : ∀ r : List Key, ∀ d ∈ r.map keyD, NL d
  | [], _, h => by cases h
  | x :: r, d, h => by
    rcases List.mem_cons.mp h with rfl | h
    · cases x
      · exact .int _
      · exact .str _
    · exact nl_keys r d h
theorem dep_keys : ∀ r : List Key, PyData.depthAll (r.map keyD) = 0
  | [] => by simp [PyData.depthAll]
  | x :: r => by
    rw [List.map_cons, PyData.depthAll, dep_keys r]
    cases x <;> simp [keyD, PyData.depth]
theorem kz_pg {ks : List (List Key)} (h : ∀ k ∈ ks, Pg k) : KzS (ks.map pkey) := by
  refine KzS.cmp (fun c hc => ?_) fun c hc => ?_
  · obtain ⟨k, hk, rfl⟩ := List.mem_map.mp hc
    obtain ⟨d, n, i, r, -, hi, hs, e⟩ := (h k hk).key
    refine ⟨_, _, e, fun c' hc' => ?_⟩
    obtain ⟨k', hk', rfl⟩ := List.mem_map.mp hc'
    obtain ⟨x, r1, e1, y, r2, e2, q⟩ := cmp_pg (h k hk) (h k' hk')
    rw [e] at e1
    cases e1
    exact ⟨y, r2, e2, q⟩
  · obtain ⟨k, hk, rfl⟩ := List.mem_map.mp hc
    obtain ⟨d, n, i, r, -, hi, hs, e⟩ := (h k hk).key
    rw [e]
    refine ⟨.tup (all_cons (.int _) (all_cons (.int _) (all_cons (.int _) (all_one (.tup (nl_keys r)))))), ?_⟩
    simp [PyData.depth, PyData.depthAll, dep_keys r]
abbrev pgLe (a b : List Key) : Bool := dataLe false pkey a b
theorem pg_total : TotalLe pgLe := sortLe_total (listOrd itemOrd) false fun b => keyToks (pkey b)
theorem toks_keys : ∀ {r r' : List Key}, keyToksAll (r.map keyD) = keyToksAll (r'.map keyD) → r = r'
  | [], [], _ => rfl
  | [], y :: r', h => by
    rw [List.map_cons, toks_all_cons] at h
    simp [keyToksAll] at h
  | x :: r, [], h => by
    rw [List.map_cons, toks_all_cons] at h
    simp [keyToksAll] at h
  | x :: r, y :: r', h => by
    rw [List.map_cons, List.map_cons, toks_all_cons, toks_all_cons] at h
    have h := (List.cons.inj h).2
    cases x with
    | inl i =>
      cases y with
      | inl j =>
        simp only [keyD, keyToks, List.cons_append, List.nil_append] at h
        injection h with h1 h2
        rw [toks_keys h2, Sum.inl.inj h1]
      | inr j =>
        simp only [keyD, keyToks, List.cons_append, List.nil_append] at h
        injection h with h1 h2
        cases h1
    | inr i =>
      cases y with
      | inl j =>
        simp only [keyD, keyToks, List.cons_append, List.nil_append] at h
        injection h with h1 h2
        cases h1
      | inr j =>
        simp only [keyD, keyToks, List.cons_append, List.nil_append] at h
        injection h with h1 h2
        rw [toks_keys h2, str_of_cps (Sum.inr.inj h1)]
theorem pkey_inj {k k' : List Key} (h : Pg k) (h' : Pg k') (e : keyToks (pkey k) = keyToks (pkey k')) : k = k' := by
  obtain ⟨d, n, i, r, rfl, hi, hs, e1⟩ := h.key
  obtain ⟨d', n', i', r', rfl, hi', hs', e2⟩ := h'.key
  rw [e1, e2] at e
  have e3 : ∀ (d n i : Int) (r : List Key), keyToks (.tuple [.int d, .int n, .int i, .tuple (r.map keyD)]) = [.inl 1, .inl d, .inl 1, .inl n, .inl 1, .inl i, .inl 1] ++ (keyToksAll (r.map keyD) ++ [.inl 0]) := by
    intro d n i r
    simp [keyToks, keyToksAll]
  rw [e3, e3] at e
  have q := List.append_inj e rfl
  have q1 := q.1
  simp at q1
  obtain ⟨rfl, rfl, qi⟩ := q1
  have qi : i = i' := by omega
  subst qi
  have q2 := (List.append_inj' q.2 rfl).1
  rw [toks_keys q2]
theorem pg_anti {k k' : List Key} (h : Pg k) (h' : Pg k') (a : pgLe k k' = true) (b : pgLe k' k = true) : k = k' := by
  have a : (!(listOrd itemOrd).blt (keyToks (pkey k')) (keyToks (pkey k))) = true := a
  have b : (!(listOrd itemOrd).blt (keyToks (pkey k)) (keyToks (pkey k'))) = true := b
  rw [Bool.not_eq_true'] at a b
  exact pkey_inj h h' ((listOrd itemOrd).total _ _ b a)
def sortPg (ks : List (List Key)) : List (List Key) := ks.mergeSort pgLe
theorem sortK_pg (ks : List (List Key)) : sortK (ks.map keysD) (ks.map pkey) = (sortPg ks).map keysD := by
  have e1 : (ks.map keysD).zip (ks.map pkey) = ks.map fun k => (keysD k, pkey k) := by
    rw [List.zip_map, List.zip_eq_zipWith, List.zipWith_self, List.map_map]; rfl
  unfold sortK
  rw [e1, ← List.map_mergeSort (r := pgLe) (s := dataLe false Prod.snd) (f := fun k => (keysD k, pkey k)) (l := ks) (fun _ _ _ _ => rfl), List.map_map]
  rfl
theorem sortPg_perm (ks : List (List Key)) : (sortPg ks).Perm ks := List.mergeSort_perm _ _
theorem sortPg_pw (ks : List (List Key)) : (sortPg ks).Pairwise fun a b => pgLe a b = true := sort_pairwise pg_total ks
theorem pw_unique : ∀ {a b : List (List Key)}, (∀ k ∈ a, Pg k) → a.Pairwise (fun x y => pgLe x y = true) → b.Pairwise (fun x y => pgLe x y = true) → a.Perm b → a = b
  | [], b, _, _, _, p => (List.nil_perm.mp p).symm ▸ rfl
  | x :: a, [], _, _, _, p => by simp at p
  | x :: a, y :: b, hp, ha, hb, p => by
    have hx : x = y := by
      have m1 : x ∈ y :: b := p.mem_iff.mp List.mem_cons_self
      have m2 : y ∈ x :: a := p.mem_iff.mpr List.mem_cons_self
      rcases List.mem_cons.mp m1 with e | m1
      · exact e
      rcases List.mem_cons.mp m2 with e | m2
      · exact e.symm
      exact pg_anti (hp _ List.mem_cons_self) (hp _ (List.mem_cons_of_mem _ m2)) ((List.pairwise_cons.mp ha).1 y m2) ((List.pairwise_cons.mp hb).1 x m1)
    subst hx
    rw [pw_unique (fun k hk => hp k (List.mem_cons_of_mem _ hk)) (List.pairwise_cons.mp ha).2 (List.pairwise_cons.mp hb).2 ((List.perm_cons x).mp p)]
structure IsBk (b : List (List Key)) : Prop where
  pw : b.Pairwise fun x y => pgLe x y = true
  nd : b.Nodup
  pg : ∀ k ∈ b, Pg k
theorem IsBk.nil : IsBk [] := ⟨List.Pairwise.nil, List.nodup_nil, nofun⟩
theorem IsBk.filter {b : List (List Key)} (h : IsBk b) (p : List Key → Bool) : IsBk (b.filter p) := ⟨h.pw.filter p, h.nd.filter p, fun k hk => h.pg k (List.mem_filter.mp hk).1⟩
theorem IsBk.eq {a b : List (List Key)} (ha : IsBk a) (hb : IsBk b) (p : ∀ k, k ∈ a ↔ k ∈ b) : a = b :=
  pw_unique ha.pg ha.pw hb.pw ((List.perm_ext_iff_of_nodup ha.nd hb.nd).mpr p)
theorem addK_nodup {ks : List (List Key)} {k : List Key} (h : ks.Nodup) : (addK ks k).Nodup := by
  unfold addK
  by_cases q : hasK ks k = true
  · rw [if_pos q]; exact h
  · rw [if_neg q]
    refine List.nodup_append.mpr ⟨h, by simp, fun a ha b hb e => ?_⟩
    rw [List.mem_singleton.mp hb] at e
    exact q (hasK_mem.mpr (e ▸ ha))
theorem addK_mem {ks : List (List Key)} {k x : List Key} : x ∈ addK ks k ↔ x ∈ ks ∨ x = k := by
  unfold addK
  by_cases q : hasK ks k = true
  · rw [if_pos q]
    exact ⟨.inl, fun h => h.elim id fun e => e ▸ hasK_mem.mp q⟩
  · rw [if_neg q]; simp
theorem fold_nodup : ∀ {l acc : List (List Key)}, acc.Nodup → (l.foldl addK acc).Nodup
  | [], _, h => h
  | k :: l, acc, h => fold_nodup (l := l) (addK_nodup h)
theorem fold_mem {x : List Key} : ∀ {l acc : List (List Key)}, x ∈ l.foldl addK acc ↔ x ∈ acc ∨ x ∈ l
  | [], acc => by simp
  | k :: l, acc => by
    rw [List.foldl_cons, fold_mem (l := l), addK_mem, List.mem_cons]
    constructor
    · rintro ((h | h) | h)
      · exact .inl h
      · exact .inr (.inl h)
      · exact .inr (.inr h)
    · rintro (h | h | h)
      · exact .inl (.inl h)
      · exact .inl (.inr h)
      · exact .inr h
theorem uniqK_nodup (ks : List (List Key)) : (uniqK ks).Nodup := fold_nodup List.nodup_nil
theorem uniqK_mem {ks : List (List Key)} {x : List Key} : x ∈ uniqK ks ↔ x ∈ ks := by unfold uniqK; rw [fold_mem]; simp
def bookOf (ks : List (List Key)) : List (List Key) := sortPg (uniqK ks)
theorem bookOf_mem {ks : List (List Key)} {x : List Key} : x ∈ bookOf ks ↔ x ∈ ks := by unfold bookOf; rw [(sortPg_perm _).mem_iff, uniqK_mem]
theorem bookOf_bk {ks : List (List Key)} (h : ∀ k ∈ ks, Pg k) : IsBk (bookOf ks) := ⟨sortPg_pw _, (sortPg_perm _).nodup_iff.mpr (uniqK_nodup ks), fun k hk => h k (bookOf_mem.mp hk)⟩
theorem bookOf_eq {b ks : List (List Key)} (h : IsBk b) (hm : ∀ k, k ∈ ks ↔ k ∈ b) : bookOf ks = b :=
  (bookOf_bk fun k hk => h.pg k ((hm k).mp hk)).eq h fun k => bookOf_mem.trans (hm k)
end
section
inductive Sm : Nat → D → Prop
  | non {n : Nat} : Sm n .none
  | bool {n : Nat} {b : Bool} : Sm n (.bool b)
  | int {n : Nat} {i : Int} : Sm n (.int i)
  | str {n : Nat} {x : Str} : Sm n (.str x)
  | tup {n : Nat} {ds : List D} (h : ∀ d ∈ ds, Sm n d) (hl : ds.length ≤ 1000000) : Sm (n + 1) (.tuple ds)
  | lst {n : Nat} {ds : List D} (h : ∀ d ∈ ds, Sm n d) (hl : ds.length ≤ 1000000) : Sm (n + 1) (.list ds)
theorem Sm.mono : ∀ {n : Nat} {d : D}, Sm n d → ∀ {m : Nat}, n ≤ m → Sm m d := by
  intro n d h
  induction h with
  | non => intro m _; exact .non
  | bool => intro m _; exact .bool
  | int => intro m _; exact .int
  | str => intro m _; exact .str
  | tup h hl ih =>
    intro m hm
    obtain ⟨k, rfl⟩ : ∃ k, m = k + 1 := ⟨m - 1, by omega⟩
    exact .tup (fun d hd => ih d hd (by omega)) hl
  | lst h hl ih =>
    intro m hm
    obtain ⟨k, rfl⟩ : ∃ k, m = k + 1 := ⟨m - 1, by omega⟩
    exact .lst (fun d hd => ih d hd (by omega)) hl
theorem same_row {m : Nat} {x : D} {ds : List D} (hx : seqOf x = some ds) (ht : x = .tuple ds ∨ x = .list ds) (hl : ds.length ≤ 1000000) (ih : ∀ d ∈ ds, RtF (F__law_same m) [d, d] (.bool true)) : RtF (F__law_same (m + 1)) [x, x] (.bool true) := by
  rw [F__law_same_s]
  apply rtF
  have hlen : ∀ (i : Nat), Vx.start 4 ([x, x].map O.d) = Vx.start 4 ([x, x].map O.d) → EvU (wVar 0) (Vx.start 4 ([x, x].map O.d)) x := fun _ _ => Ev.u (e_var (by rfl))
  refine r_ifT (p := true) (Ev.to (e_isis (Ev.u (e_var (by rfl)))) ?_) rfl ?_
  · rcases ht with rfl | rfl <;> rfl
  apply r_asg (x := .bool true)
  · refine Ev.to (e_ife (p := decide (Ty.tuple ∈ tyOf x)) (x := .bool true) (y := .bool true) (e_isi (Ev.u (e_var (by rfl)))) (fun h => Ev.to (e_isi (Ev.u (e_var (by rfl)))) (by rw [h])) fun h => Ev.to (e_isi (Ev.u (e_var (by rfl)))) ?_) (by split <;> rfl)
    rcases ht with rfl | rfl
    · exact absurd h (by simp [tyOf])
    · rfl
  · exact Nat.le_of_ble_eq_true rfl
  have elen : ∀ {i : Nat} {env : Vx.Env}, env[i]? = some (some (.d x)) → Ev (wPrim .len (aCons (wVar i) aNil)) env (.int ds.length) := fun he => by
    rcases ht with rfl | rfl
    · exact e_lenT (Ev.u (e_var he))
    · exact e_lenL (Ev.u (e_var he))
  refine r_ifF (p := false) (Ev.to (e_orF (p := false) (e_not (p := true) (e_var (by rfl))) rfl (e_cmp .ne (Ev.u (elen (by rfl))) (Ev.u (elen (by rfl))) c_neI)) (by simp)) rfl ?_
  apply r_ret
  refine Ev.to (e_all (bs := (Vx.upTo 0 ((ds.length : Int)).toNat).map fun _ => true) (EvL.u (EvL.to (e_comp (ds := Vx.upTo 0 ((ds.length : Int)).toNat) (f := fun _ => .bool true) (sv_r1 (n := ds.length) (elen (by rfl)) ⟨by omega, by omega⟩) True.intro (Nat.le_of_ble_eq_true rfl) (by rw [Vx.upTo_length]; omega) ?_) (by rw [List.map_map]; rfl)))) ?_
  · intro y hy
    obtain ⟨i, hi, rfl⟩ := Vx.upTo_mem hy
    have hi : i < ds.length := by omega
    have hat : atI ds (0 + (i : Int)) = some ds[i] := by rw [Int.zero_add, Vx.atI_nat hi, List.getD_eq_getElem?_getD, List.getElem?_eq_getElem hi]; rfl
    have eix : ∀ {j : Nat} {env : Vx.Env}, env[j]? = some (some (.d x)) → env[3]? = some (some (.d (.int (0 + (i : Int))))) → Ev (wIx (wVar j) (wVar 3)) env ds[i] := fun h1 h2 => by
      rcases ht with rfl | rfl
      · exact e_ixT (e_var h1) (Ev.u (e_var h2)) hat
      · exact e_ixD (e_var h1) (Ev.u (e_var h2)) hat
    exact e_call (a_co (eix (by rfl) (by rfl)) (a_co (eix (by rfl) (by rfl)) a_no)) (ih _ (List.getElem_mem hi)) (by rfl)
  · rw [List.all_map]
    congr 1
    exact List.all_eq_true.mpr fun _ _ => rfl
theorem same_r : ∀ {n m : Nat} {x : D}, Sm n x → n < m → RtF (F__law_same m) [x, x] (.bool true)
  | n, 0, _, _, h => absurd h (by omega)
  | k + 1, m + 1, _, .tup hd hl, h => same_row rfl (.inl rfl) hl fun d hm => same_r (hd d hm) (by omega)
  | k + 1, m + 1, _, .lst hd hl, h => same_row rfl (.inr rfl) hl fun d hm => same_r (hd d hm) (by omega)
  | n, m + 1, _, .non, _ => by
    rw [F__law_same_s]
    apply rtF
    refine r_ifF (p := false) (Ev.to (e_isis (Ev.u (e_var (by rfl)))) (by rfl)) rfl ?_
    refine r_ifT (p := true) (e_cmp .is (Ev.u (e_var (by rfl))) (Ev.u e_k) c_isN) rfl ?_
    exact r_ret (e_cmp .is (Ev.u (e_var (by rfl))) (Ev.u e_k) c_isN)
  | n, m + 1, _, .str, _ => by
    rw [F__law_same_s]
    apply rtF
    refine r_ifF (p := false) (Ev.to (e_isis (Ev.u (e_var (by rfl)))) (by rfl)) rfl ?_
    refine r_ifF (p := false) (e_cmp .is (Ev.u (e_var (by rfl))) (Ev.u e_k) c_isN) rfl ?_
    refine r_ifT (p := true) (Ev.to (e_isi (Ev.u (e_var (by rfl)))) (by rfl)) rfl ?_
    exact r_ret (Ev.to (e_andT (p := true) (Ev.to (e_isi (Ev.u (e_var (by rfl)))) (by rfl)) rfl (e_cmp .eq (Ev.u (e_var (by rfl))) (Ev.u (e_var (by rfl))) c_eqS)) (by simp))
  | n, m + 1, _, .bool (b := b), _ => by
    rw [F__law_same_s]
    apply rtF
    refine r_ifF (p := false) (Ev.to (e_isis (Ev.u (e_var (by rfl)))) (by rfl)) rfl ?_
    refine r_ifF (p := false) (e_cmp .is (Ev.u (e_var (by rfl))) (Ev.u e_k) c_isN) rfl ?_
    refine r_ifF (p := false) (Ev.to (e_isi (Ev.u (e_var (by rfl)))) (by rfl)) rfl ?_
    refine r_ifT (p := true) (Ev.to (e_isi (Ev.u (e_var (by rfl)))) (by rfl)) rfl ?_
    exact r_ret (Ev.to (e_andT (p := true) (Ev.to (e_isi (Ev.u (e_var (by rfl)))) (by rfl)) rfl (e_cmp .eq (Ev.u (e_var (by rfl))) (Ev.u (e_var (by rfl))) (c_eqD (by cases b <;> decide)))) (by cases b <;> rfl))
  | n, m + 1, _, .int, _ => by
    rw [F__law_same_s]
    apply rtF
    refine r_ifF (p := false) (Ev.to (e_isis (Ev.u (e_var (by rfl)))) (by rfl)) rfl ?_
    refine r_ifF (p := false) (e_cmp .is (Ev.u (e_var (by rfl))) (Ev.u e_k) c_isN) rfl ?_
    refine r_ifF (p := false) (Ev.to (e_isi (Ev.u (e_var (by rfl)))) (by rfl)) rfl ?_
    refine r_ifF (p := false) (Ev.to (e_isi (Ev.u (e_var (by rfl)))) (by rfl)) rfl ?_
    exact r_ret (Ev.to (e_andT (p := true) (Ev.to (e_isi (Ev.u (e_var (by rfl)))) (by rfl)) rfl (e_andT (p := true) (e_not (p := false) (Ev.to (e_isi (Ev.u (e_var (by rfl)))) (by rfl))) rfl (e_cmp .eq (Ev.u (e_var (by rfl))) (Ev.u (e_var (by rfl))) c_eqI))) (by simp))
end
section
theorem w_draw {i : Nat} {a : Addr} {xs : List O} {n : Nat} {many : Int} {wm : WT} {env : Vx.Env} {X : Exn → Vx.Env → Prop} {P : W → Vx.Env → Prop} (ht : Feed xs n) (he : env[i]? = some (some (fd a xs))) (hm : Ev wm env (.int many)) (h0 : 0 < many) (hn : n < 90000) (h2 : many < 1073741824)
    (h : ∀ v xs', 0 ≤ v → v < many → Feed xs' (n + 1) → P (.o (.d (.int v))) (env.set i (some (fd a xs')))) : wCall (ar 2 F__law_draw) (aCons (wVar i) (aCons wm aNil)) X env P :=
  w_call2 (v_obj he (hm _ _ (callV_2 (R := fun r xs' => ∃ v : Int, r = .d (.int v) ∧ 0 ≤ v ∧ v < many ∧ Feed xs' (n + 1)) he (fun Q QX q => dw ht h0 hn h2 fun v xs' v0 v1 ht' => q _ _ ⟨v, rfl, v0, v1, ht'⟩) fun r xs' hr => by
    obtain ⟨v, rfl, v0, v1, ht'⟩ := hr
    exact h v xs' v0 v1 ht')))
end
section
abbrev abcT : Str := ("abcdefghijklmnopqrstuvwxyz" : Str)
theorem abc_at {i : Int} (h0 : 0 ≤ i) (h1 : i < 26) : atI abcT.cps.toList i = some (97 + i.toNat) := by
  obtain ⟨n, rfl⟩ : ∃ n : Nat, i = n := ⟨i.toNat, by omega⟩
  have z := (by decide +kernel : ∀ n : Nat, n < 26 → atI abcT.cps.toList (n : Int) = some (97 + n))
  exact z n (by omega)
def PL (m : Nat) (x : Str) : Prop := plainS x ∧ x.length ≤ m
theorem PL.app {a b : Nat} {x y : Str} (h : PL a x) (h2 : PL b y) : PL (a + b) (x ++ y) := ⟨plain_app h.1 h2.1, by rw [app_len]; have := h.2; have := h2.2; omega⟩
theorem PL.mono {a b : Nat} {x : Str} (h : PL a x) (hb : a ≤ b) : PL b x := ⟨h.1, Nat.le_trans h.2 hb⟩
theorem PL.rep {x : Str} {k : Int} (h : PL 1 x) : PL k.toNat (repS x k) := by
  refine ⟨fun c hc => ?_, ?_⟩
  · rw [repS_cps] at hc
    obtain ⟨l, hl, hc⟩ := List.mem_flatten.mp hc
    rw [(List.mem_replicate.mp hl).2] at hc
    exact h.1 c hc
  · show (repS x k).cps.size ≤ _
    rw [repS_size]
    have := h.2
    calc x.length * k.toNat ≤ 1 * k.toNat := Nat.mul_le_mul_right _ this
      _ = k.toNat := Nat.one_mul _
theorem PL.sign {v : Nat} (h : v < 26) : PL 1 (⟨#[97 + v]⟩ : Str) := ⟨fun c hc => by
  have hc : c ∈ [97 + v] := hc
  rw [List.mem_singleton.mp hc]; omega, Nat.le_refl 1⟩
structure Nm (ys : List Str) : Prop where
  l : 9 ≤ ys.length
  l2 : ys.length ≤ 16
  pl : ∀ y ∈ ys, PL 10 y
  wd : ∀ y ∈ ys, isWordD (.str y) = true
  nd : ys.Nodup
def bw (c d : Nat) (bs : List Bool) : Str := ⟨(bs.map fun b => if b then d else c).toArray⟩
theorem bw_cps {c d : Nat} {bs : List Bool} : (bw c d bs).cps.toList = bs.map fun b => if b then d else c := by simp [bw]
theorem bw_inj {c d : Nat} (hn : c ≠ d) : ∀ {as bs : List Bool}, bw c d as = bw c d bs → as = bs := by
  intro as bs h
  replace h : (bw c d as).cps.toList = (bw c d bs).cps.toList := by rw [h]
  rw [bw_cps, bw_cps] at h
  revert h
  show ((as.map fun b => if b = true then d else c) = bs.map fun b => if b = true then d else c) → as = bs
  induction as generalizing bs with
  | nil => intro h; cases bs with
    | nil => rfl
    | cons => simp at h
  | cons a as ih => intro h; cases bs with
    | nil => simp at h
    | cons b bs =>
      rw [List.map_cons, List.map_cons] at h
      injection h with h1 h2
      rw [ih h2]
      cases a <;> cases b <;> first | rfl | (simp at h1; omega)
theorem bw_len {c d : Nat} {bs : List Bool} : (bw c d bs).length = bs.length := by
  show (bw c d bs).cps.size = _
  simp [bw]
theorem Nm.of {c d : Nat} (hc : 97 ≤ c ∧ c ≤ 122) (hd : 97 ≤ d ∧ d ≤ 122) (hn : c ≠ d) {bss : List (List Bool)} (h1 : bss.Nodup) (h2 : ∀ b ∈ bss, 1 ≤ b.length ∧ b.length ≤ 8) (h3 : 9 ≤ bss.length) (h4 : bss.length ≤ 16) : Nm (bss.map (bw c d)) := by
  have sg : ∀ (b : List Bool) (z : Nat), z ∈ (bw c d b).cps.toList → 97 ≤ z ∧ z ≤ 122 := fun b z hz => by
    rw [bw_cps] at hz
    obtain ⟨q, -, rfl⟩ := List.mem_map.mp hz
    cases q
    · exact hc
    · exact hd
  refine ⟨by rw [List.length_map]; exact h3, by rw [List.length_map]; exact h4, fun y hy => ?_, fun y hy => ?_, ?_⟩
  · obtain ⟨b, hb, rfl⟩ := List.mem_map.mp hy
    refine ⟨fun z hz => ?_, ?_⟩
    · have := sg b z hz; omega
    · rw [bw_len]; have := h2 b hb; omega
  · obtain ⟨b, hb, rfl⟩ := List.mem_map.mp hy
    have q := h2 b hb
    unfold isWordD
    rw [Bool.and_eq_true, Bool.and_eq_true]
    refine ⟨⟨by rfl, decide_eq_true ?_⟩, List.all_eq_true.mpr fun z hz => decide_eq_true (sg b z hz)⟩
    show 1 ≤ (bw c d b).length ∧ (bw c d b).length ≤ 8
    rw [bw_len]; exact q
  · refine List.Pairwise.map _ (fun a b hab e => hab (bw_inj hn e)) h1
theorem fmod_ne {a v n : Int} (h0 : 0 ≤ a) (h1 : a < n) (h2 : 0 ≤ v) (h3 : v < n - 1) : (a + 1 + v).fmod n ≠ a := by
  rw [Int.fmod_eq_emod_of_nonneg _ (by omega)]
  by_cases h : a + 1 + v < n
  · rw [Int.emod_eq_of_lt (by omega) h]; omega
  · rw [show a + 1 + v = (a + 1 + v - n) + n * 1 by omega, Int.add_mul_emod_self_left, Int.emod_eq_of_lt (by omega) (by omega)]; omega
def bsL : List (List Bool) := [[false], [false, true], [false, true, false], [true], [true, false], [false, false], [true, true], [true, false, false, false, false, false, false, false], [false, false, true]]
def bsM : List (List Bool) := [[false, true, true], [true, false, true], [true, true, false], [true, true, true], [false, false, false], [false, false, false, false, false, false, false, false], [true, true, true, true, true, true, true, true]]
theorem eq_L {c d : Nat} {x y : Str} (hx : (⟨#[c]⟩ : Str) = x) (hy : (⟨#[d]⟩ : Str) = y) : ([x, x ++ y, x ++ y ++ x, y, y ++ x, x ++ x, y ++ y, y ++ repS x 7, x ++ x ++ y] : List Str) = bsL.map (bw c d) := by
  subst hx hy
  rfl
theorem eq_M {c d : Nat} {x y : Str} (hx : (⟨#[c]⟩ : Str) = x) (hy : (⟨#[d]⟩ : Str) = y) : ([x ++ y ++ y, y ++ x ++ y, y ++ y ++ x, repS y 3, repS x 3, repS x 8, repS y 8] : List Str) = bsM.map (bw c d) := by
  subst hx hy
  rfl
abbrev namD (ys : List Str) : D := .list (ys.map PyData.str)
theorem Nm.g {ys : List Str} (h : Nm ys) : True := True.intro
theorem e_addP {wa wb : WT} {env : Vx.Env} {x y : Str} {a b : Nat} (ha : Ev wa env (.str x)) (hb : Ev wb env (.str y)) (px : PL a x) (py : PL b y) (h : a + b ≤ 1000) : Ev (wBin .add wa wb) env (.str (x ++ y)) := e_bin .add (Ev.u ha) (Ev.u hb) (b_addS (by have := px.2; have := py.2; omega))
theorem e_mulP {wa : WT} {env : Vx.Env} {x : Str} {k : Int} (ha : Ev wa env (.str x)) (px : PL 1 x) (h : 0 ≤ k) (h2 : k ≤ 1000) : Ev (wBin .mul wa (wK (.int k))) env (.str (repS x k)) := e_bin .mul (Ev.u ha) (Ev.u e_k) (b_mulS ⟨by omega, by omega, Nat.le_trans px.2 (by omega), by
  have := px.2
  calc x.length * k.toNat ≤ 1 * k.toNat := Nat.mul_le_mul_right _ this
    _ ≤ 1000000 := by omega⟩)
theorem names_ok {a : Addr} {xs : List O} {n : Nat} {P : O → List O → Prop} {PX : Exn → List O → Prop} (ht : Feed xs n) (hn : n < 60000)
    (h : ∀ (b : Addr) (ys : List Str) xs', Nm ys → Feed xs' (n + 2) → P (.lst b ((ys.map PyData.str).map .d)) [fd a xs']) : F__law_names [fd a xs] P PX := by
  unfold F__law_names
  refine sem_go fun k X hk => ?_
  clean_wf
  refine nx_asg (w_draw ht (by rfl) e_k (by omega) (by omega) (by omega) fun v xs1 h0 h1 ht1 => ?_)
  refine ⟨by show 2 < 7; omega, ?_⟩
  show Nx w__law_names_2 X [some (fd a xs1), some (.d (.str abcT)), some (.d (.int v)), none, none, none, none] k
  refine nx_par (a_cs ?_)
  refine (e_sign (x := abcT) (n := v) (c := 97 + v.toNat) (e_var (by rfl)) (Ev.u (e_var (by rfl))) (by decide +kernel) (abc_at h0 h1)) _ _ ?_
  refine a_cs (w_ix ?_)
  refine (e_var (x := .str abcT) (by rfl)) _ _ ?_
  refine w_bin (w_bin ?_)
  refine (e_bin .add (Ev.u (e_var (x := .int v) (by rfl))) (Ev.u (e_k (x := .int 1))) b_addI) _ _ ?_
  refine w_draw ht1 (by rfl) e_k (by omega) (by omega) (by omega) fun v2 xs2 h2 h3 ht2 => ?_
  have md : 0 ≤ (v + 1 + v2).fmod 26 ∧ (v + 1 + v2).fmod 26 < 26 := fmod_bd (by decide)
  have zne : (v + 1 + v2).fmod 26 ≠ v := fmod_ne h0 (by omega) h2 (by omega)
  generalize hz : (v + 1 + v2).fmod 26 = z at md zne
  trivial
  rw [hz]
  refine onSome_mk (abc_at md.1 md.2) ?_
  trivial
  have px : PL 1 (⟨#[97 + v.toNat]⟩ : Str) := PL.sign (by omega)
  have py : PL 1 (⟨#[97 + z.toNat]⟩ : Str) := PL.sign (by omega)
  generalize gx : (⟨#[97 + v.toNat]⟩ : Str) = x at px
  generalize gy : (⟨#[97 + z.toNat]⟩ : Str) = y at py
  show Nx w__law_names_3 X [some (fd a xs2), some (.d (.str abcT)), some (.d (.int v)), some (.d (.str x)), some (.d (.str y)), none, none] k
  have ex : ∀ {y5 : Option O}, Ev (wVar 3) [some (fd a xs2), some (.d (.str abcT)), some (.d (.int v)), some (.d (.str x)), some (.d (.str y)), y5, none] (.str x) := e_var (by rfl)
  have ey : ∀ {y5 : Option O}, Ev (wVar 4) [some (fd a xs2), some (.d (.str abcT)), some (.d (.int v)), some (.d (.str x)), some (.d (.str y)), y5, none] (.str y) := e_var (by rfl)
  have exy : ∀ {y5 : Option O}, Ev (wBin .add (wVar 3) (wVar 4)) [some (fd a xs2), some (.d (.str abcT)), some (.d (.int v)), some (.d (.str x)), some (.d (.str y)), y5, none] (.str (x ++ y)) := e_addP ex ey px py (by omega)
  have eyx : ∀ {y5 : Option O}, Ev (wBin .add (wVar 4) (wVar 3)) [some (fd a xs2), some (.d (.str abcT)), some (.d (.int v)), some (.d (.str x)), some (.d (.str y)), y5, none] (.str (y ++ x)) := e_addP ey ex py px (by omega)
  have exx : ∀ {y5 : Option O}, Ev (wBin .add (wVar 3) (wVar 3)) [some (fd a xs2), some (.d (.str abcT)), some (.d (.int v)), some (.d (.str x)), some (.d (.str y)), y5, none] (.str (x ++ x)) := e_addP ex ex px px (by omega)
  have eyy : ∀ {y5 : Option O}, Ev (wBin .add (wVar 4) (wVar 4)) [some (fd a xs2), some (.d (.str abcT)), some (.d (.int v)), some (.d (.str x)), some (.d (.str y)), y5, none] (.str (y ++ y)) := e_addP ey ey py py (by omega)
  have pxy := px.app py
  have pyx := py.app px
  have pxx := px.app px
  have pyy := py.app py
  apply nx_asgLE
  · exact e_lst (vs := ([x, x ++ y, x ++ y ++ x, y, y ++ x, x ++ x, y ++ y, y ++ repS x 7, x ++ x ++ y] : List Str).map PyData.str) (a_co ex (a_co exy (a_co (e_addP exy ex pxy px (by omega)) (a_co ey (a_co eyx (a_co exx (a_co eyy (a_co (e_addP ey (e_mulP ex px (by omega) (by omega)) py (PL.rep px) (by decide)) (a_co (e_addP exx ey pxx py (by omega)) a_no))))))))) (Nat.le_of_ble_eq_true rfl)
  · rfl
  intro b5
  have eL := eq_L gx gy
  have ls : ([x, x ++ y, x ++ y ++ x, y, y ++ x, x ++ x, y ++ y, y ++ repS x 7, x ++ x ++ y] : List Str).length = 9 := rfl
  generalize ([x, x ++ y, x ++ y ++ x, y, y ++ x, x ++ x, y ++ y, y ++ repS x 7, x ++ x ++ y] : List Str) = L at eL ls
  show Nx w__law_names_4 X [some (fd a xs2), some (.d (.str abcT)), some (.d (.int v)), some (.d (.str x)), some (.d (.str y)), some (.lst b5 ((L.map PyData.str).map .d)), none] k
  apply nx_asgLE
  · exact e_lst (vs := ([x ++ y ++ y, y ++ x ++ y, y ++ y ++ x, repS y 3, repS x 3, repS x 8, repS y 8] : List Str).map PyData.str) (a_co (e_addP exy ey pxy py (by omega)) (a_co (e_addP eyx ey pyx py (by omega)) (a_co (e_addP eyy ex pyy px (by omega)) (a_co (e_mulP ey py (by omega) (by omega)) (a_co (e_mulP ex px (by omega) (by omega)) (a_co (e_mulP ex px (by omega) (by omega)) (a_co (e_mulP ey py (by omega) (by omega)) a_no))))))) (Nat.le_of_ble_eq_true rfl)
  · rfl
  intro b6
  have eM := eq_M gx gy
  have lm : ([x ++ y ++ y, y ++ x ++ y, y ++ y ++ x, repS y 3, repS x 3, repS x 8, repS y 8] : List Str).length = 7 := rfl
  generalize ([x ++ y ++ y, y ++ x ++ y, y ++ y ++ x, repS y 3, repS x 3, repS x 8, repS y 8] : List Str) = M at eM lm
  show Nx w__law_names_5 X [some (fd a xs2), some (.d (.str abcT)), some (.d (.int v)), some (.d (.str x)), some (.d (.str y)), some (.lst b5 ((L.map PyData.str).map .d)), some (.lst b6 ((M.map PyData.str).map .d))] k
  refine nx_ret ?_
  refine (e_cmp .eq (Ev.u (e_bin .mod (Ev.u (e_var (x := .int v) (by rfl))) (Ev.u (e_k (x := .int 8))) (b_modI (by omega)))) (Ev.u (e_k (x := .int 0))) c_eqI) _ _ ?_
  refine ifB (fun _ => ?_) (fun _ => ?_)
  · refine (e_catL (ds := L.map PyData.str) (vs := M.map PyData.str) (u_own (by rfl)) (u_own (by rfl)) (by rw [List.length_map, List.length_map]; omega)) _ _ fun c => ?_
    rw [← List.map_append]
    refine rt_go hk ?_
    trivial
    refine h c (L ++ M) xs2 (by rw [eL, eM, ← List.map_append]; exact Nm.of (by omega) (by omega) (by omega) (by decide +kernel) (by decide +kernel) (by decide +kernel) (by decide +kernel)) ht2
  · refine rt_go hk ?_
    trivial
    refine h b5 L xs2 (by rw [eL]; exact Nm.of (by omega) (by omega) (by omega) (by decide +kernel) (by decide +kernel) (by decide +kernel) (by decide +kernel)) ht2
end
section
abbrev spE (a : Addr) (xs : List O) (ys : List Str) (y2 y3 y4 y5 y6 y7 y8 y9 y10 : Option O) : Vx.Env := [some (fd a xs), some (.d (namD ys)), y2, y3, y4, y5, y6, y7, y8, y9, y10]
theorem Nm.at {ys : List Str} (h : Nm ys) {v : Int} (h0 : 0 ≤ v) (h1 : v < (ys.length : Int)) : ∃ (j : Nat) (y : Str), v = j ∧ ys[j]? = some y ∧ PL 10 y ∧ isWordD (.str y) = true ∧ atI (ys.map PyData.str) v = some (.str y) := by
  obtain ⟨j, y, rfl, hy, e⟩ := at_draw (f := PyData.str) h0 h1
  exact ⟨j, y, rfl, hy, h.pl y (List.mem_of_getElem? hy), h.wd y (List.mem_of_getElem? hy), e⟩
theorem nd_ne {ys : List Str} (h : ys.Nodup) {i j : Nat} {x y : Str} (hi : ys[i]? = some x) (hj : ys[j]? = some y) (hn : i ≠ j) : x ≠ y := fun e => by
  subst e
  obtain ⟨h1, e1⟩ := List.getElem?_eq_some_iff.mp hi
  obtain ⟨h2, e2⟩ := List.getElem?_eq_some_iff.mp hj
  rcases Nat.lt_or_gt_of_ne hn with q | q
  · exact List.pairwise_iff_getElem.mp h i j h1 h2 q (e1.trans e2.symm)
  · exact List.pairwise_iff_getElem.mp h j i h2 h1 q (e2.trans e1.symm)
theorem page_mk {day num : Int} {i : Nat} {r : List Key} (hd : 0 ≤ day ∧ day ≤ 99999) (hn : 0 ≤ num ∧ num ≤ 999) (hi : i < 8) (hr : restD (kn i) day (.tuple (r.map keyD)) = true) : pageD (keysD (.inl day :: .inl num :: .inr (kn i) :: r)) = true := by
  show pageL (.int day :: .int num :: .str (kn i) :: r.map keyD) = true
  unfold pageL
  simp only [Bool.and_eq_true]
  have hk : ∀ i < 8, kindD (kn i) = true := by decide +kernel
  refine ⟨⟨decide_eq_true (by simp; omega), ?_⟩, ⟨?_, by rfl, hk i hi⟩, hr⟩
  · show ((true && decide (0 ≤ day)) && decide (day ≤ 99999)) = true
    simp [hd]
  · show ((true && decide (0 ≤ num)) && decide (num ≤ 999)) = true
    simp [hn]
theorem rest0 {day b : Int} {one town par : Str} (h1 : isWordD (.str one) = true) (h2 : isWordD (.str town) = true) (h3 : b ≤ day) (h4 : par = ("" : Str) ∨ (isWordD (.str par) = true ∧ par ≠ one)) : restD (kn 0) day (.tuple [.str one, .str town, .int b, .str par]) = true := by
  show (if ("folk" : Str) = ("folk" : Str) then folkD day (.tuple [.str one, .str town, .int b, .str par]) else _) = true
  rw [if_pos rfl]
  show ((true && (isWordD (.str one) && isWordD (.str town))) && ((true && decide (b ≤ day) && true) && (decide (par = ("" : Str)) || (isWordD (.str par) && !decide (par = one))))) = true
  rw [h1, h2]
  rcases h4 with rfl | ⟨h4, h5⟩
  · simp [h3]
  · simp [h3, h4, h5]
theorem rest2 {i : Nat} {day : Int} {one oth : Str} (hi : i = 1 ∨ i = 2) (h1 : isWordD (.str one) = true) (h2 : isWordD (.str oth) = true) (h3 : one ≠ oth) : restD (kn i) day (.tuple [.str one, .str oth]) = true := by
  have e : (true && (isWordD (.str one) && (isWordD (.str oth) && !decide (one = oth)))) = true := by simp [h1, h2, h3]
  rcases hi with rfl | rfl
  · unfold restD
    rw [if_neg (by decide +kernel), if_neg (by decide +kernel), if_pos (.inl (by decide +kernel))]
    exact e
  · unfold restD
    rw [if_neg (by decide +kernel), if_neg (by decide +kernel), if_pos (.inr (by decide +kernel))]
    exact e
theorem rest3 {day m : Int} {one : Str} (h1 : isWordD (.str one) = true) (h2 : 1 ≤ m) : restD (kn 3) day (.tuple [.str one, .int m]) = true := by
  unfold restD
  rw [if_neg (by decide +kernel), if_neg (by decide +kernel), if_neg (by decide +kernel), if_pos (by decide +kernel)]
  show (true && (isWordD (.str one) && (true && decide (1 ≤ m)))) = true
  simp [h1, h2]
theorem rest4 {day m : Int} (h2 : 0 ≤ m) : restD (kn 4) day (.tuple [.int m]) = true := by
  unfold restD
  rw [if_neg (by decide +kernel), if_neg (by decide +kernel), if_neg (by decide +kernel), if_neg (by decide +kernel), if_pos (by decide +kernel)]
  show (true && (true && decide (0 ≤ m))) = true
  simp [h2]
theorem rest5 {i : Nat} {day : Int} {one : Str} (hi : i = 5 ∨ i = 7) (h1 : isWordD (.str one) = true) : restD (kn i) day (.tuple [.str one]) = true := by
  have e : (true && isWordD (.str one)) = true := by simp [h1]
  rcases hi with rfl | rfl
  all_goals
    unfold restD
    rw [if_neg (by decide +kernel), if_neg (by decide +kernel), if_neg (by decide +kernel), if_neg (by decide +kernel), if_neg (by decide +kernel)]
    exact e
theorem rest6 {day m : Int} {one z : Str} (h1 : isWordD (.str one) = true) (h2 : 0 ≤ m) (h3 : isWordD (.str z) = true) : restD (kn 6) day (.tuple [.str one, .int m, .str z]) = true := by
  unfold restD
  rw [if_neg (by decide +kernel), if_pos (by decide +kernel)]
  show (true && (isWordD (.str one) && ((true && decide (0 ≤ m)) && isWordD (.str z)))) = true
  simp [h1, h2, h3]
theorem some_page_ok {a : Addr} {xs : List O} {ys : List Str} {n : Nat} {P : O → List O → Prop} {PX : Exn → List O → Prop} (hy : Nm ys) (ht : Feed xs n) (hn : n < 60000)
    (h : ∀ (k : List Key) xs', Pg k → pageD (keysD k) = true → Feed xs' (n + 12) → P (.d (keysD k)) [fd a xs', .d (namD ys)]) : F__law_some_page [fd a xs, .d (namD ys)] P PX := by
  unfold F__law_some_page
  refine sem_go fun k X hk => ?_
  have hl := hy.l
  have hl2 := hy.l2
  show Nx w__law_some_page_0 X (spE a xs ys none none none none none none none none none) k
  refine nx_asg (w_bin (w_ix ((e_lst (vs := [.int 0, .int 3, .int 3, .int 40]) (a_co e_k (a_co e_k (a_co e_k (a_co e_k a_no)))) (Nat.le_of_ble_eq_true rfl)) _ _ fun c => ?_)))
  refine w_draw ht (by rfl) e_k (by omega) (by omega) (by omega) fun v xs1 h0 h1 ht1 => ?_
  refine item_int (is := [0, 3, 3, 40]) h0 h1 fun d0 hd0 => ?_
  have hd0 : 0 ≤ d0 ∧ d0 ≤ 40 := by simp at hd0; omega
  refine w_draw ht1 (by rfl) e_k (by omega) (by omega) (by omega) fun v2 xs2 h2 h3 ht2 => ?_
  refine ⟨by show 2 < 11; omega, ?_⟩
  obtain ⟨day, hday, hd1, hd2⟩ : ∃ day : Int, d0 + v2 = day ∧ 0 ≤ day ∧ day ≤ 41 := ⟨_, rfl, by omega, by omega⟩
  rw [hday]
  show Nx w__law_some_page_1 X (spE a xs2 ys (some (.d (.int day))) none none none none none none none none) k
  refine nx_asg (w_tup (a_cs ((e_var (x := .int day) (by rfl)) _ _ (a_cs (w_ix ((e_lst (vs := [.int 0, .int 1, .int 999]) (a_co e_k (a_co e_k (a_co e_k a_no))) (Nat.le_of_ble_eq_true rfl)) _ _ fun c => ?_))))))
  refine w_draw ht2 (by rfl) e_k (by omega) (by omega) (by omega) fun v xs3 h0 h1 ht3 => ?_
  refine item_int (is := [0, 1, 999]) h0 h1 fun num hnum => ?_
  have hnum : 0 ≤ num ∧ num ≤ 999 := by simp at hnum; omega
  refine ⟨by show 2 ≤ sizeLine; decide, ?_⟩
  refine ⟨by show 3 < 11; omega, ?_⟩
  show Nx w__law_some_page_2 X (spE a xs3 ys (some (.d (.int day))) (some (.d (.tuple [.int day, .int num]))) none none none none none none none) k
  have elen : ∀ {y2 y3 y4 y5 y6 y7 y8 y9 y10 : Option O} {xs : List O}, Ev (wPrim .len (aCons (wVar 1) aNil)) (spE a xs ys y2 y3 y4 y5 y6 y7 y8 y9 y10) (.int ys.length) := Ev.to (e_lenL (ds := ys.map PyData.str) (Ev.u (e_var (by rfl)))) (by rw [List.length_map])
  refine nx_asg (w_draw ht3 (by rfl) elen (by omega) (by omega) (by omega) fun at_ xs4 h0 h1 ht4 => ?_)
  refine ⟨by show 4 < 11; omega, ?_⟩
  show Nx w__law_some_page_3 X (spE a xs4 ys (some (.d (.int day))) (some (.d (.tuple [.int day, .int num]))) (some (.d (.int at_))) none none none none none none) k
  obtain ⟨jo, one, ejo, yone, pone, wone, eone⟩ := hy.at h0 h1
  refine nx_par (a_cs ((e_ixD (n := at_) (v := .str one) (e_var (x := namD ys) (by rfl)) (Ev.u (e_var (by rfl))) eone) _ _ (a_cs (w_ix ((e_var (x := namD ys) (by rfl)) _ _ (w_bin (w_bin ((e_bin .add (Ev.u (e_var (x := .int at_) (by rfl))) (Ev.u (e_k (x := .int 1))) b_addI) _ _ ?_))))))))
  refine w_draw ht4 (by rfl) (e_bin .sub (Ev.u elen) (Ev.u (e_k (x := .int 1))) b_subI) (by omega) (by omega) (by omega) fun v xs5 h2 h3 ht5 => ?_
  refine use_bin b_addI ?_
  refine elen _ _ ?_
  have md : 0 ≤ (at_ + 1 + v).fmod (ys.length : Int) ∧ (at_ + 1 + v).fmod (ys.length : Int) < (ys.length : Int) := fmod_bd (by omega)
  refine ⟨by omega, ?_⟩
  obtain ⟨jt, oth, ejt, yoth, poth, woth, eoth⟩ := hy.at md.1 md.2
  have dne : oth ≠ one := nd_ne hy.nd yoth yone (by
    have := fmod_ne h0 h1 h2 h3
    omega)
  refine onSome_mk eoth ?_
  trivial
  show Nx w__law_some_page_4 X (spE a xs5 ys (some (.d (.int day))) (some (.d (.tuple [.int day, .int num]))) (some (.d (.int at_))) (some (.d (.str one))) (some (.d (.str oth))) none none none none) k
  refine nx_asg (w_ix ((e_lst (vs := [.int 0, .int 1, .int 7, .int 100]) (a_co e_k (a_co e_k (a_co e_k (a_co e_k a_no)))) (Nat.le_of_ble_eq_true rfl)) _ _ fun c => ?_))
  refine w_draw ht5 (by rfl) e_k (by omega) (by omega) (by omega) fun v xs6 h2 h3 ht6 => ?_
  refine item_int (is := [0, 1, 7, 100]) h2 h3 fun many hmany => ?_
  have hmany : 0 ≤ many ∧ many ≤ 100 := by simp at hmany; omega
  refine ⟨by show 7 < 11; omega, ?_⟩
  show Nx w__law_some_page_5 X (spE a xs6 ys (some (.d (.int day))) (some (.d (.tuple [.int day, .int num]))) (some (.d (.int at_))) (some (.d (.str one))) (some (.d (.str oth))) (some (.d (.int many))) none none none) k
  refine nx_asg (w_draw ht6 (by rfl) e_k (by omega) (by omega) (by omega) fun way xs7 h4 h5 ht7 => ?_)
  refine ⟨by show 8 < 11; omega, ?_⟩
  show Nx w__law_some_page_6 X (spE a xs7 ys (some (.d (.int day))) (some (.d (.tuple [.int day, .int num]))) (some (.d (.int at_))) (some (.d (.str one))) (some (.d (.str oth))) (some (.d (.int many))) (some (.d (.int way))) none none) k
  have sI : ∀ {i : Int}, -1000 ≤ i → i ≤ 1000 → SmK (.inl i) := fun h1 h2 => by show Int.natAbs _ ≤ _; omega
  have sS : ∀ {x : Str}, PL 10 x → SmK (.inr x) := fun h => h
  have kS : ∀ i < 8, PL 10 (kn i) := by
    intro i hi
    have z := (by decide +kernel : ∀ i < 8, (((kn i).cps.toList.all fun c => decide (c < 128)) && decide ((kn i).length ≤ 10)) = true)
    have q := z i hi
    rw [Bool.and_eq_true] at q
    exact ⟨plainS_lit q.1, of_decide_eq_true q.2⟩
  have fin : ∀ {i : Nat} {r : List Key}, i < 8 → restD (kn i) day (.tuple (r.map keyD)) = true → r.map Sum.isLeft = shp i → (∀ x ∈ r, SmK x) → ∀ (xs' : List O) (k' : Kt) env', (∀ x env, k.rt x env → k'.rt x env) → Feed xs' (n + 12) → env'[0]? = some (some (fd a xs')) → k'.rt (.o (.d (.tuple ([.int day, .int num] ++ (.str (kn i) :: r.map keyD))))) env' := by
    intro i r hi hrd hs hr xs' k' env' hkk hf he
    refine hkk _ _ (rt_go hk ?_)
    show backsW 0 [fd a xs, .d (namD ys)] env' _
    unfold backsW
    simp only [he]
    refine ⟨trivial, ?_⟩
    exact h (.inl day :: .inl num :: .inr (kn i) :: r) xs' ⟨⟨day, num, i, r, rfl, hi, hs⟩, all_cons (sI (by omega) (by omega)) (all_cons (sI (by omega) (by omega)) (all_cons (sS (kS i hi)) hr))⟩ (page_mk (by omega) (by omega) hi hrd) hf
  have eW : ∀ {y9 y10 : Option O} {xs : List O}, Ev (wVar 8) (spE a xs ys (some (.d (.int day))) (some (.d (.tuple [.int day, .int num]))) (some (.d (.int at_))) (some (.d (.str one))) (some (.d (.str oth))) (some (.d (.int many))) (some (.d (.int way))) y9 y10) (.int way) := e_var (by rfl)
  have e3 : ∀ {y9 y10 : Option O} {xs : List O}, Ev (wVar 3) (spE a xs ys (some (.d (.int day))) (some (.d (.tuple [.int day, .int num]))) (some (.d (.int at_))) (some (.d (.str one))) (some (.d (.str oth))) (some (.d (.int many))) (some (.d (.int way))) y9 y10) (.tuple [.int day, .int num]) := e_var (by rfl)
  have e5 : ∀ {y9 y10 : Option O} {xs : List O}, Ev (wVar 5) (spE a xs ys (some (.d (.int day))) (some (.d (.tuple [.int day, .int num]))) (some (.d (.int at_))) (some (.d (.str one))) (some (.d (.str oth))) (some (.d (.int many))) (some (.d (.int way))) y9 y10) (.str one) := e_var (by rfl)
  have e6 : ∀ {y9 y10 : Option O} {xs : List O}, Ev (wVar 6) (spE a xs ys (some (.d (.int day))) (some (.d (.tuple [.int day, .int num]))) (some (.d (.int at_))) (some (.d (.str one))) (some (.d (.str oth))) (some (.d (.int many))) (some (.d (.int way))) y9 y10) (.str oth) := e_var (by rfl)
  have e7 : ∀ {y9 y10 : Option O} {xs : List O}, Ev (wVar 7) (spE a xs ys (some (.d (.int day))) (some (.d (.tuple [.int day, .int num]))) (some (.d (.int at_))) (some (.d (.str one))) (some (.d (.str oth))) (some (.d (.int many))) (some (.d (.int way))) y9 y10) (.int many) := e_var (by rfl)
  have pa : PL 10 ("a" : Str) := ⟨plainS_lit (by decide +kernel), by decide +kernel⟩
  have pab : PL 10 ("ab" : Str) := ⟨plainS_lit (by decide +kernel), by decide +kernel⟩
  have p0 : PL 10 ("" : Str) := ⟨plainS_lit (by decide +kernel), by decide +kernel⟩
  have wa : isWordD (.str ("a" : Str)) = true := by decide +kernel
  have wab : isWordD (.str ("ab" : Str)) = true := by decide +kernel
  have two : ∀ {p : Str → Prop} {x y : Str} {d : D}, p x → p y → d ∈ [PyData.str x, .str y] → ∃ z, d = .str z ∧ p z := by
    intro p x y d h1 h2 hd
    rcases List.mem_cons.mp hd with rfl | hd
    · exact ⟨_, rfl, h1⟩
    · rw [List.mem_singleton.mp hd]; exact ⟨_, rfl, h2⟩
  refine nx_ifE (p := decide (way = 0)) (e_cmp .eq (Ev.u eW) (Ev.u e_k) c_eqI) (ifB (fun g => ?_) fun g => ?_)
  · refine nx_par (a_cs (w_ix ((e_lst (vs := [.str "a", .str "ab"]) (a_co e_k (a_co e_k a_no)) (Nat.le_of_ble_eq_true rfl)) _ _ fun c => ?_)))
    refine w_draw ht7 (by rfl) e_k (by omega) (by omega) (by omega) fun v xs8 h6 h7 ht8 => ?_
    refine item_mem h6 h7 fun d hd => ?_
    obtain ⟨town, rfl, ptown, wtown⟩ := two (p := fun z => PL 10 z ∧ isWordD (.str z) = true) ⟨pa, wa⟩ ⟨pab, wab⟩ hd
    refine a_cs (w_ix ((e_lst (vs := [.str "", .str oth]) (a_co e_k (a_co (e_var (by rfl)) a_no)) (Nat.le_of_ble_eq_true rfl)) _ _ fun c => ?_))
    refine w_draw ht8 (by rfl) e_k (by omega) (by omega) (by omega) fun v xs9 h8 h9 ht9 => ?_
    refine item_mem h8 h9 fun d hd => ?_
    obtain ⟨par, rfl, ppar, wpar⟩ := two (p := fun z => PL 10 z ∧ (z = ("" : Str) ∨ (isWordD (.str z) = true ∧ z ≠ one))) ⟨p0, .inl rfl⟩ ⟨poth, .inr ⟨woth, dne⟩⟩ hd
    trivial
    show Nx w__law_some_page_8 X (spE a xs9 ys (some (.d (.int day))) (some (.d (.tuple [.int day, .int num]))) (some (.d (.int at_))) (some (.d (.str one))) (some (.d (.str oth))) (some (.d (.int many))) (some (.d (.int way))) (some (.d (.str town))) (some (.d (.str par)))) _
    apply nx_retE
    · exact e_bin .add (Ev.u e3) (Ev.u (e_tup (a_co e_k (a_co e5 (a_co (e_var (x := .str town) (by rfl)) (a_co (e_bin .sub (Ev.u (e_var (x := .int day) (by rfl))) (Ev.u e7) b_subI) (a_co (e_var (x := .str par) (by rfl)) a_no))))) (Nat.le_of_ble_eq_true rfl))) (b_addT (Nat.le_of_ble_eq_true rfl))
    exact fin (i := 0) (r := [.inr one, .inr town, .inl (day - many), .inr par]) (by omega) (rest0 wone wtown (by omega) wpar) rfl (all_cons (sS pone) (all_cons (sS ptown) (all_cons (sI (by omega) (by omega)) (all_one (sS ppar))))) _ _ _ (fun _ _ h => h) (ht9.mono (by omega)) rfl
  refine nx_nil ?_
  refine nx_ifE (p := decide (way = 1)) (e_cmp .eq (Ev.u eW) (Ev.u e_k) c_eqI) (ifB (fun g => ?_) fun g => ?_)
  · refine nx_ret (w_bin ?_)
    refine e3 _ _ (w_tup (a_cs ?_))
    refine e_k _ _ (a_cs ?_)
    refine e5 _ _ (a_cs ?_)
    refine e7 _ _ (a_cs (w_ix ?_))
    refine (e_lst (vs := [.str one, .str oth]) (a_co e5 (a_co e6 a_no)) (Nat.le_of_ble_eq_true rfl)) _ _ fun c => ?_
    refine w_draw ht7 (by rfl) e_k (by omega) (by omega) (by omega) fun v xs8 h6 h7 ht8 => ?_
    refine item_mem h6 h7 fun d hd => ?_
    obtain ⟨z, rfl, pz, wz⟩ := two (p := fun z => PL 10 z ∧ isWordD (.str z) = true) ⟨pone, wone⟩ ⟨poth, woth⟩ hd
    refine ⟨by show 4 ≤ sizeLine; decide, ?_⟩
    refine use_bin (b_addT (Nat.le_of_ble_eq_true rfl)) ?_
    exact fin (i := 6) (r := [.inr one, .inl many, .inr z]) (by omega) (rest6 wone (by omega) wz) rfl (all_cons (sS pone) (all_cons (sI (by omega) (by omega)) (all_one (sS pz)))) _ _ _ (fun _ _ h => h) (ht8.mono (by omega)) rfl
  refine nx_nil ?_
  have g0 : ¬ way = 0 := by simpa using of_decide_eq_false ‹decide (way = 0) = false›
  have g1 : ¬ way = 1 := by simpa using of_decide_eq_false ‹decide (way = 1) = false›
  refine nx_ifE (p := decide (way < 4)) (e_cmp .lt (Ev.u eW) (Ev.u e_k) c_lt) (ifB (fun g => ?_) fun g => ?_)
  · have g := of_decide_eq_true g
    have : way = 2 ∨ way = 3 := by omega
    rcases this with rfl | rfl
    · apply nx_retE
      · exact e_bin .add (Ev.u e3) (Ev.u (e_tup (a_co (e_ixL (n := 2 - 2) (v := .str "heir") (e_lst (a_co e_k (a_co e_k a_no)) (Nat.le_of_ble_eq_true rfl)) (Ev.u (e_bin .sub (Ev.u eW) (Ev.u e_k) b_subI)) (by rfl)) (a_co e5 (a_co e6 a_no))) (Nat.le_of_ble_eq_true rfl))) (b_addT (Nat.le_of_ble_eq_true rfl))
      exact fin (i := 1) (r := [.inr one, .inr oth]) (by omega) (rest2 (by omega) wone woth (Ne.symm dne)) rfl (all_cons (sS pone) (all_one (sS poth))) _ _ _ (fun _ _ h => h) (ht7.mono (by omega)) rfl
    · apply nx_retE
      · exact e_bin .add (Ev.u e3) (Ev.u (e_tup (a_co (e_ixL (n := 3 - 2) (v := .str "sell") (e_lst (a_co e_k (a_co e_k a_no)) (Nat.le_of_ble_eq_true rfl)) (Ev.u (e_bin .sub (Ev.u eW) (Ev.u e_k) b_subI)) (by rfl)) (a_co e5 (a_co e6 a_no))) (Nat.le_of_ble_eq_true rfl))) (b_addT (Nat.le_of_ble_eq_true rfl))
      exact fin (i := 2) (r := [.inr one, .inr oth]) (by omega) (rest2 (by omega) wone woth (Ne.symm dne)) rfl (all_cons (sS pone) (all_one (sS poth))) _ _ _ (fun _ _ h => h) (ht7.mono (by omega)) rfl
  refine nx_nil ?_
  have g3 : ¬ way < 4 := by simpa using of_decide_eq_false ‹decide (way < 4) = false›
  refine nx_ifE (p := decide (way < 6)) (e_cmp .lt (Ev.u eW) (Ev.u e_k) c_lt) (ifB (fun g => ?_) fun g => ?_)
  · have g := of_decide_eq_true g
    have : way = 4 ∨ way = 5 := by omega
    rcases this with rfl | rfl
    · apply nx_retE
      · exact e_bin .add (Ev.u e3) (Ev.u (e_tup (a_co (e_ixL (n := 4 - 4) (v := .str "ask") (e_lst (a_co e_k (a_co e_k a_no)) (Nat.le_of_ble_eq_true rfl)) (Ev.u (e_bin .sub (Ev.u eW) (Ev.u e_k) b_subI)) (by rfl)) (a_co e5 a_no)) (Nat.le_of_ble_eq_true rfl))) (b_addT (Nat.le_of_ble_eq_true rfl))
      exact fin (i := 5) (r := [.inr one]) (by omega) (rest5 (by omega) wone) rfl (all_one (sS pone)) _ _ _ (fun _ _ h => h) (ht7.mono (by omega)) rfl
    · apply nx_retE
      · exact e_bin .add (Ev.u e3) (Ev.u (e_tup (a_co (e_ixL (n := 5 - 4) (v := .str "go") (e_lst (a_co e_k (a_co e_k a_no)) (Nat.le_of_ble_eq_true rfl)) (Ev.u (e_bin .sub (Ev.u eW) (Ev.u e_k) b_subI)) (by rfl)) (a_co e5 a_no)) (Nat.le_of_ble_eq_true rfl))) (b_addT (Nat.le_of_ble_eq_true rfl))
      exact fin (i := 7) (r := [.inr one]) (by omega) (rest5 (by omega) wone) rfl (all_one (sS pone)) _ _ _ (fun _ _ h => h) (ht7.mono (by omega)) rfl
  refine nx_nil ?_
  have g5 : ¬ way < 6 := by simpa using of_decide_eq_false ‹decide (way < 6) = false›
  have : way = 6 ∨ way = 7 := by omega
  rcases this with rfl | rfl
  · apply nx_retE
    · exact e_bin .add (Ev.u e3) (Ev.u (Ev.to (e_ife (p := true) (x := .tuple [.str "away", .str one, .int (1 + many)]) (y := .none) (Ev.to (e_cmp .eq (Ev.u eW) (Ev.u e_k) c_eqI) (by rfl)) (fun _ => e_tup (a_co e_k (a_co e5 (a_co (e_bin .add (Ev.u e_k) (Ev.u e7) b_addI) a_no))) (Nat.le_of_ble_eq_true rfl)) fun h => by cases h) rfl)) (b_addT (Nat.le_of_ble_eq_true rfl))
    exact fin (i := 3) (r := [.inr one, .inl (1 + many)]) (by omega) (rest3 wone (by omega)) rfl (all_cons (sS pone) (all_one (sI (by omega) (by omega)))) _ _ _ (fun _ _ h => h) (ht7.mono (by omega)) rfl
  · apply nx_retE
    · exact e_bin .add (Ev.u e3) (Ev.u (Ev.to (e_ife (p := false) (x := .none) (y := .tuple [.str "rent", .int many]) (Ev.to (e_cmp .eq (Ev.u eW) (Ev.u e_k) c_eqI) (by rfl)) (fun h => by cases h) fun _ => e_tup (a_co e_k (a_co e7 a_no)) (Nat.le_of_ble_eq_true rfl)) rfl)) (b_addT (Nat.le_of_ble_eq_true rfl))
    exact fin (i := 4) (r := [.inl many]) (by omega) (rest4 (by omega)) rfl (all_one (sI (by omega) (by omega))) _ _ _ (fun _ _ h => h) (ht7.mono (by omega)) rfl
end
section
open PySem.W hiding keyD
theorem e_idxT {wa wb : WT} {env : Vx.Env} {ys : List Str} {z : Str} (ha : EvU wa env (.tuple (ys.map PyData.str))) (hb : Ev wb env (.str z)) (hz : z ∈ ys) : Ev (wIdxT wa (aCons wb aNil)) env (.int (ys.idxOf z : Nat)) := fun PX P q => by
  refine ha _ _ fun x hx => hx _ ?_
  exact onSome_mk (strsOf_map ys) (hb _ _ ⟨hz, q⟩)
theorem kn_mem {i : Nat} (h : i < 8) : kn i ∈ knL := by
  have z := (by decide +kernel : ∀ i < 8, kn i ∈ knL)
  exact z i h
theorem at_nat {ds : List D} {j : Nat} {x : D} (h : ds[j]? = some x) : atI ds (j : Int) = some x := by
  obtain ⟨hj, e⟩ := List.getElem?_eq_some_iff.mp h
  rw [Vx.atI_nat hj, List.getD_eq_getElem?_getD, h]; rfl
theorem pplace_r {k : List Key} (h : Pg k) : RtF F_page_place [keysD k] (pkey k) := by
  obtain ⟨d, n, i, r, rfl, hi, hs, e⟩ := h.key
  rw [e]
  unfold F_page_place
  apply rtF
  apply r_ret
  refine Ev.to (e_tup (a_co (e_ixT (n := 0) (v := .int d) (e_var (by rfl)) (Ev.u e_k) (at_nat (j := 0) rfl)) (a_co (e_ixT (n := 1) (v := .int n) (e_var (by rfl)) (Ev.u e_k) (at_nat (j := 1) rfl)) (a_co (e_idxT (ys := knL) (z := kn i) (Ev.u e_k) (e_ixT (n := 2) (v := .str (kn i)) (e_var (by rfl)) (Ev.u e_k) (at_nat (j := 2) rfl)) (kn_mem hi)) (a_co (e_slT (l := some 3) (h := none) (Ev.u (e_var (by rfl))) (ov_so e_k) ov_no) a_no)))) (Nat.le_of_ble_eq_true rfl)) ?_
  rw [kn_idx hi, cut_from (by decide)]
  rfl
theorem lkey_r {k : List Key} (h : Pg k) : RtF F__law_key [keysD k] (pkey k) := by
  obtain ⟨d, n, i, r, rfl, hi, hs, e⟩ := h.key
  rw [e]
  unfold F__law_key
  apply rtF
  apply r_asgL (ds := knL.map PyData.str)
  · exact e_lst (a_co e_k (a_co e_k (a_co e_k (a_co e_k (a_co e_k (a_co e_k (a_co e_k (a_co e_k a_no)))))))) (Nat.le_of_ble_eq_true rfl)
  · exact Nat.le_of_ble_eq_true rfl
  intro a
  apply r_ret
  refine Ev.to (e_tup (a_co (e_ixT (n := 0) (v := .int d) (e_var (by rfl)) (Ev.u e_k) (at_nat (j := 0) rfl)) (a_co (e_ixT (n := 1) (v := .int n) (e_var (by rfl)) (Ev.u e_k) (at_nat (j := 1) rfl)) (a_co (e_idxL (ns := knL) (x := kn i) (by rfl) (e_ixT (n := 2) (v := .str (kn i)) (e_var (by rfl)) (Ev.u e_k) (at_nat (j := 2) rfl)) (kn_mem hi)) (a_co (e_slT (l := some 3) (h := none) (Ev.u (e_var (by rfl))) (ov_so e_k) ov_no) a_no)))) (Nat.le_of_ble_eq_true rfl)) ?_
  rw [kn_idx hi, cut_from (by decide)]
  rfl
abbrev pgsD (ks : List (List Key)) : List D := ks.map keysD
theorem kz_at {F : FSem} {ks : List (List Key)} (hF : ∀ k ∈ ks, RtF F [keysD k] (pkey k)) : ∀ (i : Nat) (d c : D), (pgsD ks)[i]? = some d → (ks.map pkey)[i]? = some c → RtF F [d] c := fun i d c h1 h2 => by
  rw [List.getElem?_map] at h1 h2
  obtain ⟨k, hk, rfl⟩ := Option.map_eq_some_iff.mp h1
  rw [hk] at h2
  cases h2
  exact hF k (List.mem_of_getElem? hk)
theorem in_order_r {ks : List (List Key)} {d : D} (h : ∀ k ∈ ks, Pg k) (hl : ks.length ≤ 1000000) (hd : d = .tuple (pgsD ks) ∨ d = .list (pgsD ks)) : RtF F_in_order [d] (.tuple (pgsD (bookOf ks))) := by
  intro P PX q
  unfold F_in_order
  refine sem_go fun k X hk => ?_
  have hu : ∀ k ∈ uniqK ks, Pg k := fun k hk => h k (uniqK_mem.mp hk)
  refine nx_in ⟨ks, (uniqK ks).map pkey, ?_, hl, rfl, ⟨by rw [List.length_map, List.length_map], fun i d c h1 h2 => kz_at (fun k hk => pplace_r (hu k hk)) i d c h1 h2, kz_pg hu⟩, ?_⟩
  · rcases hd with rfl | rfl
    · exact .inr (.inl rfl)
    · exact .inl rfl
  · rw [sortK_pg]
    refine rt_go hk ?_
    exact q
theorem eqv_keyD {x y : Key} : PyData.eqv (keyD x) (keyD y) = decide (x = y) := by
  cases x <;> cases y
  · show PyData.eqv (.int _) (.int _) = _
    rw [eqv_int]; simp
  · show PyData.eqv (.int _) (.str _) = _
    simp [PyData.eqv]
  · show PyData.eqv (.str _) (.int _) = _
    simp [PyData.eqv]
  · show PyData.eqv (.str _) (.str _) = _
    rw [eqv_str]; simp
theorem eqvAll_keys : ∀ {a b : List Key}, PyData.eqvAll (a.map keyD) (b.map keyD) = decide (a = b)
  | [], [] => by simp [PyData.eqvAll]
  | [], y :: b => by simp [PyData.eqvAll]
  | x :: a, [] => by simp [PyData.eqvAll]
  | x :: a, y :: b => by
    rw [List.map_cons, List.map_cons, PyData.eqvAll, eqv_keyD, eqvAll_keys]
    by_cases h1 : x = y <;> by_cases h2 : a = b <;> simp [h1, h2]
theorem eqv_keys {a b : List Key} : PyData.eqv (keysD a) (keysD b) = decide (a = b) := by
  show PyData.eqv (.tuple _) (.tuple _) = _
  rw [PyData.eqv, eqvAll_keys]
theorem Pg.len {k : List Key} (h : Pg k) : k.length ≤ 7 := by
  obtain ⟨d, n, i, r, rfl, hi, hs⟩ := h.ex
  have e := congrArg List.length hs
  rw [List.length_map] at e
  have := shp_len (i := i)
  simp only [List.length_cons]
  omega
theorem gd_key {x : Key} (h : SmK x) : G 0 0 (keyD x) ∧ (keyD x).weight ≤ 200 := by
  cases x with
  | inl i =>
    have h : i.natAbs ≤ 1000000 := h
    have e : i.natAbs ≤ 2 ^ 199 + 0 := Nat.le_trans h (Nat.le_of_ble_eq_true rfl)
    exact ⟨.int e, wt_int (s := 0) (by omega) e⟩
  | inr x =>
    have h : plainS x ∧ x.length ≤ 10 := h
    exact ⟨.str h.1, by show PyData.weight (.str x) ≤ _; rw [wt_str]; omega⟩
theorem gd_pg {k : List Key} (h : Pg k) : G 0 1 (keysD k) ∧ (keysD k).weight ≤ 1407 := by
  have z := tup_good (m := 7) (ds := k.map keyD) (fun d hd => by
    obtain ⟨x, hx, rfl⟩ := List.mem_map.mp hd
    exact gd_key (h.sm x hx)) (by rw [List.length_map]; exact h.len)
  exact z
theorem gd_book {b : List (List Key)} (h : ∀ k ∈ b, Pg k) {m : Nat} (hl : b.length ≤ m) : G 0 2 (.tuple (pgsD b)) ∧ PyData.weight (.tuple (pgsD b)) ≤ 1408 * m :=
  tup_good (fun d hd => by
    obtain ⟨k, hk, rfl⟩ := List.mem_map.mp hd
    exact gd_pg (h k hk)) (by rw [List.length_map]; exact hl)
theorem gd_bookL {b : List (List Key)} (h : ∀ k ∈ b, Pg k) : G 0 2 (.list (pgsD b)) := .lst fun d hd => by
  obtain ⟨k, hk, rfl⟩ := List.mem_map.mp hd
  exact (gd_pg (h k hk)).1
theorem pl_pg {k : List Key} (h : Pg k) : plainD (keysD k) = true := ((gd_pg h).1.mo (by omega)).plain (by omega)
theorem pl_book {b : List (List Key)} (h : ∀ k ∈ b, Pg k) : plainD (.tuple (pgsD b)) = true := ((gd_book h (Nat.le_refl _)).1.mo (by omega)).plain (by omega)
theorem pl_bookL {b : List (List Key)} (h : ∀ k ∈ b, Pg k) : plainD (.list (pgsD b)) = true := ((gd_bookL h).mo (by omega)).plain (by omega)
theorem any_pgs {k : List Key} : ∀ {b : List (List Key)}, ((pgsD b).any fun y => PyData.eqv y (keysD k)) = hasK b k
  | [] => rfl
  | x :: b => by
    show (PyData.eqv (keysD x) (keysD k) || (pgsD b).any fun y => PyData.eqv y (keysD k)) = (decide (x = k) || hasK b k)
    rw [eqv_keys, any_pgs]
theorem nx_addK {i j : Nat} {u : WS} {PX : Exn → Vx.Env → Prop} {env : Vx.Env} {kk : Kt} {a : Addr} {acc : List (List Key)} {k : List Key} (hi : env[i]? = some (some (.lst a ((pgsD acc).map .d)))) (hj : env[j]? = some (some (.d (keysD k)))) (ha : ∀ x ∈ acc, Pg x) (hk : Pg k) (hl : acc.length ≤ 1000000)
    (h : Nx u PX (env.set i (some (.lst a ((pgsD (addK acc k)).map .d)))) kk) : Nx (sCons (sIf (wCmp .notIn (wVar j) (wVar i)) (sCons (sExpr (wAppend (wVar i) (aCons (wVar j) aNil))) sNil) sNil) u) PX env kk := by
  refine nx_ifE (p := !hasK acc k) (Ev.to (e_cmp .notIn (Ev.u (e_var hj)) (u_own hi) (c_notInL (pl_pg hk) (pl_bookL ha))) (by rw [any_pgs])) (ifB (fun g => ?_) fun g => ?_)
  · refine nx_appE (e_var hj) hi (by rw [List.length_map, List.length_map]; exact hl) ?_
    refine nx_nil ?_
    have e : addK acc k = acc ++ [k] := by
      unfold addK
      rw [if_neg (by simpa using g)]
    rw [e] at h
    simpa using h
  · refine nx_nil ?_
    have e : addK acc k = acc := by
      unfold addK
      rw [if_pos (by simpa using g)]
    rw [e] at h
    have e2 : env.set i (some (.lst a ((pgsD acc).map .d))) = env := by
      obtain ⟨h1, h2⟩ := List.getElem?_eq_some_iff.mp hi
      rw [← h2]; exact List.set_getElem_self h1
    rw [e2] at h
    exact h
theorem e_sortPg {i : Nat} {a : Addr} {env : Vx.Env} {acc : List (List Key)} (hi : env[i]? = some (some (.lst a ((pgsD acc).map .d)))) (ha : ∀ x ∈ acc, Pg x) : Ev (wPrim .tuple (aCons (wBlt (fSortK F__law_key) (aCons (wVar i) aNil)) aNil)) env (.tuple (pgsD (sortPg acc))) :=
  Ev.to (e_tuple (EvL.u (e_sortK (kz := acc.map pkey) (u_own hi) (by rw [List.length_map, List.length_map]) (kz_at fun k hk => lkey_r (ha k hk)) (kz_pg ha)))) (by rw [sortK_pg])
end
section
open PySem.W hiding keyD
theorem pgs_app {a b : List (List Key)} : pgsD (a ++ b) = pgsD a ++ pgsD b := List.map_append
theorem law_book_ok {a : Addr} {xs : List O} {ys : List Str} {n : Nat} {m : Int} {P : O → List O → Prop} {PX : Exn → List O → Prop} (hy : Nm ys) (ht : Feed xs n) (hn : n < 50000) (h0 : 0 ≤ m) (h1 : m ≤ 100)
    (h : ∀ b xs', IsBk b → (∀ k ∈ b, pageD (keysD k) = true) → b.length ≤ m.toNat → Feed xs' (n + 1200) → P (.d (.tuple (pgsD b))) [fd a xs', .d (namD ys), .d (.int m)]) : F__law_book [fd a xs, .d (namD ys), .d (.int m)] P PX := by
  unfold F__law_book
  refine sem_go fun k X hk => ?_
  show Nx w__law_book_0 X [some (fd a xs), some (.d (namD ys)), some (.d (.int m)), none, none, none] k
  apply nx_asgLE
  · exact e_lst a_no (Nat.le_of_ble_eq_true rfl)
  · rfl
  intro c
  show Nx w__law_book_1 X [some (fd a xs), some (.d (namD ys)), some (.d (.int m)), some (.lst c ((pgsD []).map .d)), none, none] k
  apply nx_forE (s := ⟨Vx.upTo 0 m.toNat, none⟩)
  · exact sv_r1 (e_var (by rfl)) ⟨by omega, by omega⟩
  refine loop_run (s := ⟨Vx.upTo 0 m.toNat, none⟩) (fun i env => ∃ xs' acc y4 y5, env = [some (fd a xs'), some (.d (namD ys)), some (.d (.int m)), some (.lst c ((pgsD acc).map .d)), y4, y5] ∧ Feed xs' (n + 12 * i) ∧ (∀ k ∈ acc, Pg k) ∧ (∀ k ∈ acc, pageD (keysD k) = true) ∧ acc.Nodup ∧ acc.length ≤ i) (fun _ _ _ => True.intro) ?_ ⟨xs, [], _, _, rfl, ht, nofun, nofun, List.nodup_nil, Nat.le_refl _⟩ ?_
  · rintro i x env K hx ⟨xs', acc, y4, y5, rfl, ht', hp, hpd, hnd, hl⟩ hK
    obtain ⟨hi, rfl⟩ := Vx.upTo_at hx
    refine ⟨by show 4 < 6; omega, ?_⟩
    show Nx w__law_book_2 X [some (fd a xs'), some (.d (namD ys)), some (.d (.int m)), some (.lst c ((pgsD acc).map .d)), some (.d (.int (0 + (i : Int)))), y5] _
    refine nx_asg (w_call2 (v_obj (kd := .lst) (xs := xs') (by rfl) ((e_var (x := namD ys) (by rfl)) _ _ (callV_2 (R := fun r xs2 => ∃ k, r = .d (keysD k) ∧ Pg k ∧ pageD (keysD k) = true ∧ Feed xs2 (n + 12 * i + 12)) (by rfl) (fun Q QX q => some_page_ok hy ht' (by omega) fun k xs2 hk hd hf => q _ _ ⟨k, rfl, hk, hd, hf⟩) fun r xs2 hr => ?_))))
    obtain ⟨p, rfl, hpp, hpp2, hf⟩ := hr
    refine ⟨by show 5 < 6; omega, ?_⟩
    show Nx w__law_book_3 X [some (fd a xs2), some (.d (namD ys)), some (.d (.int m)), some (.lst c ((pgsD acc).map .d)), some (.d (.int (0 + (i : Int)))), some (.d (keysD p))] _
    refine nx_addK (i := 3) (j := 5) (by rfl) (by rfl) hp hpp (by omega) ?_
    refine nx_nil ?_
    have la := addK_len (ks := acc) (k := p)
    exact hK _ ⟨xs2, addK acc p, _, _, rfl, hf.mono (by omega), fun x hx => (addK_mem.mp hx).elim (hp x) fun e => e ▸ hpp, fun x hx => (addK_mem.mp hx).elim (hpd x) fun e => e ▸ hpp2, addK_nodup hnd, by omega⟩
  · rintro env ⟨xs', acc, y4, y5, rfl, ht', hp, hpd, hnd, hl⟩
    rw [show (Src.mk (Vx.upTo 0 m.toNat) none).xs.length = m.toNat from Vx.upTo_length] at ht' hl
    apply nx_retE
    · exact e_sortPg (i := 3) (by rfl) hp
    refine rt_go hk ?_
    trivial
    exact h (sortPg acc) xs' ⟨sortPg_pw _, (sortPg_perm _).nodup_iff.mpr hnd, fun k hk => hp k ((sortPg_perm _).mem_iff.mp hk)⟩ (fun k hk => hpd k ((sortPg_perm _).mem_iff.mp hk)) (by rw [(sortPg_perm _).length_eq]; exact hl) (ht'.mono (by omega))
end
section
open PySem.W hiding keyD
open PyProof.Rows
def Px (k : List Key) : Prop := ∃ (d n : Int) (i : Nat) (r : List Key), k = .inl d :: .inl n :: .inr (kn i) :: r ∧ i < 8 ∧ r.map Sum.isLeft = shp i
theorem Px.key {k : List Key} (h : Px k) : ∃ (d n : Int) (i : Nat) (r : List Key), k = .inl d :: .inl n :: .inr (kn i) :: r ∧ i < 8 ∧ r.map Sum.isLeft = shp i ∧ pkey k = .tuple [.int d, .int n, .int (i : Nat), .tuple (r.map keyD)] := by
  obtain ⟨d, n, i, r, rfl, hi, hs⟩ := h
  refine ⟨d, n, i, r, rfl, hi, hs, ?_⟩
  show PyData.tuple _ = _
  rw [kn_idx hi]
theorem Pg.x {k : List Key} (h : Pg k) : Px k := h.ex
theorem pplace_x {k : List Key} (h : Px k) : RtF F_page_place [keysD k] (pkey k) := by
  obtain ⟨d, n, i, r, rfl, hi, hs, e⟩ := h.key
  rw [e]
  unfold F_page_place
  apply rtF
  apply r_ret
  refine Ev.to (e_tup (a_co (e_ixT (n := 0) (v := .int d) (e_var (by rfl)) (Ev.u e_k) (at_nat (j := 0) rfl)) (a_co (e_ixT (n := 1) (v := .int n) (e_var (by rfl)) (Ev.u e_k) (at_nat (j := 1) rfl)) (a_co (e_idxT (ys := knL) (z := kn i) (Ev.u e_k) (e_ixT (n := 2) (v := .str (kn i)) (e_var (by rfl)) (Ev.u e_k) (at_nat (j := 2) rfl)) (kn_mem hi)) (a_co (e_slT (l := some 3) (h := none) (Ev.u (e_var (by rfl))) (ov_so e_k) ov_no) a_no)))) (Nat.le_of_ble_eq_true rfl)) ?_
  rw [kn_idx hi, cut_from (by decide)]
  rfl
theorem lkey_x {k : List Key} (h : Px k) : RtF F__law_key [keysD k] (pkey k) := by
  obtain ⟨d, n, i, r, rfl, hi, hs, e⟩ := h.key
  rw [e]
  unfold F__law_key
  apply rtF
  apply r_asgL (ds := knL.map PyData.str)
  · exact e_lst (a_co e_k (a_co e_k (a_co e_k (a_co e_k (a_co e_k (a_co e_k (a_co e_k (a_co e_k a_no)))))))) (Nat.le_of_ble_eq_true rfl)
  · exact Nat.le_of_ble_eq_true rfl
  intro a
  apply r_ret
  refine Ev.to (e_tup (a_co (e_ixT (n := 0) (v := .int d) (e_var (by rfl)) (Ev.u e_k) (at_nat (j := 0) rfl)) (a_co (e_ixT (n := 1) (v := .int n) (e_var (by rfl)) (Ev.u e_k) (at_nat (j := 1) rfl)) (a_co (e_idxL (ns := knL) (x := kn i) (by rfl) (e_ixT (n := 2) (v := .str (kn i)) (e_var (by rfl)) (Ev.u e_k) (at_nat (j := 2) rfl)) (kn_mem hi)) (a_co (e_slT (l := some 3) (h := none) (Ev.u (e_var (by rfl))) (ov_so e_k) ov_no) a_no)))) (Nat.le_of_ble_eq_true rfl)) ?_
  rw [kn_idx hi, cut_from (by decide)]
  rfl
def pl (k : List Key) : List D := match pkey k with
  | .tuple ds => ds
  | _ => []
theorem Px.pl {k : List Key} (h : Px k) : pkey k = .tuple (pl k) := by
  obtain ⟨d, n, i, r, -, -, -, e⟩ := h.key
  unfold VL.pl
  rw [e]
theorem lt_px {k k' : List Key} (h : Px k) (h' : Px k') : LtOk (pl k) (pl k') := by
  obtain ⟨d, n, i, r, -, hi, hs, e⟩ := h.key
  obtain ⟨d', n', i', r', -, hi', hs', e'⟩ := h'.key
  have a : pl k = [.int d, .int n, .int (i : Nat), .tuple (r.map keyD)] := by unfold pl; rw [e]
  have a' : pl k' = [.int d', .int n', .int (i' : Nat), .tuple (r'.map keyD)] := by unfold pl; rw [e']
  rw [a, a']
  have nl : ∀ (d n j : Int) (r : List Key), ∀ x ∈ ([.int d, .int n, .int j, .tuple (r.map keyD)] : List D), NL x := fun d n j r => all_cons (.int _) (all_cons (.int _) (all_cons (.int _) (all_one (.tup (nl_keys r)))))
  refine ⟨nl _ _ _ _, nl _ _ _ _, cmp_go rfl fun _ => cmp_go rfl fun _ => cmp_go rfl fun q => cmp_go ?_ fun _ => rfl, ?_⟩
  · have q := eqvI q
    have q : i = i' := by omega
    subst q
    unfold alike
    exact alike_keys (hs.trans hs'.symm)
  · simp only [PyData.depthAll, PyData.depth, dep_keys]
    decide
theorem num_k {x : D} (h : isNumD x = true) : ∃ k : Key, x = keyD k ∧ k.isLeft = true := ⟨.inl (Vx.intD x), num_of h, rfl⟩
theorem str_k {x : D} (h : isT .str x = true) : ∃ k : Key, x = keyD k ∧ k.isLeft = false := ⟨.inr (strD x), str_of h, rfl⟩
theorem word_k {x : D} (h : isWordD x = true) : ∃ k : Key, x = keyD k ∧ k.isLeft = false := str_k (word_str h)
theorem len_1 {r : List D} (h : len4 (.tuple r) 1 = true) : ∃ a, r = [a] := by
  have h : (r.length : Int) = 1 := of_decide_eq_true h
  match r, h with
  | [a], _ => exact ⟨a, rfl⟩
  | [], h => simp at h
  | _ :: _ :: r, h => simp at h; omega
theorem len_2 {r : List D} (h : len4 (.tuple r) 2 = true) : ∃ a b, r = [a, b] := by
  have h : (r.length : Int) = 2 := of_decide_eq_true h
  match r, h with
  | [a, b], _ => exact ⟨a, b, rfl⟩
  | [], h => simp at h
  | [_], h => simp at h
  | _ :: _ :: _ :: r, h => simp at h; omega
theorem len_3 {r : List D} (h : len4 (.tuple r) 3 = true) : ∃ a b c, r = [a, b, c] := by
  have h : (r.length : Int) = 3 := of_decide_eq_true h
  match r, h with
  | [a, b, c], _ => exact ⟨a, b, c, rfl⟩
  | [], h => simp at h
  | [_], h => simp at h
  | [_, _], h => simp at h
  | _ :: _ :: _ :: _ :: r, h => simp at h; omega
theorem len_4 {r : List D} (h : len4 (.tuple r) 4 = true) : ∃ a b c d, r = [a, b, c, d] := by
  have h : (r.length : Int) = 4 := of_decide_eq_true h
  match r, h with
  | [a, b, c, d], _ => exact ⟨a, b, c, d, rfl⟩
  | [], h => simp at h
  | [_], h => simp at h
  | [_, _], h => simp at h
  | [_, _, _], h => simp at h
  | _ :: _ :: _ :: _ :: _ :: r, h => simp at h; omega
theorem at0 {a : D} {r : List D} : atD (.tuple (a :: r)) 0 = a := rfl
theorem at1 {a b : D} {r : List D} : atD (.tuple (a :: b :: r)) 1 = b := rfl
theorem at2 {a b c : D} {r : List D} : atD (.tuple (a :: b :: c :: r)) 2 = c := rfl
theorem at3 {a b c d : D} {r : List D} : atD (.tuple (a :: b :: c :: d :: r)) 3 = d := rfl
theorem rest_k {k : Str} {day : Int} {r : List D} (hk : kindD k = true) (h : restD k day (.tuple r) = true) : ∃ (i : Nat) (rk : List Key), i < 8 ∧ k = kn i ∧ r = rk.map keyD ∧ rk.map Sum.isLeft = shp i := by
  have mk1 : ∀ {i : Nat} {a : D} {p : Bool}, i < 8 → k = kn i → (∃ q : Key, a = keyD q ∧ q.isLeft = p) → shp i = [p] → ∃ (i : Nat) (rk : List Key), i < 8 ∧ k = kn i ∧ [a] = rk.map keyD ∧ rk.map Sum.isLeft = shp i := fun hi e ⟨q, h1, h2⟩ hs => ⟨_, [q], hi, e, by rw [h1]; rfl, by rw [hs, ← h2]; rfl⟩
  have mk2 : ∀ {i : Nat} {a b : D} {p p' : Bool}, i < 8 → k = kn i → (∃ q : Key, a = keyD q ∧ q.isLeft = p) → (∃ q : Key, b = keyD q ∧ q.isLeft = p') → shp i = [p, p'] → ∃ (i : Nat) (rk : List Key), i < 8 ∧ k = kn i ∧ [a, b] = rk.map keyD ∧ rk.map Sum.isLeft = shp i := fun hi e ⟨q, h1, h2⟩ ⟨q', h1', h2'⟩ hs => ⟨_, [q, q'], hi, e, by rw [h1, h1']; rfl, by rw [hs, ← h2, ← h2']; rfl⟩
  have q : k = ("folk" : Str) ∨ k = ("heir" : Str) ∨ k = ("sell" : Str) ∨ k = ("away" : Str) ∨ k = ("rent" : Str) ∨ k = ("ask" : Str) ∨ k = ("name" : Str) ∨ k = ("go" : Str) := of_decide_eq_true hk
  unfold restD at h
  rcases q with rfl | rfl | rfl | rfl | rfl | rfl | rfl | rfl
  · rw [if_pos rfl] at h
    unfold folkD at h
    simp only [Bool.and_eq_true] at h
    obtain ⟨a, b, c, d, rfl⟩ := len_4 h.1.1
    rw [at0, at1, at2, at3] at h
    obtain ⟨k1, e1, l1⟩ := word_k h.1.2.1
    obtain ⟨k2, e2, l2⟩ := word_k h.1.2.2
    obtain ⟨k3, e3, l3⟩ := num_k h.2.1.1.1
    obtain ⟨k4, e4, l4⟩ := str_k h.2.1.2
    exact ⟨0, [k1, k2, k3, k4], by omega, rfl, by rw [e1, e2, e3, e4]; rfl, by simp [l1, l2, l3, l4, shp]⟩
  · rw [if_neg (by decide +kernel), if_neg (by decide +kernel), if_pos (.inl rfl)] at h
    simp only [Bool.and_eq_true] at h
    obtain ⟨a, b, rfl⟩ := len_2 h.1
    rw [at0, at1] at h
    exact mk2 (i := 1) (by omega) rfl (word_k h.2.1) (word_k h.2.2.1) rfl
  · rw [if_neg (by decide +kernel), if_neg (by decide +kernel), if_pos (.inr rfl)] at h
    simp only [Bool.and_eq_true] at h
    obtain ⟨a, b, rfl⟩ := len_2 h.1
    rw [at0, at1] at h
    exact mk2 (i := 2) (by omega) rfl (word_k h.2.1) (word_k h.2.2.1) rfl
  · rw [if_neg (by decide +kernel), if_neg (by decide +kernel), if_neg (by decide +kernel), if_pos rfl] at h
    simp only [Bool.and_eq_true] at h
    obtain ⟨a, b, rfl⟩ := len_2 h.1
    rw [at0, at1] at h
    exact mk2 (i := 3) (by omega) rfl (word_k h.2.1) (num_k (fromD_num h.2.2)) rfl
  · rw [if_neg (by decide +kernel), if_neg (by decide +kernel), if_neg (by decide +kernel), if_neg (by decide +kernel), if_pos rfl] at h
    simp only [Bool.and_eq_true] at h
    obtain ⟨a, rfl⟩ := len_1 h.1
    rw [at0] at h
    exact mk1 (i := 4) (by omega) rfl (num_k (fromD_num h.2)) rfl
  · rw [if_neg (by decide +kernel), if_neg (by decide +kernel), if_neg (by decide +kernel), if_neg (by decide +kernel), if_neg (by decide +kernel)] at h
    simp only [Bool.and_eq_true] at h
    obtain ⟨a, rfl⟩ := len_1 h.1
    rw [at0] at h
    exact mk1 (i := 5) (by omega) rfl (word_k h.2) rfl
  · rw [if_neg (by decide +kernel), if_pos rfl] at h
    simp only [Bool.and_eq_true] at h
    obtain ⟨a, b, c, rfl⟩ := len_3 h.1
    rw [at0, at1, at2] at h
    obtain ⟨k1, e1, l1⟩ := word_k h.2.1
    obtain ⟨k2, e2, l2⟩ := num_k (fromD_num h.2.2.1)
    obtain ⟨k3, e3, l3⟩ := word_k h.2.2.2
    exact ⟨6, [k1, k2, k3], by omega, rfl, by rw [e1, e2, e3]; rfl, by simp [l1, l2, l3, shp]⟩
  · rw [if_neg (by decide +kernel), if_neg (by decide +kernel), if_neg (by decide +kernel), if_neg (by decide +kernel), if_neg (by decide +kernel)] at h
    simp only [Bool.and_eq_true] at h
    obtain ⟨a, rfl⟩ := len_1 h.1
    rw [at0] at h
    exact mk1 (i := 7) (by omega) rfl (word_k h.2) rfl
theorem page_k {x : D} (h : pageD x = true) : ∃ k, x = keysD k ∧ Px k := by
  cases x with
  | tuple ds =>
    have h : pageL ds = true := h
    unfold pageL at h
    simp only [Bool.and_eq_true] at h
    obtain ⟨⟨h3, hd⟩, ⟨hn, hs, hkd⟩, hr⟩ := h
    have h3 : 3 ≤ (ds.length : Int) := of_decide_eq_true h3
    match ds, h3 with
    | a :: b :: c :: r, _ =>
      rw [at0] at hd hr
      rw [at1] at hn
      rw [at2] at hs hkd hr
      obtain ⟨i, rk, hi, ek, er, es⟩ := rest_k hkd hr
      have er : r = rk.map keyD := er
      have e1 := num_of (toB_num hd)
      have e2 := num_of (toB_num hn)
      have e3 := str_of hs
      rw [ek] at e3
      refine ⟨.inl (Vx.intD a) :: .inl (Vx.intD b) :: .inr (kn i) :: rk, ?_, _, _, i, rk, rfl, hi, es⟩
      rw [e1, e2, e3, er]
      rfl
    | [], h3 => simp at h3
    | [_], h3 => simp at h3
    | [_, _], h3 => simp at h3
  | _ => exact absurd h (by simp [pageD])
theorem pages_k : ∀ {ds : List D}, ds.all pageD = true → ∃ ks : List (List Key), ds = pgsD ks ∧ ∀ k ∈ ks, Px k
  | [], _ => ⟨[], rfl, nofun⟩
  | d :: ds, h => by
    rw [List.all_cons, Bool.and_eq_true] at h
    obtain ⟨k, rfl, hk⟩ := page_k h.1
    obtain ⟨ks, rfl, hks⟩ := pages_k h.2
    exact ⟨k :: ks, rfl, all_cons hk hks⟩
end
section
open PySem.W hiding keyD
open PyProof.Rows
def stepK (ks : List (List Key)) (j : Nat) : Bool := dLt (pl (ks.getD j [])) (pl (ks.getD (j + 1) []))
def upK (ks : List (List Key)) : Bool := (List.range (ks.length - 1)).all (stepK ks)
theorem px_getD {ks : List (List Key)} (h : ∀ k ∈ ks, Px k) {j : Nat} (hj : j < ks.length) : Px (ks.getD j []) ∧ (pgsD ks)[j]? = some (keysD (ks.getD j [])) ∧ (ks.map pkey)[j]? = some (.tuple (pl (ks.getD j []))) := by
  have e : ks.getD j [] = ks[j] := by rw [List.getD_eq_getElem?_getD, List.getElem?_eq_getElem hj]; rfl
  have hp := h _ (List.getElem_mem hj)
  refine ⟨e ▸ hp, ?_, ?_⟩
  · rw [List.getElem?_map, List.getElem?_eq_getElem hj, e]; rfl
  · rw [List.getElem?_map, List.getElem?_eq_getElem hj, e, ← hp.pl]; rfl
theorem isp_c {ds : List D} (h : ∀ d ∈ ds, Gq d) (hl : ds.length ≤ 1000000) : Ev (wPrim .all (aCons (wComp (iE (wVar 0)) [1] (.v 1) cAll (wCall (ar 1 F_is_page) (aCons (wVar 1) aNil))) aNil)) [some (.d (.tuple ds)), none, none] (.bool (ds.all pageD)) :=
  e_allC (sv_e (e_var (x := .tuple ds) (by rfl)) rfl) True.intro (by show 1 < 3; omega) hl fun x hx => e_call (a_co (e_var (x := x) (by rfl)) a_no) (page_r (h x hx)) (by rfl)
theorem up_c {ks : List (List Key)} (h : ∀ k ∈ ks, Px k) (hl : ks.length ≤ 1000000) : Ev (wPrim .all (aCons (wComp (iR1 (wBin .sub (wPrim .len (aCons (wVar 0) aNil)) (wK (.int 1)))) [2] (.v 2) cAll (wLtN (wCall (ar 1 F_page_place) (aCons (wIx (wVar 0) (wVar 2)) aNil)) (wCall (ar 1 F_page_place) (aCons (wIx (wVar 0) (wBin .add (wVar 2) (wK (.int 1)))) aNil)))) aNil)) [some (.d (.tuple (pgsD ks))), none, none] (.bool (upK ks)) := by
  have el : ((pgsD ks).length : Int) = ks.length := by rw [List.length_map]
  refine Ev.to (e_allC (ds := Vx.upTo 0 (((pgsD ks).length : Int) - 1).toNat) (g := fun d => stepK ks (Vx.intD d).toNat) (sv_r1 (e_bin .sub (Ev.u (e_lenT (Ev.u (e_var (x := .tuple (pgsD ks)) (by rfl))))) (Ev.u e_k) b_subI) (by rw [el]; omega)) True.intro (by show 2 < 3; omega) (by rw [upTo_len]; omega) fun x hx => ?_) ?_
  · obtain ⟨j, hj, rfl⟩ := upTo_mem hx
    rw [el] at hj
    obtain ⟨p1, g1, -⟩ := px_getD h (j := j) (by omega)
    obtain ⟨p2, g2, -⟩ := px_getD h (j := j + 1) (by omega)
    have e0 : ((0 : Int) + (j : Int)) = (j : Int) := by omega
    have e1 : ((j : Int) + 1) = ((j + 1 : Nat) : Int) := by omega
    rw [e0]
    show Ev _ [some (.d (.tuple (pgsD ks))), none, some (.d (.int (j : Int)))] (.bool (stepK ks (j : Int).toNat))
    rw [Int.toNat_natCast]
    refine e_ltN (Ev.u (Ev.to (e_call (a_co (e_ixT (e_var (x := .tuple (pgsD ks)) (by rfl)) (Ev.u (e_var (by rfl))) (at_nat g1)) a_no) (pplace_x p1) (by rfl)) (by rw [p1.pl]))) (Ev.u (Ev.to (e_call (a_co (e_ixT (n := ((j + 1 : Nat) : Int)) (e_var (x := .tuple (pgsD ks)) (by rfl)) (Ev.u (Ev.to (e_bin .add (Ev.u (e_var (x := .int (j : Int)) (by rfl))) (Ev.u e_k) b_addI) (by rw [e1]))) (at_nat g2)) a_no) (pplace_x p2) (by rfl)) (by rw [p2.pl]))) (lt_px p1 p2)
  · unfold upK Vx.upTo
    rw [List.all_map, el, show ((ks.length : Int) - 1).toNat = ks.length - 1 by omega]
    congr 1
    refine List.all_congr rfl fun j => ?_
    show stepK ks ((0 : Int) + (j : Int)).toNat = stepK ks j
    rw [Int.zero_add, Int.toNat_natCast]
theorem lup_c {ks : List (List Key)} (h : ∀ k ∈ ks, Px k) (hl : ks.length ≤ 1000000) {a : Addr} : Ev (wCmp .eq (wComp (iR2 (wK (.int 1)) (wPrim .len (aCons (wVar 1) aNil))) [4] (.v 4) (cOne (wNot (wLtN (wIx (wVar 1) (wBin .sub (wVar 4) (wK (.int 1)))) (wIx (wVar 1) (wVar 4))))) (wVar 4)) (wLst aNil)) [some (.d (.tuple (pgsD ks))), some (.lst a ((ks.map pkey).map .d)), none, none, none] (.bool (upK ks)) := by
  have el : ((ks.map pkey).length : Int) = ks.length := by rw [List.length_map]
  have ec := e_compF (we := wVar 4) (wt := wNot (wLtN (wIx (wVar 1) (wBin .sub (wVar 4) (wK (.int 1)))) (wIx (wVar 1) (wVar 4)))) (env := [some (.d (.tuple (pgsD ks))), some (.lst a ((ks.map pkey).map .d)), none, none, none]) (i := 4) (ds := Vx.upTo 1 (((ks.map pkey).length : Int) - 1).toNat) (g := fun d => !stepK ks ((Vx.intD d).toNat - 1)) (f := fun d => d) (sv_r2 (wb := wPrim .len (aCons (wVar 1) aNil)) e_k (e_lenL (ds := ks.map pkey) (u_own (by rfl))) (by omega) (by rw [el]; omega)) True.intro (by show 4 < 5; omega) (by rw [upTo_len]; omega) (fun x hx => ?_) (fun x hx _ => e_var (by rfl))
  · refine Ev.to (e_cmp .eq (EvL.u ec) (EvL.u (e_lst a_no (Nat.le_of_ble_eq_true rfl))) (c_eqD (eqOk_of ?_ (by decide)))) ?_
    · rw [List.map_id']
      exact ((G.lst (s := 0) (n := 0) fun d hd => by
        obtain ⟨j, hj, rfl⟩ := upTo_mem (List.mem_filter.mp hd).1
        rw [el] at hj
        exact .int (by
          have := pow_le199
          omega)).mo (by omega)).plain (by omega)
    · rw [List.map_id']
      congr 1
      unfold upK Vx.upTo
      rw [el, show ((ks.length : Int) - 1).toNat = ks.length - 1 by omega]
      have e : ∀ l : List D, PyData.eqv (.list l) (.list []) = l.isEmpty := fun l => by cases l <;> simp [PyData.eqv, PyData.eqvAll]
      rw [e, List.filter_map, List.isEmpty_map]
      have z : ∀ (l : List Nat), (l.filter ((fun d => !stepK ks ((Vx.intD d).toNat - 1)) ∘ fun (i : Nat) => PyData.int (1 + (i : Int)))).isEmpty = l.all (stepK ks) := by
        intro l
        induction l with
        | nil => rfl
        | cons j l ih =>
          rw [List.all_cons, List.filter_cons]
          have ej : ((fun d => !stepK ks ((Vx.intD d).toNat - 1)) ∘ fun (i : Nat) => PyData.int (1 + (i : Int))) j = !stepK ks j := by
            show (!stepK ks ((1 + (j : Int)).toNat - 1)) = _
            rw [show (1 + (j : Int)).toNat - 1 = j by omega]
          rw [ej]
          cases stepK ks j with
          | true => simpa using ih
          | false => rfl
      exact z _
  · obtain ⟨j, hj, rfl⟩ := upTo_mem hx
    rw [el] at hj
    obtain ⟨p1, -, g1⟩ := px_getD h (j := j) (by omega)
    obtain ⟨p2, -, g2⟩ := px_getD h (j := j + 1) (by omega)
    have e0 : (1 + (j : Int)) = ((j + 1 : Nat) : Int) := by omega
    rw [e0]
    show Ev _ [some (.d (.tuple (pgsD ks))), some (.lst a ((ks.map pkey).map .d)), none, none, some (.d (.int ((j + 1 : Nat) : Int)))] (.bool (!stepK ks (((j + 1 : Nat) : Int).toNat - 1)))
    rw [Int.toNat_natCast, Nat.add_sub_cancel]
    refine e_not (e_ltN (Ev.u (e_ixO (n := (j : Int)) (by rfl) (Ev.u (Ev.to (e_bin .sub (Ev.u (e_var (x := .int ((j + 1 : Nat) : Int)) (by rfl))) (Ev.u e_k) b_subI) (by congr 1; omega))) (at_nat g1))) (Ev.u (e_ixO (n := ((j + 1 : Nat) : Int)) (by rfl) (Ev.u (e_var (by rfl))) (at_nat g2))) (lt_px p1 p2))
def keyOfD : D → D
  | .tuple (.int d :: .int n :: .str s :: r) => .tuple [.int d, .int n, .int (knL.idxOf s : Nat), .tuple r]
  | _ => .none
theorem keyOfD_px {k : List Key} (h : Px k) : keyOfD (keysD k) = pkey k := by
  obtain ⟨d, n, i, r, rfl, -, -⟩ := h
  rfl
theorem is_book_r {x : D} (h : Gq x) : ∃ b, RtF F_is_book [x] (.bool b) ∧ RtF F__law_is_book [x] (.bool b) := by
  have no : ∀ {w : WT}, isT .tuple x = false → Ev (wNot (wPrim (.isi .tuple) (aCons (wVar 0) aNil))) [some (.d x), none, none] (.bool true) ∧ Ev (wNot (wPrim (.isi .tuple) (aCons (wVar 0) aNil))) [some (.d x), none, none, none, none] (.bool true) := fun e => ⟨Ev.to (e_not (e_isi (Ev.u (e_var (by rfl))))) (by rw [show decide (Ty.tuple ∈ tyOf x) = false from e]; rfl), Ev.to (e_not (e_isi (Ev.u (e_var (by rfl))))) (by rw [show decide (Ty.tuple ∈ tyOf x) = false from e]; rfl)⟩
  cases et : isT .tuple x with
  | false =>
    obtain ⟨n1, n2⟩ := no (w := wVar 0) et
    refine ⟨false, ?_, ?_⟩
    · unfold F_is_book
      apply rtF
      exact r_ifT (e_orT n1 rfl) rfl (r_ret e_k)
    · unfold F__law_is_book
      apply rtF
      exact r_ifT (e_orT n2 rfl) rfl (r_ret e_k)
  | true =>
    obtain ⟨ds, rfl⟩ : ∃ ds, x = .tuple ds := ⟨_, tup_of et⟩
    have hd : ∀ d ∈ ds, Gq d := fun d hd => GD.kid h (by exact hd)
    have hl : ds.length ≤ 1000000 := Nat.le_trans (GD.len h) (by omega)
    have y1 : Ev (wNot (wPrim (.isi .tuple) (aCons (wVar 0) aNil))) [some (.d (.tuple ds)), none, none] (.bool false) := Ev.to (e_not (e_isi (Ev.u (e_var (x := .tuple ds) (by rfl))))) (by rfl)
    have y2 : Ev (wNot (wPrim (.isi .tuple) (aCons (wVar 0) aNil))) [some (.d (.tuple ds)), none, none, none, none] (.bool false) := Ev.to (e_not (e_isi (Ev.u (e_var (x := .tuple ds) (by rfl))))) (by rfl)
    have f1 := e_not (isp_c hd hl)
    have pne : Ev (wCmp .ne (wComp (iE (wVar 0)) [2] (.v 2) (cOne (wNot (wCall (ar 1 F_is_page) (aCons (wVar 2) aNil)))) (wVar 2)) (wLst aNil)) [some (.d (.tuple ds)), none, none, none, none] (.bool (!ds.all pageD)) := by
      refine Ev.to (e_cmp .ne (EvL.u (e_compF (g := fun d => !pageD d) (f := fun d => d) (sv_e (e_var (x := .tuple ds) (by rfl)) rfl) True.intro (by show 2 < 5; omega) hl (fun x hx => e_not (e_call (a_co (e_var (x := x) (by rfl)) a_no) (page_r (hd x hx)) (by rfl))) fun x hx _ => e_var (by rfl))) (EvL.u (e_lst a_no (Nat.le_of_ble_eq_true rfl))) (c_neD (eqOk_of ?_ (by decide)))) ?_
      · rw [List.map_id']
        exact plain_sub h fun d hd => (List.mem_filter.mp hd).1
      · rw [List.map_id']
        congr 2
        clear h hd hl y1 y2 f1 et no
        induction ds with
        | nil => rfl
        | cons d ds ih =>
          rw [List.all_cons, List.filter_cons]
          cases pageD d with
          | true => simpa using ih
          | false => simp [PyData.eqv, PyData.eqvAll]
    cases ea : ds.all pageD with
    | false =>
      rw [ea] at f1 pne
      refine ⟨false, ?_, ?_⟩
      · unfold F_is_book
        apply rtF
        exact r_ifT (e_orF y1 rfl f1) rfl (r_ret e_k)
      · unfold F__law_is_book
        apply rtF
        exact r_ifT (e_orF y2 rfl pne) rfl (r_ret e_k)
    | true =>
      rw [ea] at f1 pne
      obtain ⟨ks, rfl, hk⟩ := pages_k ea
      have lk : ks.length ≤ 1000000 := by rw [List.length_map] at hl; exact hl
      refine ⟨upK ks, ?_, ?_⟩
      · unfold F_is_book
        apply rtF
        exact r_ifF (e_orF y1 rfl f1) rfl (r_ret (up_c hk lk))
      · unfold F__law_is_book
        apply rtF
        refine r_ifF (e_orF y2 rfl pne) rfl ?_
        apply r_asgL (ds := ks.map pkey)
        · refine EvL.to (e_comp (f := fun d => keyOfD d) (sv_e (e_var (x := .tuple (pgsD ks)) (by rfl)) rfl) True.intro (by show 3 < 5; omega) hl fun x hx => ?_) ?_
          · obtain ⟨k, hk2, rfl⟩ := List.mem_map.mp hx
            rw [keyOfD_px (hk k hk2)]
            exact e_call (a_co (e_var (x := keysD k) (by rfl)) a_no) (lkey_x (hk k hk2)) (by rfl)
          · rw [List.map_map]
            exact List.map_congr_left fun k hk2 => keyOfD_px (hk k hk2)
        · show 1 < 5; omega
        intro a
        exact r_ret (lup_c hk lk)
theorem lt_of_le_ne {k k' : List Key} (h : Pg k) (h' : Pg k') (a : pgLe k k' = true) (hn : k ≠ k') : dLt (pl k) (pl k') = true := by
  have e1 := h.x.pl
  have e2 := h'.x.pl
  cases q : dLt (pl k) (pl k') with
  | true => rfl
  | false =>
    refine absurd (pg_anti h h' a ?_) hn
    show (!(listOrd itemOrd).blt (keyToks (pkey k)) (keyToks (pkey k'))) = true
    rw [e1, e2]
    have z : (listOrd itemOrd).blt (keyToks (.tuple (pl k))) (keyToks (.tuple (pl k'))) = dLt (pl k) (pl k') := by
      unfold dLt
      simp only [keyToks]
    rw [z, q]; rfl
theorem upK_bk {b : List (List Key)} (h : IsBk b) : upK b = true := by
  unfold upK
  refine List.all_eq_true.mpr fun j hj => ?_
  have hj : j < b.length - 1 := List.mem_range.mp hj
  have h1 : j < b.length := by omega
  have h2 : j + 1 < b.length := by omega
  unfold stepK
  rw [List.getD_eq_getElem?_getD, List.getD_eq_getElem?_getD, List.getElem?_eq_getElem h1, List.getElem?_eq_getElem h2]
  refine lt_of_le_ne (h.pg _ (List.getElem_mem h1)) (h.pg _ (List.getElem_mem h2)) (List.pairwise_iff_getElem.mp h.pw j (j + 1) h1 h2 (by omega)) fun e => ?_
  have := List.pairwise_iff_getElem.mp h.nd j (j + 1) h1 h2 (by omega)
  exact this e
theorem is_book_t {b : List (List Key)} (h : IsBk b) (hpd : ∀ k ∈ b, pageD (keysD k) = true) (hl : b.length ≤ 1000) : RtF F_is_book [.tuple (pgsD b)] (.bool true) := by
  have hd : ∀ d ∈ pgsD b, Gq d := fun d hd => by
    obtain ⟨k, hk, rfl⟩ := List.mem_map.mp hd
    have := gd_pg (h.pg k hk)
    exact GDof this.1 (by omega) (by omega) this.2 (by omega)
  have hp : (pgsD b).all pageD = true := List.all_eq_true.mpr fun d hd => by
    obtain ⟨k, hk, rfl⟩ := List.mem_map.mp hd
    exact hpd k hk
  have f1 := e_not (isp_c hd (by rw [List.length_map]; omega))
  rw [hp] at f1
  unfold F_is_book
  apply rtF
  refine r_ifF (e_orF (Ev.to (e_not (e_isi (Ev.u (e_var (x := .tuple (pgsD b)) (by rfl))))) (by rfl)) rfl f1) rfl (r_ret (Ev.to (up_c (fun k hk => (h.pg k hk).x) (by omega)) (by rw [upK_bk h])))
end
section
open PySem.W hiding keyD
open PyProof.Rows
theorem v_own {env : Vx.Env} {i : Nat} {a : Addr} {xs : List O} {PX : Exn → Vx.Env → Prop} {P : W → Vx.Env → Prop} (h : env[i]? = some (some (.lst a xs))) (q : P (.al a i []) env) : wVar i PX env P := v_obj h q
theorem setW_own {env : Vx.Env} {i : Nat} {a : Addr} {ds : List D} {n : Int} {d : D} {Q : Vx.Env → Prop} (he : env[i]? = some (some (.lst a (ds.map O.d)))) (h0 : 0 ≤ n) (h1 : n < (ds.length : Int)) (q : Q (env.set i (some (.lst a ((ds.set n.toNat d).map O.d))))) : setW (.al a i []) (.o (.d (.int n))) (.d d) env Q := by
  have ee : envAt env i [] = some (.lst a (ds.map O.d)) := by unfold envAt; simp only [he]; rfl
  unfold setW
  simp only [ee]
  refine ⟨trivial, useO ?_⟩
  show onSome (ixN (ds.map O.d).length n) _
  refine onSome_mk (x := n.toNat) (ixN_int h0 (by rw [List.length_map]; exact h1)) ?_
  rw [envPut_eq he]
  rw [List.map_set] at q
  exact q
theorem nx_swap {wt wo wi wo2 wi2 : WT} {u : WS} {PX : Exn → Vx.Env → Prop} {env : Vx.Env} {k : Kt} {x y : D} (ht : Ev wt env (.tuple [x, y])) (h : wo PX env fun t env2 => wi PX env2 fun n env3 => setW t n (.d x) env3 fun env4 => wo2 PX env4 fun t2 env5 => wi2 PX env5 fun n2 env6 => setW t2 n2 (.d y) env6 fun env7 => Nx u PX env7 k) : Nx (sCons (sSwap wt wo wi wo2 wi2) u) PX env k := nx_in (by
  have e : (fun env5 => Nx u PX env5 k) = fun env5 => u PX env5 k := by funext env5; exact nx_eq
  rw [e] at h
  exact ht _ _ h)
theorem nx_revE {u : WS} {PX : Exn → Vx.Env → Prop} {env : Vx.Env} {k : Kt} {i : Nat} {a : Addr} {ds : List D} (he : env[i]? = some (some (.lst a (ds.map O.d)))) (h : Nx u PX (env.set i (some (.lst a (ds.reverse.map O.d)))) k) : Nx (sCons (sExpr (wReverse (wVar i))) u) PX env k := by
  refine nx_expr ?_
  have e : envAt env i [] = some (.lst a (ds.map O.d)) := by unfold envAt; simp only [he]; rfl
  unfold wReverse
  refine v_own he ?_
  simp only [e]
  refine ⟨trivial, ?_⟩
  rw [envPut_eq he]
  rw [List.map_reverse] at h
  exact h
theorem nx_insR {wl : WA} {u : WS} {PX : Exn → Vx.Env → Prop} {env : Vx.Env} {k : Kt} {i : Nat} {a : Addr} {ds : List D} (he : env[i]? = some (some (.lst a (ds.map O.d)))) (h : wl PX env fun ws env2 => match ws with
    | [.o (.d (.int n)), .o (.d d)] => match envAt env2 i [] with
      | some (.obj b .lst xs) => b = a ∧ onSome (datas xs) fun ds => 0 ≤ n ∧ n < 1000000 ∧ ds.length < sizeLine ∧ Nx u PX (envPut env2 i [] (.lst b ((insAtD ds n d).map O.d))) k
      | _ => False
    | _ => False) : Nx (sCons (sExpr (wInsert (wVar i) wl)) u) PX env k := by
  refine nx_expr ?_
  unfold wInsert
  unfold wVar
  simp only [he]
  have e : envAt env i [] = some (.lst a (ds.map O.d)) := by unfold envAt; simp only [he]; rfl
  refine ⟨?_, ?_⟩
  · unfold Vx.listAt
    simp only [e]
  exact h
theorem ins_go {env2 : Vx.Env} {i : Nat} {a : Addr} {ds : List D} {n : Int} {d : D} {Q : Vx.Env → Prop} (he : env2[i]? = some (some (.lst a (ds.map O.d)))) (h0 : 0 ≤ n) (h1 : n < 1000000) (hl : ds.length ≤ 1000000) (q : Q (env2.set i (some (.lst a ((insAtD ds n d).map O.d))))) :
    match envAt env2 i [] with
      | some (.obj b .lst xs) => b = a ∧ onSome (datas xs) fun ds => 0 ≤ n ∧ n < 1000000 ∧ ds.length < sizeLine ∧ Q (envPut env2 i [] (.lst b ((insAtD ds n d).map O.d)))
      | _ => False := by
  have e : envAt env2 i [] = some (.lst a (ds.map O.d)) := by unfold envAt; simp only [he]; rfl
  rw [e]
  refine ⟨rfl, onSome_mk (datas_map ds) ⟨h0, h1, small hl, ?_⟩⟩
  unfold envPut
  simp only [he]
  exact q
def Fin9 (L : List D) : Prop := (∀ d ∈ L, G 1 3 d) ∧ PyData.weightAll L ≤ 166000
theorem fin_pgs {ks : List (List Key)} (h : ∀ k ∈ ks, Pg k) (hl : ks.length ≤ 101) : Fin9 (pgsD ks) := by
  refine ⟨fun d hd => ?_, ?_⟩
  · obtain ⟨k, hk, rfl⟩ := List.mem_map.mp hd
    exact (gd_pg (h k hk)).1.mono (by omega) (by omega)
  · have := wt_all (w := 1407) (ds := pgsD ks) fun d hd => by
      obtain ⟨k, hk, rfl⟩ := List.mem_map.mp hd
      exact (gd_pg (h k hk)).2
    rw [List.length_map] at this
    have : (1407 + 1) * ks.length ≤ 1408 * 101 := Nat.mul_le_mul_left _ hl
    omega
theorem fin_ins {b : List (List Key)} {p : List Key} {n : Int} (h : ∀ k ∈ b, Pg k) (hp : Pg p) (hl : b.length ≤ 100) : Fin9 (insAtD (pgsD b) n (keysD p)) := by
  have e : insAtD (pgsD b) n (keysD p) = pgsD (b.take n.toNat ++ [p] ++ b.drop n.toNat) := by
    unfold insAtD
    rw [← List.map_take, ← List.map_drop, pgs_app, pgs_app]; rfl
  rw [e]
  refine fin_pgs (all_app (all_app (fun k hk => h k (List.mem_of_mem_take hk)) (all_one hp)) fun k hk => h k (List.mem_of_mem_drop hk)) ?_
  rw [List.length_append, List.length_append, List.length_take, List.length_drop, List.length_singleton]
  omega
theorem fin_set {b : List (List Key)} (h : ∀ k ∈ b, Pg k) (hl : b.length ≤ 100) {j : Nat} {d : D} (hj : j < b.length) (hd : G 1 3 d) (hw : d.weight ≤ 2 * 1407 + 20000) : Fin9 ((pgsD b).set j d) := by
  refine ⟨fun x hx => ?_, ?_⟩
  · rcases List.mem_or_eq_of_mem_set hx with hx | rfl
    · exact (fin_pgs h (by omega)).1 x hx
    · exact hd
  · have hj2 : j < (pgsD b).length := by rw [List.length_map]; exact hj
    have z := wt_split (List.getElem?_eq_getElem hj2)
    have q : PyData.weightAll (pgsD b) ≤ 1408 * 100 := by
      have := (gd_book h hl).2
      rw [wt_tup] at this
      exact this
    rw [List.set_eq_take_append_cons_drop, if_pos hj2, wt_app, wt_cons]
    omega
theorem fin_gd {L : List D} (h : Fin9 L) : GD 170000 (.tuple L) ∧ GD 170000 (.list L) := ⟨GDof (.tup h.1) (by omega) (by omega) (by rw [wt_tup]; exact h.2) (by omega), GDof (.lst h.1) (by omega) (by omega) (by rw [wt_lst]; exact h.2) (by omega)⟩
theorem pgs_at {b : List (List Key)} {n : Int} (h0 : 0 ≤ n) (h1 : n < (b.length : Int)) : ∃ k, b[n.toNat]? = some k ∧ atI (pgsD b) n = some (keysD k) := by
  obtain ⟨j, k, rfl, hk, e⟩ := at_draw (f := keysD) h0 h1
  exact ⟨k, by simpa using hk, e⟩
abbrev slE (a : Addr) (xs : List O) (b : List (List Key)) (ys : List Str) (y3 y4 y5 y6 : Option O) : Vx.Env := [some (fd a xs), some (.d (.tuple (pgsD b))), some (.d (namD ys)), y3, y4, y5, y6]
theorem spoilt_ok {a : Addr} {xs : List O} {ys : List Str} {b : List (List Key)} {n : Nat} {P : O → List O → Prop} {PX : Exn → List O → Prop} (hy : Nm ys) (hb : ∀ k ∈ b, Pg k) (hl : b.length ≤ 100) (h1b : 0 < b.length) (ht : Feed xs n) (hn : n < 50000)
    (h : ∀ x xs', GD 170000 x → Feed xs' (n + 40) → P (.d x) [fd a xs', .d (.tuple (pgsD b)), .d (namD ys)]) : F__law_spoilt [fd a xs, .d (.tuple (pgsD b)), .d (namD ys)] P PX := by
  unfold F__law_spoilt
  refine sem_go fun k X hk => ?_
  show Nx w__law_spoilt_0 X (slE a xs b ys none none none none) k
  have elen : ∀ {xs' : List O} {y3 y4 y5 y6 : Option O}, Ev (wPrim .len (aCons (wVar 1) aNil)) (slE a xs' b ys y3 y4 y5 y6) (.int b.length) := Ev.to (e_lenT (ds := pgsD b) (Ev.u (e_var (by rfl)))) (by rw [List.length_map])
  refine nx_par (a_cs (w_draw ht (by rfl) e_k (by omega) (by omega) (by omega) fun way xs1 w0 w1 ht1 => ?_))
  refine a_cs (w_draw ht1 (by rfl) elen (by omega) (by omega) (by omega) fun at_ xs2 a0 a1 ht2 => ?_)
  trivial
  show Nx w__law_spoilt_1 X (slE a xs2 b ys (some (.d (.int way))) (some (.d (.int at_))) none none) k
  refine nx_asg (w_draw ht2 (by rfl) elen (by omega) (by omega) (by omega) fun to_ xs3 t0 t1 ht3 => ?_)
  refine ⟨by show 5 < 7; omega, ?_⟩
  show Nx w__law_spoilt_2 X (slE a xs3 b ys (some (.d (.int way))) (some (.d (.int at_))) (some (.d (.int to_))) none) k
  apply nx_asgLE
  · exact e_listT (ds := pgsD b) (Ev.u (e_var (by rfl)))
  · rfl
  intro c
  have eW : ∀ {xs' : List O} {y6 : Option O}, Ev (wVar 3) (slE a xs' b ys (some (.d (.int way))) (some (.d (.int at_))) (some (.d (.int to_))) y6) (.int way) := e_var (by rfl)
  have eA : ∀ {xs' : List O} {y6 : Option O}, Ev (wVar 4) (slE a xs' b ys (some (.d (.int way))) (some (.d (.int at_))) (some (.d (.int to_))) y6) (.int at_) := e_var (by rfl)
  have eT : ∀ {xs' : List O} {y6 : Option O}, Ev (wVar 5) (slE a xs' b ys (some (.d (.int way))) (some (.d (.int at_))) (some (.d (.int to_))) y6) (.int to_) := e_var (by rfl)
  have eB : ∀ {xs' : List O} {y6 : Option O}, Ev (wVar 1) (slE a xs' b ys (some (.d (.int way))) (some (.d (.int at_))) (some (.d (.int to_))) y6) (.tuple (pgsD b)) := e_var (by rfl)
  have S : ∀ (L : List D) (xs' : List O) (u : WS) (k' : Kt), True := fun _ _ _ _ => trivial
  obtain ⟨ka, hka, ea⟩ := pgs_at a0 a1
  obtain ⟨kt, hkt, et⟩ := pgs_at t0 t1
  have pka := hb ka (List.mem_of_getElem? hka)
  have pkt := hb kt (List.mem_of_getElem? hkt)
  have iA : ∀ {xs' : List O} {y6 : Option O}, Ev (wIx (wVar 1) (wVar 4)) (slE a xs' b ys (some (.d (.int way))) (some (.d (.int at_))) (some (.d (.int to_))) y6) (keysD ka) := e_ixT eB (Ev.u eA) ea
  have iT : ∀ {xs' : List O} {y6 : Option O}, Ev (wIx (wVar 1) (wVar 5)) (slE a xs' b ys (some (.d (.int way))) (some (.d (.int at_))) (some (.d (.int to_))) y6) (keysD kt) := e_ixT eB (Ev.u eT) et
  have lb : ((pgsD b).length : Int) = b.length := by rw [List.length_map]
  have f0 := fin_pgs hb (by omega)
  have e13 : ∀ (L : List D) (xs' : List O), Fin9 L → Feed xs' (n + 40) → Nx w__law_spoilt_13 X (slE a xs' b ys (some (.d (.int way))) (some (.d (.int at_))) (some (.d (.int to_))) (some (.lst c (L.map .d)))) k := by
    intro L xs' hL hf
    refine nx_ifE (p := decide (way = 5)) (e_cmp .eq (Ev.u eW) (Ev.u e_k) c_eqI) (ifB (fun g => ?_) fun g => ?_)
    · refine nx_ret (w_frzO (by rfl) ?_)
      show k.rt _ _
      refine rt_go hk ?_
      trivial
      exact h (.list L) xs' (fin_gd hL).2 hf
    refine nx_nil ?_
    have hcut := cutD_len (xs := pgsD b) (lo := none) (hi := some at_)
    apply nx_retE (v := if decide (way < 6) = true then .tuple L else .tuple (cutD (pgsD b) none (some at_) ++ cutD (pgsD b) (some (at_ + 1)) none))
    · exact e_frz (e_ife (e_cmp .lt (Ev.u eW) (Ev.u e_k) c_lt) (fun _ => e_tuple (u_own (by rfl))) fun _ => e_bin .add (Ev.u (e_slT (Ev.u eB) ov_no (ov_so eA))) (Ev.u (e_slT (Ev.u eB) (ov_so (e_bin .add (Ev.u eA) (Ev.u e_k) b_addI)) ov_no)) (b_addT (by
        have := cutD_len (xs := pgsD b) (lo := some (at_ + 1)) (hi := none)
        rw [List.length_map] at this hcut
        omega)))
    refine rt_go hk ?_
    trivial
    refine h _ xs' ?_ hf
    split
    · exact (fin_gd hL).1
    · have z := wt_cut2 (ds := pgsD b) a0 (show at_ ≤ at_ + 1 by omega)
      refine (fin_gd ⟨all_app (all_cut f0.1) (all_cut f0.1), ?_⟩).1
      rw [wt_app]
      have := f0.2
      omega
  have e11 : ∀ (L : List D) (xs' : List O), (L = pgsD b ∨ (way < 4 ∧ Fin9 L)) → Feed xs' (n + 15) → Nx w__law_spoilt_11 X (slE a xs' b ys (some (.d (.int way))) (some (.d (.int at_))) (some (.d (.int to_))) (some (.lst c (L.map .d)))) k := by
    intro L xs' hL hf
    refine nx_ifE (p := decide (way = 4)) (e_cmp .eq (Ev.u eW) (Ev.u e_k) c_eqI) (ifB (fun g => ?_) fun g => ?_)
    · have g := of_decide_eq_true g
      obtain rfl : L = pgsD b := hL.elim id fun h => by omega
      refine nx_set (w_call2 (v_obj (kd := .lst) (xs := xs') (by rfl) (iA _ _ (callV_2 (R := fun r xs2 => ∃ d, r = .d d ∧ G 1 3 d ∧ d.weight ≤ 2 * 1407 + 20000 ∧ Feed xs2 (n + 40)) (by rfl) (fun Q QX q => bent_ok 4 (s := 0) (dn := 1) hf (by omega) (by omega) (gd_pg pka).1 (by omega) (by omega) (by omega) (by have := (gd_pg pka).2; omega) fun d xs' h1 h2 h3 => q _ _ ⟨d, rfl, h1, by have := (gd_pg pka).2; omega, h3.mono (by omega)⟩) fun r xs4 hr => ?_))))
      obtain ⟨d, rfl, hd1, hd2, hf2⟩ := hr
      unfold inW
      refine v_own (a := c) (xs := (pgsD b).map .d) (by rfl) ?_
      refine eA _ _ ?_
      refine setW_own (by rfl) a0 (by rw [lb]; exact a1) ?_
      refine nx_nil ?_
      exact e13 _ xs4 (fin_set hb hl (by omega) hd1 hd2) hf2
    · refine nx_nil ?_
      refine e13 L xs' (hL.elim (fun e => e ▸ f0) fun e => e.2) (hf.mono (by omega))
  have e9 : ∀ (L : List D) (xs' : List O), (L = pgsD b ∨ (way < 3 ∧ Fin9 L)) → Feed xs' (n + 15) → Nx w__law_spoilt_9 X (slE a xs' b ys (some (.d (.int way))) (some (.d (.int at_))) (some (.d (.int to_))) (some (.lst c (L.map .d)))) k := by
    intro L xs' hL hf
    refine nx_ifE (p := decide (way = 3)) (e_cmp .eq (Ev.u eW) (Ev.u e_k) c_eqI) (ifB (fun g => ?_) fun g => ?_)
    · have g := of_decide_eq_true g
      obtain rfl : L = pgsD b := hL.elim id fun h => by omega
      refine nx_revE (i := 6) (ds := pgsD b) (by rfl) ?_
      refine nx_nil ?_
      refine e11 _ xs' (.inr ⟨by omega, ?_⟩) hf
      rw [← List.map_reverse]
      exact fin_pgs (fun k hk => hb k (List.mem_reverse.mp hk)) (by rw [List.length_reverse]; omega)
    · exact nx_nil (e11 L xs' (hL.imp id fun e => ⟨by omega, e.2⟩) hf)
  have e7 : ∀ (L : List D) (xs' : List O), (L = pgsD b ∨ (way < 2 ∧ Fin9 L)) → Feed xs' (n + 3) → Nx w__law_spoilt_7 X (slE a xs' b ys (some (.d (.int way))) (some (.d (.int at_))) (some (.d (.int to_))) (some (.lst c (L.map .d)))) k := by
    intro L xs' hL hf
    refine nx_ifE (p := decide (way = 2)) (e_cmp .eq (Ev.u eW) (Ev.u e_k) c_eqI) (ifB (fun g => ?_) fun g => ?_)
    · have g := of_decide_eq_true g
      obtain rfl : L = pgsD b := hL.elim id fun h => by omega
      refine nx_insR (i := 6) (a := c) (ds := pgsD b) (by rfl) ?_
      refine a_cs (eA _ _ (a_cs (w_call2 (v_obj (kd := .lst) (xs := xs') (by rfl) ((e_var (x := namD ys) (by rfl)) _ _ (callV_2 (R := fun r xs2 => ∃ k, r = .d (keysD k) ∧ Pg k ∧ Feed xs2 (n + 15)) (by rfl) (fun Q QX q => some_page_ok hy hf (by omega) fun k xs2 hk _ hf => q _ _ ⟨k, rfl, hk, hf⟩) fun r xs4 hr => ?_))))))
      obtain ⟨p, rfl, hp, hf2⟩ := hr
      refine ins_go (d := keysD p) (Q := fun e => Nx sNil X e { nx := fun env2 => Nx w__law_spoilt_9 X env2 k, rt := k.rt, bk := k.bk, ct := k.ct }) (env2 := slE a xs4 b ys (some (.d (.int way))) (some (.d (.int at_))) (some (.d (.int to_))) (some (.lst c ((pgsD b).map .d)))) (i := 6) (a := c) (ds := pgsD b) (by rfl) a0 (by omega) (by rw [List.length_map]; omega) ?_
      refine nx_nil ?_
      exact e9 _ xs4 (.inr ⟨by omega, fin_ins hb hp hl⟩) hf2
    · exact nx_nil (e9 L xs' (hL.imp id fun e => ⟨by omega, e.2⟩) (hf.mono (by omega)))
  have e5 : ∀ (L : List D) (xs' : List O), (L = pgsD b ∨ (way < 1 ∧ Fin9 L)) → Feed xs' (n + 3) → Nx w__law_spoilt_5 X (slE a xs' b ys (some (.d (.int way))) (some (.d (.int at_))) (some (.d (.int to_))) (some (.lst c (L.map .d)))) k := by
    intro L xs' hL hf
    refine nx_ifE (p := decide (way = 1)) (e_cmp .eq (Ev.u eW) (Ev.u e_k) c_eqI) (ifB (fun g => ?_) fun g => ?_)
    · have g := of_decide_eq_true g
      obtain rfl : L = pgsD b := hL.elim id fun h => by omega
      refine nx_insE (i := 6) (ds := pgsD b) eT iA (by rfl) t0 (by omega) (by rw [List.length_map]; omega) ?_
      refine nx_nil ?_
      exact e7 _ xs' (.inr ⟨by omega, fin_ins hb pka hl⟩) hf
    · exact nx_nil (e7 L xs' (hL.imp id fun e => ⟨by omega, e.2⟩) hf)
  show Nx w__law_spoilt_3 X (slE a xs3 b ys (some (.d (.int way))) (some (.d (.int at_))) (some (.d (.int to_))) (some (.lst c ((pgsD b).map .d)))) k
  refine nx_ifE (p := decide (way = 0)) (e_cmp .eq (Ev.u eW) (Ev.u e_k) c_eqI) (ifB (fun g => ?_) fun g => ?_)
  · have g := of_decide_eq_true g
    refine nx_swap (e_tup (a_co iT (a_co iA a_no)) (Nat.le_of_ble_eq_true rfl)) ?_
    refine v_own (i := 6) (a := c) (xs := (pgsD b).map .d) (by rfl) (eA _ _ (setW_own (ds := pgsD b) (by rfl) a0 (by rw [lb]; exact a1) ?_))
    refine v_own (a := c) (xs := ((pgsD b).set at_.toNat (keysD kt)).map .d) (by rfl) (eT _ _ (setW_own (ds := (pgsD b).set at_.toNat (keysD kt)) (by rfl) t0 (by rw [List.length_set, lb]; exact t1) ?_))
    refine nx_nil ?_
    refine e5 _ xs3 (.inr ⟨by omega, ?_⟩) ht3
    rw [← List.map_set, ← List.map_set]
    refine fin_pgs (fun k hk => ?_) (by rw [List.length_set, List.length_set]; omega)
    rcases List.mem_or_eq_of_mem_set hk with hk | rfl
    · rcases List.mem_or_eq_of_mem_set hk with hk | rfl
      · exact hb k hk
      · exact pkt
    · exact pka
  · exact nx_nil (e5 _ xs3 (.inl rfl) ht3)
end
section
open PySem.W hiding keyD
open PyProof.Rows
theorem sm_keys {k : List Key} (h : Pg k) : Sm 1 (keysD k) := .tup (fun d hd => by
  obtain ⟨x, _, rfl⟩ := List.mem_map.mp hd
  cases x
  · exact .int
  · exact .str) (by rw [List.length_map]; have := h.len; omega)
theorem sm_book {b : List (List Key)} (h : ∀ k ∈ b, Pg k) (hl : b.length ≤ 1000) : Sm 2 (.tuple (pgsD b)) := .tup (fun d hd => by
  obtain ⟨k, hk, rfl⟩ := List.mem_map.mp hd
  exact sm_keys (h k hk)) (by rw [List.length_map]; omega)
theorem e_same {wa wb : WT} {env : Vx.Env} {x : D} {n : Nat} (ha : Ev wa env x) (hb : Ev wb env x) (h : Sm n x) (hn : n < 5) : Ev (wCall (ar 2 (F__law_same 5)) (aCons wa (aCons wb aNil))) env (.bool true) := e_call (a_co ha (a_co hb a_no)) (same_r h hn) (by rfl)
theorem stpL_map {α β : Type} {f : α → β} {m : Nat} (b : List α) : stpL m (b.map f) = (stpL m b).map f := by
  unfold stpL
  rw [List.length_map, List.map_filterMap]
  congr 1
  funext k
  rw [List.getElem?_map]
theorem in_order_own {ts : List (List Key)} {a : Addr} {P : O → List O → Prop} {PX : Exn → List O → Prop} (h : ∀ k ∈ ts, Pg k) (hl : ts.length ≤ 1000000) (q : P (.d (.tuple (pgsD (bookOf ts)))) [.lst a ((pgsD ts).map .d)]) : F_in_order [.lst a ((pgsD ts).map .d)] P PX := by
  unfold F_in_order
  refine sem_go fun k X hk => ?_
  have hu : ∀ k ∈ uniqK ts, Pg k := fun k hk => h k (uniqK_mem.mp hk)
  refine nx_in ⟨ts, (uniqK ts).map pkey, .inr (.inr ⟨a, rfl⟩), hl, rfl, ⟨by rw [List.length_map, List.length_map], fun i d c h1 h2 => kz_at (fun k hk => pplace_r (hu k hk)) i d c h1 h2, kz_pg hu⟩, ?_⟩
  rw [sortK_pg]
  refine rt_go hk ?_
  trivial
  exact q
theorem wt_key {x : Key} (h : SmK x) : (keyD x).weight ≤ 20 := by
  cases x with
  | inl i => exact wt_bits (k := 20) (by have : i.natAbs ≤ 1000000 := h; omega) (by omega)
  | inr x =>
    show PyData.weight (.str x) ≤ 20
    rw [wt_str]
    have := h.2
    omega
theorem wt_pg {k : List Key} (h : Pg k) : (keysD k).weight ≤ 147 := by
  show PyData.weight (.tuple (k.map keyD)) ≤ 147
  rw [wt_tup]
  have := wt_all (w := 20) (ds := k.map keyD) fun d hd => by
    obtain ⟨x, hx, rfl⟩ := List.mem_map.mp hd
    exact wt_key (h.sm x hx)
  rw [List.length_map] at this
  have : (20 + 1) * k.length ≤ 21 * 7 := Nat.mul_le_mul_left _ h.len
  omega
theorem wt_pgs {ks : List (List Key)} {m : Nat} (h : ∀ k ∈ ks, Pg k) (hl : ks.length ≤ m) : PyData.weightAll (pgsD ks) ≤ 148 * m := by
  have := wt_all (w := 147) (ds := pgsD ks) fun d hd => by
    obtain ⟨k, hk, rfl⟩ := List.mem_map.mp hd
    exact wt_pg (h k hk)
  rw [List.length_map] at this
  exact Nat.le_trans this (Nat.mul_le_mul_left _ hl)
theorem gd_pgs {ks : List (List Key)} (h : ∀ k ∈ ks, Pg k) (hl : ks.length ≤ 1000) : GD 170000 (.tuple (pgsD ks)) ∧ GD 170000 (.list (pgsD ks)) := by
  have g : ∀ d ∈ pgsD ks, G 0 1 d := fun d hd => by
    obtain ⟨k, hk, rfl⟩ := List.mem_map.mp hd
    exact (gd_pg (h k hk)).1
  have w := wt_pgs h hl
  exact ⟨GDof (.tup g) (by omega) (by omega) (by rw [wt_tup]; exact w) (by omega), GDof (.lst g) (by omega) (by omega) (by rw [wt_lst]; exact w) (by omega)⟩
def lgK (j : Nat) : List Key := [.inl 0, .inl 0, .inr (kn 4), .inl (j : Int)]
theorem pg_rent {m : Int} (h : -1000 ≤ m ∧ m ≤ 1000) : Pg [.inl 0, .inl 0, .inr (kn 4), .inl m] := ⟨⟨0, 0, 4, [.inl m], rfl, by omega, rfl⟩, all_cons (by show (0 : Int).natAbs ≤ 1000000; omega) (all_cons (by show (0 : Int).natAbs ≤ 1000000; omega) (all_cons ⟨plainS_lit (by decide +kernel), by decide +kernel⟩ (all_one (by show m.natAbs ≤ 1000000; omega))))⟩
abbrev lbE (sc : D) (a : Addr) (xs : List O) (ys : List Str) (b : List (List Key)) (y4 y5 y6 y7 y8 y9 y10 y11 y12 : Option O) : Vx.Env := [some (.d sc), some (fd a xs), some (.d (namD ys)), some (.d (.tuple (pgsD b))), y4, y5, y6, y7, y8, y9, y10, y11, y12]
theorem law_end {sc : D} {a : Addr} {xs : List O} {ys : List Str} {b : List (List Key)} {y4 y5 y6 y7 y8 y10 : Option O} {c9 : Addr} {T : List D} {k : Kt} {X : Exn → Vx.Env → Prop} {P : O → List O → Prop} {PX : Exn → List O → Prop}
    (hb : IsBk b) (hpd : ∀ k ∈ b, pageD (keysD k) = true) (lb : b.length ≤ 100) (hT : ∀ d ∈ T, GD 170000 d) (lT : T.length ≤ 100) (hk : KOk k X [.d sc] P PX) (hq : P (.d (.bool true)) [.d sc]) :
    Nx w_law_18 X (lbE sc a xs ys b y4 y5 y6 y7 y8 (some (.lst c9 (T.map .d))) y10 none none) k := by
  have lc := cutD_len (xs := T) (lo := none) (hi := some 1)
  have es : EvS (iE (wBin .add (wVar 9) (wSl (wVar 9) oNone (oSome (wK (.int 1)))))) (lbE sc a xs ys b y4 y5 y6 y7 y8 (some (.lst c9 (T.map .d))) y10 none none) ⟨T ++ cutD T none (some 1), none⟩ := sv_l (e_catL (u_own (by rfl)) (EvL.u (e_slL (u_own (ds := T) (by rfl)) ov_no (ov_so e_k))) (by omega))
  have hM : ∀ d ∈ T ++ cutD T none (some 1), GD 170000 d := all_app hT (all_cut hT)
  generalize T ++ cutD T none (some 1) = M at es hM
  apply nx_forE es
  refine loop_run (s := ⟨M, none⟩) (fun _ env => ∃ y11 y12, env = lbE sc a xs ys b y4 y5 y6 y7 y8 (some (.lst c9 (T.map .d))) y10 y11 y12) (fun _ _ _ => True.intro) ?_ ⟨_, _, rfl⟩ ?_
  · rintro i x env K hx ⟨y11, y12, rfl⟩ hK
    have hx : M[i]? = some x := hx
    have gx := hM x (List.mem_of_getElem? hx)
    refine ⟨by show 11 < 13; omega, ?_⟩
    show Nx w_law_19 X (lbE sc a xs ys b y4 y5 y6 y7 y8 (some (.lst c9 (T.map .d))) y10 (some (.d x)) y12) _
    apply nx_asgE (v := .str (PyData.shown x))
    · exact e_repr (Ev.u (e_var (x := x) (by rfl))) (gx.show (by omega))
    · rfl
    show Nx w_law_20 X (lbE sc a xs ys b y4 y5 y6 y7 y8 (some (.lst c9 (T.map .d))) y10 (some (.d x)) (some (.d (.str (PyData.shown x))))) _
    obtain ⟨t, h1, h2⟩ := is_book_r (gx.mono (by omega))
    refine nx_ifE (p := false) (e_orF (p := false) (e_not (p := true) (e_same (e_call (a_co (e_var (x := x) (by rfl)) a_no) h1 (by rfl)) (e_call (a_co (e_var (x := x) (by rfl)) a_no) h2 (by rfl)) (.bool (n := 0)) (by omega))) rfl (Ev.to (e_cmp .ne (Ev.u (e_repr (Ev.u (e_var (x := x) (by rfl))) (gx.show (by omega)))) (Ev.u (e_var (x := .str (PyData.shown x)) (by rfl))) c_neS) (by rw [decide_eq_true rfl]; rfl))) ?_
    rw [if_neg (by decide)]
    refine nx_nil ?_
    exact nx_nil (hK _ ⟨_, _, rfl⟩)
  · rintro env ⟨y11, y12, rfl⟩
    refine nx_retE (v := .bool true) ?_ (rt_go hk hq)
    refine e_andT (p := true) (e_same (x := .tuple []) (n := 1) ?_ (e_tup a_no (Nat.le_of_ble_eq_true rfl)) (.tup nofun (by show 0 ≤ _; omega)) (by omega)) rfl ?_
    · intro PX P q
      refine w_call1 ((e_lst (vs := []) a_no (Nat.le_of_ble_eq_true rfl)) _ _ fun a2 => ?_)
      unfold callV
      simp only [lendW]
      refine ⟨rfl, rfl, rfl, in_order_own (ts := []) nofun (by show 0 ≤ _; omega) ?_⟩
      rw [show bookOf [] = [] from bookOf_eq IsBk.nil fun _ => Iff.rfl]
      simp only [giveBackW]
      exact q
    · exact Ev.to (e_cmp .is (Ev.u (e_call (a_co (e_var (x := .tuple (pgsD b)) (by rfl)) a_no) (is_book_t hb hpd (by omega)) (by rfl))) (Ev.u e_k) c_isB) (by rfl)
end
section
open PySem.W hiding keyD
open PyProof.Rows
theorem nx_appO {we : WT} {u : WS} {PX : Exn → Vx.Env → Prop} {env : Vx.Env} {k : Kt} {i : Nat} {a : Addr} {xs0 : List O} (he : env[i]? = some (some (.lst a xs0)))
    (h : we PX env fun w env2 => inWs [w] env2 fun os env3 => match os with
    | [o] => match envAt env3 i [] with
      | some (.obj b .lst xs) => b = a ∧ xs.length < sizeLine ∧ Nx u PX (envPut env3 i [] (.lst b (xs ++ [o]))) k
      | _ => False
    | _ => False) : Nx (sCons (sExpr (wAppend (wVar i) (aCons we aNil))) u) PX env k := by
  refine nx_expr ?_
  unfold wAppend
  refine v_obj he ?_
  have e : envAt env i [] = some (.lst a xs0) := by unfold envAt; simp only [he]; rfl
  refine ⟨?_, ?_⟩
  · unfold Vx.listAt
    simp only [e]
  exact h
theorem app_go {u : WS} {PX : Exn → Vx.Env → Prop} {k : Kt} {env2 : Vx.Env} {i : Nat} {a : Addr} {xs : List O} {d : D} (he : env2[i]? = some (some (.lst a xs))) (hl : xs.length ≤ 1000000) (q : Nx u PX (env2.set i (some (.lst a (xs ++ [.d d])))) k) :
    inWs [.o (.d d)] env2 fun os env3 => match os with
    | [o] => match envAt env3 i [] with
      | some (.obj b .lst xs) => b = a ∧ xs.length < sizeLine ∧ Nx u PX (envPut env3 i [] (.lst b (xs ++ [o]))) k
      | _ => False
    | _ => False := by
  have e2 : envAt env2 i [] = some (.lst a xs) := by unfold envAt; simp only [he]; rfl
  show match envAt env2 i [] with
    | some (.obj b .lst xs) => _
    | _ => False
  rw [e2]
  refine ⟨rfl, small hl, ?_⟩
  unfold envPut
  simp only [he]
  exact q
theorem sp_mid {sc : D} {a : Addr} {xs : List O} {ys : List Str} {b : List (List Key)} {y4 y5 y6 y7 y8 : Option O} {c9 : Addr} {T : List D} {n : Nat} {k : Kt} {X : Exn → Vx.Env → Prop} {P : O → List O → Prop} {PX : Exn → List O → Prop}
    (hb : IsBk b) (hy : Nm ys) (hpd : ∀ k ∈ b, pageD (keysD k) = true) (lb : b.length ≤ 100) (hT : ∀ d ∈ T, GD 170000 d) (lT : T.length ≤ 20) (ht : Feed xs n) (hn : n ≤ 20000) (hk : KOk k X [.d sc] P PX) (hq : P (.d (.bool true)) [.d sc]) :
    Nx w_law_15 X (lbE sc a xs ys b y4 y5 y6 y7 y8 (some (.lst c9 (T.map .d))) none none none) k := by
  apply nx_forE (s := ⟨Vx.upTo 0 (12 : Int).toNat, none⟩)
  · exact sv_r1 e_k ⟨by omega, by omega⟩
  refine loop_run (s := ⟨Vx.upTo 0 (12 : Int).toNat, none⟩) (fun i env => ∃ xs2 L y10, env = lbE sc a xs2 ys b y4 y5 y6 y7 y8 (some (.lst c9 (L.map .d))) y10 none none ∧ Feed xs2 (n + 40 * i) ∧ (∀ d ∈ L, GD 170000 d) ∧ L.length ≤ 20 + i) (fun _ _ _ => True.intro) ?_ ⟨xs, T, none, rfl, ht, hT, lT⟩ ?_
  · rintro i x env K hx ⟨xs2, L, y10, rfl, hf, hL, lL⟩ hK
    obtain ⟨hi, rfl⟩ := Vx.upTo_at hx
    have hi : i < 12 := hi
    refine ⟨by show 10 < 13; omega, ?_⟩
    show Nx w_law_16 X (lbE sc a xs2 ys b y4 y5 y6 y7 y8 (some (.lst c9 (L.map .d))) (some (.d (.int (0 + (i : Int))))) none none) _
    have ec : Ev (wCmp .ne (wVar 3) (wTup aNil)) (lbE sc a xs2 ys b y4 y5 y6 y7 y8 (some (.lst c9 (L.map .d))) (some (.d (.int (0 + (i : Int))))) none none) (.bool (!PyData.eqv (.tuple (pgsD b)) (.tuple []))) := e_cmp .ne (Ev.u (e_var (by rfl))) (Ev.u (e_tup a_no (Nat.le_of_ble_eq_true rfl))) (c_neD (eqOk_of (pl_book hb.pg) (by decide)))
    cases b with
    | nil =>
      refine nx_ifE ec ?_
      rw [show (!PyData.eqv (.tuple (pgsD [])) (.tuple [])) = false by decide, if_neg (by decide)]
      refine nx_nil ?_
      exact nx_nil (hK _ ⟨xs2, L, _, rfl, hf.mono (by omega), hL, by omega⟩)
    | cons k0 b =>
      refine nx_ifE ec ?_
      rw [show (!PyData.eqv (.tuple (pgsD (k0 :: b))) (.tuple [])) = true by simp [PyData.eqv, PyData.eqvAll], if_pos rfl]
      refine nx_appO (i := 9) (a := c9) (xs0 := L.map .d) (by rfl) (w_call3 (v_obj (kd := .lst) (xs := xs2) (by rfl) ((e_var (x := .tuple (pgsD (k0 :: b))) (by rfl)) _ _ ((e_var (x := namD ys) (by rfl)) _ _ (callV_3 (R := fun r xs3 => ∃ d, r = .d d ∧ GD 170000 d ∧ Feed xs3 (n + 40 * i + 40)) (by rfl) (fun Q QX q => spoilt_ok hy hb.pg lb (by simp) hf (by omega) fun d xs3 hd hf => q _ _ ⟨d, rfl, hd, hf⟩) fun r xs3 hr => ?_)))))
      obtain ⟨d, rfl, hd, hf2⟩ := hr
      refine app_go (env2 := lbE sc a xs3 ys (k0 :: b) y4 y5 y6 y7 y8 (some (.lst c9 (L.map .d))) (some (.d (.int (0 + (i : Int))))) none none) (i := 9) (a := c9) (xs := L.map .d) (d := d) (by rfl) (by rw [List.length_map]; omega) ?_
      refine nx_nil ?_
      refine nx_nil ?_
      refine hK _ ⟨xs3, L ++ [d], some (.d (.int (0 + (i : Int)))), ?_, hf2.mono (by omega), all_app hL (all_one hd), by rw [List.length_append]; show L.length + 1 ≤ _; omega⟩
      rw [List.map_append]; rfl
  · rintro env ⟨xs2, L, y10, rfl, hf, hL, lL⟩
    exact law_end hb hpd lb hL (by
      have : (Src.mk (Vx.upTo 0 (12 : Int).toNat) none).xs.length = 12 := upTo_len
      omega) hk hq
end
section
open PySem.W hiding keyD
open PyProof.Rows
theorem mk_long : (((Vx.upTo 0 (160 : Int).toNat).map fun d => PyData.tuple [.int 0, .int 0, .str ("rent" : Str), d]) : List D) = pgsD ((List.range 160).map lgK) := by
  unfold Vx.upTo
  rw [List.map_map]
  show _ = List.map keysD (List.map lgK (List.range 160))
  rw [List.map_map]
  refine List.map_congr_left fun j _ => ?_
  show PyData.tuple [.int 0, .int 0, .str "rent", .int (0 + (j : Int))] = keysD (lgK j)
  rw [Int.zero_add]
  rfl
theorem e_tupT {wa : WT} {env : Vx.Env} {ds : List D} (ha : EvU wa env (.tuple ds)) : Ev (wPrim .tuple (aCons wa aNil)) env (.tuple ds) := e_prim _ (us_co ha us_no) fun Q q => q
theorem lgs_pg : ∀ k ∈ (List.range 160).map lgK, Pg k := fun k hk => by
  obtain ⟨j, hj, rfl⟩ := List.mem_map.mp hk
  have := List.mem_range.mp hj
  exact pg_rent (by omega)
theorem law_two {sc : D} {a : Addr} {xs : List O} {ys : List Str} {b : List (List Key)} {y5 : Option O} {c4 : Addr} {ts : List (List Key)} {n : Nat} {k : Kt} {X : Exn → Vx.Env → Prop} {P : O → List O → Prop} {PX : Exn → List O → Prop}
    (hb : IsBk b) (hy : Nm ys) (hpd : ∀ k ∈ b, pageD (keysD k) = true) (lb : b.length ≤ 100) (hts : ∀ k ∈ ts, Pg k) (lts : ts.length ≤ 400) (hmem : ∀ k, k ∈ ts ↔ k ∈ b) (h5 : y5 = none ∨ ∃ d, y5 = some (.d d)) (ht : Feed xs n) (hn : n ≤ 20000) (hk : KOk k X [.d sc] P PX) (hq : P (.d (.bool true)) [.d sc]) :
    Nx w_law_6 X (lbE sc a xs ys b (some (.lst c4 ((pgsD ts).map .d))) y5 none none none none none none none) k := by
  have gts := gd_pgs hts (by omega)
  have ebk : bookOf ts = b := bookOf_eq hb hmem
  have sb := sm_book hb.pg (by omega)
  apply nx_asgE (v := .str (PyData.shown (.list (pgsD ts))))
  · exact e_repr (u_own (by rfl)) (gts.2.show (by omega))
  · rfl
  show Nx w_law_7 X (lbE sc a xs ys b (some (.lst c4 ((pgsD ts).map .d))) y5 (some (.d (.str (PyData.shown (.list (pgsD ts)))))) none none none none none none) k
  refine nx_asg (w_call1 (v_obj (kd := .lst) (xs := (pgsD ts).map .d) (by rfl) (callV_1 (R := fun r xs' => r = .d (.tuple (pgsD b)) ∧ xs' = (pgsD ts).map .d) (by rfl) (fun Q QX q => in_order_own hts (by omega) (q _ _ ⟨by rw [ebk], rfl⟩)) fun r xs' hr => ?_)))
  obtain ⟨rfl, rfl⟩ := hr
  refine ⟨by show 7 < 13; omega, ?_⟩
  show Nx w_law_8 X (lbE sc a xs ys b (some (.lst c4 ((pgsD ts).map .d))) y5 (some (.d (.str (PyData.shown (.list (pgsD ts)))))) (some (.d (.tuple (pgsD b)))) none none none none none) k
  refine nx_ifE (p := false) (e_orF (p := false) (e_not (p := true) (e_same (e_var (x := .tuple (pgsD b)) (by rfl)) (e_var (by rfl)) sb (by omega))) rfl
    (e_orF (p := false) (e_not (p := true) (e_same (Ev.to (e_call (a_co (e_tuple (ds := pgsD ts) (u_own (by rfl))) a_no) (in_order_r hts (by omega) (.inl rfl)) (by rfl)) (by rw [ebk])) (e_var (by rfl)) sb (by omega))) rfl
    (Ev.to (e_cmp .ne (Ev.u (e_repr (u_own (ds := pgsD ts) (by rfl)) (gts.2.show (by omega)))) (Ev.u (e_var (x := .str (PyData.shown (.list (pgsD ts)))) (by rfl))) c_neS) (by rw [decide_eq_true rfl]; rfl)))) ?_
  rw [if_neg (by decide)]
  refine nx_nil ?_
  refine nx_appE (i := 4) (a := c4) (xs := (pgsD ts).map .d) (v := .tuple [.int 0, .int 0, .str "rent", .int 3]) (e_tup (a_co e_k (a_co e_k (a_co e_k (a_co e_k a_no)))) (Nat.le_of_ble_eq_true rfl)) (by rfl) (by rw [List.length_map, List.length_map]; omega) ?_
  generalize hO : (some (O.lst c4 ((pgsD ts).map .d ++ [.d (.tuple [.int 0, .int 0, .str "rent", .int 3])])) : Option O) = y4
  show Nx w_law_11 X ((lbE sc a xs ys b (some (.lst c4 ((pgsD ts).map .d))) y5 (some (.d (.str (PyData.shown (.list (pgsD ts)))))) (some (.d (.tuple (pgsD b)))) none none none none none).set 4 y4) k
  show Nx w_law_11 X (lbE sc a xs ys b y4 y5 (some (.d (.str (PyData.shown (.list (pgsD ts)))))) (some (.d (.tuple (pgsD b)))) none none none none none) k
  have ebr : bookOf b.reverse = b := bookOf_eq hb fun k => List.mem_reverse
  refine nx_ifE (p := false) (e_orF (p := false) (e_not (p := true) (e_same (e_var (x := .tuple (pgsD b)) (by rfl)) (e_var (by rfl)) sb (by omega))) rfl
    (e_not (p := true) (e_same (Ev.to (e_call (a_co (e_tupT (ds := (pgsD b).reverse) (Ev.u (e_revT (ds := pgsD b) (Ev.u (e_var (by rfl)))))) a_no) (in_order_r (ks := b.reverse) (fun k hk => hb.pg k (List.mem_reverse.mp hk)) (by rw [List.length_reverse]; omega) (.inl (congrArg PyData.tuple (List.map_reverse.symm)))) (by rfl)) (by rw [ebr])) (e_var (by rfl)) sb (by omega)))) ?_
  rw [if_neg (by decide)]
  refine nx_nil ?_
  show Nx w_law_13 X (lbE sc a xs ys b y4 y5 (some (.d (.str (PyData.shown (.list (pgsD ts)))))) (some (.d (.tuple (pgsD b)))) none none none none none) k
  generalize (some (O.d (PyData.str (PyData.shown (.list (pgsD ts)))))) = y6
  generalize hlg : (List.range 160).map lgK = lg
  have lg1 : ∀ k ∈ lg, Pg k := hlg ▸ lgs_pg
  have lg2 : lg.length = 160 := by rw [← hlg, List.length_map, List.length_range]
  apply nx_asgE (v := .tuple (pgsD lg))
  · refine e_tuple (EvL.u (EvL.to (e_comp (f := fun d => PyData.tuple [.int 0, .int 0, .str ("rent" : Str), d]) (sv_r1 (n := 160) e_k ⟨by omega, by omega⟩) True.intro (by show 10 < 13; omega) (by rw [upTo_len]; decide) fun x hx => e_tup (a_co e_k (a_co e_k (a_co e_k (a_co (e_var (by rfl)) a_no)))) (Nat.le_of_ble_eq_true rfl)) (by rw [← hlg]; exact mk_long)))
  · rfl
  show Nx w_law_14 X (lbE sc a xs ys b y4 y5 y6 (some (.d (.tuple (pgsD b)))) (some (.d (.tuple (pgsD lg)))) none none none none) k
  have lx := cutD_len (xs := pgsD lg) (lo := some (-1)) (hi := none)
  apply nx_asgLE (ds := [.tuple (pgsD b), .tuple [], .none, .str "a", .list [], .tuple [.tuple []], .tuple (pgsD lg), .tuple (pgsD lg ++ [.tuple [.int 0, .int 0, .str "rent", .int (-1)]]), .tuple (pgsD lg ++ cutD (pgsD lg) (some (-1)) none)])
  · exact e_lst (a_co (e_var (by rfl)) (a_co (e_tup a_no (Nat.le_of_ble_eq_true rfl)) (a_co e_k (a_co e_k (a_co (e_frzL (e_lst a_no (Nat.le_of_ble_eq_true rfl))) (a_co (e_tup (a_co (e_tup a_no (Nat.le_of_ble_eq_true rfl)) a_no) (Nat.le_of_ble_eq_true rfl)) (a_co (e_var (by rfl)) (a_co (e_bin .add (Ev.u (e_var (x := .tuple (pgsD lg)) (by rfl))) (Ev.u (e_tup (a_co (e_tup (a_co e_k (a_co e_k (a_co e_k (a_co (e_neg e_k) a_no)))) (Nat.le_of_ble_eq_true rfl)) a_no) (Nat.le_of_ble_eq_true rfl))) (b_addT (by rw [List.length_map, lg2]; decide))) (a_co (e_bin .add (Ev.u (e_var (x := .tuple (pgsD lg)) (by rfl))) (Ev.u (e_slT (Ev.u (e_var (x := .tuple (pgsD lg)) (by rfl))) (ov_so (e_neg e_k)) ov_no)) (b_addT (by rw [List.length_map] at lx ⊢; omega))) a_no))))))))) (Nat.le_of_ble_eq_true rfl)
  · rfl
  intro c9
  have sml : ∀ {d : D}, (gB 2 d && decide (d.weight ≤ 190)) = true → GD 170000 d := fun h => by
    rw [Bool.and_eq_true] at h
    exact GDof (gB_ok h.1) (by omega) (by omega) (of_decide_eq_true h.2) (by omega)
  have g1 := (gd_pgs hb.pg (by omega)).1
  have g2 := (gd_pgs lg1 (by omega)).1
  obtain ⟨m, hm, em⟩ : ∃ m : List (List Key), m.Sublist lg ∧ cutD (pgsD lg) (some (-1)) none = m.map keysD := by
    unfold Vx.cutD
    rw [← List.map_drop, ← List.map_take]
    exact ⟨_, (List.take_sublist _ _).trans (List.drop_sublist _ _), rfl⟩
  have g3 : GD 170000 (.tuple (pgsD lg ++ [.tuple [.int 0, .int 0, .str "rent", .int (-1)]])) := by
    have := (gd_pgs (ks := lg ++ [[.inl 0, .inl 0, .inr (kn 4), .inl (-1)]]) (all_app lg1 (all_one (pg_rent (by omega)))) (by rw [List.length_append, lg2]; decide)).1
    rw [pgs_app] at this
    exact this
  have g4 : GD 170000 (.tuple (pgsD lg ++ cutD (pgsD lg) (some (-1)) none)) := by
    rw [em, ← pgs_app]
    exact (gd_pgs (all_app lg1 fun k hk => lg1 k (hm.subset hk)) (by rw [List.length_append, lg2]; have := hm.length_le; omega)).1
  exact sp_mid hb hy hpd lb (all_cons g1 (all_cons (sml (by decide)) (all_cons (sml (by decide)) (all_cons (sml (by decide)) (all_cons (sml (by decide)) (all_cons (sml (by decide)) (all_cons g2 (all_cons g3 (all_one g4)))))))))  (by show 9 ≤ 20; omega) ht hn hk hq
end
section
open PySem.W hiding keyD
open PyProof.Rows
theorem holds (ns : List Int) (_ : ns.length ≤ 63) : F_law [.d (.list (ns.map PyData.int))] (fun r _ => r = .d (.bool true)) fun _ _ => False := by
  unfold F_law
  refine sem_go fun k X hk => ?_
  clean_wf
  refine feed_ok fun a xs ht => ?_
  trivial
  simp_wf
  generalize PyData.list (ns.map PyData.int) = sc at hk
  show Nx w_law_1 X [some (.d sc), some (fd a xs), none, none, none, none, none, none, none, none, none, none, none] k
  refine nx_asg (w_frzC (w_call1 (v_obj (kd := .lst) (xs := xs) (by rfl) (callV_1 (R := fun r xs2 => ∃ b ys, r = .lst b ((ys.map PyData.str).map .d) ∧ Nm ys ∧ Feed xs2 2) (by rfl) (fun Q QX q => names_ok ht (by omega) fun b ys xs2 hy hf => q _ _ ⟨b, ys, rfl, hy, hf⟩) fun r xs1 hr => ?_))))
  obtain ⟨b0, ys, rfl, hy, ht1⟩ := hr
  refine escO ?_
  rw [toD_lst]
  refine ⟨by show 2 < 13; omega, ?_⟩
  show Nx w_law_2 X [some (.d sc), some (fd a xs1), some (.d (namD ys)), none, none, none, none, none, none, none, none, none, none] k
  have main : ∀ (b : List (List Key)) (xs2 : List O), IsBk b → (∀ k ∈ b, pageD (keysD k) = true) → b.length ≤ 100 → Feed xs2 2000 → Nx w_law_3 X (lbE sc a xs2 ys b none none none none none none none none none) k := by
    intro b xs2 hb hpd lb hf
    apply nx_asgLE
    · exact e_lst a_no (Nat.le_of_ble_eq_true rfl)
    · rfl
    intro c4
    show Nx w_law_4 X (lbE sc a xs2 ys b (some (.lst c4 ((pgsD []).map .d))) none none none none none none none none) k
    obtain ⟨l2, m2⟩ : (stpL 2 b).length ≤ b.length ∧ ∀ x ∈ stpL 2 b, x ∈ b := ⟨stpL_le (by omega), fun x hx => stpL_mem hx⟩
    obtain ⟨l3, m3⟩ : (stpL 3 b).length ≤ b.length ∧ ∀ x ∈ stpL 3 b, x ∈ b := ⟨stpL_le (by omega), fun x hx => stpL_mem hx⟩
    have es : EvS (iE (wBin .add (wBin .add (wVar 3) (wStpM (wVar 3) (oSome (wK (.int 2))))) (wStpM (wVar 3) (oSome (wK (.int 3)))))) (lbE sc a xs2 ys b (some (.lst c4 ((pgsD []).map .d))) none none none none none none none none) ⟨pgsD (b ++ stpL 2 b ++ stpL 3 b), none⟩ := by
      refine sv_e (e_bin .add (Ev.u (e_bin .add (Ev.u (e_var (x := .tuple (pgsD b)) (by rfl))) (Ev.u (e_stpM (m := 2) (Ev.u (e_var (x := .tuple (pgsD b)) (by rfl))) e_k (by omega))) (b_addT ?_))) (Ev.u (e_stpM (m := 3) (Ev.u (e_var (x := .tuple (pgsD b)) (by rfl))) e_k (by omega))) (b_addT ?_)) ?_
      · rw [stpL_map, List.length_map, List.length_map]; omega
      · rw [stpL_map, stpL_map, List.length_append, List.length_map, List.length_map, List.length_map]; omega
      · rw [stpL_map, stpL_map, pgs_app, pgs_app]; rfl
    have hM : ∀ k, k ∈ b ++ stpL 2 b ++ stpL 3 b ↔ k ∈ b := fun k => by
      rw [List.mem_append, List.mem_append]
      exact ⟨fun h => h.elim (fun h => h.elim id (m2 k)) (m3 k), fun h => .inl (.inl h)⟩
    have lM : (b ++ stpL 2 b ++ stpL 3 b).length ≤ 300 := by rw [List.length_append, List.length_append]; omega
    generalize b ++ stpL 2 b ++ stpL 3 b = M at es hM lM
    apply nx_forE es
    refine loop_run (s := ⟨pgsD M, none⟩) (fun i env => ∃ xs3 ts y5, env = lbE sc a xs3 ys b (some (.lst c4 ((pgsD ts).map .d))) y5 none none none none none none none ∧ Feed xs3 (2000 + i) ∧ ts.length ≤ i ∧ (∀ k, k ∈ ts ↔ k ∈ M.take i) ∧ (y5 = none ∨ ∃ d, y5 = some (.d d))) (fun _ _ _ => True.intro) ?_ ⟨xs2, [], none, rfl, hf, Nat.le_refl _, fun k => Iff.rfl, .inl rfl⟩ ?_
    · rintro i x env K hx ⟨xs3, ts, y5, rfl, hf3, lt, hmem, h5⟩ hK
      have hx : (pgsD M)[i]? = some x := hx
      have hi : i < M.length := by
        have := (List.getElem?_eq_some_iff.mp hx).1
        rwa [List.length_map] at this
      rw [List.getElem?_map] at hx
      obtain ⟨p, hp, rfl⟩ := Option.map_eq_some_iff.mp hx
      refine ⟨by show 5 < 13; omega, ?_⟩
      show Nx w_law_5 X (lbE sc a xs3 ys b (some (.lst c4 ((pgsD ts).map .d))) (some (.d (keysD p))) none none none none none none none) _
      have el : Ev (wBin .add (wPrim .len (aCons (wVar 4) aNil)) (wK (.int 1))) (lbE sc a xs3 ys b (some (.lst c4 ((pgsD ts).map .d))) (some (.d (keysD p))) none none none none none none none) (.int ((ts.length : Int) + 1)) := Ev.to (e_bin .add (Ev.u (e_lenL (ds := pgsD ts) (u_own (by rfl)))) (Ev.u e_k) b_addI) (by rw [List.length_map])
      refine nx_insR (i := 4) (a := c4) (ds := pgsD ts) (by rfl) ?_
      refine a_cs (w_draw hf3 (by rfl) el (by omega) (by omega) (by omega) fun v xs4 v0 v1 hf4 => a_cs ((e_var (x := keysD p) (by rfl)) _ _ ?_))
      refine ins_go (d := keysD p) (Q := fun e => Nx sNil X e _) (env2 := lbE sc a xs4 ys b (some (.lst c4 ((pgsD ts).map .d))) (some (.d (keysD p))) none none none none none none none) (i := 4) (a := c4) (ds := pgsD ts) (by rfl) v0 (by omega) (by rw [List.length_map]; omega) ?_
      refine nx_nil ?_
      refine hK _ ⟨xs4, ts.take v.toNat ++ [p] ++ ts.drop v.toNat, some (.d (keysD p)), ?_, hf4, ?_, fun k => ?_, .inr ⟨_, rfl⟩⟩
      · have e : insAtD (pgsD ts) v (keysD p) = pgsD (ts.take v.toNat ++ [p] ++ ts.drop v.toNat) := by
          unfold insAtD
          rw [← List.map_take, ← List.map_drop, pgs_app, pgs_app]; rfl
        rw [e]; rfl
      · rw [List.length_append, List.length_append, List.length_take, List.length_drop, List.length_singleton]; omega
      · have e : M.take (i + 1) = M.take i ++ [p] := by rw [List.take_add_one, hp]; rfl
        rw [e, List.mem_append, List.mem_append, List.mem_append, ← hmem k, ← (show ts.take v.toNat ++ ts.drop v.toNat = ts from List.take_append_drop _ _), List.mem_append, List.take_append_drop]
        exact ⟨fun h => h.elim (fun h => h.elim (fun h => .inl (.inl h)) .inr) fun h => .inl (.inr h), fun h => h.elim (fun h => h.elim (fun h => .inl (.inl h)) .inr) fun h => .inl (.inr h)⟩
    · rintro env ⟨xs3, ts, y5, rfl, hf3, lt, hmem, h5⟩
      have eM : (Src.mk (pgsD M) none).xs.length = M.length := List.length_map _
      rw [eM] at hf3 lt hmem
      rw [List.take_length] at hmem
      have hmb : ∀ k, k ∈ ts ↔ k ∈ b := fun k => (hmem k).trans (hM k)
      exact law_two hb hy hpd lb (fun k hk => hb.pg k ((hmb k).mp hk)) (by omega) hmb h5 hf3 (by omega) hk rfl
  refine nx_asg (w_call3 (v_obj (kd := .lst) (xs := xs1) (by rfl) ((e_var (x := namD ys) (by rfl)) _ _ ?_)))
  refine w_cmp (w_draw ht1 (by rfl) e_k (by omega) (by omega) (by omega) fun v xs2 h0 h1 ht2 => e_k _ _ (use_cmp c_gt (tst_t (ifB (fun _ => ?_) fun _ => ?_))))
  · refine w_ix ((e_lst (vs := [.int 3, .int 8, .int 24, .int 60]) (a_co e_k (a_co e_k (a_co e_k (a_co e_k a_no)))) (Nat.le_of_ble_eq_true rfl)) _ _ fun c => w_draw ht2 (by rfl) e_k (by omega) (by omega) (by omega) fun v xs2 h0 h1 hf => item_int (is := [3, 8, 24, 60]) h0 h1 fun m hm => ?_)
    have hm : 0 ≤ m ∧ m ≤ 100 := by simp at hm; omega
    refine callV_3 (R := fun r xs3 => ∃ b, r = .d (.tuple (pgsD b)) ∧ IsBk b ∧ (∀ k ∈ b, pageD (keysD k) = true) ∧ b.length ≤ 100 ∧ Feed xs3 2000) (by rfl) (fun Q QX q => law_book_ok hy hf (by omega) (by omega) (by omega) fun b xs3 hb hd hl hf => q _ _ ⟨b, rfl, hb, hd, by omega, hf.mono (by omega)⟩) fun r xs3 hr => ?_
    obtain ⟨b, rfl, hb, hd, hl, hf3⟩ := hr
    refine ⟨by show 3 < 13; omega, ?_⟩
    exact main b xs3 hb hd hl hf3
  · have hf := ht2
    refine e_k _ _ ?_
    refine callV_3 (R := fun r xs3 => ∃ b, r = .d (.tuple (pgsD b)) ∧ IsBk b ∧ (∀ k ∈ b, pageD (keysD k) = true) ∧ b.length ≤ 100 ∧ Feed xs3 2000) (by rfl) (fun Q QX q => law_book_ok hy hf (by omega) (by omega) (by omega) fun b xs3 hb hd hl hf => q _ _ ⟨b, rfl, hb, hd, by omega, hf.mono (by omega)⟩) fun r xs3 hr => ?_
    obtain ⟨b, rfl, hb, hd, hl, hf3⟩ := hr
    refine ⟨by show 3 < 13; omega, ?_⟩
    exact main b xs3 hb hd hl hf3
end
end VL
open PySem PySem.W PyProof.Rows
set_option maxHeartbeats 0 in
theorem PySem.Challenge.cw_almsrow_k39_books_in_order_holds : PySem.Challenge.rw_almsrow_k39_books_in_order.Holds := by
  w_on; o_law; k_head; (case hw => w_witness2)
  k_fill
  refine Vx.walk_V (l := PySem.Challenge.rw_almsrow_k39_books_in_order) (n := 63) (k := 9) (x := "_law_script") (F := VL.F_law) rfl (by decide) rfl ⟨rfl, by decide, by decide⟩ (fun w h Y => PySem.W.kIn_of Y) ?F VL.holds
  case F =>
    intro w mg fa h KX G hmg
    refine' VL.all_mk KX G hmg ?a0 ?l0 ?c0 ?k0 ?a1 ?l1 ?c1 ?k1 ?a2 ?l2 ?c2 ?k2 ?a3 ?l3 ?c3 ?k3 ?a4 ?l4 ?c4 ?k4 ?a5 ?l5 ?c5 ?k5 ?a6 ?l6 ?c6 ?k6 ?a7 ?l7 ?c7 ?k7 ?a8 ?l8 ?c8 ?k8 ?a9 ?l9 ?c9 ?k9 ?a10 ?l10 ?c10 ?k10 ?a11 ?l11 ?c11 ?k11 ?a12 ?l12 ?c12 ?k12 ?a13 ?l13 ?c13 ?k13 ?a14 ?l14 ?c14 ?k14 ?a15 ?l15 ?c15 ?k15 ?a16 ?l16 ?c16 ?k16 ?a17 ?l17 ?c17 ?k17 ?a18 ?l18 ?c18 ?k18 ?a19 ?l19 ?c19 ?k19 ?a20 ?l20 ?c20 ?k20 ?a21 ?l21 ?c21 ?k21 ?a22 ?l22 ?c22 ?k22 ?x_KINDS ?l_KINDS ?x_LETTERS ?x_LONGEST ?x_MOST_DAY ?x_MOST_NUMBER ?z_all ?z_bool ?z_int ?z_isinstance ?z_len ?z_list ?z_range ?z_repr ?z_sorted ?z_str ?z_tuple
    (case a0 => k_is); (case l0 => k_is); (case c0 => k_is); (case k0 => k_is); (case a1 => k_is); (case l1 => k_is); (case c1 => k_is); (case k1 => k_is); (case a2 => k_is); (case l2 => k_is); (case c2 => k_is); (case k2 => k_is); (case a3 => k_is); (case l3 => k_is); (case c3 => k_is); (case k3 => k_is); (case a4 => k_is); (case l4 => k_is); (case c4 => k_is); (case k4 => k_is); (case a5 => k_is); (case l5 => k_is); (case c5 => k_is); (case k5 => k_is); (case a6 => k_is); (case l6 => k_is); (case c6 => k_is); (case k6 => k_is); (case a7 => k_is); (case l7 => k_is); (case c7 => k_is); (case k7 => k_is); (case a8 => k_is); (case l8 => k_is); (case c8 => k_is); (case k8 => k_is); (case a9 => k_is); (case l9 => k_is); (case c9 => k_is); (case k9 => k_is); (case a10 => k_is); (case l10 => k_is); (case c10 => k_is); (case k10 => k_is); (case a11 => k_is); (case l11 => k_is); (case c11 => k_is); (case k11 => k_is); (case a12 => k_is); (case l12 => k_is); (case c12 => k_is); (case k12 => k_is); (case a13 => k_is); (case l13 => k_is); (case c13 => k_is); (case k13 => k_is); (case a14 => k_is); (case l14 => k_is); (case c14 => k_is); (case k14 => k_is); (case a15 => k_is); (case l15 => k_is); (case c15 => k_is); (case k15 => k_is); (case a16 => k_is); (case l16 => k_is); (case c16 => k_is); (case k16 => k_is); (case a17 => k_is); (case l17 => k_is); (case c17 => k_is); (case k17 => k_is); (case a18 => k_is); (case l18 => k_is); (case c18 => k_is); (case k18 => k_is); (case a19 => k_is); (case l19 => k_is); (case c19 => k_is); (case k19 => k_is); (case a20 => k_is); (case l20 => k_is); (case c20 => k_is); (case k20 => k_is); (case a21 => k_is); (case l21 => k_is); (case c21 => k_is); (case k21 => k_is); (case a22 => k_is); (case l22 => k_is); (case c22 => k_is); (case k22 => k_is); (case x_KINDS => k_is); (case l_KINDS => k_is); (case x_LETTERS => k_is); (case x_LONGEST => k_is); (case x_MOST_DAY => k_is); (case x_MOST_NUMBER => k_is); (case z_all => k_is); (case z_bool => k_is); (case z_int => k_is); (case z_isinstance => k_is); (case z_len => k_is); (case z_list => k_is); (case z_range => k_is); (case z_repr => k_is); (case z_sorted => k_is); (case z_str => k_is); (case z_tuple => k_is)

