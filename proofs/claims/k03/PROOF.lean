import PyProof.Rows.All
import Wide.All
import OpenK.AllK
import Wide.FinOn
import HandS.ForMost
import HandS.More
import HandS.WordsExc
import HandS.TupAny
import HandS.Exc
import HandS.ExcOwn
import HandS.TryOnly
import HandS.Defaults
import HandS.HeadHook1
import HandS.HeadHook2
import KE.DataEq
import KE.KeyNested
import KE.KDictKeyed
import HandS.IsInst
import HandS.SortRule
import KE.KDictWalk
import KE.KDictSum
import HandS.SortOrd
import KE.KDictCopyH
import HandS.ExcIs
import HandS.Iter
import HandS.Zip
import KE.GoesZip
import KE.GoesMore
import KE.GoesEnum
import HandS.Comp
import HandS.List
import HandS.HeadHook3
import HandS.HeadHook4
import KE.KStateDown
import Lean
import HandS.Base
import HandS.Call
import HandS.Ends
import HandS.Words
import HandS.Head0
import HandS.Head1
import HandS.Head2
import HandS.HeadEnd
import PySem.Challenge.RW_trendhouse_k03_what_comes_next_and_why_n
set_option Elab.async false
set_option linter.all false
set_option maxRecDepth 100000
set_option maxHeartbeats 4000000
/-! DV0: values as data (D), what a value of the heap stands for (Rp), what a frame holds. -/
namespace TH
open PySem PySem.Spec PyProof.Rows L2

/-- data: the values of the program, without addresses -/
inductive D where
  | non | bl (b : Bool) | int (i : Int) | str (x : Str)
  | tup (xs : List D) | lst (xs : List D)
  | dct (ks vs : List D)
  | hou (ts ks : List D)
  | hou1 (ts : List D)
  | scr (ns : List Int)
  | cst (x : Str)
  | tbl (ks : List Str) (vs : List Int) (no : List Str)
  | exc (cls : Str) (fs : List Str) (vs : List D)
  deriving Inhabited

mutual
/-- no list, dict or house lies within -/
def D.lf : D → Bool
  | .tup xs => lfs xs
  | .lst _ => false
  | .dct _ _ => false
  | .hou _ _ => false
  | .hou1 _ => false
  | .exc _ _ _ => false
  | _ => true
def lfs : List D → Bool
  | [] => true
  | d :: ds => d.lf && lfs ds
end
/-- the same of what a container holds -/
def D.elf : D → Bool
  | .lst xs => lfs xs
  | .dct ks vs => lfs ks && lfs vs
  | d => d.lf

mutual
def D.py : D → Option PyData
  | .non => some .none
  | .bl b => some (.bool b)
  | .int i => some (.int i)
  | .str x => some (.str x)
  | .tup xs => (pys xs).map .tuple
  | .lst xs => (pys xs).map .list
  | _ => none
def pys : List D → Option (List PyData)
  | [] => some []
  | d :: ds => d.py.bind fun a => (pys ds).map fun as => a :: as
end

mutual
/-- as a key of a dict -/
def D.nk : D → Option NestedKey
  | .non => some .none
  | .bl b => some (.num (if b = true then 1 else 0))
  | .int i => some (.num i)
  | .str x => some (.text x)
  | .tup xs => (nks xs).map .tup
  | _ => none
def nks : List D → Option (List NestedKey)
  | [] => some []
  | d :: ds => d.nk.bind fun a => (nks ds).map fun as => a :: as
end
/-- the class of the houses; the exception that a suite holds: where it lies, its class, its dict -/
structure Cn where
  C : Addr
  e : Option (Addr × Value × Option Addr)
/-- the written part -/
structure RC where
  prog : Program
  w : World
  K : PySem.W.Frag
  C : Cn
/-- a dict whose keys are tuples -/
def DicO (prog : Program) (w : World) (a : Addr) (xs : List (NestedKey × Addr × Value)) : HO := .ext fun h => ∃ o es ep, h.get? a = some o ∧ o.ExactDict ∧ o.data = .dict es ep ∧ es.toList = xs.map (entryOfKey (nestedKind prog w)) ∧ (xs.map (·.1)).Nodup ∧
  (a == sysModules) = false ∧ xs.length ≤ sizeLine ∧ ∀ x ∈ xs, x.1.depth ≤ 8

/-- the script's list -/
def ScrAt (K : PySem.W.Frag) (H : Hp) (a : Addr) (xs : List V) : Prop := (∃ o, H a = some (.frz o (.lst xs))) ∨
  ∃ (o : Obj) (its : Array Value) (n : Nat), K.lookup a = some o ∧ o.cls = .type "list" ∧ o.dict = none ∧ o.data = .seq its n ∧ its.size ≤ sizeLine ∧ Vals xs its.toList
theorem ScrAt.sql {K : PySem.W.Frag} {H : Hp} {a : Addr} {xs : List V} (h : ScrAt K H a xs) : SqL K H a xs := by
  rcases h with ⟨o, h⟩ | h
  · exact .inl (.inr ⟨o, h⟩)
  · exact .inr h
/-- a written dict with text keys: what is known of it -/
def TblOk (R : RC) (a : Addr) (ks : List Str) (vs : List Int) (no : List Str) : Prop := ∃ es n, KDict R.K R.w a es n ∧ (∀ (i : Nat) (k : Str) (v : Int), ks[i]? = some k → vs[i]? = some v → ∃ u, PySem.W.nsIn R.K a k = some (some u) ∧ RelV (.int v) u) ∧ ∀ k ∈ no, PySem.W.nsIn R.K a k = some none
mutual
/-- v stands for d: each list within lies where P says -/
inductive Rp (R : RC) (P : Addr → Prop) (H : Hp) : V → D → Prop
  | non : Rp R P H .non .non
  | bl (b : Bool) : Rp R P H (.bl b) (.bl b)
  | int (i : Int) : Rp R P H (.int i) (.int i)
  | str (x : Str) : Rp R P H (.str x) (.str x)
  | tup {a : Addr} {xs : List V} {ds : List D} : SqT R.K H a xs → Rps R P H xs ds → Rp R P H (.ref a) (.tup ds)
  | lst {a : Addr} {xs : List V} {ds : List D} : P a → H a = some (.lst xs) → Rps R P H xs ds → Rp R P H (.ref a) (.lst ds)
  | hou {a dx p q : Addr} {xs ys : List V} {ts ks : List D} : P a → H a = some (.ins R.C.C dx [(Str.ofString "kept_things", .ref p), (Str.ofString "kept_ties", .ref q)]) → P p → H p = some (.lst xs) → Rps R P H xs ts →
      P q → H q = some (.lst ys) → Rps R P H ys ks → Rp R P H (.ref a) (.hou ts ks)
  | hou1 {a dx p : Addr} {xs : List V} {ts : List D} {ew : Value} {ed : Option Addr} : R.C.e = some (a, ew, ed) → P a → H a = some (.ins R.C.C dx [(Str.ofString "kept_things", .ref p)]) → P p → H p = some (.lst xs) → Rps R P H xs ts → Rp R P H (.ref a) (.hou1 ts)
  | dct {a : Addr} {xs : List (NestedKey × Addr × Value)} {vs : List V} {ks ds : List D} : P a → H a = some (DicO R.prog R.w a xs) → nks ks = some (xs.map (·.1)) → Rps R P H (xs.map fun x => .ref x.2.1) ks → Vals vs (xs.map (·.2.2)) → Rps R P H vs ds →
      Rp R P H (.ref a) (.dct ks ds)
  | scr {a : Addr} {ns : List Int} : ScrAt R.K H a (ns.map V.int) → Rp R P H (.ref a) (.scr ns)
  | cst {a : Addr} {x : Str} : a = He.ga R.K x → Rp R P H (.ref a) (.cst x)
  | tbl {a : Addr} {ks : List Str} {vs : List Int} {no : List Str} : TblOk R a ks vs no → Rp R P H (.ref a) (.tbl ks vs no)
  | exc0 {a : Addr} {cls : Str} : R.C.e = some (a, .ref (He.ga R.K cls), none) → Rp R P H (.ref a) (.exc cls [] [])
  | exc {a d : Addr} {cls f : Str} {fs : List Str} {fl : List (Str × V)} {ws : List V} {vs : List D} : R.C.e = some (a, .ref (He.ga R.K cls), some d) → H d = some (.xd fl) → (∀ (i : Nat) (g : Str) (v : V), (f :: fs)[i]? = some g → ws[i]? = some v → fl.lookup g = some v) → ws.length = (f :: fs).length → Rps R P H ws vs → Rp R P H (.ref a) (.exc cls (f :: fs) vs)
inductive Rps (R : RC) (P : Addr → Prop) (H : Hp) : List V → List D → Prop
  | nil : Rps R P H [] []
  | cons {v : V} {vs : List V} {d : D} {ds : List D} : Rp R P H v d → Rps R P H vs ds → Rps R P H (v :: vs) (d :: ds)
end

section
variable {R : RC} {P P' : Addr → Prop} {H H' : Hp}
theorem Rps.length : ∀ {vs : List V} {ds : List D}, Rps R P H vs ds → vs.length = ds.length
  | _, _, .nil => rfl
  | _, _, .cons _ t => congrArg (· + 1) t.length
theorem Rps.get : ∀ {vs : List V} {ds : List D} {i : Nat} {d : D}, Rps R P H vs ds → ds[i]? = some d → ∃ v, vs[i]? = some v ∧ Rp R P H v d
  | _, _, _, _, .nil, e => by simp at e
  | _, _, 0, d, .cons r t, e => by simp at e; subst e; exact ⟨_, rfl, r⟩
  | _, _, i + 1, d, .cons r t, e => by
    obtain ⟨v, h1, h2⟩ := Rps.get (i := i) (d := d) t (by simpa using e)
    exact ⟨v, by simpa using h1, h2⟩
theorem Rps.getV : ∀ {vs : List V} {ds : List D} {i : Nat} {v : V}, Rps R P H vs ds → vs[i]? = some v → ∃ d, ds[i]? = some d ∧ Rp R P H v d
  | _, _, _, _, .nil, e => by simp at e
  | _, _, 0, d, .cons r t, e => by simp at e; subst e; exact ⟨_, rfl, r⟩
  | _, _, i + 1, d, .cons r t, e => by
    obtain ⟨v, h1, h2⟩ := Rps.getV (i := i) (v := d) t (by simpa using e)
    exact ⟨v, by simpa using h1, h2⟩
theorem Rps.append : ∀ {vs ws : List V} {ds es : List D}, Rps R P H vs ds → Rps R P H ws es → Rps R P H (vs ++ ws) (ds ++ es)
  | _, _, _, _, .nil, s => s
  | _, _, _, _, .cons r t, s => .cons r (t.append s)
theorem Rps.take : ∀ {vs : List V} {ds : List D} (n : Nat), Rps R P H vs ds → Rps R P H (vs.take n) (ds.take n)
  | _, _, 0, _ => .nil
  | _, _, _ + 1, .nil => .nil
  | _, _, n + 1, .cons r t => .cons r (t.take n)
theorem Rps.drop : ∀ {vs : List V} {ds : List D} (n : Nat), Rps R P H vs ds → Rps R P H (vs.drop n) (ds.drop n)
  | _, _, 0, r => r
  | _, _, _ + 1, .nil => .nil
  | _, _, n + 1, .cons _ t => t.drop n
theorem Rps.one {v : V} {d : D} (h : Rp R P H v d) : Rps R P H [v] [d] := .cons h .nil
theorem Rps.reverse : ∀ {vs : List V} {ds : List D}, Rps R P H vs ds → Rps R P H vs.reverse ds.reverse
  | _, _, .nil => .nil
  | _, _, .cons r t => by
    rw [List.reverse_cons, List.reverse_cons]
    exact t.reverse.append (.one r)
theorem Rps.set {v : V} {d : D} (r : Rp R P H v d) : ∀ {vs : List V} {ds : List D} (i : Nat), Rps R P H vs ds → Rps R P H (vs.set i v) (ds.set i d)
  | _, _, _, .nil => .nil
  | _, _, 0, .cons _ t => .cons r t
  | _, _, i + 1, .cons q t => .cons q (Rps.set r i t)

/-- what changes and what stays: the tuples, the houses and the lists off O stand -/
def mutO : HO → Bool
  | .lst _ => true
  | .dK _ => true
  | .dT _ => true
  | .ext _ => true
  | .ins _ _ _ => true
  | _ => false
structure Ext (O : List Addr) (H H' : Hp) : Prop where
  st : ∀ a o, H a = some o → (a ∉ O ∨ mutO o = false) → H' a = some o
  dom : ∀ a o, H a = some o → ∃ o', H' a = some o'
theorem Ext.refl {O : List Addr} : Ext O H H := ⟨fun _ _ h _ => h, fun _ o h => ⟨o, h⟩⟩
theorem Ext.fresh {O : List Addr} (e : Ext O H H') {a : Addr} (h : H' a = none) : H a = none := by
  cases q : H a with
  | none => rfl
  | some o =>
    obtain ⟨o', z⟩ := e.dom a o q
    rw [h] at z
    cases z
theorem Ext.trans {O : List Addr} {H1 : Hp} (a : Ext O H H1) (b : Ext O H1 H') : Ext O H H' :=
  ⟨fun c o h k => b.st c o (a.st c o h k) k, fun c o h => let ⟨o1, h1⟩ := a.dom c o h; b.dom c o1 h1⟩
/-- O grew by fresh ones alone -/
def Sub (O O' : List Addr) (H : Hp) : Prop := ∀ a ∈ O', a ∈ O ∨ H a = none
theorem Sub.refl {O : List Addr} : Sub O O H := fun _ h => .inl h
theorem Sub.trans {O O1 O2 : List Addr} {H1 : Hp} (e : Ext O H H1) (a : Sub O O1 H) (b : Sub O1 O2 H1) : Sub O O2 H := fun x hx => by
  rcases b x hx with h | h
  · exact a x h
  · exact .inr (e.fresh h)
theorem Ext.trans2 {O O1 : List Addr} {H1 : Hp} (a : Ext O H H1) (s : Sub O O1 H) (b : Ext O1 H1 H') : Ext O H H' := by
  refine ⟨fun c o h k => ?_, fun c o h => let ⟨o1, h1⟩ := a.dom c o h; b.dom c o1 h1⟩
  refine b.st c o (a.st c o h k) ?_
  rcases k with k | k
  · left
    intro hc
    rcases s c hc with z | z
    · exact k z
    · rw [h] at z
      cases z
  · exact .inr k
theorem Same.ext {O : List Addr} (h : Same H H') : Ext O H H' := ⟨fun a o e _ => h a o e, fun a o e => ⟨o, h a o e⟩⟩
theorem Ext.sqT {O : List Addr} {K : PySem.W.Frag} (e : Ext O H H') {a : Addr} {xs : List V} (h : SqT K H a xs) : SqT K H' a xs := by
  rcases h with (h | ⟨o, h⟩) | h
  · exact .inl (.inl (e.st _ _ h (.inr rfl)))
  · exact .inl (.inr ⟨o, e.st _ _ h (.inr rfl)⟩)
  · exact .inr h
theorem Ext.scr {O : List Addr} {K : PySem.W.Frag} (e : Ext O H H') {a : Addr} {xs : List V} (h : ScrAt K H a xs) : ScrAt K H' a xs := by
  rcases h with ⟨o, h⟩ | h
  · exact .inl ⟨o, e.st _ _ h (.inr rfl)⟩
  · exact .inr h
mutual
/-- what stands for d stands so in the further heap -/
theorem Rp.keep {O : List Addr} (e : Ext O H H') (hP : ∀ a, P a → a ∉ O) (hQ : ∀ a, P a → P' a) : ∀ {d : D} {v : V}, Rp R P H v d → Rp R P' H' v d
  | .non, _, h => by cases h; exact .non
  | .bl _, _, h => by cases h; exact .bl _
  | .int _, _, h => by cases h; exact .int _
  | .str _, _, h => by cases h; exact .str _
  | .tup ds, _, h => by
    cases h with
    | tup h r => exact .tup (e.sqT h) (Rps.keep e hP hQ r)
  | .lst ds, _, h => by
    cases h with
    | lst p h r => exact .lst (hQ _ p) (e.st _ _ h (.inl (hP _ p))) (Rps.keep e hP hQ r)
  | .dct ks ds, _, h => by
    cases h with
    | dct p h n r1 z r2 => exact .dct (hQ _ p) (e.st _ _ h (.inl (hP _ p))) n (Rps.keep e hP hQ r1) z (Rps.keep e hP hQ r2)
  | .hou ts ks, _, h => by
    cases h with
    | hou p h p1 h1 r1 p2 h2 r2 => exact .hou (hQ _ p) (e.st _ _ h (.inl (hP _ p))) (hQ _ p1) (e.st _ _ h1 (.inl (hP _ p1))) (Rps.keep e hP hQ r1) (hQ _ p2) (e.st _ _ h2 (.inl (hP _ p2))) (Rps.keep e hP hQ r2)
  | .hou1 ts, _, h => by
    cases h with
    | hou1 q p h p1 h1 r1 => exact .hou1 q (hQ _ p) (e.st _ _ h (.inl (hP _ p))) (hQ _ p1) (e.st _ _ h1 (.inl (hP _ p1))) (Rps.keep e hP hQ r1)
  | .scr ns, _, h => by
    cases h with
    | scr h => exact .scr (e.scr h)
  | .cst x, _, h => by
    cases h with
    | cst h => exact .cst h
  | .tbl _ _ _, _, h => by
    cases h with
    | tbl h => exact .tbl h
  | .exc cls fs vs, _, h => by
    cases h with
    | exc0 h => exact .exc0 h
    | exc h h2 h3 h4 r => exact .exc h (e.st _ _ h2 (.inr rfl)) h3 h4 (Rps.keep e hP hQ r)
theorem Rps.keep {O : List Addr} (e : Ext O H H') (hP : ∀ a, P a → a ∉ O) (hQ : ∀ a, P a → P' a) : ∀ {ds : List D} {vs : List V}, Rps R P H vs ds → Rps R P' H' vs ds
  | [], _, .nil => .nil
  | _ :: _, _, .cons r t => .cons (Rp.keep e hP hQ r) (Rps.keep e hP hQ t)
end
mutual
theorem Rp.lf (P' : Addr → Prop) : ∀ {d : D} {v : V}, d.lf = true → Rp R P H v d → Rp R P' H v d
  | .non, _, _, h => by cases h; exact .non
  | .bl _, _, _, h => by cases h; exact .bl _
  | .int _, _, _, h => by cases h; exact .int _
  | .str _, _, _, h => by cases h; exact .str _
  | .tup ds, _, z, h => by
    cases h with
    | tup h r => exact .tup h (Rps.lf P' (by simpa [D.lf] using z) r)
  | .dct _ _, _, z, _ => by simp [D.lf] at z
  | .lst ds, _, z, _ => by simp [D.lf] at z
  | .hou ts ks, _, z, _ => by simp [D.lf] at z
  | .hou1 ts, _, z, _ => by simp [D.lf] at z
  | .exc _ _ _, _, z, _ => by simp [D.lf] at z
  | .scr ns, _, _, h => by
    cases h with
    | scr h => exact .scr h
  | .cst x, _, _, h => by
    cases h with
    | cst h => exact .cst h
  | .tbl _ _ _, _, _, h => by
    cases h with
    | tbl h => exact .tbl h
theorem Rps.lf (P' : Addr → Prop) : ∀ {ds : List D} {vs : List V}, lfs ds = true → Rps R P H vs ds → Rps R P' H vs ds
  | [], _, _, .nil => .nil
  | d :: ds, _, z, .cons r t => by
    have z' : (d.lf && lfs ds) = true := z
    rw [Bool.and_eq_true] at z'
    exact .cons (Rp.lf P' z'.1 r) (Rps.lf P' z'.2 t)
end
theorem Rp.imp (h : ∀ a, P a → P' a) {d : D} {v : V} (r : Rp R P H v d) : Rp R P' H v d := r.keep (O := []) Ext.refl (fun _ _ => by simp) h
theorem Rps.imp (h : ∀ a, P a → P' a) {ds : List D} {vs : List V} (r : Rps R P H vs ds) : Rps R P' H vs ds := r.keep (O := []) Ext.refl (fun _ _ => by simp) h
mutual
/-- as PyData, for == and in -/
theorem Rp.dp : ∀ {d : D} {v : V} {z : PyData}, d.py = some z → Rp R P H v d → Dp R.K H v z
  | .non, _, z, e, h => by simp [D.py] at e; subst e; cases h; exact .non
  | .bl _, _, z, e, h => by simp [D.py] at e; subst e; cases h; exact .bl _
  | .int _, _, z, e, h => by simp [D.py] at e; subst e; cases h; exact .int _
  | .str _, _, z, e, h => by simp [D.py] at e; subst e; cases h; exact .str _
  | .tup ds, _, z, e, h => by
    simp [D.py] at e
    obtain ⟨as, e1, e2⟩ := e
    subst e2
    cases h with
    | tup h r => exact .tup h (Rps.dp e1 r)
  | .lst ds, _, z, e, h => by
    simp [D.py] at e
    obtain ⟨as, e1, e2⟩ := e
    subst e2
    cases h with
    | lst p h r => exact .lst (.of h) (Rps.dp e1 r)
  | .dct _ _, _, z, e, _ => by simp [D.py] at e
  | .hou ts ks, _, z, e, _ => by simp [D.py] at e
  | .hou1 ts, _, z, e, _ => by simp [D.py] at e
  | .scr ns, _, z, e, _ => by simp [D.py] at e
  | .cst x, _, z, e, _ => by simp [D.py] at e
  | .tbl _ _ _, _, z, e, _ => by simp [D.py] at e
  | .exc _ _ _, _, z, e, _ => by simp [D.py] at e
theorem Rps.dp : ∀ {ds : List D} {vs : List V} {zs : List PyData}, pys ds = some zs → Rps R P H vs ds → DpAll R.K H vs zs
  | [], _, zs, e, .nil => by simp [pys] at e; subst e; exact .nil
  | d :: ds, _, zs, e, .cons r t => by
    simp only [pys, Option.bind_eq_some_iff, Option.map_eq_some_iff] at e
    obtain ⟨a, e1, as, e2, e3⟩ := e
    subst e3
    exact .cons (Rp.dp e1 r) (Rps.dp e2 t)
end
mutual
theorem D.py_plain : ∀ {d : D} {z : PyData}, d.py = some z → z.plain = true
  | .non, z, e => by simp [D.py] at e; subst e; rfl
  | .bl _, z, e => by simp [D.py] at e; subst e; rfl
  | .int _, z, e => by simp [D.py] at e; subst e; rfl
  | .str _, z, e => by simp [D.py] at e; subst e; rfl
  | .tup ds, z, e => by
    simp [D.py] at e
    obtain ⟨as, e1, e2⟩ := e
    subst e2
    exact pys_plain e1
  | .lst ds, z, e => by
    simp [D.py] at e
    obtain ⟨as, e1, e2⟩ := e
    subst e2
    exact pys_plain e1
  | .dct _ _, z, e => by simp [D.py] at e
  | .hou ts ks, z, e => by simp [D.py] at e
  | .hou1 ts, z, e => by simp [D.py] at e
  | .scr ns, z, e => by simp [D.py] at e
  | .cst x, z, e => by simp [D.py] at e
  | .tbl _ _ _, z, e => by simp [D.py] at e
  | .exc _ _ _, z, e => by simp [D.py] at e
theorem pys_plain : ∀ {ds : List D} {zs : List PyData}, pys ds = some zs → PyData.plainAll zs = true
  | [], zs, e => by simp [pys] at e; subst e; rfl
  | d :: ds, zs, e => by
    simp only [pys, Option.bind_eq_some_iff, Option.map_eq_some_iff] at e
    obtain ⟨a, e1, as, e2, e3⟩ := e
    subst e3
    show (a.plain && PyData.plainAll as) = true
    rw [D.py_plain e1, pys_plain e2]
    rfl
end
end
end TH

set_option Elab.async false
set_option linter.all false
set_option maxRecDepth 100000
set_option maxHeartbeats 4000000
/-! DV1: the evaluator over data. -/
namespace TH
open PySem PySem.Spec PyProof.Rows L2

/-- what an expression comes to: data (nw: all its lists are new since the expression began), a place of the frame's own, the row -/
inductive Rv where
  | v (nw : Bool) (d : D) | p (i : Nat) | io
abbrev Env := List (Option D)
abbrev Row := Option (List D)
structure DX where
  cls : Str
  flds : List (Str × D)
inductive Out (α : Type) where
  | no | ok (a : α) (row : Row) | ex (x : DX) (row : Row)
inductive SO where
  | no | nx (e : Env) (row : Row) | rt (d : D) (row : Row) | bk (e : Env) (row : Row) | ct (e : Env) (row : Row) | ex (x : DX) (e : Env) (row : Row)
def Out.bind {α β : Type} (x : Out α) (f : α → Row → Out β) : Out β := match x with
  | .no => .no
  | .ok a r => f a r
  | .ex a r => .ex a r

/-! ### names -/
def natEq : List Nat → List Nat → Bool
  | [], [] => true
  | x :: xs, y :: ys => Nat.beq x y && natEq xs ys
  | _, _ => false
def seq (a b : Str) : Bool := natEq a.cps.toList b.cps.toList
def look {α : Type} (x : Str) : List (Str × α) → Option α
  | [] => none
  | (y, k) :: r => match seq x y with
    | true => some k
    | false => look x r
def idx (x : Str) : List Str → Nat → Option Nat
  | [], _ => none
  | y :: r, n => match seq x y with
    | true => some n
    | false => idx x r (n + 1)

structure Fn where
  io : Bool
  run : List D → Row → Out D
def isCon : D → Bool
  | .lst _ => true
  | .dct _ _ => true
  | _ => false
structure Ctx where
  /-- how many arguments, the row aside -/
  np : Nat
  N : List Str
  sc : Scope
  /-- the scope as written -/
  st : Scope
  own : List Nat
  io : Option Nat
  /-- loops, calls of defs, raises, unpackings may stand -/
  calm : Bool
  loops : Bool
  tries : Bool
  fns : List (Str × Fn)
  mks : List (Str × Fn)
  mts : List (Str × Fn)
  cst : List (Str × D)
  exs : List (Str × List Str)
  /-- the exception classes of the module -/
  cls : List Str
  /-- the exception's name in an except suite: its slot, what it is -/
  exc : Option (Nat × DX)
/-- the slot of a name of the def -/
def slot (c : Ctx) (x : Str) : Option Nat := match look x c.sc.names with
  | some .local => idx x c.N 0
  | some .cell => idx x c.N 0
  | some .free => idx x c.N 0
  | _ => none
/-- a name that may be stored -/
def slotL (c : Ctx) (x : Str) : Option Nat := match look x c.st.names with
  | some .local => idx x c.N 0
  | some .cell => idx x c.N 0
  | _ => none
def isGl (c : Ctx) (x : Str) : Bool := match look x c.sc.names with
  | some .globalImplicit => true
  | _ => false
def inN (i : Nat) : List Nat → Bool
  | [] => false
  | j :: r => Nat.beq i j || inN i r
def isIo (c : Ctx) (i : Nat) : Bool := match c.io with
  | some j => Nat.beq i j
  | none => false
def isOwn (c : Ctx) (i : Nat) : Bool := inN i c.own

/-! ### operations on data -/
def sz (n : Nat) : Bool := Nat.ble n 1000000
def cutG {α : Type} (xs : List α) (lo hi : Option Int) : List α := (xs.drop (HT.sIx xs.length 0 lo)).take (HT.sIx xs.length xs.length hi - HT.sIx xs.length 0 lo)
def small64 (i : Int) : Bool := Nat.ble i.natAbs 18446744073709551615
def gd {α : Type} (b : Bool) (x : α) : Option α := match b with
  | true => some x
  | false => none
def addD : D → D → Option D
  | .int a, .int b => some (.int (a + b))
  | .str a, .str b => gd (sz (a.length + b.length)) (.str (a ++ b))
  | .lst a, .lst b => gd (sz (a.length + b.length)) (.lst (a ++ b))
  | .tup a, .tup b => gd (sz (a.length + b.length)) (.tup (a ++ b))
  | _, _ => none
def subD : D → D → Option D
  | .int a, .int b => some (.int (a - b))
  | _, _ => none
def mulD : D → D → Option D
  | .int a, .int b => gd (small64 a || small64 b) (.int (a * b))
  | .lst a, .int k => gd (decide (0 ≤ k) && decide (k ≤ 1000) && sz (a.length * k.toNat)) (.lst (List.replicate k.toNat a).flatten)
  | _, _ => none
def modD : D → D → Option D
  | .int a, .int b => gd (decide (0 < b)) (.int (a % b))
  | _, _ => none
def fdivD : D → D → Option D
  | .int a, .int b => gd (!(decide (b = 0)) && decide (b.natAbs < 1073741824)) (.int (a.fdiv b))
  | _, _ => none
def binD : Operator → D → D → Option D
  | .Add, x, y => addD x y
  | .Sub, x, y => subD x y
  | .Mult, x, y => mulD x y
  | .Mod, x, y => modD x y
  | .FloorDiv, x, y => fdivD x y
  | _, _, _ => none
mutual
/-- at most n deep -/
def D.dok : D → Nat → Bool
  | .tup xs, n => (match n with
    | 0 => false
    | n + 1 => doks xs n)
  | .lst xs, n => (match n with
    | 0 => false
    | n + 1 => doks xs n)
  | _, _ => true
def doks : List D → Nat → Bool
  | [], _ => true
  | d :: ds, n => d.dok n && doks ds n
end
def tblGet (a : Str) : List Str → List Int → Option Int
  | k :: ks, v :: vs => (match seq a k with
    | true => some v
    | false => tblGet a ks vs)
  | _, _ => none
def memS (a : Str) : List Str → Bool
  | [] => false
  | k :: ks => seq a k || memS a ks
def eqD (x y : D) : Option Bool := match x.py, y.py with
  | some a, some b => gd (y.dok 20 || x.dok 20) (PyData.eqv a b)
  | _, _ => none
def isNon : D → Bool
  | .non => true
  | _ => false
def inD : D → D → Option Bool
  | x, .lst ys => (match x.py, pys ys with
    | some a, some bs => gd (x.dok 20) (bs.any fun b => PyData.eqv b a)
    | _, _ => none)
  | x, .tup ys => (match x.py, pys ys with
    | some a, some bs => gd (x.dok 20) (bs.any fun b => PyData.eqv b a)
    | _, _ => none)
  | .str a, .str b => some (!(Builtin.Str.occurrences b a 0 b.length 1).isEmpty)
  | .str a, .tbl ks vs no => (match tblGet a ks vs with
    | some _ => some true
    | none => (match memS a no with
      | true => some false
      | false => none))
  | _, _ => none
def cmpI : CmpOp → Int → Int → Option Bool
  | .Lt, a, b => some (decide (a < b))
  | .LtE, a, b => some (decide (a ≤ b))
  | .Gt, a, b => some (decide (b < a))
  | .GtE, a, b => some (decide (b ≤ a))
  | _, _, _ => none
def ordD (op : CmpOp) : D → D → Option Bool
  | .int a, .int b => cmpI op a b
  | _, _ => none
def cmpD : CmpOp → D → D → Option Bool
  | .Eq, x, y => eqD x y
  | .NotEq, x, y => (eqD x y).map not
  | .Is, x, .non => some (isNon x)
  | .IsNot, x, .non => some (!(isNon x))
  | .In, x, y => inD x y
  | .NotIn, x, y => (inD x y).map not
  | .Lt, x, y => ordD .Lt x y
  | .LtE, x, y => ordD .LtE x y
  | .Gt, x, y => ordD .Gt x y
  | .GtE, x, y => ordD .GtE x y
  | _, _, _ => none
/-- a tuple as a key -/
def kOf : D → Option NestedKey
  | .tup xs => (match (nks xs).map NestedKey.tup with
    | some k => gd (Nat.ble k.depth 8) k
    | none => none)
  | _ => none
def kIdx (k : NestedKey) : List NestedKey → Nat → Option Nat
  | [], _ => none
  | x :: r, n => match NestedKey.beq x k with
    | true => some n
    | false => kIdx k r (n + 1)
/-- behind d[key] = v: the keys, the values -/
def storeD (ks vs : List D) (key v : D) : Option (List D × List D) := match nks ks, kOf key with
  | some kk, some k => gd (sz ks.length) (match kIdx k kk 0 with
    | some j => (ks, vs.set j v)
    | none => (ks ++ [key], vs ++ [v]))
  | _, _ => none
def pairL : List D → Option (List (Int × Int))
  | [] => some []
  | .tup [.int a, .int b] :: r => (pairL r).map fun l => (a, b) :: l
  | _ :: _ => none
def pairD (p : Int × Int) : D := .tup [.int p.1, .int p.2]
def lexI (p q : Int × Int) : Bool := match decide (p.1 = q.1) with
  | true => decide (p.2 < q.2)
  | false => decide (p.1 < q.1)
/-- into a sorted list, behind its like -/
def insP (p : Int × Int) : List (Int × Int) → List (Int × Int)
  | [] => [p]
  | q :: r => match lexI p q with
    | true => p :: q :: r
    | false => q :: insP p r
def sortP : List (Int × Int) → List (Int × Int)
  | [] => []
  | p :: r => insP p (sortP r)
def sortedD : D → Option D
  | .dct ks _ => (pairL ks).map fun ps => .lst ((sortP ps).map pairD)
  | _ => none
def one1 (c : Nat) : D := .str ⟨#[c]⟩
def ixD : D → D → Option D
  | .lst xs, .int i => atI xs i
  | .tup xs, .int i => atI xs i
  | .scr ns, .int i => (atI ns i).map .int
  | .tbl ks vs _, .str a => (tblGet a ks vs).map .int
  | .str z, .int i => match sz z.length with
    | true => (atI z.cps.toList i).map one1
    | false => none
  | _, _ => none
def slD : D → Option Int → Option Int → Option D
  | .lst xs, lo, hi => some (.lst (cutG xs lo hi))
  | .tup xs, lo, hi => some (.tup (cutG xs lo hi))
  | .str z, lo, hi => gd (sz z.length) (.str (cutS z lo hi))
  | _, _, _ => none
def lenD : D → Option D
  | .lst xs => some (.int xs.length)
  | .tup xs => some (.int xs.length)
  | .scr ns => some (.int ns.length)
  | .str z => gd (sz z.length) (.int z.length)
  | _ => none
def intD : D → Option D
  | .bl b => some (.int (if b then 1 else 0))
  | .int i => some (.int i)
  | _ => none
def listD : D → Option D
  | .lst xs => some (.lst xs)
  | .tup xs => some (.lst xs)
  | _ => none
def tupD : D → Option D
  | .lst xs => some (.tup xs)
  | .tup xs => some (.tup xs)
  | _ => none
def absD : D → Option D
  | .int i => some (.int (if i < 0 then -i else i))
  | _ => none
def max2D : D → D → Option D
  | .int i, .int j => some (.int (if j > i then j else i))
  | _, _ => none
def min2D : D → D → Option D
  | .int i, .int j => some (.int (if j < i then j else i))
  | _, _ => none
def intsD : List D → Option (List Int)
  | [] => some []
  | .int i :: r => (intsD r).map fun l => i :: l
  | _ :: _ => none
def maxI : List Int → Option Int
  | [] => none
  | i :: r => some (r.foldl (fun m j => if j > m then j else m) i)
def minI : List Int → Option Int
  | [] => none
  | i :: r => some (r.foldl (fun m j => if j < m then j else m) i)
def max1D : D → Option D
  | .lst xs => ((intsD xs).bind maxI).map .int
  | _ => none
def min1D : D → Option D
  | .lst xs => ((intsD xs).bind minI).map .int
  | _ => none
def strsD : List D → Option (List Str)
  | [] => some []
  | .str i :: r => (strsD r).map fun l => i :: l
  | _ :: _ => none
def lens (a : Str) (ys : List Str) : Nat := (ys.map (·.length)).sum + a.length * ys.length
def joinD : D → D → Option D
  | .str a, .lst xs => (strsD xs).bind fun ys => gd (sz (lens a ys)) (.str (Txt.join a ys))
  | _, _ => none
def blt1 (calm : Bool) (f : Str) : Option (D → Option D) :=
  match seq f "len" with
  | true => some lenD
  | false => match seq f "int" with
  | true => some intD
  | false => match seq f "list" with
  | true => some listD
  | false => match seq f "tuple" with
  | true => some tupD
  | false => match seq f "abs" with
  | true => some absD
  | false => match calm with
  | false => none
  | true => match seq f "max" with
  | true => some max1D
  | false => match seq f "min" with
  | true => some min1D
  | false => match seq f "sorted" with
  | true => some sortedD
  | false => none
def blt2 (calm : Bool) (f : Str) : Option (D → D → Option D) :=
  match calm with
  | false => none
  | true => match seq f "max" with
  | true => some max2D
  | false => match seq f "min" with
  | true => some min2D
  | false => none
/-- is x of the built-in class T -/
def tyD (T : Str) : D → Option Bool
  | .non => some (seq T "NoneType")
  | .bl _ => some (seq T "bool" || seq T "int")
  | .int _ => some (seq T "int")
  | .str _ => some (seq T "str")
  | .lst _ => some (seq T "list")
  | .tup _ => some (seq T "tuple")
  | _ => none
/-- is the exception class cls below T -/
def isSub (L : List Str) (cls T : Str) : Option Bool := match memS cls L with
  | true => (match seq T "ValueError" || (seq T "TrendError" && memS T L) || seq T cls with
    | true => some true
    | false => (match memS T L with
      | true => some false
      | false => none))
  | false => none
def excT (L : List Str) (T : Str) : Bool := memS T L || seq T "ValueError"
mutual
def noExc : D → Bool
  | .exc _ _ _ => false
  | .tup xs => noExcs xs
  | .lst xs => noExcs xs
  | .dct ks vs => noExcs ks && noExcs vs
  | .hou ts ks => noExcs ts && noExcs ks
  | .hou1 _ => false
  | _ => true
def noExcs : List D → Bool
  | [] => true
  | d :: ds => noExc d && noExcs ds
end
def tyOk (T : Str) : Bool := seq T "bool" || seq T "int" || seq T "str" || seq T "list" || seq T "tuple"

/-! ### expressions -/
def rd (S : Env) : Rv → Option D
  | .v _ d => some d
  | .p i => (S[i]?).getD none
  | .io => none
/-- the same, the row too -/
def rdR (S : Env) (r : Row) : Rv → Option D
  | .io => r.map .lst
  | x => rd S x
def rds (S : Env) : List Rv → Option (List D)
  | [] => some []
  | v :: vs => (rd S v).bind fun d => (rds S vs).map fun ds => d :: ds
/-- new, or without lists -/
def isNw : Rv → Bool
  | .v nw d => nw || d.lf
  | _ => false
def ret (nw : Bool) (d : Option D) (r : Row) : Out Rv := match d with
  | some d => .ok (.v nw d) r
  | none => .no
def retB (b : Option Bool) (r : Row) : Out Rv := match b with
  | some b => .ok (.v true (.bl b)) r
  | none => .no
structure Evs where
  ev : Ctx → Expr → Env → Row → Out Rv
  evT : Ctx → Expr → Env → Row → Out Bool
  exS : Ctx → Stmt → Env → Row → SO
def nst : Expr → Bool
  | .Starred _ _ => false
  | _ => true
def nsts : List Expr → Bool
  | [] => true
  | e :: es => nst e && nsts es
def evs1 (ev : Expr → Env → Row → Out Rv) : List Expr → Env → Row → Out (List Rv)
  | [], _, r => .ok [] r
  | e :: es, S, r => (ev e S r).bind fun v r => (evs1 ev es S r).bind fun vs r => .ok (v :: vs) r
def evs (ev : Expr → Env → Row → Out Rv) (es : List Expr) (S : Env) (r : Row) : Out (List Rv) := match nsts es with
  | true => evs1 ev es S r
  | false => .no
def noSet : Expr → Bool
  | .Set _ _ _ => false
  | _ => true
def isB : Rv → Option Bool
  | .v _ (.bl b) => some b
  | _ => none
def andV (ev : Expr → Env → Row → Out Rv) : List Expr → Env → Row → Out Rv
  | [], _, _ => .no
  | [e], S, r => ev e S r
  | e :: es, S, r => (ev e S r).bind fun v r => match isB v with
    | some true => andV ev es S r
    | some false => .ok (.v true (.bl false)) r
    | none => .no
def orV (ev : Expr → Env → Row → Out Rv) : List Expr → Env → Row → Out Rv
  | [], _, _ => .no
  | [e], S, r => ev e S r
  | e :: es, S, r => (ev e S r).bind fun v r => match isB v with
    | some false => orV ev es S r
    | some true => .ok (.v true (.bl true)) r
    | none => .no
def andT (evT : Expr → Env → Row → Out Bool) : List Expr → Env → Row → Out Bool
  | [], _, _ => .no
  | [e], S, r => evT e S r
  | e :: es, S, r => (evT e S r).bind fun b r => match b with
    | true => andT evT es S r
    | false => .ok false r
def orT (evT : Expr → Env → Row → Out Bool) : List Expr → Env → Row → Out Bool
  | [], _, _ => .no
  | [e], S, r => evT e S r
  | e :: es, S, r => (evT e S r).bind fun b r => match b with
    | false => orT evT es S r
    | true => .ok true r
def tyNames : List Expr → Option (List Str)
  | [] => some []
  | .Name x _ :: r => (tyNames r).map fun l => x :: l
  | _ :: _ => none
def gl1 (c : Ctx) (f : Str) : Bool := isGl c f
def evName (c : Ctx) (x : Str) (S : Env) (r : Row) : Out Rv := match slot c x with
  | some i => (match isIo c i with
    | true => (match r with
      | some _ => .ok .io r
      | none => .no)
    | false => (match S[i]? with
      | some (some d) => (match isOwn c i with
        | true => .ok (.p i) r
        | false => .ok (.v false d) r)
      | _ => .no))
  | none => (match isGl c x with
    | true => (match look x c.cst with
      | some d => .ok (.v false d) r
      | none => .no)
    | false => .no)
def cmp1 (ev : Expr → Env → Row → Out Rv) (l : Expr) (op : CmpOp) (b : Expr) (S : Env) (r : Row) : Out Bool := (ev l S r).bind fun x r => (ev b S r).bind fun y r => match rd S x, rd S y with
  | some x, some y => (match cmpD op x y with
    | some k => .ok k r
    | none => .no)
  | _, _ => .no
def cmp2 (ev : Expr → Env → Row → Out Rv) (l : Expr) (op : CmpOp) (b : Expr) (op' : CmpOp) (d : Expr) (S : Env) (r : Row) : Out Bool := (ev l S r).bind fun x r => (ev b S r).bind fun y r => match rd S x, rd S y with
  | some x, some y => (match ordD op x y with
    | some true => (ev d S r).bind fun z r => (match rd S z with
      | some z => (match ordD op' y z with
        | some k => .ok k r
        | none => .no)
      | none => .no)
    | some false => .ok false r
    | none => .no)
  | _, _ => .no
def cmpE (ev : Expr → Env → Row → Out Rv) (l : Expr) (ops : List CmpOp) (rs : List Expr) (S : Env) (r : Row) : Out Bool := match ops, rs with
  | [op], [b] => (match noSet b with
    | true => cmp1 ev l op b S r
    | false => .no)
  | [op, op'], [b, d] => (match noSet d with
    | true => cmp2 ev l op b op' d S r
    | false => .no)
  | _, _ => .no
def callFn (fn : Fn) (S : Env) (vs : List Rv) (r : Row) : Out Rv := match fn.io with
  | true => (match vs with
    | .io :: vs => (match rds S vs, r with
      | some ds, some row => (fn.run ds (some row)).bind fun d r => .ok (.v true d) r
      | _, _ => .no)
    | _ => .no)
  | false => (match rds S vs with
    | some ds => (match fn.run ds none with
      | .ok d _ => .ok (.v true d) r
      | .ex x _ => .ex x r
      | .no => .no)
    | none => .no)
def callMk (fn : Fn) (S : Env) (vs : List Rv) (r : Row) : Out Rv := match rds S vs with
  | some ds => (match fn.run ds none with
    | .ok d _ => .ok (.v true d) r
    | .ex x _ => .ex x r
    | .no => .no)
  | none => .no
def elfs : List D → Bool
  | [] => true
  | d :: ds => d.elf && elfs ds
def isiE (R : Evs) (c : Ctx) (a t : Expr) (S : Env) (r : Row) : Out Rv := match t with
  | .Name T _ => (match nst a, isGl c T, tyOk T with
    | true, true, true => (R.ev c a S r).bind fun v r => (match rd S v with
      | some d => retB (tyD T d) r
      | none => .no)
    | true, true, false => (match excT c.cls T && !c.calm with
      | true => (R.ev c a S r).bind fun v r => (match v with
        | .v _ (.exc cls [] _) => retB (isSub c.cls cls T) r
        | _ => .no)
      | false => .no)
    | _, _, _ => .no)
  | .Tuple [.Name T _, .Name U _] _ _ => (match nst a, isGl c T && tyOk T, isGl c U && tyOk U with
    | true, true, true => (R.ev c a S r).bind fun v r => (match rd S v with
      | some d => (match tyD T d, tyD U d with
        | some b1, some b2 => .ok (.v true (.bl (b1 || b2))) r
        | _, _ => .no)
      | none => .no)
    | _, _, _ => .no)
  | _ => .no
def bltE (R : Evs) (c : Ctx) (f : Str) (es : List Expr) (S : Env) (r : Row) : Out Rv := match es with
  | [a] => (match blt1 c.calm f with
    | some g => (evs (R.ev c) [a] S r).bind fun vs r => (match rds S vs with
      | some [d] => ret (d.elf) (g d) r
      | _ => .no)
    | none => .no)
  | [a, b] => (match seq f "isinstance" with
    | true => isiE R c a b S r
    | false => (match blt2 c.calm f with
      | some g => (evs (R.ev c) [a, b] S r).bind fun vs r => (match rds S vs with
        | some [x, y] => ret true (g x y) r
        | _ => .no)
      | none => .no))
  | _ => .no
def callE (R : Evs) (c : Ctx) (f : Str) (es : List Expr) (S : Env) (r : Row) : Out Rv := match isGl c f with
  | false => .no
  | true => match look f c.fns with
    | some fn => (match es, c.calm with
      | e :: es, true => (evs (R.ev c) (e :: es) S r).bind fun vs r => callFn fn S vs r
      | _, _ => .no)
    | none => (match look f c.mks with
      | some fn => (match es, c.calm with
        | e :: es, true => (evs (R.ev c) (e :: es) S r).bind fun vs r => callMk fn S vs r
        | _, _ => .no)
      | none => bltE R c f es S r)
def oneLine (apos pos : Pos) : Bool := apos.endLine == pos.line
def plainB : Expr → Bool
  | .Call (.Name _ _) [] [] _ => false
  | _ => true
def isHou : D → Bool
  | .hou _ _ => true
  | .hou1 _ => true
  | _ => false
/-- no attribute of a house itself -/
def notKept (m : Str) : Bool := !(seq m "kept_things") && !(seq m "kept_ties")
def houM (R : Evs) (c : Ctx) (o : Expr) (fn : Fn) (es : List Expr) (S : Env) (r : Row) : Out Rv := (R.ev c o S r).bind fun x r => (match x with
  | .v _ d => (match isHou d with
    | true => (evs (R.ev c) es S r).bind fun vs r => (match rds S vs with
      | some ds => (match fn.run (d :: ds) none with
        | .ok d _ => .ok (.v true d) r
        | _ => .no)
      | none => .no)
    | false => .no)
  | _ => .no)
def joinM (R : Evs) (c : Ctx) (o e : Expr) (S : Env) (r : Row) : Out Rv := (R.ev c o S r).bind fun x r => (match x with
  | .v _ (.str a) => (R.ev c e S r).bind fun y r => (match rd S y with
      | some y => ret true (joinD (.str a) y) r
      | none => .no)
  | _ => .no)
def methE (R : Evs) (c : Ctx) (o : Expr) (m : Str) (apos pos : Pos) (es : List Expr) (S : Env) (r : Row) : Out Rv := match oneLine apos pos && plainB o with
  | false => .no
  | true => (match look m c.mts with
    | some fn => (match c.calm && notKept m && Nat.ble es.length 4 && nsts es with
      | true => houM R c o fn es S r
      | false => .no)
    | none => (match seq m "join", es with
      | true, [e] => (match nst e with
        | true => joinM R c o e S r
        | false => .no)
      | _, _ => .no))
def isSl : Expr → Bool
  | .Slice _ _ _ _ => true
  | _ => false
/-- a part of a slice -/
def evP (ev : Expr → Env → Row → Out Rv) (e : Option Expr) (S : Env) (r : Row) : Out (Option Int) := match e with
  | none => .ok none r
  | some e => (ev e S r).bind fun v r => (match v with
    | .v _ (.int i) => .ok (some i) r
    | _ => .no)
/-- the comprehension's own names: by their slots -/
def ownOf (N : List Str) : List (Str × NameKind) → List (Str × Nat)
  | [] => []
  | (x, .local) :: r => (match idx x N 0 with
    | some i => (x, i) :: ownOf N r
    | none => ownOf N r)
  | (x, .cell) :: r => (match idx x N 0 with
    | some i => (x, i) :: ownOf N r
    | none => ownOf N r)
  | _ :: r => ownOf N r
def isFun : ScopeKind → Bool
  | .function => true
  | _ => false
def kEq : NameKind → NameKind → Bool
  | .local, .local => true
  | .cell, .cell => true
  | .free, .free => true
  | .globalExplicit, .globalExplicit => true
  | .globalImplicit, .globalImplicit => true
  | _, _ => false
def okN (x : Str) : Bool := !(seq x "__debug__") && !(seq x "__classdict__")
def blkB (sc scope : Scope) : Bool := isFun scope.kind && (scope.names.all fun y => okN y.1) && (scope.names.all fun y => match look y.1 scope.names with
    | some k => kEq k y.2
    | none => false) && (scope.names.all fun y => match y.2 with
      | .free => (match look y.1 sc.names with
        | some .cell => true
        | some .free => true
        | _ => false)
      | _ => true)
/-- a block's scope as it runs -/
def relF (scope sc : Scope) : Scope := { scope with names := scope.names.map fun p => match kEq p.2 .free && isFun sc.kind && (match look p.1 sc.names with
  | some .cell => true
  | _ => false) with
  | true => (p.1, .cell)
  | false => p }
def blkCtx (c : Ctx) (scope : Scope) : Ctx := { c with sc := relF scope c.sc, st := scope, loops := false, tries := false, exc := none }
def blkVs (c : Ctx) (scope : Scope) : List Nat := (ownOf c.N scope.names).map (·.2)
def unset (S : Env) : List Nat → Env
  | [] => S
  | i :: r => (unset S r).set i none
/-- the targets: a name, a tuple of names -/
def tgs (c : Ctx) : List Expr → List D → Env → Option Env
  | [], [], S => some S
  | .Name x _ :: es, d :: ds, S => (match slotL c x with
    | some i => (match isOwn c i || isIo c i with
      | false => tgs c es ds (S.set i (some d))
      | true => none)
    | none => none)
  | _, _, _ => none
def tgt (c : Ctx) (e : Expr) (d : D) (S : Env) : Option Env := match e with
  | .Name x p => tgs c [.Name x p] [d] S
  | .Tuple es _ _ => (match d, c.calm with
    | .tup ds, true => tgs c es ds S
    | _, _ => none)
  | _ => none
/-- the slots that a target stores -/
def tgSlots (c : Ctx) : List Expr → List Nat
  | .Name x _ :: es => (match slotL c x with
    | some i => i :: tgSlots c es
    | none => tgSlots c es)
  | _ => []
def tgIn (c : Ctx) (e : Expr) (vs : List Nat) : Bool := match e with
  | .Name x p => (tgSlots c [.Name x p]).all fun i => inN i vs
  | .Tuple es _ _ => (tgSlots c es).all fun i => inN i vs
  | _ => false
def isTup : Expr → Bool
  | .Tuple _ _ _ => true
  | _ => false
def zip2 : List D → List D → List D
  | x :: xs, y :: ys => .tup [x, y] :: zip2 xs ys
  | _, _ => []
def zip3 : List D → List D → List D → List D
  | x :: xs, y :: ys, z :: zs => .tup [x, y, z] :: zip3 xs ys zs
  | _, _, _ => []
/-- what can be walked as it stands -/
def seqOf : D → Option (List D)
  | .lst xs => some xs
  | .tup xs => some xs
  | .str x => some (x.cps.toList.map one1)
  | _ => none
def seqZ : D → Option (List D)
  | .lst xs => some xs
  | .tup xs => some xs
  | _ => none
def rng (lo hi : Int) : List D := (List.range (hi - lo).toNat).map fun (i : Nat) => D.int (lo + (i : Int))
def sm62 (i : Int) : Bool := Nat.ble i.natAbs 1000000000
def enumD : Nat → List D → List D
  | _, [] => []
  | n, d :: ds => .tup [.int (n : Int), d] :: enumD (n + 1) ds
def rng1 : List Rv → Option (List D)
  | [.v _ (.int n)] => gd (sm62 n) (rng 0 n)
  | _ => none
def rng2 : List Rv → Option (List D)
  | [.v _ (.int m), .v _ (.int n)] => gd (sm62 m && sm62 n) (rng m n)
  | _ => none
def enumI : List Rv → Option (List D)
  | [.v _ (.lst ds)] => some (enumD 0 ds)
  | _ => none
def revI : List Rv → Option (List D)
  | [.v _ (.lst ds)] => some ds.reverse
  | _ => none
def zipI2 : List Rv → Option (List D)
  | [.v _ x, .v _ y] => (match seqZ x, seqZ y with
    | some xs, some ys => some (zip2 xs ys)
    | _, _ => none)
  | _ => none
def zipI3 : List Rv → Option (List D)
  | [.v _ x, .v _ y, .v _ z] => (match seqZ x, seqZ y, seqZ z with
    | some xs, some ys, some zs => some (zip3 xs ys zs)
    | _, _, _ => none)
  | _ => none
def itA (ev : Expr → Env → Row → Out Rv) (es : List Expr) (g : List Rv → Option (List D)) (S : Env) (r : Row) : Out (List D × Option Nat) := (evs ev es S r).bind fun vs r => (match g vs with
  | some ds => .ok (ds, none) r
  | none => .no)
def itPlain (ev : Expr → Env → Row → Out Rv) (e : Expr) (S : Env) (r : Row) : Out (List D × Option Nat) := match noSet e with
  | true => (ev e S r).bind fun v r => (match v with
    | .v _ d => (match seqOf d with
      | some ds => .ok (ds, none) r
      | none => .no)
    | .p i => (match S[i]? with
      | some (some (.lst ds)) => .ok (ds, some i) r
      | _ => .no)
    | .io => .no)
  | false => .no
def itCall (ev : Expr → Env → Row → Out Rv) (tg : Expr) (f : Str) (es : List Expr) (S : Env) (r : Row) : Out (List D × Option Nat) := match es with
  | [a] => (match seq f "range" with
    | true => itA ev [a] rng1 S r
    | false => (match seq f "enumerate" && isTup tg with
      | true => itA ev [a] enumI S r
      | false => (match seq f "reversed" with
        | true => itA ev [a] revI S r
        | false => .no)))
  | [a, b] => (match seq f "range" with
    | true => itA ev [a, b] rng2 S r
    | false => (match seq f "zip" && isTup tg with
      | true => itA ev [a, b] zipI2 S r
      | false => .no))
  | [a, b, c] => (match seq f "zip" && isTup tg with
    | true => itA ev [a, b, c] zipI3 S r
    | false => .no)
  | _ => .no
def itName (f : Str) : Bool := seq f "range" || seq f "zip" || seq f "enumerate" || seq f "reversed"
/-- what a for walks: the items; whether they lie in a place of the frame's own -/
def itr (ev : Expr → Env → Row → Out Rv) (c : Ctx) (tg e : Expr) (S : Env) (r : Row) : Out (List D × Option Nat) := match e with
  | .Call (.Name f _) es [] _ => (match isGl c f && itName f && nsts es with
    | true => itCall ev tg f es S r
    | false => itPlain ev e S r)
  | e => itPlain ev e S r
def lcGo (bind : D → Option Env) (test : Env → Row → Out Bool) (elt : Env → Row → Out Rv) : List D → List D → Bool → Row → Out Rv
  | [], acc, nw, r => .ok (.v nw (.lst acc)) r
  | d :: ds, acc, nw, r => match bind d with
    | none => .no
    | some S => (match test S r with
      | .ok true r => (match elt S r with
        | .ok v r => (match v with
          | .v k y => (match sz acc.length with
            | true => lcGo bind test elt ds (acc ++ [y]) (nw && (k || y.lf)) r
            | false => .no)
          | _ => .no)
        | _ => .no)
      | .ok false r => lcGo bind test elt ds acc nw r
      | _ => .no)
def lcOk (c : Ctx) (tg : Expr) (scope : Scope) : Bool := c.calm && (blkB c.sc scope && (tgIn (blkCtx c scope) tg (blkVs c scope) && (blkVs c scope).all fun i => !(isOwn c i || isIo c i)))
def ifsE (R : Evs) (c : Ctx) (ifs : List Expr) (S : Env) (r : Row) : Out Bool := match ifs with
  | [] => .ok true r
  | [t] => R.evT c t S r
  | _ => .no
def lcEv (R : Evs) (c : Ctx) (elt tg it : Expr) (ifs : List Expr) (scope : Scope) (S : Env) (r : Row) : Out Rv :=
  (itr (R.ev c) c tg it S r).bind fun ds r => lcGo (fun d => tgt (blkCtx c scope) tg d (unset S (blkVs c scope))) (ifsE R (blkCtx c scope) ifs) (R.ev (blkCtx c scope) elt) ds.1 [] true r
def lcStep (R : Evs) (c : Ctx) (elt : Expr) (gens : List Comprehension) (scope : Scope) (S : Env) (r : Row) : Out Rv := match gens with
  | [⟨tg, it, ifs, 0⟩] => (match lcOk c tg scope && noSet it with
    | true => lcEv R c elt tg it ifs scope S r
    | false => .no)
  | _ => .no
def evStep (R : Evs) (c : Ctx) (e : Expr) (S : Env) (r : Row) : Out Rv := match e with
  | .Constant (.int i) _ _ => .ok (.v true (.int i)) r
  | .Constant (.str i) _ _ => .ok (.v true (.str i)) r
  | .Constant (.bool i) _ _ => .ok (.v true (.bl i)) r
  | .Constant .none _ _ => .ok (.v true .non) r
  | .Name x _ => evName c x S r
  | .BinOp a op b _ => (R.ev c a S r).bind fun x r => (R.ev c b S r).bind fun y r => (match rd S x, rd S y with
    | some x, some y => ret (x.elf && y.elf) (binD op x y) r
    | _, _ => .no)
  | .UnaryOp .USub a _ => (R.ev c a S r).bind fun x r => (match x with
    | .v _ (.int i) => .ok (.v true (.int (-i))) r
    | _ => .no)
  | .UnaryOp .Not a _ => (R.ev c a S r).bind fun x r => (match isB x with
    | some b => .ok (.v true (.bl (!b))) r
    | none => .no)
  | .Compare l ops rs _ => (cmpE (R.ev c) l ops rs S r).bind fun b r => .ok (.v true (.bl b)) r
  | .BoolOp .And es _ => andV (R.ev c) es S r
  | .BoolOp .Or es _ => orV (R.ev c) es S r
  | .IfExp t a b _ => (R.evT c t S r).bind fun k r => (match k with
    | true => R.ev c a S r
    | false => R.ev c b S r)
  | .Subscript a (.Slice lo hi none _) _ => (R.ev c a S r).bind fun x r => (evP (R.ev c) lo S r).bind fun l r => (evP (R.ev c) hi S r).bind fun h r => (match rd S x with
    | some x => ret x.elf (slD x l h) r
    | none => .no)
  | .Subscript a i _ => (match isSl i with
    | false => (R.ev c a S r).bind fun x r => (R.ev c i S r).bind fun y r => (match rdR S r x, rd S y with
      | some x, some y => ret (x.elf && y.elf) (ixD x y) r
      | _, _ => .no)
    | true => .no)
  | .Attribute o f _ => (match o with
    | .Name _ _ => (R.ev c o S r).bind fun x r => (match x with
      | .v _ (.hou ts ks) => (match seq f "kept_things" with
        | true => .ok (.v false (.lst ts)) r
        | false => (match seq f "kept_ties" with
          | true => .ok (.v false (.lst ks)) r
          | false => .no))
      | .v _ (.hou1 ts) => (match seq f "kept_things" with
        | true => .ok (.v false (.lst ts)) r
        | false => .no)
      | _ => .no)
    | _ => .no)
  | .Tuple es _ _ => (evs (R.ev c) es S r).bind fun vs r => (match rds S vs, sz es.length with
    | some ds, true => (match vs.all fun v => match v with
        | .v _ _ => true
        | _ => false with
      | true => .ok (.v (vs.all isNw) (.tup ds)) r
      | false => .no)
    | _, _ => .no)
  | .List es _ => (evs (R.ev c) es S r).bind fun vs r => (match rds S vs, sz es.length with
    | some ds, true => (match vs.all fun v => match v with
        | .v _ _ => true
        | _ => false with
      | true => .ok (.v (vs.all isNw) (.lst ds)) r
      | false => .no)
    | _, _ => .no)
  | .Dict [] [] _ => .ok (.v true (.dct [] [])) r
  | .Call (.Name f _) es [] _ => callE R c f es S r
  | .Call (.Attribute o m apos) es [] pos => methE R c o m apos pos es S r
  | .ListComp elt gens scope _ => lcStep R c elt gens scope S r
  | _ => .no
def evTStep (R : Evs) (c : Ctx) (e : Expr) (S : Env) (r : Row) : Out Bool := match e with
  | .UnaryOp .Not a _ => (R.evT c a S r).bind fun b r => .ok (!b) r
  | .BoolOp .And es _ => andT (R.evT c) es S r
  | .BoolOp .Or es _ => orT (R.evT c) es S r
  | .Compare l ops rs _ => cmpE (R.ev c) l ops rs S r
  | .IfExp _ _ _ _ => .no
  | e => (R.ev c e S r).bind fun x r => (match isB x with
    | some b => .ok b r
    | none => .no)

/-! ### statements -/
def seqS (exS : Stmt → Env → Row → SO) : List Stmt → Env → Row → SO
  | [], S, r => .nx S r
  | s :: ss, S, r => match exS s S r with
    | .nx S r => seqS exS ss S r
    | o => o
def forD (bind : D → Env → Option Env) (body : Env → Row → SO) : List D → Env → Row → SO
  | [], S, r => .nx S r
  | d :: ds, S, r => match bind d S with
    | none => .no
    | some S => (match body S r with
      | .nx S r => forD bind body ds S r
      | .ct S r => forD bind body ds S r
      | .bk S r => .nx S r
      | o => o)
def liftS {α : Type} (S : Env) (x : Out α) (f : α → Row → SO) : SO := match x with
  | .no => .no
  | .ok a r => f a r
  | .ex x r => .ex x S r
/-- a value goes into slot i -/
def putS (c : Ctx) (i : Nat) (v : Rv) (S : Env) (r : Row) : SO := match isIo c i with
  | true => (match v, r, S[i]? with
    | .v true (.lst ds), none, some _ => (match lfs ds with
      | true => .nx S (some ds)
      | false => .no)
    | _, _, _ => .no)
  | false => (match isOwn c i with
    | true => (match v with
      | .v true d => (match isCon d && d.elf with
        | true => .nx (S.set i (some d)) r
        | false => .no)
      | .p j => (match S[j]? with
        | some (some d) => .nx ((S.set j none).set i (some d)) r
        | _ => .no)
      | _ => .no)
    | false => (match v with
      | .v _ d => .nx (S.set i (some d)) r
      | .p j => (match S[j]? with
        | some (some d) => .nx ((S.set j none).set i (some d)) r
        | _ => .no)
      | .io => .no))
def retS (c : Ctx) (v : Rv) (S : Env) (r : Row) : SO := match v with
  | .v nw d => (match nw || d.lf with
    | true => .rt d r
    | false => .no)
  | .p j => (match S[j]? with
    | some (some d) => (match d.elf with
      | true => .rt d r
      | false => .no)
    | _ => .no)
  | .io => .no
def appF (xs : List D) : List D → Option (List D)
  | [d] => gd (sz xs.length) (xs ++ [d])
  | _ => none
def extF (xs : List D) : List D → Option (List D)
  | [.lst ys] => gd (sz (xs.length + ys.length)) (xs ++ ys)
  | _ => none
def insF (xs : List D) : List D → Option (List D)
  | [.int i, d] => gd (sz xs.length && decide (0 ≤ i) && decide (i ≤ xs.length)) (xs.take i.toNat ++ d :: xs.drop i.toNat)
  | _ => none
def clrF (xs : List D) : List D → Option (List D)
  | [] => some []
  | _ => none
def rvsF (xs : List D) : List D → Option (List D)
  | [] => some xs.reverse
  | _ => none
def mutS (m : Str) : Option (List D → List D → Option (List D)) := match seq m "append" with
  | true => some appF
  | false => match seq m "extend" with
  | true => some extF
  | false => match seq m "insert" with
  | true => some insF
  | false => match seq m "clear" with
  | true => some clrF
  | false => match seq m "reverse" with
  | true => some rvsF
  | false => none
def noComp : Expr → Bool
  | .ListComp _ _ _ _ => false
  | .SetComp _ _ _ _ => false
  | .DictComp _ _ _ _ _ => false
  | _ => true
def noTup : Expr → Bool
  | .Tuple _ _ _ => false
  | _ => true
def okComp : Expr → Bool
  | .SetComp _ _ _ _ => false
  | .DictComp _ _ _ _ _ => false
  | _ => true
def allV : List Rv → Bool
  | [] => true
  | .v _ _ :: r => allV r
  | _ :: _ => false
def exMut (ev : Expr → Env → Row → Out Rv) (g : List D → List D → Option (List D)) (i : Nat) (es : List Expr) (S : Env) (r : Row) : SO := match S[i]? with
  | some (some (.lst xs)) => liftS S (evs ev es S r) fun vs r => (match rds S vs, allV vs with
    | some ds, true => (match g xs ds with
      | some ys => .nx (S.set i (some (.lst ys))) r
      | none => .no)
    | _, _ => .no)
  | _ => .no
def exRaise (R : Evs) (c : Ctx) (x : Str) (es : List Expr) (S : Env) (r : Row) : SO := match look x c.exs with
  | some [] => (match es with
    | [.Constant (.str _) _ _] => .ex ⟨x, []⟩ S r
    | _ => .no)
  | some (n :: ns) => (match es with
    | e :: es => liftS S (evs (R.ev c) (e :: es) S r) fun vs r => (match rds S vs, allV vs with
      | some ds, true => (match lfs ds && Nat.beq ds.length (ns.length + 1) with
        | true => .ex ⟨x, (n :: ns).zip ds⟩ S r
        | false => .no)
      | _, _ => .no)
    | [] => .no)
  | none => .no
def exSet (R : Evs) (c : Ctx) (i : Nat) (e : Expr) (S : Env) (r : Row) : SO := match e with
  | .ListComp elt gens scope _ => liftS S (lcStep R c elt gens scope S r) fun v r => putS c i v S r
  | .SetComp _ _ _ _ => .no
  | .DictComp _ _ _ _ _ => .no
  | e => liftS S (R.ev c e S r) fun v r => putS c i v S r
/-- x[i] = e, x an own list or dict -/
def subOwn (k : Nat) (ee ei : Env → Row → Out Rv) (S : Env) (r : Row) : SO := match S[k]? with
  | some (some (.lst xs)) => liftS S (ee S r) fun v r => liftS S (ei S r) fun y r => (match v, y with
    | .v _ d, .v _ (.int z) => (match ixN xs.length z with
      | some j => .nx (S.set k (some (.lst (xs.set j d)))) r
      | none => .no)
    | _, _ => .no)
  | some (some (.dct ks vs)) => liftS S (ee S r) fun v r => liftS S (ei S r) fun y r => (match v, y with
    | .v _ d, .v _ key => (match storeD ks vs key d with
      | some p => .nx (S.set k (some (.dct p.1 p.2))) r
      | none => .no)
    | _, _ => .no)
  | _ => .no
/-- x[i] = e -/
def exSub (R : Evs) (c : Ctx) (k : Nat) (i e : Expr) (S : Env) (r : Row) : SO := match isIo c k with
  | true => liftS S (R.ev c e S r) fun v r => (match r with
    | some ds0 => liftS S (R.ev c i S (some ds0)) fun y r => (match v, y, r with
      | .v _ d, .v _ (.int z), some ds => (match ixN ds.length z, d.lf with
        | some j, true => .nx S (some (ds.set j d))
        | _, _ => .no)
      | _, _, _ => .no)
    | none => .no)
  | false => (match isOwn c k with
    | true => subOwn k (R.ev c e) (R.ev c i) S r
    | false => .no)
def suCtx (c : Ctx) : Ctx := { c with calm := false, loops := false, tries := false }
def excD (z : DX) : D := .exc z.cls (z.flds.map (·.1)) (z.flds.map (·.2))
def noExcO : List (Option D) → Bool
  | [] => true
  | some d :: r => noExc d && noExcO r
  | none :: r => noExcO r
def noExcR : Row → Bool
  | some ds => noExcs ds
  | none => true
def endTry (f : Env → Env) : SO → SO
  | .nx S r => (match noExcO (f S) && noExcR r with
    | true => .nx (f S) r
    | false => .no)
  | .bk S r => (match noExcO (f S) && noExcR r with
    | true => .bk (f S) r
    | false => .no)
  | .ct S r => (match noExcO (f S) && noExcR r with
    | true => .ct (f S) r
    | false => .no)
  | .rt d r => (match noExc d && noExcR r with
    | true => .rt d r
    | false => .no)
  | _ => .no
/-- the slot of the suite's name -/
def slotE (c : Ctx) (n : Str) : Option Nat := match look n c.st.names with
  | some .local => (match idx n c.N 0 with
    | some i => (match isOwn c i || isIo c i with
      | false => some i
      | true => none)
    | none => none)
  | _ => none
def exTry (R : Evs) (c : Ctx) (body : List Stmt) (T : Str) (nm : Option Str) (suite : List Stmt) (S : Env) (r : Row) : SO := match c.calm && c.loops && c.tries && isGl c T && excT c.cls T && !suite.isEmpty with
  | false => .no
  | true => (match nm with
    | some n => (match slotE c n with
      | none => .no
      | some i => (match seqS (R.exS c) body S r with
        | .ex z S1 r1 => (match isSub c.cls z.cls T, z.flds with
          | some true, [] => endTry (fun S => S.set i none) (seqS (R.exS (suCtx c)) suite (S1.set i (some (excD z))) r1)
          | some false, _ => .ex z S1 r1
          | _, _ => .no)
        | o => o))
    | none => (match seqS (R.exS c) body S r with
      | .ex z S1 r1 => (match isSub c.cls z.cls T with
        | some true => endTry id (seqS (R.exS (suCtx c)) suite S1 r1)
        | some false => .ex z S1 r1
        | none => .no)
      | o => o))
def exStep (R : Evs) (c : Ctx) (s : Stmt) (S : Env) (r : Row) : SO := match s with
  | .Pass _ => .nx S r
  | .Break _ => .bk S r
  | .Continue _ => .ct S r
  | .Return none _ => .rt .non r
  | .Return (some e) _ => liftS S (R.ev c e S r) fun v r => retS c v S r
  | .If t a b _ => liftS S (R.evT c t S r) fun k r => (match k with
    | true => seqS (R.exS c) a S r
    | false => seqS (R.exS c) b S r)
  | .Assign [.Name x _] e _ => (match slotL c x with
    | some i => exSet R c i e S r
    | none => .no)
  | .Assign [.Subscript (.Name x _) i _] e _ => (match slot c x, !(isSl i) && noTup e && noComp e with
    | some k, true => exSub R c k i e S r
    | _, _ => .no)
  | .Assign [.Tuple es k p] e _ => (match noComp e && noTup e with
    | true => liftS S (R.ev c e S r) fun v r => (match v with
      | .v _ d => (match tgt c (.Tuple es k p) d S with
        | some S => .nx S r
        | none => .no)
      | _ => .no)
    | false => .no)
  | .Expr (.Call (.Attribute (.Name x _) m apos) es [] pos) _ => (match slot c x with
    | some i => (match isOwn c i && !(isIo c i) && oneLine apos pos && nsts es && Nat.ble es.length 4 with
      | true => (match mutS m with
        | some g => exMut (R.ev c) g i es S r
        | none => .no)
      | false => .no)
    | none => .no)
  | .Expr (.Call (.Name f p1) es [] p2) _ => liftS S (R.ev c (.Call (.Name f p1) es [] p2) S r) fun _ r => .nx S r
  | .For tg it body [] _ => (match c.calm && c.loops && noSet it with
    | true => liftS S (itr (R.ev c) c tg it S r) fun ds r => forD (tgt c tg) (seqS (R.exS c) body) ds.1 (match ds.2 with
        | some i => S.set i none
        | none => S) r
    | false => .no)
  | .Raise (some (.Call (.Name x _) es [] _)) none _ => (match c.calm && c.loops && isGl c x with
    | true => exRaise R c x es S r
    | false => .no)
  | .Try body [.ExceptHandler (some (.Name T _)) nm suite _] [] [] _ => exTry R c body T nm suite S r
  | _ => .no
def evN : Nat → Evs
  | 0 => ⟨fun _ _ _ _ => .no, fun _ _ _ _ => .no, fun _ _ _ _ => .no⟩
  | n + 1 => ⟨evStep (evN n), evTStep (evN n), exStep (evN n)⟩
/-- is the row handed in -/
def ioB (c : Ctx) : Bool := match c.io with
  | some 0 => true
  | _ => false
/-- a def's body: args from its parameters (the row's place aside) -/
def startE (c : Ctx) (args : List D) : Env := match ioB c with
  | true => none :: (args.map some ++ List.replicate (c.N.length - 1 - args.length) none)
  | false => args.map some ++ List.replicate (c.N.length - args.length) none
def outB : SO → Out D
  | .nx _ r => .ok .non r
  | .rt d r => .ok d r
  | .ex x _ r => .ex x r
  | _ => .no
def runB (n : Nat) (c : Ctx) (body : List Stmt) (args : List D) (r : Row) : Out D := match Nat.beq args.length c.np with
  | true => outB (seqS ((evN n).exS c) body (startE c args) r)
  | false => .no
def mkFn (n : Nat) (c : Ctx) (body : List Stmt) : Fn := ⟨ioB c, runB n c body⟩
/-- what an exception tells holds no exception -/
def exNo (x : DX) : Out D := match noExcs (x.flds.map (·.2)) with
  | true => .ex x none
  | false => .no
def houEnd (n : Nat) (c : Ctx) (e5 : Expr) (ts : List D) : SO → Out D
  | .nx S2 r => (match (evN n).ev c e5 S2 r, S2[0]? with
    | .ok (.v true (.lst ks)) _, some (some (D.hou1 _)) => (match noExcs ts && noExcs ks with
      | true => .ok (.hou ts ks) none
      | false => .no)
    | _, _ => .no)
  | .ex x _ _ => exNo x
  | _ => .no
def houMid (n : Nat) (c : Ctx) (e2 s3 : Expr) (k : List D → Env → Row → SO) : SO → Out D
  | .nx S r => (match (evN n).ev c e2 S r, S[0]? with
    | .ok (.v true (.lst ts)) r, some (some (D.exc _ [] _)) => houEnd n c s3 ts (k ts (S.set 0 (some (.hou1 ts))) r)
    | _, _ => .no)
  | .ex x _ _ => exNo x
  | _ => .no
/-- House.__init__ -/
def houRun (n : Nat) (c : Ctx) (body : List Stmt) (args : List D) (_ : Row) : Out D := match args, body with
  | [a, b], [s0, s1, .Assign [.Attribute _ _ _] e2 _, s3, s4, .Assign [.Attribute _ _ _] e5 _] => houMid n c e2 e5 (fun _ S r => seqS ((evN n).exS c) [s3, s4] S r) (seqS ((evN n).exS c) [s0, s1] (some (.exc "House" [] []) :: some a :: some b :: List.replicate (c.N.length - 3) none) none)
  | _, _ => .no
def noFn : Fn := ⟨false, fun _ _ => .no⟩
end TH

set_option Elab.async false
set_option linter.all false
set_option maxRecDepth 100000
set_option maxHeartbeats 4000000
/-! DV2: the frame over data; what the evaluator's words mean as readings. -/
namespace TH
open PySem PySem.Spec PyProof.Rows L2

/-- but for its own address -/
def RpE (R : RC) (P : Addr → Prop) (H : Hp) (v : V) : D → Prop
  | .lst ds => ∃ a xs, v = .ref a ∧ H a = some (.lst xs) ∧ Rps R P H xs ds
  | .dct ks ds => ∃ (a : Addr) (xs : List (NestedKey × Addr × Value)) (vs : List V), v = .ref a ∧ H a = some (DicO R.prog R.w a xs) ∧ nks ks = some (xs.map (·.1)) ∧ Rps R P H (xs.map fun x => .ref x.2.1) ks ∧ Vals vs (xs.map (·.2.2)) ∧ Rps R P H vs ds
  | d => Rp R P H v d
theorem Rp.e {R : RC} {P : Addr → Prop} {H : Hp} {v : V} {d : D} (h : Rp R P H v d) : RpE R P H v d := by
  cases d with
  | lst ds =>
    cases h with
    | lst p h r => exact ⟨_, _, rfl, h, r⟩
  | dct ks ds =>
    cases h with
    | dct p h n r1 z r2 => exact ⟨_, _, _, rfl, h, n, r1, z, r2⟩
  | _ => exact h
theorem RpE.rp {R : RC} {P : Addr → Prop} {H : Hp} {v : V} {d : D} (h : RpE R P H v d) (hP : ∀ a, v = .ref a → isCon d = true → P a) : Rp R P H v d := by
  cases d with
  | lst ds =>
    obtain ⟨a, xs, rfl, h1, r⟩ := h
    exact .lst (hP a rfl rfl) h1 r
  | dct ks ds =>
    obtain ⟨a, xs, vs, rfl, h1, n, r1, z, r2⟩ := h
    exact .dct (hP a rfl rfl) h1 n r1 z r2
  | _ => exact h
theorem RpE.imp {R : RC} {P P' : Addr → Prop} {H : Hp} {v : V} {d : D} (h : RpE R P H v d) (hP : ∀ a, P a → P' a) : RpE R P' H v d := by
  cases d with
  | lst ds =>
    obtain ⟨a, xs, rfl, h1, r⟩ := h
    exact ⟨a, xs, rfl, h1, r.imp hP⟩
  | dct ks ds =>
    obtain ⟨a, xs, vs, rfl, h1, n, r1, z, r2⟩ := h
    exact ⟨a, xs, vs, rfl, h1, n, r1.imp hP, z, r2.imp hP⟩
  | _ => exact Rp.imp hP h
theorem RpE.elf {R : RC} {P : Addr → Prop} (P' : Addr → Prop) {H : Hp} {v : V} {d : D} (z : d.elf = true) (h : RpE R P H v d) : RpE R P' H v d := by
  cases d with
  | lst ds =>
    obtain ⟨a, xs, rfl, h1, r⟩ := h
    exact ⟨a, xs, rfl, h1, r.lf P' z⟩
  | dct ks ds =>
    obtain ⟨a, xs, vs, rfl, h1, n, r1, q, r2⟩ := h
    have z2 : (lfs ks && lfs ds) = true := z
    rw [Bool.and_eq_true] at z2
    exact ⟨a, xs, vs, rfl, h1, n, r1.lf P' z2.1, q, r2.lf P' z2.2⟩
  | _ => exact Rp.lf P' z h
/-- of any place -/
abbrev RpT (R : RC) (H : Hp) (v : V) (d : D) : Prop := Rp R (fun _ => True) H v d
abbrev RpsT (R : RC) (H : Hp) (vs : List V) (ds : List D) : Prop := Rps R (fun _ => True) H vs ds
theorem RpE.t {R : RC} {P : Addr → Prop} {H : Hp} {v : V} {d : D} (h : RpE R P H v d) : RpT R H v d := (h.imp (P' := fun _ => True) fun _ _ => True.intro).rp fun _ _ _ => True.intro

/-- the row's address -/
def ioA (c : Ctx) (σ : L2.St) : List Addr := match c.io with
  | none => []
  | some i => (match σ[i]? with
    | some (some (.ref r)) => [r]
    | _ => [])
/-- where a def began: the heap, the row's place -/
structure Bg where
  H : Hp
  r : Option Addr
structure Fr (R : RC) (c : Ctx) (B : Bg) (O : List Addr) (S : Env) (row : Row) (σ : L2.St) (H : Hp) : Prop where
  len : S.length = σ.length
  keep : ∀ a o, B.H a = some o → B.r ≠ some a → H a = some o
  bdom : ∀ a o, B.H a = some o → ∃ o', H a = some o'
  odom : ∀ a ∈ O, ∃ o, H a = some o
  onew : ∀ a ∈ O, B.r ≠ some a → B.H a = none
  val : ∀ i d, S[i]? = some (some d) → isOwn c i = false → ∃ v, σ[i]? = some (some v) ∧ Rp R (· ∉ O) H v d
  own : ∀ i d, S[i]? = some (some d) → isOwn c i = true → ∃ a, σ[i]? = some (some (.ref a)) ∧ a ∈ O ∧ B.r ≠ some a ∧ RpE R (· ∉ O) H (.ref a) d ∧ isCon d = true
  inj : ∀ i j d d' a, S[i]? = some (some d) → S[j]? = some (some d') → isOwn c i = true → isOwn c j = true → σ[i]? = some (some (.ref a)) → σ[j]? = some (some (.ref a)) → i = j
  io : ∀ ds, row = some ds → ∃ i r xs, c.io = some i ∧ σ[i]? = some (some (.ref r)) ∧ r ∈ O ∧ (B.r = some r ∨ B.H r = none) ∧ H r = some (.lst xs) ∧ Rps R (fun _ => False) H xs ds ∧
    (∀ j d, S[j]? = some (some d) → isOwn c j = true → σ[j]? ≠ some (some (.ref r)))
  ion : ∀ i, c.io = some i → (∃ x, S[i]? = some x) → S[i]? = some none
  ior : ∀ r, B.r = some r → ∃ ds i, row = some ds ∧ c.io = some i ∧ σ[i]? = some (some (.ref r))
  iod : ∀ r ∈ ioA c σ, r ∈ O ∧ (B.r = some r ∨ B.H r = none) ∧ ∀ j d, S[j]? = some (some d) → isOwn c j = true → σ[j]? ≠ some (some (.ref r))
/-- a value of the evaluator stands so: Hs where the expression began -/
def RvOk (R : RC) (c : Ctx) (O : List Addr) (S : Env) (σ : L2.St) (Hs H : Hp) (v : V) : Rv → Prop
  | .v nw d => Rp R (· ∉ O) H v d ∧ (nw = true → Rp R (fun a => Hs a = none) H v d)
  | .p i => isOwn c i = true ∧ σ[i]? = some (some v) ∧ ∃ d, S[i]? = some (some d)
  | .io => ∃ i, c.io = some i ∧ σ[i]? = some (some v)
def XFl (R : RC) (H : Hp) : List (Str × D) → Option Addr → Prop
  | [], dd => dd = none
  | fs, dd => ∃ d fl, dd = some d ∧ H d = some (.xd fl) ∧ ∀ f z, (f, z) ∈ fs → ∃ v, fl.lookup f = some v ∧ Rp R (fun _ => False) H v z
/-- an exception's class -/
def xcls (R : RC) (x : DX) : Value := .ref (He.ga R.K x.cls)
/-- what an expression may change: the row alone -/
structure ExE (c : Ctx) (σ : L2.St) (O : List Addr) (H H' : Hp) : Prop where
  ext : Ext O H H'
  io : Ext (ioA c σ) H H'
theorem ExE.refl {c : Ctx} {σ : L2.St} {O : List Addr} {H : Hp} : ExE c σ O H H := ⟨Ext.refl, Ext.refl⟩
theorem ExE.trans {c : Ctx} {σ : L2.St} {O : List Addr} {H H1 H' : Hp} (a : ExE c σ O H H1) (b : ExE c σ O H1 H') : ExE c σ O H H' := ⟨a.ext.trans b.ext, a.io.trans b.io⟩
theorem ExE.fresh {c : Ctx} {σ : L2.St} {O : List Addr} {H H' : Hp} (e : ExE c σ O H H') {a : Addr} (h : H' a = none) : H a = none := e.ext.fresh h
theorem Same.exE {c : Ctx} {σ : L2.St} {O : List Addr} {H H' : Hp} (h : Same H H') : ExE c σ O H H' := ⟨Same.ext h, Same.ext h⟩
def OutP (R : RC) (c : Ctx) (B : Bg) (W : WX) (O : List Addr) (S : Env) (σ : L2.St) (H : Hp) {α : Type} (x : Out α) (Q : α → Row → Hp → Prop) : Prop := match x with
  | .no => False
  | .ok a row => ∀ H', Fr R c B O S row σ H' → ExE c σ O H H' → Q a row H'
  | .ex x row => ∀ dd H', Fr R c B O S row σ H' → ExE c σ O H H' → XFl R H' x.flds dd → W (xcls R x) dd σ H'
/-- the reading of an expression -/
def tE (R : RC) (c : Ctx) (B : Bg) (W : WX) (f : Env → Row → Out Rv) : TE := fun σ H Q => ∃ O S row, Fr R c B O S row σ H ∧
  OutP R c B W O S σ H (f S row) fun rv _ H' => ∀ v, RvOk R c O S σ H H' v rv → Q v H'
def tT (R : RC) (c : Ctx) (B : Bg) (W : WX) (f : Env → Row → Out Bool) : TT := fun σ H Q => ∃ O S row, Fr R c B O S row σ H ∧
  OutP R c B W O S σ H (f S row) fun b _ H' => Q b H'
def RvsOk (R : RC) (c : Ctx) (O : List Addr) (S : Env) (σ : L2.St) (Hs H : Hp) (vs : List V) (rs : List Rv) : Prop := Paired (RvOk R c O S σ Hs H) vs rs
def tA (R : RC) (c : Ctx) (B : Bg) (W : WX) (f : Env → Row → Out (List Rv)) : TA := fun σ H Q => ∃ O S row, Fr R c B O S row σ H ∧
  OutP R c B W O S σ H (f S row) fun rs _ H' => ∀ vs, RvsOk R c O S σ H H' vs rs → Q vs H'
structure RetOk (R : RC) (B : Bg) (row : Row) (H : Hp) (v : V) (d : D) : Prop where
  keep : ∀ a o, B.H a = some o → B.r ≠ some a → H a = some o
  bdom : ∀ a o, B.H a = some o → ∃ o', H a = some o'
  row : ∀ r, B.r = some r → ∃ ds xs, row = some ds ∧ H r = some (.lst xs) ∧ Rps R (fun _ => False) H xs ds
  rp : Rp R (fun a => B.H a = none) H v d
def OutS (R : RC) (c : Ctx) (B : Bg) (W : WX) (O : List Addr) (H : Hp) (x : SO) (Dn : Ends) : Prop := match x with
  | .no => False
  | .nx S row => ∀ O' σ' H', Fr R c B O' S row σ' H' → Ext O H H' → Sub O O' H → Dn.nx σ' H'
  | .bk S row => ∀ O' σ' H', Fr R c B O' S row σ' H' → Ext O H H' → Sub O O' H → Dn.bk σ' H'
  | .ct S row => ∀ O' σ' H', Fr R c B O' S row σ' H' → Ext O H H' → Sub O O' H → Dn.ct σ' H'
  | .rt d row => ∀ v H', RetOk R B row H' v d → Dn.rt v H'
  | .ex x S row => ∀ dd O' σ' H', Fr R c B O' S row σ' H' → Ext O H H' → Sub O O' H → XFl R H' x.flds dd → W (xcls R x) dd σ' H'
def tS (R : RC) (c : Ctx) (B : Bg) (W : WX) (f : Env → Row → SO) : TS := fun Dn σ H => ∃ O S row, Fr R c B O S row σ H ∧ OutS R c B W O H (f S row) Dn

section
variable {R : RC} {c : Ctx} {B : Bg} {W : WX} {O O' : List Addr} {S : Env} {row row' : Row} {σ : L2.St} {H H' H'' : Hp}

theorem RpE.keep {P P' : Addr → Prop} (e : Ext O H H') (hP : ∀ a, P a → a ∉ O) (hQ : ∀ a, P a → P' a) {d : D} {v : V} (h : RpE R P H v d) (ha : ∀ a, v = .ref a → isCon d = true → ∀ o, H a = some o → H' a = some o) : RpE R P' H' v d := by
  cases d with
  | lst ds =>
    obtain ⟨a, xs, rfl, h1, r⟩ := h
    exact ⟨a, xs, rfl, ha a rfl rfl _ h1, r.keep e hP hQ⟩
  | dct ks ds =>
    obtain ⟨a, xs, vs, rfl, h1, n, r1, z, r2⟩ := h
    exact ⟨a, xs, vs, rfl, ha a rfl rfl _ h1, n, r1.keep e hP hQ, z, r2.keep e hP hQ⟩
  | _ => exact Rp.keep e hP hQ h
theorem Same.sub (h : Same H H') : Ext O H H' := Same.ext h
/-- nothing but new objects came -/
theorem Fr.same (F : Fr R c B O S row σ H) (h : Same H H') : Fr R c B O S row σ H' := by
  have e : Ext O H H' := Same.ext h
  refine ⟨F.len, fun a o z k => h _ _ (F.keep a o z k), fun a o z => let ⟨o', q⟩ := F.bdom a o z; ⟨o', h _ _ q⟩, fun a z => let ⟨o, q⟩ := F.odom a z; ⟨o, h _ _ q⟩, F.onew, fun i d z k => ?_, fun i d z k => ?_, F.inj, fun ds z => ?_, F.ion, F.ior, F.iod⟩
  · obtain ⟨v, q, r⟩ := F.val i d z k
    exact ⟨v, q, r.keep e (fun _ x => x) fun _ x => x⟩
  · obtain ⟨a, q, m, nb, r, k2⟩ := F.own i d z k
    exact ⟨a, q, m, nb, r.keep e (fun _ x => x) (fun _ x => x) (fun b eb _ o ho => h _ _ ho), k2⟩
  · obtain ⟨i, r, xs, z1, z2, z3, z4, z5, z6, z7⟩ := F.io ds z
    exact ⟨i, r, xs, z1, z2, z3, z4, h _ _ z5, z6.keep e (fun _ x => x.elim) (fun _ x => x), z7⟩
theorem RvOk.keep {Hs : Hp} {v : V} {rv : Rv} (h : RvOk R c O S σ Hs H v rv) (e : ExE c σ O H H') (ho : ∀ a ∈ O, ∃ o, Hs a = some o) : RvOk R c O S σ Hs H' v rv := by
  cases rv with
  | v nw d =>
    refine ⟨h.1.keep e.ext (fun _ x => x) fun _ x => x, fun k => (h.2 k).keep e.ext (fun a x m => ?_) fun _ x => x⟩
    obtain ⟨o, z⟩ := ho a m
    rw [x] at z
    cases z
  | p i => exact h
  | io => exact h
/-- an expression that began later -/
theorem RvOk.back {Hs Hs' : Hp} {v : V} {rv : Rv} (h : RvOk R c O S σ Hs' H v rv) (e : ExE c σ O Hs Hs') : RvOk R c O S σ Hs H v rv := by
  cases rv with
  | v nw d => exact ⟨h.1, fun k => (h.2 k).imp fun a z => e.fresh z⟩
  | p i => exact h
  | io => exact h
theorem RvsOk.keep {Hs : Hp} : ∀ {vs : List V} {rs : List Rv}, RvsOk R c O S σ Hs H vs rs → ExE c σ O H H' → (∀ a ∈ O, ∃ o, Hs a = some o) → RvsOk R c O S σ Hs H' vs rs
  | _, _, .nil, _, _ => .nil
  | _, _, .cons r t, e, ho => .cons (r.keep e ho) (RvsOk.keep t e ho)
theorem RvsOk.back {Hs Hs' : Hp} : ∀ {vs : List V} {rs : List Rv}, RvsOk R c O S σ Hs' H vs rs → ExE c σ O Hs Hs' → RvsOk R c O S σ Hs H vs rs
  | _, _, .nil, _ => .nil
  | _, _, .cons r t, e => .cons (r.back e) (RvsOk.back t e)
theorem Fr.odo (F : Fr R c B O S row σ H) : ∀ a ∈ O, ∃ o, H a = some o := F.odom
/-- what is read of it -/
theorem RvOk.view {Hs : Hp} {v : V} {rv : Rv} {d : D} (F : Fr R c B O S row σ H) (h : RvOk R c O S σ Hs H v rv) (hd : rd S rv = some d) : RpE R (· ∉ O) H v d := by
  cases rv with
  | v nw d' =>
    have e : d' = d := Option.some.inj hd
    subst e
    exact h.1.e
  | p i =>
    obtain ⟨h1, h2, d', h3⟩ := h
    have e : (S[i]?).getD none = some d := hd
    rw [h3] at e
    have e2 : d' = d := Option.some.inj e
    subst e2
    obtain ⟨a, q, m, nb, r, k⟩ := F.own i d' h3 h1
    rw [h2] at q
    have e3 : v = .ref a := Option.some.inj (Option.some.inj q)
    rw [e3]
    exact r
  | io => exact nomatch hd
theorem RvOk.viewR {Hs : Hp} {v : V} {rv : Rv} {d : D} (F : Fr R c B O S row σ H) (h : RvOk R c O S σ Hs H v rv) (hd : rdR S row rv = some d) : RpE R (· ∉ O) H v d := by
  cases rv with
  | v nw d' => exact h.view F hd
  | p i => exact h.view F hd
  | io =>
    have e : row.map D.lst = some d := hd
    rw [Option.map_eq_some_iff] at e
    obtain ⟨ds, e1, e2⟩ := e
    subst e2
    obtain ⟨i, r, xs, z1, z2, z3, z4, z5, z6, z7⟩ := F.io ds e1
    obtain ⟨j, h1, h2⟩ := h
    rw [z1] at h1
    cases h1
    rw [z2] at h2
    cases h2
    exact ⟨r, xs, rfl, z5, z6.imp fun _ z => z.elim⟩
theorem rds_view {Hs : Hp} (F : Fr R c B O S row σ H) : ∀ {vs : List V} {rs : List Rv} {ds : List D}, RvsOk R c O S σ Hs H vs rs → rds S rs = some ds → RpsT R H vs ds
  | [], [], ds, .nil, e => by
    have e2 : [] = ds := Option.some.inj e
    subst e2
    exact .nil
  | _ :: _, v :: vs, ds, .cons r t, e => by
    have e1 : ((rd S v).bind fun d => (rds S vs).map fun ds => d :: ds) = some ds := e
    rw [Option.bind_eq_some_iff] at e1
    obtain ⟨d, h1, h2⟩ := e1
    rw [Option.map_eq_some_iff] at h2
    obtain ⟨ds', h3, h4⟩ := h2
    subst h4
    exact .cons (r.view F h1).t (rds_view F t h3)
/-- the heap where a further expression begins may be the later one -/
theorem OutP.rebase {α : Type} {x : Out α} {Q : α → Row → Hp → Prop} (e : ExE c σ O H H') (h : OutP R c B W O S σ H x Q) : OutP R c B W O S σ H' x Q := by
  cases x with
  | no => exact h
  | ok a r => exact fun H2 F e2 => h H2 F (e.trans e2)
  | ex a r => exact fun dd H2 F e2 z => h dd H2 F (e.trans e2) z
theorem OutP.mono {α : Type} {x : Out α} {Q Q' : α → Row → Hp → Prop} (h : OutP R c B W O S σ H x Q) (k : ∀ a r H', Fr R c B O S r σ H' → ExE c σ O H H' → Q a r H' → Q' a r H') : OutP R c B W O S σ H x Q' := by
  cases x with
  | no => exact h
  | ok a r => exact fun H2 F e2 => k _ _ _ F e2 (h H2 F e2)
  | ex a r => exact h
theorem OutP.bind {α β : Type} {x : Out α} {f : α → Row → Out β} {Q : β → Row → Hp → Prop} (h : OutP R c B W O S σ H (x.bind f) Q) :
    OutP R c B W O S σ H x fun a r H' => OutP R c B W O S σ H' (f a r) Q := by
  cases x with
  | no => exact h
  | ok a r => exact fun H2 F e2 => OutP.rebase e2 h
  | ex a r => exact h
end

theorem PE.imp {X : Cx} {e : Expr} {t t' : TE} (h : PE X e t) (k : ∀ σ H Q, t' σ H Q → t σ H Q) : PE X e t' := ⟨fun pins s σ H Q I q => h.run pins s σ H Q I (k _ _ _ q)⟩
theorem PT.imp {X : Cx} {e : Expr} {t t' : TT} (h : PT X e t) (k : ∀ σ H Q, t' σ H Q → t σ H Q) : PT X e t' := ⟨fun pins s σ H Q I q => h.run pins s σ H Q I (k _ _ _ q)⟩
theorem PW.imp {X : Cx} {e : Expr} {t t' : TT} (h : PW X e t) (k : ∀ σ H Q, t' σ H Q → t σ H Q) : PW X e t' := ⟨fun wh pins s σ H Q I q => h.run wh pins s σ H Q I (k _ _ _ q)⟩
theorem PA.imp {X : Cx} {es : List Expr} {t t' : TA} (h : PA X es t) (k : ∀ σ H Q, t' σ H Q → t σ H Q) : PA X es t' := ⟨fun pos pins s σ H Q I q => h.run pos pins s σ H Q I (k _ _ _ q)⟩
theorem PS.imp {X : Cx} {e : Stmt} {t t' : TS} (h : PS X e t) (k : ∀ D σ H, t' D σ H → t D σ H) : PS X e t' := ⟨fun pins s σ H D I q => h.run pins s σ H D I (k _ _ _ q)⟩
theorem PSs.imp {X : Cx} {e : List Stmt} {t t' : TS} (h : PSs X e t) (k : ∀ D σ H, t' D σ H → t D σ H) : PSs X e t' := ⟨fun pins s σ H D I q => h.run pins s σ H D I (k _ _ _ q)⟩
theorem PE.never {X : Cx} {e : Expr} : PE X e fun _ _ _ => False := ⟨fun _ _ _ _ _ _ h => h.elim⟩
theorem PT.never {X : Cx} {e : Expr} : PT X e fun _ _ _ => False := ⟨fun _ _ _ _ _ _ h => h.elim⟩
theorem PS.never {X : Cx} {e : Stmt} : PS X e fun _ _ _ => False := ⟨fun _ _ _ _ _ _ h => h.elim⟩
end TH

set_option Elab.async false
set_option linter.all false
set_option maxRecDepth 100000
set_option maxHeartbeats 4000000
/-! DV3: the operators' rules on data. -/
namespace TH
open PySem PySem.Spec PyProof.Rows L2

abbrev rc (X : Cx) (C : Cn) : RC := ⟨X.prog, X.w, X.K, C⟩
/-- what an operation on data gives: v is made of the arguments and of new objects -/
def Made (R : RC) (H H' : Hp) (xs : List (V × D)) (v : V) (d : D) : Prop := Same H H' ∧ ∀ P : Addr → Prop, (∀ p ∈ xs, RpE R P H p.1 p.2) → (∀ a, H a = none → P a) → Rp R P H' v d
def rOp (R : RC) (g : D → D → Option D) : R2 := fun x y H Q => ∃ dx dy d, RpT R H x dx ∧ RpT R H y dy ∧ g dx dy = some d ∧ ∀ v H', Made R H H' [(x, dx), (y, dy)] v d → Q v H'
theorem made_lf {R : RC} {H : Hp} {xs : List (V × D)} {v : V} {d : D} (h : ∀ P, Rp R P H v d) : Made R H H xs v d := ⟨Same.refl H, fun P _ _ => h P⟩
theorem same_upd {H : Hp} {p : Addr} {o : HO} (h : H p = none) : Same H (upd H p o) := fun a u e => by
  rw [upd_ne (ne_of_none e h)]
  exact e
theorem sz_le {n : Nat} (h : sz n = true) : n ≤ sizeLine := Nat.le_trans (Nat.le_of_ble_eq_true h) (by rw [sizeLine_eq]; decide)
theorem sz_lt {n : Nat} (h : sz n = true) : n < sizeLine := Nat.lt_of_le_of_lt (Nat.le_of_ble_eq_true h) (by rw [sizeLine_eq]; decide)
theorem gd_some {α : Type} {b : Bool} {x y : α} (h : gd b x = some y) : b = true ∧ x = y := by
  cases b with
  | true => exact ⟨rfl, Option.some.inj h⟩
  | false => cases h
theorem Rp.int_inv {R : RC} {P : Addr → Prop} {H : Hp} {v : V} {i : Int} (h : Rp R P H v (.int i)) : v = .int i := by cases h; rfl
theorem Rp.str_inv {R : RC} {P : Addr → Prop} {H : Hp} {v : V} {i : Str} (h : Rp R P H v (.str i)) : v = .str i := by cases h; rfl
theorem Rp.bl_inv {R : RC} {P : Addr → Prop} {H : Hp} {v : V} {i : Bool} (h : Rp R P H v (.bl i)) : v = .bl i := by cases h; rfl
theorem Rp.lst_inv {R : RC} {P : Addr → Prop} {H : Hp} {v : V} {ds : List D} (h : Rp R P H v (.lst ds)) : ∃ a xs, v = .ref a ∧ H a = some (.lst xs) ∧ Rps R P H xs ds := by
  cases h with
  | lst p h r => exact ⟨_, _, rfl, h, r⟩
theorem Rp.tup_inv {R : RC} {P : Addr → Prop} {H : Hp} {v : V} {ds : List D} (h : Rp R P H v (.tup ds)) : ∃ a xs, v = .ref a ∧ SqT R.K H a xs ∧ Rps R P H xs ds := by
  cases h with
  | tup h r => exact ⟨_, _, rfl, h, r⟩
theorem RpE.lst_inv {R : RC} {P : Addr → Prop} {H : Hp} {a : Addr} {xs : List V} {ds : List D} (h : RpE R P H (.ref a) (.lst ds)) (e : H a = some (.lst xs)) : Rps R P H xs ds := by
  obtain ⟨b, ys, e1, e2, r⟩ := h
  cases e1
  rw [e] at e2
  cases e2
  exact r
section
variable {X : Cx} {C : Cn} {pins : List (Addr × Obj)} {σ : L2.St} {H : Hp} {s : Shared}
theorem RpE.tup_inv (I : Inv X pins σ H s) {P : Addr → Prop} {a : Addr} {xs : List V} {ds : List D} (h : RpE (rc X C) P H (.ref a) (.tup ds)) (e : SqT X.K H a xs) : Rps (rc X C) P H xs ds := by
  obtain ⟨b, ys, e1, e2, r⟩ := Rp.tup_inv (show Rp (rc X C) P H (.ref a) (.tup ds) from h)
  cases e1
  rw [I.tuple_inj e e2]
  exact r
end
theorem new_lst {R : RC} {H : Hp} {xs : List (V × D)} {p : Addr} {vs : List V} {ds : List D} (np : H p = none) (h : ∀ P : Addr → Prop, (∀ p ∈ xs, RpE R P H p.1 p.2) → Rps R P H vs ds) : Made R H (upd H p (.lst vs)) xs (.ref p) (.lst ds) :=
  ⟨same_upd np, fun P hx hn => .lst (hn p np) upd_same ((h P hx).keep (O := []) (Same.ext (same_upd np)) (fun _ _ => by simp) fun _ z => z)⟩
theorem new_tup {R : RC} {H : Hp} {xs : List (V × D)} {p : Addr} {vs : List V} {ds : List D} (np : H p = none) (h : ∀ P : Addr → Prop, (∀ p ∈ xs, RpE R P H p.1 p.2) → Rps R P H vs ds) : Made R H (upd H p (.tup vs)) xs (.ref p) (.tup ds) :=
  ⟨same_upd np, fun P hx hn => .tup (.of upd_same) ((h P hx).keep (O := []) (Same.ext (same_upd np)) (fun _ _ => by simp) fun _ z => z)⟩
section
variable {X : Cx} {C : Cn}
theorem op_addD : OpR X (binaryOp .Add) (rOp (rc X C) addD) := by
  intro pins s σ H x y v u Q I rx ry h
  obtain ⟨dx, dy, d, hx, hy, e, k⟩ := h
  unfold addD at e
  split at e
  · have := Option.some.inj e; subst this
    rw [hx.int_inv] at rx; rw [hy.int_inv] at ry
    exact op_add pins s σ H _ _ v u Q I rx ry ⟨_, _, rfl, rfl, k _ H (made_lf fun P => .int _)⟩
  · obtain ⟨e1, e2⟩ := gd_some e; subst e2
    rw [hx.str_inv] at rx; rw [hy.str_inv] at ry
    exact op_add_str pins s σ H _ _ v u Q I rx ry ⟨_, _, rfl, rfl, sz_le e1, k _ H (made_lf fun P => .str _)⟩
  · obtain ⟨e1, e2⟩ := gd_some e; subst e2
    obtain ⟨a, xs, rfl, ha, ra⟩ := hx.lst_inv
    obtain ⟨b, ys, rfl, hb, rb⟩ := hy.lst_inv
    refine op_cat pins s σ H _ _ v u Q I rx ry ⟨a, b, xs, ys, rfl, rfl, ha, hb, by rw [ra.length, rb.length]; exact sz_le e1, fun p np => k _ _ (new_lst np fun P hP => ?_)⟩
    exact (RpE.lst_inv (hP _ List.mem_cons_self) ha).append (RpE.lst_inv (hP (.ref b, _) (List.mem_cons_of_mem _ List.mem_cons_self)) hb)
  · obtain ⟨e1, e2⟩ := gd_some e; subst e2
    obtain ⟨a, xs, rfl, ha, ra⟩ := hx.tup_inv
    obtain ⟨b, ys, rfl, hb, rb⟩ := hy.tup_inv
    refine op_catA pins s σ H _ _ v u Q I rx ry ⟨a, b, xs, ys, rfl, rfl, ha, hb, by rw [ra.length, rb.length]; exact sz_le e1, fun z => k _ H ⟨Same.refl H, fun P hP _ => ?_⟩, fun _ z => k _ H ⟨Same.refl H, fun P hP _ => ?_⟩, fun _ _ p np => k _ _ (new_tup np fun P hP => ?_)⟩
    · subst z
      cases ra
      exact hP (.ref b, _) (List.mem_cons_of_mem _ List.mem_cons_self)
    · subst z
      cases rb
      rw [List.append_nil]
      exact hP (.ref a, _) List.mem_cons_self
    · exact (RpE.tup_inv I (hP _ List.mem_cons_self) ha).append (RpE.tup_inv I (hP (.ref b, _) (List.mem_cons_of_mem _ List.mem_cons_self)) hb)
  · cases e
theorem op_subD : OpR X (binaryOp .Sub) (rOp (rc X C) subD) := by
  intro pins s σ H x y v u Q I rx ry h
  obtain ⟨dx, dy, d, hx, hy, e, k⟩ := h
  unfold subD at e
  split at e
  · have := Option.some.inj e; subst this
    rw [hx.int_inv] at rx; rw [hy.int_inv] at ry
    exact op_sub pins s σ H _ _ v u Q I rx ry ⟨_, _, rfl, rfl, k _ H (made_lf fun P => .int _)⟩
  · cases e
theorem rps_rep {R : RC} {P : Addr → Prop} {H : Hp} {vs : List V} {ds : List D} (h : Rps R P H vs ds) : ∀ n, Rps R P H (List.replicate n vs).flatten (List.replicate n ds).flatten
  | 0 => .nil
  | n + 1 => by
    rw [List.replicate_succ, List.replicate_succ, List.flatten_cons, List.flatten_cons]
    exact h.append (rps_rep h n)
theorem small64_or {a b : Int} (h : (small64 a || small64 b) = true) : CMul a b := by
  unfold small64 at h
  rw [Bool.or_eq_true] at h
  unfold CMul
  rcases h with h | h
  · have := Nat.le_of_ble_eq_true h
    exact .inl ⟨by omega, by omega⟩
  · have := Nat.le_of_ble_eq_true h
    exact .inr ⟨by omega, by omega⟩
theorem op_mulD : OpR X (binaryOp .Mult) (rOp (rc X C) mulD) := by
  intro pins s σ H x y v u Q I rx ry h
  obtain ⟨dx, dy, d, hx, hy, e, k⟩ := h
  unfold mulD at e
  split at e
  · obtain ⟨e1, e2⟩ := gd_some e; subst e2
    rw [hx.int_inv] at rx; rw [hy.int_inv] at ry
    exact op_mul pins s σ H _ _ v u Q I rx ry ⟨_, _, rfl, rfl, small64_or e1, k _ H (made_lf fun P => .int _)⟩
  · obtain ⟨e1, e2⟩ := gd_some e; subst e2
    rw [Bool.and_eq_true, Bool.and_eq_true, decide_eq_true_eq, decide_eq_true_eq] at e1
    obtain ⟨⟨h1, h2⟩, h3⟩ := e1
    obtain ⟨a, xs, rfl, ha, ra⟩ := hx.lst_inv
    rw [hy.int_inv] at ry
    refine op_rep pins s σ H _ _ v u Q I rx ry ⟨a, _, xs, rfl, rfl, ha, by omega, by omega, by rw [ra.length]; exact sz_le h3, fun p np => k _ _ (new_lst np fun P hP => ?_)⟩
    exact rps_rep (RpE.lst_inv (hP _ List.mem_cons_self) ha) _
  · cases e
theorem op_modD : OpR X (binaryOp .Mod) (rOp (rc X C) modD) := by
  intro pins s σ H x y v u Q I rx ry h
  obtain ⟨dx, dy, d, hx, hy, e, k⟩ := h
  unfold modD at e
  split at e
  · obtain ⟨e1, e2⟩ := gd_some e; subst e2
    rw [hx.int_inv] at rx; rw [hy.int_inv] at ry
    exact op_mod pins s σ H _ _ v u Q I rx ry ⟨_, _, rfl, rfl, of_decide_eq_true e1, k _ H (made_lf fun P => .int _)⟩
  · cases e
theorem op_fdivD : OpR X (binaryOp .FloorDiv) (rOp (rc X C) fdivD) := by
  intro pins s σ H x y v u Q I rx ry h
  obtain ⟨dx, dy, d, hx, hy, e, k⟩ := h
  unfold fdivD at e
  split at e
  · obtain ⟨e1, e2⟩ := gd_some e; subst e2
    rw [Bool.and_eq_true, Bool.not_eq_true', decide_eq_false_iff_not, decide_eq_true_eq] at e1
    rw [hx.int_inv] at rx; rw [hy.int_inv] at ry
    exact op_fdivN pins s σ H _ _ v u Q I rx ry ⟨_, _, rfl, rfl, e1, k _ H (made_lf fun P => .int _)⟩
  · cases e
theorem op_bin : ∀ op, OpR X (binaryOp op) (rOp (rc X C) (binD op))
  | .Add => op_addD
  | .Sub => op_subD
  | .Mult => op_mulD
  | .Mod => op_modD
  | .FloorDiv => op_fdivD
  | .MatMult => fun _ _ _ _ _ _ _ _ _ _ _ _ h => nomatch h.choose_spec.choose_spec.choose_spec.2.2.1
  | .Div => fun _ _ _ _ _ _ _ _ _ _ _ _ h => nomatch h.choose_spec.choose_spec.choose_spec.2.2.1
  | .Pow => fun _ _ _ _ _ _ _ _ _ _ _ _ h => nomatch h.choose_spec.choose_spec.choose_spec.2.2.1
  | .LShift => fun _ _ _ _ _ _ _ _ _ _ _ _ h => nomatch h.choose_spec.choose_spec.choose_spec.2.2.1
  | .RShift => fun _ _ _ _ _ _ _ _ _ _ _ _ h => nomatch h.choose_spec.choose_spec.choose_spec.2.2.1
  | .BitOr => fun _ _ _ _ _ _ _ _ _ _ _ _ h => nomatch h.choose_spec.choose_spec.choose_spec.2.2.1
  | .BitXor => fun _ _ _ _ _ _ _ _ _ _ _ _ h => nomatch h.choose_spec.choose_spec.choose_spec.2.2.1
  | .BitAnd => fun _ _ _ _ _ _ _ _ _ _ _ _ h => nomatch h.choose_spec.choose_spec.choose_spec.2.2.1

/-! ### comparisons -/
def rCmp (R : RC) (op : CmpOp) : R2 := fun x y H Q => ∃ dx dy b, RpT R H x dx ∧ RpT R H y dy ∧ cmpD op dx dy = some b ∧ Q (.bl b) H
mutual
theorem D.dok_depth : ∀ {d : D} {n : Nat} {z : PyData}, d.dok n = true → d.py = some z → z.depth ≤ n
  | .non, n, z, _, e => by simp [D.py] at e; subst e; exact Nat.zero_le _
  | .bl _, n, z, _, e => by simp [D.py] at e; subst e; exact Nat.zero_le _
  | .int _, n, z, _, e => by simp [D.py] at e; subst e; exact Nat.zero_le _
  | .str _, n, z, _, e => by simp [D.py] at e; subst e; exact Nat.zero_le _
  | .tup ds, 0, z, h, _ => by simp [D.dok] at h
  | .tup ds, n + 1, z, h, e => by
    simp [D.py] at e
    obtain ⟨as, e1, e2⟩ := e
    subst e2
    have h2 : doks ds n = true := h
    have := doks_depth h2 e1
    simp only [PyData.depth]
    omega
  | .lst ds, 0, z, h, _ => by simp [D.dok] at h
  | .lst ds, n + 1, z, h, e => by
    simp [D.py] at e
    obtain ⟨as, e1, e2⟩ := e
    subst e2
    have h2 : doks ds n = true := h
    have := doks_depth h2 e1
    simp only [PyData.depth]
    omega
  | .dct _ _, n, z, _, e => by simp [D.py] at e
  | .hou _ _, n, z, _, e => by simp [D.py] at e
  | .hou1 _, n, z, _, e => by simp [D.py] at e
  | .scr _, n, z, _, e => by simp [D.py] at e
  | .cst _, n, z, _, e => by simp [D.py] at e
  | .tbl _ _ _, n, z, _, e => by simp [D.py] at e
  | .exc _ _ _, n, z, _, e => by simp [D.py] at e
theorem doks_depth : ∀ {ds : List D} {n : Nat} {zs : List PyData}, doks ds n = true → pys ds = some zs → PyData.depthAll zs ≤ n
  | [], n, zs, _, e => by simp [pys] at e; subst e; exact Nat.zero_le _
  | d :: ds, n, zs, h, e => by
    simp only [pys, Option.bind_eq_some_iff, Option.map_eq_some_iff] at e
    obtain ⟨a, e1, as, e2, e3⟩ := e
    subst e3
    have h' : (d.dok n && doks ds n) = true := h
    rw [Bool.and_eq_true] at h'
    have h1 := D.dok_depth h'.1 e1
    have h2 := doks_depth h'.2 e2
    simp only [PyData.depthAll]
    omega
end
theorem natEq_iff : ∀ {a b : List Nat}, natEq a b = true ↔ a = b
  | [], [] => by simp [natEq]
  | [], _ :: _ => by simp [natEq]
  | _ :: _, [] => by simp [natEq]
  | x :: xs, y :: ys => by
    have ih := natEq_iff (a := xs) (b := ys)
    simp [natEq, ih]
theorem seq_iff {a b : Str} : seq a b = true ↔ a = b := by
  unfold seq
  rw [natEq_iff]
  constructor
  · intro h
    cases a with
    | mk x =>
      cases b with
      | mk y =>
        have : x = y := by
          have h2 : x.toList = y.toList := h
          exact Array.toList_inj.mp h2
        rw [this]
  · intro h
    rw [h]
theorem seq_eq {a b : Str} (h : seq a b = true) : a = b := seq_iff.mp h
theorem seq_ne {a b : Str} (h : seq a b = false) : a ≠ b := fun e => by
  rw [seq_iff.mpr e] at h
  cases h
theorem eqD_inv {x y : D} {b : Bool} (h : eqD x y = some b) : ∃ px py, x.py = some px ∧ y.py = some py ∧ min px.depth py.depth ≤ 20 ∧ b = PyData.eqv px py := by
  unfold eqD at h
  split at h
  · rename_i a c e1 e2
    obtain ⟨h1, h2⟩ := gd_some h
    refine ⟨a, c, e1, e2, ?_, h2.symm⟩
    rw [Bool.or_eq_true] at h1
    rcases h1 with h1 | h1
    · have := D.dok_depth h1 e2; omega
    · have := D.dok_depth h1 e1; omega
  · cases h
theorem inD_inv {x y : D} {b : Bool} (h : inD x y = some b) : (∃ px pys', x.py = some px ∧ px.depth ≤ 20 ∧ PyData.plainAll pys' = true ∧ b = (pys'.any fun z => PyData.eqv z px) ∧ (y.py = some (.list pys') ∨ y.py = some (.tuple pys'))) ∨
    (∃ a c, x = .str a ∧ y = .str c ∧ b = !(Builtin.Str.occurrences c a 0 c.length 1).isEmpty) ∨
    ∃ a ks vs no, x = .str a ∧ y = .tbl ks vs no ∧ ((b = true ∧ ∃ v, tblGet a ks vs = some v) ∨ (b = false ∧ memS a no = true)) := by
  unfold inD at h
  split at h
  · split at h
    · rename_i ys px ps e1 e2
      obtain ⟨h1, h2⟩ := gd_some h
      exact .inl ⟨px, ps, e1, D.dok_depth h1 e1, pys_plain e2, h2.symm, .inl (by simp [D.py, e2])⟩
    · cases h
  · split at h
    · rename_i ys px ps e1 e2
      obtain ⟨h1, h2⟩ := gd_some h
      exact .inl ⟨px, ps, e1, D.dok_depth h1 e1, pys_plain e2, h2.symm, .inr (by simp [D.py, e2])⟩
    · cases h
  · exact .inr (.inl ⟨_, _, rfl, rfl, (Option.some.inj h).symm⟩)
  · rename_i a ks vs no
    refine .inr (.inr ⟨a, ks, vs, no, rfl, rfl, ?_⟩)
    split at h
    · rename_i v hv
      exact .inl ⟨(Option.some.inj h).symm, v, hv⟩
    · split at h
      · rename_i hm
        exact .inr ⟨(Option.some.inj h).symm, hm⟩
      · cases h
  · cases h
theorem tbl_get {R : RC} {a : Str} {ad : Addr} : ∀ {ks : List Str} {vs : List Int} {v : Int}, (∀ (i : Nat) (k : Str) (v : Int), ks[i]? = some k → vs[i]? = some v → ∃ u, PySem.W.nsIn R.K ad k = some (some u) ∧ RelV (.int v) u) → tblGet a ks vs = some v →
    ∃ u, PySem.W.nsIn R.K ad a = some (some u) ∧ RelV (.int v) u
  | k :: ks, w :: vs, v, h, e => by
    unfold tblGet at e
    cases hs : seq a k with
    | true =>
      rw [hs] at e
      cases e
      have := seq_eq hs
      subst this
      exact h 0 _ _ rfl rfl
    | false =>
      rw [hs] at e
      exact tbl_get (fun i k v h1 h2 => h (i + 1) k v h1 h2) e
  | [], _, _, _, e => by cases e
  | _ :: _, [], _, _, e => by cases e
theorem memS_mem {a : Str} : ∀ {l : List Str}, memS a l = true → a ∈ l
  | [], h => by cases h
  | k :: ks, h => by
    have h2 : (seq a k || memS a ks) = true := h
    rw [Bool.or_eq_true] at h2
    rcases h2 with h2 | h2
    · rw [seq_eq h2]; exact List.mem_cons_self
    · exact List.mem_cons_of_mem _ (memS_mem h2)
theorem tbl_in {R : RC} {a : Str} {ad : Addr} {ks : List Str} {vs : List Int} {no : List Str} {b : Bool} (t : TblOk R ad ks vs no) (h : (b = true ∧ ∃ v, tblGet a ks vs = some v) ∨ (b = false ∧ memS a no = true)) : ∃ es n r, KDict R.K R.w ad es n ∧ PySem.W.nsIn R.K ad a = some r ∧ r.isSome = b := by
  obtain ⟨es, n, D, h1, h2⟩ := t
  rcases h with ⟨e, v, hv⟩ | ⟨e, hm⟩
  · obtain ⟨u, q, _⟩ := tbl_get h1 hv
    exact ⟨es, n, some u, D, q, by rw [e]; rfl⟩
  · exact ⟨es, n, none, D, h2 a (memS_mem hm), by rw [e]; rfl⟩
theorem Rp.reads {pins : List (Addr × Obj)} {σ : L2.St} {H : Hp} {s : Shared} (I : Inv X pins σ H s) {x : V} {v : Value} {d : D} {z : PyData} (h : RpT (rc X C) H x d) (e : d.py = some z) (r : RelV x v) : ∃ as, Reads s.heap v z as :=
  Dp.reads I z x v (h.dp e) r
theorem ord_int {op : CmpOp} {dx dy : D} {b : Bool} (h : ordD op dx dy = some b) : ∃ i j, dx = .int i ∧ dy = .int j ∧ cmpI op i j = some b := by
  unfold ordD at h
  split at h
  · exact ⟨_, _, rfl, rfl, h⟩
  · cases h
theorem op_cmp (hu : X.A.units + 64 < cLine) : ∀ op, OpR X (compareOp op) (rCmp (rc X C) op) := by
  intro op pins s σ H x y v u Q I rx ry h
  obtain ⟨dx, dy, b, hx, hy, e, q⟩ := h
  cases op with
  | Eq =>
    obtain ⟨px, py, e1, e2, e3, e4⟩ := eqD_inv e
    subst e4
    obtain ⟨as, r1⟩ := Rp.reads I hx e1 rx
    obtain ⟨bs, r2⟩ := Rp.reads I hy e2 ry
    exact SeqAt.eq_plain r1 r2 (D.py_plain e1) (D.py_plain e2) (by omega) ⟨.bl _, H, I, rfl, q⟩
  | NotEq =>
    have e' : (eqD dx dy).map not = some b := e
    rw [Option.map_eq_some_iff] at e'
    obtain ⟨b', e', eb⟩ := e'
    subst eb
    obtain ⟨px, py, e1, e2, e3, e4⟩ := eqD_inv e'
    subst e4
    obtain ⟨as, r1⟩ := Rp.reads I hx e1 rx
    obtain ⟨bs, r2⟩ := Rp.reads I hy e2 ry
    exact SeqAt.ne_plain r1 r2 (D.py_plain e1) (D.py_plain e2) (by omega) ⟨.bl _, H, I, rfl, q⟩
  | Lt =>
    obtain ⟨i, j, rfl, rfl, e1⟩ := ord_int e
    have := Option.some.inj e1; subst this
    rw [hx.int_inv] at rx; rw [hy.int_inv] at ry
    exact op_lt pins s σ H _ _ v u Q I rx ry ⟨_, _, rfl, rfl, q⟩
  | LtE =>
    obtain ⟨i, j, rfl, rfl, e1⟩ := ord_int e
    have := Option.some.inj e1; subst this
    rw [hx.int_inv] at rx; rw [hy.int_inv] at ry
    exact op_le pins s σ H _ _ v u Q I rx ry ⟨_, _, rfl, rfl, q⟩
  | Gt =>
    obtain ⟨i, j, rfl, rfl, e1⟩ := ord_int e
    have := Option.some.inj e1; subst this
    rw [hx.int_inv] at rx; rw [hy.int_inv] at ry
    exact op_gt pins s σ H _ _ v u Q I rx ry ⟨_, _, rfl, rfl, q⟩
  | GtE =>
    obtain ⟨i, j, rfl, rfl, e1⟩ := ord_int e
    have := Option.some.inj e1; subst this
    rw [hx.int_inv] at rx; rw [hy.int_inv] at ry
    exact op_ge pins s σ H _ _ v u Q I rx ry ⟨_, _, rfl, rfl, q⟩
  | Is =>
    cases dy with
    | non =>
      have := Option.some.inj (show some (isNon dx) = some b from e); subst this
      cases hy
      refine op_isN pins s σ H _ _ v u Q I rx ry ⟨rfl, ?_⟩
      have z : decide (x = V.non) = isNon dx := by
        cases hx <;> simp [isNon]
      rw [z]
      exact q
    | _ => cases dx <;> exact nomatch e
  | IsNot =>
    cases dy with
    | non =>
      have := Option.some.inj (show some (!isNon dx) = some b from e); subst this
      cases hy
      refine op_notN pins s σ H _ _ v u Q I rx ry ⟨rfl, ?_⟩
      have z : decide (x = V.non) = isNon dx := by
        cases hx <;> simp [isNon]
      rw [z]
      exact q
    | _ => cases dx <;> exact nomatch e
  | In =>
    rcases inD_inv e with ⟨px, ps, e1, e2, e3, e4, e5⟩ | ⟨a, c, rfl, rfl, e4⟩ | ⟨a, ks, vs, no, rfl, rfl, e4⟩
    · subst e4
      obtain ⟨as, r1⟩ := Rp.reads I hx e1 rx
      rcases e5 with e5 | e5
      · obtain ⟨bs, r2⟩ := Rp.reads I hy e5 ry
        exact SeqAt.in_list_data r2 r1 e3 (D.py_plain e1) (by omega) ⟨.bl _, H, I, rfl, q⟩
      · obtain ⟨bs, r2⟩ := Rp.reads I hy e5 ry
        exact SeqAt.in_tuple_data r2 r1 e3 (D.py_plain e1) (by omega) ⟨.bl _, H, I, rfl, q⟩
    · subst e4
      rw [hx.str_inv] at rx; rw [hy.str_inv] at ry
      exact op_in_str pins s σ H _ _ v u Q I rx ry ⟨_, _, rfl, rfl, q⟩
    · cases hy with
      | tbl ht =>
        obtain ⟨es, n, r, D, h1, h2⟩ := tbl_in ht e4
        rw [hx.str_inv] at rx
        subst h2
        exact op_in_kd D pins s σ H _ _ v u Q I rx ry ⟨_, r, rfl, rfl, h1, q⟩
  | NotIn =>
    have e' : (inD dx dy).map not = some b := e
    rw [Option.map_eq_some_iff] at e'
    obtain ⟨b', e', eb⟩ := e'
    subst eb
    rcases inD_inv e' with ⟨px, ps, e1, e2, e3, e4, e5⟩ | ⟨a, c, rfl, rfl, e4⟩ | ⟨a, ks, vs, no, rfl, rfl, e4⟩
    · subst e4
      obtain ⟨as, r1⟩ := Rp.reads I hx e1 rx
      rcases e5 with e5 | e5
      · obtain ⟨bs, r2⟩ := Rp.reads I hy e5 ry
        exact SeqAt.notIn_list_data r2 r1 e3 (D.py_plain e1) (by omega) ⟨.bl _, H, I, rfl, q⟩
      · obtain ⟨bs, r2⟩ := Rp.reads I hy e5 ry
        exact SeqAt.notIn_tuple_data r2 r1 e3 (D.py_plain e1) (by omega) ⟨.bl _, H, I, rfl, q⟩
    · subst e4
      rw [hx.str_inv] at rx; rw [hy.str_inv] at ry
      exact op_notin_str pins s σ H _ _ v u Q I rx ry ⟨_, _, rfl, rfl, q⟩
    · cases hy with
      | tbl ht =>
        obtain ⟨es, n, r, D, h1, h2⟩ := tbl_in ht e4
        rw [hx.str_inv] at rx
        subst h2
        exact op_notIn_kd D pins s σ H _ _ v u Q I rx ry ⟨_, r, rfl, rfl, h1, q⟩
end
end TH

set_option Elab.async false
set_option linter.all false
set_option maxRecDepth 100000
set_option maxHeartbeats 4000000
/-! DV4: subscripts, slices, built-ins on data. -/
namespace TH
open PySem PySem.Spec PyProof.Rows L2

theorem look_eq {α : Type} {x : Str} : ∀ {l : List (Str × α)}, look x l = l.lookup x
  | [] => rfl
  | (y, k) :: r => by
    have ih := look_eq (x := x) (l := r)
    unfold look
    cases h : seq x y with
    | true =>
      have e := seq_eq h
      subst e
      simp [List.lookup]
    | false =>
      have e : (x == y) = false := by
        simpa using seq_ne h
      simp only [List.lookup, e]
      exact ih
theorem idx_get {x : Str} : ∀ {l : List Str} {n i : Nat}, idx x l n = some i → n ≤ i ∧ l[i - n]? = some x
  | [], _, _, h => by cases h
  | y :: r, n, i, h => by
    unfold idx at h
    cases e : seq x y with
    | true =>
      rw [e] at h
      have := Option.some.inj h
      subst this
      have := seq_eq e
      subst this
      simp
    | false =>
      rw [e] at h
      obtain ⟨h1, h2⟩ := idx_get h
      refine ⟨by omega, ?_⟩
      have e3 : i - n = (i - (n + 1)) + 1 := by omega
      rw [e3, List.getElem?_cons_succ]
      exact h2
theorem idx_at {x : Str} {l : List Str} {i : Nat} (h : idx x l 0 = some i) : l[i]? = some x := by
  have := (idx_get h).2
  simpa using this

section
variable {R : RC} {P : Addr → Prop} {H : Hp}
theorem atI_len {α β : Type} {xs : List α} {ys : List β} {i : Int} {y : β} (e : xs.length = ys.length) (h : atI ys i = some y) : ∃ j : Nat, ys[j]? = some y ∧ ∀ x : α, xs[j]? = some x → atI xs i = some x := by
  unfold atI at h
  rw [Option.bind_eq_some_iff] at h
  obtain ⟨j, h1, h2⟩ := h
  refine ⟨j, h2, fun x hx => ?_⟩
  unfold atI
  rw [e, h1]
  exact hx
theorem Rps.cut {vs : List V} {ds : List D} {lo hi : Option Int} (h : Rps R P H vs ds) : Rps R P H (cutV vs lo hi) (cutG ds lo hi) := by
  unfold cutV cutG
  rw [h.length]
  exact (h.drop _).take _
end
section
variable {X : Cx} {C : Cn}
theorem atI_map {α β : Type} {f : α → β} {xs : List α} {i : Int} {y : α} (h : atI xs i = some y) : atI (xs.map f) i = some (f y) := by
  obtain ⟨j, h1, h2⟩ := atI_len (xs := xs.map f) (by simp) h
  exact h2 _ (by rw [List.getElem?_map, h1]; rfl)
theorem ix_D : IxR X (rOp (rc X C) ixD) := by
  intro value slice pins s σ H x y v u Q I rx ry h hs'
  obtain ⟨dx, dy, d, hx, hy, e, k⟩ := h
  unfold ixD at e
  split at e
  · obtain ⟨a, xs, rfl, ha, ra⟩ := hx.lst_inv
    rw [hy.int_inv] at ry
    obtain ⟨j, h1, h2⟩ := atI_len ra.length e
    obtain ⟨w, h3, h4⟩ := ra.get h1
    refine ix_list value slice pins s σ H _ _ v u Q I rx ry ⟨a, xs, _, w, rfl, rfl, .of ha, h2 w h3, k _ H ⟨Same.refl H, fun P hP _ => ?_⟩⟩ hs'
    have r := RpE.lst_inv (hP _ List.mem_cons_self) ha
    obtain ⟨w', h5, h6⟩ := r.get h1
    rw [h3] at h5
    cases h5
    exact h6
  · obtain ⟨a, xs, rfl, ha, ra⟩ := hx.tup_inv
    rw [hy.int_inv] at ry
    obtain ⟨j, h1, h2⟩ := atI_len ra.length e
    obtain ⟨w, h3, h4⟩ := ra.get h1
    refine ix_tup value slice pins s σ H _ _ v u Q I rx ry ⟨a, xs, _, w, rfl, rfl, ha, h2 w h3, k _ H ⟨Same.refl H, fun P hP _ => ?_⟩⟩ hs'
    have r := RpE.tup_inv I (hP _ List.mem_cons_self) ha
    obtain ⟨w', h5, h6⟩ := r.get h1
    rw [h3] at h5
    cases h5
    exact h6
  · rw [Option.map_eq_some_iff] at e
    obtain ⟨c, e1, e2⟩ := e
    subst e2
    cases hx with
    | scr hs =>
      rw [hy.int_inv] at ry
      exact ix_list value slice pins s σ H _ _ v u Q I rx ry ⟨_, _, _, .int c, rfl, rfl, hs.sql, atI_map e1, k _ H (made_lf fun P => .int _)⟩ hs'
  · rw [Option.map_eq_some_iff] at e
    obtain ⟨c, e1, e2⟩ := e
    subst e2
    cases hx with
    | tbl ht =>
      obtain ⟨es, n, D, h1, h2⟩ := ht
      obtain ⟨u0, g1, g2⟩ := tbl_get (R := rc X C) h1 e1
      rw [hy.str_inv] at ry
      exact ix_kdict value slice pins s σ H _ _ v u Q I rx ry ⟨_, _, .int c, rfl, rfl, ⟨es, n, u0, D.at_, D.lit, g1, g2⟩, k _ H (made_lf fun P => .int _)⟩ hs'
  · split at e
    · rename_i hz
      rw [Option.map_eq_some_iff] at e
      obtain ⟨c, e1, e2⟩ := e
      subst e2
      rw [hx.str_inv] at rx; rw [hy.int_inv] at ry
      exact ix_str value slice pins s σ H _ _ v u Q I rx ry ⟨_, _, c, rfl, rfl, sz_le hz, e1, k _ H (made_lf fun P => .str _)⟩ hs'
    · cases e
  · cases e
def rSl (R : RC) : V → Option Int → Option Int → Hp → VK → Prop := fun x lo hi H Q => ∃ dx d, RpT R H x dx ∧ slD dx lo hi = some d ∧ ∀ v H', Made R H H' [(x, dx)] v d → Q v H'
theorem sIx_whole {α : Type} {xs : List α} {lo hi : Option Int} (h : HT.sIx xs.length 0 lo = 0 ∧ HT.sIx xs.length xs.length hi = xs.length) : cutG xs lo hi = xs := by
  unfold cutG
  rw [h.1, h.2, List.drop_zero, Nat.sub_zero, List.take_length]
theorem sl_D : SlR X (rSl (rc X C)) := by
  intro pins s σ H x v vl vu lo hi sl Q I rx hs pl pu h
  obtain ⟨dx, d, hx, e, k⟩ := h
  unfold slD at e
  split at e
  · obtain ⟨a, xs, rfl, ha, ra⟩ := hx.lst_inv
    have := Option.some.inj e; subst this
    exact sl_list pins s σ H _ v vl vu _ _ sl Q I rx hs pl pu ⟨a, xs, rfl, .of ha, fun p np => k _ _ (new_lst np fun P hP => (RpE.lst_inv (hP _ List.mem_cons_self) ha).cut)⟩
  · obtain ⟨a, xs, rfl, ha, ra⟩ := hx.tup_inv
    have := Option.some.inj e; subst this
    refine sl_tupA pins s σ H _ v vl vu _ _ sl Q I rx hs pl pu ⟨a, xs, rfl, ha, fun z => k _ H ⟨Same.refl H, fun P hP _ => ?_⟩, fun _ p np => k _ _ (new_tup np fun P hP => (RpE.tup_inv I (hP _ List.mem_cons_self) ha).cut)⟩
    rw [ra.length] at z
    rw [sIx_whole z]
    exact hP _ List.mem_cons_self
  · obtain ⟨e1, e2⟩ := gd_some e; subst e2
    rw [hx.str_inv] at rx
    exact sl_str pins s σ H _ v vl vu _ _ sl Q I rx hs pl pu ⟨_, rfl, sz_le e1, k _ H (made_lf fun P => .str _)⟩
  · cases e

/-! ### built-ins of one argument -/
def rC1 (R : RC) (g : D → Option D) : List V → Hp → VK → Prop := fun vs H Q => ∃ v dx d, vs = [v] ∧ RpT R H v dx ∧ g dx = some d ∧ ∀ w H', Made R H H' [(v, dx)] w d → Q w H'
def rC2 (R : RC) (g : D → D → Option D) : List V → Hp → VK → Prop := fun vs H Q => ∃ v w dx dy d, vs = [v, w] ∧ RpT R H v dx ∧ RpT R H w dy ∧ g dx dy = some d ∧ ∀ z H', Made R H H' [(v, dx), (w, dy)] z d → Q z H'
theorem cr_len : CallR X (.builtin "len") (rC1 (rc X C) lenD) := by
  intro pins s σ H xs us Q I r h
  obtain ⟨v, dx, d, rfl, hx, e, k⟩ := h
  unfold lenD at e
  split at e
  · obtain ⟨a, xs, rfl, ha, ra⟩ := hx.lst_inv
    have := Option.some.inj e; subst this
    exact call_len pins s σ H _ us Q I r ⟨_, xs.length, rfl, .inl ⟨xs, .of ha, rfl⟩, by rw [ra.length]; exact k _ H (made_lf fun P => .int _)⟩
  · obtain ⟨a, xs, rfl, ha, ra⟩ := hx.tup_inv
    have := Option.some.inj e; subst this
    exact call_len pins s σ H _ us Q I r ⟨_, xs.length, rfl, .inr ⟨xs, ha, rfl⟩, by rw [ra.length]; exact k _ H (made_lf fun P => .int _)⟩
  · have := Option.some.inj e; subst this
    cases hx with
    | scr hs => exact call_len pins s σ H _ us Q I r ⟨_, _, rfl, .inl ⟨_, hs.sql, rfl⟩, by rw [List.length_map]; exact k _ H (made_lf fun P => .int _)⟩
  · obtain ⟨e1, e2⟩ := gd_some e; subst e2
    rw [hx.str_inv] at r
    exact call_len pins s σ H _ us Q I r ⟨_, _, rfl, ⟨sz_le e1, rfl⟩, k _ H (made_lf fun P => .int _)⟩
  · cases e
theorem cr_int : CallR X (.type "int") (rC1 (rc X C) intD) := by
  intro pins s σ H xs us Q I r h
  obtain ⟨v, dx, d, rfl, hx, e, k⟩ := h
  unfold intD at e
  split at e
  · have := Option.some.inj e; subst this
    rw [hx.bl_inv] at r
    exact call_int1 pins s σ H _ us Q I r (.inr ⟨_, rfl, k _ H (made_lf fun P => .int _)⟩)
  · have := Option.some.inj e; subst this
    rw [hx.int_inv] at r
    exact call_int1 pins s σ H _ us Q I r (.inl ⟨_, rfl, k _ H (made_lf fun P => .int _)⟩)
  · cases e
theorem cr_abs : CallR X (.builtin "abs") (rC1 (rc X C) absD) := by
  intro pins s σ H xs us Q I r h
  obtain ⟨v, dx, d, rfl, hx, e, k⟩ := h
  unfold absD at e
  split at e
  · have := Option.some.inj e; subst this
    rw [hx.int_inv] at r
    exact call_abs pins s σ H _ us Q I r ⟨_, rfl, k _ H (made_lf fun P => .int _)⟩
  · cases e
theorem cr_list : CallR X (.type "list") (rC1 (rc X C) listD) := by
  intro pins s σ H xs us Q I r h
  obtain ⟨v, dx, d, rfl, hx, e, k⟩ := h
  unfold listD at e
  split at e
  · obtain ⟨a, xs, rfl, ha, ra⟩ := hx.lst_inv
    have := Option.some.inj e; subst this
    exact call_list_of pins s σ H _ us Q I r ⟨a, xs, rfl, .inl (.of ha), fun p np => k _ _ (new_lst np fun P hP => RpE.lst_inv (hP _ List.mem_cons_self) ha)⟩
  · obtain ⟨a, xs, rfl, ha, ra⟩ := hx.tup_inv
    have := Option.some.inj e; subst this
    exact call_list_of pins s σ H _ us Q I r ⟨a, xs, rfl, .inr ha, fun p np => k _ _ (new_lst np fun P hP => RpE.tup_inv I (hP _ List.mem_cons_self) ha)⟩
  · cases e
theorem cr_tuple : CallR X (.type "tuple") (rC1 (rc X C) tupD) := by
  intro pins s σ H xs us Q I r h
  obtain ⟨v, dx, d, rfl, hx, e, k⟩ := h
  unfold tupD at e
  split at e
  · obtain ⟨a, xs, rfl, ha, ra⟩ := hx.lst_inv
    have := Option.some.inj e; subst this
    exact call_tuple_of pins s σ H _ us Q I r ⟨a, xs, rfl, .inl ⟨.of ha, fun p np => k _ _ (new_tup np fun P hP => RpE.lst_inv (hP _ List.mem_cons_self) ha)⟩⟩
  · obtain ⟨a, xs, rfl, ha, ra⟩ := hx.tup_inv
    have := Option.some.inj e; subst this
    exact call_tuple_of pins s σ H _ us Q I r ⟨a, xs, rfl, .inr ⟨ha, k _ H ⟨Same.refl H, fun P hP _ => hP _ List.mem_cons_self⟩⟩⟩
  · cases e
theorem intsD_rps {R : RC} {P : Addr → Prop} {H : Hp} : ∀ {ds : List D} {vs : List V} {ns : List Int}, intsD ds = some ns → Rps R P H vs ds → vs = ns.map V.int
  | [], _, ns, e, .nil => by
    have := Option.some.inj e
    subst this
    rfl
  | .int i :: ds, _, ns, e, .cons r t => by
    have e' : (intsD ds).map (fun l => i :: l) = some ns := e
    rw [Option.map_eq_some_iff] at e'
    obtain ⟨l, e1, e2⟩ := e'
    subst e2
    rw [r.int_inv, intsD_rps e1 t]
    rfl
  | .non :: _, _, _, e, _ => by cases e
  | .bl _ :: _, _, _, e, _ => by cases e
  | .str _ :: _, _, _, e, _ => by cases e
  | .tup _ :: _, _, _, e, _ => by cases e
  | .lst _ :: _, _, _, e, _ => by cases e
  | .dct _ _ :: _, _, _, e, _ => by cases e
  | .hou _ _ :: _, _, _, e, _ => by cases e
  | .hou1 _ :: _, _, _, e, _ => by cases e
  | .scr _ :: _, _, _, e, _ => by cases e
  | .cst _ :: _, _, _, e, _ => by cases e
  | .tbl _ _ _ :: _, _, _, e, _ => by cases e
  | .exc _ _ _ :: _, _, _, e, _ => by cases e
theorem fold_max : ∀ (l : List Int) (i : Int), (∀ y ∈ i :: l, y ≤ l.foldl (fun m j => if j > m then j else m) i) ∧ l.foldl (fun m j => if j > m then j else m) i ∈ i :: l
  | [], i => by simp
  | j :: l, i => by
    obtain ⟨h1, h2⟩ := fold_max l (if j > i then j else i)
    simp only [List.foldl_cons]
    refine ⟨fun y hy => ?_, ?_⟩
    · have h3 := h1 _ List.mem_cons_self
      have h5 : y = i ∨ y = j ∨ y ∈ l := by simpa using hy
      rcases h5 with e | e | hy
      · rw [e]
        refine Int.le_trans ?_ h3
        split <;> omega
      · rw [e]
        refine Int.le_trans ?_ h3
        split <;> omega
      · exact h1 y (List.mem_cons_of_mem _ hy)
    · rcases List.mem_cons.mp h2 with e | e
      · rw [e]
        split <;> simp
      · exact List.mem_cons_of_mem _ (List.mem_cons_of_mem _ e)
theorem fold_min : ∀ (l : List Int) (i : Int), (∀ y ∈ i :: l, l.foldl (fun m j => if j < m then j else m) i ≤ y) ∧ l.foldl (fun m j => if j < m then j else m) i ∈ i :: l
  | [], i => by simp
  | j :: l, i => by
    obtain ⟨h1, h2⟩ := fold_min l (if j < i then j else i)
    simp only [List.foldl_cons]
    refine ⟨fun y hy => ?_, ?_⟩
    · have h3 := h1 _ List.mem_cons_self
      have h5 : y = i ∨ y = j ∨ y ∈ l := by simpa using hy
      rcases h5 with e | e | hy
      · rw [e]
        refine Int.le_trans h3 ?_
        split <;> omega
      · rw [e]
        refine Int.le_trans h3 ?_
        split <;> omega
      · exact h1 y (List.mem_cons_of_mem _ hy)
    · rcases List.mem_cons.mp h2 with e | e
      · rw [e]
        split <;> simp
      · exact List.mem_cons_of_mem _ (List.mem_cons_of_mem _ e)
theorem maxI_is {l : List Int} {m n : Int} (h : maxI l = some m) (h1 : n ∈ l) (h2 : ∀ y ∈ l, y ≤ n) : n = m := by
  cases l with
  | nil => cases h
  | cons i r =>
    have := Option.some.inj h
    subst this
    obtain ⟨a, b⟩ := fold_max r i
    have := a n h1
    have := h2 _ b
    omega
theorem minI_is {l : List Int} {m n : Int} (h : minI l = some m) (h1 : n ∈ l) (h2 : ∀ y ∈ l, n ≤ y) : n = m := by
  cases l with
  | nil => cases h
  | cons i r =>
    have := Option.some.inj h
    subst this
    obtain ⟨a, b⟩ := fold_min r i
    have := a n h1
    have := h2 _ b
    omega
theorem maxI_pos {l : List Int} {m : Int} (h : maxI l = some m) : 0 < l.length := by
  cases l with
  | nil => cases h
  | cons i r => simp
theorem minI_pos {l : List Int} {m : Int} (h : minI l = some m) : 0 < l.length := by
  cases l with
  | nil => cases h
  | cons i r => simp
theorem cr_max1 (hc : X.calm = true) : CallR X (.builtin "max") (rC1 (rc X C) max1D) := by
  intro pins s σ H xs us Q I r h
  obtain ⟨v, dx, d, rfl, hx, e, k⟩ := h
  unfold max1D at e
  split at e
  · rw [Option.map_eq_some_iff] at e
    obtain ⟨m, e1, e2⟩ := e
    subst e2
    rw [Option.bind_eq_some_iff] at e1
    obtain ⟨ns, e1, e3⟩ := e1
    obtain ⟨a, xs, rfl, ha, ra⟩ := hx.lst_inv
    have e4 := intsD_rps e1 ra
    subst e4
    exact L2.cr_max hc pins s σ H _ us Q I r ⟨a, ns, rfl, .of ha, maxI_pos e3, fun n h1 h2 => by rw [maxI_is e3 h1 h2]; exact k _ H (made_lf fun P => .int _)⟩
  · cases e
theorem cr_min1 (hc : X.calm = true) : CallR X (.builtin "min") (rC1 (rc X C) min1D) := by
  intro pins s σ H xs us Q I r h
  obtain ⟨v, dx, d, rfl, hx, e, k⟩ := h
  unfold min1D at e
  split at e
  · rw [Option.map_eq_some_iff] at e
    obtain ⟨m, e1, e2⟩ := e
    subst e2
    rw [Option.bind_eq_some_iff] at e1
    obtain ⟨ns, e1, e3⟩ := e1
    obtain ⟨a, xs, rfl, ha, ra⟩ := hx.lst_inv
    have e4 := intsD_rps e1 ra
    subst e4
    exact L2.cr_min hc pins s σ H _ us Q I r ⟨a, ns, rfl, .of ha, minI_pos e3, fun n h1 h2 => by rw [minI_is e3 h1 h2]; exact k _ H (made_lf fun P => .int _)⟩
  · cases e
theorem cr_max2 (hc : X.calm = true) : CallR X (.builtin "max") (rC2 (rc X C) max2D) := by
  intro pins s σ H xs us Q I r h
  obtain ⟨v, w, dx, dy, d, rfl, hx, hy, e, k⟩ := h
  unfold max2D at e
  split at e
  · have := Option.some.inj e; subst this
    rw [hx.int_inv, hy.int_inv] at r
    exact call_max2 hc pins s σ H _ us Q I r ⟨_, _, rfl, k _ H (made_lf fun P => .int _)⟩
  · cases e
theorem cr_min2 (hc : X.calm = true) : CallR X (.builtin "min") (rC2 (rc X C) min2D) := by
  intro pins s σ H xs us Q I r h
  obtain ⟨v, w, dx, dy, d, rfl, hx, hy, e, k⟩ := h
  unfold min2D at e
  split at e
  · have := Option.some.inj e; subst this
    rw [hx.int_inv, hy.int_inv] at r
    exact call_min2 hc pins s σ H _ us Q I r ⟨_, _, rfl, k _ H (made_lf fun P => .int _)⟩
  · cases e
theorem strsD_rps {R : RC} {P : Addr → Prop} {H : Hp} : ∀ {ds : List D} {vs : List V} {ns : List Str}, strsD ds = some ns → Rps R P H vs ds → vs = ns.map V.str
  | [], _, ns, e, .nil => by
    have := Option.some.inj e
    subst this
    rfl
  | .str i :: ds, _, ns, e, .cons r t => by
    have e' : (strsD ds).map (fun l => i :: l) = some ns := e
    rw [Option.map_eq_some_iff] at e'
    obtain ⟨l, e1, e2⟩ := e'
    subst e2
    rw [r.str_inv, strsD_rps e1 t]
    rfl
  | .non :: _, _, _, e, _ => by cases e
  | .bl _ :: _, _, _, e, _ => by cases e
  | .int _ :: _, _, _, e, _ => by cases e
  | .tup _ :: _, _, _, e, _ => by cases e
  | .lst _ :: _, _, _, e, _ => by cases e
  | .dct _ _ :: _, _, _, e, _ => by cases e
  | .hou _ _ :: _, _, _, e, _ => by cases e
  | .hou1 _ :: _, _, _, e, _ => by cases e
  | .scr _ :: _, _, _, e, _ => by cases e
  | .cst _ :: _, _, _, e, _ => by cases e
  | .tbl _ _ _ :: _, _, _, e, _ => by cases e
  | .exc _ _ _ :: _, _, _, e, _ => by cases e
def rJoin (R : RC) : V → List V → Hp → VK → Prop := fun x vs H Q => ∃ v dx dy d, vs = [v] ∧ RpT R H x dx ∧ RpT R H v dy ∧ joinD dx dy = some d ∧ ∀ z, (∀ P, Rp R P H z d) → Q z H
theorem mt_joinD : MtR X "str.join" (rJoin (rc X C)) := by
  intro pins s σ H x xs v us Q I rx rs h
  obtain ⟨w, dx, dy, d, rfl, hx, hy, e, k⟩ := h
  unfold joinD at e
  split at e
  · rw [Option.bind_eq_some_iff] at e
    obtain ⟨ys, e1, e5⟩ := e
    obtain ⟨e2, e3⟩ := gd_some e5
    subst e3
    obtain ⟨a, xs, rfl, ha, ra⟩ := hy.lst_inv
    have e4 := strsD_rps e1 ra
    subst e4
    rw [hx.str_inv] at rx
    refine mt_join pins s σ H _ _ v us Q I rx rs ⟨_, a, ys, rfl, rfl, .inl (.of ha), ?_, k _ fun P => .str _⟩
    have h1 := sz_le e2
    rw [sizeLine_eq] at h1
    unfold lens at h1
    rw [Nat.mul_comm ys.length]
    exact h1
  · cases e
def rIsI (R : RC) (T : Str) : List V → Hp → VK → Prop := fun vs H Q => ∃ v dx b, (∃ n, T = Str.ofString n ∧ vs = [v, .ty n]) ∧ RpT R H v dx ∧ tyD T dx = some b ∧ Q (.bl b) H
end
end TH

set_option Elab.async false
set_option linter.all false
set_option maxRecDepth 100000
set_option maxHeartbeats 4000000
/-! DVD: dicts whose keys are tuples. -/
namespace TH
open PySem PySem.Spec PyProof.Rows L2
section
variable {X : Cx} {C : Cn} {pins : List (Addr × Obj)} {σ : L2.St} {H : Hp} {s : Shared} {P : Addr → Prop}
mutual
theorem Rp.nested (I : Inv X pins σ H s) : ∀ {d : D} {v : V} {u : Value} {k : NestedKey}, Rp (rc X C) P H v d → d.nk = some k → RelV v u → NestedIs s.heap k u
  | .non, v, u, k, h, e, r => by
    cases h
    cases e
    cases r
    exact .none
  | .bl b, v, u, k, h, e, r => by
    cases h
    cases e
    cases r
    exact .bool rfl
  | .int i, v, u, k, h, e, r => by
    cases h
    cases e
    obtain ⟨t, rfl⟩ := r
    exact .int _ _
  | .str x, v, u, k, h, e, r => by
    cases h
    cases e
    obtain ⟨t, rfl⟩ := r
    exact .text _ _
  | .tup ds, v, u, k, h, e, r => by
    have e' : (nks ds).map NestedKey.tup = some k := e
    rw [Option.map_eq_some_iff] at e'
    obtain ⟨kk, e1, e2⟩ := e'
    subst e2
    cases h with
    | tup hs hr =>
      obtain ⟨its, rv, ⟨o, ho, hc, n, hd⟩, hz⟩ := I.tuple hs
      cases r
      exact .tup ho hc hd (by simpa using Rps.nested I hr e1 rv)
  | .lst _, _, _, _, _, e, _ => by cases e
  | .dct _ _, _, _, _, _, e, _ => by cases e
  | .hou _ _, _, _, _, _, e, _ => by cases e
  | .hou1 _, _, _, _, _, e, _ => by cases e
  | .scr _, _, _, _, _, e, _ => by cases e
  | .cst _, _, _, _, _, e, _ => by cases e
  | .tbl _ _ _, _, _, _, _, e, _ => by cases e
  | .exc _ _ _, _, _, _, _, e, _ => by cases e
theorem Rps.nested (I : Inv X pins σ H s) : ∀ {ds : List D} {vs : List V} {us : List Value} {ks : List NestedKey}, Rps (rc X C) P H vs ds → nks ds = some ks → Vals vs us → NestedAll s.heap ks us
  | [], _, us, ks, .nil, e, r => by
    cases e
    cases r
    exact .nil
  | d :: ds, _, us, ks, .cons h t, e, r => by
    rw [nks] at e
    rw [Option.bind_eq_some_iff] at e
    obtain ⟨a, e1, e2⟩ := e
    rw [Option.map_eq_some_iff] at e2
    obtain ⟨as, e3, e4⟩ := e2
    subst e4
    cases r with
    | cons r1 r2 => exact .cons (Rp.nested I h e1 r1) (Rps.nested I t e3 r2)
end
/-- the keys of the data stand for the keys of the dict -/
def KeysAt (X : Cx) (C : Cn) (H : Hp) (xs : List (NestedKey × Addr × Value)) : Prop := ∃ (P : Addr → Prop) (ks : List D), nks ks = some (xs.map (·.1)) ∧ Rps (rc X C) P H (xs.map fun x => .ref x.2.1) ks
theorem keys_is (I : Inv X pins σ H s) : ∀ {xs : List (NestedKey × Addr × Value)} {ks : List D}, nks ks = some (xs.map (·.1)) → Rps (rc X C) P H (xs.map fun x => .ref x.2.1) ks → (∀ x ∈ xs, x.1.depth ≤ 8) → ∀ x ∈ xs, (nestedKind X.prog X.w).is s.heap x.1 x.2.1
  | [], _, _, _, _, x, hx => nomatch hx
  | y :: xs, ks, e, r, hd, x, hx => by
    rw [List.map_cons] at e r
    cases r with
    | cons r1 r2 =>
      rw [nks] at e
      rw [Option.bind_eq_some_iff] at e
      obtain ⟨a, e1, e2⟩ := e
      rw [Option.map_eq_some_iff] at e2
      obtain ⟨as, e3, e4⟩ := e2
      injection e4 with e5 e6
      subst e5 e6
      rcases List.mem_cons.mp hx with q | hx
      · subst q
        exact ⟨Rp.nested I r1 e1 rfl, hd _ List.mem_cons_self⟩
      · exact keys_is I e3 r2 (fun z hz => hd z (List.mem_cons_of_mem _ hz)) x hx
theorem dic_at (I : Inv X pins σ H s) {a : Addr} {xs : List (NestedKey × Addr × Value)} (h : H a = some (DicO X.prog X.w a xs)) (hk : KeysAt X C H xs) :
    s.heap.DictOfH (nestedKind X.prog X.w) a xs ∧ (a == sysModules) = false ∧ xs.length ≤ sizeLine ∧ ∀ x ∈ xs, x.1.depth ≤ 8 := by
  obtain ⟨⟨o, es, ep, h1, h2, h3, h4, h5, h6, h7, h8⟩, _, _⟩ := (show ObjOk X.prog X.w H s.heap a (DicO X.prog X.w a xs) from I.hok a _ h)
  obtain ⟨P, ks, e, r⟩ := hk
  exact ⟨⟨o, es, ep, h1, h2, h3, h4, keys_is I e r h8, h5⟩, h6, h7, h8⟩
theorem dic_obj {a : Addr} {h' : Heap} {H' : Hp} {xs : List (NestedKey × Addr × Value)} (h : h'.DictOfH (nestedKind X.prog X.w) a xs) (h1 : (a == sysModules) = false) (h2 : xs.length ≤ sizeLine) : ObjOk X.prog X.w H' h' a (DicO X.prog X.w a xs) := by
  obtain ⟨o, es, ep, g1, g2, g3, g4, g5, g6⟩ := h
  refine ⟨⟨o, es, ep, g1, g2, g3, g4, g6, h1, h2, fun x hx => (g5 x hx).2⟩, ⟨o, g1⟩, ?_⟩
  rintro h3 h4 ⟨o', es', ep', k1, k⟩ kp
  exact ⟨o', es', ep', kp _ k1, k⟩
/-- {} -/
def tDNewN (X : Cx) : TE := fun _ H Q => ∀ p, H p = none → Q (.ref p) (upd H p (DicO X.prog X.w p []))
theorem pe_dnewN {pos : Pos} : PE X (.Dict [] [] pos) (tDNewN X) := ⟨fun pins s σ H Q I h =>
  wpAny_Dict_empty ⟨.ref s.heap.objs.size, _, I.laid (a := s.heap.objs.size) (o := DicO X.prog X.w s.heap.objs.size []) (t' := s.toks) (fun _ _ q => Heap.get?_push_of_some _ q) (Nat.le_refl _)
    (dic_obj (Heap.DictOfH.new s.heap) (beq_eq_false_iff_ne.mpr (Nat.ne_of_gt I.big)) (Nat.zero_le _)), rfl, h _ (I.hok.fresh (Nat.le_refl _))⟩⟩
/-- d[k] = v -/
def rSetN (X : Cx) (C : Cn) : TSet := fun o i v H Q => ∃ a xs k b, o = .ref a ∧ i = .ref b ∧ H a = some (DicO X.prog X.w a xs) ∧ KeysAt X C H xs ∧ (∃ (P : Addr → Prop) (d : D), Rp (rc X C) P H (.ref b) d ∧ d.nk = some k ∧ k.depth ≤ 8) ∧ xs.length < sizeLine ∧
  ∀ u, RelV v u → (xs.map (·.1)).Nodup → Q (upd H a (DicO X.prog X.w a (storedH xs k b u)))
theorem storedH_len (xs : List (NestedKey × Addr × Value)) (k : NestedKey) (b : Addr) (u : Value) : (storedH xs k b u).length ≤ xs.length + 1 := by
  unfold storedH
  split
  · rw [List.length_map]; omega
  · rw [List.length_append]; exact Nat.le_refl _
theorem set_dictN (hu : X.A.units + 64 < cLine) : PSet X (rSetN X C) := by
  intro pins s σ H o i v ov iv u Q I ro ri rv h
  obtain ⟨a, xs, k, b, rfl, rfl, hd, hk, ⟨P, d, hr, hn, hdep⟩, hl, q⟩ := h
  cases (show ov = Value.ref a from ro)
  cases (show iv = Value.ref b from ri)
  obtain ⟨dd, h6, h7, h8⟩ := dic_at I hd hk
  refine wpAny_setItem_heap (knd := nestedKind X.prog X.w) (hsz := h7) (by show X.A.units + 1 + 8 < cLine; omega) ⟨Rp.nested I hr hn rfl, hdep⟩ dd fun h' dd' hs => ?_
  have he : ∃ q, h'.get? a = some q := let ⟨q, _, _, hq, _⟩ := dd'; ⟨q, hq⟩
  have hlen := storedH_len xs k b u
  exact ⟨_, I.write (x := a) (e := a) (by rw [hd]; exact True.intro) (.inl rfl) (fun c q hc z => (hs.2 c hc).trans z) he (dic_obj dd' h6 (by omega)), q u rv (let ⟨_, _, _, _, _, _, _, _, z⟩ := dd; z)⟩
/-- x[i] = v, a list or a dict -/
def rSetB (X : Cx) (C : Cn) : TSet := fun o i v H Q => rSetL o i v H Q ∨ rSetN X C o i v H Q
theorem set_both (hu : X.A.units + 64 < cLine) : PSet X (rSetB X C) := by
  intro pins s σ H o i v ov iv u Q I ro ri rv h
  rcases h with h | h
  · exact set_list pins s σ H o i v ov iv u Q I ro ri rv h
  · exact set_dictN hu pins s σ H o i v ov iv u Q I ro ri rv h
end
/-! ### what a store does to the data -/
theorem nks_append : ∀ {ds : List D} {ks : List NestedKey} {d : D} {k : NestedKey}, nks ds = some ks → d.nk = some k → nks (ds ++ [d]) = some (ks ++ [k])
  | [], ks, d, k, e, h => by
    cases e
    show d.nk.bind _ = _
    rw [h]; rfl
  | x :: ds, ks, d, k, e, h => by
    rw [nks, Option.bind_eq_some_iff] at e
    obtain ⟨a, e1, e2⟩ := e
    rw [Option.map_eq_some_iff] at e2
    obtain ⟨as, e3, e4⟩ := e2
    subst e4
    rw [List.cons_append, nks, e1, nks_append e3 h]
    rfl
theorem kIdx_none {k : NestedKey} : ∀ {xs : List (NestedKey × Addr × Value)} {n : Nat}, kIdx k (xs.map (·.1)) n = none → atKey xs k = none
  | [], _, _ => rfl
  | x :: xs, n, h => by
    rw [List.map_cons, kIdx] at h
    cases hb : NestedKey.beq x.1 k with
    | true => rw [hb] at h; cases h
    | false =>
      rw [hb] at h
      have ih := kIdx_none (xs := xs) h
      have hne : decide (x.1 = k) = false := by rw [NestedKey.decide_eq]; exact hb
      unfold atKey at ih ⊢
      rw [List.find?_cons, hne]
      exact ih
theorem kIdx_some {k : NestedKey} {u : Value} : ∀ {xs : List (NestedKey × Addr × Value)} {n j : Nat}, kIdx k (xs.map (·.1)) n = some j → (xs.map (·.1)).Nodup → n ≤ j ∧ (atKey xs k).isSome = true ∧ (xs.map (putAt k u)).map (·.2.2) = (xs.map (·.2.2)).set (j - n) u
  | [], _, _, h, _ => by cases h
  | x :: xs, n, j, h, hn => by
    rw [List.map_cons, kIdx] at h
    rw [List.map_cons, List.nodup_cons] at hn
    cases hb : NestedKey.beq x.1 k with
    | true =>
      rw [hb] at h
      cases h
      have hk : x.1 = k := NestedKey.eq_of_beq _ _ hb
      refine ⟨Nat.le_refl _, ?_, ?_⟩
      · unfold atKey
        rw [List.find?_cons, decide_eq_true hk]; rfl
      · rw [Nat.sub_self, List.map_cons, List.map_cons, List.map_cons, List.set_cons_zero]
        congr 1
        · unfold putAt; rw [if_pos hk]
        · rw [List.map_map]
          apply List.map_congr_left
          intro y hy
          have : ¬ y.1 = k := fun e => hn.1 (by rw [hk, ← e]; exact List.mem_map_of_mem hy)
          show (putAt k u y).2.2 = y.2.2
          unfold putAt
          rw [if_neg this]
    | false =>
      rw [hb] at h
      obtain ⟨h1, h2, h3⟩ := kIdx_some (xs := xs) h hn.2
      have hne : decide (x.1 = k) = false := by rw [NestedKey.decide_eq]; exact hb
      refine ⟨by omega, ?_, ?_⟩
      · unfold atKey at h2 ⊢
        rw [List.find?_cons, hne]; exact h2
      · rw [show j - n = (j - (n + 1)) + 1 by omega, List.map_cons, List.map_cons, List.map_cons, List.set_cons_succ, h3]
        congr 1
        unfold putAt
        rw [if_neg (of_decide_eq_false hne)]
theorem putAt_fst (k : NestedKey) (u : Value) (xs : List (NestedKey × Addr × Value)) : (xs.map (putAt k u)).map (·.1) = xs.map (·.1) := by
  rw [List.map_map]
  apply List.map_congr_left
  intro y _
  show (putAt k u y).1 = y.1
  unfold putAt
  split <;> rfl
theorem putAt_ref (k : NestedKey) (u : Value) (xs : List (NestedKey × Addr × Value)) : (xs.map (putAt k u)).map (fun x => V.ref x.2.1) = xs.map fun x => V.ref x.2.1 := by
  rw [List.map_map]
  apply List.map_congr_left
  intro y _
  show V.ref (putAt k u y).2.1 = V.ref y.2.1
  unfold putAt
  split <;> rfl
theorem vals_set {v : V} {u : Value} (r : RelV v u) : ∀ {vs : List V} {us : List Value} (j : Nat), Vals vs us → Vals (vs.set j v) (us.set j u)
  | _, _, _, .nil => .nil
  | _, _, 0, .cons _ t => .cons r t
  | _, _, j + 1, .cons q t => .cons q (vals_set r j t)
theorem vals_snoc {v : V} {u : Value} (r : RelV v u) : ∀ {vs : List V} {us : List Value}, Vals vs us → Vals (vs ++ [v]) (us ++ [u])
  | _, _, .nil => .cons r .nil
  | _, _, .cons q t => .cons q (vals_snoc r t)
theorem kOf_inv {d : D} {k : NestedKey} (h : kOf d = some k) : (∃ ds, d = .tup ds) ∧ d.nk = some k ∧ k.depth ≤ 8 := by
  unfold kOf at h
  split at h
  · rename_i xs
    refine ⟨⟨_, rfl⟩, ?_⟩
    split at h
    · rename_i k' e
      obtain ⟨h1, h2⟩ := gd_some h
      subst h2
      exact ⟨e, Nat.le_of_ble_eq_true h1⟩
    · cases h
  · cases h
/-- the dict behind the store, as data -/
theorem store_rp {R : RC} {P : Addr → Prop} {H' : Hp} {b : Addr} {xs : List (NestedKey × Addr × Value)} {vs : List V} {ks ds ks' ds' : List D} {key d : D} {v : V} {k : NestedKey}
    (n : nks ks = some (xs.map (·.1))) (nd : (xs.map (·.1)).Nodup) (r1 : Rps R P H' (xs.map fun x => .ref x.2.1) ks) (z : Vals vs (xs.map (·.2.2))) (r2 : Rps R P H' vs ds) (rk : Rp R P H' (.ref b) key) (rv : Rp R P H' v d) (hk : kOf key = some k) (hs : storeD ks ds key d = some (ks', ds')) :
    ∀ u, RelV v u → ∃ vs', nks ks' = some ((storedH xs k b u).map (·.1)) ∧ Rps R P H' ((storedH xs k b u).map fun x => .ref x.2.1) ks' ∧ Vals vs' ((storedH xs k b u).map (·.2.2)) ∧ Rps R P H' vs' ds' := by
  intro u ru
  unfold storeD at hs
  rw [n, hk] at hs
  dsimp only at hs
  obtain ⟨_, hs⟩ := gd_some hs
  cases hi : kIdx k (xs.map (·.1)) 0 with
  | some j =>
    rw [hi] at hs
    cases hs
    obtain ⟨_, h2, h3⟩ := kIdx_some (u := u) hi nd
    obtain ⟨p, hp⟩ := Option.isSome_iff_exists.mp h2
    rw [storedH_old hp, putAt_fst, putAt_ref, h3, Nat.sub_zero]
    exact ⟨vs.set j v, n, r1, vals_set ru j z, Rps.set rv j r2⟩
  | none =>
    rw [hi] at hs
    cases hs
    rw [storedH_new (kIdx_none hi), List.map_append, List.map_append, List.map_append]
    exact ⟨vs ++ [v], nks_append n (kOf_inv hk).2.1, r1.append (.one rk), vals_snoc ru z, r2.append (.one rv)⟩
theorem store_sz {R : RC} {P : Addr → Prop} {H : Hp} {xs : List (NestedKey × Addr × Value)} {ks ds : List D} {key d : D} {p : List D × List D} (n : nks ks = some (xs.map (·.1))) (r1 : Rps R P H (xs.map fun x => .ref x.2.1) ks) (hs : storeD ks ds key d = some p) : (∃ k, kOf key = some k) ∧ xs.length < sizeLine := by
  unfold storeD at hs
  cases hk : kOf key with
  | some k =>
    rw [n, hk] at hs
    refine ⟨⟨k, rfl⟩, ?_⟩
    have := sz_lt (gd_some hs).1
    have hl := r1.length
    rw [List.length_map] at hl
    omega
  | none => rw [n, hk] at hs; cases hs
end TH

set_option Elab.async false
set_option linter.all false
set_option maxRecDepth 100000
set_option maxHeartbeats 4000000
/-! DVS: sorted(d) of a dict whose keys are pairs of ints. -/
namespace TH
open PySem PySem.Spec PyProof.Rows L2
theorem lexI_eq (p q : Int × Int) : lexI p q = SrtO.lexB p q := by
  unfold lexI SrtO.lexB
  by_cases h : p.1 = q.1
  · rw [decide_eq_true h, if_pos h]
  · rw [decide_eq_false h, if_neg h]
theorem lexI_tot {p q : Int × Int} (h1 : lexI p q = false) (h2 : lexI q p = false) : p = q := by
  rw [lexI_eq] at h1 h2
  have a := SrtO.lexB_no.mp h1
  have b := SrtO.lexB_no.mp h2
  exact Prod.ext (by omega) (by omega)
theorem insP_perm (p : Int × Int) : ∀ l, (insP p l).Perm (p :: l)
  | [] => List.Perm.refl _
  | q :: r => by
    rw [insP]
    cases h : lexI p q with
    | true => exact List.Perm.refl _
    | false => exact (List.Perm.cons q (insP_perm p r)).trans (List.Perm.swap p q r)
theorem sortP_perm : ∀ l, (sortP l).Perm l
  | [] => List.Perm.refl _
  | p :: r => (insP_perm p (sortP r)).trans (List.Perm.cons p (sortP_perm r))
theorem insP_srt (p : Int × Int) : ∀ {l}, l.Pairwise (fun x y => lexI y x = false) → (insP p l).Pairwise fun x y => lexI y x = false
  | [], _ => List.pairwise_singleton _ _
  | q :: r, h => by
    rw [insP]
    cases hb : lexI p q with
    | true =>
      refine List.pairwise_cons.mpr ⟨fun z hz => ?_, h⟩
      rw [lexI_eq] at hb
      have a := SrtO.lexB_iff.mp hb
      rcases List.mem_cons.mp hz with e | hz
      · subst e
        rw [lexI_eq]
        exact SrtO.lexB_no.mpr (by omega)
      · have b := (List.pairwise_cons.mp h).1 z hz
        rw [lexI_eq] at b
        have b := SrtO.lexB_no.mp b
        rw [lexI_eq]
        exact SrtO.lexB_no.mpr (by omega)
    | false =>
      refine List.pairwise_cons.mpr ⟨fun z hz => ?_, insP_srt p (List.pairwise_cons.mp h).2⟩
      rcases List.mem_cons.mp ((insP_perm p r).mem_iff.mp hz) with e | hz
      · subst e; exact hb
      · exact (List.pairwise_cons.mp h).1 z hz
theorem sortP_srt : ∀ l, (sortP l).Pairwise fun x y => lexI y x = false
  | [] => .nil
  | p :: r => insP_srt p (sortP_srt r)
theorem srt_uniq : ∀ {l m : List (Int × Int)}, l.Pairwise (fun x y => lexI y x = false) → m.Pairwise (fun x y => lexI y x = false) → l.Perm m → l = m
  | [], m, _, _, h => (List.Perm.eq_nil h.symm).symm
  | x :: l, [], _, _, h => absurd h.length_eq (by simp)
  | x :: l, y :: m, hl, hm, h => by
    have h1 : lexI x y = false := by
      rcases List.mem_cons.mp (h.mem_iff.mp (List.mem_cons_self (a := x) (l := l))) with e | hx
      · rw [e, lexI_eq]; exact SrtO.lexB_no.mpr (by omega)
      · exact (List.pairwise_cons.mp hm).1 x hx
    have h2 : lexI y x = false := by
      rcases List.mem_cons.mp (h.mem_iff.mpr (List.mem_cons_self (a := y) (l := m))) with e | hy
      · rw [e, lexI_eq]; exact SrtO.lexB_no.mpr (by omega)
      · exact (List.pairwise_cons.mp hl).1 y hy
    have e : x = y := lexI_tot h1 h2
    subst e
    rw [srt_uniq (List.pairwise_cons.mp hl).2 (List.pairwise_cons.mp hm).2 h.cons_inv]
theorem pairL_map : ∀ {ks : List D} {ps : List (Int × Int)}, pairL ks = some ps → ks = ps.map pairD
  | [], ps, h => by cases h; rfl
  | .tup [.int a, .int b] :: r, ps, h => by
    have h' : ((pairL r).map fun l => (a, b) :: l) = some ps := h
    rw [Option.map_eq_some_iff] at h'
    obtain ⟨l, e1, e2⟩ := h'
    subst e2
    rw [pairL_map e1]; rfl
  | .non :: _, _, h => by cases h
  | .bl _ :: _, _, h => by cases h
  | .int _ :: _, _, h => by cases h
  | .str _ :: _, _, h => by cases h
  | .lst _ :: _, _, h => by cases h
  | .dct _ _ :: _, _, h => by cases h
  | .hou _ _ :: _, _, h => by cases h
  | .hou1 _ :: _, _, h => by cases h
  | .scr _ :: _, _, h => by cases h
  | .cst _ :: _, _, h => by cases h
  | .tbl _ _ _ :: _, _, h => by cases h
  | .exc _ _ _ :: _, _, h => by cases h
  | .tup [] :: _, _, h => by cases h
  | .tup [x] :: _, _, h => by cases x <;> cases h
  | .tup (x :: y :: z :: _) :: _, _, h => by cases x <;> cases y <;> cases h
  | .tup [.non, _] :: _, _, h => by cases h
  | .tup [.bl _, _] :: _, _, h => by cases h
  | .tup [.str _, _] :: _, _, h => by cases h
  | .tup [.lst _, _] :: _, _, h => by cases h
  | .tup [.tup _, _] :: _, _, h => by cases h
  | .tup [.dct _ _, _] :: _, _, h => by cases h
  | .tup [.hou _ _, _] :: _, _, h => by cases h
  | .tup [.hou1 _, _] :: _, _, h => by cases h
  | .tup [.scr _, _] :: _, _, h => by cases h
  | .tup [.cst _, _] :: _, _, h => by cases h
  | .tup [.tbl _ _ _, _] :: _, _, h => by cases h
  | .tup [.exc _ _ _, _] :: _, _, h => by cases h
  | .tup [.int _, .non] :: _, _, h => by cases h
  | .tup [.int _, .bl _] :: _, _, h => by cases h
  | .tup [.int _, .str _] :: _, _, h => by cases h
  | .tup [.int _, .lst _] :: _, _, h => by cases h
  | .tup [.int _, .tup _] :: _, _, h => by cases h
  | .tup [.int _, .dct _ _] :: _, _, h => by cases h
  | .tup [.int _, .hou _ _] :: _, _, h => by cases h
  | .tup [.int _, .hou1 _] :: _, _, h => by cases h
  | .tup [.int _, .scr _] :: _, _, h => by cases h
  | .tup [.int _, .cst _] :: _, _, h => by cases h
  | .tup [.int _, .tbl _ _ _] :: _, _, h => by cases h
  | .tup [.int _, .exc _ _ _] :: _, _, h => by cases h
section
variable {X : Cx} {C : Cn} {pins : List (Addr × Obj)} {σ : L2.St} {H : Hp} {s : Shared} {P P' : Addr → Prop}
theorem pair_inv {R : RC} {v : V} {p : Int × Int} (h : Rp R P H v (pairD p)) : ∃ a, v = .ref a ∧ SqT R.K H a [.int p.1, .int p.2] := by
  obtain ⟨a, xs, rfl, hs, hr⟩ := h.tup_inv
  cases hr with
  | cons r1 r2 => cases r2 with
    | cons r2 r3 => cases r3 with
      | nil =>
        rw [r1.int_inv, r2.int_inv] at hs
        exact ⟨a, rfl, hs⟩
theorem pair_inj (I : Inv X pins σ H s) {v : V} {p q : Int × Int} (h : Rp (rc X C) P H v (pairD p)) (h' : Rp (rc X C) P' H v (pairD q)) : p = q := by
  obtain ⟨a, rfl, hs⟩ := pair_inv h
  obtain ⟨b, e, hs'⟩ := pair_inv h'
  cases e
  have := I.tuple_inj hs hs'
  injection this with e1 e2
  injection e2 with e2 _
  injection e1 with e1
  injection e2 with e2
  exact Prod.ext e1 e2
theorem pair_is (I : Inv X pins σ H s) {b : Addr} {p : Int × Int} (h : Rp (rc X C) P H (.ref b) (pairD p)) : Srt.IsPair s.heap (.ref b) p.1 p.2 := by
  obtain ⟨a, e, hs⟩ := pair_inv h
  cases e
  obtain ⟨its, rv, ⟨o, ho, hc, n, hd⟩, _⟩ := I.tuple hs
  obtain ⟨u1, u2, rfl, ri, rj⟩ := vals2 rv
  obtain ⟨t1, rfl⟩ := ri
  obtain ⟨t2, rfl⟩ := rj
  exact ⟨b, o, t1, t2, n, rfl, ho, hc, hd⟩
open Classical in
/-- the pair that a value stands for -/
noncomputable def pairOf (R : RC) (H : Hp) (u : Value) : Int × Int := if h : ∃ p, Rp R (fun _ => True) H (backV u) (pairD p) then h.choose else (0, 0)
theorem pairOf_eq (I : Inv X pins σ H s) {b : Addr} {p : Int × Int} (h : Rp (rc X C) (fun _ => True) H (.ref b) (pairD p)) : pairOf (rc X C) H (.ref b) = p := by
  have he : ∃ p, Rp (rc X C) (fun _ => True) H (backV (.ref b)) (pairD p) := ⟨p, h⟩
  unfold pairOf
  rw [dif_pos he]
  exact pair_inj I he.choose_spec h
theorem rps_pairs {R : RC} : ∀ {us : List Value} {f : Value → Int × Int}, (∀ u ∈ us, Rp R P H (backV u) (pairD (f u))) → Rps R P H (us.map backV) ((us.map f).map pairD)
  | [], _, _ => .nil
  | u :: us, f, h => .cons (h u List.mem_cons_self) (rps_pairs fun v hv => h v (List.mem_cons_of_mem _ hv))
theorem lfs_pairs : ∀ l : List (Int × Int), lfs (l.map pairD) = true
  | [] => rfl
  | x :: l => by
    show ((pairD x).lf && lfs (l.map pairD)) = true
    rw [lfs_pairs l]; rfl
theorem cr_sortedD (hc : X.calm = true) : CallR X (.builtin "sorted") (rC1 (rc X C) sortedD) := by
  intro pins s σ H xs us Q I r h
  obtain ⟨v, dx, d, rfl, hx, e, k⟩ := h
  unfold sortedD at e
  split at e
  · rename_i ks vs
    rw [Option.map_eq_some_iff] at e
    obtain ⟨ps, e1, e2⟩ := e
    subst e2
    cases hx with
    | @dct a xs vv _ _ p hd n r1 z r2 =>
    have ek := pairL_map e1
    obtain ⟨u, rfl, ru⟩ := vals1 r
    obtain rfl : u = Value.ref a := ru
    obtain ⟨dd, h6, h7, h8⟩ := dic_at I hd ⟨_, ks, n, r1⟩
    obtain ⟨es, ep, hr, hs, he⟩ := dd.raw
    have hlen : xs.length = ps.length := by
      have := r1.length
      rw [List.length_map, ek, List.length_map] at this
      exact this
    refine Calls.call_function_entry PyProof.Rows.kind_sorted PyProof.Rows.plain_sorted PyProof.Rows.entry_sorted (PyProof.Rows.args_sorted1 _) ?_
    unfold Builtin.«sorted»
    refine wpAny_bind (m := checkCount "sorted" 1 1 _) (wpAny_pure ?_)
    refine wpAny_bind (PySem.W.kdu_collect (A := X.A.in1) (KdlSrc.rawDict h6) (I.ok.hd hc) hr (by rw [hs]; exact h7) fun h' tk acc hk hacc => ?_)
    have hal : acc.toList = xs.map fun x => Value.ref x.2.1 := by
      apply List.ext_getElem?
      intro i
      rw [Array.getElem?_toList, List.getElem?_map]
      by_cases hi : i < xs.length
      · have hi2 : i < acc.size := by rw [hacc.1, hs]; exact hi
        have e3 : acc[i]? = some acc[i] := Array.getElem?_eq_getElem hi2
        obtain ⟨hj, e4⟩ := hacc.2 i _ e3
        obtain ⟨y, hy, g1, _, _⟩ := he i hj
        rw [e3, hy, e4, g1]; rfl
      · rw [Array.getElem?_eq_none (by rw [hacc.1, hs]; omega), List.getElem?_eq_none (by omega)]; rfl
    have I1 : Inv X pins σ H { s with heap := h', toks := tk } := I.kept hk
    have hl : acc.toList.length ≤ sizeLine := by rw [hal, List.length_map]; exact h7
    refine wpAny_bind (wpAny_newList ?_ hl)
    have hoL : (h'.push (seqObj "list" acc.toList.toArray 0)).get? h'.objs.size = some (seqObj "list" acc.toList.toArray 0) := Heap.get?_push_size _ rfl
    show wpAny _ _ _ _ _ { s with heap := h'.push (seqObj "list" acc.toList.toArray 0), toks := tk }
    have rT : Rps (rc X C) (fun _ => True) H (xs.map fun x => V.ref x.2.1) (ps.map pairD) := ek ▸ r1
    have hmem : ∀ u ∈ acc.toList, ∃ b, u = Value.ref b ∧ Rp (rc X C) (fun _ => True) H (.ref b) (pairD (pairOf (rc X C) H u)) := by
      intro u hu
      rw [hal, List.mem_map] at hu
      obtain ⟨x, hx, rfl⟩ := hu
      obtain ⟨i, hi, ei⟩ := List.getElem_of_mem hx
      have hg : (xs.map fun x => V.ref x.2.1)[i]? = some (.ref x.2.1) := by rw [List.getElem?_map, List.getElem?_eq_getElem hi, ei]; rfl
      obtain ⟨d', hd', hr'⟩ := Rps.getV rT hg
      rw [List.getElem?_map, List.getElem?_eq_getElem (by omega)] at hd'
      have hd'' := Option.some.inj hd'
      subst hd''
      exact ⟨_, rfl, by rw [pairOf_eq I hr']; exact hr'⟩
    have hkm : acc.toList.map (pairOf (rc X C) H) = ps := by
      apply List.ext_getElem?
      intro i
      rw [hal, List.map_map, List.getElem?_map]
      by_cases hi : i < xs.length
      · have hg : (xs.map fun x => V.ref x.2.1)[i]? = some (.ref xs[i].2.1) := by rw [List.getElem?_map, List.getElem?_eq_getElem hi]; rfl
        obtain ⟨d', hd', hr'⟩ := Rps.getV rT hg
        rw [List.getElem?_map, List.getElem?_eq_getElem (by omega)] at hd'
        have hd'' := Option.some.inj hd'
        subst hd''
        rw [List.getElem?_eq_getElem hi, List.getElem?_eq_getElem (by omega : i < ps.length)]
        show some (pairOf (rc X C) H (.ref xs[i].2.1)) = _
        rw [pairOf_eq I hr']
      · rw [List.getElem?_eq_none (by omega), List.getElem?_eq_none (by omega)]; rfl
    refine wpAny_bind (wpAny_holding (wpAny_call_entry PyProof.Rows.slot_list_sort ⟨_, hoL, rfl⟩ PyProof.Rows.entry_list_sort
      (SrtO.list_sort_ord (s := { s with heap := h'.push (seqObj "list" acc.toList.toArray 0), toks := tk }) (SrtO.swo_lex (pairOf (rc X C) H)) hoL hl (fun h2 => ?sortable) fun out hs hb => ⟨_, rfl, ?out⟩)
      (PyProof.Rows.args_list_sort _)))
    case sortable =>
      refine SrtO.pairs_sortableO (by omega) (fun v hv => ?_) fun o ho => ?_
      · obtain ⟨b, rfl, hb⟩ := hmem v hv
        exact (pair_is I1 hb).keeps fun c o ho _ => Heap.get?_push_of_some _ ho
      · have e' : some o = some (seqObj "list" acc.toList.toArray 0) := ho.symm.trans hoL
        cases e'
        intro c
        exact absurd (Value.type.inj c) (by decide)
    case out =>
      obtain ⟨e', he'⟩ := PyProof.Rows.sortedHeap_at (vs := acc.toList) (out := out.toArray) hoL
      have h3 : ∀ u ∈ out, ∃ a, u = Value.ref a := fun u hu => let ⟨b, e, _⟩ := hmem u (hb.perm.mem_iff.mp hu); ⟨b, e⟩
      have hlen2 : (out.map backV).length ≤ sizeLine := by
        rw [List.length_map, hb.perm.length_eq]; exact hl
      have hso : out.map (pairOf (rc X C) H) = sortP ps := by
        refine srt_uniq ?_ (sortP_srt ps) ?_
        · rw [List.pairwise_map]
          refine List.Pairwise.imp ?_ hs
          intro x y hxy
          rw [lexI_eq]; exact hxy
        · have q1 := hb.perm.map (pairOf (rc X C) H)
          rw [hkm] at q1
          exact q1.trans (sortP_perm ps).symm
      have fr := I1.hok.fresh (Nat.le_refl h'.objs.size)
      refine wpAny_pure ⟨_, rfl, .ref h'.objs.size, upd H h'.objs.size (.lst (out.map backV)), I1.laid (t' := tk) (fun b u e => ?_) (Nat.le_refl _)
        (show ObjOk X.prog X.w _ _ _ (.lst (out.map backV)) from ⟨hlen2, out, e', vals_back h3, he'⟩), rfl, k _ _ ⟨same_upd fr, fun P hP hN => ?_⟩⟩
      · have hbl : b < h'.objs.size := Heap.lt_size e
        rw [PyProof.Rows.sortedHeap_old (Nat.ne_of_lt hbl) (by rw [size_push']; exact Nat.lt_succ_of_lt hbl)]
        exact Heap.get?_push_of_some _ e
      · refine .lst (hN _ fr) upd_same ?_
        rw [← hso]
        refine Rps.keep (O := []) (Same.ext (same_upd fr)) (fun _ _ => by simp) (fun _ x => x) ?_
        refine rps_pairs fun u hu => ?_
        obtain ⟨b, rfl, hb'⟩ := hmem u (hb.perm.mem_iff.mp hu)
        exact Rp.lf P rfl hb'
  · cases e
end
end TH

set_option Elab.async false
set_option linter.all false
set_option maxRecDepth 100000
set_option maxHeartbeats 4000000
/-! DV5: the evaluator's expressions are sound. -/
namespace TH
open PySem PySem.Spec PyProof.Rows L2

def bltNames : List Str := ["len", "int", "list", "tuple", "abs", "max", "min", "range", "zip", "isinstance", "bool", "str", "enumerate", "reversed", "sorted", "set"]
def KeepBut (r : Addr) (H H' : Hp) : Prop := ∀ a o, H a = some o → a ≠ r → H' a = some o
def RowAt (R : RC) (H : Hp) (r : Addr) (row : Row) : Prop := ∃ ds xs, row = some ds ∧ H r = some (.lst xs) ∧ Rps R (fun _ => False) H xs ds
/-- what a def promises: its evaluator's answer -/
def spF (R : RC) (fn : Fn) : Sp := fun vs H Q E =>
  (fn.io = false ∧ ∃ ds, RpsT R H vs ds ∧ match fn.run ds none with
    | .no => False
    | .ok d _ => ∀ v H', Same H H' → Rp R (fun a => H a = none) H' v d → Q v H'
    | .ex x _ => ∀ dd H', Same H H' → XFl R H' x.flds dd → E (xcls R x) dd H') ∨
  (fn.io = true ∧ ∃ r vs' ds row xs, vs = .ref r :: vs' ∧ H r = some (.lst xs) ∧ Rps R (fun _ => False) H xs row ∧ Rps R (fun a => a ≠ r) H vs' ds ∧ match fn.run ds (some row) with
    | .no => False
    | .ok d row' => ∀ v H', KeepBut r H H' → RowAt R H' r row' → Rp R (fun a => H a = none) H' v d → Q v H'
    | .ex x row' => ∀ dd H', KeepBut r H H' → RowAt R H' r row' → XFl R H' x.flds dd → E (xcls R x) dd H')
structure CallOk (X : Cx) (C : Cn) (x : Str) (fn : Fn) : Prop where
  ex : ∃ (k : Nat) (f : Addr) (fd : FuncData) (ps : List Str), FnOk X.prog X.w X.K X.mg X.base (L2.CX X.prog X.w) k f fd ps (spF (rc X C) fn) ∧ Room k X.A ∧ X.mg x = some (.ref f) ∧ PySem.W.keepIn X.K (.ref f) = true ∧ Binds X.K fd ps []
/-- what __init__ promises -/
def spM (R : RC) (fn : Fn) : Sp := fun vs H Q E => ∃ x dx vs' ds, vs = .ref x :: vs' ∧ H x = some (.ins R.C.C dx []) ∧ Rps R (· ≠ x) H vs' ds ∧ match fn.run ds none with
    | .no => False
    | .ok d _ => ∀ H', KeepBut x H H' → Rp R (fun a => a = x ∨ H a = none) H' (.ref x) d → Q .non H'
    | .ex z _ => ∀ dd H', KeepBut x H H' → XFl R H' z.flds dd → E (xcls R z) dd H'
structure MkOk (X : Cx) (C : Cn) (x : Str) (fn : Fn) : Prop where
  ex : ∃ (k : Nat) (f : Addr) (fd : FuncData) (ps : List Str), Mk X.K C.C f ∧ FnOk X.prog X.w X.K X.mg X.base (L2.CX X.prog X.w) k f fd ps (spM (rc X C) fn) ∧ Room (k + 1) X.A ∧ X.mg x = some (.ref C.C) ∧ Binds X.K fd ps []
/-- a method of the houses -/
structure MetOk (X : Cx) (C : Cn) (m : Str) (fn : Fn) : Prop where
  io : fn.io = false
  ex : ∃ (k : Nat) (f : Addr) (fd : FuncData) (ps : List Str), Meth X.K C.C m f ∧ FnOk X.prog X.w X.K X.mg X.base (L2.CX X.prog X.w) k f fd ps (spF (rc X C) fn) ∧ Room k X.A ∧ Binds X.K fd ps []
/-- an exception class of no fields, made with a text -/
def ExK (X : Cx) (x : Str) : Prop := Gl X x → ∀ (m : Str) (j : Nat) (p p2 pos : Pos), PMk X (.Call (.Name x p) [.Constant (.str m) j p2] [] pos) (fun _ H Q => Q (.ref (He.ga X.K x)) none H)
def rExF (R : RC) (x : Str) (ns : List Str) (t : TA) : L2.St → Hp → XK → Prop := fun σ H Q => t σ H fun vs H1 => ∃ ds, Rps R (fun _ => False) H1 vs ds ∧ ds.length = ns.length ∧ ∀ dd H', Same H1 H' → XFl R H' (ns.zip ds) dd → Q (.ref (He.ga R.K x)) dd H'
/-- an exception class whose __init__ keeps its arguments -/
def ExF (X : Cx) (C : Cn) (x : Str) (ns : List Str) : Prop := Gl X x → ∀ (e : Expr) (es : List Expr) (p pos : Pos) (t : TA), nsts (e :: es) = true → PA X (e :: es) t → PMk X (.Call (.Name x p) (e :: es) [] pos) (rExF (rc X C) x ns t)
def tvOf (K : PySem.W.Frag) (T : Str) : Value := match seq T "ValueError" with
  | true => .type "ValueError"
  | false => .ref (He.ga K T)
/-- the exception classes -/
structure ExsOk (K : PySem.W.Frag) (mg : Str → Option Value) (L : List Str) : Prop where
  ve : mg "ValueError" = none
  gl : ∀ T, memS T L = true → mg T = some (.ref (He.ga K T))
  ec : ∀ T, memS T L = true → ExcC K (He.ga K T)
  kit : ∀ cls T b, isSub L cls T = some b → PySem.W.kitOne K (.ref (He.ga K cls)) (tvOf K T) = some b ∧ PySem.W.exmOne K (.ref (He.ga K cls)) (tvOf K T) = some b
structure COk (X : Cx) (C : Cn) (c : Ctx) (W : WX) : Prop where
  N : X.N = c.N
  nd : c.N.Nodup
  sc : X.env.scope = c.sc
  kind : c.sc.kind = .function
  calm : c.calm = true → X.calm = true
  po : c.loops = true → PassesOwn (model X.prog X.w) X.A X.env X.xe
  st : ∀ x k, k ≠ .free → c.st.names.lookup x = some k → c.sc.names.lookup x = some k
  fnc : ∀ x, c.st.names.lookup x = some .cell → X.fn x = true
  okn : ∀ x k, c.sc.names.lookup x = some k → okN x = true
  room : X.A.units + 64 < cLine
  tk : Takes X W
  blt : ∀ x ∈ bltNames, X.mg x = none
  cst : ∀ x d, look x c.cst = some d → ∃ v u, X.mg x = some u ∧ RelV v u ∧ ∀ P H, Rp (rc X C) P H v d
  fns : c.calm = true → ∀ x fn, look x c.fns = some fn → CallOk X C x fn
  mks : c.calm = true → ∀ x fn, look x c.mks = some fn → MkOk X C x fn
  mts : c.calm = true → ∀ m fn, look m c.mts = some fn → MetOk X C m fn
  exk : c.loops = true → ∀ pn xe x, look x c.exs = some [] → ExK (X.tr pn xe) x
  exf : c.loops = true → ∀ pn xe x n ns, look x c.exs = some (n :: ns) → ExF (X.tr pn xe) C x (n :: ns)
  xs : ExsOk X.K X.mg c.cls
  exI : c.calm = false → ∀ a D, C.e = some (a, .ref D, none) → ExcC X.K D → CallR X (.builtin "isinstance") (rIsE X.K D a)
  e0 : c.tries = true → C.e = none
  top : c.loops = true → X.stack = X.env :: X.outer ∧ X.env.frame = some X.env.locals
  hcls : Cls X.K C.C
  nkt : NoAttr X.K C.C "kept_things"
  nkk : NoAttr X.K C.C "kept_ties"
  noio : ∀ i, c.io = some i → isOwn c i = false
theorem okN_d {x : Str} (h : okN x = true) : (x == ("__debug__" : Str)) = false ∧ (x == ("__classdict__" : Str)) = false := by
  unfold okN at h
  rw [Bool.and_eq_true, Bool.not_eq_true', Bool.not_eq_true'] at h
  constructor
  · simpa using seq_ne h.1
  · simpa using seq_ne h.2
section
variable {X : Cx} {C : Cn} {c : Ctx} {W : WX} {B : Bg}
theorem COk.slot (k : COk X C c W) {x : Str} {i : Nat} (h : slot c x = some i) : X.N[i]? = some x ∧ Vis X.env.scope x ∧ okN x = true := by
  unfold TH.slot at h
  rw [look_eq] at h
  rw [k.N]
  unfold Vis
  rw [k.sc]
  cases e : c.sc.names.lookup x with
  | none => rw [e] at h; cases h
  | some z =>
    have z2 := k.okn x z e
    rw [e] at h
    cases z with
    | «local» => exact ⟨idx_at h, .inl rfl, z2⟩
    | cell => exact ⟨idx_at h, .inr (.inl rfl), z2⟩
    | free => exact ⟨idx_at h, .inr (.inr rfl), z2⟩
    | globalExplicit => cases h
    | globalImplicit => cases h
theorem COk.slotL (k : COk X C c W) {x : Str} {i : Nat} (h : slotL c x = some i) : X.N[i]? = some x ∧ L2.Loc X.env.scope x ∧ (X.fn x = true ∨ X.env.scope.names.lookup x = some .local) ∧ TH.slot c x = some i := by
  have h0 := h
  unfold TH.slotL at h
  rw [look_eq] at h
  unfold TH.slot
  rw [look_eq]
  rw [k.N]
  unfold L2.Loc
  rw [k.sc]
  cases e : c.st.names.lookup x with
  | none => rw [e] at h; cases h
  | some z =>
    rw [e] at h
    cases z with
    | «local» =>
      have e2 := k.st x _ (by decide) e
      rw [e2]
      exact ⟨idx_at h, .inl rfl, .inr rfl, h⟩
    | cell =>
      have e2 := k.st x _ (by decide) e
      rw [e2]
      exact ⟨idx_at h, .inr rfl, .inl (k.fnc x e), h⟩
    | free => cases h
    | globalExplicit => cases h
    | globalImplicit => cases h
theorem COk.gl (k : COk X C c W) {x : Str} (h : isGl c x = true) : Gl X x ∧ okN x = true := by
  unfold isGl at h
  rw [look_eq] at h
  unfold Gl Env.kindOf
  rw [k.sc]
  cases e : c.sc.names.lookup x with
  | none => rw [e] at h; cases h
  | some z =>
    have z2 := k.okn x z e
    rw [e] at h
    cases z with
    | globalImplicit => exact ⟨rfl, z2⟩
    | _ => cases h
theorem nst_star {e : Expr} {es : List Expr} {env : PySem.Env} (h : nst e = true) : starEach (e :: es) env = (false, eval e env) :: starEach es env := by
  cases e <;> first | rfl | cases h
theorem Fr.odoS {R : RC} {O : List Addr} {S : Env} {row : Row} {σ : L2.St} {H : Hp} (F : Fr R c B O S row σ H) : ∀ a, H a = none → a ∉ O := fun a h m => by
  obtain ⟨o, z⟩ := F.odo a m
  rw [h] at z
  cases z
/-- an operation's answer -/
theorem ret_use {R : RC} {O : List Addr} {S : Env} {row : Row} {σ : L2.St} {H H2 H' : Hp} {nw : Bool} {d : D} {Q : VK} {xs : List (V × D)} {v : V} (h : OutP R c B W O S σ H2 (ret nw (some d) row) (fun rv _ H' => ∀ v, RvOk R c O S σ H H' v rv → Q v H'))
    (F2 : Fr R c B O S row σ H2) (e : ExE c σ O H H2) (m : Made R H2 H' xs v d) (hx : ∀ p ∈ xs, RpE R (· ∉ O) H2 p.1 p.2) (hn : nw = true → ∀ p ∈ xs, p.2.elf = true) : Q v H' := by
  refine h H' (F2.same m.1) (Same.exE m.1) v ⟨m.2 _ hx F2.odoS, fun k => m.2 _ (fun p hp => (hx p hp).elf _ (hn k p hp)) fun a z => e.fresh z⟩
theorem val_use {R : RC} {O : List Addr} {S : Env} {row : Row} {σ : L2.St} {H H2 : Hp} {nw : Bool} {d : D} {Q : VK} {v : V} (h : OutP R c B W O S σ H2 (.ok (.v nw d) row) (fun rv _ H' => ∀ v, RvOk R c O S σ H H' v rv → Q v H'))
    (F2 : Fr R c B O S row σ H2) (hv : ∀ P, Rp R P H2 v d) : Q v H2 := h H2 F2 ExE.refl v ⟨hv _, fun _ => hv _⟩

/-! ### constants, names -/
theorem s_int {i j pos} : PE X (.Constant (.int i) j pos) (tE (rc X C) c B W fun _ r => .ok (.v true (.int i)) r) := PE.imp pe_int fun σ H Q ⟨O, S, row, F, h⟩ => val_use h F fun P => .int _
theorem s_str {i j pos} : PE X (.Constant (.str i) j pos) (tE (rc X C) c B W fun _ r => .ok (.v true (.str i)) r) := PE.imp pe_str fun σ H Q ⟨O, S, row, F, h⟩ => val_use h F fun P => .str _
theorem s_bl {i j pos} : PE X (.Constant (.bool i) j pos) (tE (rc X C) c B W fun _ r => .ok (.v true (.bl i)) r) := PE.imp pe_bl fun σ H Q ⟨O, S, row, F, h⟩ => val_use h F fun P => .bl _
theorem s_non {j pos} : PE X (.Constant .none j pos) (tE (rc X C) c B W fun _ r => .ok (.v true .non) r) := PE.imp pe_non fun σ H Q ⟨O, S, row, F, h⟩ => val_use h F fun P => .non
theorem tE_no {R : RC} {e : Expr} : PE X e (tE R c B W fun _ _ => .no) := PE.imp PE.never fun σ H Q ⟨_, _, _, _, h⟩ => h
theorem tT_no {R : RC} {e : Expr} : PT X e (tT R c B W fun _ _ => .no) := PT.imp PT.never fun σ H Q ⟨_, _, _, _, h⟩ => h
theorem tE_of {R : RC} {e : Expr} {f g : Env → Row → Out Rv} (h : PE X e (tE R c B W f)) (k : g = f) : PE X e (tE R c B W g) := k ▸ h
theorem s_name (k : COk X C c W) {x : Str} {pos : Pos} : PE X (.Name x pos) (tE (rc X C) c B W fun S r => evName c x S r) := by
  unfold evName
  cases hs : TH.slot c x with
  | some i =>
    obtain ⟨h1, h2, h3⟩ := k.slot hs
    refine PE.imp (pe_var h1 h2 (okN_d h3).1 (okN_d h3).2) fun σ H Q ⟨O, S, row, F, h⟩ => ?_
    dsimp only at h
    split at h
    · rename_i hio
      split at h
      · rename_i ds
        obtain ⟨j, r, xs, z1, z2, z3, z4, z5, z6, z7⟩ := F.io ds rfl
        have e : i = j := by
          unfold isIo at hio
          rw [z1] at hio
          exact Nat.eq_of_beq_eq_true hio
        subst e
        exact ⟨.ref r, z2, h H F ExE.refl (.ref r) ⟨i, z1, z2⟩⟩
      · exact h.elim
    · split at h
      · rename_i d hd
        split at h
        · rename_i ho
          obtain ⟨a, z1, z2, z3, z4, z5⟩ := F.own i d hd ho
          exact ⟨_, z1, h H F ExE.refl _ ⟨ho, z1, d, hd⟩⟩
        · rename_i ho
          obtain ⟨v, z1, z2⟩ := F.val i d hd ho
          exact ⟨v, z1, h H F ExE.refl v ⟨z2, fun z => nomatch z⟩⟩
      · exact h.elim
  | none =>
    cases hg : isGl c x with
    | false => exact tE_no
    | true =>
      obtain ⟨h1, h2⟩ := k.gl hg
      cases hc : look x c.cst with
      | none => exact tE_no
      | some d =>
        obtain ⟨v, u, h3, h4, h5⟩ := k.cst x d hc
        refine PE.imp (pe_glob h1 h3 h4 (okN_d h2).1) fun σ H Q ⟨O, S, row, F, h⟩ => ?_
        exact h H F ExE.refl v ⟨h5 _ _, fun z => nomatch z⟩

/-! ### operators -/
theorem s_bin {a b : Expr} {op : Operator} {pos : Pos} {fa fb : Env → Row → Out Rv} (ha : PE X a (tE (rc X C) c B W fa)) (hb : PE X b (tE (rc X C) c B W fb)) :
    PE X (.BinOp a op b pos) (tE (rc X C) c B W fun S r => (fa S r).bind fun x r => (fb S r).bind fun y r => match rd S x, rd S y with
      | some x, some y => ret (x.elf && y.elf) (binD op x y) r
      | _, _ => .no) := by
  refine PE.imp (pe_op (op_bin (C := C) op) ha hb) fun σ H Q ⟨O, S, row, F, h⟩ => ⟨O, S, row, F, h.bind.mono fun x r1 H1 F1 e1 h1 v1 k1 => ⟨O, S, r1, F1, h1.bind.mono fun y r2 H2 F2 e2 h2 v2 k2 => ?_⟩⟩
  have k1' := k1.keep e2 F.odo
  split at h2
  · rename_i dx dy ex ey
    cases eb : binD op dx dy with
    | none => rw [eb] at h2; exact h2.elim
    | some d =>
      rw [eb] at h2
      have vx := k1'.view F2 ex
      have vy := k2.view F2 ey
      refine ⟨dx, dy, d, vx.t, vy.t, eb, fun v H' m => ret_use h2 F2 (e1.trans e2) m (fun p hp => ?_) fun kn p hp => ?_⟩
      · rcases List.mem_cons.mp hp with e | hp
        · rw [e]; exact vx
        · have e : p = (v2, dy) := by simpa using hp
          rw [e]; exact vy
      · rw [Bool.and_eq_true] at kn
        rcases List.mem_cons.mp hp with e | hp
        · rw [e]; exact kn.1
        · have e : p = (v2, dy) := by simpa using hp
          rw [e]; exact kn.2
  · exact h2.elim
theorem un_negD : UnR X (unaryOp .USub) (rU fun i => .int (-i)) := un_neg
theorem s_neg {a : Expr} {pos : Pos} {fa : Env → Row → Out Rv} (ha : PE X a (tE (rc X C) c B W fa)) :
    PE X (.UnaryOp .USub a pos) (tE (rc X C) c B W fun S r => (fa S r).bind fun x r => match x with
      | .v _ (.int i) => .ok (.v true (.int (-i))) r
      | _ => .no) := by
  refine PE.imp (pe_un un_negD ha) fun σ H Q ⟨O, S, row, F, h⟩ => ⟨O, S, row, F, h.bind.mono fun x r1 H1 F1 e1 h1 v1 k1 => ?_⟩
  split at h1
  · rename_i nw i
    exact ⟨i, k1.1.int_inv, val_use h1 F1 fun P => .int _⟩
  · exact h1.elim
theorem isB_is {H : Hp} {O : List Addr} {S : Env} {σ : L2.St} {Hs : Hp} {v : V} {rv : Rv} {b : Bool} (k : RvOk (rc X C) c O S σ Hs H v rv) (h : isB rv = some b) : v = .bl b := by
  unfold isB at h
  split at h
  · have := Option.some.inj h
    subst this
    exact k.1.bl_inv
  · cases h
theorem s_not {a : Expr} {pos : Pos} {fa : Env → Row → Out Rv} (ha : PE X a (tE (rc X C) c B W fa)) :
    PE X (.UnaryOp .Not a pos) (tE (rc X C) c B W fun S r => (fa S r).bind fun x r => match isB x with
      | some b => .ok (.v true (.bl (!b))) r
      | none => .no) := by
  refine PE.imp (pe_not ha) fun σ H Q ⟨O, S, row, F, h⟩ => ⟨O, S, row, F, h.bind.mono fun x r1 H1 F1 e1 h1 v1 k1 => ?_⟩
  split at h1
  · rename_i b hb
    exact ⟨b, isB_is k1 hb, val_use h1 F1 fun P => .bl _⟩
  · exact h1.elim
theorem s_and {fe : Expr → Env → Row → Out Rv} {pos : Pos} (he : ∀ e, PE X e (tE (rc X C) c B W (fe e))) : ∀ es, PE X (.BoolOp .And es pos) (tE (rc X C) c B W (andV fe es))
  | [] => tE_no
  | [e] => pe_one (he e)
  | e :: e2 :: es => by
    refine PE.imp (pe_and (he e) (s_and he (e2 :: es))) fun σ H Q ⟨O, S, row, F, h⟩ => ⟨O, S, row, F, (OutP.bind (f := fun v r => match isB v with
      | some true => andV fe (e2 :: es) S r
      | some false => .ok (.v true (.bl false)) r
      | none => .no) h).mono fun x r1 H1 F1 e1 h1 v1 k1 => ?_⟩
    split at h1
    · rename_i hb
      exact ⟨true, isB_is k1 hb, iteT ⟨O, S, r1, F1, h1.mono fun a r H' F' e' q w kw => q w (kw.back e1)⟩⟩
    · rename_i hb
      exact ⟨false, isB_is k1 hb, iteF (val_use h1 F1 fun P => .bl _)⟩
    · exact h1.elim
theorem s_or {fe : Expr → Env → Row → Out Rv} {pos : Pos} (he : ∀ e, PE X e (tE (rc X C) c B W (fe e))) : ∀ es, PE X (.BoolOp .Or es pos) (tE (rc X C) c B W (orV fe es))
  | [] => tE_no
  | [e] => pe_one (he e)
  | e :: e2 :: es => by
    refine PE.imp (pe_or (he e) (s_or he (e2 :: es))) fun σ H Q ⟨O, S, row, F, h⟩ => ⟨O, S, row, F, (OutP.bind (f := fun v r => match isB v with
      | some false => orV fe (e2 :: es) S r
      | some true => .ok (.v true (.bl true)) r
      | none => .no) h).mono fun x r1 H1 F1 e1 h1 v1 k1 => ?_⟩
    split at h1
    · rename_i hb
      exact ⟨false, isB_is k1 hb, iteF ⟨O, S, r1, F1, h1.mono fun a r H' F' e' q w kw => q w (kw.back e1)⟩⟩
    · rename_i hb
      exact ⟨true, isB_is k1 hb, iteT (val_use h1 F1 fun P => .bl _)⟩
    · exact h1.elim
theorem s_if {t a b : Expr} {pos : Pos} {ft : Env → Row → Out Bool} {fa fb : Env → Row → Out Rv} (ht : PT X t (tT (rc X C) c B W ft)) (ha : PE X a (tE (rc X C) c B W fa)) (hb : PE X b (tE (rc X C) c B W fb)) :
    PE X (.IfExp t a b pos) (tE (rc X C) c B W fun S r => (ft S r).bind fun k r => match k with
      | true => fa S r
      | false => fb S r) := by
  refine PE.imp (pe_ifExp ht ha hb) fun σ H Q ⟨O, S, row, F, h⟩ => ⟨O, S, row, F, h.bind.mono fun k r1 H1 F1 e1 h1 => ?_⟩
  cases k with
  | true => exact iteT ⟨O, S, r1, F1, OutP.mono (x := fa S r1) h1 fun a r H' F' e' q w kw => q w (kw.back e1)⟩
  | false => exact iteF ⟨O, S, r1, F1, OutP.mono (x := fb S r1) h1 fun a r H' F' e' q w kw => q w (kw.back e1)⟩
theorem plainIx_of {i : Expr} (h : isSl i = false) : PlainIx i := by
  intro o v
  cases i <;> first | rfl | cases h
theorem s_ix {a i : Expr} {pos : Pos} {fa fi : Env → Row → Out Rv} (ha : PE X a (tE (rc X C) c B W fa)) (hi : PE X i (tE (rc X C) c B W fi)) (hp : isSl i = false) :
    PE X (.Subscript a i pos) (tE (rc X C) c B W fun S r => (fa S r).bind fun x r => (fi S r).bind fun y r => match rdR S r x, rd S y with
      | some x, some y => ret (x.elf && y.elf) (ixD x y) r
      | _, _ => .no) := by
  refine PE.imp (pe_ix (ix_D (C := C)) ha hi (plainIx_of hp)) fun σ H Q ⟨O, S, row, F, h⟩ => ⟨O, S, row, F, h.bind.mono fun x r1 H1 F1 e1 h1 v1 k1 => ⟨O, S, r1, F1, h1.bind.mono fun y r2 H2 F2 e2 h2 v2 k2 => ?_⟩⟩
  have k1' := k1.keep e2 F.odo
  split at h2
  · rename_i dx dy ex ey
    cases eb : ixD dx dy with
    | none => rw [eb] at h2; exact h2.elim
    | some d =>
      rw [eb] at h2
      have vx := k1'.viewR F2 ex
      have vy := k2.view F2 ey
      refine ⟨dx, dy, d, vx.t, vy.t, eb, fun v H' m => ret_use h2 F2 (e1.trans e2) m (fun p hp => ?_) fun kn p hp => ?_⟩
      · rcases List.mem_cons.mp hp with e | hp
        · rw [e]; exact vx
        · have e : p = (v2, dy) := by simpa using hp
          rw [e]; exact vy
      · rw [Bool.and_eq_true] at kn
        rcases List.mem_cons.mp hp with e | hp
        · rw [e]; exact kn.1
        · have e : p = (v2, dy) := by simpa using hp
          rw [e]; exact kn.2
  · exact h2.elim
def tP (R : RC) (c : Ctx) (B : Bg) (W : WX) (f : Env → Row → Out (Option Int)) : TO := fun σ H Q => ∃ O S row, Fr R c B O S row σ H ∧
  OutP R c B W O S σ H (f S row) fun o _ H' => Q o H'
theorem PO.imp {X : Cx} {e : Option Expr} {t t' : TO} (h : PO X e t) (k : ∀ σ H Q, t' σ H Q → t σ H Q) : PO X e t' := ⟨fun pins s σ H Q I q => h.run pins s σ H Q I (k _ _ _ q)⟩
theorem s_part {fe : Expr → Env → Row → Out Rv} (he : ∀ e, PE X e (tE (rc X C) c B W (fe e))) : ∀ e, PO X e (tP (rc X C) c B W (evP fe e))
  | none => PO.imp po_none fun σ H Q ⟨O, S, row, F, h⟩ => h H F ExE.refl
  | some e => by
    refine PO.imp (po_some (he e)) fun σ H Q ⟨O, S, row, F, h⟩ => ⟨O, S, row, F, (OutP.bind (f := fun v r => match v with
      | .v _ (.int i) => .ok (some i) r
      | _ => .no) h).mono fun x r1 H1 F1 e1 h1 v1 k1 => ?_⟩
    split at h1
    · exact ⟨_, k1.1.int_inv, h1 H1 F1 ExE.refl⟩
    · exact h1.elim
theorem s_sl {a : Expr} {lo hi : Option Expr} {pos p2 : Pos} {fa : Env → Row → Out Rv} {fl fh : Env → Row → Out (Option Int)} (ha : PE X a (tE (rc X C) c B W fa)) (hl : PO X lo (tP (rc X C) c B W fl)) (hh : PO X hi (tP (rc X C) c B W fh)) :
    PE X (.Subscript a (.Slice lo hi none p2) pos) (tE (rc X C) c B W fun S r => (fa S r).bind fun x r => (fl S r).bind fun l r => (fh S r).bind fun h r => match rd S x with
      | some x => ret x.elf (slD x l h) r
      | none => .no) := by
  refine PE.imp (pe_slice (sl_D (C := C)) ha hl hh) fun σ H Q ⟨O, S, row, F, h⟩ => ⟨O, S, row, F, h.bind.mono fun x r1 H1 F1 e1 h1 v1 k1 => ⟨O, S, r1, F1, h1.bind.mono fun l r2 H2 F2 e2 h2 => ⟨O, S, r2, F2, h2.bind.mono fun u r3 H3 F3 e3 h3 => ?_⟩⟩⟩
  have k1' := (k1.keep e2 F.odo).keep e3 F.odo
  split at h3
  · rename_i dx ex
    cases eb : slD dx l u with
    | none => rw [eb] at h3; exact h3.elim
    | some d =>
      rw [eb] at h3
      have vx := k1'.view F3 ex
      refine ⟨dx, d, vx.t, eb, fun v H' m => ret_use h3 F3 ((e1.trans e2).trans e3) m (fun p hp => ?_) fun kn p hp => ?_⟩
      · have e : p = (v1, dx) := by simpa using hp
        rw [e]; exact vx
      · have e : p = (v1, dx) := by simpa using hp
        rw [e]; exact kn
  · exact h3.elim
end
end TH

set_option Elab.async false
set_option linter.all false
set_option maxRecDepth 100000
set_option maxHeartbeats 4000000
/-! DV6: comparisons, tests, arguments, calls. -/
namespace TH
open PySem PySem.Spec PyProof.Rows L2
section
variable {X : Cx} {C : Cn} {c : Ctx} {W : WX} {B : Bg}
theorem noSet_beh {op : CmpOp} {b : Expr} (h : noSet b = true) : behindInMarks op b = false := by
  cases b <;> first | rfl | cases h
theorem noSet_last {op op' : CmpOp} {b d : Expr} (h : noSet d = true) : lastMarks [op, op'] [b, d] = false := noSet_beh h
theorem cmp1_core {fe : Expr → Env → Row → Out Rv} {l b : Expr} {op : CmpOp} {σ : L2.St} {H : Hp} {Q : VK}
    (h : ∃ O S row, Fr (rc X C) c B O S row σ H ∧ OutP (rc X C) c B W O S σ H (cmp1 fe l op b S row) fun k _ H' => Q (.bl k) H') :
    tOp (rCmp (rc X C) op) (tE (rc X C) c B W (fe l)) (tE (rc X C) c B W (fe b)) σ H Q := by
  obtain ⟨O, S, row, F, h⟩ := h
  refine ⟨O, S, row, F, (OutP.bind h).mono fun x r1 H1 F1 e1 h1 v1 k1 => ⟨O, S, r1, F1, (OutP.bind h1).mono fun y r2 H2 F2 e2 h2 v2 k2 => ?_⟩⟩
  have k1' := k1.keep e2 F.odo
  split at h2
  · rename_i dx dy ex ey
    split at h2
    · rename_i k ek
      exact ⟨dx, dy, k, (k1'.view F2 ex).t, (k2.view F2 ey).t, ek, h2 H2 F2 ExE.refl⟩
    · exact h2.elim
  · exact h2.elim
theorem ordD_cmp {op : CmpOp} {x y : D} {b : Bool} (h : ordD op x y = some b) : cmpD op x y = some b := by
  obtain ⟨i, j, rfl, rfl, e⟩ := ord_int h
  cases op <;> first | exact h | cases e
theorem cmp2_core {fe : Expr → Env → Row → Out Rv} {l b d : Expr} {op op' : CmpOp} {σ : L2.St} {H : Hp} {Q : VK}
    (h : ∃ O S row, Fr (rc X C) c B O S row σ H ∧ OutP (rc X C) c B W O S σ H (cmp2 fe l op b op' d S row) fun k _ H' => Q (.bl k) H') :
    tChain (rCmp (rc X C) op) (rCmp (rc X C) op') (tE (rc X C) c B W (fe l)) (tE (rc X C) c B W (fe b)) (tE (rc X C) c B W (fe d)) σ H Q := by
  obtain ⟨O, S, row, F, h⟩ := h
  refine ⟨O, S, row, F, (OutP.bind h).mono fun x r1 H1 F1 e1 h1 v1 k1 => ⟨O, S, r1, F1, (OutP.bind h1).mono fun y r2 H2 F2 e2 h2 v2 k2 => ?_⟩⟩
  have k1' := k1.keep e2 F.odo
  split at h2
  · rename_i dx dy ex ey
    have vx := (k1'.view F2 ex).t
    split at h2
    · rename_i ek
      refine ⟨dx, dy, true, vx, (k2.view F2 ey).t, ordD_cmp ek, true, rfl, iteT ⟨O, S, r2, F2, (OutP.bind h2).mono fun z r3 H3 F3 e3 h3 v3 k3 => ?_⟩⟩
      have k2' := k2.keep e3 F1.odo
      split at h3
      · rename_i dz ez
        split at h3
        · rename_i kk ek2
          exact ⟨dy, dz, kk, (k2'.view F3 ey).t, (k3.view F3 ez).t, ordD_cmp ek2, h3 H3 F3 ExE.refl⟩
        · exact h3.elim
      · exact h3.elim
    · rename_i ek
      exact ⟨dx, dy, false, vx, (k2.view F2 ey).t, ordD_cmp ek, false, rfl, iteF (h2 H2 F2 ExE.refl)⟩
    · exact h2.elim
  · exact h2.elim
theorem bl_val {O : List Addr} {S : Env} {σ : L2.St} {H : Hp} {x : Out Bool} {Q : VK} (h : OutP (rc X C) c B W O S σ H (x.bind fun b r => .ok (.v true (.bl b)) r) fun rv _ H' => ∀ v, RvOk (rc X C) c O S σ H H' v rv → Q v H') :
    OutP (rc X C) c B W O S σ H x fun b _ H' => Q (.bl b) H' :=
  h.bind.mono fun b r H' F e q => q H' F ExE.refl _ ⟨.bl _, fun _ => .bl _⟩
theorem s_cmp (k : COk X C c W) {fe : Expr → Env → Row → Out Rv} (he : ∀ e, PE X e (tE (rc X C) c B W (fe e))) (l : Expr) (pos : Pos) : ∀ ops rs,
    PE X (.Compare l ops rs pos) (tE (rc X C) c B W fun S r => (cmpE fe l ops rs S r).bind fun b r => .ok (.v true (.bl b)) r)
  | [op], [b] => by
    show PE X _ (tE (rc X C) c B W fun S r => (match noSet b with
      | true => cmp1 fe l op b S r
      | false => .no).bind fun b r => .ok (.v true (.bl b)) r)
    cases hn : noSet b with
    | true => exact PE.imp (pe_cmpR (op_cmp (C := C) k.room op) (he l) (he b) (noSet_beh hn)) fun σ H Q ⟨O, S, row, F, h⟩ => cmp1_core ⟨O, S, row, F, bl_val h⟩
    | false => exact tE_no
  | [op, op'], [b, d] => by
    show PE X _ (tE (rc X C) c B W fun S r => (match noSet d with
      | true => cmp2 fe l op b op' d S r
      | false => .no).bind fun b r => .ok (.v true (.bl b)) r)
    cases hn : noSet d with
    | true => exact PE.imp (pe_chain (op_cmp (C := C) k.room op) (op_cmp (C := C) k.room op') (he l) (he b) (he d) (noSet_last hn)) fun σ H Q ⟨O, S, row, F, h⟩ => cmp2_core ⟨O, S, row, F, bl_val h⟩
    | false => exact tE_no
  | [], _ => tE_no
  | [_], [] => tE_no
  | [_], _ :: _ :: _ => tE_no
  | [_, _], [] => tE_no
  | [_, _], [_] => tE_no
  | [_, _], _ :: _ :: _ :: _ => tE_no
  | _ :: _ :: _ :: _, [] => tE_no
  | _ :: _ :: _ :: _, [_] => tE_no
  | _ :: _ :: _ :: _, [_, _] => tE_no
  | _ :: _ :: _ :: _, _ :: _ :: _ :: _ => tE_no
theorem s_cmpT (k : COk X C c W) {fe : Expr → Env → Row → Out Rv} (he : ∀ e, PE X e (tE (rc X C) c B W (fe e))) (l : Expr) (pos : Pos) : ∀ ops rs,
    PT X (.Compare l ops rs pos) (tT (rc X C) c B W fun S r => cmpE fe l ops rs S r)
  | [op], [b] => by
    show PT X _ (tT (rc X C) c B W fun S r => match noSet b with
      | true => cmp1 fe l op b S r
      | false => .no)
    cases hn : noSet b with
    | true => exact PT.imp (pt_cmpR (op_cmp (C := C) k.room op) (he l) (he b) (noSet_beh hn)) fun σ H Q ⟨O, S, row, F, h⟩ => cmp1_core ⟨O, S, row, F, OutP.mono (x := cmp1 fe l op b S row) h fun b r H' F' e' q => ⟨b, rfl, q⟩⟩
    | false => exact tT_no
  | [op, op'], [b, d] => by
    show PT X _ (tT (rc X C) c B W fun S r => match noSet d with
      | true => cmp2 fe l op b op' d S r
      | false => .no)
    cases hn : noSet d with
    | true => exact PT.imp (pt_chain (op_cmp (C := C) k.room op) (op_cmp (C := C) k.room op') (he l) (he b) (he d) (noSet_last hn)) fun σ H Q ⟨O, S, row, F, h⟩ => cmp2_core ⟨O, S, row, F, OutP.mono (x := cmp2 fe l op b op' d S row) h fun b r H' F' e' q => ⟨b, rfl, q⟩⟩
    | false => exact tT_no
  | [], _ => tT_no
  | [_], [] => tT_no
  | [_], _ :: _ :: _ => tT_no
  | [_, _], [] => tT_no
  | [_, _], [_] => tT_no
  | [_, _], _ :: _ :: _ :: _ => tT_no
  | _ :: _ :: _ :: _, [] => tT_no
  | _ :: _ :: _ :: _, [_] => tT_no
  | _ :: _ :: _ :: _, [_, _] => tT_no
  | _ :: _ :: _ :: _, _ :: _ :: _ :: _ => tT_no

/-! ### tests -/
theorem tW_no {R : RC} {e : Expr} : PW X e (tT R c B W fun _ _ => .no) := ⟨fun _ _ _ _ _ _ _ ⟨_, _, _, _, h⟩ => h.elim⟩
theorem s_andT {ft : Expr → Env → Row → Out Bool} {pos : Pos} (he : ∀ e, PT X e (tT (rc X C) c B W (ft e))) : ∀ es, PW X (.BoolOp .And es pos) (tT (rc X C) c B W (andT ft es))
  | [] => tW_no
  | [e] => pw_and1 (he e)
  | e :: e2 :: es => by
    refine PW.imp (pw_and (he e) (s_andT he (e2 :: es))) fun σ H Q ⟨O, S, row, F, h⟩ => ⟨O, S, row, F, (OutP.bind (f := fun b r => match b with
      | true => andT ft (e2 :: es) S r
      | false => .ok false r) h).mono fun b r1 H1 F1 e1 h1 => ?_⟩
    cases b with
    | true => exact iteT ⟨O, S, r1, F1, h1⟩
    | false => exact iteF (h1 H1 F1 ExE.refl)
theorem s_orT {ft : Expr → Env → Row → Out Bool} {pos : Pos} (he : ∀ e, PT X e (tT (rc X C) c B W (ft e))) : ∀ es, PW X (.BoolOp .Or es pos) (tT (rc X C) c B W (orT ft es))
  | [] => tW_no
  | [e] => pw_or1 (he e)
  | e :: e2 :: es => by
    refine PW.imp (pw_or (he e) (s_orT he (e2 :: es))) fun σ H Q ⟨O, S, row, F, h⟩ => ⟨O, S, row, F, (OutP.bind (f := fun b r => match b with
      | false => orT ft (e2 :: es) S r
      | true => .ok true r) h).mono fun b r1 H1 F1 e1 h1 => ?_⟩
    cases b with
    | true => exact iteT (h1 H1 F1 ExE.refl)
    | false => exact iteF ⟨O, S, r1, F1, h1⟩
theorem s_notT {a : Expr} {pos : Pos} {fa : Env → Row → Out Bool} (ha : PT X a (tT (rc X C) c B W fa)) : PT X (.UnaryOp .Not a pos) (tT (rc X C) c B W fun S r => (fa S r).bind fun b r => .ok (!b) r) :=
  PT.imp (pt_not ha) fun σ H Q ⟨O, S, row, F, h⟩ => ⟨O, S, row, F, h.bind.mono fun b r1 H1 F1 e1 h1 => h1 H1 F1 ExE.refl⟩
theorem s_valT {e : Expr} {fe : Env → Row → Out Rv} (he : PE X e (tE (rc X C) c B W fe)) (hi : ∀ whole, isTrue e X.env whole = (do let v ← whole; standAt e.pos; holding [v] (truthy v))) :
    PT X e (tT (rc X C) c B W fun S r => (fe S r).bind fun x r => match isB x with
      | some b => .ok b r
      | none => .no) := by
  refine PT.imp (pt_val he hi) fun σ H Q ⟨O, S, row, F, h⟩ => ⟨O, S, row, F, h.bind.mono fun x r1 H1 F1 e1 h1 v k => ?_⟩
  split at h1
  · rename_i b hb
    exact ⟨b, isB_is k hb, h1 H1 F1 ExE.refl⟩
  · exact h1.elim

/-! ### arguments -/
theorem tA_no {R : RC} {es : List Expr} : PA X es (tA R c B W fun _ _ => .no) := ⟨fun _ _ _ _ _ _ _ ⟨_, _, _, _, h⟩ => h.elim⟩
theorem nsts_any {pos : Pos} {env : PySem.Env} : ∀ {es : List Expr}, nsts es = true → (backTo pos (starEach es env)).any (·.1) = false
  | [], _ => rfl
  | e :: es, h => by
    have h2 : (nst e && nsts es) = true := h
    rw [Bool.and_eq_true] at h2
    rw [nst_star h2.1]
    show (false || (backTo pos (starEach es env)).any (·.1)) = false
    rw [nsts_any h2.2]
    rfl
theorem s_args1 {fe : Expr → Env → Row → Out Rv} (he : ∀ e, PE X e (tE (rc X C) c B W (fe e))) : ∀ es, nsts es = true → PA X es (tA (rc X C) c B W (evs1 fe es))
  | [], _ => PA.imp pa_nil fun σ H Q ⟨O, S, row, F, h⟩ => h H F ExE.refl [] .nil
  | e :: es, h => by
    have h2 : (nst e && nsts es) = true := h
    rw [Bool.and_eq_true] at h2
    refine PA.imp (pa_cons (he e) (s_args1 he es h2.2) (nst_star h2.1)) fun σ H Q ⟨O, S, row, F, h⟩ => ⟨O, S, row, F, (OutP.bind (f := fun v r => (evs1 fe es S r).bind fun vs r => .ok (v :: vs) r) h).mono fun x r1 H1 F1 e1 h1 v1 k1 => ⟨O, S, r1, F1, h1.bind.mono fun rs r2 H2 F2 e2 h3 vs ks => ?_⟩⟩
    exact h3 H2 F2 ExE.refl (v1 :: vs) (.cons (k1.keep e2 F.odo) (ks.back e1))
theorem s_args {fe : Expr → Env → Row → Out Rv} (he : ∀ e, PE X e (tE (rc X C) c B W (fe e))) (es : List Expr) : PA X es (tA (rc X C) c B W (evs fe es)) := by
  unfold evs
  cases h : nsts es with
  | true => exact s_args1 he es h
  | false => exact tA_no

/-! ### displays -/
theorem allV_view {R : RC} {O : List Addr} {S : Env} {σ : L2.St} {Hs H : Hp} : ∀ {vs : List V} {rs : List Rv} {ds : List D}, RvsOk R c O S σ Hs H vs rs → rds S rs = some ds → (rs.all fun v => match v with
        | .v _ _ => true
        | _ => false) = true → Rps R (· ∉ O) H vs ds ∧ ((rs.all isNw) = true → Rps R (fun a => Hs a = none) H vs ds)
  | [], [], ds, .nil, e, _ => by
    have e2 : [] = ds := Option.some.inj e
    subst e2
    exact ⟨.nil, fun _ => .nil⟩
  | _ :: _, .v nw d :: rs, ds, .cons r t, e, h => by
    have e1 : ((rd S (.v nw d)).bind fun d => (rds S rs).map fun ds => d :: ds) = some ds := e
    rw [Option.bind_eq_some_iff] at e1
    obtain ⟨d', h1, h2⟩ := e1
    have e3 : d = d' := Option.some.inj h1
    subst e3
    rw [Option.map_eq_some_iff] at h2
    obtain ⟨ds', h3, h4⟩ := h2
    subst h4
    rw [List.all_cons, Bool.and_eq_true] at h
    obtain ⟨i1, i2⟩ := allV_view t h3 h.2
    refine ⟨.cons r.1 i1, fun z => ?_⟩
    rw [List.all_cons, Bool.and_eq_true] at z
    have z1 : (nw || d.lf) = true := z.1
    rw [Bool.or_eq_true] at z1
    exact .cons (z1.elim r.2 fun k => r.1.lf _ k) (i2 z.2)
  | _ :: _, .p i :: rs, ds, _, e, h => by
    rw [List.all_cons, Bool.and_eq_true] at h
    exact nomatch h.1
  | _ :: _, .io :: rs, ds, _, e, h => by
    rw [List.all_cons, Bool.and_eq_true] at h
    exact nomatch h.1
def evTup (fe : Expr → Env → Row → Out Rv) (es : List Expr) (S : Env) (r : Row) : Out Rv := (evs fe es S r).bind fun vs r => (match rds S vs, sz es.length with
    | some ds, true => (match vs.all fun v => match v with
        | .v _ _ => true
        | _ => false with
      | true => .ok (.v (vs.all isNw) (.tup ds)) r
      | false => .no)
    | _, _ => .no)
def evLst (fe : Expr → Env → Row → Out Rv) (es : List Expr) (S : Env) (r : Row) : Out Rv := (evs fe es S r).bind fun vs r => (match rds S vs, sz es.length with
    | some ds, true => (match vs.all fun v => match v with
        | .v _ _ => true
        | _ => false with
      | true => .ok (.v (vs.all isNw) (.lst ds)) r
      | false => .no)
    | _, _ => .no)
theorem evs1_len {fe : Expr → Env → Row → Out Rv} : ∀ {es : List Expr} {S : Env} {r r' : Row} {vs : List Rv}, evs1 fe es S r = .ok vs r' → vs.length = es.length
  | [], S, r, r', vs, h => by
    injection h with h1 h2
    subst h1
    rfl
  | e :: es, S, r, r', vs, h => by
    unfold evs1 at h
    cases e1 : fe e S r with
    | no => rw [e1] at h; cases h
    | ex x r1 => rw [e1] at h; cases h
    | ok a r1 =>
      rw [e1] at h
      have h2 : (evs1 fe es S r1).bind (fun vs r => Out.ok (a :: vs) r) = .ok vs r' := h
      cases e2 : evs1 fe es S r1 with
      | no => rw [e2] at h2; cases h2
      | ex x r1 => rw [e2] at h2; cases h2
      | ok ws r2 =>
        rw [e2] at h2
        have h3 : Out.ok (a :: ws) r2 = .ok vs r' := h2
        injection h3 with h1 _
        subst h1
        rw [List.length_cons, List.length_cons, evs1_len e2]
theorem evs_len {fe : Expr → Env → Row → Out Rv} {es : List Expr} {S : Env} {r r' : Row} {vs : List Rv} (h : evs fe es S r = .ok vs r') : vs.length = es.length := by
  unfold evs at h
  split at h
  · exact evs1_len h
  · cases h
theorem OutP.bindE {R : RC} {O : List Addr} {S : Env} {σ : L2.St} {H : Hp} {α β : Type} {x : Out α} {f : α → Row → Out β} {Q : β → Row → Hp → Prop} (h : OutP R c B W O S σ H (x.bind f) Q) :
    OutP R c B W O S σ H x fun a r H' => x = .ok a r ∧ OutP R c B W O S σ H' (f a r) Q := by
  cases x with
  | no => exact h
  | ok a r => exact fun H2 F e2 => ⟨rfl, OutP.rebase e2 h⟩
  | ex a r => exact h
theorem s_tup {fe : Expr → Env → Row → Out Rv} (he : ∀ e, PE X e (tE (rc X C) c B W (fe e))) (es : List Expr) {k : Nat} {pos : Pos} : PE X (.Tuple es k pos) (tE (rc X C) c B W (evTup fe es)) := by
  refine PE.imp (pe_tup (s_args he es)) fun σ H Q ⟨O, S, row, F, h⟩ => ⟨O, S, row, F, (OutP.bindE h).mono fun rs r1 H1 F1 e1 h1 vs ks => ?_⟩
  obtain ⟨hl, h1⟩ := h1
  split at h1
  · rename_i ds hd hz
    split at h1
    · rename_i ha
      obtain ⟨i1, i2⟩ := allV_view ks hd ha
      refine ⟨?_, fun p np => ?_⟩
      · rw [Paired.length ks, evs_len hl]
        exact sz_le hz
      · have sm : Same H1 (upd H1 p (.tup vs)) := same_upd np
        refine h1 _ (F1.same sm) (Same.exE sm) _ ⟨.tup (.of upd_same) (i1.keep (O := O) (Same.ext sm) (fun _ x => x) fun _ x => x), fun z => .tup (.of upd_same) ((i2 z).keep (O := []) (Same.ext sm) (fun _ _ => by simp) fun _ x => x)⟩
    · exact h1.elim
  · exact h1.elim
theorem s_lst {fe : Expr → Env → Row → Out Rv} (he : ∀ e, PE X e (tE (rc X C) c B W (fe e))) (es : List Expr) {pos : Pos} : PE X (.List es pos) (tE (rc X C) c B W (evLst fe es)) := by
  refine PE.imp (pe_lst (s_args he es)) fun σ H Q ⟨O, S, row, F, h⟩ => ⟨O, S, row, F, (OutP.bindE h).mono fun rs r1 H1 F1 e1 h1 vs ks => ?_⟩
  obtain ⟨hl, h1⟩ := h1
  split at h1
  · rename_i ds hd hz
    split at h1
    · rename_i ha
      obtain ⟨i1, i2⟩ := allV_view ks hd ha
      refine ⟨?_, fun p np => ?_⟩
      · rw [Paired.length ks, evs_len hl]
        exact sz_le hz
      · have sm : Same H1 (upd H1 p (.lst vs)) := same_upd np
        refine h1 _ (F1.same sm) (Same.exE sm) _ ⟨.lst (F1.odoS p np) upd_same (i1.keep (O := O) (Same.ext sm) (fun _ x => x) fun _ x => x), fun z => .lst (e1.fresh np) upd_same ((i2 z).keep (O := []) (Same.ext sm) (fun _ _ => by simp) fun _ x => x)⟩
    · exact h1.elim
  · exact h1.elim
end
end TH

set_option Elab.async false
set_option linter.all false
set_option maxRecDepth 100000
set_option maxHeartbeats 4000000
/-! DV7: calls. -/
namespace TH
open PySem PySem.Spec PyProof.Rows L2
mutual
/-- all that it holds stands -/
theorem Rp.has {R : RC} {P : Addr → Prop} {H : Hp} : ∀ {d : D} {v : V}, Rp R P H v d → Rp R (fun a => P a ∧ ∃ o, H a = some o) H v d
  | .non, _, h => by cases h; exact .non
  | .bl _, _, h => by cases h; exact .bl _
  | .int _, _, h => by cases h; exact .int _
  | .str _, _, h => by cases h; exact .str _
  | .tup ds, _, h => by
    cases h with
    | tup h r => exact .tup h (Rps.has r)
  | .lst ds, _, h => by
    cases h with
    | lst p h r => exact .lst ⟨p, _, h⟩ h (Rps.has r)
  | .dct ks ds, _, h => by
    cases h with
    | dct p h n r1 z r2 => exact .dct ⟨p, _, h⟩ h n (Rps.has r1) z (Rps.has r2)
  | .hou ts ks, _, h => by
    cases h with
    | hou p h p1 h1 r1 p2 h2 r2 => exact .hou ⟨p, _, h⟩ h ⟨p1, _, h1⟩ h1 (Rps.has r1) ⟨p2, _, h2⟩ h2 (Rps.has r2)
  | .hou1 ts, _, h => by
    cases h with
    | hou1 q p h p1 h1 r1 => exact .hou1 q ⟨p, _, h⟩ h ⟨p1, _, h1⟩ h1 (Rps.has r1)
  | .scr ns, _, h => by
    cases h with
    | scr h => exact .scr h
  | .cst x, _, h => by
    cases h with
    | cst h => exact .cst h
  | .tbl _ _ _, _, h => by
    cases h with
    | tbl h => exact .tbl h
  | .exc cls fs vs, _, h => by
    cases h with
    | exc0 h => exact .exc0 h
    | exc h h2 h3 h4 r => exact .exc h h2 h3 h4 (Rps.has r)
theorem Rps.has {R : RC} {P : Addr → Prop} {H : Hp} : ∀ {ds : List D} {vs : List V}, Rps R P H vs ds → Rps R (fun a => P a ∧ ∃ o, H a = some o) H vs ds
  | [], _, .nil => .nil
  | _ :: _, _, .cons r t => .cons (Rp.has r) (Rps.has t)
end
theorem rds_viewX {R : RC} {c : Ctx} {B : Bg} {O : List Addr} {S : Env} {row : Row} {σ : L2.St} {H Hs : Hp} (F : Fr R c B O S row σ H) {vs : List V} {rs : List Rv} {ds : List D} (k : RvsOk R c O S σ Hs H vs rs) (e : rds S rs = some ds) : Rps R (fun a => ∃ o, H a = some o) H vs ds :=
  (rds_view F k e).has.imp fun _ h => h.2
section
variable {X : Cx} {C : Cn} {c : Ctx} {W : WX} {B : Bg}
/-- a call that changed the row -/
theorem Fr.updio {R : RC} {O : List Addr} {S : Env} {row' : Row} {ds : List D} {σ : L2.St} {H H' : Hp} {i : Nat} {r : Addr} (F : Fr R c B O S (some ds) σ H) (hi : c.io = some i) (hr : σ[i]? = some (some (.ref r))) (k : KeepBut r H H') (q : RowAt R H' r row') :
    Fr R c B O S row' σ H' ∧ ExE c σ O H H' := by
  obtain ⟨j, r0, xs, z1, z2, z3, z4, z5, z6, z7⟩ := F.io ds rfl
  rw [hi] at z1
  cases z1
  rw [hr] at z2
  cases z2
  obtain ⟨ds', xs', q1, q2, q3⟩ := q
  have dom : ∀ a o, H a = some o → ∃ o', H' a = some o' := fun a o h => by
    by_cases e : a = r
    · rw [e]; exact ⟨_, q2⟩
    · exact ⟨o, k a o h e⟩
  have ext : Ext O H H' := by
    refine ⟨fun a o h z => k a o h fun e => ?_, dom⟩
    subst e
    rcases z with z | z
    · exact z z3
    · rw [z5] at h
      cases h
      cases z
  refine ⟨⟨F.len, fun a o h z => ?_, fun a o h => let ⟨o1, h1⟩ := F.bdom a o h; dom a o1 h1, fun a h => ?_, F.onew, fun i d h z => ?_, fun i d h z => ?_, F.inj, fun ds h => ?_, F.ion, fun a h => ?_, F.iod⟩, ext, ?_⟩
  · refine k a o (F.keep a o h z) fun e => ?_
    subst e
    rcases z4 with z4 | z4
    · exact z z4
    · rw [h] at z4
      cases z4
  · obtain ⟨o, h1⟩ := F.odom a h
    exact dom a o h1
  · obtain ⟨v, h1, h2⟩ := F.val i d h z
    exact ⟨v, h1, h2.keep ext (fun _ x => x) fun _ x => x⟩
  · obtain ⟨a, h1, h2, h3, h4, h5⟩ := F.own i d h z
    refine ⟨a, h1, h2, h3, h4.keep ext (fun _ x => x) (fun _ x => x) (fun b e _ o ho => k b o ho fun e2 => ?_), h5⟩
    cases e
    subst e2
    exact z7 i d h z h1
  · rw [q1] at h
    have e : ds' = ds := Option.some.inj h
    subst e
    exact ⟨_, r, xs', hi, hr, z3, z4, q2, q3, z7⟩
  · obtain ⟨d0, j0, _, h2, h3⟩ := F.ior a h
    exact ⟨ds', j0, q1, h2, h3⟩
  · have e : ioA c σ = [r] := by unfold ioA; rw [hi]; dsimp only; rw [hr]
    rw [e]
    refine ⟨fun a o h z => k a o h fun e => ?_, dom⟩
    subst e
    rcases z with z | z
    · exact z List.mem_cons_self
    · rw [z5] at h
      cases h
      cases z
theorem rds_viewN {R : RC} {O : List Addr} {S : Env} {row : Row} {σ : L2.St} {H Hs : Hp} {r : Addr} (F : Fr R c B O S row σ H) (hr : r ∈ O) (hn : ∀ j d, S[j]? = some (some d) → isOwn c j = true → σ[j]? ≠ some (some (.ref r))) :
    ∀ {vs : List V} {rs : List Rv} {ds : List D}, RvsOk R c O S σ Hs H vs rs → rds S rs = some ds → Rps R (· ≠ r) H vs ds
  | [], [], ds, .nil, e => by
    have e2 : [] = ds := Option.some.inj e
    subst e2
    exact .nil
  | _ :: _, rv :: vs, ds, .cons k t, e => by
    have e1 : ((rd S rv).bind fun d => (rds S vs).map fun ds => d :: ds) = some ds := e
    rw [Option.bind_eq_some_iff] at e1
    obtain ⟨d, h1, h2⟩ := e1
    rw [Option.map_eq_some_iff] at h2
    obtain ⟨ds', h3, h4⟩ := h2
    subst h4
    refine .cons ?_ (rds_viewN F hr hn t h3)
    cases rv with
    | v nw d' =>
      have e : d' = d := Option.some.inj h1
      subst e
      exact k.1.imp fun a h e => h (by rw [e]; exact hr)
    | p i =>
      have kv := k.view F h1
      obtain ⟨p1, p2, d', p3⟩ := k
      refine (kv.imp (P' := (· ≠ r)) fun a h e => h (by rw [e]; exact hr)).rp fun a ea hc e => ?_
      subst ea e
      exact hn i d' p3 p1 p2
    | io => exact nomatch h1
theorem okN_dbg {x : Str} (h : okN x = true) : (x == ("__debug__" : Str)) = false := (okN_d h).1
theorem OutP.no {R : RC} {O : List Addr} {S : Env} {σ : L2.St} {H : Hp} {α : Type} {Q : α → Row → Hp → Prop} (h : OutP R c B W O S σ H .no Q) : False := h
/-- f(..) of a def -/
theorem s_call (k : COk X C c W) (hc : c.calm = true) {f : Str} {fn : Fn} (hg : isGl c f = true) (hl : look f c.fns = some fn) {fe : Expr → Env → Row → Out Rv} (he : ∀ e, PE X e (tE (rc X C) c B W (fe e))) (e : Expr) (es : List Expr) {p pos : Pos} :
    PE X (.Call (.Name f p) (e :: es) [] pos) (tE (rc X C) c B W fun S r => (evs fe (e :: es) S r).bind fun vs r => callFn fn S vs r) := by
  cases hn : nsts (e :: es) with
  | false =>
    unfold evs
    rw [hn]
    exact tE_no
  | true =>
    have hn2 : (nst e && nsts es) = true := hn
    rw [Bool.and_eq_true] at hn2
    obtain ⟨kk, fa, fd, ps, F, hr, hm, hk, hb⟩ := (k.fns hc f fn hl).ex
    refine PE.imp (pe_callS (E := WE W) F hr (k.gl hg).1 hm hk hb (fun σ => passAt k.tk σ) (s_args he (e :: es)) (okN_dbg (k.gl hg).2) (nst_star hn2.1) (nsts_any hn2.2)) fun σ H Q ⟨O, S, row, F0, h⟩ => ⟨O, S, row, F0, h.bind.mono fun rs r1 H1 F1 e1 h1 vs ks => ?_⟩
    show spF (rc X C) fn vs H1 Q (WE W σ)
    unfold callFn at h1
    cases hio : fn.io with
    | false =>
      rw [hio] at h1
      dsimp only at h1
      refine .inl ⟨hio, ?_⟩
      cases hd : rds S rs with
      | none => rw [hd] at h1; exact h1.elim
      | some ds =>
        rw [hd] at h1
        dsimp only at h1
        refine ⟨ds, rds_view F1 ks hd, ?_⟩
        cases hrun : fn.run ds none with
        | no => rw [hrun] at h1; exact h1.elim
        | ok d r' =>
          rw [hrun] at h1
          exact fun v H' sm rp => h1 H' (F1.same sm) (Same.exE sm) v ⟨rp.imp F1.odoS, fun _ => rp.imp fun a z => e1.fresh z⟩
        | ex x r' =>
          rw [hrun] at h1
          exact fun dd H' sm xf => h1 dd H' (F1.same sm) (Same.exE sm) xf
    | true =>
      rw [hio] at h1
      dsimp only at h1
      refine .inr ⟨hio, ?_⟩
      cases ks with
      | nil => exact h1.elim
      | @cons v rv vs' rs' k1 ks =>
        cases rv with
        | v _ _ => exact h1.elim
        | p _ => exact h1.elim
        | io =>
          dsimp only at h1
          cases hd : rds S rs' with
          | none => rw [hd] at h1; exact h1.elim
          | some ds =>
            cases r1 with
            | none => rw [hd] at h1; exact h1.elim
            | some row1 =>
              rw [hd] at h1
              dsimp only at h1
              obtain ⟨i, hi, hv⟩ := k1
              obtain ⟨j, r, xs, z1, z2, z3, z4, z5, z6, z7⟩ := F1.io row1 rfl
              rw [hi] at z1
              cases z1
              rw [hv] at z2
              cases z2
              refine ⟨r, vs', ds, row1, xs, rfl, z5, z6, rds_viewN F1 z3 z7 ks hd, ?_⟩
              cases hrun : fn.run ds (some row1) with
              | no => rw [hrun] at h1; exact h1.elim
              | ok d row' =>
                rw [hrun] at h1
                refine fun v H' kb ra rp => ?_
                obtain ⟨F2, ex⟩ := F1.updio hi hv kb ra
                exact h1 H' F2 ex v ⟨rp.imp F1.odoS, fun _ => rp.imp fun a z => e1.fresh z⟩
              | ex x row' =>
                rw [hrun] at h1
                refine fun dd H' kb ra xf => ?_
                obtain ⟨F2, ex⟩ := F1.updio hi hv kb ra
                exact h1 dd H' F2 ex xf

/-! ### making a house -/
theorem run_makeS {k : Nat} {f C : Addr} {fd : FuncData} {ps : List Str} {sp : Sp} {E : L2.St → XK} {pins : List (Addr × Obj)} {σ : L2.St} {H : Hp} {s : Shared} {Q : VK} {us : List Value} {vs : List V} (M : Mk X.K C f) (F : FnOk X.prog X.w X.K X.mg X.base (L2.CX X.prog X.w) k f fd ps sp) (hr : Room (k + 1) X.A) (hb : Binds X.K fd ps [])
    (hx : PassesAt (L2.CX X.prog X.w) X σ (E σ)) (I : Inv X pins σ H s) (r : Vals vs us)
    (h : ∀ x dx, H x = none → H dx = none → dx ≠ x → sp (.ref x :: vs) (upd (upd H dx (.own x)) x (.ins C dx [])) (fun v H2 => v = .non ∧ Q (.ref x) H2) (E σ)) :
    wpAny (model X.prog X.w) X.A (call (.ref C) us) (EP X pins σ Q) X.xe s := by
  have hq := h (s.heap.objs.size + 1) s.heap.objs.size (I.hok.fresh (Nat.le_succ _)) (I.hok.fresh (Nat.le_refl _)) (Nat.ne_of_lt (Nat.lt_succ_self _))
  have I2 := Inv.made (C := C) I
  have r2 : Vals (V.ref (s.heap.objs.size + 1) :: vs) (Value.ref (s.heap.objs.size + 1) :: us) := .cons rfl r
  have hl : (Value.ref (s.heap.objs.size + 1) :: us).length = ps.length := by
    have e := r2.length
    rw [F.len _ _ _ _ hq] at e
    exact e.symm
  have b := hb _ (Value.ref (s.heap.objs.size + 1) :: us) I2.kIn (by rw [List.append_nil]; exact hl)
  rw [List.append_nil] at b
  refine wpAny_call (make_map (f := f) I.kIn M.makes M.init (beq_iff_eq.mp M.fn) (codeAny_mono (F.run _ X.stack _ _ ⟨Value.ref (s.heap.objs.size + 1) :: us, []⟩ (Value.ref (s.heap.objs.size + 1) :: us) _ _ (E σ) (hr.make C us [])
    (I2.env0.make C us []) b r2 hq) fun r s' hq' => ?_))
  cases r with
  | error e => exact hx pins _ _ e s' I2 hq'
  | ok fl =>
    cases fl with
    | ret u =>
      obtain ⟨v, H', I3, rv, ev, q3⟩ := I2.after hq'
      subst ev
      exact ⟨rv, ⟨V.ref (s.heap.objs.size + 1), H', I3, rfl, q3⟩⟩
    | next => exact False.elim hq'
    | brk => exact False.elim hq'
    | cont => exact False.elim hq'
def tMakeS (C : Addr) (sp : Sp) (E : L2.St → XK) (t : TA) : TE := fun σ H Q => t σ H fun vs H1 => ∀ x dx, H1 x = none → H1 dx = none → dx ≠ x →
  sp (.ref x :: vs) (upd (upd H1 dx (.own x)) x (.ins C dx [])) (fun v H2 => v = .non ∧ Q (.ref x) H2) (E σ)
theorem pe_makeS {k : Nat} {f C : Addr} {fd : FuncData} {ps : List Str} {sp : Sp} {E : L2.St → XK} {x : Str} {p pos : Pos} {e : Expr} {es : List Expr} {t : TA} (M : Mk X.K C f) (F : FnOk X.prog X.w X.K X.mg X.base (L2.CX X.prog X.w) k f fd ps sp) (hr : Room (k + 1) X.A) (hg : Gl X x) (hm : X.mg x = some (.ref C)) (hb : Binds X.K fd ps []) (hx : ∀ σ, PassesAt (L2.CX X.prog X.w) X σ (E σ))
    (ha : PA X (e :: es) t) (hdb : (x == ("__debug__" : Str)) = false) (he : starEach (e :: es) X.env = (false, eval e X.env) :: starEach es X.env) (hpl : (backTo pos (starEach es X.env)).any (·.1) = false) :
    PE X (.Call (.Name x p) (e :: es) [] pos) (tMakeS C sp E t) := by
  refine ⟨fun pins s σ H Q I h => ?_⟩
  refine wpAny_Call_Name_kw (ld_glob I hg hm ?_ hdb)
  refine PySem.W.callWith_K (h₀ := X.base) I.ok.mod.kin M.kp (thn (ha.run pos pins s σ H _ I h) fun us s1 ⟨vs, H1, I1, r, q⟩ => ⟨I1.kIn, ?_⟩) he hpl
  exact run_makeS M F hr hb (hx σ) I1 r q
theorem s_make (k : COk X C c W) {f : Str} {fn : Fn} (hg : isGl c f = true) (hm : MkOk X C f fn) {fe : Expr → Env → Row → Out Rv} (he : ∀ e, PE X e (tE (rc X C) c B W (fe e))) (e : Expr) (es : List Expr) {p pos : Pos} :
    PE X (.Call (.Name f p) (e :: es) [] pos) (tE (rc X C) c B W fun S r => (evs fe (e :: es) S r).bind fun vs r => callMk fn S vs r) := by
  cases hn : nsts (e :: es) with
  | false =>
    unfold evs
    rw [hn]
    exact tE_no
  | true =>
    have hn2 : (nst e && nsts es) = true := hn
    rw [Bool.and_eq_true] at hn2
    obtain ⟨kk, fa, fd, ps, M, F, hr, hm, hb⟩ := hm.ex
    refine PE.imp (pe_makeS (E := WE W) M F hr (k.gl hg).1 hm hb (fun σ => passAt k.tk σ) (s_args he (e :: es)) (okN_dbg (k.gl hg).2) (nst_star hn2.1) (nsts_any hn2.2)) fun σ H Q ⟨O, S, row, F0, h⟩ => ⟨O, S, row, F0, h.bind.mono fun rs r1 H1 F1 e1 h1 vs ks => ?_⟩
    intro x dx nx nd ne
    unfold callMk at h1
    have sm1 : Same H1 (upd (upd H1 dx (.own x)) x (.ins C.C dx [])) := fun a o ha => by
      rw [upd_ne (ne_of_none ha nx), upd_ne (ne_of_none ha nd)]
      exact ha
    have fr1 : ∀ a, upd (upd H1 dx (.own x)) x (.ins C.C dx []) a = none → H1 a = none := fun a ha => by
      cases q : H1 a with
      | none => rfl
      | some o => rw [sm1 a o q] at ha; cases ha
    have kb : ∀ {H'}, KeepBut x (upd (upd H1 dx (.own x)) x (.ins C.C dx [])) H' → Same H1 H' := fun kb a o ha => kb a o (sm1 a o ha) (ne_of_none ha nx)
    cases hd : rds S rs with
    | none => rw [hd] at h1; exact h1.elim
    | some ds =>
      rw [hd] at h1
      dsimp only at h1
      have hv : Rps (rc X C) (· ≠ x) (upd (upd H1 dx (.own x)) x (.ins C.C dx [])) vs ds := by
        have h2 := rds_viewX F1 ks hd
        exact h2.keep (O := []) (Same.ext sm1) (fun _ _ => by simp) fun a ⟨o, ha⟩ => ne_of_none ha nx
      refine ⟨x, dx, vs, ds, rfl, upd_same, hv, ?_⟩
      cases hrun : fn.run ds none with
      | no => rw [hrun] at h1; exact h1.elim
      | ok d r' =>
        rw [hrun] at h1
        refine fun H' kb' rp => ⟨rfl, h1 H' (F1.same (kb kb')) (Same.exE (kb kb')) (.ref x) ?_⟩
        have rp2 : Rp (rc X C) (fun a => H1 a = none) H' (.ref x) d := rp.imp fun a h => h.elim (fun e => e ▸ nx) (fr1 a)
        exact ⟨rp2.imp F1.odoS, fun _ => rp2.imp fun a z => e1.fresh z⟩
      | ex z r' =>
        rw [hrun] at h1
        exact fun dd H' kb' xf => h1 dd H' (F1.same (kb kb')) (Same.exE (kb kb')) xf
end
end TH

set_option Elab.async false
set_option linter.all false
set_option maxRecDepth 100000
set_option maxHeartbeats 4000000
/-! DV8: built-ins, isinstance, attributes, methods. -/
namespace TH
open PySem PySem.Spec PyProof.Rows L2
section
variable {X : Cx} {C : Cn} {c : Ctx} {W : WX} {B : Bg}
theorem COk.mgN (k : COk X C c W) {x : Str} (h : bltNames.any (fun y => seq x y) = true) : X.mg x = none := by
  obtain ⟨y, h1, h2⟩ := List.any_eq_true.mp h
  rw [seq_eq h2]
  exact k.blt y h1
theorem nm_ne {x : Str} (h : bltNames.any (fun y => seq x y) = true) : x ≠ "__name__" := by
  intro e
  subst e
  revert h
  decide +kernel
/-- a built-in of one argument -/
theorem b1_core {g : D → Option D} {f : Str} {p pos : Pos} {e : Expr} {fe : Expr → Env → Row → Out Rv} (hp : PE X (.Call (.Name f p) [e] [] pos) (tCB (rC1 (rc X C) g) (tA (rc X C) c B W (evs fe [e])))) :
    PE X (.Call (.Name f p) [e] [] pos) (tE (rc X C) c B W fun S r => (evs fe [e] S r).bind fun vs r => (match rds S vs with
    | some [d] => ret (d.elf) (g d) r
    | _ => .no)) := by
  refine PE.imp hp fun σ H Q ⟨O, S, row, F, h⟩ => ⟨O, S, row, F, h.bind.mono fun rs r1 H1 F1 e1 h1 vs ks => ?_⟩
  split at h1
  · rename_i d hd
    match rs, vs, ks, hd with
    | [rv], [v], .cons k1 .nil, hd =>
      have hr : rd S rv = some d := by
        have e1 : ((rd S rv).bind fun d => some [d]) = some [d] := hd
        rw [Option.bind_eq_some_iff] at e1
        obtain ⟨d', q1, q2⟩ := e1
        cases q2
        exact q1
      cases eg : g d with
      | none => rw [eg] at h1; exact h1.elim
      | some z =>
        rw [eg] at h1
        have vx := k1.view F1 hr
        refine ⟨v, d, z, rfl, vx.t, eg, fun w H' m => ret_use h1 F1 e1 m (fun p hp => ?_) fun kn p hp => ?_⟩
        · have e : p = (v, d) := by simpa using hp
          rw [e]; exact vx
        · have e : p = (v, d) := by simpa using hp
          rw [e]; exact kn
    | [], [], .nil, hd => exact nomatch (show some ([] : List D) = some [d] from hd)
    | rv :: rw :: rest, v :: w :: ws, .cons k1 (.cons k2 k3), hd =>
      have e1 : ((rd S rv).bind fun d => (((rd S rw).bind fun d' => (rds S rest).map fun ds => d' :: ds)).map fun ds => d :: ds) = some [d] := hd
      rw [Option.bind_eq_some_iff] at e1
      obtain ⟨d', q1, q2⟩ := e1
      rw [Option.map_eq_some_iff] at q2
      obtain ⟨l, q3, q4⟩ := q2
      rw [Option.bind_eq_some_iff] at q3
      obtain ⟨d2, q5, q6⟩ := q3
      rw [Option.map_eq_some_iff] at q6
      obtain ⟨l2, q7, q8⟩ := q6
      subst q8
      cases q4
  · exact h1.elim
theorem b2_core {g : D → D → Option D} {f : Str} {p pos : Pos} {e e2 : Expr} {fe : Expr → Env → Row → Out Rv} (hg : ∀ x y z, g x y = some z → x.elf = true ∧ y.elf = true) (hp : PE X (.Call (.Name f p) [e, e2] [] pos) (tCB (rC2 (rc X C) g) (tA (rc X C) c B W (evs fe [e, e2])))) :
    PE X (.Call (.Name f p) [e, e2] [] pos) (tE (rc X C) c B W fun S r => (evs fe [e, e2] S r).bind fun vs r => (match rds S vs with
    | some [x, y] => ret true (g x y) r
    | _ => .no)) := by
  refine PE.imp hp fun σ H Q ⟨O, S, row, F, h⟩ => ⟨O, S, row, F, h.bind.mono fun rs r1 H1 F1 e1 h1 vs ks => ?_⟩
  split at h1
  · rename_i dx dy hd
    have hv := rds_view F1 ks hd
    match vs, hv with
    | [v, w], .cons v1 (.cons v2 .nil) =>
      cases eg : g dx dy with
      | none => rw [eg] at h1; exact h1.elim
      | some z =>
        rw [eg] at h1
        refine ⟨v, w, dx, dy, z, rfl, v1, v2, eg, fun u H' m => ?_⟩
        have l1 := hg _ _ _ eg
        have rp : ∀ P : Addr → Prop, (∀ a, H1 a = none → P a) → Rp (rc X C) P H' u z := fun P hP => m.2 P (fun p hp => by
          rcases List.mem_cons.mp hp with q | hp
          · rw [q]; exact v1.e.elf _ l1.1
          · have q : p = (w, dy) := by simpa using hp
            rw [q]; exact v2.e.elf _ l1.2) hP
        exact h1 H' (F1.same m.1) (Same.exE m.1) u ⟨rp _ F1.odoS, fun _ => rp _ fun a q => e1.fresh q⟩
  · exact h1.elim
def evB1 (fe : Expr → Env → Row → Out Rv) (g : D → Option D) (e : Expr) (S : Env) (r : Row) : Out Rv := (evs fe [e] S r).bind fun vs r => (match rds S vs with
    | some [d] => ret (d.elf) (g d) r
    | _ => .no)
def evB2 (fe : Expr → Env → Row → Out Rv) (g : D → D → Option D) (e e2 : Expr) (S : Env) (r : Row) : Out Rv := (evs fe [e, e2] S r).bind fun vs r => (match rds S vs with
    | some [x, y] => ret true (g x y) r
    | _ => .no)
theorem s_blt1 (k : COk X C c W) {fe : Expr → Env → Row → Out Rv} (he : ∀ e, PE X e (tE (rc X C) c B W (fe e))) {f : Str} (hg : isGl c f = true) (e : Expr) {p pos : Pos} {g : D → Option D} (hb : blt1 c.calm f = some g) :
    PE X (.Call (.Name f p) [e] [] pos) (tE (rc X C) c B W (evB1 fe g e)) := by
  cases hn : nsts [e] with
  | false =>
    unfold evB1 evs
    rw [hn]
    exact tE_no
  | true =>
    have hn2 : (nst e && true) = true := hn
    rw [Bool.and_true] at hn2
    have bf : ∀ {n : String} {g' : D → Option D}, CallR X (.builtin n) (rC1 (rc X C) g') → bltNames.any (fun y => seq f y) = true → bootBuiltins f = some (.builtin n) → some g' = some g →
        PE X (.Call (.Name f p) [e] [] pos) (tE (rc X C) c B W (evB1 fe g e)) := fun cr hb hv hh => by
      cases hh
      exact b1_core (pe_callB cr (k.gl hg).1 (k.mgN hb) hv (s_args he [e]) (nm_ne hb) (okN_dbg (k.gl hg).2) (nst_star hn2) rfl)
    have bt : ∀ {n : String} {g' : D → Option D}, CallR X (.type n) (rC1 (rc X C) g') → bltNames.any (fun y => seq f y) = true → bootBuiltins f = some (.type n) → some g' = some g →
        PE X (.Call (.Name f p) [e] [] pos) (tE (rc X C) c B W (evB1 fe g e)) := fun cr hb hv hh => by
      cases hh
      exact b1_core (pe_callTy cr (k.gl hg).1 (k.mgN hb) hv (s_args he [e]) (nm_ne hb) (okN_dbg (k.gl hg).2) (nst_star hn2) rfl)
    unfold blt1 at hb
    cases h1 : seq f "len" with
    | true => rw [h1] at hb; exact bf cr_len (by rw [seq_eq h1]; decide +kernel) (by rw [seq_eq h1]; exact boot_len) hb
    | false =>
    rw [h1] at hb
    cases h2 : seq f "int" with
    | true => rw [h2] at hb; exact bt cr_int (by rw [seq_eq h2]; decide +kernel) (by rw [seq_eq h2]; exact PyProof.Rows.boot_int) hb
    | false =>
    rw [h2] at hb
    cases h3 : seq f "list" with
    | true => rw [h3] at hb; exact bt cr_list (by rw [seq_eq h3]; decide +kernel) (by rw [seq_eq h3]; exact PyProof.Rows.boot_list) hb
    | false =>
    rw [h3] at hb
    cases h4 : seq f "tuple" with
    | true => rw [h4] at hb; exact bt cr_tuple (by rw [seq_eq h4]; decide +kernel) (by rw [seq_eq h4]; exact PyProof.Rows.boot_tuple) hb
    | false =>
    rw [h4] at hb
    cases h5 : seq f "abs" with
    | true => rw [h5] at hb; exact bf cr_abs (by rw [seq_eq h5]; decide +kernel) (by rw [seq_eq h5]; exact PyProof.Rows.boot_abs) hb
    | false =>
    rw [h5] at hb
    cases hc : c.calm with
    | false => rw [hc] at hb; cases hb
    | true =>
    rw [hc] at hb
    have hX := k.calm hc
    cases h6 : seq f "max" with
    | true => rw [h6] at hb; exact bf (cr_max1 hX) (by rw [seq_eq h6]; decide +kernel) (by rw [seq_eq h6]; exact PyProof.Rows.boot_max) hb
    | false =>
    rw [h6] at hb
    cases h7 : seq f "min" with
    | true => rw [h7] at hb; exact bf (cr_min1 hX) (by rw [seq_eq h7]; decide +kernel) (by rw [seq_eq h7]; exact PyProof.Rows.boot_min) hb
    | false =>
    rw [h7] at hb
    cases h8 : seq f "sorted" with
    | true => rw [h8] at hb; exact bf (cr_sortedD hX) (by rw [seq_eq h8]; decide +kernel) (by rw [seq_eq h8]; exact PyProof.Rows.boot_sorted) hb
    | false => rw [h8] at hb; cases hb
theorem max2_elf : ∀ x y z, max2D x y = some z → x.elf = true ∧ y.elf = true := by
  intro x y z h
  unfold max2D at h
  split at h
  · exact ⟨rfl, rfl⟩
  · cases h
theorem min2_elf : ∀ x y z, min2D x y = some z → x.elf = true ∧ y.elf = true := by
  intro x y z h
  unfold min2D at h
  split at h
  · exact ⟨rfl, rfl⟩
  · cases h
theorem s_blt2 (k : COk X C c W) {fe : Expr → Env → Row → Out Rv} (he : ∀ e, PE X e (tE (rc X C) c B W (fe e))) {f : Str} (hg : isGl c f = true) (e e2 : Expr) {p pos : Pos} {g : D → D → Option D} (hb : blt2 c.calm f = some g) :
    PE X (.Call (.Name f p) [e, e2] [] pos) (tE (rc X C) c B W (evB2 fe g e e2)) := by
  cases hn : nsts [e, e2] with
  | false =>
    unfold evB2 evs
    rw [hn]
    exact tE_no
  | true =>
    have hn2 : (nst e && nsts [e2]) = true := hn
    rw [Bool.and_eq_true] at hn2
    unfold blt2 at hb
    cases hc : c.calm with
    | false => rw [hc] at hb; cases hb
    | true =>
    rw [hc] at hb
    have hX := k.calm hc
    cases h6 : seq f "max" with
    | true =>
      rw [h6] at hb
      cases hb
      exact b2_core max2_elf (pe_callB (cr_max2 hX) (k.gl hg).1 (k.mgN (by rw [seq_eq h6]; decide +kernel)) (by rw [seq_eq h6]; exact PyProof.Rows.boot_max) (s_args he [e, e2]) (by rw [seq_eq h6]; decide) (okN_dbg (k.gl hg).2) (nst_star hn2.1) (nsts_any hn2.2))
    | false =>
    rw [h6] at hb
    cases h7 : seq f "min" with
    | true =>
      rw [h7] at hb
      cases hb
      exact b2_core min2_elf (pe_callB (cr_min2 hX) (k.gl hg).1 (k.mgN (by rw [seq_eq h7]; decide +kernel)) (by rw [seq_eq h7]; exact PyProof.Rows.boot_min) (s_args he [e, e2]) (by rw [seq_eq h7]; decide) (okN_dbg (k.gl hg).2) (nst_star hn2.1) (nsts_any hn2.2))
    | false => rw [h7] at hb; cases hb

/-! ### isinstance -/
def tyN : D → Option String
  | .non => some "NoneType"
  | .bl _ => some "bool"
  | .int _ => some "int"
  | .str _ => some "str"
  | .lst _ => some "list"
  | .tup _ => some "tuple"
  | _ => none
theorem tyX_of {H : Hp} {v : V} {d : D} {n : String} (h : RpT (rc X C) H v d) (e : tyN d = some n) : TyX X.K H v (.type n) := by
  cases h with
  | non => cases e; exact .base .non
  | bl b => cases e; exact .base (.bl _)
  | int b => cases e; exact .base (.int _)
  | str b => cases e; exact .base (.str _)
  | tup h r =>
    cases e
    rcases h with (h | ⟨o, h⟩) | ⟨o, its, n, h1, h2, _⟩
    · exact .base (.tup h)
    · exact .fTuple h
    · exact .kTuple h1 h2
  | lst p h r => cases e; exact .base (.lst h)
  | hou => cases e
  | hou1 => cases e
  | dct => cases e
  | scr => cases e
  | cst => cases e
  | tbl => cases e
  | exc0 => cases e
  | exc => cases e
theorem tyOk_cases {T : Str} (h : tyOk T = true) : T = "bool" ∨ T = "int" ∨ T = "str" ∨ T = "list" ∨ T = "tuple" := by
  unfold tyOk at h
  simp only [Bool.or_eq_true] at h
  rcases h with (((h | h) | h) | h) | h
  · exact .inl (seq_eq h)
  · exact .inr (.inl (seq_eq h))
  · exact .inr (.inr (.inl (seq_eq h)))
  · exact .inr (.inr (.inr (.inl (seq_eq h))))
  · exact .inr (.inr (.inr (.inr (seq_eq h))))
def tyStr (T : Str) : String := if seq T "bool" then "bool" else if seq T "int" then "int" else if seq T "str" then "str" else if seq T "list" then "list" else "tuple"
theorem ty_boot {T : Str} (h : tyOk T = true) : bootBuiltins T = some (.type (tyStr T)) ∧ bltNames.any (fun y => seq T y) = true := by
  rcases tyOk_cases h with e | e | e | e | e
  · rw [e]; exact ⟨by decide +kernel, by decide +kernel⟩
  · rw [e]; exact ⟨by decide +kernel, by decide +kernel⟩
  · rw [e]; exact ⟨by decide +kernel, by decide +kernel⟩
  · rw [e]; exact ⟨by decide +kernel, by decide +kernel⟩
  · rw [e]; exact ⟨by decide +kernel, by decide +kernel⟩
theorem ty_kit {T : Str} (h : tyOk T = true) {d : D} {b : Bool} (e : tyD T d = some b) : ∃ n, tyN d = some n ∧ kitB n (tyStr T) = some b := by
  rcases tyOk_cases h with q | q | q | q | q <;> subst q <;> cases d <;> first
    | (cases e; done)
    | (cases e; exact ⟨_, rfl, by decide +kernel⟩)
end
end TH

set_option Elab.async false
set_option linter.all false
set_option maxRecDepth 100000
set_option maxHeartbeats 4000000
/-! DV9: isinstance, attributes, methods, calls joined. -/
namespace TH
open PySem PySem.Spec PyProof.Rows L2
section
variable {X : Cx} {C : Cn} {c : Ctx} {W : WX} {B : Bg}
theorem ty_name (k : COk X C c W) {T : Str} {pos : Pos} (hg : isGl c T = true) (ht : tyOk T = true) : PE X (.Name T pos) (tC (.ty (tyStr T))) := by
  obtain ⟨h1, h2⟩ := ty_boot ht
  exact pe_bltn (k.gl hg).1 (k.mgN h2) h1 rfl (nm_ne h2) (okN_dbg (k.gl hg).2)
theorem exc_name (k : COk X C c W) {T : Str} {pos : Pos} (hg : isGl c T = true) (ht : excT c.cls T = true) : ∃ v, PE X (.Name T pos) (tC v) ∧ ∀ u, RelV v u → u = tvOf X.K T := by
  unfold excT at ht
  unfold tvOf
  cases hv : seq T "ValueError" with
  | true =>
    have := seq_eq hv
    subst this
    exact ⟨.ty "ValueError", pe_bltn (k.gl hg).1 k.xs.ve (show bootBuiltins "ValueError" = some (.type "ValueError") by decide +kernel) rfl (by decide) (by decide), fun u h => h⟩
  | false =>
    rw [hv, Bool.or_false] at ht
    exact ⟨.ref (He.ga X.K T), pe_glob (k.gl hg).1 (k.xs.gl T ht) rfl (okN_dbg (k.gl hg).2), fun u h => h⟩
theorem isSub_mem {L : List Str} {cls T : Str} {b : Bool} (h : isSub L cls T = some b) : memS cls L = true := by
  unfold isSub at h
  split at h
  · assumption
  · cases h
theorem s_isi (k : COk X C c W) {R : Evs} (he : ∀ e, PE X e (tE (rc X C) c B W (R.ev c e))) {f : Str} (hf : seq f "isinstance" = true) (hg : isGl c f = true) (a t : Expr) {p pos : Pos} :
    PE X (.Call (.Name f p) [a, t] [] pos) (tE (rc X C) c B W (isiE R c a t)) := by
  have hf2 := seq_eq hf
  have hmg : X.mg f = none := by rw [hf2]; exact k.blt _ (by decide +kernel)
  have hbt : bootBuiltins f = some (.builtin "isinstance") := by rw [hf2]; exact boot_isinstance
  have hne : f ≠ "__name__" := by rw [hf2]; decide
  unfold isiE
  split
  · rename_i T tp
    split
    · rename_i h1 h2 h3
      refine PE.imp (pe_callB call_isi (k.gl hg).1 hmg hbt (pa_cons (he a) (pa_cons (ty_name k h2 h3) pa_nil rfl) (nst_star h1)) hne (okN_dbg (k.gl hg).2) (nst_star h1) rfl) fun σ H Q ⟨O, S, row, F, h⟩ => ⟨O, S, row, F, h.bind.mono fun rv r1 H1 F1 e1 h1 v kv => ?_⟩
      split at h1
      · rename_i d hd
        cases hb : tyD T d with
        | none => rw [hb] at h1; exact h1.elim
        | some b =>
          rw [hb] at h1
          obtain ⟨n, q1, q2⟩ := ty_kit h3 hb
          exact ⟨v, _, _, _, b, rfl, .ty _, tyX_of (kv.view F1 hd).t q1, kit_ty q2, val_use h1 F1 fun P => .bl _⟩
      · exact h1.elim
    · rename_i h1 h2 h3
      cases hx : excT c.cls T && !c.calm with
      | false => exact tE_no
      | true =>
        rw [Bool.and_eq_true, Bool.not_eq_true'] at hx
        obtain ⟨tv, hT, hu⟩ := exc_name (pos := tp) k h2 hx.1
        have cr : CallR X (.builtin "isinstance") (fun xs H Q => ∃ a D, C.e = some (a, .ref D, none) ∧ ExcC X.K D ∧ rIsE X.K D a xs H Q) := fun pins s σ H xs us Q I r ⟨a, D, q1, q2, q3⟩ => k.exI hx.2 a D q1 q2 pins s σ H xs us Q I r q3
        refine PE.imp (pe_callB cr (k.gl hg).1 hmg hbt (pa_cons (he a) (pa_cons hT pa_nil rfl) (nst_star h1)) hne (okN_dbg (k.gl hg).2) (nst_star h1) rfl) fun σ H Q ⟨O, S, row, F, h⟩ => ⟨O, S, row, F, h.bind.mono fun rv r1 H1 F1 e1 h1 v kv => ?_⟩
        split at h1
        · rename_i nw cls vs
          cases hb : isSub c.cls cls T with
          | none => rw [hb] at h1; exact h1.elim
          | some b =>
            rw [hb] at h1
            have hr := kv.1
            cases hr with
            | exc0 he =>
              exact ⟨_, _, he, k.xs.ec cls (isSub_mem hb), tv, _, b, rfl, hu, (k.xs.kit cls T b hb).1, val_use h1 F1 fun P => .bl _⟩
        · exact h1.elim
    · exact tE_no
  · rename_i T tp U up kk tpos
    split
    · rename_i h1 h2 h3
      rw [Bool.and_eq_true] at h2 h3
      refine PE.imp (pe_callB call_isiT (k.gl hg).1 hmg hbt (pa_cons (he a) (pa_cons (pe_tup (pa_cons (ty_name k h2.1 h2.2) (pa_cons (ty_name k h3.1 h3.2) pa_nil rfl) rfl)) pa_nil rfl) (nst_star h1)) hne (okN_dbg (k.gl hg).2) (nst_star h1) rfl) fun σ H Q ⟨O, S, row, F, h⟩ => ⟨O, S, row, F, h.bind.mono fun rv r1 H1 F1 e1 h1 v kv => ?_⟩
      split at h1
      · rename_i d hd
        split at h1
        · rename_i b1 b2 hb1 hb2
          obtain ⟨n, q1, q2⟩ := ty_kit h2.2 hb1
          obtain ⟨n', q1', q2'⟩ := ty_kit h3.2 hb2
          rw [q1] at q1'
          cases q1'
          refine ⟨by show 2 ≤ sizeLine; rw [sizeLine_eq]; decide, fun p np => ?_⟩
          have sm : Same H1 (upd H1 p (.tup [.ty (tyStr T), .ty (tyStr U)])) := same_upd np
          have rv2 := (kv.view F1 hd).t.keep (O := []) (P' := fun _ => True) (Same.ext sm) (fun _ _ => by simp) (fun _ _ => trivial)
          refine ⟨v, p, _, _, [.type (tyStr T), .type (tyStr U)], b1 || b2, rfl, upd_same, .cons (.ty _) (.cons (.ty _) .nil), tyX_of rv2 q1, ?_, h1 _ (F1.same sm) (Same.exE sm) _ ⟨.bl _, fun _ => .bl _⟩⟩
          refine kitAny_cons (kit_ty q2) (fun hb => ?_) (fun hb => by rw [hb]; rfl)
          rw [hb]
          exact kitAny_cons (kit_ty q2') (fun hb => by rw [hb]; exact kitAny_nil) (fun hb => by rw [hb]; rfl)
        · exact h1.elim
      · exact h1.elim
    · exact tE_no
  · exact tE_no

/-! ### attributes and methods -/
theorem base_of {o : Expr} {m : Str} {env : PySem.Env} (h : plainB o = true) : attributeBase o m env (eval o env) = eval o env := by
  unfold attributeBase
  split
  · cases h
  · rfl
theorem lk0 {v : V} {l : List (Str × V)} : List.lookup (Str.ofString "kept_things") ((Str.ofString "kept_things", v) :: l) = some v := by
  have e : (Str.ofString "kept_things" == Str.ofString "kept_things") = true := by decide +kernel
  unfold List.lookup
  rw [e]
theorem lk1 {v w : V} : List.lookup (Str.ofString "kept_ties") [(Str.ofString "kept_things", w), (Str.ofString "kept_ties", v)] = some v := by
  have e : (Str.ofString "kept_ties" == Str.ofString "kept_things") = false := by decide +kernel
  have e2 : (Str.ofString "kept_ties" == Str.ofString "kept_ties") = true := by decide +kernel
  unfold List.lookup
  rw [e]
  unfold List.lookup
  rw [e2]
theorem s_attr (k : COk X C c W) {x f : Str} {p pos : Pos} {fo : Env → Row → Out Rv} (ho : PE X (.Name x p) (tE (rc X C) c B W fo)) :
    PE X (.Attribute (.Name x p) f pos) (tE (rc X C) c B W fun S r => (fo S r).bind fun x r => (match x with
      | .v _ (.hou ts ks) => (match seq f "kept_things" with
        | true => .ok (.v false (.lst ts)) r
        | false => (match seq f "kept_ties" with
          | true => .ok (.v false (.lst ks)) r
          | false => .no))
      | .v _ (.hou1 ts) => (match seq f "kept_things" with
        | true => .ok (.v false (.lst ts)) r
        | false => .no)
      | _ => .no)) := by
  refine PE.imp (pe_fld ho (base_of rfl)) fun σ H Q ⟨O, S, row, F, h⟩ => ⟨O, S, row, F, h.bind.mono fun rv r1 H1 F1 e1 h1 v kv => ?_⟩
  split at h1
  · rename_i nw ts ks
    have hr := kv.1
    cases hr with
    | hou p hh p1 h2 r2 p2 h3 r3 =>
      split at h1
      · rename_i hf
        have := seq_eq hf
        subst this
        exact ⟨_, _, _, _, _, rfl, hh, k.hcls, k.nkt, lk0, h1 H1 F1 ExE.refl _ ⟨.lst p1 h2 r2, fun z => nomatch z⟩⟩
      · split at h1
        · rename_i hf
          have := seq_eq hf
          subst this
          exact ⟨_, _, _, _, _, rfl, hh, k.hcls, k.nkk, lk1, h1 H1 F1 ExE.refl _ ⟨.lst p2 h3 r3, fun z => nomatch z⟩⟩
        · exact h1.elim
  · rename_i nw ts
    have hr := kv.1
    cases hr with
    | hou1 q p hh p1 h2 r2 =>
      split at h1
      · rename_i hf
        have := seq_eq hf
        subst this
        exact ⟨_, _, _, _, _, rfl, hh, k.hcls, k.nkt, lk0, h1 H1 F1 ExE.refl _ ⟨.lst p1 h2 r2, fun z => nomatch z⟩⟩
      · exact h1.elim
  · exact h1.elim
theorem nsts_all {pos : Pos} {env : PySem.Env} : ∀ {es : List Expr}, nsts es = true → (backTo pos (starEach es env)).all (fun x => !x.1) = true
  | [], _ => rfl
  | e :: es, h => by
    have h2 : (nst e && nsts es) = true := h
    rw [Bool.and_eq_true] at h2
    rw [nst_star h2.1]
    show (true && (backTo pos (starEach es env)).all (fun x => !x.1)) = true
    rw [nsts_all h2.2]
    rfl
theorem meth_ev {o : Expr} {m : Str} {apos pos : Pos} {es : List Expr} {env : PySem.Env} (hb : plainB o = true) (hl : oneLine apos pos = true) (hn : nsts es = true) (hz : es.length < 30) :
    eval (.Call (.Attribute o m apos) es [] pos) env = (do
      let ov ← eval o env
      standAt apos.atName
      let (f, first) ← holding [ov] (getMethod ov m (do return (← importBound o env).getD true))
      callWith pos f first (backTo pos (starEach es env)) (backToKw pos (keywordEach [] env))) := by
  have h1 : eval (.Call (.Attribute o m apos) es [] pos) env = (do
      let ov ← attributeBase o m env (eval o env)
      standAt apos.atName
      methodCall o m apos pos env ov (es.length + 0) (backTo pos (starEach es env)) (backToKw pos (keywordEach [] env))) := by
    rw [eval]
    rfl
  have hf : methodCallForm (es.length + 0) (backTo pos (starEach es env)) (backToKw pos (keywordEach [] env)) = true := by
    unfold methodCallForm
    rw [nsts_all hn]
    show (true && true && decide (es.length + 0 + 0 < 30)) = true
    simp [hz]
  have hp : methodCallPos true o env apos pos = pure pos := by
    unfold methodCallPos
    have h3 : (apos.endLine == pos.line) = true := hl
    rw [h3]
    rfl
  rw [h1, base_of hb]
  unfold methodCall
  simp only [hf, hp, calleeOf, if_true]
  rfl
theorem hou_ins {H : Hp} {P : Addr → Prop} {v : V} {d : D} (h : Rp (rc X C) P H v d) (hd : isHou d = true) : ∃ a dx fs, v = .ref a ∧ H a = some (.ins C.C dx fs) ∧ ∀ m, notKept m = true → fs.lookup m = none := by
  have ne : ∀ {m : Str}, notKept m = true → (m == Str.ofString "kept_things") = false ∧ (m == Str.ofString "kept_ties") = false := fun {m} hm => by
    unfold notKept at hm
    rw [Bool.and_eq_true, Bool.not_eq_true', Bool.not_eq_true'] at hm
    exact ⟨by simpa using seq_ne hm.1, by simpa using seq_ne hm.2⟩
  cases h with
  | hou p h p1 h2 r2 p2 h3 r3 => exact ⟨_, _, _, rfl, h, fun m hm => by simp [List.lookup, (ne hm).1, (ne hm).2]⟩
  | hou1 q p h p1 h2 r2 => exact ⟨_, _, _, rfl, h, fun m hm => by simp [List.lookup, (ne hm).1]⟩
  | _ => cases hd
theorem s_houM (k : COk X C c W) {R : Evs} (he : ∀ e, PE X e (tE (rc X C) c B W (R.ev c e))) {o : Expr} {m : Str} {apos pos : Pos} {es : List Expr} {fn : Fn} (hc : c.calm = true) (hl : oneLine apos pos = true) (hb : plainB o = true) (hm : look m c.mts = some fn) (hk : notKept m = true) (hz : es.length < 30) (hn : nsts es = true) :
    PE X (.Call (.Attribute o m apos) es [] pos) (tE (rc X C) c B W (houM R c o fn es)) := by
  obtain ⟨kk, fa, fd, ps, M, F, hr, hbi⟩ := (k.mts hc m fn hm).ex
  have hio := (k.mts hc m fn hm).io
  have core : ∀ (σ : L2.St) (H : Hp) (Q : VK), tE (rc X C) c B W (houM R c o fn es) σ H Q → tMeth C.C m (spF (rc X C) fn) [] E0 (tE (rc X C) c B W (R.ev c o)) (tA (rc X C) c B W (evs (R.ev c) es)) σ H Q := by
    intro σ H Q ⟨O, S, row, F, h⟩
    refine ⟨O, S, row, F, h.bind.mono fun rv r1 H1 F1 e1 h1 v kv => ?_⟩
    cases rv with
    | v nw d =>
      dsimp only at h1
      cases hd : isHou d with
      | false => rw [hd] at h1; exact h1.elim
      | true =>
        rw [hd] at h1
        obtain ⟨a, dx, fs, e, ha, hl⟩ := hou_ins kv.1 hd
        refine ⟨a, dx, fs, e, ha, hl m hk, O, S, r1, F1, h1.bind.mono fun rs r2 H2 F2 e2 h2 vs ks => ?_⟩
        cases hds : rds S rs with
        | none => rw [hds] at h2; exact h2.elim
        | some ds =>
          rw [hds] at h2
          dsimp only at h2
          rw [List.append_nil]
          refine .inl ⟨hio, d :: ds, .cons ((kv.keep e2 F.odo).1.imp fun _ _ => trivial) (rds_view F2 ks hds), ?_⟩
          cases hrun : fn.run (d :: ds) none with
          | no => rw [hrun] at h2; exact h2.elim
          | ok d r' =>
            rw [hrun] at h2
            exact fun v H' sm rp => h2 H' (F2.same sm) (Same.exE sm) v ⟨rp.imp F2.odoS, fun _ => rp.imp fun a z => (e1.trans e2).fresh z⟩
          | ex x r' =>
            rw [hrun] at h2
            exact h2.elim
    | p i => exact h1.elim
    | io => exact h1.elim
  cases es with
  | nil =>
    refine PE.imp (pe_meth0 (dvs := []) (he o) k.hcls M F hr hbi .nil passL (meth_ev hb hl hn hz)) fun σ H Q h => ?_
    obtain ⟨O, S, row, F, h⟩ := core σ H Q h
    refine ⟨O, S, row, F, h.mono fun rv r1 H1 F1 e1 h1 v kv => ?_⟩
    obtain ⟨a, dx, fs, q1, q2, q3, O', S', row', F', h2⟩ := h1 v kv
    exact ⟨a, dx, fs, q1, q2, q3, h2 H1 F' ExE.refl [] .nil⟩
  | cons e es =>
    have hn2 : (nst e && nsts es) = true := hn
    rw [Bool.and_eq_true] at hn2
    exact PE.imp (pe_meth (dvs := []) (he o) k.hcls M F hr hbi .nil passL (s_args he (e :: es)) (nst_star hn2.1) (nsts_any hn2.2) (meth_ev hb hl hn hz)) core
/-- text.join(..) -/
theorem s_join (k : COk X C c W) {R : Evs} (he : ∀ e, PE X e (tE (rc X C) c B W (R.ev c e))) {o e : Expr} {apos pos : Pos} {m : Str} (hm : m = "join") (hl : oneLine apos pos = true) (hb : plainB o = true) (hn : nst e = true) :
    PE X (.Call (.Attribute o m apos) [e] [] pos) (tE (rc X C) c B W (joinM R c o e)) := by
  subst hm
  refine PE.imp (pe_m1 F.slot_str_join F.type_str_join (mt_joinD (C := C)) (he o) (he e) (nst_star hn) (base_of hb) hl) fun σ H Q ⟨O, S, row, F, h⟩ => ⟨O, S, row, F, h.bind.mono fun rv r1 H1 F1 e1 h1 v kv => ?_⟩
  split at h1
  · rename_i nw a
    refine ⟨⟨a, kv.1.str_inv⟩, O, S, r1, F1, h1.bind.mono fun rw r2 H2 F2 e2 h2 w kw => ?_⟩
    split at h2
    · rename_i y hy
      cases hj : joinD (.str a) y with
      | none => rw [hj] at h2; exact h2.elim
      | some d =>
        rw [hj] at h2
        exact ⟨w, .str a, y, d, rfl, (kv.keep e2 F.odo).1.imp fun _ _ => trivial, (kw.view F2 hy).t, hj, fun z hz => val_use h2 F2 hz⟩
    · exact h2.elim
  · exact h1.elim
theorem s_methE (k : COk X C c W) {R : Evs} (he : ∀ e, PE X e (tE (rc X C) c B W (R.ev c e))) (o : Expr) (m : Str) (apos pos : Pos) (es : List Expr) :
    PE X (.Call (.Attribute o m apos) es [] pos) (tE (rc X C) c B W (methE R c o m apos pos es)) := by
  unfold methE
  cases h : oneLine apos pos && plainB o with
  | false => exact tE_no
  | true =>
    rw [Bool.and_eq_true] at h
    cases hm : look m c.mts with
    | some fn =>
      dsimp only
      cases h2 : c.calm && notKept m && Nat.ble es.length 4 && nsts es with
      | false => exact tE_no
      | true =>
        simp only [Bool.and_eq_true] at h2
        exact s_houM k he h2.1.1.1 h.1 h.2 hm h2.1.1.2 (by have := Nat.le_of_ble_eq_true h2.1.2; omega) h2.2
    | none =>
      dsimp only
      split
      · rename_i e hj
        cases hn : nst e with
        | false => exact tE_no
        | true => exact s_join k he (seq_eq hj) h.1 h.2 hn
      · exact tE_no
theorem s_callE (k : COk X C c W) {R : Evs} (he : ∀ e, PE X e (tE (rc X C) c B W (R.ev c e))) (f : Str) (es : List Expr) {p pos : Pos} :
    PE X (.Call (.Name f p) es [] pos) (tE (rc X C) c B W (callE R c f es)) := by
  unfold callE
  cases hg : isGl c f with
  | false => exact tE_no
  | true =>
    dsimp only
    cases hl : look f c.fns with
    | some fn =>
      dsimp only
      split
      · rename_i e es' hc
        exact s_call k hc hg hl he e es'
      · exact tE_no
    | none =>
      dsimp only
      cases hm : look f c.mks with
      | some fn =>
        dsimp only
        split
        · rename_i e es' hc
          exact s_make k hg (k.mks hc f fn hm) he e es'
        · exact tE_no
      | none =>
        dsimp only
        unfold bltE
        split
        · rename_i a
          split
          · rename_i g hb
            exact s_blt1 k he hg a hb
          · exact tE_no
        · rename_i a b
          split
          · rename_i hi
            exact s_isi k he hi hg a b
          · split
            · rename_i g hb
              exact s_blt2 k he hg a b hb
            · exact tE_no
        · exact tE_no
end
end TH

set_option Elab.async false
set_option linter.all false
set_option maxRecDepth 100000
set_option maxHeartbeats 4000000
/-! DVZ: zip of two and of three lists or tuples (printed by gen_zip.py). -/
namespace TH
open PySem PySem.Spec PyProof.Rows L2
inductive Kd where
  | l | t
def SqX (K : PySem.W.Frag) : Kd → Hp → Addr → List V → Prop
  | .l, H, a, xs => SqL K H a xs
  | .t, H, a, xs => SqT K H a xs
def ItX (h : Heap) (it a : Addr) (i : Nat) : Kd → Prop
  | .l => h.IsListIter it a i
  | .t => h.IsTupleIter it a i
def IsX (h : Heap) (a : Addr) (its : Array Value) : Kd → Prop
  | .l => h.IsList a its
  | .t => h.IsTuple a its
def objX (a : Addr) : Kd → Obj
  | .l => { cls := .type "list_iterator", data := .fields #[.ref a, .int 0 0] }
  | .t => { cls := .type "tuple_iterator", data := .fields #[.ref a, .int 0 0] }
theorem ItX.obj {h : Heap} {it a : Addr} {i : Nat} : ∀ {k : Kd}, ItX h it a i k → ∃ o, h.get? it = some o ∧ ∀ v, o.data ≠ .cell v
  | .l, ⟨o, e, _, d⟩ => ⟨o, e, fun v q => by rw [d] at q; cases q⟩
  | .t, ⟨o, e, _, d⟩ => ⟨o, e, fun v q => by rw [d] at q; cases q⟩
theorem ItX.at {h h' : Heap} {it a : Addr} {i : Nat} : ∀ {k : Kd}, ItX h it a i k → (∀ o, h.get? it = some o → h'.get? it = some o) → ItX h' it a i k
  | .l, ⟨o, e, r⟩, k => ⟨o, k o e, r⟩
  | .t, ⟨o, e, r⟩, k => ⟨o, k o e, r⟩
theorem IsX.lt {h : Heap} {a : Addr} {its : Array Value} : ∀ {k : Kd}, IsX h a its k → a < h.objs.size
  | .l, ⟨o, e, r⟩ => Heap.lt_size e
  | .t, ⟨o, e, r⟩ => Heap.lt_size e
theorem drX {prog : Program} {w : World} {A : Around} : ∀ (k : Kd) (hh : A.handled = none) (it a : Addr) (hne : a ≠ it) (items : Array Value),
    Draws prog w A it [it, a] items.size (fun i v => items[i]? = some v) (fun i h => ItX h it a i k ∧ IsX h a items k)
  | .l, hh, it, a, hne, items => Draws.list hh it a hne items
  | .t, hh, it, a, hne, items => Draws.tuple hh it a hne items
theorem begX : ∀ (k : Kd) (a : Addr) (items : Array Value), Begins (.ref a) (objX a k) fun h => IsX h a items k
  | .l, a, items => begins_list a items
  | .t, a, items => begins_tuple a items
theorem itX0 {h : Heap} {it a : Addr} : ∀ {k : Kd}, h.get? it = some (objX a k) → ItX h it a 0 k
  | .l, e => ⟨_, e, rfl, rfl⟩
  | .t, e => ⟨_, e, rfl, rfl⟩
section
variable {X : Cx} {pins : List (Addr × Obj)} {σ : L2.St} {H : Hp} {s : Shared} {a : Addr} {xs ys : List V}
theorem _root_.L2.Inv.seqX (I : Inv X pins σ H s) : ∀ {k : Kd}, SqX X.K k H a xs → ∃ its : List Value, Vals xs its ∧ IsX s.heap a its.toArray k
  | .l, h => let ⟨its, rv, p, _⟩ := I.list h; ⟨its, rv, p.isList⟩
  | .t, h => let ⟨its, rv, p, _⟩ := I.tuple h; ⟨its, rv, p⟩
theorem _root_.L2.Inv.injX (I : Inv X pins σ H s) : ∀ {k : Kd}, SqX X.K k H a xs → SqX X.K k H a ys → xs = ys
  | .l, h, h' => I.list_inj h h'
  | .t, h, h' => I.tuple_inj h h'
end
theorem vals_refs2 {a1 a2 : Addr} {us : List Value} (r : Vals [.ref a1, .ref a2] us) : us = [.ref a1, .ref a2] := by
  cases r with
  | cons r1 rr =>
    cases rr with
    | cons r2 rr =>
      cases rr
      cases r1
      cases r2
      rfl
theorem vals_refs3 {a1 a2 a3 : Addr} {us : List Value} (r : Vals [.ref a1, .ref a2, .ref a3] us) : us = [.ref a1, .ref a2, .ref a3] := by
  cases r with
  | cons r1 rr =>
    cases rr with
    | cons r2 rr =>
      cases rr with
      | cons r3 rr =>
        cases rr
        cases r1
        cases r2
        cases r3
        rfl
theorem neZ {N a j : Nat} (h : a < N) : a ≠ N + j := by omega
theorem sepZ2 {N a1 a2 : Nat} (l1 : a1 < N) (l2 : a2 < N) : ZipSep2 (N + 4) (N + 2) (N + 3) N (N + 1) [N, a1] [N + 1, a2] :=
  zip_sep2 (fp1 := [a1]) (fp2 := [a2]) (fun b hb => by rw [List.mem_singleton.mp hb]; exact l1) (fun b hb => by rw [List.mem_singleton.mp hb]; exact l2)
theorem sepZ3 {N a1 a2 a3 : Nat} (l1 : a1 < N) (l2 : a2 < N) (l3 : a3 < N) : ZipSep3 (N + 5) (N + 3) (N + 4) N (N + 1) (N + 2) [N, a1] [N + 1, a2] [N + 2, a3] :=
  zip_sep3 (fp1 := [a1]) (fp2 := [a2]) (fp3 := [a3]) (fun b hb => by rw [List.mem_singleton.mp hb]; exact l1) (fun b hb => by rw [List.mem_singleton.mp hb]; exact l2) (fun b hb => by rw [List.mem_singleton.mp hb]; exact l3)

def Itz2 (K : PySem.W.Frag) (k1 k2 : Kd) (a1 a2 : Addr) : It :=
  ⟨fun i H => ∃ (xs1 xs2 : List V) (x1 x2 : V), SqX K k1 H a1 xs1 ∧ xs1[i]? = some x1 ∧ SqX K k2 H a2 xs2 ∧ xs2[i]? = some x2,
    fun i H v H' => ∃ (T : Addr) (x1 x2 : V), v = .ref T ∧ H T = none ∧ H' = upd H T (.tup [x1, x2]) ∧ (∀ xs, SqX K k1 H a1 xs → xs[i]? = some x1) ∧ (∀ xs, SqX K k2 H a2 xs → xs[i]? = some x2),
    fun i H => ∃ (xs1 xs2 : List V), SqX K k1 H a1 xs1 ∧ i ≤ xs1.length ∧ SqX K k2 H a2 xs2 ∧ i ≤ xs2.length ∧ (i = xs1.length ∨ i = xs2.length)⟩
theorem turn_z2 {P : Program} {w : World} {K : PySem.W.Frag} {elts : List Expr} {kk : Nat} {tpos : Pos} {k1 k2 : Kd} {a1 a2 z TI TO i1 i2 : Addr} (D : ZipSep2 z TI TO i1 i2 [i1, a1] [i2, a2]) (n1 : a1 ≠ i1) (n2 : a2 ≠ i2) :
    Turn P w K (.Tuple elts kk tpos) (Itz2 K k1 k2 a1 a2) [z, TI, TO, i1, i2] z (fun i h => IsZip h z TI TO .none ∧ IsTupOf2 h TI (.ref i1) (.ref i2) ∧ (∃ x1 x2, IsTupOf2 h TO x1 x2) ∧ ItX h i1 a1 i k1 ∧ ItX h i2 a2 i k2) where
  mem := by simp
  obj := fun i h st c hc => by
    obtain ⟨hz, hTI, ⟨x1, x2, hTO⟩, h1, h2⟩ := st
    have e' : c = z ∨ c = TI ∨ c = TO ∨ c = i1 ∨ c = i2 := by simpa using hc
    rcases e' with q | q | q | q | q
    · rw [q]; exact ⟨_, hz, fun v q => nomatch q⟩
    · rw [q]; exact ⟨_, hTI, fun v q => nomatch q⟩
    · rw [q]; exact ⟨_, hTO, fun v q => nomatch q⟩
    · rw [q]; exact h1.obj
    · rw [q]; exact h2.obj
  keep := fun i h h' st k => by
    obtain ⟨hz, hTI, ⟨x1, x2, hTO⟩, h1, h2⟩ := st
    exact ⟨k z (by simp) _ hz, k TI (by simp) _ hTI, ⟨x1, x2, k TO (by simp) _ hTO⟩, h1.at fun o q => k i1 (by simp) o q, h2.at fun o q => k i2 (by simp) o q⟩
  item := by
    intro X hP hw hK hc i pins s σ H E I hf st hg
    subst hP hw hK
    obtain ⟨hz, hTI, ⟨w1, w2, hTO⟩, h1, h2⟩ := st
    obtain ⟨xs1, xs2, x1, x2, q1, g1, q2, g2⟩ := hg
    obtain ⟨its1, rv1, p1⟩ := I.seqX q1
    obtain ⟨u1, hu1, ru1⟩ := rv1.get g1
    obtain ⟨its2, rv2, p2⟩ := I.seqX q2
    obtain ⟨u2, hu2, ru2⟩ := rv2.get g2
    have hzl : z < s.heap.objs.size := Heap.lt_size hz
    have hhd : X.A.in1.handled = none := I.ok.hd hc
    have l1 : i < its1.toArray.size := by rw [List.size_toArray]; exact (List.getElem?_eq_some_iff.mp hu1).1
    have l2 : i < its2.toArray.size := by rw [List.size_toArray]; exact (List.getElem?_eq_some_iff.mp hu2).1
    refine wpAny_pyNext_zipD2_item D (drX k1 hhd i1 a1 n1 its1.toArray) (drX k2 hhd i2 a2 n2 its2.toArray) hz hTI hTO ⟨h1, p1⟩ ⟨h2, p2⟩ l1 l2 fun y1 y2 h' tk e1 e2 z' TO' s1 s2 hT hsz hk => ?_
    refine ⟨_, rfl, wpAny_letOwnedTupleGo_zip (s := { s with heap := h', toks := tk }) z' fun h'' z'' sb => ?_⟩
    have ey1 : y1 = u1 := by have e : its1.toArray[i]? = some y1 := e1; rw [List.getElem?_toArray, hu1] at e; exact (Option.some.inj e).symm
    subst ey1
    have ey2 : y2 = u2 := by have e : its2.toArray[i]? = some y2 := e2; rw [List.getElem?_toArray, hu2] at e; exact (Option.some.inj e).symm
    subst ey2
    have hT2 : h''.get? s.heap.objs.size = some { cls := .type "tuple", data := .seq #[y1, y2] } := (sb.2 _ (Nat.ne_of_gt hzl)).trans hT
    have new : ObjOk X.prog X.w (upd H s.heap.objs.size (.tup [x1, x2])) h'' s.heap.objs.size (.tup [x1, x2]) :=
      ⟨by show 2 ≤ sizeLine; rw [sizeLine_eq]; decide, [y1, y2], .cons ru1 (.cons ru2 (.nil)), ⟨_, hT2, rfl, _, rfl⟩⟩
    have I1 : Inv X pins σ (upd H s.heap.objs.size (.tup [x1, x2])) { s with heap := h'', toks := tk } :=
      I.turnedNew (t' := tk) (ch := [z, TI, TO, i1, i2]) (fun c o hb q => (sb.2 c (fun q' => hb (by simp [q']))).trans (hk c o (fun q' => hb (by simp [q'])) (fun q' => hb (by simp [q'])) (fun q' => hb (by simp [q'])) (fun q' => hb (by simp [q'])) q)) hf (Nat.le_refl _) new
    refine ⟨.ref s.heap.objs.size, _, I1, rfl, ⟨_, x1, x2, rfl, I.hok.fresh (Nat.le_refl _), rfl, fun l hl => by rw [I.injX hl q1]; exact g1, fun l hl => by rw [I.injX hl q2]; exact g2⟩, ⟨z'', ?_, ⟨y1, y2, ?_⟩, ?_, ?_⟩, fun c hcm => ?_⟩
    · exact (sb.2 _ D.TIz).trans (hk _ _ D.TIz D.TITO D.TIi1 D.TIi2 hTI)
    · exact (sb.2 _ D.TOz).trans TO'
    · exact s1.1.at fun o q => (sb.2 _ D.zi1.symm).trans q
    · exact s2.1.at fun o q => (sb.2 _ D.zi2.symm).trans q
    · have hlt : c < s.heap.objs.size := by
        have e' : c = z ∨ c = TI ∨ c = TO ∨ c = i1 ∨ c = i2 := by simpa using hcm
        rcases e' with q | q | q | q | q
        · rw [q]; exact hzl
        · rw [q]; exact Heap.lt_size hTI
        · rw [q]; exact Heap.lt_size hTO
        · rw [q]; obtain ⟨o, e, _⟩ := h1.obj; exact Heap.lt_size e
        · rw [q]; obtain ⟨o, e, _⟩ := h2.obj; exact Heap.lt_size e
      rw [upd_ne (Nat.ne_of_lt hlt)]
      exact (hf c hcm).1
  done := by
    intro X hP hw hK hc i pins s σ H E I hf st hg
    subst hP hw hK
    obtain ⟨hz, hTI, ⟨w1, w2, hTO⟩, h1, h2⟩ := st
    obtain ⟨xs1, xs2, q1, g1, q2, g2, hend⟩ := hg
    obtain ⟨its1, rv1, p1⟩ := I.seqX q1
    have z1 : its1.toArray.size = xs1.length := by rw [List.size_toArray, rv1.length]
    obtain ⟨its2, rv2, p2⟩ := I.seqX q2
    have z2 : its2.toArray.size = xs2.length := by rw [List.size_toArray, rv2.length]
    have hhd : X.A.in1.handled = none := I.ok.hd hc
    refine wpAny_pyNext_zipD2_end D (drX k1 hhd i1 a1 n1 its1.toArray) (drX k2 hhd i2 a2 n2 its2.toArray) hz hTI hTO ⟨h1, p1⟩ ⟨h2, p2⟩ (by rw [z1]; exact g1) (by rw [z2]; exact g2) (by rw [z1, z2]; exact hend) fun h' tk hk => ?_
    exact ⟨rfl, I.turnedL (t' := tk) (ch := [z, TI, TO, i1, i2]) (fun c o hb q =>
      hk c o (fun q' => hb (by simp [q'])) (fun q' => hb (by simp [q'])) (fun q' => hb (by simp [q'])) (fun q' => hb (by simp [q'])) q) hf⟩
  self := fun A i s Q E st h => wpAny_pyIter_zip st.1 h
def iZip2 (K : PySem.W.Frag) (ta : TA) : TI := fun σ H R => ta σ H fun vs H1 => ∃ (a1 a2 : Addr) (k1 k2 : Kd) (xs1 xs2 : List V), vs = [.ref a1, .ref a2] ∧ SqX K k1 H1 a1 xs1 ∧ SqX K k2 H1 a2 xs2 ∧ R (Itz2 K k1 k2 a1 a2) H1
theorem pi_z2 {X : Cx} {e1 e2 : Expr} {ta : TA} {p pos tpos : Pos} {elts : List Expr} {kk : Nat} (hg : Gl X "zip") (hm : X.mg "zip" = none) (ha : PA X [e1, e2] ta)
    (hs : starEach [e1, e2] X.env = (false, eval e1 X.env) :: starEach [e2] X.env) (hpl : (backTo pos (starEach [e2] X.env)).any (·.1) = false) :
    PI X (.Tuple elts kk tpos) (.Call (.Name "zip" p) [e1, e2] [] pos) (iZip2 X.K ta) := by
  refine ⟨fun pins s σ H R I h => ?_⟩
  refine Call_ (ld_blt I hg hm PyProof.Rows.boot_zip (PyProof.Rows.callWith_type1 (thn (ha.run pos pins s σ H _ I h) fun us s1 ⟨vs, H1, I1, r1, qq⟩ => ?_) hs hpl))
  obtain ⟨a1, a2, k1, k2, xs1, xs2, ex, q1, q2, q⟩ := qq
  subst ex
  obtain ⟨us0, eus, t1, t2⟩ : ∃ _u : Unit, us = [.ref a1, .ref a2] ∧ True ∧ True := ⟨(), vals_refs2 r1, trivial, trivial⟩
  subst eus
  obtain ⟨its1, rv1, p1⟩ := I1.seqX q1
  have lt1 : a1 < s1.heap.objs.size := p1.lt
  obtain ⟨its2, rv2, p2⟩ := I1.seqX q2
  have lt2 : a2 < s1.heap.objs.size := p2.lt
  have fresh5 : ∀ c, c ∈ [s1.heap.objs.size + 4, s1.heap.objs.size + 2, s1.heap.objs.size + 3, s1.heap.objs.size, s1.heap.objs.size + 1] → FpOk X pins H1 c := fun c hcm => by
    have hle : s1.heap.objs.size ≤ c := by
      have e' : c = s1.heap.objs.size + 4 ∨ c = s1.heap.objs.size + 2 ∨ c = s1.heap.objs.size + 3 ∨ c = s1.heap.objs.size ∨ c = s1.heap.objs.size + 1 := by simpa using hcm
      rcases e' with e | e | e | e | e
      · rw [e]; exact Nat.le_add_right _ _
      · rw [e]; exact Nat.le_add_right _ _
      · rw [e]; exact Nat.le_add_right _ _
      · rw [e]; exact Nat.le_refl _
      · rw [e]; exact Nat.le_add_right _ _
    exact I1.fpOk hle (I1.hok.fresh hle)
  refine zip_begins2 (begX k1 a1 its1.toArray) (begX k2 a2 its2.toArray) p1 p2 fun h' hz hTI hTO h1 h2 hsz hk => wpAny_pyIter_zip hz ?_
  have I2 : Inv X pins σ H1 { s1 with heap := h' } := I1.kept (t' := s1.toks) hk
  exact ⟨s1.heap.objs.size + 4, [s1.heap.objs.size + 4, s1.heap.objs.size + 2, s1.heap.objs.size + 3, s1.heap.objs.size, s1.heap.objs.size + 1], _, _, H1, rfl, I2, turn_z2 (sepZ2 lt1 lt2) (Nat.ne_of_lt lt1) (neZ lt2), ⟨hz, hTI, ⟨_, _, hTO⟩, itX0 h1, itX0 h2⟩, fresh5, q⟩
def Itz3 (K : PySem.W.Frag) (k1 k2 k3 : Kd) (a1 a2 a3 : Addr) : It :=
  ⟨fun i H => ∃ (xs1 xs2 xs3 : List V) (x1 x2 x3 : V), SqX K k1 H a1 xs1 ∧ xs1[i]? = some x1 ∧ SqX K k2 H a2 xs2 ∧ xs2[i]? = some x2 ∧ SqX K k3 H a3 xs3 ∧ xs3[i]? = some x3,
    fun i H v H' => ∃ (T : Addr) (x1 x2 x3 : V), v = .ref T ∧ H T = none ∧ H' = upd H T (.tup [x1, x2, x3]) ∧ (∀ xs, SqX K k1 H a1 xs → xs[i]? = some x1) ∧ (∀ xs, SqX K k2 H a2 xs → xs[i]? = some x2) ∧ (∀ xs, SqX K k3 H a3 xs → xs[i]? = some x3),
    fun i H => ∃ (xs1 xs2 xs3 : List V), SqX K k1 H a1 xs1 ∧ i ≤ xs1.length ∧ SqX K k2 H a2 xs2 ∧ i ≤ xs2.length ∧ SqX K k3 H a3 xs3 ∧ i ≤ xs3.length ∧ (i = xs1.length ∨ i = xs2.length ∨ i = xs3.length)⟩
theorem turn_z3 {P : Program} {w : World} {K : PySem.W.Frag} {elts : List Expr} {kk : Nat} {tpos : Pos} {k1 k2 k3 : Kd} {a1 a2 a3 z TI TO i1 i2 i3 : Addr} (D : ZipSep3 z TI TO i1 i2 i3 [i1, a1] [i2, a2] [i3, a3]) (n1 : a1 ≠ i1) (n2 : a2 ≠ i2) (n3 : a3 ≠ i3) :
    Turn P w K (.Tuple elts kk tpos) (Itz3 K k1 k2 k3 a1 a2 a3) [z, TI, TO, i1, i2, i3] z (fun i h => IsZip h z TI TO .none ∧ IsTupOf3 h TI (.ref i1) (.ref i2) (.ref i3) ∧ (∃ x1 x2 x3, IsTupOf3 h TO x1 x2 x3) ∧ ItX h i1 a1 i k1 ∧ ItX h i2 a2 i k2 ∧ ItX h i3 a3 i k3) where
  mem := by simp
  obj := fun i h st c hc => by
    obtain ⟨hz, hTI, ⟨x1, x2, x3, hTO⟩, h1, h2, h3⟩ := st
    have e' : c = z ∨ c = TI ∨ c = TO ∨ c = i1 ∨ c = i2 ∨ c = i3 := by simpa using hc
    rcases e' with q | q | q | q | q | q
    · rw [q]; exact ⟨_, hz, fun v q => nomatch q⟩
    · rw [q]; exact ⟨_, hTI, fun v q => nomatch q⟩
    · rw [q]; exact ⟨_, hTO, fun v q => nomatch q⟩
    · rw [q]; exact h1.obj
    · rw [q]; exact h2.obj
    · rw [q]; exact h3.obj
  keep := fun i h h' st k => by
    obtain ⟨hz, hTI, ⟨x1, x2, x3, hTO⟩, h1, h2, h3⟩ := st
    exact ⟨k z (by simp) _ hz, k TI (by simp) _ hTI, ⟨x1, x2, x3, k TO (by simp) _ hTO⟩, h1.at fun o q => k i1 (by simp) o q, h2.at fun o q => k i2 (by simp) o q, h3.at fun o q => k i3 (by simp) o q⟩
  item := by
    intro X hP hw hK hc i pins s σ H E I hf st hg
    subst hP hw hK
    obtain ⟨hz, hTI, ⟨w1, w2, w3, hTO⟩, h1, h2, h3⟩ := st
    obtain ⟨xs1, xs2, xs3, x1, x2, x3, q1, g1, q2, g2, q3, g3⟩ := hg
    obtain ⟨its1, rv1, p1⟩ := I.seqX q1
    obtain ⟨u1, hu1, ru1⟩ := rv1.get g1
    obtain ⟨its2, rv2, p2⟩ := I.seqX q2
    obtain ⟨u2, hu2, ru2⟩ := rv2.get g2
    obtain ⟨its3, rv3, p3⟩ := I.seqX q3
    obtain ⟨u3, hu3, ru3⟩ := rv3.get g3
    have hzl : z < s.heap.objs.size := Heap.lt_size hz
    have hhd : X.A.in1.handled = none := I.ok.hd hc
    have l1 : i < its1.toArray.size := by rw [List.size_toArray]; exact (List.getElem?_eq_some_iff.mp hu1).1
    have l2 : i < its2.toArray.size := by rw [List.size_toArray]; exact (List.getElem?_eq_some_iff.mp hu2).1
    have l3 : i < its3.toArray.size := by rw [List.size_toArray]; exact (List.getElem?_eq_some_iff.mp hu3).1
    refine wpAny_pyNext_zipD3_item D (drX k1 hhd i1 a1 n1 its1.toArray) (drX k2 hhd i2 a2 n2 its2.toArray) (drX k3 hhd i3 a3 n3 its3.toArray) hz hTI hTO ⟨h1, p1⟩ ⟨h2, p2⟩ ⟨h3, p3⟩ l1 l2 l3 fun y1 y2 y3 h' tk e1 e2 e3 z' TO' s1 s2 s3 hT hsz hk => ?_
    refine ⟨_, rfl, wpAny_letOwnedTupleGo_zip (s := { s with heap := h', toks := tk }) z' fun h'' z'' sb => ?_⟩
    have ey1 : y1 = u1 := by have e : its1.toArray[i]? = some y1 := e1; rw [List.getElem?_toArray, hu1] at e; exact (Option.some.inj e).symm
    subst ey1
    have ey2 : y2 = u2 := by have e : its2.toArray[i]? = some y2 := e2; rw [List.getElem?_toArray, hu2] at e; exact (Option.some.inj e).symm
    subst ey2
    have ey3 : y3 = u3 := by have e : its3.toArray[i]? = some y3 := e3; rw [List.getElem?_toArray, hu3] at e; exact (Option.some.inj e).symm
    subst ey3
    have hT2 : h''.get? s.heap.objs.size = some { cls := .type "tuple", data := .seq #[y1, y2, y3] } := (sb.2 _ (Nat.ne_of_gt hzl)).trans hT
    have new : ObjOk X.prog X.w (upd H s.heap.objs.size (.tup [x1, x2, x3])) h'' s.heap.objs.size (.tup [x1, x2, x3]) :=
      ⟨by show 3 ≤ sizeLine; rw [sizeLine_eq]; decide, [y1, y2, y3], .cons ru1 (.cons ru2 (.cons ru3 (.nil))), ⟨_, hT2, rfl, _, rfl⟩⟩
    have I1 : Inv X pins σ (upd H s.heap.objs.size (.tup [x1, x2, x3])) { s with heap := h'', toks := tk } :=
      I.turnedNew (t' := tk) (ch := [z, TI, TO, i1, i2, i3]) (fun c o hb q => (sb.2 c (fun q' => hb (by simp [q']))).trans (hk c o (fun q' => hb (by simp [q'])) (fun q' => hb (by simp [q'])) (fun q' => hb (by simp [q'])) (fun q' => hb (by simp [q'])) (fun q' => hb (by simp [q'])) q)) hf (Nat.le_refl _) new
    refine ⟨.ref s.heap.objs.size, _, I1, rfl, ⟨_, x1, x2, x3, rfl, I.hok.fresh (Nat.le_refl _), rfl, fun l hl => by rw [I.injX hl q1]; exact g1, fun l hl => by rw [I.injX hl q2]; exact g2, fun l hl => by rw [I.injX hl q3]; exact g3⟩, ⟨z'', ?_, ⟨y1, y2, y3, ?_⟩, ?_, ?_, ?_⟩, fun c hcm => ?_⟩
    · exact (sb.2 _ D.TIz).trans (hk _ _ D.TIz D.TITO D.TIi1 D.TIi2 D.TIi3 hTI)
    · exact (sb.2 _ D.TOz).trans TO'
    · exact s1.1.at fun o q => (sb.2 _ D.zi1.symm).trans q
    · exact s2.1.at fun o q => (sb.2 _ D.zi2.symm).trans q
    · exact s3.1.at fun o q => (sb.2 _ D.zi3.symm).trans q
    · have hlt : c < s.heap.objs.size := by
        have e' : c = z ∨ c = TI ∨ c = TO ∨ c = i1 ∨ c = i2 ∨ c = i3 := by simpa using hcm
        rcases e' with q | q | q | q | q | q
        · rw [q]; exact hzl
        · rw [q]; exact Heap.lt_size hTI
        · rw [q]; exact Heap.lt_size hTO
        · rw [q]; obtain ⟨o, e, _⟩ := h1.obj; exact Heap.lt_size e
        · rw [q]; obtain ⟨o, e, _⟩ := h2.obj; exact Heap.lt_size e
        · rw [q]; obtain ⟨o, e, _⟩ := h3.obj; exact Heap.lt_size e
      rw [upd_ne (Nat.ne_of_lt hlt)]
      exact (hf c hcm).1
  done := by
    intro X hP hw hK hc i pins s σ H E I hf st hg
    subst hP hw hK
    obtain ⟨hz, hTI, ⟨w1, w2, w3, hTO⟩, h1, h2, h3⟩ := st
    obtain ⟨xs1, xs2, xs3, q1, g1, q2, g2, q3, g3, hend⟩ := hg
    obtain ⟨its1, rv1, p1⟩ := I.seqX q1
    have z1 : its1.toArray.size = xs1.length := by rw [List.size_toArray, rv1.length]
    obtain ⟨its2, rv2, p2⟩ := I.seqX q2
    have z2 : its2.toArray.size = xs2.length := by rw [List.size_toArray, rv2.length]
    obtain ⟨its3, rv3, p3⟩ := I.seqX q3
    have z3 : its3.toArray.size = xs3.length := by rw [List.size_toArray, rv3.length]
    have hhd : X.A.in1.handled = none := I.ok.hd hc
    refine wpAny_pyNext_zipD3_end D (drX k1 hhd i1 a1 n1 its1.toArray) (drX k2 hhd i2 a2 n2 its2.toArray) (drX k3 hhd i3 a3 n3 its3.toArray) hz hTI hTO ⟨h1, p1⟩ ⟨h2, p2⟩ ⟨h3, p3⟩ (by rw [z1]; exact g1) (by rw [z2]; exact g2) (by rw [z3]; exact g3) (by rw [z1, z2, z3]; exact hend) fun h' tk hk => ?_
    exact ⟨rfl, I.turnedL (t' := tk) (ch := [z, TI, TO, i1, i2, i3]) (fun c o hb q =>
      hk c o (fun q' => hb (by simp [q'])) (fun q' => hb (by simp [q'])) (fun q' => hb (by simp [q'])) (fun q' => hb (by simp [q'])) (fun q' => hb (by simp [q'])) q) hf⟩
  self := fun A i s Q E st h => wpAny_pyIter_zip st.1 h
def iZip3 (K : PySem.W.Frag) (ta : TA) : TI := fun σ H R => ta σ H fun vs H1 => ∃ (a1 a2 a3 : Addr) (k1 k2 k3 : Kd) (xs1 xs2 xs3 : List V), vs = [.ref a1, .ref a2, .ref a3] ∧ SqX K k1 H1 a1 xs1 ∧ SqX K k2 H1 a2 xs2 ∧ SqX K k3 H1 a3 xs3 ∧ R (Itz3 K k1 k2 k3 a1 a2 a3) H1
theorem pi_z3 {X : Cx} {e1 e2 e3 : Expr} {ta : TA} {p pos tpos : Pos} {elts : List Expr} {kk : Nat} (hg : Gl X "zip") (hm : X.mg "zip" = none) (ha : PA X [e1, e2, e3] ta)
    (hs : starEach [e1, e2, e3] X.env = (false, eval e1 X.env) :: starEach [e2, e3] X.env) (hpl : (backTo pos (starEach [e2, e3] X.env)).any (·.1) = false) :
    PI X (.Tuple elts kk tpos) (.Call (.Name "zip" p) [e1, e2, e3] [] pos) (iZip3 X.K ta) := by
  refine ⟨fun pins s σ H R I h => ?_⟩
  refine Call_ (ld_blt I hg hm PyProof.Rows.boot_zip (PyProof.Rows.callWith_type1 (thn (ha.run pos pins s σ H _ I h) fun us s1 ⟨vs, H1, I1, r1, qq⟩ => ?_) hs hpl))
  obtain ⟨a1, a2, a3, k1, k2, k3, xs1, xs2, xs3, ex, q1, q2, q3, q⟩ := qq
  subst ex
  obtain ⟨us0, eus, t1, t2, t3⟩ : ∃ _u : Unit, us = [.ref a1, .ref a2, .ref a3] ∧ True ∧ True ∧ True := ⟨(), vals_refs3 r1, trivial, trivial, trivial⟩
  subst eus
  obtain ⟨its1, rv1, p1⟩ := I1.seqX q1
  have lt1 : a1 < s1.heap.objs.size := p1.lt
  obtain ⟨its2, rv2, p2⟩ := I1.seqX q2
  have lt2 : a2 < s1.heap.objs.size := p2.lt
  obtain ⟨its3, rv3, p3⟩ := I1.seqX q3
  have lt3 : a3 < s1.heap.objs.size := p3.lt
  have fresh5 : ∀ c, c ∈ [s1.heap.objs.size + 5, s1.heap.objs.size + 3, s1.heap.objs.size + 4, s1.heap.objs.size, s1.heap.objs.size + 1, s1.heap.objs.size + 2] → FpOk X pins H1 c := fun c hcm => by
    have hle : s1.heap.objs.size ≤ c := by
      have e' : c = s1.heap.objs.size + 5 ∨ c = s1.heap.objs.size + 3 ∨ c = s1.heap.objs.size + 4 ∨ c = s1.heap.objs.size ∨ c = s1.heap.objs.size + 1 ∨ c = s1.heap.objs.size + 2 := by simpa using hcm
      rcases e' with e | e | e | e | e | e
      · rw [e]; exact Nat.le_add_right _ _
      · rw [e]; exact Nat.le_add_right _ _
      · rw [e]; exact Nat.le_add_right _ _
      · rw [e]; exact Nat.le_refl _
      · rw [e]; exact Nat.le_add_right _ _
      · rw [e]; exact Nat.le_add_right _ _
    exact I1.fpOk hle (I1.hok.fresh hle)
  refine zip_begins3 (begX k1 a1 its1.toArray) (begX k2 a2 its2.toArray) (begX k3 a3 its3.toArray) p1 p2 p3 fun h' hz hTI hTO h1 h2 h3 hsz hk => wpAny_pyIter_zip hz ?_
  have I2 : Inv X pins σ H1 { s1 with heap := h' } := I1.kept (t' := s1.toks) hk
  exact ⟨s1.heap.objs.size + 5, [s1.heap.objs.size + 5, s1.heap.objs.size + 3, s1.heap.objs.size + 4, s1.heap.objs.size, s1.heap.objs.size + 1, s1.heap.objs.size + 2], _, _, H1, rfl, I2, turn_z3 (sepZ3 lt1 lt2 lt3) (Nat.ne_of_lt lt1) (neZ lt2) (neZ lt3), ⟨hz, hTI, ⟨_, _, _, hTO⟩, itX0 h1, itX0 h2, itX0 h3⟩, fresh5, q⟩
end TH

set_option Elab.async false
set_option linter.all false
set_option maxRecDepth 100000
set_option maxHeartbeats 4000000
/-! DV10: what is walked. -/
namespace TH
open PySem PySem.Spec PyProof.Rows L2
/-- J yields ds where G stands -/
def ItOk (R : RC) (G : Hp → Prop) (P : Addr → Prop) (J : It) (ds : List D) : Prop := ∀ i H, G H →
  (∀ d, ds[i]? = some d → J.go i H ∧ ∀ x H', J.yld i H x H' → Same H H' ∧ Rp R P H' x d) ∧ (i = ds.length → J.stop i H)
def ItV (R : RC) (c : Ctx) (O : List Addr) (S : Env) (σ : L2.St) (H' : Hp) (p : List D × Option Nat) (J : It) : Prop := match p.2 with
  | none => ItOk R (fun H2 => Ext O H' H2) (fun a => a ∉ O ∧ ∃ o, H' a = some o) J p.1
  | some i => isOwn c i = true ∧ S[i]? = some (some (.lst p.1)) ∧ ∃ a, σ[i]? = some (some (.ref a)) ∧ J = Itl R.K a
def tI (R : RC) (c : Ctx) (B : Bg) (W : WX) (f : Env → Row → Out (List D × Option Nat)) : TI := fun σ H Q => ∃ O S row, Fr R c B O S row σ H ∧
  OutP R c B W O S σ H (f S row) fun p _ H' => ∀ J, ItV R c O S σ H' p J → Q J H'
theorem PI.imp {X : Cx} {tg e : Expr} {t t' : TI} (h : PI X tg e t) (k : ∀ σ H Q, t' σ H Q → t σ H Q) : PI X tg e t' := ⟨fun pins s σ H Q I q => h.run pins s σ H Q I (k _ _ _ q)⟩
theorem tI_no {R : RC} {X : Cx} {c : Ctx} {W : WX} {B : Bg} {tg e : Expr} : PI X tg e (tI R c B W fun _ _ => .no) := ⟨fun _ _ _ _ _ _ ⟨_, _, _, _, h⟩ => h.elim⟩

section
variable {X : Cx} {C : Cn} {c : Ctx} {W : WX} {B : Bg} {R : RC} {O : List Addr} {H : Hp}
theorem it_list {G : Hp → Prop} {P : Addr → Prop} {a : Addr} {ds : List D} (h : ∀ H, G H → ∃ xs, H a = some (.lst xs) ∧ Rps R P H xs ds) : ItOk R G P (Itl R.K a) ds := fun i H g => by
  obtain ⟨xs, h1, r⟩ := h H g
  refine ⟨fun d hd => ?_, fun hi => ⟨xs, .of h1, by rw [r.length]; exact Nat.le_of_eq hi.symm⟩⟩
  obtain ⟨v, hv, rv⟩ := r.get hd
  refine ⟨⟨xs, v, .of h1, hv⟩, fun x H' y => ?_⟩
  obtain ⟨e, y⟩ := y
  subst e
  have q := y xs (.of h1)
  rw [hv] at q
  cases q
  exact ⟨Same.refl _, rv⟩
theorem it_tup {G : Hp → Prop} {P : Addr → Prop} {a : Addr} {ds : List D} (h : ∀ H, G H → ∃ xs, SqT R.K H a xs ∧ Rps R P H xs ds) : ItOk R G P (Itt R.K a) ds := fun i H g => by
  obtain ⟨xs, h1, r⟩ := h H g
  refine ⟨fun d hd => ?_, fun hi => ⟨xs, h1, by rw [r.length]; exact Nat.le_of_eq hi.symm⟩⟩
  obtain ⟨v, hv, rv⟩ := r.get hd
  refine ⟨⟨xs, v, h1, hv⟩, fun x H' y => ?_⟩
  obtain ⟨e, y⟩ := y
  subst e
  have q := y xs h1
  rw [hv] at q
  cases q
  exact ⟨Same.refl _, rv⟩
theorem it_str {G : Hp → Prop} {P : Addr → Prop} {x : Str} : ItOk R G P (Its x) (x.cps.toList.map one1) := fun i H g => by
  refine ⟨fun d hd => ?_, fun hi => by show x.cps.size ≤ i; rw [hi]; simp⟩
  rw [List.getElem?_map, Option.map_eq_some_iff] at hd
  obtain ⟨z, h1, h2⟩ := hd
  subst h2
  have h3 : x.cps[i]? = some z := by simpa using h1
  refine ⟨(Array.getElem?_eq_some_iff.mp h3).1, fun v H' y => ?_⟩
  obtain ⟨e, z', h4, e2⟩ := y
  subst e e2
  rw [h3] at h4
  cases h4
  exact ⟨Same.refl _, .str _⟩
theorem rng_get {lo hi : Int} {i : Nat} {d : D} (h : (rng lo hi)[i]? = some d) : i < (hi - lo).toNat ∧ d = .int (lo + (i : Int)) := by
  unfold rng at h
  rw [List.getElem?_map, Option.map_eq_some_iff] at h
  obtain ⟨z, h1, h2⟩ := h
  rw [List.getElem?_eq_some_iff] at h1
  obtain ⟨h3, h4⟩ := h1
  rw [List.length_range] at h3
  rw [List.getElem_range] at h4
  subst h4
  exact ⟨h3, h2.symm⟩
theorem it_rng {G : Hp → Prop} {P : Addr → Prop} {lo hi : Int} : ItOk R G P (Itr lo (hi - lo).toNat) (rng lo hi) := fun i H g => by
  refine ⟨fun d hd => ?_, fun h => by show (hi - lo).toNat ≤ i; rw [h]; unfold rng; rw [List.length_map, List.length_range]; exact Nat.le_refl _⟩
  obtain ⟨h1, h2⟩ := rng_get hd
  subst h2
  refine ⟨h1, fun x H' y => ?_⟩
  obtain ⟨e, e2⟩ := y
  subst e e2
  exact ⟨Same.refl _, .int _⟩
theorem enum_get : ∀ {ds : List D} {n i : Nat} {d : D}, (enumD n ds)[i]? = some d → ∃ z, ds[i]? = some z ∧ d = .tup [.int ((n + i : Nat) : Int), z]
  | [], _, _, _, h => by simp [enumD] at h
  | z :: ds, n, 0, d, h => by
    have e : some (D.tup [.int (n : Int), z]) = some d := h
    cases e
    exact ⟨z, rfl, rfl⟩
  | z :: ds, n, i + 1, d, h => by
    have h2 : (enumD (n + 1) ds)[i]? = some d := h
    obtain ⟨w, h3, h4⟩ := enum_get h2
    refine ⟨w, h3, ?_⟩
    rw [h4]
    have e : n + 1 + i = n + (i + 1) := by omega
    rw [e]
theorem enum_len : ∀ {ds : List D} {n : Nat}, (enumD n ds).length = ds.length
  | [], _ => rfl
  | _ :: ds, n => congrArg (· + 1) (enum_len (ds := ds) (n := n + 1))
theorem it_enum {G : Hp → Prop} {P : Addr → Prop} {a : Addr} {ds : List D} (h : ∀ H, G H → ∃ xs, H a = some (.lst xs) ∧ Rps R P H xs ds) : ItOk R G P (Ite R.K a) (enumD 0 ds) := fun i H g => by
  obtain ⟨xs, h1, r⟩ := h H g
  refine ⟨fun d hd => ?_, fun hi => ⟨xs, .of h1, by rw [r.length, ← enum_len (n := 0)]; exact Nat.le_of_eq hi.symm⟩⟩
  obtain ⟨z, hz, e⟩ := enum_get hd
  subst e
  obtain ⟨v, hv, rv⟩ := r.get hz
  refine ⟨⟨xs, v, .of h1, hv⟩, fun x H' y => ?_⟩
  obtain ⟨T, x', e1, nT, e2, y⟩ := y
  subst e1 e2
  have q := y xs (.of h1)
  rw [hv] at q
  cases q
  have sm := same_upd (o := .tup [.int (i : Nat), v]) nT
  refine ⟨sm, .tup (.of upd_same) (.cons ?_ (.cons (rv.keep (O := []) (Same.ext sm) (fun _ _ => by simp) fun _ z => z) .nil))⟩
  rw [Nat.zero_add]
  exact .int _
theorem it_rev {G : Hp → Prop} {P : Addr → Prop} {a : Addr} {ds : List D} (h : ∀ H, G H → ∃ xs, H a = some (.lst xs) ∧ Rps R P H xs ds) : ItOk R G P (Itv R.K a ds.length) ds.reverse := fun i H g => by
  obtain ⟨xs, h1, r⟩ := h H g
  refine ⟨fun d hd => ?_, fun hi => by show ds.length ≤ i; rw [hi, List.length_reverse]; exact Nat.le_refl _⟩
  obtain ⟨hlt, _⟩ := List.getElem?_eq_some_iff.mp hd
  rw [List.length_reverse] at hlt
  rw [List.getElem?_reverse hlt] at hd
  obtain ⟨v, hv, rv⟩ := r.get hd
  refine ⟨⟨hlt, xs, v, .of h1, hv⟩, fun x H' y => ?_⟩
  obtain ⟨e, y⟩ := y
  subst e
  have q := y xs (.of h1)
  rw [hv] at q
  cases q
  exact ⟨Same.refl _, rv⟩
theorem zip2_get : ∀ {xs ys : List D} {i : Nat} {d : D}, (zip2 xs ys)[i]? = some d → ∃ x y, xs[i]? = some x ∧ ys[i]? = some y ∧ d = .tup [x, y]
  | x :: xs, y :: ys, 0, d, h => by
    have e : some (D.tup [x, y]) = some d := h
    cases e
    exact ⟨x, y, rfl, rfl, rfl⟩
  | x :: xs, y :: ys, i + 1, d, h => zip2_get (xs := xs) (ys := ys) (i := i) h
  | [], _, _, _, h => by simp [zip2] at h
  | _ :: _, [], _, _, h => by simp [zip2] at h
theorem zip2_len : ∀ {xs ys : List D}, (zip2 xs ys).length = min xs.length ys.length
  | x :: xs, y :: ys => by simp only [zip2, List.length_cons, zip2_len]; omega
  | [], _ => by simp [zip2]
  | _ :: _, [] => by simp [zip2]
theorem zip3_get : ∀ {xs ys zs : List D} {i : Nat} {d : D}, (zip3 xs ys zs)[i]? = some d → ∃ x y z, xs[i]? = some x ∧ ys[i]? = some y ∧ zs[i]? = some z ∧ d = .tup [x, y, z]
  | x :: xs, y :: ys, z :: zs, 0, d, h => by
    have e : some (D.tup [x, y, z]) = some d := h
    cases e
    exact ⟨x, y, z, rfl, rfl, rfl, rfl⟩
  | x :: xs, y :: ys, z :: zs, i + 1, d, h => zip3_get (xs := xs) (ys := ys) (zs := zs) (i := i) h
  | [], _, _, _, _, h => by simp [zip3] at h
  | _ :: _, [], _, _, _, h => by simp [zip3] at h
  | _ :: _, _ :: _, [], _, _, h => by simp [zip3] at h
theorem zip3_len : ∀ {xs ys zs : List D}, (zip3 xs ys zs).length = min (min xs.length ys.length) zs.length
  | x :: xs, y :: ys, z :: zs => by simp only [zip3, List.length_cons, zip3_len]; omega
  | [], _, _ => by simp [zip3]
  | _ :: _, [], _ => by simp [zip3]
  | _ :: _, _ :: _, [] => by simp [zip3]
/-- a list or a tuple that stands -/
def SeqIn (R : RC) (G : Hp → Prop) (P : Addr → Prop) (k : Kd) (a : Addr) (ds : List D) : Prop := ∀ H, G H → ∃ xs, SqX R.K k H a xs ∧ Rps R P H xs ds
theorem it_z2 {G : Hp → Prop} {P : Addr → Prop} {k1 k2 : Kd} {a1 a2 : Addr} {ds1 ds2 : List D} (h1 : SeqIn R G P k1 a1 ds1) (h2 : SeqIn R G P k2 a2 ds2) : ItOk R G P (Itz2 R.K k1 k2 a1 a2) (zip2 ds1 ds2) := fun i H g => by
  obtain ⟨xs1, q1, r1⟩ := h1 H g
  obtain ⟨xs2, q2, r2⟩ := h2 H g
  refine ⟨fun d hd => ?_, fun hi => ⟨xs1, xs2, q1, ?_, q2, ?_, ?_⟩⟩
  · obtain ⟨x, y, e1, e2, e⟩ := zip2_get hd
    subst e
    obtain ⟨v1, w1, s1⟩ := r1.get e1
    obtain ⟨v2, w2, s2⟩ := r2.get e2
    refine ⟨⟨xs1, xs2, v1, v2, q1, w1, q2, w2⟩, fun v H' y => ?_⟩
    obtain ⟨T, x1, x2, e1, nT, e2, y1, y2⟩ := y
    subst e1 e2
    have p1 := y1 xs1 q1
    have p2 := y2 xs2 q2
    rw [w1] at p1
    rw [w2] at p2
    cases p1
    cases p2
    have sm := same_upd (o := .tup [v1, v2]) nT
    exact ⟨sm, .tup (.of upd_same) (.cons (s1.keep (O := []) (Same.ext sm) (fun _ _ => by simp) fun _ z => z) (.cons (s2.keep (O := []) (Same.ext sm) (fun _ _ => by simp) fun _ z => z) .nil))⟩
  · rw [zip2_len, ← r1.length, ← r2.length] at hi; omega
  · rw [zip2_len, ← r1.length, ← r2.length] at hi; omega
  · rw [zip2_len, ← r1.length, ← r2.length] at hi; omega
theorem it_z3 {G : Hp → Prop} {P : Addr → Prop} {k1 k2 k3 : Kd} {a1 a2 a3 : Addr} {ds1 ds2 ds3 : List D} (h1 : SeqIn R G P k1 a1 ds1) (h2 : SeqIn R G P k2 a2 ds2) (h3 : SeqIn R G P k3 a3 ds3) : ItOk R G P (Itz3 R.K k1 k2 k3 a1 a2 a3) (zip3 ds1 ds2 ds3) := fun i H g => by
  obtain ⟨xs1, q1, r1⟩ := h1 H g
  obtain ⟨xs2, q2, r2⟩ := h2 H g
  obtain ⟨xs3, q3, r3⟩ := h3 H g
  refine ⟨fun d hd => ?_, fun hi => ⟨xs1, xs2, xs3, q1, ?_, q2, ?_, q3, ?_, ?_⟩⟩
  · obtain ⟨x, y, z, e1, e2, e3, e⟩ := zip3_get hd
    subst e
    obtain ⟨v1, w1, s1⟩ := r1.get e1
    obtain ⟨v2, w2, s2⟩ := r2.get e2
    obtain ⟨v3, w3, s3⟩ := r3.get e3
    refine ⟨⟨xs1, xs2, xs3, v1, v2, v3, q1, w1, q2, w2, q3, w3⟩, fun v H' y => ?_⟩
    obtain ⟨T, x1, x2, x3, e1, nT, e2, y1, y2, y3⟩ := y
    subst e1 e2
    have p1 := y1 xs1 q1
    have p2 := y2 xs2 q2
    have p3 := y3 xs3 q3
    rw [w1] at p1
    rw [w2] at p2
    rw [w3] at p3
    cases p1
    cases p2
    cases p3
    have sm := same_upd (o := .tup [v1, v2, v3]) nT
    exact ⟨sm, .tup (.of upd_same) (.cons (s1.keep (O := []) (Same.ext sm) (fun _ _ => by simp) fun _ z => z) (.cons (s2.keep (O := []) (Same.ext sm) (fun _ _ => by simp) fun _ z => z) (.cons (s3.keep (O := []) (Same.ext sm) (fun _ _ => by simp) fun _ z => z) .nil)))⟩
  · rw [zip3_len, ← r1.length, ← r2.length, ← r3.length] at hi; omega
  · rw [zip3_len, ← r1.length, ← r2.length, ← r3.length] at hi; omega
  · rw [zip3_len, ← r1.length, ← r2.length, ← r3.length] at hi; omega
  · rw [zip3_len, ← r1.length, ← r2.length, ← r3.length] at hi; omega
abbrev GX (O : List Addr) (H' : Hp) : Hp → Prop := fun H2 => Ext O H' H2
abbrev PX (O : List Addr) (H' : Hp) : Addr → Prop := fun a => a ∉ O ∧ ∃ o, H' a = some o
theorem lst_in {H' : Hp} {v : V} {ds : List D} (h : Rp R (· ∉ O) H' v (.lst ds)) : ∃ a, v = .ref a ∧ ∀ H, GX O H' H → ∃ xs, H a = some (.lst xs) ∧ Rps R (PX O H') H xs ds := by
  have h := h.has
  cases h with
  | lst p hh r => exact ⟨_, rfl, fun H2 e => ⟨_, e.st _ _ hh (.inl p.1), r.keep e (fun _ z => z.1) fun _ z => z⟩⟩
theorem tup_in {H' : Hp} {v : V} {ds : List D} (h : Rp R (· ∉ O) H' v (.tup ds)) : ∃ a, v = .ref a ∧ ∀ H, GX O H' H → ∃ xs, SqT R.K H a xs ∧ Rps R (PX O H') H xs ds := by
  have h := h.has
  cases h with
  | tup hh r => exact ⟨_, rfl, fun H2 e => ⟨_, e.sqT hh, r.keep e (fun _ z => z.1) fun _ z => z⟩⟩
theorem seq_in {H' : Hp} {v : V} {d : D} {ds : List D} (h : Rp R (· ∉ O) H' v d) (e : seqZ d = some ds) : ∃ a k, v = .ref a ∧ SeqIn R (GX O H') (PX O H') k a ds := by
  unfold seqZ at e
  split at e
  · cases e
    obtain ⟨a, e, k⟩ := lst_in h
    exact ⟨a, .l, e, fun H g => let ⟨xs, h1, h2⟩ := k H g; ⟨xs, .of h1, h2⟩⟩
  · cases e
    obtain ⟨a, e, k⟩ := tup_in h
    exact ⟨a, .t, e, fun H g => k H g⟩
  · cases e
/-- a list, a tuple, a text -/
def iAny (K : PySem.W.Frag) (tl : TE) : TI := fun σ H R => tl σ H fun x H1 => (∃ a, x = .ref a ∧ (∃ xs, SqL K H1 a xs) ∧ R (Itl K a) H1) ∨ (∃ a, x = .ref a ∧ (∃ xs, SqT K H1 a xs) ∧ R (Itt K a) H1) ∨ (∃ y, x = .str y ∧ R (Its y) H1)
theorem pi_any {tg l : Expr} {tl : TE} (hl : PE X l tl) : PI X tg l (iAny X.K tl) := by
  refine ⟨fun pins s σ H R I h => ?_⟩
  refine thn (hl.run pins s σ H _ I h) fun v s1 ⟨x, H1, I1, r1, q1⟩ => ?_
  rcases q1 with ⟨a, e, ⟨xs, hq⟩, q⟩ | ⟨a, e, ⟨xs, hq⟩, q⟩ | ⟨y, e, q⟩
  · subst e
    cases r1
    obtain ⟨its, rv, p, hz⟩ := I1.list hq
    refine wpAny_pyIter_list p.isList ?_
    refine ⟨s1.heap.objs.size, [s1.heap.objs.size], _, _, H1, rfl, I1.kept (t' := s1.toks) fun b o e => Heap.get?_push_of_some _ e, turn_list a _, ⟨_, Heap.get?_push_size _ rfl, rfl, rfl⟩, fun b hb => ?_, q⟩
    have e : b = s1.heap.objs.size := by simpa using hb
    subst e
    exact I1.fpOk (Nat.le_refl _) (I1.hok.fresh (Nat.le_refl _))
  · subst e
    cases r1
    obtain ⟨its, rv, p, hz⟩ := I1.tuple hq
    refine wpAny_pyIter_tuple (show s1.heap.IsTuple a its.toArray from p) ?_
    refine ⟨s1.heap.objs.size, [s1.heap.objs.size], _, _, H1, rfl, I1.kept (t' := s1.toks) fun b o e => Heap.get?_push_of_some _ e, turn_tuple a _, ⟨_, Heap.get?_push_size _ rfl, rfl, rfl⟩, fun b hb => ?_, q⟩
    have e : b = s1.heap.objs.size := by simpa using hb
    subst e
    exact I1.fpOk (Nat.le_refl _) (I1.hok.fresh (Nat.le_refl _))
  · subst e
    obtain ⟨t, rfl⟩ := r1
    cases ha : y.cps.all (· < 128)
    · exact wpAny_pyIter_wide ha (pi_one (tk := s1.toks) I1 _ (turn_str _ y t "str_iterator" (.inr rfl)) ⟨_, Heap.get?_push_size _ rfl, rfl, rfl⟩ q)
    · exact wpAny_pyIter_ascii ha (pi_one (tk := s1.toks) I1 _ (turn_str _ y t "str_ascii_iterator" (.inl rfl)) ⟨_, Heap.get?_push_size _ rfl, rfl, rfl⟩ q)
theorem s_itPlain {fe : Expr → Env → Row → Out Rv} (he : ∀ e, PE X e (tE (rc X C) c B W (fe e))) (tg e : Expr) : PI X tg e (tI (rc X C) c B W (itPlain fe e)) := by
  unfold itPlain
  cases hn : noSet e with
  | false => exact tI_no
  | true =>
    refine PI.imp (pi_any (he e)) fun σ H Q ⟨O, S, row, F, h⟩ => ⟨O, S, row, F, h.bind.mono fun rv r1 H1 F1 e1 h1 v kv => ?_⟩
    split at h1
    · rename_i nw d
      unfold seqOf at h1
      cases d with
      | lst xs =>
        obtain ⟨a, e, k⟩ := lst_in kv.1
        subst e
        obtain ⟨ys, hy, _⟩ := k H1 Ext.refl
        exact .inl ⟨a, rfl, ⟨ys, .of hy⟩, h1 H1 F1 ExE.refl _ (it_list k)⟩
      | tup xs =>
        obtain ⟨a, e, k⟩ := tup_in kv.1
        subst e
        obtain ⟨ys, hy, _⟩ := k H1 Ext.refl
        exact .inr (.inl ⟨a, rfl, ⟨ys, hy⟩, h1 H1 F1 ExE.refl _ (it_tup k)⟩)
      | str x => exact .inr (.inr ⟨x, kv.1.str_inv, h1 H1 F1 ExE.refl _ it_str⟩)
      | _ => exact h1.elim
    · rename_i i
      split at h1
      · rename_i ds hd
        obtain ⟨p1, p2, d, p3⟩ := kv
        obtain ⟨a, q1, q2, q3, q4, q5⟩ := F1.own i _ hd p1
        rw [p2] at q1
        have e : v = .ref a := Option.some.inj (Option.some.inj q1)
        subst e
        obtain ⟨b, xs, e1, e2, e3⟩ := q4
        cases e1
        exact .inl ⟨a, rfl, ⟨xs, .of e2⟩, h1 H1 F1 ExE.refl _ ⟨p1, hd, a, p2, rfl⟩⟩
      · exact h1.elim
    · exact h1.elim
theorem rng_x {n : Int} : n.toNat = (n - 0).toNat := by omega
theorem sm62_le {n : Int} (h : sm62 n = true) : -(2 ^ 62) ≤ n ∧ n < 2 ^ 62 := by
  unfold sm62 at h
  have := Nat.le_of_ble_eq_true h
  exact ⟨by omega, by omega⟩
theorem itA_core {σ : L2.St} {Q : It → Hp → Prop} {fe : Expr → Env → Row → Out Rv} {es : List Expr} {g : List Rv → Option (List D)} {P : List V → Hp → Prop} (h : tI (rc X C) c B W (itA fe es g) σ H Q)
    (k : ∀ O S H1 vs rs ds Hs, RvsOk (rc X C) c O S σ Hs H1 vs rs → g rs = some ds → (∀ J, ItOk (rc X C) (GX O H1) (PX O H1) J ds → Q J H1) → P vs H1) : tA (rc X C) c B W (evs fe es) σ H P := by
  obtain ⟨O, S, row, F, h⟩ := h
  refine ⟨O, S, row, F, h.bind.mono fun rs r1 H1 F1 e1 h1 vs ks => ?_⟩
  split at h1
  · rename_i ds hg
    exact k O S H1 vs rs ds H ks hg fun J hJ => h1 H1 F1 ExE.refl J hJ
  · exact h1.elim
theorem s_rng1 (k : COk X C c W) {fe : Expr → Env → Row → Out Rv} (he : ∀ e, PE X e (tE (rc X C) c B W (fe e))) {tg a : Expr} {p pos : Pos} (hg : isGl c "range" = true) (hn : nst a = true) :
    PI X tg (.Call (.Name "range" p) [a] [] pos) (tI (rc X C) c B W (itA fe [a] rng1)) := by
  refine PI.imp (pi_range1 (k.gl hg).1 (k.blt _ (by decide +kernel)) (s_args he [a]) (nst_star hn)) fun σ H Q h => itA_core h fun O S H1 vs rs ds Hs ks hg q => ?_
  unfold rng1 at hg
  split at hg
  · rename_i nw n
    obtain ⟨h1, h2⟩ := gd_some hg
    subst h2
    cases ks with
    | cons k1 kr =>
      cases kr
      rw [k1.1.int_inv]
      refine ⟨n, rfl, (sm62_le h1).1, (sm62_le h1).2, ?_⟩
      rw [rng_x]
      exact q _ it_rng
  · cases hg
theorem s_rng2 (k : COk X C c W) {fe : Expr → Env → Row → Out Rv} (he : ∀ e, PE X e (tE (rc X C) c B W (fe e))) {tg a b : Expr} {p pos : Pos} (hg : isGl c "range" = true) (hn : nst a = true) (hn2 : nst b = true) :
    PI X tg (.Call (.Name "range" p) [a, b] [] pos) (tI (rc X C) c B W (itA fe [a, b] rng2)) := by
  refine PI.imp (pi_range2 (k.gl hg).1 (k.blt _ (by decide +kernel)) (s_args he [a, b]) (by rw [nst_star hn, nst_star hn2]; rfl) (nst_star hn2)) fun σ H Q h => itA_core h fun O S H1 vs rs ds Hs ks hg q => ?_
  unfold rng2 at hg
  split at hg
  · rename_i nw m nw2 n
    obtain ⟨h1, h2⟩ := gd_some hg
    rw [Bool.and_eq_true] at h1
    subst h2
    cases ks with
    | cons k1 kr =>
      cases kr with
      | cons k2 kr =>
        cases kr
        rw [k1.1.int_inv, k2.1.int_inv]
        exact ⟨m, n, rfl, ⟨(sm62_le h1.1).1, (sm62_le h1.1).2, (sm62_le h1.2).1, (sm62_le h1.2).2⟩, q _ it_rng⟩
  · cases hg
theorem s_enum (k : COk X C c W) {fe : Expr → Env → Row → Out Rv} (he : ∀ e, PE X e (tE (rc X C) c B W (fe e))) {a : Expr} {elts : List Expr} {kk : Nat} {p pos tpos : Pos} (hg : isGl c "enumerate" = true) (hn : nst a = true) :
    PI X (.Tuple elts kk tpos) (.Call (.Name "enumerate" p) [a] [] pos) (tI (rc X C) c B W (itA fe [a] enumI)) := by
  refine PI.imp (pi_enum (k.gl hg).1 (k.blt _ (by decide +kernel)) (s_args he [a]) (nst_star hn)) fun σ H Q h => itA_core h fun O S H1 vs rs ds Hs ks hg q => ?_
  unfold enumI at hg
  split at hg
  · rename_i nw ds
    cases hg
    cases ks with
    | cons k1 kr =>
      cases kr
      obtain ⟨a, e, z⟩ := lst_in k1.1
      subst e
      obtain ⟨ys, hy, _⟩ := z H1 Ext.refl
      exact ⟨a, ys, rfl, .of hy, q _ (it_enum z)⟩
  · cases hg
theorem s_rev (k : COk X C c W) {fe : Expr → Env → Row → Out Rv} (he : ∀ e, PE X e (tE (rc X C) c B W (fe e))) {tg a : Expr} {p pos : Pos} (hg : isGl c "reversed" = true) (hn : nst a = true) :
    PI X tg (.Call (.Name "reversed" p) [a] [] pos) (tI (rc X C) c B W (itA fe [a] revI)) := by
  refine PI.imp (pi_reversed (k.gl hg).1 (k.blt _ (by decide +kernel)) (s_args he [a]) (nst_star hn)) fun σ H Q h => itA_core h fun O S H1 vs rs ds Hs ks hg q => ?_
  unfold revI at hg
  split at hg
  · rename_i nw ds
    cases hg
    cases ks with
    | cons k1 kr =>
      cases kr
      obtain ⟨a, e, z⟩ := lst_in k1.1
      subst e
      obtain ⟨ys, hy, r⟩ := z H1 Ext.refl
      exact ⟨a, ys, rfl, .of hy, by rw [r.length]; exact q _ (it_rev z)⟩
  · cases hg
theorem s_z2 (k : COk X C c W) {fe : Expr → Env → Row → Out Rv} (he : ∀ e, PE X e (tE (rc X C) c B W (fe e))) {a b : Expr} {elts : List Expr} {kk : Nat} {p pos tpos : Pos} (hg : isGl c "zip" = true) (hn : nsts [a, b] = true) :
    PI X (.Tuple elts kk tpos) (.Call (.Name "zip" p) [a, b] [] pos) (tI (rc X C) c B W (itA fe [a, b] zipI2)) := by
  have hn2 : (nst a && nsts [b]) = true := hn
  rw [Bool.and_eq_true] at hn2
  refine PI.imp (pi_z2 (k.gl hg).1 (k.blt _ (by decide +kernel)) (s_args he [a, b]) (nst_star hn2.1) (nsts_any hn2.2)) fun σ H Q h => itA_core h fun O S H1 vs rs ds Hs ks hg q => ?_
  unfold zipI2 at hg
  split at hg
  · rename_i nw x nw2 y
    split at hg
    · rename_i xs ys hx hy
      cases hg
      cases ks with
      | cons k1 kr =>
        cases kr with
        | cons k2 kr =>
          cases kr
          obtain ⟨a1, kd1, e1, z1⟩ := seq_in k1.1 hx
          obtain ⟨a2, kd2, e2, z2⟩ := seq_in k2.1 hy
          subst e1 e2
          obtain ⟨us1, s1, _⟩ := z1 H1 Ext.refl
          obtain ⟨us2, s2, _⟩ := z2 H1 Ext.refl
          exact ⟨a1, a2, kd1, kd2, us1, us2, rfl, s1, s2, q _ (it_z2 z1 z2)⟩
    · cases hg
  · cases hg
theorem s_z3 (k : COk X C c W) {fe : Expr → Env → Row → Out Rv} (he : ∀ e, PE X e (tE (rc X C) c B W (fe e))) {a b d : Expr} {elts : List Expr} {kk : Nat} {p pos tpos : Pos} (hg : isGl c "zip" = true) (hn : nsts [a, b, d] = true) :
    PI X (.Tuple elts kk tpos) (.Call (.Name "zip" p) [a, b, d] [] pos) (tI (rc X C) c B W (itA fe [a, b, d] zipI3)) := by
  have hn2 : (nst a && nsts [b, d]) = true := hn
  rw [Bool.and_eq_true] at hn2
  refine PI.imp (pi_z3 (k.gl hg).1 (k.blt _ (by decide +kernel)) (s_args he [a, b, d]) (nst_star hn2.1) (nsts_any hn2.2)) fun σ H Q h => itA_core h fun O S H1 vs rs ds Hs ks hg q => ?_
  unfold zipI3 at hg
  split at hg
  · rename_i nw x nw2 y nw3 z
    split at hg
    · rename_i xs ys zs hx hy hz
      cases hg
      cases ks with
      | cons k1 kr =>
        cases kr with
        | cons k2 kr =>
          cases kr with
          | cons k3 kr =>
            cases kr
            obtain ⟨a1, kd1, e1, z1⟩ := seq_in k1.1 hx
            obtain ⟨a2, kd2, e2, z2⟩ := seq_in k2.1 hy
            obtain ⟨a3, kd3, e3, z3⟩ := seq_in k3.1 hz
            subst e1 e2 e3
            obtain ⟨us1, s1, _⟩ := z1 H1 Ext.refl
            obtain ⟨us2, s2, _⟩ := z2 H1 Ext.refl
            obtain ⟨us3, s3, _⟩ := z3 H1 Ext.refl
            exact ⟨a1, a2, a3, kd1, kd2, kd3, us1, us2, us3, rfl, s1, s2, s3, q _ (it_z3 z1 z2 z3)⟩
    · cases hg
  · cases hg
theorem isTup_is {tg : Expr} (h : isTup tg = true) : ∃ es k p, tg = .Tuple es k p := by
  cases tg <;> first | exact ⟨_, _, _, rfl⟩ | cases h
theorem s_itCall (k : COk X C c W) {fe : Expr → Env → Row → Out Rv} (he : ∀ e, PE X e (tE (rc X C) c B W (fe e))) (tg : Expr) (f : Str) (es : List Expr) {p pos : Pos} (hg : isGl c f = true) (hn : nsts es = true) :
    PI X tg (.Call (.Name f p) es [] pos) (tI (rc X C) c B W (itCall fe tg f es)) := by
  unfold itCall
  split
  · rename_i a
    have h1 : (nst a && true) = true := hn
    rw [Bool.and_true] at h1
    split
    · rename_i hf
      have := seq_eq hf; subst this
      exact s_rng1 k he hg h1
    · split
      · rename_i hf
        rw [Bool.and_eq_true] at hf
        have := seq_eq hf.1; subst this
        obtain ⟨es, kk, tp, e⟩ := isTup_is hf.2
        subst e
        exact s_enum k he hg h1
      · split
        · rename_i hf
          have := seq_eq hf; subst this
          exact s_rev k he hg h1
        · exact tI_no
  · rename_i a b
    have h1 : (nst a && (nst b && true)) = true := hn
    rw [Bool.and_true, Bool.and_eq_true] at h1
    split
    · rename_i hf
      have := seq_eq hf; subst this
      exact s_rng2 k he hg h1.1 h1.2
    · split
      · rename_i hf
        rw [Bool.and_eq_true] at hf
        have := seq_eq hf.1; subst this
        obtain ⟨es, kk, tp, e⟩ := isTup_is hf.2
        subst e
        exact s_z2 k he hg hn
      · exact tI_no
  · rename_i a b d
    split
    · rename_i hf
      rw [Bool.and_eq_true] at hf
      have := seq_eq hf.1; subst this
      obtain ⟨es, kk, tp, e⟩ := isTup_is hf.2
      subst e
      exact s_z3 k he hg hn
    · exact tI_no
  · exact tI_no
theorem s_itr (k : COk X C c W) {fe : Expr → Env → Row → Out Rv} (he : ∀ e, PE X e (tE (rc X C) c B W (fe e))) (tg e : Expr) : PI X tg e (tI (rc X C) c B W (itr fe c tg e)) := by
  unfold itr
  split
  · rename_i f p es pos
    split
    · rename_i h
      rw [Bool.and_eq_true, Bool.and_eq_true] at h
      exact s_itCall k he tg f es h.1.1 h.2
    · exact s_itPlain he tg _
  · exact s_itPlain he tg _
end
end TH

set_option Elab.async false
set_option linter.all false
set_option maxRecDepth 100000
set_option maxHeartbeats 4000000
/-! DV11: targets, comprehensions. -/
namespace TH
open PySem PySem.Spec PyProof.Rows L2
/-! ### scopes of blocks -/
theorem kEq_iff {a b : NameKind} : kEq a b = (a == b) := by cases a <;> cases b <;> rfl
theorem kEq_eq {a b : NameKind} (h : kEq a b = true) : a = b := by cases a <;> cases b <;> first | rfl | cases h
theorem isFun_iff {a : ScopeKind} : isFun a = (a == .function) := by cases a <;> rfl
theorem relF_eq {scope sc : Scope} : relF scope sc = relS scope sc := by
  unfold relF relS
  congr 1
  refine List.map_congr_left fun p _ => ?_
  obtain ⟨n, k⟩ := p
  have e : (match look n sc.names with
    | some .cell => true
    | _ => false) = (sc.names.lookup n == some .cell) := by
    rw [look_eq]
    cases sc.names.lookup n with
    | none => rfl
    | some z => cases z <;> rfl
  show (match kEq k .free && isFun sc.kind && (match look n sc.names with
    | some .cell => true
    | _ => false) with
    | true => (n, NameKind.cell)
    | false => (n, k)) = _
  rw [e, kEq_iff, isFun_iff]
  show _ = (if (k == NameKind.free && sc.kind == .function && sc.names.lookup n == some .cell) = true then (n, NameKind.cell) else (n, k))
  generalize (k == NameKind.free && sc.kind == .function && sc.names.lookup n == some .cell) = b
  cases b <;> rfl
theorem look_mem {α : Type} {x : Str} {k : α} : ∀ {l : List (Str × α)}, l.lookup x = some k → (x, k) ∈ l
  | [], h => by cases h
  | (y, z) :: r, h => by
    rw [List.lookup_cons] at h
    split at h
    · rename_i e
      have e2 := eq_of_beq e
      subst e2
      cases h
      exact List.mem_cons_self
    · exact List.mem_cons_of_mem _ (look_mem h)
section
variable {X : Cx} {C : Cn} {c : Ctx} {W : WX} {B : Bg}
structure BlkB (sc scope : Scope) : Prop where
  kind : scope.kind = .function
  okn : ∀ y ∈ scope.names, okN y.1 = true
  uniq : ∀ y ∈ scope.names, scope.names.lookup y.1 = some y.2
  free : ∀ y ∈ scope.names, y.2 = .free → sc.names.lookup y.1 = some .cell ∨ sc.names.lookup y.1 = some .free
theorem blkB_is {sc scope : Scope} (h : blkB sc scope = true) : BlkB sc scope := by
  unfold blkB at h
  simp only [Bool.and_eq_true, List.all_eq_true] at h
  obtain ⟨⟨⟨h1, h2⟩, h3⟩, h4⟩ := h
  refine ⟨?_, h2, fun y hy => ?_, fun y hy e => ?_⟩
  · unfold isFun at h1
    split at h1
    · assumption
    · cases h1
  · have q := h3 y hy
    rw [look_eq] at q
    split at q
    · rename_i k hk
      rw [hk, kEq_eq q]
    · cases q
  · have q := h4 y hy
    rw [e, look_eq] at q
    dsimp only at q
    split at q
    · rename_i hk; exact .inl hk
    · rename_i hk; exact .inr hk
    · cases q
theorem COk.blk (k : COk X C c W) (hcalm : c.calm = true) {scope : Scope} (hb : BlkB c.sc scope) (s : Shared) (H : Hp) (Ca : Addr) (cl : List (Str × Addr)) (fp : List Addr) :
    COk (X.blk s H scope (compEnvC scope cl Ca X.env) fp) C (blkCtx c scope) (fun _ _ _ _ => False) where
  N := k.N
  nd := k.nd
  sc := by
    show relS scope X.env.scope = relF scope c.sc
    rw [k.sc, relF_eq]
  kind := hb.kind
  calm := k.calm
  po := fun h => nomatch h
  st := fun x kk hk h => by
    show (relF scope c.sc).names.lookup x = some kk
    rw [relF_eq]
    exact lookup_relS_keep hk h
  fnc := fun x h => by
    have h : scope.names.lookup x = some .cell := h
    show (scope.names.lookup x == some .cell) = true
    rw [h]
    rfl
  okn := fun x kk h => by
    have h : (relF scope c.sc).names.lookup x = some kk := h
    rw [relF_eq] at h
    obtain ⟨k', h1, _⟩ := lookup_relS h
    exact hb.okn _ (look_mem h1)
  room := k.room
  tk := takes0
  blt := k.blt
  cst := k.cst
  fns := fun hc x fn h => ⟨(k.fns hc x fn h).ex⟩
  mks := fun hc x fn h => ⟨(k.mks hc x fn h).ex⟩
  mts := fun hc x fn h => ⟨(k.mts hc x fn h).io, (k.mts hc x fn h).ex⟩
  exk := fun h => nomatch h
  exf := fun h => nomatch h
  xs := k.xs
  exI := fun h => by
    have h : c.calm = false := h
    rw [hcalm] at h
    cases h
  e0 := fun h => nomatch h
  top := fun h => nomatch h
  hcls := k.hcls
  nkt := k.nkt
  nkk := k.nkk
  noio := k.noio
theorem idx_none {x : Str} : ∀ {l : List Str} {n : Nat}, idx x l n = none → x ∉ l
  | [], _, _ => by simp
  | y :: r, n, h => by
    unfold idx at h
    cases e : seq x y with
    | true => rw [e] at h; cases h
    | false =>
      rw [e] at h
      rw [List.mem_cons, not_or]
      exact ⟨seq_ne e, idx_none h⟩
theorem own_ix {N : List Str} : ∀ {l : List (Str × NameKind)} {p : Str × Nat}, p ∈ ownOf N l → N[p.2]? = some p.1
  | [], p, h => by cases h
  | (x, k) :: r, p, h => by
    unfold ownOf at h
    cases k with
    | «local» =>
      dsimp only at h
      split at h
      · rename_i i hi
        rcases List.mem_cons.mp h with e | h
        · rw [e]; exact idx_at hi
        · exact own_ix h
      · exact own_ix h
    | cell =>
      dsimp only at h
      split at h
      · rename_i i hi
        rcases List.mem_cons.mp h with e | h
        · rw [e]; exact idx_at hi
        · exact own_ix h
      · exact own_ix h
    | free => exact own_ix h
    | globalExplicit => exact own_ix h
    | globalImplicit => exact own_ix h
theorem own_has {N : List Str} : ∀ {l : List (Str × NameKind)} {y : Str × NameKind}, y ∈ l → y.2 = .local ∨ y.2 = .cell → y.1 ∈ (ownOf N l).map (·.1) ∨ y.1 ∉ N
  | (x, k) :: r, y, h, hk => by
    have up : ∀ {z : List (Str × Nat)}, (∀ p ∈ ownOf N r, p ∈ z) → y.1 ∈ (ownOf N r).map (·.1) ∨ y.1 ∉ N → y.1 ∈ z.map (·.1) ∨ y.1 ∉ N := fun hz q => q.imp (fun q => by
      obtain ⟨p, h1, h2⟩ := List.mem_map.mp q
      exact List.mem_map.mpr ⟨p, hz p h1, h2⟩) fun z => z
    rcases List.mem_cons.mp h with e | h
    · subst e
      have go : (match idx x N 0 with
        | some i => (x, i) :: ownOf N r
        | none => ownOf N r) = ownOf N ((x, k) :: r) := by
        rcases hk with e | e
        · have e : k = .local := e
          subst e; rfl
        · have e : k = .cell := e
          subst e; rfl
      rw [← go]
      cases hi : idx x N 0 with
      | some i => exact .inl List.mem_cons_self
      | none => exact .inr (idx_none hi)
    · refine up (fun p hp => ?_) (own_has h hk)
      unfold ownOf
      cases k with
      | «local» => dsimp only; split <;> first | exact List.mem_cons_of_mem _ hp | exact hp
      | cell => dsimp only; split <;> first | exact List.mem_cons_of_mem _ hp | exact hp
      | free => exact hp
      | globalExplicit => exact hp
      | globalImplicit => exact hp
theorem blkOk_of (k : COk X C c W) {scope : Scope} (hb : BlkB c.sc scope) : BlkOk X.N X.env.scope scope (ownOf c.N scope.names) := by
  refine ⟨hb.kind, hb.uniq, fun p hp => by rw [k.N]; exact own_ix hp, fun y hy e => by rw [k.sc]; exact hb.free y hy e, fun y hy e => by rw [k.N]; exact own_has hy e⟩

/-! ### targets -/
def namesB : List Expr → Bool
  | [] => true
  | .Name _ _ :: es => namesB es
  | _ :: _ => false
def gNever : TG := fun _ _ _ _ => False
def gsOf (c : Ctx) : List Expr → TGs
  | [] => gNil
  | .Name x _ :: es => (match slotL c x with
    | some i => gCons (gName i) (gsOf c es)
    | none => fun _ _ _ _ => False)
  | _ :: _ => fun _ _ _ _ => False
def gOf (K : PySem.W.Frag) (c : Ctx) (tg : Expr) : TG := match tg with
  | .Name x _ => (match slotL c x with
    | some i => gName i
    | none => gNever)
  | .Tuple es _ _ => (match namesB es && c.calm with
    | true => gTup K es.length (gsOf c es)
    | false => gNever)
  | _ => gNever
theorem pg_never {tg : Expr} : PG X tg gNever := ⟨fun _ _ _ _ _ _ _ _ _ h => h.elim⟩
theorem pgs_never {es : List Expr} : PGs X es fun _ _ _ _ => False := ⟨fun _ _ _ _ _ _ _ _ _ h => h.elim⟩
theorem s_pgs (k : COk X C c W) : ∀ es, PGs X es (gsOf c es)
  | [] => pgs_nil
  | e :: es => by
    unfold gsOf
    split
    · rename_i h
      cases h
    · rename_i x p es' h
      cases h
      split
      · rename_i i hi
        obtain ⟨h1, h2, h3, _⟩ := k.slotL hi
        exact pgs_cons (pg_name (by rw [k.N]; exact k.nd) h1 h2 h3) (s_pgs k es)
      · exact pgs_never
    · exact pgs_never
theorem names_len {env : PySem.Env} : ∀ {es : List Expr}, namesB es = true → (assignEach es env).length = es.length ∧ (assignEach es env).findIdx? (·.1) = none
  | [], _ => ⟨rfl, rfl⟩
  | e :: es, h => by
    cases e with
    | Name x p =>
      obtain ⟨h1, h2⟩ := names_len (env := env) (es := es) h
      refine ⟨congrArg (· + 1) h1, ?_⟩
      show List.findIdx? (·.1) ((false, assign (.Name x p) env) :: assignEach es env) = none
      rw [List.findIdx?_cons]
      simp only [h2]
      rfl
    | _ => cases h
theorem s_pg (k : COk X C c W) (tg : Expr) : PG X tg (gOf X.K c tg) := by
  unfold gOf
  split
  · rename_i x p
    split
    · rename_i i hi
      obtain ⟨h1, h2, h3, _⟩ := k.slotL hi
      exact pg_name (by rw [k.N]; exact k.nd) h1 h2 h3
    · exact pg_never
  · rename_i es kk p
    split
    · rename_i h
      rw [Bool.and_eq_true] at h
      obtain ⟨h1, h2⟩ := names_len (env := X.env) h.1
      exact pg_tup (k.calm h.2) (s_pgs k es) h1 h2
    · exact pg_never
  · exact pg_never

/-! ### the frame when a slot is set -/
theorem ioA_set {σ : L2.St} {i : Nat} {o : Option V} (h : isIo c i = false) : ioA c (σ.set i o) = ioA c σ := by
  unfold ioA
  unfold isIo at h
  cases e : c.io with
  | none => rfl
  | some j =>
    rw [e] at h
    dsimp only at h ⊢
    have hne : i ≠ j := fun z => by
      subst z
      simp at h
    rw [List.getElem?_set_ne hne]
theorem get_set {α : Type} {l : List α} {i j : Nat} {x y : α} (h : (l.set i x)[j]? = some y) : (i = j ∧ x = y ∧ j < l.length) ∨ (i ≠ j ∧ l[j]? = some y) := by
  by_cases e : i = j
  · subst e
    by_cases hl : i < l.length
    · rw [List.getElem?_set_self hl] at h
      cases h
      exact .inl ⟨rfl, rfl, hl⟩
    · rw [List.getElem?_eq_none (by simpa using hl)] at h
      cases h
  · rw [List.getElem?_set_ne e] at h
    exact .inr ⟨e, h⟩
theorem Fr.setVal {R : RC} {O : List Addr} {S : Env} {row : Row} {σ : L2.St} {H : Hp} {i : Nat} {v : V} {d : D} (F : Fr R c B O S row σ H) (ho : isOwn c i = false) (hi : isIo c i = false) (r : Rp R (· ∉ O) H v d) :
    Fr R c B O (S.set i (some d)) row (σ.set i (some v)) H := by
  have nio : ∀ j, c.io = some j → i ≠ j := fun j e z => by
    subst z
    unfold isIo at hi
    rw [e] at hi
    simp at hi
  refine ⟨by rw [List.length_set, List.length_set]; exact F.len, F.keep, F.bdom, F.odom, F.onew, fun j d' h z => ?_, fun j d' h z => ?_, fun j j' d1 d2 a h1 h2 o1 o2 s1 s2 => ?_, fun ds h => ?_, fun j h1 h2 => ?_, fun r hr => ?_, fun r hr => ?_⟩
  · rcases get_set h with ⟨e, e2, hl⟩ | ⟨e, h⟩
    · subst e
      cases e2
      exact ⟨v, by rw [List.getElem?_set_self (by rw [← F.len]; exact hl)], r⟩
    · obtain ⟨w, q1, q2⟩ := F.val j d' h z
      exact ⟨w, by rw [List.getElem?_set_ne e]; exact q1, q2⟩
  · rcases get_set h with ⟨e, e2, hl⟩ | ⟨e, h⟩
    · subst e
      rw [ho] at z
      cases z
    · obtain ⟨a, q1, q2⟩ := F.own j d' h z
      exact ⟨a, by rw [List.getElem?_set_ne e]; exact q1, q2⟩
  · rcases get_set h1 with ⟨e, _⟩ | ⟨e, h1⟩
    · subst e
      rw [ho] at o1
      cases o1
    · rcases get_set h2 with ⟨e', _⟩ | ⟨e', h2⟩
      · subst e'
        rw [ho] at o2
        cases o2
      · rw [List.getElem?_set_ne e] at s1
        rw [List.getElem?_set_ne e'] at s2
        exact F.inj j j' d1 d2 a h1 h2 o1 o2 s1 s2
  · obtain ⟨j, r, xs, z1, z2, z3, z4, z5, z6, z7⟩ := F.io ds h
    refine ⟨j, r, xs, z1, by rw [List.getElem?_set_ne (nio j z1)]; exact z2, z3, z4, z5, z6, fun j' d' h1 h2 => ?_⟩
    rcases get_set h1 with ⟨e, _⟩ | ⟨e, h1⟩
    · subst e
      rw [ho] at h2
      cases h2
    · rw [List.getElem?_set_ne e]
      exact z7 j' d' h1 h2
  · rw [List.getElem?_set_ne (nio j h1)] at h2 ⊢
    exact F.ion j h1 h2
  · obtain ⟨ds, j, h1, h2, h3⟩ := F.ior r hr
    exact ⟨ds, j, h1, h2, by rw [List.getElem?_set_ne (nio j h2)]; exact h3⟩
  · rw [ioA_set hi] at hr
    obtain ⟨q1, q2, q3⟩ := F.iod r hr
    refine ⟨q1, q2, fun j' d' h1 h2 => ?_⟩
    rcases get_set h1 with ⟨e, _⟩ | ⟨e, h1⟩
    · subst e
      rw [ho] at h2
      cases h2
    · rw [List.getElem?_set_ne e]
      exact q3 j' d' h1 h2
/-- a slot is no longer read -/
theorem Fr.setNo {R : RC} {O : List Addr} {S : Env} {row : Row} {σ : L2.St} {H : Hp} {i : Nat} {o : Option V} (F : Fr R c B O S row σ H) (hi : isIo c i = false) :
    Fr R c B O (S.set i none) row (σ.set i o) H := by
  have nio : ∀ j, c.io = some j → i ≠ j := fun j e z => by
    subst z
    unfold isIo at hi
    rw [e] at hi
    simp at hi
  have gs : ∀ {j : Nat} {d : D}, (S.set i none)[j]? = some (some d) → i ≠ j ∧ S[j]? = some (some d) := fun {j d} h => by
    rcases get_set h with ⟨_, e, _⟩ | h
    · cases e
    · exact h
  refine ⟨by rw [List.length_set, List.length_set]; exact F.len, F.keep, F.bdom, F.odom, F.onew, fun j d' h z => ?_, fun j d' h z => ?_, fun j j' d1 d2 a h1 h2 o1 o2 s1 s2 => ?_, fun ds h => ?_, fun j h1 h2 => ?_, fun r hr => ?_, fun r hr => ?_⟩
  · obtain ⟨e, h⟩ := gs h
    rw [List.getElem?_set_ne e]
    exact F.val j d' h z
  · obtain ⟨e, h⟩ := gs h
    rw [List.getElem?_set_ne e]
    exact F.own j d' h z
  · obtain ⟨e, h1⟩ := gs h1
    obtain ⟨e', h2⟩ := gs h2
    rw [List.getElem?_set_ne e] at s1
    rw [List.getElem?_set_ne e'] at s2
    exact F.inj j j' d1 d2 a h1 h2 o1 o2 s1 s2
  · obtain ⟨j, r, xs, z1, z2, z3, z4, z5, z6, z7⟩ := F.io ds h
    refine ⟨j, r, xs, z1, by rw [List.getElem?_set_ne (nio j z1)]; exact z2, z3, z4, z5, z6, fun j' d' h1 h2 => ?_⟩
    obtain ⟨e, h1⟩ := gs h1
    rw [List.getElem?_set_ne e]
    exact z7 j' d' h1 h2
  · rw [List.getElem?_set_ne (nio j h1)] at h2 ⊢
    exact F.ion j h1 h2
  · obtain ⟨ds, j, h1, h2, h3⟩ := F.ior r hr
    exact ⟨ds, j, h1, h2, by rw [List.getElem?_set_ne (nio j h2)]; exact h3⟩
  · rw [ioA_set hi] at hr
    obtain ⟨q1, q2, q3⟩ := F.iod r hr
    refine ⟨q1, q2, fun j' d' h1 h2 => ?_⟩
    obtain ⟨e, h1⟩ := gs h1
    rw [List.getElem?_set_ne e]
    exact q3 j' d' h1 h2
theorem Fr.wipe {R : RC} {O : List Addr} {S : Env} {row : Row} {σ : L2.St} {H : Hp} (F : Fr R c B O S row σ H) : ∀ {vs : List Nat}, (∀ i ∈ vs, isIo c i = false) → Fr R c B O (unset S vs) row (L2.wipe σ vs) H
  | [], _ => F
  | i :: vs, h => (Fr.wipe F fun j hj => h j (List.mem_cons_of_mem _ hj)).setNo (h i List.mem_cons_self)
/-- what of the slots a target changes -/
structure Chg (vs : List Nat) (σ σ' : L2.St) : Prop where
  len : σ'.length = σ.length
  out : ∀ i, i ∉ vs → σ'[i]? = σ[i]?
theorem Chg.refl {vs : List Nat} {σ : L2.St} : Chg vs σ σ := ⟨rfl, fun _ _ => rfl⟩
theorem Chg.set {vs : List Nat} {σ σ' : L2.St} {i : Nat} {o : Option V} (h : Chg vs (σ.set i o) σ') (hi : i ∈ vs) : Chg vs σ σ' :=
  ⟨by rw [h.len, List.length_set], fun j hj => by rw [h.out j hj]; exact List.getElem?_set_ne fun e => hj (by rw [← e]; exact hi)⟩
theorem inN_iff {i : Nat} : ∀ {l : List Nat}, inN i l = true ↔ i ∈ l
  | [] => by simp [inN]
  | j :: r => by
    have ih := inN_iff (i := i) (l := r)
    simp [inN, ih]
theorem tgs_ok {R : RC} {O : List Addr} {row : Row} {H : Hp} {vs : List Nat} : ∀ {es : List Expr} {ds : List D} {S S' : Env} {σ : L2.St} {xs : List V}, tgs c es ds S = some S' → Fr R c B O S row σ H → Rps R (· ∉ O) H xs ds → (∀ i ∈ tgSlots c es, i ∈ vs) →
    ∃ σ', (∀ Q : L2.St → Hp → Prop, Q σ' H → gsOf c es xs σ H Q) ∧ Fr R c B O S' row σ' H ∧ Chg vs σ σ'
  | [], [], S, S', σ, _, h, F, .nil, _ => by
    have h : some S = some S' := h
    cases h
    exact ⟨σ, fun Q q => ⟨rfl, q⟩, F, Chg.refl⟩
  | e :: es, d :: ds, S, S', σ, _, h, F, .cons (v := v) r t, hv => by
    unfold tgs at h
    split at h
    · rename_i h1 h2
      cases h1
    · rename_i x p es' d' ds' h1 h2
      cases h1
      cases h2
      split at h
      · rename_i i hi
        split at h
        · rename_i hb
          rw [Bool.or_eq_false_iff] at hb
          have e : tgSlots c (.Name x p :: es) = i :: tgSlots c es := by
            rw [tgSlots, hi]
          obtain ⟨σ', k1, k2, k3⟩ := tgs_ok h (F.setVal hb.1 hb.2 r) t fun j hj => hv j (by rw [e]; exact List.mem_cons_of_mem _ hj)
          refine ⟨σ', fun Q q => ?_, k2, k3.set (hv i (by rw [e]; exact List.mem_cons_self))⟩
          rw [gsOf, hi]
          exact ⟨_, _, rfl, k1 Q q⟩
        · cases h
      · cases h
    · cases h
  | [], _ :: _, _, _, _, _, h, _, _, _ => by cases h
  | e :: es, [], _, _, _, _, h, _, _, _ => by
    cases e <;> simp [tgs] at h
theorem tgs_names : ∀ {es : List Expr} {ds : List D} {S S' : Env}, tgs c es ds S = some S' → namesB es = true ∧ es.length = ds.length
  | [], [], _, _, _ => ⟨rfl, rfl⟩
  | [], _ :: _, _, _, h => by cases h
  | e :: es, [], _, _, h => by cases e <;> simp [tgs] at h
  | e :: es, d :: ds, S, S', h => by
    cases e with
    | Name x p =>
      rw [tgs] at h
      split at h
      · split at h
        · obtain ⟨h3, h4⟩ := tgs_names h
          exact ⟨h3, congrArg (· + 1) h4⟩
        · cases h
      · cases h
    | _ => simp [tgs] at h
theorem tgIn_slots {tg : Expr} {vs : List Nat} (h : tgIn c tg vs = true) : match tg with
    | .Name x p => ∀ i ∈ tgSlots c [.Name x p], i ∈ vs
    | .Tuple es _ _ => ∀ i ∈ tgSlots c es, i ∈ vs
    | _ => False := by
  unfold tgIn at h
  split at h
  · exact fun i hi => inN_iff.mp (List.all_eq_true.mp h i hi)
  · exact fun i hi => inN_iff.mp (List.all_eq_true.mp h i hi)
  · cases h
theorem tgt_ok {R : RC} {O : List Addr} {row : Row} {H : Hp} {vs : List Nat} {tg : Expr} {d : D} {S S' : Env} {σ : L2.St} {x : V} (h : tgt c tg d S = some S') (F : Fr R c B O S row σ H) (r : Rp R (· ∉ O) H x d) (hv : tgIn c tg vs = true) :
    ∃ σ', (∀ Q : L2.St → Hp → Prop, Q σ' H → gOf R.K c tg x σ H Q) ∧ Fr R c B O S' row σ' H ∧ Chg vs σ σ' := by
  have hs := tgIn_slots hv
  unfold tgt at h
  split at h
  · rename_i y p
    obtain ⟨σ', k1, k2, k3⟩ := tgs_ok h F (.cons r .nil) hs
    refine ⟨σ', fun Q q => ?_, k2, k3⟩
    have z := k1 Q q
    show (match slotL c y with
      | some i => gName i
      | none => gNever) x σ H Q
    have z2 : (match slotL c y with
      | some i => gCons (gName i) (gsOf c [])
      | none => fun _ _ _ _ => False) [x] σ H Q := z
    cases hi : slotL c y with
    | none => rw [hi] at z2; exact z2.elim
    | some i =>
      rw [hi] at z2
      obtain ⟨v, vr, e1, z3⟩ := z2
      cases e1
      exact z3.2
  · rename_i es kk p
    split at h
    · rename_i ds hc
      obtain ⟨n1, n2⟩ := tgs_names h
      cases r with
      | tup ht hr =>
        obtain ⟨σ', k1, k2, k3⟩ := tgs_ok h F hr hs
        refine ⟨σ', fun Q q => ?_, k2, k3⟩
        show (match namesB es && c.calm with
          | true => gTup R.K es.length (gsOf c es)
          | false => gNever) _ σ H Q
        rw [n1, hc]
        exact ⟨_, _, rfl, ht, by rw [hr.length, n2], k1 Q q⟩
    · cases h
  · cases h
end
end TH

set_option Elab.async false
set_option linter.all false
set_option maxRecDepth 100000
set_option maxHeartbeats 4000000
/-! DV12: comprehensions. -/
namespace TH
open PySem PySem.Spec PyProof.Rows L2
section
variable {X : Cx} {C : Cn} {c : Ctx} {W : WX} {B : Bg}
def IoAt (R : RC) (c : Ctx) (σ : L2.St) (row : Row) (H : Hp) : Prop := ∀ ds, row = some ds → ∃ i r xs, c.io = some i ∧ σ[i]? = some (some (.ref r)) ∧ H r = some (.lst xs) ∧ Rps R (fun _ => False) H xs ds
theorem ioA_of {σ : L2.St} {i : Nat} {r : Addr} (h1 : c.io = some i) (h2 : σ[i]? = some (some (.ref r))) : ioA c σ = [r] := by
  unfold ioA
  rw [h1]
  dsimp only
  rw [h2]
theorem Fr.ioAt {R : RC} {O : List Addr} {S : Env} {row : Row} {σ : L2.St} {H : Hp} (F : Fr R c B O S row σ H) : IoAt R c σ row H := fun ds h => by
  obtain ⟨i, r, xs, z1, z2, z3, z4, z5, z6, z7⟩ := F.io ds h
  exact ⟨i, r, xs, z1, z2, z5, z6⟩
theorem Fr.step {R : RC} {O L : List Addr} {S : Env} {row row' : Row} {σ : L2.St} {H H' : Hp} (F : Fr R c B O S row σ H) (e : Ext L H H')
    (hL : ∀ a ∈ L, a ∈ O ∧ (B.r = some a ∨ B.H a = none) ∧ ∀ j d, S[j]? = some (some d) → isOwn c j = true → σ[j]? ≠ some (some (.ref a))) (hio : IoAt R c σ row' H') (hr : ∀ r, B.r = some r → ∃ ds, row' = some ds) : Fr R c B O S row' σ H' := by
  refine ⟨F.len, fun a o h z => ?_, fun a o h => let ⟨o1, h1⟩ := F.bdom a o h; e.dom a o1 h1, fun a h => let ⟨o1, h1⟩ := F.odom a h; e.dom a o1 h1, F.onew, fun i d h z => ?_, fun i d h z => ?_, F.inj, fun ds h => ?_, F.ion, fun r h => ?_, F.iod⟩
  · refine e.st a o (F.keep a o h z) (.inl fun m => ?_)
    rcases (hL a m).2.1 with q | q
    · exact z q
    · rw [h] at q; cases q
  · obtain ⟨v, h1, h2⟩ := F.val i d h z
    exact ⟨v, h1, h2.keep e (fun a x m => x (hL a m).1) fun _ x => x⟩
  · obtain ⟨a, h1, h2, h3, h4, h5⟩ := F.own i d h z
    refine ⟨a, h1, h2, h3, h4.keep e (fun a x m => x (hL a m).1) (fun _ x => x) (fun b eb _ o ho => e.st b o ho (.inl fun m => ?_)), h5⟩
    cases eb
    exact (hL _ m).2.2 i d h z h1
  · obtain ⟨i, r, xs, z1, z2, z5, z6⟩ := hio ds h
    obtain ⟨q1, q2, q3⟩ := F.iod r (by rw [ioA_of z1 z2]; exact List.mem_cons_self)
    exact ⟨i, r, xs, z1, z2, q1, q2, z5, z6, q3⟩
  · obtain ⟨d0, i, _, h2, h3⟩ := F.ior r h
    obtain ⟨ds, h4⟩ := hr r h
    exact ⟨ds, i, h4, h2, h3⟩
/-- a new object of the frame's own -/
theorem Fr.addO {R : RC} {O : List Addr} {S : Env} {row : Row} {σ : L2.St} {H : Hp} {D : Addr} {o : HO} (F : Fr R c B O S row σ H) (nD : H D = none) : Fr R c B (D :: O) S row σ (upd H D o) := by
  have sm : Same H (upd H D o) := same_upd nD
  have nb : B.H D = none := by
    cases q : B.H D with
    | none => rfl
    | some z =>
      obtain ⟨o', h⟩ := F.bdom D z q
      rw [nD] at h
      cases h
  have F2 := F.same sm
  refine ⟨F.len, F2.keep, F2.bdom, fun a h => ?_, fun a h z => ?_, fun i d h z => ?_, fun i d h z => ?_, F.inj, fun ds h => ?_, F.ion, F.ior, fun r h => ?_⟩
  · rcases List.mem_cons.mp h with e | h
    · rw [e]; exact ⟨_, upd_same⟩
    · exact F2.odom a h
  · rcases List.mem_cons.mp h with e | h
    · rw [e]; exact nb
    · exact F.onew a h z
  · obtain ⟨v, h1, h2⟩ := F.val i d h z
    refine ⟨v, h1, h2.has.keep (O := []) (Same.ext sm) (fun _ _ => by simp) fun a ⟨x, y, hy⟩ m => ?_⟩
    rcases List.mem_cons.mp m with e | m
    · rw [e, nD] at hy; cases hy
    · exact x m
  · obtain ⟨a, h1, h2, h3, h4, h5⟩ := F.own i d h z
    refine ⟨a, h1, List.mem_cons_of_mem _ h2, h3, ?_, h5⟩
    have hh : RpE R (fun a => a ∉ O ∧ ∃ o, H a = some o) H (.ref a) d := by
      cases d with
      | lst ds =>
        obtain ⟨b, xs, e1, e2, r⟩ := h4
        exact ⟨b, xs, e1, e2, r.has⟩
      | dct ks ds =>
        obtain ⟨b, xs, vs, e1, e2, n, r1, z, r2⟩ := h4
        exact ⟨b, xs, vs, e1, e2, n, r1.has, z, r2.has⟩
      | _ => exact Rp.has h4
    refine hh.keep (O := []) (Same.ext sm) (fun _ _ => by simp) (fun a ⟨x, y, hy⟩ m => ?_) (fun b _ _ o' ho => sm b o' ho)
    rcases List.mem_cons.mp m with e | m
    · rw [e, nD] at hy; cases hy
    · exact x m
  · obtain ⟨i, r, xs, z1, z2, z3, z4, z5, z6, z7⟩ := F2.io ds h
    exact ⟨i, r, xs, z1, z2, List.mem_cons_of_mem _ z3, z4, z5, z6, z7⟩
  · obtain ⟨q1, q2, q3⟩ := F.iod r h
    exact ⟨List.mem_cons_of_mem _ q1, q2, q3⟩
theorem Fr.toBlk {R : RC} {O : List Addr} {S : Env} {row : Row} {σ : L2.St} {H : Hp} {scope : Scope} (F : Fr R c B O S row σ H) : Fr R (blkCtx c scope) B O S row σ H :=
  ⟨F.len, F.keep, F.bdom, F.odom, F.onew, F.val, F.own, F.inj, F.io, F.ion, F.ior, F.iod⟩
theorem wipe_in {σ : L2.St} {i : Nat} : ∀ {vs : List Nat}, i ∈ vs → i < σ.length → (L2.wipe σ vs)[i]? = some none
  | v :: vs, h, hl => by
    unfold L2.wipe
    by_cases e : v = i
    · subst e
      rw [List.getElem?_set_self (by rw [wipe_length]; exact hl)]
    · rw [List.getElem?_set_ne e]
      exact wipe_in ((List.mem_cons.mp h).resolve_left fun z => e z.symm) hl
theorem wipe_chg {σ σ2 : L2.St} {vs : List Nat} (h : Chg vs (L2.wipe σ vs) σ2) : L2.wipe σ2 vs = L2.wipe σ vs := by
  have hl : σ2.length = σ.length := by rw [h.len, wipe_length]
  refine List.ext_getElem? fun i => ?_
  by_cases hi : i ∈ vs
  · by_cases hz : i < σ.length
    · rw [wipe_in hi hz, wipe_in hi (by rw [hl]; exact hz)]
    · rw [List.getElem?_eq_none (by rw [wipe_length, hl]; omega), List.getElem?_eq_none (by rw [wipe_length]; omega)]
  · rw [wipe_out hi, h.out i hi]
theorem ioA_chg {σ σ2 : L2.St} {vs : List Nat} (h : Chg vs (L2.wipe σ vs) σ2) (hv : ∀ i ∈ vs, isIo c i = false) : ∀ i, c.io = some i → σ2[i]? = σ[i]? := fun i hi => by
  have hn : i ∉ vs := fun m => by
    have := hv i m
    unfold isIo at this
    rw [hi] at this
    simp at this
  rw [h.out i hn, wipe_out hn]
theorem ioA_eq {c' : Ctx} {σ σ2 : L2.St} (he : c'.io = c.io) (h : ∀ i, c.io = some i → σ2[i]? = σ[i]?) : ioA c' σ2 = ioA c σ := by
  unfold ioA
  rw [he]
  cases e : c.io with
  | none => rfl
  | some i => dsimp only; rw [h i e]
theorem Ext.mono {L L' : List Addr} {H H' : Hp} (e : Ext L H H') (h : ∀ a ∈ L, a ∈ L') : Ext L' H H' := ⟨fun a o z k => e.st a o z (k.imp (fun n m => n (h a m)) fun z => z), e.dom⟩
theorem it_use {R : RC} {O : List Addr} {S : Env} {row : Row} {σ : L2.St} {H H1 : Hp} {D : Addr} {p : List TH.D × Option Nat} {J : It} (hJ : ItV R c O S σ H1 p J) (Fi : Fr R c B (D :: O) S row σ H) (eO : Ext O H1 H) (nD : H1 D = none) (i : Nat) :
    (∀ d, p.1[i]? = some d → J.go i H ∧ ∀ x H', J.yld i H x H' → Same H H' ∧ Rp R (· ∉ D :: O) H' x d) ∧ (i = p.1.length → J.stop i H) := by
  obtain ⟨ds, oi⟩ := p
  cases oi with
  | none =>
    obtain ⟨h1, h2⟩ := hJ i H eO
    refine ⟨fun d hd => ?_, h2⟩
    obtain ⟨g, y⟩ := h1 d hd
    refine ⟨g, fun x H' hy => ?_⟩
    obtain ⟨q1, q2⟩ := y x H' hy
    refine ⟨q1, q2.imp fun a ⟨x, o, ho⟩ m => ?_⟩
    rcases List.mem_cons.mp m with e | m
    · rw [e, nD] at ho; cases ho
    · exact x m
  | some i0 =>
    obtain ⟨h1, h2, a, h3, h4⟩ := hJ
    subst h4
    obtain ⟨b, q1, q2, q3, q4, q5⟩ := Fi.own i0 _ h2 h1
    rw [h3] at q1
    cases q1
    refine it_list (R := R) (G := fun H2 => H2 = H) (P := (· ∉ D :: O)) (a := a) (ds := ds) (fun H2 e => ?_) i H rfl
    subst e
    obtain ⟨b, xs, e1, e2, r⟩ := q4
    cases e1
    exact ⟨xs, e2, r⟩
abbrev never : WX := fun _ _ _ _ => False
theorem lc_run (k : COk X C c W) {R : Evs} {elt tg it : Expr} {ifs : List Expr} {scope : Scope} (hok : lcOk c tg scope = true) {σ : L2.St} {H0 : Hp} {Q : VK} (h : tE (rc X C) c B W (lcEv R c elt tg it ifs scope) σ H0 Q) :
    tLc (tI (rc X C) c B W (itr (R.ev c) c tg it)) (gOf X.K (blkCtx c scope) tg) (tT (rc X C) (blkCtx c scope) B never (ifsE R (blkCtx c scope) ifs)) (tE (rc X C) (blkCtx c scope) B never (R.ev (blkCtx c scope) elt)) (blkVs c scope) σ H0 Q := by
  unfold lcOk at hok
  rw [Bool.and_eq_true, Bool.and_eq_true, Bool.and_eq_true] at hok
  obtain ⟨hcalm, hbb, htg, hvs⟩ := hok
  have hvio : ∀ i ∈ blkVs c scope, isIo c i = false := fun i hi => by
    have := List.all_eq_true.mp hvs i hi
    rw [Bool.not_eq_true', Bool.or_eq_false_iff] at this
    exact this.2
  obtain ⟨O, S, row, F, h⟩ := h
  refine ⟨O, S, row, F, h.bind.mono fun p r1 H1 F1 e1 h1 J hJ => ?_⟩
  intro D nD
  have nB : B.H D = none := by
    cases q : B.H D with
    | none => rfl
    | some z =>
      obtain ⟨o', h⟩ := F1.bdom D z q
      rw [nD] at h
      cases h
  have ioO : ∀ a ∈ ioA c σ, a ∈ O := fun a ha => (F1.iod a ha).1
  have ioD : ∀ a ∈ ioA c σ, a ≠ D := fun a ha e => by
    obtain ⟨o, ho⟩ := F1.odom a (ioO a ha)
    rw [e, nD] at ho
    cases ho
  have hL : ∀ a ∈ D :: ioA c σ, a ∈ D :: O ∧ (B.r = some a ∨ B.H a = none) ∧ ∀ j d, S[j]? = some (some d) → isOwn c j = true → σ[j]? ≠ some (some (.ref a)) := fun a ha => by
    rcases List.mem_cons.mp ha with e | ha
    · rw [e]
      refine ⟨List.mem_cons_self, .inr nB, fun j d h1 h2 h3 => ?_⟩
      obtain ⟨b, q1, q2, _⟩ := F1.own j d h1 h2
      rw [h3] at q1
      cases q1
      obtain ⟨o, ho⟩ := F1.odom _ q2
      rw [nD] at ho
      cases ho
    · obtain ⟨q1, q2, q3⟩ := F1.iod a ha
      exact ⟨List.mem_cons_of_mem _ q1, q2, q3⟩
  have pO : ∀ a, a ∉ D :: O → a ∉ D :: ioA c σ := fun a z m => z (by
    rcases List.mem_cons.mp m with e | m
    · rw [e]; exact List.mem_cons_self
    · exact List.mem_cons_of_mem _ (ioO a m))
  have pN : ∀ a, (H1 a = none ∧ a ≠ D) → a ∉ D :: ioA c σ := fun a q m => by
    rcases List.mem_cons.mp m with e | m
    · exact q.2 e
    · obtain ⟨o, ho⟩ := F1.odom a (ioO a m)
      rw [q.1] at ho
      cases ho
  have Fg : Fr (rc X C) c B (D :: O) S r1 σ (upd H1 D (.lst [])) := F1.addO nD
  have smN : Same H1 (upd H1 D (.lst [])) := same_upd nD
  let Qf : Rv → Row → Hp → Prop := fun rv _ H' => ∀ v, RvOk (rc X C) c O S σ H0 H' v rv → Q v H'
  let inv : Nat → Hp → Prop := fun i H => ∃ row acc nw vsa, Ext (D :: ioA c σ) (upd H1 D (.lst [])) H ∧ IoAt (rc X C) c σ row H ∧ (∀ r, B.r = some r → ∃ ds, row = some ds) ∧ H D = some (.lst vsa) ∧ Rps (rc X C) (· ∉ D :: O) H vsa acc ∧ (nw = true → Rps (rc X C) (fun a => H1 a = none ∧ a ≠ D) H vsa acc) ∧
    OutP (rc X C) c B W O S σ H1 (lcGo (fun d => tgt (blkCtx c scope) tg d (unset S (blkVs c scope))) (ifsE R (blkCtx c scope) ifs) (R.ev (blkCtx c scope) elt) (p.1.drop i) acc nw row) Qf
  refine ⟨fun i m H => m = p.1.length - i ∧ i ≤ p.1.length ∧ inv i H, ⟨_, rfl, Nat.zero_le _, r1, [], true, [], Ext.refl, (F1.same smN).ioAt, fun r h => let ⟨ds, _, q, _⟩ := F1.ior r h; ⟨ds, q⟩, upd_same, .nil, fun _ => .nil, h1⟩, ?_⟩
  rintro i m H ⟨rfl, hi, row2, acc, nw, vsa, E, io2, ir2, hD, ra, rn, hO⟩
  have Eio : Ext (ioA c σ) H1 H := ⟨fun a o ha z => by
    have hne : a ≠ D := ne_of_none ha nD
    refine E.st a o (smN a o ha) (z.imp (fun n m => ?_) fun z => z)
    rcases List.mem_cons.mp m with e | m
    · exact hne e
    · exact n m, fun a o ha => E.dom a o (smN a o ha)⟩
  have eO : Ext O H1 H := Eio.mono ioO
  have Fi : Fr (rc X C) c B (D :: O) S row2 σ H := Fg.step E hL io2 ir2
  obtain ⟨use1, use2⟩ := it_use hJ Fi eO nD i
  by_cases hlt : i < p.1.length
  · have hd : p.1[i]? = some p.1[i] := List.getElem?_eq_getElem hlt
    obtain ⟨hgo, hy⟩ := use1 _ hd
    rw [List.drop_eq_getElem_cons hlt] at hO
    rw [lcGo] at hO
    cases hb : tgt (blkCtx c scope) tg p.1[i] (unset S (blkVs c scope)) with
    | none => rw [hb] at hO; exact hO.elim
    | some S2 =>
      rw [hb] at hO
      dsimp only at hO
      refine .inr ⟨hgo, fun H' => inv (i + 1) H', fun H' q => ⟨p.1.length - (i + 1), by omega, rfl, hlt, q⟩, fun x H' y => ?_⟩
      obtain ⟨sm, rx⟩ := hy x H' y
      have Fw : Fr (rc X C) (blkCtx c scope) B (D :: O) (unset S (blkVs c scope)) row2 (L2.wipe σ (blkVs c scope)) H' := ((Fi.same sm).wipe hvio).toBlk
      obtain ⟨σ2, k1, F2, ch⟩ := tgt_ok hb Fw rx htg
      have hio2 : ∀ i, c.io = some i → σ2[i]? = σ[i]? := ioA_chg ch hvio
      have eio : ioA (blkCtx c scope) σ2 = ioA c σ := ioA_eq rfl hio2
      have toIo : ∀ {row H}, IoAt (rc X C) (blkCtx c scope) σ2 row H → IoAt (rc X C) c σ row H := fun q ds e => by
        obtain ⟨j, r, xs, z1, z2, z3, z4⟩ := q ds e
        have z1' : c.io = some j := z1
        exact ⟨j, r, xs, z1', by rw [← hio2 j z1']; exact z2, z3, z4⟩
      refine k1 _ ⟨wipe_chg ch, D :: O, S2, row2, F2, ?_⟩
      cases hT : ifsE R (blkCtx c scope) ifs S2 row2 with
      | no => rw [hT] at hO; exact hO.elim
      | ex z r3 => rw [hT] at hO; exact hO.elim
      | ok b r3 =>
        intro H3 F3 e3
        have e3io : Ext (D :: ioA c σ) H H3 := (Same.ext sm).trans ((eio ▸ e3.io : Ext (ioA c σ) H' H3).mono fun a m => List.mem_cons_of_mem _ m)
        have hD3 : H3 D = some (.lst vsa) := (eio ▸ e3.io : Ext (ioA c σ) H' H3).st D _ (sm D _ hD) (.inl fun m => ioD D m rfl)
        cases b with
        | false =>
          rw [hT] at hO
          exact iteF ⟨r3, acc, nw, vsa, E.trans e3io, toIo F3.ioAt, fun r h => let ⟨ds, _, q, _⟩ := F3.ior r h; ⟨ds, q⟩, hD3, ra.keep e3io pO (fun _ z => z), fun z => (rn z).keep e3io pN (fun _ z => z), hO⟩
        | true =>
          rw [hT] at hO
          dsimp only at hO
          refine iteT ⟨D :: O, S2, r3, F3, ?_⟩
          cases hE : R.ev (blkCtx c scope) elt S2 r3 with
          | no => rw [hE] at hO; exact hO.elim
          | ex z r4 => rw [hE] at hO; exact hO.elim
          | ok rv r4 =>
            intro H4 F4 e4 v kv
            rw [hE] at hO
            cases rv with
            | p _ => exact hO.elim
            | io => exact hO.elim
            | v kn y =>
              dsimp only at hO
              cases hz : sz acc.length with
              | false => rw [hz] at hO; exact hO.elim
              | true =>
                rw [hz] at hO
                have e4io : Ext (ioA c σ) H3 H4 := eio ▸ e4.io
                have hD4 : H4 D = some (.lst vsa) := e4io.st D _ hD3 (.inl fun m => ioD D m rfl)
                have eU : Ext (D :: ioA c σ) H4 (upd H4 D (.lst (vsa ++ [v]))) := ⟨fun a o ha z => by
                  have hne : a ≠ D := fun e => by
                    subst e
                    rcases z with z | z
                    · exact z List.mem_cons_self
                    · rw [hD4] at ha
                      cases ha
                      cases z
                  rw [upd_ne hne]
                  exact ha, fun a o ha => by
                  by_cases e : a = D
                  · rw [e]; exact ⟨_, upd_same⟩
                  · exact ⟨o, by rw [upd_ne e]; exact ha⟩⟩
                have eA : Ext (D :: ioA c σ) H (upd H4 D (.lst (vsa ++ [v]))) := (e3io.trans (e4io.mono fun a m => List.mem_cons_of_mem _ m)).trans eU
                refine ⟨vsa, hD4, by rw [ra.length]; exact sz_lt hz, r4, acc ++ [y], nw && (kn || y.lf), vsa ++ [v], E.trans eA, ?_, (fun r h => let ⟨ds, _, q, _⟩ := F4.ior r h; ⟨ds, q⟩), upd_same, ?_, fun z => ?_, hO⟩
                · intro ds e
                  obtain ⟨j, r, xs, z1, z2, z3, z4⟩ := toIo F4.ioAt ds e
                  have hne : r ≠ D := ioD r (by rw [ioA_of z1 z2]; exact List.mem_cons_self)
                  exact ⟨j, r, xs, z1, z2, by rw [upd_ne hne]; exact z3, z4.keep eU (fun _ z => z.elim) fun _ z => z⟩
                · exact (ra.keep eA pO fun _ z => z).append (.one (kv.1.keep eU pO fun _ z => z))
                · rw [Bool.and_eq_true, Bool.or_eq_true] at z
                  refine ((rn z.1).keep eA pN fun _ z => z).append (.one ?_)
                  rcases z.2 with z2 | z2
                  · refine ((kv.2 z2).imp fun a ha => ?_).keep eU pN fun _ z => z
                    refine ⟨?_, fun e => by rw [e, hD3] at ha; cases ha⟩
                    cases q : H1 a with
                    | none => rfl
                    | some o =>
                      obtain ⟨o', ho'⟩ := (E.trans e3io).dom a o (smN a o q)
                      rw [ha] at ho'
                      cases ho'
                  · exact (kv.1.lf (fun a => H1 a = none ∧ a ≠ D) z2).keep eU pN fun _ z => z
  · have hi2 : i = p.1.length := by omega
    refine .inl ⟨use2 hi2, ?_⟩
    rw [List.drop_eq_nil_of_le (Nat.le_of_eq hi2.symm)] at hO
    have Fo : Fr (rc X C) c B O S row2 σ H := F1.step Eio (fun a m => F1.iod a m) io2 ir2
    refine hO H Fo ⟨eO, Eio⟩ (.ref D) ⟨.lst (fun m => ?_) hD (ra.imp fun a z m => z (List.mem_cons_of_mem _ m)), fun z => .lst (e1.fresh nD) hD ((rn z).imp fun a q => e1.fresh q.1)⟩
    obtain ⟨o, ho⟩ := F1.odom D m
    rw [nD] at ho
    cases ho
theorem pts_of {Y : Cx} {RR : RC} {c' : Ctx} {R : Evs} {ifs : List Expr} (hT : ∀ e, PT Y e (tT RR c' B never (R.evT c' e))) : PTs Y ifs (tT RR c' B never (ifsE R c' ifs)) := match ifs with
  | [] => ⟨fun pins s σ H Q I ⟨O, S, row, F, h⟩ => pts_nil.run pins s σ H Q I (h H F ExE.refl)⟩
  | [t] => pts_one (hT t)
  | _ :: _ :: _ => ⟨fun pins s σ H Q I ⟨O, S, row, F, h⟩ => h.elim⟩
theorem noSet_fold {it : Expr} {env : PySem.Env} (hs : noSet it = true) : ∀ x, foldedSetIterable it env x = pure x := fun x => by
  cases it <;> first | rfl | cases hs
theorem s_lc (k : COk X C c W) {R : Evs} (he : ∀ e, PE X e (tE (rc X C) c B W (R.ev c e))) {elt tg it : Expr} {ifs : List Expr} {scope : Scope} {pos : Pos} (hok : lcOk c tg scope = true)
    (hE : ∀ s H Ca cl fp e, PE (X.blk s H scope (compEnvC scope cl Ca X.env) fp) e (tE (rc X C) (blkCtx c scope) B never (R.ev (blkCtx c scope) e))) (hT : ∀ s H Ca cl fp e, PT (X.blk s H scope (compEnvC scope cl Ca X.env) fp) e (tT (rc X C) (blkCtx c scope) B never (R.evT (blkCtx c scope) e)))
    (hs : noSet it = true) : PE X (.ListComp elt [⟨tg, it, ifs, 0⟩] scope pos) (tE (rc X C) c B W (lcEv R c elt tg it ifs scope)) := by
  have hok2 := hok
  unfold lcOk at hok2
  rw [Bool.and_eq_true, Bool.and_eq_true, Bool.and_eq_true] at hok2
  obtain ⟨hcalm, hbb, htg, hvs⟩ := hok2
  have hB := blkB_is hbb
  have hN : X.N.Nodup := by rw [k.N]; exact k.nd
  refine PE.imp (pe_lc (own := ownOf c.N scope.names) (tt := tT (rc X C) (blkCtx c scope) B never (ifsE R (blkCtx c scope) ifs)) (k.calm hcalm) hN (s_itr k he tg it) (blkOk_of k hB) (fun s H Ca cl fp => s_pg (k.blk hcalm hB s H Ca cl fp) tg) (fun s H Ca cl fp => ?_) (fun s H Ca cl fp => hE s H Ca cl fp elt) (fun x => ?_)) fun σ H Q h => lc_run k hok h
  · match ifs with
    | [] => exact ⟨fun pins s σ H Q I ⟨O, S, row, F, h⟩ => pts_nil.run pins s σ H Q I (h H F ExE.refl)⟩
    | [t] => exact pts_one (hT s H Ca cl fp t)
    | _ :: _ :: _ => exact ⟨fun pins s σ H Q I ⟨O, S, row, F, h⟩ => h.elim⟩
  · cases it <;> first | rfl | cases hs
end
end TH

set_option Elab.async false
set_option linter.all false
set_option maxRecDepth 100000
set_option maxHeartbeats 4000000
/-! DV13: statements. -/
namespace TH
open PySem PySem.Spec PyProof.Rows L2
section
variable {X : Cx} {C : Cn} {c : Ctx} {W : WX} {B : Bg} {R : RC}
theorem OutS.re {O O1 : List Addr} {H H1 : Hp} {x : SO} {Dn : Ends} (e : Ext O H H1) (s : Sub O O1 H) (h : OutS R c B W O H x Dn) : OutS R c B W O1 H1 x Dn := by
  cases x with
  | no => exact h
  | nx S row => exact fun O' σ' H' F e' s' => h O' σ' H' F (e.trans2 s e') (s.trans e s')
  | bk S row => exact fun O' σ' H' F e' s' => h O' σ' H' F (e.trans2 s e') (s.trans e s')
  | ct S row => exact fun O' σ' H' F e' s' => h O' σ' H' F (e.trans2 s e') (s.trans e s')
  | rt d row => exact h
  | ex z S row => exact fun dd O' σ' H' F e' s' => h dd O' σ' H' F (e.trans2 s e') (s.trans e s')
theorem OutS.lift {O : List Addr} {S : Env} {σ : L2.St} {H : Hp} {α : Type} {x : Out α} {f : α → Row → SO} {Dn : Ends} (h : OutS R c B W O H (liftS S x f) Dn) :
    OutP R c B W O S σ H x fun a r H' => OutS R c B W O H' (f a r) Dn := by
  cases x with
  | no => exact h
  | ok a r => exact fun H' F e => OutS.re e.ext Sub.refl h
  | ex z r => exact fun dd H' F e xf => h dd O σ H' F e.ext Sub.refl xf
theorem tS_no {s : Stmt} : PS X s (tS R c B W fun _ _ => .no) := PS.imp PS.never fun Dn σ H ⟨_, _, _, _, h⟩ => h
theorem s_seq {fS : Stmt → Env → Row → SO} (hs : ∀ s, PS X s (tS R c B W (fS s))) : ∀ ss, PSs X ss (tS R c B W (seqS fS ss))
  | [] => PSs.imp pss_nil fun Dn σ H ⟨O, S, row, F, h⟩ => h O σ H F Ext.refl Sub.refl
  | s :: ss => by
    refine PSs.imp (pss_cons (hs s) (s_seq hs ss)) fun Dn σ H ⟨O, S, row, F, h⟩ => ⟨O, S, row, F, ?_⟩
    rw [seqS] at h
    cases e : fS s S row with
    | no => rw [e] at h; exact h
    | nx S1 r1 =>
      rw [e] at h
      exact fun O' σ' H' F' e' s' => ⟨O', S1, r1, F', OutS.re e' s' h⟩
    | bk S1 r1 => rw [e] at h; exact h
    | ct S1 r1 => rw [e] at h; exact h
    | rt d r1 => rw [e] at h; exact h
    | ex z S1 r1 => rw [e] at h; exact h
theorem s_ifS {t : Expr} {a b : List Stmt} {pos : Pos} {ft : Env → Row → Out Bool} {fa fb : Env → Row → SO} (ht : PT X t (tT R c B W ft)) (ha : PSs X a (tS R c B W fa)) (hb : PSs X b (tS R c B W fb)) :
    PS X (.If t a b pos) (tS R c B W fun S r => liftS S (ft S r) fun k r => match k with
      | true => fa S r
      | false => fb S r) := by
  refine PS.imp (ps_if ht ha hb) fun Dn σ H ⟨O, S, row, F, h⟩ => ⟨O, S, row, F, (OutS.lift h).mono fun k r1 H1 F1 e1 h1 => ?_⟩
  cases k with
  | true => exact iteT ⟨O, S, r1, F1, h1⟩
  | false => exact iteF ⟨O, S, r1, F1, h1⟩
theorem Fr.retOk {O : List Addr} {S : Env} {row : Row} {σ : L2.St} {H : Hp} {v : V} {d : D} (F : Fr R c B O S row σ H) (h : Rp R (fun a => B.H a = none) H v d) : RetOk R B row H v d := by
  refine ⟨F.keep, F.bdom, fun r hr => ?_, h⟩
  obtain ⟨ds, i, e, h1, h2⟩ := F.ior r hr
  obtain ⟨j, r', xs, z1, z2, z3, z4, z5, z6, z7⟩ := F.io ds e
  rw [h1] at z1
  cases z1
  rw [h2] at z2
  cases z2
  exact ⟨ds, xs, e, z5, z6⟩
theorem Fr.bnone {O : List Addr} {S : Env} {row : Row} {σ : L2.St} {H : Hp} (F : Fr R c B O S row σ H) {a : Addr} (h : H a = none) : B.H a = none := by
  cases q : B.H a with
  | none => rfl
  | some o =>
    obtain ⟨o', z⟩ := F.bdom a o q
    rw [h] at z
    cases z
theorem s_ret {e : Expr} {pos : Pos} {fe : Env → Row → Out Rv} (he : PE X e (tE R c B W fe)) : PS X (.Return (some e) pos) (tS R c B W fun S r => liftS S (fe S r) fun v r => retS c v S r) := by
  refine PS.imp (ps_ret he) fun Dn σ H ⟨O, S, row, F, h⟩ => ⟨O, S, row, F, (OutS.lift h).mono fun rv r1 H1 F1 e1 h1 v kv => ?_⟩
  cases rv with
  | v nw d =>
    dsimp only [retS] at h1
    cases hn : nw || d.lf with
    | false => rw [hn] at h1; exact h1.elim
    | true =>
      rw [hn] at h1
      refine h1 v H1 (F1.retOk ?_)
      rw [Bool.or_eq_true] at hn
      rcases hn with hn | hn
      · exact (kv.2 hn).imp fun a q => F.bnone q
      · exact kv.1.lf _ hn
  | p i =>
    dsimp only [retS] at h1
    split at h1
    · rename_i d hd
      cases hn : d.elf with
      | false => rw [hn] at h1; exact h1.elim
      | true =>
        rw [hn] at h1
        obtain ⟨p1, p2, _⟩ := kv
        obtain ⟨a, q1, q2, q3, q4, q5⟩ := F1.own i d hd p1
        rw [p2] at q1
        have ev : v = .ref a := Option.some.inj (Option.some.inj q1)
        subst ev
        refine h1 _ H1 (F1.retOk ((q4.elf _ hn).rp fun b eb _ => ?_))
        cases eb
        exact F1.onew a q2 q3
    · exact h1.elim
  | io => exact h1.elim
theorem s_retN {pos : Pos} : PS X (.Return none pos) (tS R c B W fun _ r => .rt .non r) :=
  PS.imp ps_retN fun Dn σ H ⟨O, S, row, F, h⟩ => h .non H (F.retOk .non)
theorem s_pass {pos : Pos} : PS X (.Pass pos) (tS R c B W fun S r => .nx S r) := PS.imp ps_pass fun Dn σ H ⟨O, S, row, F, h⟩ => h O σ H F Ext.refl Sub.refl
theorem s_break {pos : Pos} : PS X (.Break pos) (tS R c B W fun S r => .bk S r) := PS.imp ps_break fun Dn σ H ⟨O, S, row, F, h⟩ => h O σ H F Ext.refl Sub.refl
theorem s_cont {pos : Pos} : PS X (.Continue pos) (tS R c B W fun S r => .ct S r) := PS.imp ps_continue fun Dn σ H ⟨O, S, row, F, h⟩ => h O σ H F Ext.refl Sub.refl

/-! ### a value goes into a slot -/
/-- an object that came since becomes the frame's own -/
theorem Fr.takeNew {O : List Addr} {S : Env} {row row1 : Row} {σ : L2.St} {H H1 : Hp} {a : Addr} {o : HO} (F : Fr R c B O S row σ H) (F1 : Fr R c B O S row1 σ H1) (e : ExE c σ O H H1) (na : H a = none) (ha : H1 a = some o) : Fr R c B (a :: O) S row1 σ H1 := by
  have aO : a ∉ O := fun m => by
    obtain ⟨z, hz⟩ := F.odom a m
    rw [na] at hz
    cases hz
  refine ⟨F1.len, F1.keep, F1.bdom, fun b h => ?_, fun b h z => ?_, fun i d h z => ?_, fun i d h z => ?_, F1.inj, fun ds h => ?_, F1.ion, F1.ior, fun r h => ?_⟩
  · rcases List.mem_cons.mp h with q | h
    · rw [q]; exact ⟨_, ha⟩
    · exact F1.odom b h
  · rcases List.mem_cons.mp h with q | h
    · rw [q]; exact F.bnone na
    · exact F1.onew b h z
  · obtain ⟨v, h1, h2⟩ := F.val i d h z
    obtain ⟨v1, g1, g2⟩ := F1.val i d h z
    rw [h1] at g1
    cases g1
    refine ⟨v, h1, h2.has.keep e.ext (fun b x => x.1) fun b ⟨x, y, hy⟩ m => ?_⟩
    rcases List.mem_cons.mp m with q | m
    · rw [q, na] at hy; cases hy
    · exact x m
  · obtain ⟨b, h1, h2, h3, h4, h5⟩ := F1.own i d h z
    obtain ⟨b', h1', h2', h3', h4', h5'⟩ := F.own i d h z
    rw [h1] at h1'
    cases h1'
    refine ⟨b, h1, List.mem_cons_of_mem _ h2, h3, ?_, h5⟩
    have hh : RpE R (fun a => a ∉ O ∧ ∃ o, H a = some o) H (.ref b) d := by
      cases d with
      | lst ds =>
        obtain ⟨b, xs, e1, e2, r⟩ := h4'
        exact ⟨b, xs, e1, e2, r.has⟩
      | dct ks ds =>
        obtain ⟨b, xs, vs, e1, e2, n, r1, z, r2⟩ := h4'
        exact ⟨b, xs, vs, e1, e2, n, r1.has, z, r2.has⟩
      | _ => exact Rp.has h4'
    have kp : ∀ b', V.ref b = .ref b' → isCon d = true → ∀ o', H b' = some o' → H1 b' = some o' := fun b' eb _ o' ho => e.io.st b' o' ho (.inl fun m => by
      cases eb
      exact (F.iod _ m).2.2 i d h z h1)
    refine hh.keep e.ext (fun _ x => x.1) (fun a ⟨x, y, hy⟩ m => ?_) kp
    rcases List.mem_cons.mp m with q | m
    · rw [q, na] at hy; cases hy
    · exact x m
  · obtain ⟨i, r, xs, z1, z2, z3, z4, z5, z6, z7⟩ := F1.io ds h
    exact ⟨i, r, xs, z1, z2, List.mem_cons_of_mem _ z3, z4, z5, z6, z7⟩
  · obtain ⟨q1, q2, q3⟩ := F1.iod r h
    exact ⟨List.mem_cons_of_mem _ q1, q2, q3⟩
theorem get_set_self {α : Type} {l : List α} {i : Nat} {x : α} (h : i < l.length) : (l.set i x)[i]? = some x := List.getElem?_set_self h
/-- a list of the frame's own goes into its slot -/
theorem Fr.setOwn {O : List Addr} {S : Env} {row : Row} {σ : L2.St} {H : Hp} {i : Nat} {a : Addr} {d : D} (F : Fr R c B O S row σ H) (ha : a ∈ O) (ho : isOwn c i = true) (hi : isIo c i = false) (hr : B.r ≠ some a)
    (hn : ∀ j d', S[j]? = some (some d') → isOwn c j = true → σ[j]? ≠ some (some (.ref a))) (hio : ∀ r ∈ ioA c σ, r ≠ a) (hc : isCon d = true) (r : RpE R (· ∉ O) H (.ref a) d) : Fr R c B O (S.set i (some d)) row (σ.set i (some (.ref a))) H := by
  have nio : ∀ j, c.io = some j → i ≠ j := fun j e z => by
    subst z
    unfold isIo at hi
    rw [e] at hi
    simp at hi
  refine ⟨by rw [List.length_set, List.length_set]; exact F.len, F.keep, F.bdom, F.odom, F.onew, fun j d' h z => ?_, fun j d' h z => ?_, fun j j' d1 d2 b h1 h2 o1 o2 s1 s2 => ?_, fun ds h => ?_, fun j h1 h2 => ?_, fun r hr => ?_, fun r hr => ?_⟩
  · rcases get_set h with ⟨e, e2, hl⟩ | ⟨e, h⟩
    · subst e
      rw [ho] at z
      cases z
    · obtain ⟨w, q1, q2⟩ := F.val j d' h z
      exact ⟨w, by rw [List.getElem?_set_ne e]; exact q1, q2⟩
  · rcases get_set h with ⟨e, e2, hl⟩ | ⟨e, h⟩
    · subst e
      cases e2
      exact ⟨a, by rw [List.getElem?_set_self (by rw [← F.len]; exact hl)], ha, hr, r, hc⟩
    · obtain ⟨b, q1, q2⟩ := F.own j d' h z
      exact ⟨b, by rw [List.getElem?_set_ne e]; exact q1, q2⟩
  · rcases get_set h1 with ⟨e, _, hl⟩ | ⟨e, h1⟩
    · subst e
      rcases get_set h2 with ⟨e', _⟩ | ⟨e', h2⟩
      · exact e'
      · rw [List.getElem?_set_self (by rw [← F.len]; exact hl)] at s1
        cases s1
        rw [List.getElem?_set_ne e'] at s2
        exact absurd s2 (hn j' d2 h2 o2)
    · rcases get_set h2 with ⟨e', _, hl⟩ | ⟨e', h2⟩
      · subst e'
        rw [List.getElem?_set_self (by rw [← F.len]; exact hl)] at s2
        cases s2
        rw [List.getElem?_set_ne e] at s1
        exact absurd s1 (hn j d1 h1 o1)
      · rw [List.getElem?_set_ne e] at s1
        rw [List.getElem?_set_ne e'] at s2
        exact F.inj j j' d1 d2 b h1 h2 o1 o2 s1 s2
  · obtain ⟨j, r', xs, z1, z2, z3, z4, z5, z6, z7⟩ := F.io ds h
    have hne : r' ≠ a := hio r' (by rw [ioA_of z1 z2]; exact List.mem_cons_self)
    refine ⟨j, r', xs, z1, by rw [List.getElem?_set_ne (nio j z1)]; exact z2, z3, z4, z5, z6, fun j' d' h1 h2 h3 => ?_⟩
    rcases get_set h1 with ⟨e, _, hl⟩ | ⟨e, h1⟩
    · subst e
      rw [List.getElem?_set_self (by rw [← F.len]; exact hl)] at h3
      cases h3
      exact hne rfl
    · rw [List.getElem?_set_ne e] at h3
      exact z7 j' d' h1 h2 h3
  · rw [List.getElem?_set_ne (nio j h1)] at h2 ⊢
    exact F.ion j h1 h2
  · obtain ⟨ds, j, h1, h2, h3⟩ := F.ior r hr
    exact ⟨ds, j, h1, h2, by rw [List.getElem?_set_ne (nio j h2)]; exact h3⟩
  · rw [ioA_set hi] at hr
    obtain ⟨q1, q2, q3⟩ := F.iod r hr
    refine ⟨q1, q2, fun j' d' h1 h2 h3 => ?_⟩
    rcases get_set h1 with ⟨e, _, hl⟩ | ⟨e, h1⟩
    · subst e
      rw [List.getElem?_set_self (by rw [← F.len]; exact hl)] at h3
      cases h3
      exact hio _ hr rfl
    · rw [List.getElem?_set_ne e] at h3
      exact q3 j' d' h1 h2 h3
/-- a place is no longer the frame's own -/
theorem Fr.release {O : List Addr} {S : Env} {row : Row} {σ : L2.St} {H : Hp} {i : Nat} {a : Addr} {d : D} (F : Fr R c B O S row σ H) (hd : S[i]? = some (some d)) (ho : isOwn c i = true) (ha : σ[i]? = some (some (.ref a))) (hni : isIo c i = false) :
    Fr R c B (O.filter (· ≠ a)) (S.set i none) row σ H ∧ Rp R (· ∉ O.filter (· ≠ a)) H (.ref a) d := by
  have sub : ∀ b, b ∈ O.filter (· ≠ a) ↔ b ∈ O ∧ b ≠ a := fun b => by simp [List.mem_filter]
  have gs : ∀ {j : Nat} {d : D}, (S.set i none)[j]? = some (some d) → i ≠ j ∧ S[j]? = some (some d) := fun {j d} h => by
    rcases get_set h with ⟨_, e, _⟩ | h
    · cases e
    · exact h
  have imp : ∀ b, b ∉ O → b ∉ O.filter (· ≠ a) := fun b n m => n ((sub b).mp m).1
  obtain ⟨a', g1, g2, g3, g4, g5⟩ := F.own i d hd ho
  rw [ha] at g1
  cases g1
  refine ⟨⟨by rw [List.length_set]; exact F.len, F.keep, F.bdom, fun b h => F.odom b ((sub b).mp h).1, fun b h => F.onew b ((sub b).mp h).1, fun j d' h z => ?_, fun j d' h z => ?_, fun j j' d1 d2 b h1 h2 o1 o2 s1 s2 => F.inj j j' d1 d2 b (gs h1).2 (gs h2).2 o1 o2 s1 s2, fun ds h => ?_, fun j h1 h2 => ?_, F.ior, fun r hr => ?_⟩, (g4.imp imp).rp fun b eb _ m => ?_⟩
  · obtain ⟨v, q1, q2⟩ := F.val j d' (gs h).2 z
    exact ⟨v, q1, q2.imp imp⟩
  · obtain ⟨e, h⟩ := gs h
    obtain ⟨b, q1, q2, q3, q4, q5⟩ := F.own j d' h z
    refine ⟨b, q1, (sub b).mpr ⟨q2, fun e2 => ?_⟩, q3, q4.imp imp, q5⟩
    subst e2
    exact e (F.inj i j d d' b hd h ho z ha q1)
  · obtain ⟨j, r', xs, z1, z2, z3, z4, z5, z6, z7⟩ := F.io ds h
    refine ⟨j, r', xs, z1, z2, (sub r').mpr ⟨z3, fun e => ?_⟩, z4, z5, z6, fun j' d' h1 h2 => z7 j' d' (gs h1).2 h2⟩
    subst e
    exact z7 i d hd ho ha
  · have hij : i ≠ j := fun z => by
      subst z
      unfold isIo at hni
      rw [h1] at hni
      simp at hni
    rw [List.getElem?_set_ne hij] at h2 ⊢
    exact F.ion j h1 h2
  · obtain ⟨q1, q2, q3⟩ := F.iod r hr
    refine ⟨(sub r).mpr ⟨q1, fun e => ?_⟩, q2, fun j' d' h1 h2 => q3 j' d' (gs h1).2 h2⟩
    subst e
    exact q3 i d hd ho ha
  · cases eb
    exact ((sub a).mp m).2 rfl
/-- the row goes into its slot -/
theorem Fr.setIo {O : List Addr} {S : Env} {σ : L2.St} {H : Hp} {i : Nat} {a : Addr} {ds : List D} {xs : List V} (F : Fr R c B (a :: O) S none σ H) (hi : isIo c i = true) (hl : i < σ.length) (hb : B.H a = none)
    (hn : ∀ j d', S[j]? = some (some d') → isOwn c j = true → σ[j]? ≠ some (some (.ref a))) (hno : ∀ i, c.io = some i → isOwn c i = false) (ha : H a = some (.lst xs)) (r : Rps R (fun _ => False) H xs ds) : Fr R c B (a :: O) S (some ds) (σ.set i (some (.ref a))) H := by
  have cio : c.io = some i := by
    unfold isIo at hi
    split at hi
    · rename_i j e
      rw [e, Nat.eq_of_beq_eq_true hi]
    · cases hi
  have sn : S[i]? = some none := F.ion i cio ⟨_, List.getElem?_eq_getElem (by rw [F.len]; exact hl)⟩
  have ne : ∀ {j : Nat} {d : D}, S[j]? = some (some d) → i ≠ j := fun {j d} h e => by
    subst e
    rw [sn] at h
    cases h
  refine ⟨by rw [List.length_set]; exact F.len, F.keep, F.bdom, F.odom, F.onew, fun j d' h z => ?_, fun j d' h z => ?_, fun j j' d1 d2 b h1 h2 o1 o2 s1 s2 => ?_, fun ds' h => ?_, F.ion, fun r hr => ?_, fun r hr => ?_⟩
  · obtain ⟨w, q1, q2⟩ := F.val j d' h z
    exact ⟨w, by rw [List.getElem?_set_ne (ne h)]; exact q1, q2⟩
  · obtain ⟨w, q1, q2⟩ := F.own j d' h z
    exact ⟨w, by rw [List.getElem?_set_ne (ne h)]; exact q1, q2⟩
  · rw [List.getElem?_set_ne (ne h1)] at s1
    rw [List.getElem?_set_ne (ne h2)] at s2
    exact F.inj j j' d1 d2 b h1 h2 o1 o2 s1 s2
  · cases h
    refine ⟨i, a, xs, cio, get_set_self hl, List.mem_cons_self, .inr hb, ha, r, fun j' d' h1 h2 => ?_⟩
    rw [List.getElem?_set_ne (ne h1)]
    exact hn j' d' h1 h2
  · obtain ⟨ds, j, h1, h2, h3⟩ := F.ior r hr
    cases h1
  · rw [ioA_of cio (get_set_self hl)] at hr
    have e := List.mem_singleton.mp hr
    subst e
    refine ⟨List.mem_cons_self, .inr hb, fun j' d' h1 h2 => ?_⟩
    rw [List.getElem?_set_ne (ne h1)]
    exact hn j' d' h1 h2
end
end TH

set_option Elab.async false
set_option linter.all false
set_option maxRecDepth 100000
set_option maxHeartbeats 4000000
/-! DV14: statements. -/
namespace TH
open PySem PySem.Spec PyProof.Rows L2
section
variable {X : Cx} {C : Cn} {c : Ctx} {W : WX} {B : Bg} {R : RC}
theorem OutS.lift0 {O : List Addr} {S : Env} {σ : L2.St} {H : Hp} {α : Type} {x : Out α} {f : α → Row → SO} {Dn : Ends} (h : OutS R c B W O H (liftS S x f) Dn) :
    OutP R c B W O S σ H x fun a r H' => OutS R c B W O H (f a r) Dn := by
  cases x with
  | no => exact h
  | ok a r => exact fun H' F e => h
  | ex z r => exact fun dd H' F e xf => h dd O σ H' F e.ext Sub.refl xf
theorem isIo_own (hno : ∀ i, c.io = some i → isOwn c i = false) {i : Nat} (h : isOwn c i = true) : isIo c i = false := by
  unfold isIo
  split
  · rename_i j e
    cases hb : Nat.beq i j with
    | false => rfl
    | true =>
      have := Nat.eq_of_beq_eq_true hb
      subst this
      rw [hno _ e] at h
      cases h
  · rfl
theorem put_core (hno : ∀ i, c.io = some i → isOwn c i = false) {O : List Addr} {S : Env} {row row1 : Row} {σ : L2.St} {H H1 : Hp} {i : Nat} {rv : Rv} {v : V} {Dn : Ends} (F : Fr R c B O S row σ H) (F1 : Fr R c B O S row1 σ H1) (e1 : ExE c σ O H H1) (kv : RvOk R c O S σ H H1 v rv)
    (h : OutS R c B W O H (putS c i rv S row1) Dn) : Dn.nx (σ.set i (some v)) H1 := by
  have fresh : ∀ {a : Addr}, H a = none → (∀ j d', S[j]? = some (some d') → isOwn c j = true → σ[j]? ≠ some (some (.ref a))) ∧ (∀ r ∈ ioA c σ, r ≠ a) ∧ B.r ≠ some a := fun {a} na => by
    refine ⟨fun j d' h1 h2 h3 => ?_, fun r hr e => ?_, fun e => ?_⟩
    · obtain ⟨b, q1, q2, _⟩ := F.own j d' h1 h2
      rw [h3] at q1
      cases q1
      obtain ⟨o, ho⟩ := F.odom _ q2
      rw [na] at ho
      cases ho
    · subst e
      obtain ⟨o, ho⟩ := F.odom _ (F.iod _ hr).1
      rw [na] at ho
      cases ho
    · obtain ⟨ds, j, h1, h2, h3⟩ := F.ior a e
      obtain ⟨k, r', xs, z1, z2, z3, z4, z5, z6, z7⟩ := F.io ds h1
      rw [h2] at z1
      cases z1
      rw [h3] at z2
      cases z2
      rw [na] at z5
      cases z5
  have sub : ∀ {a : Addr}, H a = none → Sub O (a :: O) H := fun {a} na b hb => by
    rcases List.mem_cons.mp hb with e | hb
    · rw [e]; exact .inr na
    · exact .inl hb
  unfold putS at h
  cases hio : isIo c i with
  | true =>
    rw [hio] at h
    dsimp only at h
    split at h
    · rename_i ds w hs
      split at h
      · rename_i hl
        have rp := kv.2 rfl
        cases rp with
        | lst na ha r =>
          obtain ⟨f1, f2, f3⟩ := fresh na
          have hlen : i < σ.length := by
            rw [← F.len]
            exact (List.getElem?_eq_some_iff.mp hs).1
          exact h _ _ _ (Fr.setIo (F.takeNew F1 e1 na ha) hio hlen (F.bnone na) f1 hno ha (r.lf _ hl)) e1.ext (sub na)
      · exact h.elim
    · exact h.elim
  | false =>
    rw [hio] at h
    dsimp only at h
    cases ho : isOwn c i with
    | true =>
      rw [ho] at h
      dsimp only at h
      split at h
      · rename_i d
        split at h
        · rename_i hl
          rw [Bool.and_eq_true] at hl
          have rp := kv.2 rfl
          obtain ⟨a, o, rfl, na, ha⟩ : ∃ a o, v = .ref a ∧ H a = none ∧ H1 a = some o := by
            cases d with
            | lst ds => cases rp with
              | lst na ha r => exact ⟨_, _, rfl, na, ha⟩
            | dct ks ds => cases rp with
              | dct na ha n r1 z r2 => exact ⟨_, _, rfl, na, ha⟩
            | _ => cases hl.1
          obtain ⟨f1, f2, f3⟩ := fresh na
          exact h _ _ _ ((F.takeNew F1 e1 na ha).setOwn List.mem_cons_self ho hio f3 f1 f2 hl.1 (rp.e.elf _ hl.2)) e1.ext (sub na)
        · exact h.elim
      · rename_i j
        split at h
        · rename_i d hd
          obtain ⟨p1, p2, _⟩ := kv
          obtain ⟨a, q1, q2, q3, q4, q5⟩ := F1.own j d hd p1
          rw [p2] at q1
          have ev : v = .ref a := Option.some.inj (Option.some.inj q1)
          subst ev
          have sσ : σ.set j (some (.ref a)) = σ := by
            refine List.ext_getElem? fun m => ?_
            by_cases e : j = m
            · subst e
              rw [p2]
              exact get_set_self (List.getElem?_eq_some_iff.mp p2).1
            · rw [List.getElem?_set_ne e]
          have F0 : Fr R c B O (S.set j none) row1 σ H1 := by
            have := F1.setNo (o := some (.ref a)) (isIo_own hno p1)
            rw [sσ] at this
            exact this
          have other : ∀ m d2, (S.set j none)[m]? = some (some d2) → isOwn c m = true → σ[m]? ≠ some (some (.ref a)) := fun m d2 h1 h2 h3 => by
            rcases get_set h1 with ⟨_, e, _⟩ | ⟨e, h1⟩
            · cases e
            · exact e (F1.inj j m d d2 a hd h1 p1 h2 p2 h3)
          have ioN : ∀ r ∈ ioA c σ, r ≠ a := fun r hr e => by
            subst e
            exact (F1.iod _ hr).2.2 j d hd p1 p2
          exact h _ _ _ (F0.setOwn q2 ho hio q3 other ioN q5 q4) e1.ext Sub.refl
        · exact h.elim
      · exact h.elim
    | false =>
      rw [ho] at h
      dsimp only at h
      split at h
      · exact h _ _ _ (F1.setVal ho hio kv.1) e1.ext Sub.refl
      · rename_i j
        split at h
        · rename_i d hd
          obtain ⟨p1, p2, _⟩ := kv
          obtain ⟨a, q1, q2, q3, q4, q5⟩ := F1.own j d hd p1
          rw [p2] at q1
          have ev : v = .ref a := Option.some.inj (Option.some.inj q1)
          subst ev
          obtain ⟨F2, rp⟩ := F1.release hd p1 p2 (isIo_own hno p1)
          exact h _ _ _ (F2.setVal ho hio rp) e1.ext (fun b hb => .inl (List.mem_filter.mp hb).1)
        · exact h.elim
      · exact h.elim
theorem swNo {e : Expr} {t : Option Expr} {l : Nat} {env : PySem.Env} (h : noComp e = true) : swapsWith e t l env = pure false := by
  unfold swapsWith
  cases e <;> first | rfl | cases h
theorem asg_core (hno : ∀ i, c.io = some i → isOwn c i = false) {i : Nat} {fe : Env → Row → Out Rv} {Dn : Ends} {σ : L2.St} {H : Hp} (h : tS R c B W (fun S r => liftS S (fe S r) fun v r => putS c i v S r) Dn σ H) : tAsg (tE R c B W fe) (gName i) Dn σ H := by
  obtain ⟨O, S, row, F, h⟩ := h
  exact ⟨O, S, row, F, (OutS.lift0 h).mono fun rv r1 H1 F1 e1 h1 v kv => put_core hno F F1 e1 kv h1⟩
/-- name = e -/
theorem s_asg (k : COk X C c W) {x : Str} {p pos : Pos} {i : Nat} (hi : slotL c x = some i) {e : Expr} {fe : Env → Row → Out Rv} (he : PE X e (tE (rc X C) c B W fe)) (hn : noComp e = true) :
    PS X (.Assign [.Name x p] e pos) (tS (rc X C) c B W fun S r => liftS S (fe S r) fun v r => putS c i v S r) := by
  obtain ⟨h1, h2, h3, _⟩ := k.slotL hi
  exact PS.imp (ps_set (by rw [k.N]; exact k.nd) h1 h2 he (swNo hn) h3) fun Dn σ H h => asg_core k.noio h
theorem s_asgLc (k : COk X C c W) {R : Evs} (he : ∀ e, PE X e (tE (rc X C) c B W (R.ev c e))) {x : Str} {p pos : Pos} {i : Nat} (hi : slotL c x = some i) {elt tg it : Expr} {ifs : List Expr} {scope : Scope} {lpos : Pos} (hok : lcOk c tg scope = true)
    (hE : ∀ s H Ca cl fp e, PE (X.blk s H scope (compEnvC scope cl Ca X.env) fp) e (tE (rc X C) (blkCtx c scope) B never (R.ev (blkCtx c scope) e))) (hT : ∀ s H Ca cl fp e, PT (X.blk s H scope (compEnvC scope cl Ca X.env) fp) e (tT (rc X C) (blkCtx c scope) B never (R.evT (blkCtx c scope) e)))
    (hs : noSet it = true) : PS X (.Assign [.Name x p] (.ListComp elt [⟨tg, it, ifs, 0⟩] scope lpos) pos) (tS (rc X C) c B W fun S r => liftS S (lcEv R c elt tg it ifs scope S r) fun v r => putS c i v S r) := by
  obtain ⟨h1, h2, h3, _⟩ := k.slotL hi
  have hN : X.N.Nodup := by rw [k.N]; exact k.nd
  have hsw : swapsWith (.ListComp elt [⟨tg, it, ifs, 0⟩] scope lpos) (some (.Name x p)) pos.line X.env = pure (X.env.blockKind == .function && X.env.kindOf x == some .local && p.line == lpos.line
      && !(scope.names.any fun (n, k) => n == x && (k == .local || k == .cell))) := rfl
  cases hb : (X.env.blockKind == .function && X.env.kindOf x == some .local && p.line == lpos.line
      && !(scope.names.any fun (n, k) => n == x && (k == .local || k == .cell))) with
  | false =>
    rw [hb] at hsw
    exact PS.imp (ps_set hN h1 h2 (s_lc k he hok hE hT hs) hsw h3) fun Dn σ H h => asg_core k.noio h
  | true =>
    rw [hb] at hsw
    simp only [Bool.and_eq_true] at hb
    have hloc : X.env.scope.names.lookup x = some .local := by
      have := hb.1.1.2
      have e : X.env.kindOf x = some .local := by
        cases q : X.env.kindOf x with
        | none => rw [q] at this; cases this
        | some z => rw [q] at this; cases z <;> first | rfl | cases this
      exact e
    have hok2 := hok
    unfold lcOk at hok2
    rw [Bool.and_eq_true, Bool.and_eq_true, Bool.and_eq_true] at hok2
    obtain ⟨hcalm, hbb, htg, hvs⟩ := hok2
    have hB := blkB_is hbb
    refine PS.imp (ps_setLc (own := ownOf c.N scope.names) (tt := tT (rc X C) (blkCtx c scope) B never (ifsE R (blkCtx c scope) ifs)) (te := tE (rc X C) (blkCtx c scope) B never (R.ev (blkCtx c scope) elt)) (g := gOf X.K (blkCtx c scope) tg) (k.calm hcalm) hN h1 hloc hsw (s_itr k he tg it) (blkOk_of k hB) (fun s H Ca cl fp => s_pg (k.blk hcalm hB s H Ca cl fp) tg) (fun s H Ca cl fp => pts_of (hT s H Ca cl fp)) (fun s H Ca cl fp => hE s H Ca cl fp elt) (noSet_fold hs)) fun Dn σ H h => ?_
    have h2 : tE (rc X C) c B W (lcEv R c elt tg it ifs scope) σ H fun x H1 => gName i x σ H1 Dn.nx := by
      obtain ⟨O, S, row, F, h⟩ := h
      exact ⟨O, S, row, F, (OutS.lift0 h).mono fun rv r1 H1 F1 e1 h1 v kv => put_core k.noio F F1 e1 kv h1⟩
    exact lc_run k hok h2
theorem tgIn_self {tg : Expr} : (match tg with
    | .Name x p => tgIn c tg (tgSlots c [.Name x p]) = true
    | .Tuple es _ _ => tgIn c tg (tgSlots c es) = true
    | _ => True) := by
  cases tg with
  | Name x p =>
    show ((tgSlots c [.Name x p]).all fun i => inN i (tgSlots c [.Name x p])) = true
    exact List.all_eq_true.mpr fun i hi => inN_iff.mpr hi
  | Tuple es k p =>
    show ((tgSlots c es).all fun i => inN i (tgSlots c es)) = true
    exact List.all_eq_true.mpr fun i hi => inN_iff.mpr hi
  | _ => trivial
theorem tgt_ok2 {O : List Addr} {row : Row} {H : Hp} {tg : Expr} {d : D} {S S' : Env} {σ : L2.St} {x : V} (h : tgt c tg d S = some S') (F : Fr R c B O S row σ H) (r : Rp R (· ∉ O) H x d) :
    ∃ σ', (∀ Q : L2.St → Hp → Prop, Q σ' H → gOf R.K c tg x σ H Q) ∧ Fr R c B O S' row σ' H := by
  have hs := tgIn_self (c := c) (tg := tg)
  cases tg with
  | Name y p =>
    obtain ⟨σ', h1, h2, _⟩ := tgt_ok h F r hs
    exact ⟨σ', h1, h2⟩
  | Tuple es k p =>
    obtain ⟨σ', h1, h2, _⟩ := tgt_ok h F r hs
    exact ⟨σ', h1, h2⟩
  | _ => cases h
theorem swSole {e : Expr} {t : Expr} {l : Nat} {env : PySem.Env} (h : noComp e = true) : swapsWithSole [t] e l env = pure false := swNo h
theorem swStores {e t : Expr} {env : PySem.Env} (h : noTup e = true) : swappedStores [t] e env = pure none := by
  unfold swappedStores
  cases e <;> first | (cases t <;> rfl) | cases h
/-- (a, b, ..) = e -/
theorem s_asgT (k : COk X C c W) {es : List Expr} {kk : Nat} {p pos : Pos} {e : Expr} {fe : Env → Row → Out Rv} (he : PE X e (tE (rc X C) c B W fe)) (hn : noComp e = true) (ht : noTup e = true) :
    PS X (.Assign [.Tuple es kk p] e pos) (tS (rc X C) c B W fun S r => liftS S (fe S r) fun v r => match v with
      | .v _ d => (match tgt c (.Tuple es kk p) d S with
        | some S => .nx S r
        | none => .no)
      | _ => .no) := by
  refine PS.imp (ps_asg he (s_pg k (.Tuple es kk p)) (swSole hn) (swStores ht) rfl) fun Dn σ H ⟨O, S, row, F, h⟩ => ⟨O, S, row, F, (OutS.lift h).mono fun rv r1 H1 F1 e1 h1 v kv => ?_⟩
  split at h1
  · rename_i nw d
    cases hb : tgt c (.Tuple es kk p) d S with
    | none => rw [hb] at h1; exact h1.elim
    | some S2 =>
      rw [hb] at h1
      obtain ⟨σ2, k1, F2⟩ := tgt_ok2 hb F1 kv.1
      exact k1 _ (h1 O σ2 H1 F2 Ext.refl Sub.refl)
  · exact h1.elim
/-- a call that stands alone -/
theorem s_exprC {f : Expr} {es : List Expr} {p pos : Pos} {fe : Env → Row → Out Rv} (he : PE X (.Call f es [] p) (tE R c B W fe)) : PS X (.Expr (.Call f es [] p) pos) (tS R c B W fun S r => liftS S (fe S r) fun _ r => .nx S r) :=
  PS.imp (ps_expr he) fun Dn σ H ⟨O, S, row, F, h⟩ => ⟨O, S, row, F, (OutS.lift h).mono fun rv r1 H1 F1 e1 h1 v kv => h1 O σ H1 F1 Ext.refl Sub.refl⟩

/-! ### the frame's own lists change -/
theorem Fr.mut {O : List Addr} {S : Env} {row : Row} {σ : L2.St} {H : Hp} {i : Nat} {a : Addr} {d d' : D} {o : HO} (F : Fr R c B O S row σ H) (hi : isIo c i = false) (ho : isOwn c i = true) (hd : S[i]? = some (some d)) (hs : σ[i]? = some (some (.ref a))) (hc : isCon d' = true)
    (r : ∀ P, (∀ b, b ∉ O → P b) → RpE R P (upd H a o) (.ref a) d') : Fr R c B O (S.set i (some d')) row σ (upd H a o) ∧ Ext O H (upd H a o) := by
  obtain ⟨a', g1, g2, g3, g4, g5⟩ := F.own i d hd ho
  rw [hs] at g1
  cases g1
  obtain ⟨oa, hoa⟩ := F.odom a g2
  have hm : mutO oa = true := by
    cases d with
    | lst ds =>
      obtain ⟨b, xs, e1, e2, _⟩ := g4
      cases e1
      rw [hoa] at e2
      cases e2
      rfl
    | dct ks ds =>
      obtain ⟨b, xs, vs, e1, e2, _⟩ := g4
      cases e1
      rw [hoa] at e2
      cases e2
      rfl
    | _ => cases g5
  have dom : ∀ b z, H b = some z → ∃ z', upd H a o b = some z' := fun b z h => by
    by_cases e : b = a
    · rw [e]; exact ⟨_, upd_same⟩
    · exact ⟨z, by rw [upd_ne e]; exact h⟩
  have ext1 : Ext [a] H (upd H a o) := ⟨fun b z h k => by
    have e : b ≠ a := fun e => by
      subst e
      rcases k with k | k
      · exact k List.mem_cons_self
      · rw [hoa] at h
        cases h
        rw [hm] at k
        cases k
    rw [upd_ne e]
    exact h, dom⟩
  have sσ : σ.set i (some (.ref a)) = σ := by
    refine List.ext_getElem? fun j => ?_
    by_cases e : i = j
    · subst e
      rw [hs]
      exact get_set_self (List.getElem?_eq_some_iff.mp hs).1
    · rw [List.getElem?_set_ne e]
  have F0 : Fr R c B O (S.set i none) row σ H := by
    have := F.setNo (o := some (.ref a)) hi
    rw [sσ] at this
    exact this
  have other : ∀ j d2, (S.set i none)[j]? = some (some d2) → isOwn c j = true → σ[j]? ≠ some (some (.ref a)) := fun j d2 h1 h2 h3 => by
    rcases get_set h1 with ⟨_, e, _⟩ | ⟨e, h1⟩
    · cases e
    · exact e (F.inj i j d d2 a hd h1 ho h2 hs h3)
  have ioN : ∀ r ∈ ioA c σ, r ≠ a := fun r hr e => by
    subst e
    exact (F.iod _ hr).2.2 i d hd ho hs
  have F1 : Fr R c B O (S.set i none) row σ (upd H a o) := F0.step ext1 (fun b hb => by
    have e := List.mem_singleton.mp hb
    subst e
    exact ⟨g2, .inr (F.onew _ g2 g3), other⟩) (fun ds e => by
      obtain ⟨j, r', xs, z1, z2, z3, z4⟩ := F.ioAt ds e
      have hne : r' ≠ a := ioN r' (by rw [ioA_of z1 z2]; exact List.mem_cons_self)
      exact ⟨j, r', xs, z1, z2, by rw [upd_ne hne]; exact z3, z4.keep ext1 (fun _ z => z.elim) fun _ z => z⟩) (fun r h => let ⟨ds, _, q, _⟩ := F.ior r h; ⟨ds, q⟩)
  have F2 := F1.setOwn (i := i) g2 ho hi g3 other ioN hc (r _ fun _ z => z)
  rw [sσ, List.set_set] at F2
  exact ⟨F2, ext1.mono fun b hb => by rw [List.mem_singleton.mp hb]; exact g2⟩
/-- what such a method does -/
def MutR (R : RC) (g : List D → List D → Option (List D)) (r : V → List V → Hp → VK → Prop) : Prop := ∀ (H : Hp) (l : Addr) (vs0 : List V) (xs : List D) (vs1 : List V) (ds ys : List D) (P : Addr → Prop) (Q : VK), g xs ds = some ys → H l = some (.lst vs0) → Rps R P H vs0 xs → Rps R P H vs1 ds →
  (∀ ws, Rps R P H ws ys → Q .non (upd H l (.lst ws))) → r (.ref l) vs1 H Q
theorem allV_vs {O : List Addr} {S : Env} {σ : L2.St} {Hs H : Hp} : ∀ {vs : List V} {rs : List Rv} {ds : List D}, RvsOk R c O S σ Hs H vs rs → rds S rs = some ds → allV rs = true → Rps R (· ∉ O) H vs ds
  | [], [], ds, .nil, e, _ => by
    cases e
    exact .nil
  | _ :: _, .v nw d :: rs, ds, .cons r t, e, h => by
    have e1 : ((rd S (.v nw d)).bind fun d => (rds S rs).map fun ds => d :: ds) = some ds := e
    rw [Option.bind_eq_some_iff] at e1
    obtain ⟨d', h1, h2⟩ := e1
    cases h1
    rw [Option.map_eq_some_iff] at h2
    obtain ⟨ds', h3, h4⟩ := h2
    subst h4
    exact .cons r.1 (allV_vs t h3 h)
  | _ :: _, .p i :: rs, ds, _, e, h => by cases h
  | _ :: _, .io :: rs, ds, _, e, h => by cases h
theorem mut_core {fe : Expr → Env → Row → Out Rv} {g : List D → List D → Option (List D)} {i : Nat} {es : List Expr} {r : V → List V → Hp → VK → Prop} {Dn : Ends} {σ : L2.St} {H : Hp} (hm : MutR (rc X C) g r) (hio : isIo c i = false) (ho : isOwn c i = true)
    (h : tS (rc X C) c B W (exMut fe g i es) Dn σ H) : tDrop (tBM X.K "list" r (tVar i) (tA (rc X C) c B W (evs fe es))) Dn σ H := by
  obtain ⟨O, S, row, F, h⟩ := h
  unfold exMut at h
  split at h
  · rename_i xs hd
    obtain ⟨a, q1, q2, q3, q4, q5⟩ := F.own i _ hd ho
    obtain ⟨b, vs0, e1, e2, r0⟩ := q4
    cases e1
    refine ⟨.ref a, q1, (show tyV X.K "list" (.ref a) H from .inl ⟨rfl, vs0, .of e2⟩), O, S, row, F, (OutS.lift h).mono fun rs r1 H1 F1 e1 h1 vs ks => ?_⟩
    split at h1
    · rename_i ds hds hall
      split at h1
      · rename_i ys hy
        obtain ⟨a', q1', q2', q3', q4', q5'⟩ := F1.own i _ hd ho
        rw [q1] at q1'
        cases q1'
        obtain ⟨b, ws0, e1', e2', r0'⟩ := q4'
        cases e1'
        refine hm H1 a ws0 xs vs ds ys (· ∉ O) _ hy e2' r0' (allV_vs ks hds hall) fun ws rws => ?_
        have aO : ∀ P : Addr → Prop, (∀ b, b ∉ O → P b) → Rps (rc X C) P (upd H1 a (.lst ws)) ws ys := fun P hP => rws.keep (O := [a]) ⟨fun b z hb k => by
            have e : b ≠ a := fun e => by
              subst e
              rcases k with k | k
              · exact k List.mem_cons_self
              · rw [e2'] at hb
                cases hb
                cases k
            rw [upd_ne e]
            exact hb, fun b z hb => by
            by_cases e : b = a
            · rw [e]; exact ⟨_, upd_same⟩
            · exact ⟨z, by rw [upd_ne e]; exact hb⟩⟩ (fun b z m => z (by rw [List.mem_singleton.mp m]; exact q2')) hP
        obtain ⟨F2, ex⟩ := F1.mut (o := .lst ws) (d' := .lst ys) hio ho hd q1 rfl fun P hP => ⟨a, ws, rfl, upd_same, aO P hP⟩
        exact h1 O σ _ F2 ex Sub.refl
      · exact h1.elim
    · exact h1.elim
  · exact h.elim
theorem mr_append : MutR R appF rAppend := by
  intro H l vs0 xs vs1 ds ys P Q e hl r0 r1 h
  unfold appF at e
  split at e
  · obtain ⟨h1, h2⟩ := gd_some e
    subst h2
    match vs1, r1 with
    | [v], .cons rv .nil => exact ⟨l, vs0, v, rfl, rfl, hl, by rw [r0.length]; exact sz_lt h1, h _ (r0.append (.one rv))⟩
  · cases e
theorem mr_extend : MutR R extF rExtend := by
  intro H l vs0 xs vs1 ds ys P Q e hl r0 r1 h
  unfold extF at e
  split at e
  · obtain ⟨h1, h2⟩ := gd_some e
    subst h2
    match vs1, r1 with
    | [v], .cons rv .nil =>
      cases rv with
      | lst p hb rb => exact ⟨l, _, vs0, _, rfl, rfl, hl, hb, by rw [r0.length, rb.length]; exact sz_le h1, h _ (r0.append rb)⟩
  · cases e
theorem mr_clear : MutR R clrF rClear := by
  intro H l vs0 xs vs1 ds ys P Q e hl r0 r1 h
  unfold clrF at e
  split at e
  · cases e
    cases r1
    exact ⟨l, vs0, rfl, rfl, hl, h _ .nil⟩
  · cases e
theorem mr_reverse : MutR R rvsF rReverse := by
  intro H l vs0 xs vs1 ds ys P Q e hl r0 r1 h
  unfold rvsF at e
  split at e
  · cases e
    cases r1
    exact ⟨l, vs0, rfl, rfl, hl, h _ r0.reverse⟩
  · cases e
def rInsert : V → List V → Hp → VK → Prop := fun x vs H Q => ∃ (l : Addr) (xs : List V) (i : Int) (y : V), x = .ref l ∧ vs = [.int i, y] ∧ H l = some (.lst xs) ∧ xs.length < sizeLine ∧ 0 ≤ i ∧ i < 2 ^ 63 ∧
    Q .non (upd H l (.lst (xs.take i.toNat ++ [y] ++ xs.drop i.toNat)))
theorem mr_insert : MutR R insF rInsert := by
  intro H l vs0 xs vs1 ds ys P Q e hl r0 r1 h
  unfold insF at e
  split at e
  · rename_i i d
    obtain ⟨h1, h2⟩ := gd_some e
    subst h2
    rw [Bool.and_eq_true, Bool.and_eq_true, decide_eq_true_eq, decide_eq_true_eq] at h1
    obtain ⟨⟨h1, h3⟩, h4⟩ := h1
    match vs1, r1 with
    | [v, w], .cons rv (.cons rw .nil) =>
      have ev := rv.int_inv
      subst ev
      have hz := sz_lt h1
      refine ⟨l, vs0, i, w, rfl, rfl, hl, by rw [r0.length]; exact hz, h3, ?_, h _ ?_⟩
      · have : (sizeLine : Nat) < 2 ^ 63 := line63
        omega
      · rw [List.append_assoc]
        exact (r0.take _).append (.cons rw (r0.drop _))
  · cases e
theorem s_mut (k : COk X C c W) {fe : Expr → Env → Row → Out Rv} (he : ∀ e, PE X e (tE (rc X C) c B W (fe e))) {x m : Str} {p apos cpos pos : Pos} {es : List Expr} {i : Nat} (hi : slot c x = some i) (ho : isOwn c i = true) (hio : isIo c i = false) (hl : oneLine apos cpos = true) (hn : nsts es = true) (hz : es.length < 29)
    {g : List D → List D → Option (List D)} (hg : mutS m = some g) : PS X (.Expr (.Call (.Attribute (.Name x p) m apos) es [] cpos) pos) (tS (rc X C) c B W (exMut fe g i es)) := by
  obtain ⟨h1, h2, h3⟩ := k.slot hi
  have hx : PE X (.Name x p) (tVar i) := pe_var h1 h2 (okN_d h3).1 (okN_d h3).2
  have go : ∀ {id : String} {r : V → List V → Hp → VK → Prop}, Slot "list" m id → typeOf (.builtin id) = pure (.type "method_descriptor") → MtR X id r → MutR (rc X C) g r → PS X (.Expr (.Call (.Attribute (.Name x p) m apos) es [] cpos) pos) (tS (rc X C) c B W (exMut fe g i es)) := fun {id r} sl ty mt mr => by
    cases es with
    | nil =>
      refine PS.imp (ps_expr (pe_bm0 F.plainAttrs_list sl ty mt hx (base_of rfl) hl) rfl) fun Dn σ H h => ?_
      obtain ⟨v, q1, q2, O, S, row, F, h2⟩ := mut_core mr hio ho h
      exact ⟨v, q1, q2, h2 H F ExE.refl [] .nil⟩
    | cons e es =>
      have hn2 : (nst e && nsts es) = true := hn
      rw [Bool.and_eq_true] at hn2
      refine PS.imp (ps_expr (pe_bm F.plainAttrs_list sl ty mt hx (s_args he (e :: es)) (base_of rfl) ?_ hl (nst_star hn2.1) (nsts_any hn2.2)) rfl) fun Dn σ H h => mut_core mr hio ho h
      rw [nsts_all hn]
      show (true && true && decide ((e :: es).length + 0 + 0 < 30)) = true
      have : (e :: es).length + 0 + 0 < 30 := by omega
      simp [this]
      simpa using this
  unfold mutS at hg
  cases g1 : seq m "append" with
  | true =>
    rw [g1] at hg
    cases hg
    have := seq_eq g1; subst this
    exact go F.slot_list_append F.type_list_append mt_append mr_append
  | false =>
  rw [g1] at hg
  cases g2 : seq m "extend" with
  | true =>
    rw [g2] at hg
    cases hg
    have := seq_eq g2; subst this
    exact go F.slot_list_extend F.type_list_extend mt_extend mr_extend
  | false =>
  rw [g2] at hg
  cases g3 : seq m "insert" with
  | true =>
    rw [g3] at hg
    cases hg
    have := seq_eq g3; subst this
    exact go F.slot_list_insert F.type_list_insert mt_insert mr_insert
  | false =>
  rw [g3] at hg
  cases g4 : seq m "clear" with
  | true =>
    rw [g4] at hg
    cases hg
    have := seq_eq g4; subst this
    exact go F.slot_list_clear F.type_list_clear mt_clear mr_clear
  | false =>
  rw [g4] at hg
  cases g5 : seq m "reverse" with
  | true =>
    rw [g5] at hg
    cases hg
    have := seq_eq g5; subst this
    exact go F.slot_list_reverse F.type_list_reverse mt_reverse mr_reverse
  | false => rw [g5] at hg; cases hg

/-! ### x[i] = e -/
theorem upd_ext {H : Hp} {a : Addr} {o oa : HO} (h : H a = some oa) (hm : mutO oa = true) : Ext [a] H (upd H a o) := ⟨fun b z hb k => by
    have e : b ≠ a := fun e => by
      subst e
      rcases k with k | k
      · exact k List.mem_cons_self
      · rw [h] at hb
        cases hb
        rw [hm] at k
        cases k
    rw [upd_ne e]
    exact hb, fun b z hb => by
    by_cases e : b = a
    · rw [e]; exact ⟨_, upd_same⟩
    · exact ⟨z, by rw [upd_ne e]; exact hb⟩⟩
theorem sub_core (hno : ∀ i, c.io = some i → isOwn c i = false) {R : Evs} {kx : Nat} {i e : Expr} {Dn : Ends} {σ : L2.St} {H : Hp} (h : tS (rc X C) c B W (exSub R c kx i e) Dn σ H) :
    tAsg (tE (rc X C) c B W (R.ev c e)) (gSub (tVar kx) (tE (rc X C) c B W (R.ev c i)) (rSetB X C)) Dn σ H := by
  obtain ⟨O, S, row, F, h⟩ := h
  unfold exSub at h
  cases hio : isIo c kx with
  | true =>
    rw [hio] at h
    dsimp only at h
    have cio : c.io = some kx := by
      unfold isIo at hio
      split at hio
      · rename_i j e
        rw [e, Nat.eq_of_beq_eq_true hio]
      · cases hio
    refine ⟨O, S, row, F, (OutS.lift h).mono fun rv r1 H1 F1 e1 h1 v kv => ?_⟩
    cases r1 with
    | none => exact h1.elim
    | some ds0 =>
      dsimp only at h1
      obtain ⟨j, r, xs, z1, z2, z3, z4, z5, z6, z7⟩ := F1.io ds0 rfl
      rw [cio] at z1
      cases z1
      refine ⟨.ref r, z2, O, S, some ds0, F1, (OutS.lift h1).mono fun ry r2 H2 F2 e2 h2 y ky => ?_⟩
      split at h2
      · rename_i nw d nw2 z ds
        split at h2
        · rename_i j hj hlf
          obtain ⟨j', r', xs', w1, w2, w3, w4, w5, w6, w7⟩ := F2.io ds rfl
          rw [cio] at w1
          cases w1
          rw [z2] at w2
          cases w2
          refine .inl ⟨r, xs', z, j, rfl, ky.1.int_inv, w5, by rw [w6.length]; exact hj, ?_⟩
          have ex := upd_ext (o := .lst (xs'.set j v)) w5 rfl
          have kv2 : Rp (rc X C) (fun _ => False) H2 v d := (kv.keep e2 F.odo).1.lf _ hlf
          have F3 : Fr (rc X C) c B O S (some (ds.set j d)) σ (upd H2 r (.lst (xs'.set j v))) := F2.step ex (fun a ha => by
            rw [List.mem_singleton.mp ha]
            exact ⟨w3, w4, w7⟩) (fun ds' e => by
            cases e
            exact ⟨kx, r, _, cio, z2, upd_same, (Rps.set kv2 j w6).keep ex (fun _ z => z.elim) fun _ z => z⟩) (fun _ _ => ⟨_, rfl⟩)
          exact h2 O σ _ F3 (ex.mono fun a ha => by rw [List.mem_singleton.mp ha]; exact w3) Sub.refl
        · exact h2.elim
      · exact h2.elim
  | false =>
    rw [hio] at h
    dsimp only at h
    cases ho : isOwn c kx with
    | false => rw [ho] at h; exact h.elim
    | true =>
    rw [ho] at h
    dsimp only at h
    unfold subOwn at h
    split at h
    · rename_i xs hd
      obtain ⟨a, q1, q2, q3, q4, q5⟩ := F.own kx _ hd ho
      refine ⟨O, S, row, F, (OutS.lift h).mono fun rv r1 H1 F1 e1 h1 v kv => ⟨.ref a, q1, O, S, r1, F1, (OutS.lift h1).mono fun ry r2 H2 F2 e2 h2 y ky => ?_⟩⟩
      split at h2
      · rename_i nw d nw2 z
        split at h2
        · rename_i j hj
          obtain ⟨a', q1', q2', q3', q4', q5'⟩ := F2.own kx _ hd ho
          rw [q1] at q1'
          cases q1'
          obtain ⟨b, ws, e1', w5, w6⟩ := q4'
          cases e1'
          refine .inl ⟨a, ws, z, j, rfl, ky.1.int_inv, w5, by rw [w6.length]; exact hj, ?_⟩
          have kv2 := (kv.keep e2 F.odo).1
          have ex := upd_ext (o := .lst (ws.set j v)) w5 rfl
          obtain ⟨F3, ex3⟩ := F2.mut (o := .lst (ws.set j v)) (d' := .lst (xs.set j d)) hio ho hd q1 rfl fun P hP => ⟨a, _, rfl, upd_same, (Rps.set kv2 j w6).keep ex (fun b z m => z (by rw [List.mem_singleton.mp m]; exact q2')) hP⟩
          exact h2 O σ _ F3 ex3 Sub.refl
        · exact h2.elim
      · exact h2.elim
    · rename_i ks vs hd
      obtain ⟨a, q1, q2, q3, q4, q5⟩ := F.own kx _ hd ho
      refine ⟨O, S, row, F, (OutS.lift h).mono fun rv r1 H1 F1 e1 h1 v kv => ⟨.ref a, q1, O, S, r1, F1, (OutS.lift h1).mono fun ry r2 H2 F2 e2 h2 y ky => ?_⟩⟩
      split at h2
      · rename_i nw d nw2 key
        split at h2
        · rename_i p hp
          obtain ⟨a', q1', q2', q3', q4', q5'⟩ := F2.own kx _ hd ho
          rw [q1] at q1'
          cases q1'
          obtain ⟨a2, xs, vv, e1', w5, n, r1, z, r2⟩ := q4'
          cases e1'
          obtain ⟨⟨k, hk⟩, hl⟩ := store_sz n r1 hp
          obtain ⟨⟨dk, rfl⟩, hnk, hdep⟩ := kOf_inv hk
          obtain ⟨b, ys, rfl, _, _⟩ := ky.1.tup_inv
          have kv2 := (kv.keep e2 F.odo).1
          refine .inr ⟨a, xs, k, b, rfl, rfl, w5, ⟨_, ks, n, r1⟩, ⟨_, _, ky.1, hnk, hdep⟩, hl, fun u ru nd => ?_⟩
          have ex := upd_ext (o := DicO X.prog X.w a (storedH xs k b u)) w5 rfl
          obtain ⟨ks', ds'⟩ := p
          obtain ⟨F3, ex3⟩ := F2.mut (o := DicO X.prog X.w a (storedH xs k b u)) (d' := .dct ks' ds') hio ho hd q1 rfl fun P hP => by
            have kp : ∀ b, b ∉ O → b ∉ [a] := fun b z m => z (by rw [List.mem_singleton.mp m]; exact q2')
            obtain ⟨vs', g1, g2, g3, g4⟩ := store_rp (H' := upd H2 a (DicO X.prog X.w a (storedH xs k b u))) n nd (r1.keep ex kp hP) z (r2.keep ex kp hP) (ky.1.keep ex kp hP) (kv2.keep ex kp hP) hk hp u ru
            exact ⟨a, _, vs', rfl, upd_same, g1, g2, g3, g4⟩
          exact h2 O σ _ F3 ex3 Sub.refl
        · exact h2.elim
      · exact h2.elim
    · exact h.elim
theorem s_sub (k : COk X C c W) {R : Evs} (he : ∀ e, PE X e (tE (rc X C) c B W (R.ev c e))) {x : Str} {kx : Nat} (hx : slot c x = some kx) {i e : Expr} {p p2 pos : Pos} (hi : isSl i = false) (hn : noComp e = true) (ht : noTup e = true) :
    PS X (.Assign [.Subscript (.Name x p) i p2] e pos) (tS (rc X C) c B W (exSub R c kx i e)) := by
  obtain ⟨h1, h2, h3⟩ := k.slot hx
  have hv : PE X (.Name x p) (tVar kx) := pe_var h1 h2 (okN_d h3).1 (okN_d h3).2
  exact PS.imp (ps_asg (he e) (pg_sub hv (he i) (set_both k.room) (fun _ => by cases i <;> first | rfl | cases hi)) (swSole hn) (swStores ht) rfl) fun Dn σ H h => sub_core k.noio h

/-! ### a new dict -/
theorem s_dict {pos : Pos} : PE X (.Dict [] [] pos) (tE (rc X C) c B W fun _ r => .ok (.v true (.dct [] [])) r) := by
  refine PE.imp pe_dnewN fun σ H Q ⟨O, S, row, F, h⟩ p np => ?_
  have sm : Same H (upd H p (DicO X.prog X.w p [])) := same_upd np
  exact h _ (F.same sm) (Same.exE sm) _ ⟨.dct (vs := []) (F.odoS p np) upd_same rfl .nil .nil .nil, fun z => .dct (vs := []) np upd_same rfl .nil .nil .nil⟩
/-! ### for -/
theorem s_for (k : COk X C c W) (hc : c.calm = true) (hlp : c.loops = true) {fe : Expr → Env → Row → Out Rv} (he : ∀ e, PE X e (tE (rc X C) c B W (fe e))) {tg it : Expr} {body : List Stmt} {pos : Pos} {fb : Env → Row → SO} (hb : PSs X body (tS (rc X C) c B W fb)) (hs : noSet it = true) :
    PS X (.For tg it body [] pos) (tS (rc X C) c B W fun S r => liftS S (itr fe c tg it S r) fun ds r => forD (tgt c tg) fb ds.1 (match ds.2 with
        | some i => S.set i none
        | none => S) r) := by
  refine PS.imp (ps_for (k.po hlp) (k.calm hc) (s_itr k he tg it) (s_pg k tg) hb (noSet_fold hs)) fun Dn σ H ⟨O, S, row, F, h⟩ => ⟨O, S, row, F, (OutS.lift h).mono fun p r1 H1 F1 e1 h1 J hJ => ?_⟩
  -- the frame at the loop's start
  obtain ⟨O1, S1, F2, sub1, use, h2⟩ : ∃ O1 S1, Fr (rc X C) c B O1 S1 r1 σ H1 ∧ Sub O O1 H1 ∧ (ItOk (rc X C) (GX O1 H1) (PX O1 H1) J p.1) ∧ OutS (rc X C) c B W O H1 (forD (tgt c tg) fb p.1 S1 r1) Dn := by
    obtain ⟨ds, oi⟩ := p
    cases oi with
    | none => exact ⟨O, S, F1, Sub.refl, hJ, h1⟩
    | some i =>
      obtain ⟨q1, q2, a, q3, q4⟩ := hJ
      obtain ⟨F2, rp⟩ := F1.release q2 q1 q3 (isIo_own k.noio q1)
      obtain ⟨b, eb, z⟩ := lst_in rp
      cases eb
      subst q4
      exact ⟨_, _, F2, fun b hb => .inl (List.mem_filter.mp hb).1, it_list z, h1⟩
  refine ⟨fun i m σ H => m = p.1.length - i ∧ i ≤ p.1.length ∧ ∃ O' S' row', Fr (rc X C) c B O' S' row' σ H ∧ Ext O1 H1 H ∧ Sub O1 O' H1 ∧ OutS (rc X C) c B W O' H (forD (tgt c tg) fb (p.1.drop i) S' row') Dn, ⟨_, rfl, Nat.zero_le _, O1, S1, r1, F2, Ext.refl, Sub.refl, OutS.re Ext.refl sub1 h2⟩, ?_⟩
  rintro i m σ H ⟨rfl, hi, O', S', row', F', ex, sb, hO⟩
  obtain ⟨use1, use2⟩ := use i H ex
  by_cases hlt : i < p.1.length
  · have hd : p.1[i]? = some p.1[i] := List.getElem?_eq_getElem hlt
    obtain ⟨hgo, hy⟩ := use1 _ hd
    rw [List.drop_eq_getElem_cons hlt, forD] at hO
    refine .inr ⟨hgo, fun σ' H' => ∃ O' S' row', Fr (rc X C) c B O' S' row' σ' H' ∧ Ext O1 H1 H' ∧ Sub O1 O' H1 ∧ OutS (rc X C) c B W O' H' (forD (tgt c tg) fb (p.1.drop (i + 1)) S' row') Dn, fun σ' H' q => ⟨p.1.length - (i + 1), by omega, rfl, hlt, q⟩, fun x H' y => ?_⟩
    obtain ⟨sm, rx⟩ := hy x H' y
    have exS : Ext O' H H' := Same.ext sm
    cases hbd : tgt c tg p.1[i] S' with
    | none => rw [hbd] at hO; exact hO.elim
    | some S2 =>
      rw [hbd] at hO
      dsimp only at hO
      have rx2 : Rp (rc X C) (· ∉ O') H' x p.1[i] := rx.imp fun a ⟨n, o, ho⟩ m => by
        rcases sb a m with z | z
        · exact n z
        · rw [ho] at z; cases z
      obtain ⟨σ2, k1, F3⟩ := tgt_ok2 hbd (F'.same sm) rx2
      refine k1 _ ⟨O', S2, row', F3, ?_⟩
      have ex2 : Ext O1 H1 H' := ex.trans (Same.ext sm)
      cases hB : fb S2 row' with
      | no => rw [hB] at hO; exact hO.elim
      | nx S3 r3 =>
        rw [hB] at hO
        exact fun O4 σ4 H4 F4 e4 s4 => ⟨O4, S3, r3, F4, ex2.trans2 sb e4, sb.trans ex2 s4, OutS.re (exS.trans e4) (Sub.trans exS Sub.refl s4) hO⟩
      | ct S3 r3 =>
        rw [hB] at hO
        exact fun O4 σ4 H4 F4 e4 s4 => ⟨O4, S3, r3, F4, ex2.trans2 sb e4, sb.trans ex2 s4, OutS.re (exS.trans e4) (Sub.trans exS Sub.refl s4) hO⟩
      | bk S3 r3 =>
        rw [hB] at hO
        exact fun O4 σ4 H4 F4 e4 s4 => hO O4 σ4 H4 F4 (exS.trans e4) (Sub.trans exS Sub.refl s4)
      | rt d r3 =>
        rw [hB] at hO
        exact hO
      | ex z S3 r3 =>
        rw [hB] at hO
        exact fun dd O4 σ4 H4 F4 e4 s4 => hO dd O4 σ4 H4 F4 (exS.trans e4) (Sub.trans exS Sub.refl s4)
  · have hi2 : i = p.1.length := by omega
    rw [List.drop_eq_nil_of_le (Nat.le_of_eq hi2.symm)] at hO
    exact .inl ⟨use2 hi2, hO O' σ H F' Ext.refl Sub.refl⟩
end
end TH

set_option Elab.async false
set_option linter.all false
set_option maxRecDepth 100000
set_option maxHeartbeats 4000000
/-! DVT: try, except. -/
namespace TH
open PySem PySem.Spec PyProof.Rows L2
abbrev RC.ex (R : RC) (e : Option (Addr × Value × Option Addr)) : RC := { R with C := { R.C with e := e } }
mutual
theorem Rp.re {R : RC} {P : Addr → Prop} {H : Hp} (e : Option (Addr × Value × Option Addr)) : ∀ {d : D} {v : V}, noExc d = true → Rp R P H v d → Rp (R.ex e) P H v d
  | .non, _, _, h => by cases h; exact .non
  | .bl _, _, _, h => by cases h; exact .bl _
  | .int _, _, _, h => by cases h; exact .int _
  | .str _, _, _, h => by cases h; exact .str _
  | .tup ds, _, n, h => by
    cases h with
    | tup h r => exact .tup h (Rps.re e n r)
  | .lst ds, _, n, h => by
    cases h with
    | lst p h r => exact .lst p h (Rps.re e n r)
  | .dct ks ds, _, n, h => by
    have n2 : (noExcs ks && noExcs ds) = true := n
    rw [Bool.and_eq_true] at n2
    cases h with
    | dct p h m r1 z r2 => exact .dct p h m (Rps.re e n2.1 r1) z (Rps.re e n2.2 r2)
  | .hou ts ks, _, n, h => by
    have n2 : (noExcs ts && noExcs ks) = true := n
    rw [Bool.and_eq_true] at n2
    cases h with
    | hou p h p1 h1 r1 p2 h2 r2 => exact .hou p h p1 h1 (Rps.re e n2.1 r1) p2 h2 (Rps.re e n2.2 r2)
  | .hou1 ts, _, n, h => by
    cases n
  | .scr ns, _, _, h => by
    cases h with
    | scr h => exact .scr h
  | .cst x, _, _, h => by
    cases h with
    | cst h => exact .cst h
  | .tbl _ _ _, _, _, h => by
    cases h with
    | tbl h => exact .tbl h
  | .exc _ _ _, _, n, _ => by cases n
theorem Rps.re {R : RC} {P : Addr → Prop} {H : Hp} (e : Option (Addr × Value × Option Addr)) : ∀ {ds : List D} {vs : List V}, noExcs ds = true → Rps R P H vs ds → Rps (R.ex e) P H vs ds
  | [], _, _, .nil => .nil
  | d :: ds, _, n, .cons r t => by
    have n2 : (noExc d && noExcs ds) = true := n
    rw [Bool.and_eq_true] at n2
    exact .cons (Rp.re e n2.1 r) (Rps.re e n2.2 t)
end
mutual
theorem Rp.noX {R : RC} {P : Addr → Prop} {H : Hp} (h0 : R.C.e = none) : ∀ {d : D} {v : V}, Rp R P H v d → noExc d = true
  | .non, _, h => rfl
  | .bl _, _, h => rfl
  | .int _, _, h => rfl
  | .str _, _, h => rfl
  | .tup ds, _, h => by
    cases h with
    | tup h r => exact Rps.noX h0 r
  | .lst ds, _, h => by
    cases h with
    | lst p h r => exact Rps.noX h0 r
  | .dct ks ds, _, h => by
    cases h with
    | dct p h m r1 z r2 =>
      show (noExcs ks && noExcs ds) = true
      rw [Rps.noX h0 r1, Rps.noX h0 r2]
      rfl
  | .hou ts ks, _, h => by
    cases h with
    | hou p h p1 h1 r1 p2 h2 r2 =>
      show (noExcs ts && noExcs ks) = true
      rw [Rps.noX h0 r1, Rps.noX h0 r2]
      rfl
  | .hou1 ts, _, h => by
    cases h with
    | hou1 q p h p1 h1 r1 => rw [h0] at q; cases q
  | .scr ns, _, h => rfl
  | .cst x, _, h => rfl
  | .tbl _ _ _, _, h => rfl
  | .exc _ _ _, _, h => by
    cases h with
    | exc0 h => rw [h0] at h; cases h
    | exc h => rw [h0] at h; cases h
theorem Rps.noX {R : RC} {P : Addr → Prop} {H : Hp} (h0 : R.C.e = none) : ∀ {ds : List D} {vs : List V}, Rps R P H vs ds → noExcs ds = true
  | [], _, .nil => rfl
  | d :: ds, _, .cons r t => by
    show (noExc d && noExcs ds) = true
    rw [Rp.noX h0 r, Rps.noX h0 t]
    rfl
end
theorem RpE.re {R : RC} {P : Addr → Prop} {H : Hp} {v : V} {d : D} (e : Option (Addr × Value × Option Addr)) (n : noExc d = true) (h : RpE R P H v d) : RpE (R.ex e) P H v d := by
  cases d with
  | lst ds =>
    obtain ⟨a, xs, h0, h1, r⟩ := h
    exact ⟨a, xs, h0, h1, r.re e n⟩
  | dct ks ds =>
    have n2 : (noExcs ks && noExcs ds) = true := n
    rw [Bool.and_eq_true] at n2
    obtain ⟨a, xs, vs, h0, h1, m, r1, z, r2⟩ := h
    exact ⟨a, xs, vs, h0, h1, m, r1.re e n2.1, z, r2.re e n2.2⟩
  | _ => exact Rp.re e n h
theorem RpE.noX {R : RC} {P : Addr → Prop} {H : Hp} {v : V} {d : D} (h0 : R.C.e = none) (h : RpE R P H v d) : noExc d = true := Rp.noX h0 h.t
theorem noExcO_get : ∀ {S : List (Option D)} {i : Nat} {d : D}, noExcO S = true → S[i]? = some (some d) → noExc d = true
  | some d' :: r, 0, d, h, e => by
    have e2 : d' = d := Option.some.inj (Option.some.inj e)
    subst e2
    have h2 : (noExc d' && noExcO r) = true := h
    rw [Bool.and_eq_true] at h2
    exact h2.1
  | some d' :: r, i + 1, d, h, e => by
    have h2 : (noExc d' && noExcO r) = true := h
    rw [Bool.and_eq_true] at h2
    exact noExcO_get (S := r) (i := i) h2.2 e
  | none :: r, 0, d, h, e => by cases e
  | none :: r, i + 1, d, h, e => noExcO_get (S := r) (i := i) h e
  | [], _, _, _, e => by cases e
theorem noExcO_all : ∀ {S : List (Option D)}, (∀ (i : Nat) (d : D), S[i]? = some (some d) → noExc d = true) → noExcO S = true
  | [], _ => rfl
  | some d :: r, h => by
    show (noExc d && noExcO r) = true
    rw [h 0 d rfl, noExcO_all fun i d e => h (i + 1) d e]
    rfl
  | none :: r, h => noExcO_all (S := r) fun i d e => h (i + 1) d e
section
variable {X : Cx} {C : Cn} {c : Ctx} {W : WX} {B : Bg} {R : RC}
theorem Fr.re {O : List Addr} {S : Env} {row : Row} {σ : L2.St} {H : Hp} (e : Option (Addr × Value × Option Addr)) (n : noExcO S = true) (nr : noExcR row = true) (F : Fr R c B O S row σ H) : Fr (R.ex e) c B O S row σ H := by
  refine ⟨F.len, F.keep, F.bdom, F.odom, F.onew, fun i d h z => ?_, fun i d h z => ?_, F.inj, fun ds h => ?_, F.ion, F.ior, F.iod⟩
  · obtain ⟨v, h1, h2⟩ := F.val i d h z
    exact ⟨v, h1, h2.re e (noExcO_get n h)⟩
  · obtain ⟨a, h1, h2, h3, h4, h5⟩ := F.own i d h z
    exact ⟨a, h1, h2, h3, h4.re e (noExcO_get n h), h5⟩
  · obtain ⟨i, r, xs, z1, z2, z3, z4, z5, z6, z7⟩ := F.io ds h
    subst h
    exact ⟨i, r, xs, z1, z2, z3, z4, z5, z6.re e nr, z7⟩
theorem Fr.noX {O : List Addr} {S : Env} {row : Row} {σ : L2.St} {H : Hp} (h0 : R.C.e = none) (F : Fr R c B O S row σ H) : noExcO S = true ∧ noExcR row = true := by
  refine ⟨noExcO_all fun i d h => ?_, ?_⟩
  · cases ho : isOwn c i with
    | true =>
      obtain ⟨a, h1, h2, h3, h4, h5⟩ := F.own i d h ho
      exact h4.noX h0
    | false =>
      obtain ⟨v, h1, h2⟩ := F.val i d h ho
      exact h2.noX h0
  · cases row with
    | none => rfl
    | some ds =>
      obtain ⟨i, r, xs, z1, z2, z3, z4, z5, z6, z7⟩ := F.io ds rfl
      exact z6.noX h0
theorem Fr.toSu {O : List Addr} {S : Env} {row : Row} {σ : L2.St} {H : Hp} (F : Fr R c B O S row σ H) : Fr R (suCtx c) B O S row σ H :=
  ⟨F.len, F.keep, F.bdom, F.odom, F.onew, F.val, F.own, F.inj, F.io, F.ion, F.ior, F.iod⟩
theorem Fr.ofSu {O : List Addr} {S : Env} {row : Row} {σ : L2.St} {H : Hp} (F : Fr R (suCtx c) B O S row σ H) : Fr R c B O S row σ H :=
  ⟨F.len, F.keep, F.bdom, F.odom, F.onew, F.val, F.own, F.inj, F.io, F.ion, F.ior, F.iod⟩
theorem RetOk.un {row : Row} {H : Hp} {v : V} {d : D} {e : Option (Addr × Value × Option Addr)} (n : noExc d = true) (nr : noExcR row = true) (h : RetOk (R.ex e) B row H v d) : RetOk R B row H v d := by
  refine ⟨h.keep, h.bdom, fun r hr => ?_, Rp.re (R := R.ex e) R.C.e n h.rp⟩
  obtain ⟨ds, xs, q1, q2, q3⟩ := h.row r hr
  subst q1
  exact ⟨ds, xs, rfl, q2, Rps.re (R := R.ex e) R.C.e nr q3⟩
theorem COk.tr (k : COk X C c W) (hl : c.tries = true) {pn : List (Addr × Obj)} {xe : Value → Shared → Prop} {W' : WX} (tk : Takes (X.tr pn xe) W') (po : PassesOwn (model X.prog X.w) X.A X.env xe) : COk (X.tr pn xe) C c W' where
  N := k.N
  nd := k.nd
  sc := k.sc
  kind := k.kind
  calm := k.calm
  po := fun _ => po
  st := k.st
  fnc := k.fnc
  okn := k.okn
  room := k.room
  tk := tk
  blt := k.blt
  cst := k.cst
  fns := fun hc x fn h => ⟨(k.fns hc x fn h).ex⟩
  mks := fun hc x fn h => ⟨(k.mks hc x fn h).ex⟩
  mts := fun hc x fn h => ⟨(k.mts hc x fn h).io, (k.mts hc x fn h).ex⟩
  exk := fun h pn' xe' => k.exk h pn' xe'
  exf := fun h pn' xe' => k.exf h pn' xe'
  xs := k.xs
  exI := fun hc a D h => by rw [k.e0 hl] at h; cases h
  e0 := k.e0
  top := k.top
  hcls := k.hcls
  nkt := k.nkt
  nkk := k.nkk
  noio := k.noio
theorem COk.su (k : COk X C c W) (hl : c.tries = true) (a : Addr) (oe : Obj) (cls : Value) (d : Option Addr) (pn : List (Addr × Obj)) (hz : Zc cls d oe) (hf : ∃ vs, oe.data = .fields vs) : COk (X.suite a ((a, oe) :: pn)) ⟨C.C, some (a, cls, d)⟩ (suCtx c) never where
  N := k.N
  nd := k.nd
  sc := k.sc
  kind := k.kind
  calm := fun h => nomatch h
  po := fun h => nomatch h
  st := k.st
  fnc := k.fnc
  okn := k.okn
  room := k.room
  tk := takes0
  blt := k.blt
  cst := fun x dd h => by
    obtain ⟨v, u, h1, h2, h3⟩ := k.cst x dd h
    have n : noExc dd = true := Rp.noX (R := rc X C) (k.e0 hl) (h3 (fun _ => True) fun _ => none)
    exact ⟨v, u, h1, h2, fun P H => Rp.re (R := rc X C) (some (a, cls, d)) n (h3 P H)⟩
  fns := fun hc => nomatch hc
  mks := fun hc => nomatch hc
  mts := fun hc => nomatch hc
  exk := fun h => nomatch h
  exf := fun h => nomatch h
  xs := k.xs
  exI := fun _ a' D h x => by
    have e : (a, cls, d) = (a', Value.ref D, (none : Option Addr)) := Option.some.inj h
    cases e
    exact call_isE x hz hf
  e0 := fun h => nomatch h
  top := fun h => nomatch h
  hcls := k.hcls
  nkt := k.nkt
  nkk := k.nkk
  noio := k.noio
/-- what comes behind a suite -/
theorem su_end {O1 : List Addr} {H1 : Hp} {f : Env → Env} {g : L2.St → L2.St} {x : SO} {Dn : Ends} {e : Option (Addr × Value × Option Addr)} (hfg : ∀ O' S' r σ' H', Fr R c B O' S' r σ' H' → Fr R c B O' (f S') r (g σ') H') (hfg2 : ∀ O' S' r σ' H', Fr (R.ex e) c B O' S' r σ' H' → Fr (R.ex e) c B O' (f S') r (g σ') H')
    (h : OutS R c B W O1 H1 (endTry f x) Dn) : OutS (R.ex e) (suCtx c) B never O1 H1 x { nx := fun σ' H' => Dn.nx (g σ') H', rt := Dn.rt, bk := fun σ' H' => Dn.bk (g σ') H', ct := fun σ' H' => Dn.ct (g σ') H' } := by
  have back : ∀ {O' S' r σ' H'}, noExcO (f S') = true → noExcR r = true → Fr (R.ex e) (suCtx c) B O' S' r σ' H' → Fr R c B O' (f S') r (g σ') H' := fun n nr F => Fr.re (R := R.ex e) R.C.e n nr (hfg2 _ _ _ _ _ F.ofSu)
  cases x with
  | no => exact h
  | ex z S r => exact h.elim
  | nx S r =>
    have h : OutS R c B W O1 H1 (match noExcO (f S) && noExcR r with
      | true => .nx (f S) r
      | false => .no) Dn := h
    cases hb : noExcO (f S) && noExcR r with
    | false => rw [hb] at h; exact h.elim
    | true =>
      rw [hb] at h
      rw [Bool.and_eq_true] at hb
      exact fun O' σ' H' F e s => h O' (g σ') H' (back hb.1 hb.2 F) e s
  | bk S r =>
    have h : OutS R c B W O1 H1 (match noExcO (f S) && noExcR r with
      | true => .bk (f S) r
      | false => .no) Dn := h
    cases hb : noExcO (f S) && noExcR r with
    | false => rw [hb] at h; exact h.elim
    | true =>
      rw [hb] at h
      rw [Bool.and_eq_true] at hb
      exact fun O' σ' H' F e s => h O' (g σ') H' (back hb.1 hb.2 F) e s
  | ct S r =>
    have h : OutS R c B W O1 H1 (match noExcO (f S) && noExcR r with
      | true => .ct (f S) r
      | false => .no) Dn := h
    cases hb : noExcO (f S) && noExcR r with
    | false => rw [hb] at h; exact h.elim
    | true =>
      rw [hb] at h
      rw [Bool.and_eq_true] at hb
      exact fun O' σ' H' F e s => h O' (g σ') H' (back hb.1 hb.2 F) e s
  | rt d r =>
    have h : OutS R c B W O1 H1 (match noExc d && noExcR r with
      | true => .rt d r
      | false => .no) Dn := h
    cases hb : noExc d && noExcR r with
    | false => rw [hb] at h; exact h.elim
    | true =>
      rw [hb] at h
      rw [Bool.and_eq_true] at hb
      exact fun v H' q => h v H' (RetOk.un hb.1 hb.2 q)
theorem slotE_is {n : Str} {i : Nat} (h : slotE c n = some i) : look n c.st.names = some .local ∧ idx n c.N 0 = some i ∧ isOwn c i = false ∧ isIo c i = false := by
  unfold slotE at h
  split at h
  · rename_i hl
    split at h
    · rename_i j hj
      split at h
      · rename_i hb
        cases h
        rw [Bool.or_eq_false_iff] at hb
        exact ⟨hl, hj, hb.1, hb.2⟩
      · cases h
    · cases h
  · cases h
theorem s_try (k : COk X C c W) {R : Evs} {body suite : List Stmt} {T : Str} {nm : Option Str} {np pos pos' : Pos}
    (hb : ∀ (Y : Cx) (C' : Cn) (c' : Ctx) (W' : WX) (B : Bg), COk Y C' c' W' → ∀ s, PS Y s (tS (rc Y C') c' B W' (R.exS c' s))) :
    PS X (.Try body [.ExceptHandler (some (.Name T np)) nm suite pos'] [] [] pos) (tS (rc X C) c B W (exTry R c body T nm suite)) := by
  unfold exTry
  cases hg : c.calm && c.loops && c.tries && isGl c T && excT c.cls T && !suite.isEmpty with
  | false => exact tS_no
  | true =>
    simp only [Bool.and_eq_true, Bool.not_eq_true'] at hg
    obtain ⟨⟨⟨⟨⟨g1, g2⟩, g6⟩, g3⟩, g4⟩, g5⟩ := hg
    obtain ⟨t1, t2⟩ := k.top g2
    have hnames : Names X T (tvOf X.K T) := by
      refine ⟨(k.gl g3).1, okN_dbg (k.gl g3).2, ?_⟩
      unfold excT at g4
      unfold tvOf
      cases hv : seq T "ValueError" with
      | true =>
        have := seq_eq hv
        subst this
        exact .inr ⟨k.xs.ve, show bootBuiltins "ValueError" = some (.type "ValueError") by decide +kernel, by decide⟩
      | false =>
        rw [hv, Bool.or_false] at g4
        exact .inl (k.xs.gl T g4)
    have hN : X.N.Nodup := by rw [k.N]; exact k.nd
    cases suite with
    | nil => cases g5
    | cons b0 suite =>
      have hbody : ∀ (W' : WX) (pn : List (Addr × Obj)) (xe : Value → Shared → Prop), Takes (X.tr pn xe) W' → PassesOwn (model X.prog X.w) X.A X.env xe → PSs (X.tr pn xe) body (tS (rc X C) c B W' (seqS (R.exS c) body)) :=
        fun W' pn xe tk po => s_seq (hb (X.tr pn xe) C c W' B (k.tr g6 tk po)) body
      have hsu : ∀ (a : Addr) (oe : Obj) (cls : Value) (d : Option Addr) (pn : List (Addr × Obj)), Zc cls d oe → (∃ vs, oe.data = .fields vs) → PSs (X.suite a ((a, oe) :: pn)) (b0 :: suite) (tS ((rc X C).ex (some (a, cls, d))) (suCtx c) B never (seqS (R.exS (suCtx c)) (b0 :: suite))) :=
        fun a oe cls d pn hz hf => s_seq (hb (X.suite a ((a, oe) :: pn)) ⟨C.C, some (a, cls, d)⟩ (suCtx c) never B (k.su g6 a oe cls d pn hz hf)) (b0 :: suite)
      have c0 : (rc X C).C.e = none := k.e0 g6
      cases nm with
      | none =>
        dsimp only
        refine PS.imp (ps_try_only (tb := fun W' => tS (rc X C) c B W' (seqS (R.exS c) body)) (ts := fun a cls d => tS ((rc X C).ex (some (a, cls, d))) (suCtx c) B never (seqS (R.exS (suCtx c)) (b0 :: suite))) t1 t2 hnames k.tk hbody hsu) fun Dn σ H ⟨O, S, row, F, h⟩ => ⟨O, S, row, F, ?_⟩
        dsimp only at h
        cases hx : seqS (R.exS c) body S row with
        | no => rw [hx] at h; exact h
        | nx S1 r1 => rw [hx] at h; exact h
        | bk S1 r1 => rw [hx] at h; exact h
        | ct S1 r1 => rw [hx] at h; exact h
        | rt d r1 => rw [hx] at h; exact h
        | ex z S1 r1 =>
          rw [hx] at h
          dsimp only at h
          intro dd O' σ' H' F' e' s' xf
          cases hs : isSub c.cls z.cls T with
          | none => rw [hs] at h; exact h.elim
          | some b =>
            rw [hs] at h
            refine ⟨b, (k.xs.kit _ _ _ hs).2, fun eb a na => ?_, fun eb => ?_⟩
            · subst eb
              obtain ⟨n1, n2⟩ := F'.noX c0
              exact ⟨O', S1, r1, (F'.re _ n1 n2).toSu, su_end (f := id) (g := id) (fun _ _ _ _ _ F => F) (fun _ _ _ _ _ F => F) (OutS.re e' s' h)⟩
            · subst eb
              exact h dd O' σ' H' F' e' s' xf
      | some n =>
        dsimp only
        cases hi : slotE c n with
        | none => exact tS_no
        | some i =>
          obtain ⟨l1, l2, l3, l4⟩ := slotE_is hi
          have hkind : X.env.kindOf n = some .local := by
            show X.env.scope.names.lookup n = some .local
            rw [k.sc]
            rw [look_eq] at l1
            exact k.st n _ (by decide) l1
          dsimp only
          refine PS.imp (ps_try_as (i := i) (tb := fun W' => tS (rc X C) c B W' (seqS (R.exS c) body)) (ts := fun a cls d => tS ((rc X C).ex (some (a, cls, d))) (suCtx c) B never (seqS (R.exS (suCtx c)) (b0 :: suite))) t1 t2 hN (by rw [k.N]; exact idx_at l2) hkind hnames k.tk hbody hsu) fun Dn σ H ⟨O, S, row, F, h⟩ => ⟨O, S, row, F, ?_⟩
          dsimp only at h
          cases hx : seqS (R.exS c) body S row with
          | no => rw [hx] at h; exact h
          | nx S1 r1 => rw [hx] at h; exact h
          | bk S1 r1 => rw [hx] at h; exact h
          | ct S1 r1 => rw [hx] at h; exact h
          | rt d r1 => rw [hx] at h; exact h
          | ex z S1 r1 =>
            rw [hx] at h
            dsimp only at h
            intro dd O' σ' H' F' e' s' xf
            obtain ⟨zc, zf⟩ := z
            cases hs : isSub c.cls zc T with
            | none => rw [hs] at h; exact h.elim
            | some b =>
              rw [hs] at h
              refine ⟨b, (k.xs.kit _ _ _ hs).2, fun eb a na => ?_, fun eb => ?_⟩
              · subst eb
                cases zf with
                | cons _ _ => exact h.elim
                | nil =>
                  have xf2 : dd = none := xf
                  subst xf2
                  obtain ⟨n1, n2⟩ := F'.noX c0
                  have F2 := (F'.re (some (a, xcls (rc X C) ⟨zc, []⟩, none)) n1 n2).setVal (i := i) (v := .ref a) (d := excD ⟨zc, []⟩) l3 l4 (.exc0 rfl)
                  exact ⟨O', _, r1, F2.toSu, su_end (f := fun S => S.set i none) (g := fun σ => σ.set i none) (fun _ _ _ _ _ F => F.setNo l4) (fun _ _ _ _ _ F => F.setNo l4) (OutS.re e' s' h)⟩
              · subst eb
                cases zf with
                | cons _ _ => exact h dd O' σ' H' F' e' s' xf
                | nil => exact h dd O' σ' H' F' e' s' xf
end
end TH

set_option Elab.async false
set_option linter.all false
set_option maxRecDepth 100000
set_option maxHeartbeats 4000000
/-! DV15: all expressions and statements. -/
namespace TH
open PySem PySem.Spec PyProof.Rows L2
section
variable {X : Cx} {C : Cn} {c : Ctx} {W : WX} {B : Bg}
theorem Rps.noP {R : RC} {P : Addr → Prop} {H : Hp} {vs : List V} {ds : List D} (h : Rps R P H vs ds) (l : lfs ds = true) : Rps R (fun _ => False) H vs ds := h.lf _ l
theorem s_raise (k : COk X C c W) (hc : c.calm = true) (hl : c.loops = true) {R : Evs} (he : ∀ e, PE X e (tE (rc X C) c B W (R.ev c e))) {x : Str} (hg : isGl c x = true) (es : List Expr) {p pos rpos : Pos} :
    PS X (.Raise (some (.Call (.Name x p) es [] pos)) none rpos) (tS (rc X C) c B W (exRaise R c x es)) := by
  unfold exRaise
  cases h : look x c.exs with
  | none => exact tS_no
  | some ns =>
    cases ns with
    | nil =>
      dsimp only
      split
      · exact PS.imp (ps_raise (k.calm hc) k.tk (k.exk hl X.pn X.xe x h (k.gl hg).1 _ _ _ _ _)) fun Dn σ H ⟨O, S, row, F, h⟩ => h none O σ H F Ext.refl Sub.refl rfl
      · exact tS_no
    | cons n ns =>
      dsimp only
      split
      · rename_i e es'
        cases hn : nsts (e :: es') with
        | false =>
          unfold evs
          rw [hn]
          exact tS_no
        | true =>
          refine PS.imp (ps_raise (k.calm hc) k.tk (k.exf hl X.pn X.xe x n ns h (k.gl hg).1 e es' _ _ _ hn (s_args he (e :: es')))) fun Dn σ H ⟨O, S, row, F, h⟩ => ⟨O, S, row, F, (OutS.lift h).mono fun rs r1 H1 F1 e1 h1 vs ks => ?_⟩
          split at h1
          · rename_i ds hds hall
            split at h1
            · rename_i hlf
              rw [Bool.and_eq_true] at hlf
              refine ⟨ds, (allV_vs ks hds hall).lf _ hlf.1, Nat.eq_of_beq_eq_true hlf.2, fun dd H' sm xf => ?_⟩
              exact h1 dd O σ H' (F1.same sm) (Same.ext sm) Sub.refl xf
            · exact h1.elim
          · exact h1.elim
      · exact tS_no
structure AllOk (n : Nat) : Prop where
  ev : ∀ (X : Cx) (C : Cn) (c : Ctx) (W : WX) (B : Bg), COk X C c W → ∀ e, PE X e (tE (rc X C) c B W ((evN n).ev c e))
  evT : ∀ (X : Cx) (C : Cn) (c : Ctx) (W : WX) (B : Bg), COk X C c W → ∀ e, PT X e (tT (rc X C) c B W ((evN n).evT c e))
  exS : ∀ (X : Cx) (C : Cn) (c : Ctx) (W : WX) (B : Bg), COk X C c W → ∀ s, PS X s (tS (rc X C) c B W ((evN n).exS c s))
theorem lcOk_blk {tg : Expr} {scope : Scope} (h : lcOk c tg scope = true) : BlkB c.sc scope := by
  unfold lcOk at h
  rw [Bool.and_eq_true, Bool.and_eq_true, Bool.and_eq_true] at h
  exact blkB_is h.2.1
theorem lcOk_calm {tg : Expr} {scope : Scope} (h : lcOk c tg scope = true) : c.calm = true := by
  unfold lcOk at h
  rw [Bool.and_eq_true] at h
  exact h.1
theorem ev_step {R : Evs} (k : COk X C c W) (he : ∀ e, PE X e (tE (rc X C) c B W (R.ev c e))) (ht : ∀ e, PT X e (tT (rc X C) c B W (R.evT c e)))
    (hE : ∀ (Y : Cx) (c' : Ctx) (W' : WX), COk Y C c' W' → ∀ e, PE Y e (tE (rc Y C) c' B W' (R.ev c' e))) (hT : ∀ (Y : Cx) (c' : Ctx) (W' : WX), COk Y C c' W' → ∀ e, PT Y e (tT (rc Y C) c' B W' (R.evT c' e))) (e : Expr) :
    PE X e (tE (rc X C) c B W (evStep R c e)) := by
  cases e with
  | Constant v j pos =>
    cases v with
    | int i => exact s_int
    | str i => exact s_str
    | bool i => exact s_bl
    | none => exact s_non
    | _ => exact tE_no
  | Name x pos => exact s_name k
  | BinOp a op b pos => exact s_bin (he a) (he b)
  | UnaryOp op a pos =>
    cases op with
    | USub => exact s_neg (he a)
    | Not => exact s_not (he a)
    | _ => exact tE_no
  | Compare l ops rs pos => exact s_cmp k he l pos ops rs
  | BoolOp op es pos =>
    cases op with
    | And => exact s_and he es
    | Or => exact s_or he es
  | IfExp t a b pos => exact s_if (ht t) (he a) (he b)
  | Subscript a i pos =>
    by_cases hs : isSl i = true
    · cases i with
      | Slice lo hi st p2 =>
        cases st with
        | none => exact s_sl (he a) (s_part he lo) (s_part he hi)
        | some st => exact tE_no
      | _ => cases hs
    · have hs2 : isSl i = false := by simpa using hs
      have e : evStep R c (.Subscript a i pos) = fun S r => (R.ev c a S r).bind fun x r => (R.ev c i S r).bind fun y r => match rdR S r x, rd S y with
          | some x, some y => ret (x.elf && y.elf) (ixD x y) r
          | _, _ => .no := by
        cases i <;> first | rfl | cases hs2
      rw [e]
      exact s_ix (he a) (he i) hs2
  | Attribute o f pos =>
    cases o with
    | Name x p => exact s_attr k (he (.Name x p))
    | _ => exact tE_no
  | Tuple es kk pos => exact s_tup he es
  | List es pos => exact s_lst he es
  | Dict ks vs pos =>
    cases ks with
    | cons _ _ => exact tE_no
    | nil =>
      cases vs with
      | cons _ _ => exact tE_no
      | nil => exact s_dict
  | Call f es kws pos =>
    cases f with
    | Name x p =>
      cases kws with
      | nil => exact s_callE k he x es
      | cons _ _ => exact tE_no
    | Attribute o m apos =>
      cases kws with
      | nil => exact s_methE k he o m apos pos es
      | cons _ _ => exact tE_no
    | _ => exact tE_no
  | ListComp elt gens scope pos =>
    show PE X _ (tE (rc X C) c B W fun S r => lcStep R c elt gens scope S r)
    unfold lcStep
    split
    · rename_i tg it ifs
      cases hok : lcOk c tg scope && noSet it with
      | false => exact tE_no
      | true =>
        rw [Bool.and_eq_true] at hok
        have hB := lcOk_blk hok.1
        have hcalm := lcOk_calm hok.1
        exact s_lc k he hok.1 (fun s H Ca cl fp => hE _ _ _ (k.blk hcalm hB s H Ca cl fp)) (fun s H Ca cl fp => hT _ _ _ (k.blk hcalm hB s H Ca cl fp)) hok.2
    · exact tE_no
  | _ => exact tE_no
theorem evT_step {R : Evs} (k : COk X C c W) (he : ∀ e, PE X e (tE (rc X C) c B W (R.ev c e))) (ht : ∀ e, PT X e (tT (rc X C) c B W (R.evT c e))) (e : Expr) : PT X e (tT (rc X C) c B W (evTStep R c e)) := by
  cases e with
  | UnaryOp op a pos =>
    cases op with
    | Not => exact s_notT (ht a)
    | _ => exact s_valT (he _) fun _ => rfl
  | BoolOp op es pos =>
    cases op with
    | And => exact (s_andT ht es).pt
    | Or => exact (s_orT ht es).pt
  | Compare l ops rs pos => exact s_cmpT k he l pos ops rs
  | IfExp t a b pos => exact tT_no
  | _ => exact s_valT (he _) fun _ => rfl
theorem s_exSet {R : Evs} (k : COk X C c W) (he : ∀ e, PE X e (tE (rc X C) c B W (R.ev c e)))
    (hE : ∀ (Y : Cx) (c' : Ctx) (W' : WX), COk Y C c' W' → ∀ e, PE Y e (tE (rc Y C) c' B W' (R.ev c' e))) (hT : ∀ (Y : Cx) (c' : Ctx) (W' : WX), COk Y C c' W' → ∀ e, PT Y e (tT (rc Y C) c' B W' (R.evT c' e))) {x : Str} {i : Nat} (hi : slotL c x = some i) (e : Expr) {p pos : Pos} :
    PS X (.Assign [.Name x p] e pos) (tS (rc X C) c B W (exSet R c i e)) := by
  cases e with
  | ListComp elt gens scope lpos =>
    show PS X _ (tS (rc X C) c B W fun S r => liftS S (lcStep R c elt gens scope S r) fun v r => putS c i v S r)
    unfold lcStep
    split
    · rename_i tg it ifs
      cases hok : lcOk c tg scope && noSet it with
      | false => exact tS_no
      | true =>
        rw [Bool.and_eq_true] at hok
        have hB := lcOk_blk hok.1
        have hcalm := lcOk_calm hok.1
        exact s_asgLc k he hi hok.1 (fun s H Ca cl fp => hE _ _ _ (k.blk hcalm hB s H Ca cl fp)) (fun s H Ca cl fp => hT _ _ _ (k.blk hcalm hB s H Ca cl fp)) hok.2
    · exact tS_no
  | SetComp _ _ _ _ => exact tS_no
  | DictComp _ _ _ _ _ => exact tS_no
  | _ => exact s_asg k hi (he _) rfl
theorem exS_step {R : Evs} (k : COk X C c W) (he : ∀ e, PE X e (tE (rc X C) c B W (R.ev c e))) (ht : ∀ e, PT X e (tT (rc X C) c B W (R.evT c e))) (hs : ∀ s, PS X s (tS (rc X C) c B W (R.exS c s)))
    (hE : ∀ (Y : Cx) (c' : Ctx) (W' : WX), COk Y C c' W' → ∀ e, PE Y e (tE (rc Y C) c' B W' (R.ev c' e))) (hT : ∀ (Y : Cx) (c' : Ctx) (W' : WX), COk Y C c' W' → ∀ e, PT Y e (tT (rc Y C) c' B W' (R.evT c' e)))
    (hS : ∀ (Y : Cx) (C' : Cn) (c' : Ctx) (W' : WX) (B : Bg), COk Y C' c' W' → ∀ s, PS Y s (tS (rc Y C') c' B W' (R.exS c' s))) (s : Stmt) :
    PS X s (tS (rc X C) c B W (exStep R c s)) := by
  cases s with
  | Try body hs els fin pos =>
    cases hs with
    | nil => exact tS_no
    | cons h0 ht =>
      obtain ⟨ty, nm, suite, hp⟩ := h0
      cases ty with
      | none => exact tS_no
      | some ty =>
        cases ty with
        | Name T np =>
          cases ht with
          | cons _ _ => exact tS_no
          | nil =>
            cases els with
            | cons _ _ => exact tS_no
            | nil =>
              cases fin with
              | cons _ _ => exact tS_no
              | nil => exact s_try k hS
        | _ => exact tS_no
  | Pass pos => exact s_pass
  | Break pos => exact s_break
  | Continue pos => exact s_cont
  | Return e pos =>
    cases e with
    | none => exact s_retN
    | some e => exact s_ret (he e)
  | If t a b pos => exact s_ifS (ht t) (s_seq hs a) (s_seq hs b)
  | Assign tgs e pos =>
    cases tgs with
    | nil => exact tS_no
    | cons t ts =>
      cases ts with
      | cons _ _ =>
        cases t with
        | Subscript o i p => cases o <;> exact tS_no
        | _ => exact tS_no
      | nil =>
        cases t with
        | Name x p =>
          show PS X _ (tS (rc X C) c B W fun S r => match slotL c x with
            | some i => exSet R c i e S r
            | none => .no)
          cases hi : slotL c x with
          | none => exact tS_no
          | some i => exact s_exSet k he hE hT hi e
        | Tuple es kk p =>
          show PS X _ (tS (rc X C) c B W fun S r => match noComp e && noTup e with
            | true => liftS S (R.ev c e S r) fun v r => (match v with
              | .v _ d => (match tgt c (.Tuple es kk p) d S with
                | some S => .nx S r
                | none => .no)
              | _ => .no)
            | false => .no)
          cases hn : noComp e && noTup e with
          | false => exact tS_no
          | true =>
            rw [Bool.and_eq_true] at hn
            exact s_asgT k (he e) hn.1 hn.2
        | Subscript o i p =>
          cases o with
          | Name x px =>
            show PS X _ (tS (rc X C) c B W fun S r => match TH.slot c x, !(isSl i) && noTup e && noComp e with
              | some k, true => exSub R c k i e S r
              | _, _ => .no)
            cases hx : TH.slot c x with
            | none => exact tS_no
            | some kx =>
              cases hb : !(isSl i) && noTup e && noComp e with
              | true =>
                rw [Bool.and_eq_true, Bool.and_eq_true, Bool.not_eq_true'] at hb
                exact s_sub k he hx hb.1.1 hb.2 hb.1.2
              | false => exact tS_no
          | _ => exact tS_no
        | _ => exact tS_no
  | Expr e pos =>
    cases e with
    | Call f es kws cpos =>
      cases kws with
      | cons _ _ =>
        cases f with
        | Attribute o m apos => cases o <;> exact tS_no
        | _ => exact tS_no
      | nil =>
        cases f with
        | Name x p => exact s_exprC (he _)
        | Attribute o m apos =>
          cases o with
          | Name x p =>
            show PS X _ (tS (rc X C) c B W fun S r => match TH.slot c x with
              | some i => (match isOwn c i && !(isIo c i) && oneLine apos cpos && nsts es && Nat.ble es.length 4 with
                | true => (match mutS m with
                  | some g => exMut (R.ev c) g i es S r
                  | none => .no)
                | false => .no)
              | none => .no)
            cases hi : TH.slot c x with
            | none => exact tS_no
            | some i =>
              dsimp only
              cases hb : isOwn c i && !(isIo c i) && oneLine apos cpos && nsts es && Nat.ble es.length 4 with
              | false => exact tS_no
              | true =>
                simp only [Bool.and_eq_true, Bool.not_eq_true'] at hb
                dsimp only
                cases hm : mutS m with
                | none => exact tS_no
                | some g => exact s_mut k he hi hb.1.1.1.1 hb.1.1.1.2 hb.1.1.2 hb.1.2 (by have := Nat.le_of_ble_eq_true hb.2; omega) hm
          | _ => exact tS_no
        | _ => exact tS_no
    | _ => exact tS_no
  | For tg it body els pos =>
    cases els with
    | cons _ _ => exact tS_no
    | nil =>
      show PS X _ (tS (rc X C) c B W fun S r => match c.calm && c.loops && noSet it with
        | true => liftS S (itr (R.ev c) c tg it S r) fun ds r => forD (tgt c tg) (seqS (R.exS c) body) ds.1 (match ds.2 with
            | some i => S.set i none
            | none => S) r
        | false => .no)
      cases hb : c.calm && c.loops && noSet it with
      | false => exact tS_no
      | true =>
        rw [Bool.and_eq_true, Bool.and_eq_true] at hb
        exact s_for k hb.1.1 hb.1.2 he (s_seq hs body) hb.2
  | Raise e frm pos =>
    cases e with
    | none => exact tS_no
    | some e =>
      cases frm with
      | some _ => cases e <;> first | exact tS_no | (rename_i f _ kws _; cases f <;> first | exact tS_no | (cases kws <;> exact tS_no))
      | none =>
        cases e with
        | Call f es kws cpos =>
          cases f with
          | Name x p =>
            cases kws with
            | cons _ _ => exact tS_no
            | nil =>
              show PS X _ (tS (rc X C) c B W fun S r => match c.calm && c.loops && isGl c x with
                | true => exRaise R c x es S r
                | false => .no)
              cases hb : c.calm && c.loops && isGl c x with
              | false => exact tS_no
              | true =>
                rw [Bool.and_eq_true, Bool.and_eq_true] at hb
                exact s_raise k hb.1.1 hb.1.2 he hb.2 es
          | _ => exact tS_no
        | _ => exact tS_no
  | _ => exact tS_no
theorem allOk : ∀ n, AllOk n
  | 0 => ⟨fun X C c W B k e => tE_no, fun X C c W B k e => tT_no, fun X C c W B k s => tS_no⟩
  | n + 1 =>
    have ih := allOk n
    ⟨fun X C c W B k e => ev_step k (ih.ev X C c W B k) (ih.evT X C c W B k) (fun Y c' W' k' => ih.ev Y C c' W' B k') (fun Y c' W' k' => ih.evT Y C c' W' B k') e,
      fun X C c W B k e => evT_step k (ih.ev X C c W B k) (ih.evT X C c W B k) e,
      fun X C c W B k s => exS_step k (ih.ev X C c W B k) (ih.evT X C c W B k) (ih.exS X C c W B k) (fun Y c' W' k' => ih.ev Y C c' W' B k') (fun Y c' W' k' => ih.evT Y C c' W' B k') ih.exS s⟩
end
end TH

set_option Elab.async false
set_option linter.all false
set_option maxRecDepth 100000
set_option maxHeartbeats 4000000
/-! DV16: a def is its evaluator. -/
namespace TH
open PySem PySem.Spec PyProof.Rows L2
section
variable {prog : Program} {w : World} {K : PySem.W.Frag} {mg : Str → Option Value} {base : Heap} {C : Cn}
def FnFact (prog : Program) (w : World) (K : PySem.W.Frag) (mg : Str → Option Value) (base : Heap) (C : Cn) (k : Nat) (x : Str) (fn : Fn) : Prop := ∃ (f : Addr) (fd : FuncData) (ps : List Str),
  FnOk prog w K mg base (L2.CX prog w) k f fd ps (spF ⟨prog, w, K, C⟩ fn) ∧ mg x = some (.ref f) ∧ PySem.W.keepIn K (.ref f) = true ∧ Binds K fd ps []
def MkFact (prog : Program) (w : World) (K : PySem.W.Frag) (mg : Str → Option Value) (base : Heap) (C : Cn) (k : Nat) (x : Str) (fn : Fn) : Prop := ∃ (f : Addr) (fd : FuncData) (ps : List Str),
  Mk K C.C f ∧ FnOk prog w K mg base (L2.CX prog w) k f fd ps (spM ⟨prog, w, K, C⟩ fn) ∧ mg x = some (.ref C.C) ∧ Binds K fd ps []
def MetFact (prog : Program) (w : World) (K : PySem.W.Frag) (mg : Str → Option Value) (base : Heap) (C : Cn) (k : Nat) (m : Str) (fn : Fn) : Prop := fn.io = false ∧ ∃ (f : Addr) (fd : FuncData) (ps : List Str),
  Meth K C.C m f ∧ FnOk prog w K mg base (L2.CX prog w) k f fd ps (spF ⟨prog, w, K, C⟩ fn) ∧ Binds K fd ps []
/-- what stands in the program for all defs -/
structure PrOk (prog : Program) (w : World) (K : PySem.W.Frag) (mg : Str → Option Value) (C : Cn) (c : Ctx) : Prop where
  blt : ∀ x ∈ bltNames, mg x = none
  cst : ∀ x d, look x c.cst = some d → ∃ v u, mg x = some u ∧ RelV v u ∧ ∀ P H, Rp ⟨prog, w, K, C⟩ P H v d
  hcls : Cls K C.C
  nkt : NoAttr K C.C "kept_things"
  nkk : NoAttr K C.C "kept_ties"
  xs : ExsOk K mg c.cls
  e0 : c.tries = true → C.e = none
/-- what of a def is seen by looking -/
def defB (c : Ctx) (ps : List Str) (body : List Stmt) : Bool := c.calm && c.loops && (c.sc.names.all fun y => okN y.1) && (match c.io with
  | some i => !(isOwn c i)
  | none => true) && (c.own.all fun i => Nat.ble ps.length i) && Nat.beq ps.length (c.np + (if ioB c then 1 else 0)) && Nat.ble ps.length c.N.length && (match c.io with
  | some i => ioB c || Nat.ble ps.length i
  | none => true)
theorem map_get {α : Type} {l : List α} {n i : Nat} {d : α} (h : (l.map some ++ List.replicate n (none : Option α))[i]? = some (some d)) : l[i]? = some d := by
  by_cases hi : i < l.length
  · rw [List.getElem?_append_left (by simpa using hi), List.getElem?_map] at h
    cases e : l[i]? with
    | none => rw [e] at h; cases h
    | some a => rw [e] at h; cases h; rfl
  · rw [List.getElem?_append_right (by simpa using hi), List.getElem?_replicate] at h
    split at h <;> cases h
theorem map_put {α : Type} {l : List α} {n i : Nat} {d : α} (h : l[i]? = some d) : (l.map some ++ List.replicate n (none : Option α))[i]? = some (some d) := by
  have hi : i < l.length := (List.getElem?_eq_some_iff.mp h).1
  rw [List.getElem?_append_left (by simpa using hi), List.getElem?_map, h]
  rfl
theorem fr_start0 {R : RC} {c : Ctx} {ps : List Str} {vs : List V} {ds : List D} {H : Hp} (hn : ioB c = false) (ho : ∀ i, isOwn c i = true → ps.length ≤ i) (hio : ∀ i, c.io = some i → ps.length ≤ i) (hl : vs.length = ps.length) (hN : ps.length ≤ c.N.length) (r : RpsT R H vs ds) :
    Fr R c ⟨H, none⟩ [] (startE c ds) none (L2.start c.N vs) H := by
  have el : vs.length = ds.length := r.length
  have eS : startE c ds = ds.map some ++ List.replicate (c.N.length - ds.length) none := by unfold startE; rw [hn]
  have ioA0 : ioA c (L2.start c.N vs) = [] := by
    unfold ioA
    cases e : c.io with
    | none => rfl
    | some i =>
      dsimp only
      have h1 := hio i e
      split
      · rename_i r0 h
        have := map_get h
        rw [List.getElem?_eq_none (by omega)] at this
        cases this
      · rfl
  rw [eS]
  refine ⟨?_, fun a o h _ => h, fun a o h => ⟨o, h⟩, fun a h => by simp at h, fun a h => by simp at h, fun i d h _ => ?_, fun i d h z => ?_, fun i j d d' a h1 h2 o1 o2 s1 s2 => ?_, fun ds h => (nomatch h), fun i h1 h2 => ?_, fun r h => (nomatch h), fun r h => by rw [ioA0] at h; simp at h⟩
  · unfold L2.start
    simp only [List.length_append, List.length_map, List.length_replicate, el]
  · obtain ⟨v, h1, h2⟩ := r.get (map_get h)
    exact ⟨v, map_put h1, h2.imp fun _ _ => by simp⟩
  · have := map_get h
    have h1 := ho i z
    rw [List.getElem?_eq_none (by omega)] at this
    cases this
  · have := map_get h1
    have h3 := ho i o1
    rw [List.getElem?_eq_none (by omega)] at this
    cases this
  · obtain ⟨x, hx⟩ := h2
    have h3 := hio i h1
    rw [hx]
    rw [List.getElem?_append_right (by simp; omega), List.getElem?_replicate] at hx
    split at hx
    · cases hx; rfl
    · cases hx
theorem fr_start1 {R : RC} {c : Ctx} {ps : List Str} {vs : List V} {ds row : List D} {H : Hp} {r : Addr} {xs : List V} (hn : ioB c = true) (ho : ∀ i, isOwn c i = true → ps.length ≤ i) (hl : vs.length + 1 = ps.length) (hN : ps.length ≤ c.N.length) (hr : H r = some (.lst xs)) (hx : Rps R (fun _ => False) H xs row) (rr : Rps R (· ≠ r) H vs ds) :
    Fr R c ⟨H, some r⟩ [r] (startE c ds) (some row) (L2.start c.N (.ref r :: vs)) H := by
  have el : vs.length = ds.length := rr.length
  have eS : startE c ds = none :: (ds.map some ++ List.replicate (c.N.length - 1 - ds.length) none) := by unfold startE; rw [hn]
  have e0 : c.io = some 0 := by
    unfold ioB at hn
    split at hn
    · assumption
    · cases hn
  have eσ : L2.start c.N (.ref r :: vs) = some (.ref r) :: (vs.map some ++ List.replicate (c.N.length - 1 - vs.length) none) := by
    unfold L2.start
    rw [List.map_cons, List.cons_append, List.length_cons]
    have e : c.N.length - (vs.length + 1) = c.N.length - 1 - vs.length := by omega
    rw [e]
  have ioA1 : ioA c (L2.start c.N (.ref r :: vs)) = [r] := ioA_of e0 (by rw [eσ]; rfl)
  rw [eS]
  have own0 : ∀ j d, (none :: (ds.map some ++ List.replicate (c.N.length - 1 - ds.length) none) : Env)[j]? = some (some d) → isOwn c j = true → False := fun j d h z => by
    have h1 := ho j z
    cases j with
    | zero => omega
    | succ j =>
      rw [List.getElem?_cons_succ] at h
      have := map_get h
      rw [List.getElem?_eq_none (by omega)] at this
      cases this
  refine ⟨?_, fun a o h _ => h, fun a o h => ⟨o, h⟩, fun a h => ?_, fun a h z => ?_, fun i d h _ => ?_, fun i d h z => (own0 i d h z).elim, fun i j d d' a h1 h2 o1 o2 s1 s2 => (own0 i d h1 o1).elim, fun ds h => ?_, fun i h1 h2 => ?_, fun r' h => ?_, fun r' h => ?_⟩
  · rw [eσ]
    simp only [List.length_cons, List.length_append, List.length_map, List.length_replicate, el]
  · rw [List.mem_singleton.mp h]; exact ⟨_, hr⟩
  · rw [List.mem_singleton.mp h] at z
    exact absurd rfl z
  · cases i with
    | zero => cases h
    | succ i =>
      rw [List.getElem?_cons_succ] at h
      obtain ⟨v, h1, h2⟩ := rr.get (map_get h)
      refine ⟨v, ?_, h2.imp fun a z => by simpa using z⟩
      rw [eσ, List.getElem?_cons_succ]
      exact map_put h1
  · cases h
    exact ⟨0, r, xs, e0, by rw [eσ]; rfl, List.mem_cons_self, .inl rfl, hr, hx, fun j d h z => (own0 j d h z).elim⟩
  · rw [e0] at h1
    cases h1
    rfl
  · cases h
    exact ⟨row, 0, rfl, e0, by rw [eσ]; rfl⟩
  · rw [ioA1] at h
    rw [List.mem_singleton.mp h]
    exact ⟨List.mem_cons_self, .inl rfl, fun j d h z => (own0 j d h z).elim⟩
theorem def_ok {x qual : Str} {params : Arguments} {body : List Stmt} {f : Addr} {fd : FuncData} {ps : List Str} {k : Nat} (n : Nat) (c : Ctx) (FD : FunD K x qual params body c.sc [] [] f fd) (S : FnScope c.N ps c.sc) (est : c.st = c.sc) (hb : defB c ps body = true) (pr : PrOk prog w K mg C c)
    (fns : ∀ y fn, look y c.fns = some fn → FnFact prog w K mg base C k y fn) (mks : ∀ y fn, look y c.mks = some fn → ∃ k', k' + 1 ≤ k ∧ MkFact prog w K mg base C k' y fn) (mts : ∀ y fn, look y c.mts = some fn → MetFact prog w K mg base C k y fn)
    (exk : ∀ X : Cx, X.prog = prog → X.w = w → X.K = K → X.mg = mg → X.base = base → Room k X.A → X.calm = true → ∀ y, look y c.exs = some [] → ExK X y) (exf : ∀ X : Cx, X.prog = prog → X.w = w → X.K = K → X.mg = mg → X.base = base → Room k X.A → X.calm = true → ∀ y m ns, look y c.exs = some (m :: ns) → ExF X C y (m :: ns)) :
    FnOk prog w K mg base (L2.CX prog w) (k + 1) f fd ps (spF ⟨prog, w, K, C⟩ (mkFn n c body)) := by
  unfold defB at hb
  simp only [Bool.and_eq_true] at hb
  obtain ⟨⟨⟨⟨⟨⟨⟨b1, b2⟩, b3⟩, b4⟩, b5⟩, b6⟩, b7⟩, b8⟩ := hb
  have hown : ∀ i, isOwn c i = true → ps.length ≤ i := fun i hi => Nat.le_of_ble_eq_true (List.all_eq_true.mp b5 i (inN_iff.mp hi))
  have hnp : ps.length = c.np + (if ioB c then 1 else 0) := Nat.eq_of_beq_eq_true b6
  have hpN : ps.length ≤ c.N.length := Nat.le_of_ble_eq_true b7
  have runlen : ∀ {ds row}, (∀ z : Out D, runB n c body ds row = z → z ≠ .no) → ds.length = c.np := fun {ds row} h => by
    have h2 := h _ rfl
    unfold runB at h2
    split at h2
    · rename_i hh
      exact Nat.eq_of_beq_eq_true hh
    · exact absurd rfl h2
  refine FD.ok S (fun vs H Q E h => ?_) fun cdv A outer s H vs Q E hr h => ?_
  · rcases h with ⟨h1, ds, h2, h3⟩ | ⟨h1, r, vs', ds, row, xs, rfl, h2, h3, h4, h5⟩
    · have h1 : ioB c = false := h1
      have : ds.length = c.np := runlen (row := none) fun z hz e => by
        have h3 : match runB n c body ds none with
          | .no => False
          | .ok d _ => ∀ v H', Same H H' → Rp ⟨prog, w, K, C⟩ (fun a => H a = none) H' v d → Q v H'
          | .ex x _ => ∀ dd H', Same H H' → XFl ⟨prog, w, K, C⟩ H' x.flds dd → E (xcls ⟨prog, w, K, C⟩ x) dd H' := h3
        rw [hz, e] at h3
        exact h3
      rw [h2.length, this, hnp, h1]
      rfl
    · have h1 : ioB c = true := h1
      have : ds.length = c.np := runlen (row := some row) fun z hz e => by
        have h5 : match runB n c body ds (some row) with
          | .no => False
          | .ok d row' => ∀ v H', KeepBut r H H' → RowAt ⟨prog, w, K, C⟩ H' r row' → Rp ⟨prog, w, K, C⟩ (fun a => H a = none) H' v d → Q v H'
          | .ex x row' => ∀ dd H', KeepBut r H H' → RowAt ⟨prog, w, K, C⟩ H' r row' → XFl ⟨prog, w, K, C⟩ H' x.flds dd → E (xcls ⟨prog, w, K, C⟩ x) dd H' := h5
        rw [hz, e] at h5
        exact h5
      rw [List.length_cons, h4.length, this, hnp, h1]
      rfl
  · -- the body
    have hk : COk (cxOf (L2.CX prog w) prog w K mg base c.N qual c.sc f cdv A outer s H E) C c (fun cls d _ H => E cls d H) :=
      { N := rfl, nd := S.nd, sc := rfl, kind := S.kind, calm := fun _ => rfl, po := fun _ => passes_of rfl, st := fun x kk _ h => by rw [est] at h; exact h, fnc := fun _ _ => rfl,
        okn := fun x kk h => List.all_eq_true.mp b3 _ (look_mem h), room := hr.units, tk := takes_of rfl rfl rfl rfl, blt := pr.blt, cst := pr.cst,
        fns := fun _ x fn h => let ⟨f', fd', ps', q1, q2, q3, q4⟩ := fns x fn h; ⟨k, f', fd', ps', q1, hr, q2, q3, q4⟩,
        mks := fun _ x fn h => let ⟨k', hk', f', fd', ps', q1, q2, q3, q4⟩ := mks x fn h; ⟨k', f', fd', ps', q1, q2, hr.mono hk', q3, q4⟩,
        mts := fun _ x fn h => let ⟨q0, f', fd', ps', q1, q2, q3⟩ := mts x fn h; ⟨q0, k, f', fd', ps', q1, q2, hr, q3⟩,
        exk := fun _ pn xe x h => exk ((cxOf (L2.CX prog w) prog w K mg base c.N qual c.sc f cdv A outer s H E).tr pn xe) rfl rfl rfl rfl rfl hr rfl x h, exf := fun _ pn xe x m ns h => exf ((cxOf (L2.CX prog w) prog w K mg base c.N qual c.sc f cdv A outer s H E).tr pn xe) rfl rfl rfl rfl rfl hr rfl x m ns h,
        xs := pr.xs, exI := fun hcf => (by rw [b1] at hcf; cases hcf), e0 := pr.e0, top := fun _ => ⟨rfl, rfl⟩,
        hcls := pr.hcls, nkt := pr.nkt, nkk := pr.nkk, noio := fun i hi => by
          rw [hi] at b4
          simpa using b4 }
    have body_ok : ∀ B : Bg, PSs (cxOf (L2.CX prog w) prog w K mg base c.N qual c.sc f cdv A outer s H E) body (tS ⟨prog, w, K, C⟩ c B (fun cls d _ H => E cls d H) (seqS ((evN n).exS c) body)) := fun B => s_seq ((allOk n).exS _ C c _ B hk) body
    rcases h with ⟨h1, ds, h2, h3⟩ | ⟨h1, r, vs', ds, row, xs, rfl, h2, h3, h4, h5⟩
    · have h1 : ioB c = false := h1
      have h3 : match runB n c body ds none with
          | .no => False
          | .ok d _ => ∀ v H', Same H H' → Rp ⟨prog, w, K, C⟩ (fun a => H a = none) H' v d → Q v H'
          | .ex x _ => ∀ dd H', Same H H' → XFl ⟨prog, w, K, C⟩ H' x.flds dd → E (xcls ⟨prog, w, K, C⟩ x) dd H' := h3
      unfold runB at h3
      cases hl : Nat.beq ds.length c.np with
      | false => rw [hl] at h3; exact h3.elim
      | true =>
        rw [hl] at h3
        have hlen : vs.length = ps.length := by
          rw [h2.length, Nat.eq_of_beq_eq_true hl, hnp, h1]
          rfl
        refine ⟨_, body_ok ⟨H, none⟩, [], startE c ds, none, fr_start0 h1 hown (fun i hi => ?_) hlen hpN h2, ?_⟩
        · rw [hi] at b8
          dsimp only at b8
          rw [h1, Bool.false_or] at b8
          exact Nat.le_of_ble_eq_true b8
        · cases hx : seqS ((evN n).exS c) body (startE c ds) none with
          | no => rw [hx] at h3; exact h3.elim
          | bk _ _ => rw [hx] at h3; exact h3.elim
          | ct _ _ => rw [hx] at h3; exact h3.elim
          | nx S1 r1 =>
            rw [hx] at h3
            exact fun O' σ' H' F e s => h3 .non H' (fun a o h => F.keep a o h (fun q => nomatch q)) .non
          | rt d r1 =>
            rw [hx] at h3
            exact fun v H' q => h3 v H' (fun a o h => q.keep a o h (fun q => nomatch q)) q.rp
          | ex z S1 r1 =>
            rw [hx] at h3
            exact fun dd O' σ' H' F e s xf => h3 dd H' (fun a o h => F.keep a o h (fun q => nomatch q)) xf
    · have h1 : ioB c = true := h1
      have h5 : match runB n c body ds (some row) with
          | .no => False
          | .ok d row' => ∀ v H', KeepBut r H H' → RowAt ⟨prog, w, K, C⟩ H' r row' → Rp ⟨prog, w, K, C⟩ (fun a => H a = none) H' v d → Q v H'
          | .ex x row' => ∀ dd H', KeepBut r H H' → RowAt ⟨prog, w, K, C⟩ H' r row' → XFl ⟨prog, w, K, C⟩ H' x.flds dd → E (xcls ⟨prog, w, K, C⟩ x) dd H' := h5
      unfold runB at h5
      cases hl : Nat.beq ds.length c.np with
      | false => rw [hl] at h5; exact h5.elim
      | true =>
        rw [hl] at h5
        have hlen : vs'.length + 1 = ps.length := by
          rw [h4.length, Nat.eq_of_beq_eq_true hl, hnp, h1]
          rfl
        have ne : ∀ {a : Addr}, a ≠ r → (⟨H, some r⟩ : Bg).r ≠ some a := fun h e => h (Option.some.inj e).symm
        have rowAt : ∀ {row' H' v d}, RetOk ⟨prog, w, K, C⟩ ⟨H, some r⟩ row' H' v d → RowAt ⟨prog, w, K, C⟩ H' r row' := fun q => by
          obtain ⟨ds', xs', q1, q2, q3⟩ := q.row r rfl
          exact ⟨ds', xs', q1, q2, q3⟩
        refine ⟨_, body_ok ⟨H, some r⟩, [r], startE c ds, some row, fr_start1 h1 hown hlen hpN h2 h3 h4, ?_⟩
        cases hx : seqS ((evN n).exS c) body (startE c ds) (some row) with
        | no => rw [hx] at h5; exact h5.elim
        | bk _ _ => rw [hx] at h5; exact h5.elim
        | ct _ _ => rw [hx] at h5; exact h5.elim
        | nx S1 r1 =>
          rw [hx] at h5
          exact fun O' σ' H' F e s => h5 .non H' (fun a o h z => F.keep a o h (ne z)) (rowAt (F.retOk .non)) .non
        | rt d r1 =>
          rw [hx] at h5
          exact fun v H' q => h5 v H' (fun a o h z => q.keep a o h (ne z)) (rowAt q) q.rp
        | ex z S1 r1 =>
          rw [hx] at h5
          exact fun dd O' σ' H' F e s xf => h5 dd H' (fun a o h z => F.keep a o h (ne z)) (rowAt (F.retOk .non)) xf
end
end TH

set_option Elab.async false
set_option linter.all false
set_option maxRecDepth 100000
set_option maxHeartbeats 4000000
/-! DV17: House.__init__. -/
namespace TH
open PySem PySem.Spec PyProof.Rows L2
mutual
/-- all that it holds stands -/
theorem Rp.has2 {R : RC} {P : Addr → Prop} {H : Hp} : ∀ {d : D} {v : V}, Rp R P H v d → Rp R (fun a => P a ∧ ∃ o, H a = some o ∧ ∀ C dx, o ≠ HO.ins C dx []) H v d
  | .non, _, h => by cases h; exact .non
  | .bl _, _, h => by cases h; exact .bl _
  | .int _, _, h => by cases h; exact .int _
  | .str _, _, h => by cases h; exact .str _
  | .tup ds, _, h => by
    cases h with
    | tup h r => exact .tup h (Rps.has2 r)
  | .lst ds, _, h => by
    cases h with
    | lst p h r => exact .lst ⟨p, _, h, fun _ _ z => nomatch z⟩ h (Rps.has2 r)
  | .dct ks ds, _, h => by
    cases h with
    | dct p h n r1 z r2 => exact .dct ⟨p, _, h, fun _ _ z => nomatch z⟩ h n (Rps.has2 r1) z (Rps.has2 r2)
  | .hou ts ks, _, h => by
    cases h with
    | hou p h p1 h1 r1 p2 h2 r2 => exact .hou ⟨p, _, h, fun _ _ z => nomatch z⟩ h ⟨p1, _, h1, fun _ _ z => nomatch z⟩ h1 (Rps.has2 r1) ⟨p2, _, h2, fun _ _ z => nomatch z⟩ h2 (Rps.has2 r2)
  | .hou1 ts, _, h => by
    cases h with
    | hou1 q p h p1 h1 r1 => exact .hou1 q ⟨p, _, h, fun _ _ z => nomatch z⟩ h ⟨p1, _, h1, fun _ _ z => nomatch z⟩ h1 (Rps.has2 r1)
  | .scr ns, _, h => by
    cases h with
    | scr h => exact .scr h
  | .cst x, _, h => by
    cases h with
    | cst h => exact .cst h
  | .tbl _ _ _, _, h => by
    cases h with
    | tbl h => exact .tbl h
  | .exc cls fs vs, _, h => by
    cases h with
    | exc0 h => exact .exc0 h
    | exc h h2 h3 h4 r => exact .exc h h2 h3 h4 (Rps.has2 r)
theorem Rps.has2 {R : RC} {P : Addr → Prop} {H : Hp} : ∀ {ds : List D} {vs : List V}, Rps R P H vs ds → Rps R (fun a => P a ∧ ∃ o, H a = some o ∧ ∀ C dx, o ≠ HO.ins C dx []) H vs ds
  | [], _, .nil => .nil
  | _ :: _, _, .cons r t => .cons (Rp.has2 r) (Rps.has2 t)
end
section
variable {X : Cx} {C : Cn} {c : Ctx} {W : WX} {R : RC}
/-- some statements, then what comes -/
def tSeqs (R : RC) (c : Ctx) (B : Bg) (W : WX) (fS : Stmt → Env → Row → SO) : List Stmt → TS → TS
  | [], u => u
  | s :: ss, u => tSeq (tS R c B W (fS s)) (tSeqs R c B W fS ss u)
theorem pss_front {B : Bg} {fS : Stmt → Env → Row → SO} {u : TS} {rest : List Stmt} (hs : ∀ s, PS X s (tS R c B W (fS s))) (hu : PSs X rest u) : ∀ ss, PSs X (ss ++ rest) (tSeqs R c B W fS ss u)
  | [] => hu
  | s :: ss => pss_cons (hs s) (pss_front hs hu ss)
theorem front_run {B : Bg} {fS : Stmt → Env → Row → SO} {u : TS} {Dn : Ends} : ∀ {ss : List Stmt} {σ : L2.St} {H : Hp}, tS R c B W (seqS fS ss) { Dn with nx := u Dn } σ H → tSeqs R c B W fS ss u Dn σ H
  | [], σ, H, ⟨O, S, row, F, h⟩ => h O σ H F Ext.refl Sub.refl
  | s :: ss, σ, H, ⟨O, S, row, F, h⟩ => by
    refine ⟨O, S, row, F, ?_⟩
    rw [seqS] at h
    cases e : fS s S row with
    | no => rw [e] at h; exact h
    | nx S1 r1 =>
      rw [e] at h
      exact fun O' σ' H' F' e' s' => front_run ⟨O', S1, r1, F', OutS.re e' s' h⟩
    | bk S1 r1 => rw [e] at h; exact h
    | ct S1 r1 => rw [e] at h; exact h
    | rt d r1 => rw [e] at h; exact h
    | ex z S1 r1 => rw [e] at h; exact h
theorem PSs.exB {ss : List Stmt} {t : Bg → TS} (h : ∀ B, PSs X ss (t B)) : PSs X ss (fun D σ H => ∃ B, t B D σ H) := ⟨fun pins s σ H D I ⟨B, q⟩ => (h B).run pins s σ H D I q⟩
theorem PE.exB {e : Expr} {t : Bg → TE} (h : ∀ B, PE X e (t B)) : PE X e (fun σ H Q => ∃ B, t B σ H Q) := ⟨fun pins s σ H Q I ⟨B, q⟩ => (h B).run pins s σ H Q I q⟩
theorem putF0 {f : Str} {v : V} : putF f v [] = [(f, v)] := rfl
theorem putF1 {v w : V} : putF (Str.ofString "kept_ties") w [(Str.ofString "kept_things", v)] = [(Str.ofString "kept_things", v), (Str.ofString "kept_ties", w)] := by
  have e : ((Str.ofString "kept_ties" : Str) = (Str.ofString "kept_things" : Str)) = False := by
    apply propext
    constructor
    · intro h
      exact absurd h (by decide +kernel)
    · exact False.elim
  unfold putF
  first
    | rfl
    | (simp [putF, e])
    | (rw [if_neg (by decide +kernel)]; rfl)
theorem swAttr {e o : Expr} {f : Str} {p : Pos} {l : Nat} {env : PySem.Env} : swapsWith e (some (.Attribute o f p)) l env = pure false := by
  unfold swapsWith
  cases e <;> rfl
theorem XFl.re {H : Hp} (e : Option (Addr × Value × Option Addr)) {fs : List (Str × D)} {dd : Option Addr} (n : noExcs (fs.map (·.2)) = true) (h : XFl (R.ex e) H fs dd) : XFl R H fs dd := by
  cases fs with
  | nil => exact h
  | cons p fs =>
    obtain ⟨d, fl, h1, h2, h3⟩ := h
    refine ⟨d, fl, h1, h2, fun f z m => ?_⟩
    obtain ⟨v, q1, q2⟩ := h3 f z m
    refine ⟨v, q1, Rp.re (R := R.ex e) R.C.e ?_ q2⟩
    have mm : ∀ {l : List (Str × D)}, noExcs (l.map (·.2)) = true → (f, z) ∈ l → noExc z = true := fun {l} => by
      induction l with
      | nil => intro _ h; simp at h
      | cons q l ih =>
        intro n h
        have n2 : (noExc q.2 && noExcs (l.map (·.2))) = true := n
        rw [Bool.and_eq_true] at n2
        rcases List.mem_cons.mp h with e | h
        · rw [← e] at n2; exact n2.1
        · exact ih n2.2 h
    exact mm n m
theorem exNo_is {x z : DX} {r : Row} (h : exNo x = .ex z r) : x = z ∧ noExcs (x.flds.map (·.2)) = true := by
  unfold exNo at h
  split at h
  · rename_i hn
    injection h with h1 _
    exact ⟨h1, hn⟩
  · cases h
end
section
variable {prog : Program} {w : World} {K : PySem.W.Frag} {mg : Str → Option Value} {base : Heap} {C : Cn}
def houB (c : Ctx) : Bool := c.calm && c.loops && !c.tries && (c.sc.names.all fun y => okN y.1) && (match c.io with
  | some _ => false
  | none => true) && c.own.isEmpty && Nat.ble 3 c.N.length
def selfPs : List Str := ["self", "things", "ties"]
theorem mid_inv {n : Nat} {c : Ctx} {e2 e5 : Expr} {k : List D → Env → Row → SO} {S : Env} {r : Row} (h : houMid n c e2 e5 k (.nx S r) ≠ .no) :
    ∃ ts r2 cl ws, (evN n).ev c e2 S r = .ok (.v true (.lst ts)) r2 ∧ S[0]? = some (some (.exc cl [] ws)) ∧ houMid n c e2 e5 k (.nx S r) = houEnd n c e5 ts (k ts (S.set 0 (some (.hou1 ts))) r2) := by
  unfold houMid at h ⊢
  dsimp only at h ⊢
  split at h
  · rename_i ts r2 cl ws h1 h2
    exact ⟨ts, r2, cl, ws, h1, h2, rfl⟩
  · exact absurd rfl h
theorem end_inv {n : Nat} {c : Ctx} {e5 : Expr} {ts : List D} {S : Env} {r : Row} (h : houEnd n c e5 ts (.nx S r) ≠ .no) :
    ∃ ks r2 ts2, (evN n).ev c e5 S r = .ok (.v true (.lst ks)) r2 ∧ S[0]? = some (some (.hou1 ts2)) ∧ noExcs ts = true ∧ noExcs ks = true ∧ houEnd n c e5 ts (.nx S r) = .ok (.hou ts ks) none := by
  unfold houEnd at h ⊢
  dsimp only at h ⊢
  split at h
  · rename_i ks r2 ts2 h1 h2
    split at h
    · rename_i hn
      have hn2 := hn
      rw [Bool.and_eq_true] at hn2
      refine ⟨ks, r2, ts2, h1, h2, hn2.1, hn2.2, ?_⟩
      first
        | rfl
        | rw [hn]
    · exact absurd rfl h
  · exact absurd rfl h
theorem hou_ok {qual : Str} {params : Arguments} {s0 s1 s3 s4 : Stmt} {e2 e5 : Expr} {pa pb pc pd q1 q2 : Pos} {f : Addr} {fd : FuncData} {k : Nat} (n : Nat) (c : Ctx)
    (FD : FunD K "__init__" qual params [s0, s1, .Assign [.Attribute (.Name "self" pa) "kept_things" pb] e2 q1, s3, s4, .Assign [.Attribute (.Name "self" pc) "kept_ties" pd] e5 q2] c.sc [] [] f fd) (S : FnScope c.N selfPs c.sc) (est : c.st = c.sc) (hb : houB c = true) (hC : C.e = none)
    (hself : TH.slot c "self" = some 0) (pr : ∀ e, PrOk prog w K mg ⟨C.C, e⟩ c)
    (fns : ∀ e y fn, look y c.fns = some fn → FnFact prog w K mg base ⟨C.C, e⟩ k y fn) (mks : ∀ e y fn, look y c.mks = some fn → ∃ k', k' + 1 ≤ k ∧ MkFact prog w K mg base ⟨C.C, e⟩ k' y fn) (mts : ∀ e y fn, look y c.mts = some fn → MetFact prog w K mg base ⟨C.C, e⟩ k y fn)
    (exk : ∀ X : Cx, X.prog = prog → X.w = w → X.K = K → X.mg = mg → X.base = base → Room k X.A → X.calm = true → ∀ y, look y c.exs = some [] → ExK X y) (exf : ∀ e, ∀ X : Cx, X.prog = prog → X.w = w → X.K = K → X.mg = mg → X.base = base → Room k X.A → X.calm = true → ∀ y m ns, look y c.exs = some (m :: ns) → ExF X ⟨C.C, e⟩ y (m :: ns)) :
    FnOk prog w K mg base (L2.CX prog w) (k + 1) f fd selfPs (spM ⟨prog, w, K, C⟩ ⟨false, houRun n c [s0, s1, .Assign [.Attribute (.Name "self" pa) "kept_things" pb] e2 q1, s3, s4, .Assign [.Attribute (.Name "self" pc) "kept_ties" pd] e5 q2]⟩) := by
  unfold houB at hb
  simp only [Bool.and_eq_true, Bool.not_eq_true'] at hb
  obtain ⟨⟨⟨⟨⟨⟨b1, b2⟩, b9⟩, b3⟩, b4⟩, b5⟩, b7⟩ := hb
  have hio : c.io = none := by
    cases e : c.io with
    | none => rfl
    | some i => rw [e] at b4; cases b4
  have hown : c.own = [] := by simpa using b5
  have io0 : ioB c = false := by unfold ioB; rw [hio]
  have two : ∀ {ds : List D} {r}, houRun n c [s0, s1, .Assign [.Attribute (.Name "self" pa) "kept_things" pb] e2 q1, s3, s4, .Assign [.Attribute (.Name "self" pc) "kept_ties" pd] e5 q2] ds r ≠ .no → ∃ a b, ds = [a, b] := fun {ds r} h => by
    match ds with
    | [a, b] => exact ⟨a, b, rfl⟩
    | [] => exact absurd rfl h
    | [_] => exact absurd rfl h
    | _ :: _ :: _ :: _ => exact absurd rfl h
  refine FD.ok S (fun vs H Q E h => ?_) fun cdv A outer s H vs Q E hr h => ?_
  · obtain ⟨x, dx, vs', ds, rfl, hx, hv, h3⟩ := h
    obtain ⟨a, b, rfl⟩ := two (ds := ds) (r := none) fun e => by
      dsimp only at h3
      rw [e] at h3
      exact h3
    show vs'.length + 1 = 3
    rw [hv.length]
    rfl
  · obtain ⟨x, dx, vs', ds, rfl, hx, hv, h3⟩ := h
    dsimp only at h3
    obtain ⟨a, b, rfl⟩ := two (ds := ds) (r := none) fun e => by
      rw [e] at h3
      exact h3
    let C' : Cn := ⟨C.C, some (x, Value.ref (He.ga K "House"), none)⟩
    have hk : COk (cxOf (L2.CX prog w) prog w K mg base c.N qual c.sc f cdv A outer s H E) C' c (fun cls d _ H => E cls d H) :=
      { N := rfl, nd := S.nd, sc := rfl, kind := S.kind, calm := fun _ => rfl, po := fun _ => passes_of rfl, st := fun x kk _ h => by rw [est] at h; exact h, fnc := fun _ _ => rfl,
        okn := fun x kk h => List.all_eq_true.mp b3 _ (look_mem h), room := hr.units, tk := takes_of rfl rfl rfl rfl, blt := (pr C'.e).blt, cst := (pr C'.e).cst,
        fns := fun _ x fn h => let ⟨f', fd', ps', q1, q2, q3, q4⟩ := fns C'.e x fn h; ⟨k, f', fd', ps', q1, hr, q2, q3, q4⟩,
        mks := fun _ x fn h => let ⟨k', hk', f', fd', ps', q1, q2, q3, q4⟩ := mks C'.e x fn h; ⟨k', f', fd', ps', q1, q2, hr.mono hk', q3, q4⟩,
        mts := fun _ x fn h => let ⟨q0, f', fd', ps', q1, q2, q3⟩ := mts C'.e x fn h; ⟨q0, k, f', fd', ps', q1, q2, hr, q3⟩,
        exk := fun _ pn xe x h => exk ((cxOf (L2.CX prog w) prog w K mg base c.N qual c.sc f cdv A outer s H E).tr pn xe) rfl rfl rfl rfl rfl hr rfl x h, exf := fun _ pn xe x m ns h => exf C'.e ((cxOf (L2.CX prog w) prog w K mg base c.N qual c.sc f cdv A outer s H E).tr pn xe) rfl rfl rfl rfl rfl hr rfl x m ns h,
        xs := (pr C'.e).xs, exI := fun hcf => (by rw [b1] at hcf; cases hcf), e0 := fun ht => (by rw [b9] at ht; cases ht), top := fun _ => ⟨rfl, rfl⟩,
        hcls := (pr C'.e).hcls, nkt := (pr C'.e).nkt, nkk := (pr C'.e).nkk, noio := fun i hi => by rw [hio] at hi; cases hi }
    have ps := fun B st => (allOk n).exS _ C' c _ B hk st
    have pe := fun B e => (allOk n).ev _ C' c _ B hk e
    obtain ⟨v1, v2, v3⟩ := hk.slot hself
    have hself2 : PE (cxOf (L2.CX prog w) prog w K mg base c.N qual c.sc f cdv A outer s H E) (.Name "self" pa) (tVar 0) := pe_var v1 v2 (okN_d v3).1 (okN_d v3).2
    have hself3 : PE (cxOf (L2.CX prog w) prog w K mg base c.N qual c.sc f cdv A outer s H E) (.Name "self" pc) (tVar 0) := pe_var v1 v2 (okN_d v3).1 (okN_d v3).2
    have B1 : Bg := ⟨H, none⟩
    refine ⟨_, pss_front (B := ⟨H, none⟩) (ps ⟨H, none⟩) (pss_cons (ps_fld hself2 (pe ⟨H, none⟩ e2) swAttr) (PSs.exB fun B2 => pss_front (B := B2) (ps B2) (pss_cons (ps_fld hself3 (pe B2 e5) swAttr) pss_nil) [s3, s4])) [s0, s1], front_run ?_⟩
    have r0 : RpsT ⟨prog, w, K, C'⟩ H (V.ref x :: vs') (.exc "House" [] [] :: [a, b]) :=
      .cons (.exc0 rfl) (Rps.re (R := ⟨prog, w, K, C⟩) C'.e (Rps.noX (R := ⟨prog, w, K, C⟩) hC hv) (hv.imp fun _ _ => trivial))
    have F0 : Fr ⟨prog, w, K, C'⟩ c ⟨H, none⟩ [] (startE c (.exc "House" [] [] :: [a, b])) none (L2.start c.N (V.ref x :: vs')) H :=
      fr_start0 (ps := selfPs) io0 (fun i hi => by unfold isOwn at hi; rw [hown] at hi; cases hi) (fun i hi => by rw [hio] at hi; cases hi) (by show vs'.length + 1 = 3; rw [hv.length]; rfl) (Nat.le_of_ble_eq_true b7) r0
    have eS : startE c (.exc "House" [] [] :: [a, b]) = some (.exc "House" [] []) :: some a :: some b :: List.replicate (c.N.length - 3) none := by unfold startE; rw [io0]; rfl
    refine ⟨[], _, none, F0, ?_⟩
    rw [eS]
    -- the two halves
    have h4 : match houMid n c e2 e5 (fun _ S r => seqS ((evN n).exS c) [s3, s4] S r) (seqS ((evN n).exS c) [s0, s1] (some (.exc "House" [] []) :: some a :: some b :: List.replicate (c.N.length - 3) none) none) with
      | .no => False
      | .ok d _ => ∀ H', KeepBut x H H' → Rp ⟨prog, w, K, C⟩ (fun a => a = x ∨ H a = none) H' (.ref x) d → Q .non H'
      | .ex z _ => ∀ dd H', KeepBut x H H' → XFl ⟨prog, w, K, C⟩ H' z.flds dd → E (xcls ⟨prog, w, K, C⟩ z) dd H' := h3
    have exD : ∀ {z : DX} {Z : Prop} {P : D → Prop}, (match exNo z with
      | .no => False
      | .ok d _ => P d
      | .ex z _ => ∀ dd H', KeepBut x H H' → XFl ⟨prog, w, K, C⟩ H' z.flds dd → E (xcls ⟨prog, w, K, C⟩ z) dd H') → ∀ dd H', KeepBut x H H' → XFl ⟨prog, w, K, C'⟩ H' z.flds dd → E (xcls ⟨prog, w, K, C⟩ z) dd H' := fun {z Z P} hz dd H' kb xf => by
      cases hn : noExcs (z.flds.map (·.2)) with
      | false =>
        have e : exNo z = .no := by unfold exNo; rw [hn]
        rw [e] at hz
        exact hz.elim
      | true =>
        have e : exNo z = .ex z none := by unfold exNo; rw [hn]
        rw [e] at hz
        exact hz dd H' kb (XFl.re (R := ⟨prog, w, K, C⟩) C'.e hn xf)
    cases hx1 : seqS ((evN n).exS c) [s0, s1] (some (.exc "House" [] []) :: some a :: some b :: List.replicate (c.N.length - 3) none) none with
    | no => rw [hx1] at h4; exact h4.elim
    | bk _ _ => rw [hx1] at h4; exact h4.elim
    | ct _ _ => rw [hx1] at h4; exact h4.elim
    | rt _ _ => rw [hx1] at h4; exact h4.elim
    | ex z S1 r1 =>
      rw [hx1] at h4
      exact fun dd O' σ' H' F e s xf => exD (Z := True) h4 dd H' (fun a o h _ => F.keep a o h (fun q => nomatch q)) xf
    | nx S1 r1 =>
      rw [hx1] at h4
      have h5 := mid_inv (n := n) (c := c) (e2 := e2) (e5 := e5) (k := fun _ S r => seqS ((evN n).exS c) [s3, s4] S r) (S := S1) (r := r1) fun e => by
        rw [e] at h4
        exact h4
      obtain ⟨ts, r2, cl, ws, g1, g2, g3⟩ := h5
      rw [g3] at h4
      intro O1 σ1 H1 F1 ex1 sb1
      -- self.kept_things = ..
      show sFld K (tVar 0) (tE ⟨prog, w, K, C'⟩ c ⟨H, none⟩ _ ((evN n).ev c e2)) "kept_things" _ σ1 H1
      have kp1 : ∀ a o, H a = some o → H1 a = some o := fun a o h => F1.keep a o h (fun q => nomatch q)
      refine ⟨O1, S1, r1, F1, ?_⟩
      rw [g1]
      intro H2 F2 ex2 y ky
      have kp2 : ∀ a o, H a = some o → H2 a = some o := fun a o h => F2.keep a o h (fun q => nomatch q)
      have slf : ∀ {O S r σ H'}, Fr ⟨prog, w, K, C'⟩ c ⟨H, none⟩ O S r σ H' → S[0]? = some (some (.exc cl [] ws)) → σ[0]? = some (some (.ref x)) := fun F e => by
        obtain ⟨v, q1, q2⟩ := F.val 0 _ e (by unfold isOwn; rw [hown]; rfl)
        cases q2 with
        | exc0 h =>
          have h : (x, Value.ref (He.ga K "House"), (none : Option Addr)) = _ := Option.some.inj h
          have hx := (Prod.mk.inj h).1
          rw [hx]
          exact q1
      refine ⟨_, slf F2 g2, x, C.C, dx, [], rfl, kp2 x _ hx, hk.hcls, hk.nkt, by decide, ?_⟩
      rw [putF0]
      have ry := ky.2 rfl
      obtain ⟨p, xs, rfl, hp2, rp2, hpn⟩ : ∃ p xs, y = .ref p ∧ H2 p = some (.lst xs) ∧ Rps ⟨prog, w, K, C'⟩ (fun a => H1 a = none) H2 xs ts ∧ H1 p = none := by
        cases ry with
        | lst q h r => exact ⟨_, _, rfl, h, r, q⟩
      have px : p ≠ x := fun e => by
        rw [e] at hpn
        rw [kp1 x _ hx] at hpn
        cases hpn
      have upx : Ext [x] H2 (upd H2 x (.ins C.C dx [(Str.ofString "kept_things", V.ref p)])) := upd_ext (kp2 x _ hx) rfl
      have pin : ∀ b, (H1 b = none) → b ∉ [x] := fun b hb m => by
        rw [List.mem_singleton.mp m, kp1 x _ hx] at hb
        cases hb
      have hH3x : upd H2 x (.ins C.C dx [(Str.ofString "kept_things", V.ref p)]) x = some (.ins C.C dx [(Str.ofString "kept_things", V.ref p)]) := upd_same
      have hH3p : upd H2 x (.ins C.C dx [(Str.ofString "kept_things", V.ref p)]) p = some (.lst xs) := by rw [upd_ne px]; exact hp2
      have rp3 : Rps ⟨prog, w, K, C'⟩ (fun a => H1 a = none) (upd H2 x (.ins C.C dx [(Str.ofString "kept_things", V.ref p)])) xs ts := rp2.keep upx pin fun _ z => z
      generalize hH3 : upd H2 x (.ins C.C dx [(Str.ofString "kept_things", V.ref p)]) = H3 at upx hH3x hH3p rp3 ⊢
      have kp3 : ∀ a o, a ≠ x → H2 a = some o → H3 a = some o := fun a o n h => upx.st a o h (.inl fun m => n (List.mem_singleton.mp m))
      -- the frame behind it
      have F3 : Fr ⟨prog, w, K, C'⟩ c ⟨H3, none⟩ [] (S1.set 0 (some (.hou1 ts))) r2 σ1 H3 := by
        have lift : ∀ i d, S1[i]? = some (some d) → ∃ v, σ1[i]? = some (some v) ∧ Rp ⟨prog, w, K, C'⟩ (· ∉ ([] : List Addr)) H3 v d := fun i d h => by
          obtain ⟨v, q1, q2⟩ := F2.val i d h (by unfold isOwn; rw [hown]; rfl)
          refine ⟨v, q1, q2.has2.keep upx (fun b ⟨_, o, ho, hne⟩ m => ?_) fun _ _ => by simp⟩
          rw [List.mem_singleton.mp m, kp2 x _ hx] at ho
          cases ho
          exact hne _ _ rfl
        refine ⟨by rw [List.length_set]; exact F2.len, fun a o h _ => h, fun a o h => ⟨o, h⟩, fun a h => by simp at h, fun a h => by simp at h, fun i d h _ => ?_, fun i d h z => ?_, fun i j d d' a h1 h2 o1 o2 s1 s2 => ?_, fun ds h => ?_, fun i h1 h2 => ?_, fun r h => (nomatch h), fun r h => ?_⟩
        · rcases get_set h with ⟨e, e2, hl⟩ | ⟨e, h⟩
          · subst e
            cases e2
            exact ⟨_, slf F2 g2, .hou1 rfl (by simp) hH3x (by simp) hH3p (rp3.imp fun _ _ => by simp)⟩
          · exact lift i d h
        · unfold isOwn at z; rw [hown] at z; cases z
        · unfold isOwn at o1; rw [hown] at o1; cases o1
        · obtain ⟨j, r', xs', z1, _⟩ := F2.io ds h
          rw [hio] at z1
          cases z1
        · rw [hio] at h1; cases h1
        · unfold ioA at h
          rw [hio] at h
          simp at h
      have kb3 : ∀ {H'}, (∀ a o, H3 a = some o → H' a = some o) → KeepBut x H H' := fun k a o h n => k a o (kp3 a o n (kp2 a o h))
      refine ⟨⟨H3, none⟩, front_run ⟨[], _, r2, F3, ?_⟩⟩
      cases hx2 : seqS ((evN n).exS c) [s3, s4] (S1.set 0 (some (.hou1 ts))) r2 with
      | no => rw [hx2] at h4; exact h4.elim
      | bk _ _ => rw [hx2] at h4; exact h4.elim
      | ct _ _ => rw [hx2] at h4; exact h4.elim
      | rt _ _ => rw [hx2] at h4; exact h4.elim
      | ex z S4 r4 =>
        rw [hx2] at h4
        exact fun dd O' σ' H' F e s xf => exD (Z := True) h4 dd H' (kb3 fun a o h => F.keep a o h (fun q => nomatch q)) xf
      | nx S4 r4 =>
        rw [hx2] at h4
        obtain ⟨ks, r5, ts2, g4, g5, g6, g7, g8⟩ := end_inv (n := n) (c := c) (e5 := e5) (ts := ts) (S := S4) (r := r4) fun e => by
          rw [e] at h4
          exact h4
        rw [g8] at h4
        intro O4 σ4 H4 F4 ex4 sb4
        show sFld K (tVar 0) (tE ⟨prog, w, K, C'⟩ c ⟨H3, none⟩ _ ((evN n).ev c e5)) "kept_ties" _ σ4 H4
        refine ⟨O4, S4, r4, F4, ?_⟩
        rw [g4]
        intro H5 F5 ex5 y2 ky2
        have kp5 : ∀ a o, H3 a = some o → H5 a = some o := fun a o h => F5.keep a o h (fun q => nomatch q)
        have kp4 : ∀ a o, H3 a = some o → H4 a = some o := fun a o h => F4.keep a o h (fun q => nomatch q)
        have s0x : σ4[0]? = some (some (.ref x)) := by
          obtain ⟨v, q1, q2⟩ := F5.val 0 _ g5 (by unfold isOwn; rw [hown]; rfl)
          cases q2 with
          | hou1 h =>
            have h : (x, Value.ref (He.ga K "House"), (none : Option Addr)) = _ := Option.some.inj h
            have hx := (Prod.mk.inj h).1
            rw [hx]
            exact q1
        have ry2 := ky2.2 rfl
        obtain ⟨p2, xs2, rfl, hp5, rp5, hpn2⟩ : ∃ p xs, y2 = .ref p ∧ H5 p = some (.lst xs) ∧ Rps ⟨prog, w, K, C'⟩ (fun a => H4 a = none) H5 xs ks ∧ H4 p = none := by
          cases ry2 with
          | lst q h r => exact ⟨_, _, rfl, h, r, q⟩
        refine ⟨_, s0x, x, C.C, dx, _, rfl, kp5 x _ hH3x, hk.hcls, hk.nkk, by show 1 < 1000; decide, ?_⟩
        rw [putF1]
        have hx5 := kp5 x _ hH3x
        have up6 : Ext [x] H5 (upd H5 x (.ins C.C dx [(Str.ofString "kept_things", V.ref p), (Str.ofString "kept_ties", V.ref p2)])) := upd_ext hx5 rfl
        have none4 : ∀ {b : Addr}, H4 b = none → H b = none ∧ b ≠ x := fun {b} hb => by
          refine ⟨?_, fun e => by rw [e, kp4 x _ hH3x] at hb; cases hb⟩
          cases q : H b with
          | none => rfl
          | some o =>
            by_cases e : b = x
            · rw [e, kp4 x _ hH3x] at hb; cases hb
            · rw [kp4 b o (kp3 b o e (kp2 b o q))] at hb; cases hb
        have none1 : ∀ {b : Addr}, H1 b = none → H b = none ∧ b ≠ x := fun {b} hb => by
          refine ⟨?_, fun e => by rw [e, kp1 x _ hx] at hb; cases hb⟩
          cases q : H b with
          | none => rfl
          | some o => rw [kp1 b o q] at hb; cases hb
        have p2x : p2 ≠ x := (none4 hpn2).2
        have rpA : Rps ⟨prog, w, K, C'⟩ (fun a => a = x ∨ H a = none) (upd H5 x (.ins C.C dx [(Str.ofString "kept_things", V.ref p), (Str.ofString "kept_ties", V.ref p2)])) xs ts := by
          have q1 : Rps ⟨prog, w, K, C'⟩ (fun a => H1 a = none) H5 xs ts := rp3.keep (O := []) ⟨fun a o h _ => kp5 a o h, fun a o h => ⟨o, kp5 a o h⟩⟩ (fun _ _ => by simp) fun _ z => z
          exact q1.keep up6 (fun b hb m => (none1 hb).2 (List.mem_singleton.mp m)) fun b hb => .inr (none1 hb).1
        have rpB : Rps ⟨prog, w, K, C'⟩ (fun a => a = x ∨ H a = none) (upd H5 x (.ins C.C dx [(Str.ofString "kept_things", V.ref p), (Str.ofString "kept_ties", V.ref p2)])) xs2 ks :=
          rp5.keep up6 (fun b hb m => (none4 hb).2 (List.mem_singleton.mp m)) fun b hb => .inr (none4 hb).1
        refine h4 _ (fun a o h n => by rw [upd_ne n]; exact kp5 a o (kp3 a o n (kp2 a o h))) (.hou (.inl rfl) upd_same (.inr (none1 hpn).1) ?_ (Rps.re (R := ⟨prog, w, K, C'⟩) C.e g6 rpA) (.inr (none4 hpn2).1) ?_ (Rps.re (R := ⟨prog, w, K, C'⟩) C.e g7 rpB))
        · rw [upd_ne px]; exact kp5 p _ hH3p
        · rw [upd_ne p2x]; exact hp5
end
end TH

set_option Elab.async false
set_option linter.all false
set_option maxRecDepth 100000
set_option maxHeartbeats 4000000
/-! DV18: what the head tells, for all laws. -/
namespace TH
open PySem PySem.Spec PyProof.Rows L2
def AllF {α : Type} (P : Str → α → Prop) (l : List (Str × α)) : Prop := ∀ y v, look y l = some v → P y v
theorem allF_nil {α : Type} {P : Str → α → Prop} : AllF P [] := fun y v h => nomatch h
theorem allF_cons {α : Type} {P : Str → α → Prop} {x : Str} {a : α} {l : List (Str × α)} (h : P x a) (t : AllF P l) : AllF P ((x, a) :: l) := fun y v e => by
  have e2 : (match seq y x with
    | true => some a
    | false => look y l) = some v := e
  cases hs : seq y x with
  | true =>
    rw [hs] at e2
    cases e2
    rw [seq_eq hs]
    exact h
  | false =>
    rw [hs] at e2
    exact t y v e2
section
variable {prog : Program} {w : World} {K : PySem.W.Frag} {mg : Str → Option Value} {base : Heap} {C : Cn}
theorem FnFact.mono {j k : Nat} {x : Str} {fn : Fn} (h : FnFact prog w K mg base C j x fn) (l : j ≤ k) : FnFact prog w K mg base C k x fn :=
  let ⟨f, fd, ps, h1, h2, h3, h4⟩ := h; ⟨f, fd, ps, h1.mono l, h2, h3, h4⟩
theorem MetFact.mono {j k : Nat} {x : Str} {fn : Fn} (h : MetFact prog w K mg base C j x fn) (l : j ≤ k) : MetFact prog w K mg base C k x fn :=
  let ⟨h0, f, fd, ps, h1, h2, h3⟩ := h; ⟨h0, f, fd, ps, h1, h2.mono l, h3⟩
def excCB (K : PySem.W.Frag) (D : Addr) : Bool := He.eqO (PySem.W.findIn K (.ref D) "__getattribute__") (some (some (.builtin "BaseException.__getattribute__"))) && (He.eqO (PySem.W.findIn K (.ref D) "__getattr__") (some none) && (decide (PySem.W.subIn K (.ref D) (.type "BaseException") = some true) &&
  (PySem.W.hasDictIn K D && (He.eqO (PySem.W.findIn K (.ref D) "__class__") (some (some (.builtin "object.__class__"))) && (He.eqO (PySem.W.specialIn K (.builtin "object.__class__") "__get__") (some (some (.builtin "getset_descriptor.__get__"))) &&
  (decide (PySem.W.takesIn K (.builtin "object.__class__") = some true) && decide (PySem.W.mroIn K D (.type "object") = some true)))))))
theorem excCB_ok {D : Addr} (h : excCB K D = true) : ExcC K D := by
  unfold excCB at h
  simp only [Bool.and_eq_true] at h
  obtain ⟨h1, h2, h3, h4, h5, h6, h7, h8⟩ := h
  exact ⟨He.eqO_ok h1, He.eqO_ok h2, of_decide_eq_true h3, h4, He.eqO_ok h5, He.eqO_ok h6, of_decide_eq_true h7, of_decide_eq_true h8⟩
def kitsB (L : List Str) (K : PySem.W.Frag) : Bool := L.all fun cls => excCB K (He.ga K cls) && (("ValueError" : Str) :: L).all fun T => match isSub L cls T with
  | some b => decide (PySem.W.kitOne K (.ref (He.ga K cls)) (tvOf K T) = some b) && decide (PySem.W.exmOne K (.ref (He.ga K cls)) (tvOf K T) = some b)
  | none => true
theorem isSub_T {L : List Str} {cls T : Str} {b : Bool} (h : isSub L cls T = some b) : T ∈ (("ValueError" : Str) :: L) := by
  unfold isSub at h
  split at h
  · rename_i hm
    split at h
    · rename_i ho
      rw [Bool.or_eq_true, Bool.or_eq_true, Bool.and_eq_true] at ho
      rcases ho with (ho | ho) | ho
      · rw [seq_eq ho]; exact List.mem_cons_self
      · exact List.mem_cons_of_mem _ (memS_mem ho.2)
      · rw [seq_eq ho]; exact List.mem_cons_of_mem _ (memS_mem hm)
    · split at h
      · rename_i hT
        exact List.mem_cons_of_mem _ (memS_mem hT)
      · cases h
  · cases h
theorem exs_ok {L : List Str} (h : kitsB L K = true) (ve : mg "ValueError" = none) (gl : ∀ T ∈ L, mg T = some (.ref (He.ga K T))) : ExsOk K mg L where
  ve := ve
  gl := fun T hT => gl T (memS_mem hT)
  ec := fun T hT => by
    have h2 := List.all_eq_true.mp h T (memS_mem hT)
    rw [Bool.and_eq_true] at h2
    exact excCB_ok h2.1
  kit := fun cls T b hs => by
    have h2 := List.all_eq_true.mp h cls (memS_mem (isSub_mem hs))
    rw [Bool.and_eq_true] at h2
    have h3 := List.all_eq_true.mp h2.2 T (isSub_T hs)
    rw [hs] at h3
    rw [Bool.and_eq_true] at h3
    exact ⟨of_decide_eq_true h3.1, of_decide_eq_true h3.2⟩
/-- BadRoom -/
theorem exK_of {x : Str} (g : mg x = some (.ref (He.ga K x))) (e : (He.Fa.exc x).ok K = true) (hdb : (x == ("__debug__" : Str)) = false) : ∀ X : Cx, X.prog = prog → X.w = w → X.K = K → X.mg = mg → X.base = base → ExK X x := by
  intro X h1 h2 h3 h4 h5 hg m j p p2 pos
  subst h3 h4
  obtain ⟨e1, e2, e3, e4⟩ := He.exc_ok e
  exact pmk_own PySem.F.excBase_ValueError e1 g e2 (raises_own e3 e4) hg hdb
/-- LENGTHS -/
def tabB (K : PySem.W.Frag) (x : Str) (ks : List Str) (vs : List Int) (no : List Str) : Bool := (He.valsB K (He.ga K x) (ks.zip (vs.map He.Dv.int))) && no.all fun k => He.eqO (PySem.W.nsIn K (He.ga K x) k) (some none)
theorem tab_ok {x : Str} {ks : List Str} {vs : List Int} {no : List Str} (h : tabB K x ks vs no = true) (hd : ∃ es n, KDict K w (He.ga K x) es n) (P : Addr → Prop) (H : Hp) : Rp ⟨prog, w, K, C⟩ P H (.ref (He.ga K x)) (.tbl ks vs no) := by
  obtain ⟨h1, h2⟩ := He.ba h
  obtain ⟨es, n, D⟩ := hd
  refine .tbl ⟨es, n, D, fun i k v e1 e2 => ?_, fun k hk => He.eqO_ok (List.all_eq_true.mp h2 k hk)⟩
  have hm : (k, He.Dv.int v) ∈ ks.zip (vs.map He.Dv.int) := by
    refine List.mem_iff_getElem?.mpr ⟨i, ?_⟩
    rw [List.getElem?_zip_eq_some]
    exact ⟨e1, by rw [List.getElem?_map, e2]; rfl⟩
  obtain ⟨u, q1, q2⟩ := He.valsB_ok h1 hm
  exact ⟨u, q1, q2⟩
/-- a tuple of ints of the module -/
theorem tupI_ok {x : Str} {is : List Int} (h : He.tupB K x (is.map He.Dv.int) = true) (P : Addr → Prop) (H : Hp) : Rp ⟨prog, w, K, C⟩ P H (.ref (He.ga K x)) (.tup (is.map D.int)) := by
  refine .tup (He.tupB_ok h H) ?_
  rw [List.map_map]
  induction is with
  | nil => exact .nil
  | cons i is ih => exact .cons (.int _) (by
      have : ∀ l : List Int, Rps ⟨prog, w, K, C⟩ P H (l.map (He.Dv.v K ∘ He.Dv.int)) (l.map D.int) := fun l => by
        induction l with
        | nil => exact .nil
        | cons i l ih => exact .cons (.int _) ih
      exact this is)
end
end TH
namespace TH
open PySem PySem.Spec PyProof.Rows L2
section
variable {prog : Program} {w : World} {K : PySem.W.Frag} {mg : Str → Option Value} {base : Heap} {C : Cn}
theorem spF_no {R : RC} {vs : List V} {H : Hp} {Q : VK} {E : XK} (h : spF R noFn vs H Q E) : False := by
  rcases h with ⟨_, ds, _, h⟩ | ⟨h, _⟩
  · exact h
  · cases h
theorem fn_no {k : Nat} {f : Addr} {fd : FuncData} {ps : List Str} : FnOk prog w K mg base (L2.CX prog w) k f fd ps (spF ⟨prog, w, K, C⟩ noFn) :=
  ⟨fun _ _ _ _ h => (spF_no h).elim, fun _ _ _ _ _ _ _ _ _ _ _ _ _ h => (spF_no h).elim⟩
theorem cst_int {x : Str} {i : Int} (h : ∃ t, mg x = some (.int i t)) : ∃ v u, mg x = some u ∧ RelV v u ∧ ∀ P H, Rp ⟨prog, w, K, C⟩ P H v (.int i) := let ⟨t, e⟩ := h; ⟨.int i, _, e, ⟨t, rfl⟩, fun _ _ => .int _⟩
theorem cst_str {x z : Str} (h : ∃ t, mg x = some (.str z t)) : ∃ v u, mg x = some u ∧ RelV v u ∧ ∀ P H, Rp ⟨prog, w, K, C⟩ P H v (.str z) := let ⟨t, e⟩ := h; ⟨.str z, _, e, ⟨t, rfl⟩, fun _ _ => .str _⟩
theorem cst_ref {x : Str} {d : D} (h : mg x = some (.ref (He.ga K x))) (r : ∀ P H, Rp ⟨prog, w, K, C⟩ P H (.ref (He.ga K x)) d) : ∃ v u, mg x = some u ∧ RelV v u ∧ ∀ P H, Rp ⟨prog, w, K, C⟩ P H v d := ⟨.ref (He.ga K x), _, h, rfl, r⟩
theorem scr_of {H : Hp} {a : Addr} {ns : List Int} (hO : Only H) (hS : SqL K H a (ns.map V.int)) : RpsT ⟨prog, w, K, C⟩ H [.ref a] [.scr ns] := by
  refine .cons (.scr ?_) .nil
  rcases hS with (h | ⟨o, h⟩) | h
  · rcases hO a with q | ⟨o, xs, q⟩
    · rw [h] at q; cases q
    · rw [h] at q; cases q
  · exact .inl ⟨o, h⟩
  · exact .inr h
theorem law_sp {H : Hp} {a : Addr} {ns : List Int} {fn : Fn} (hio : fn.io = false) (hO : Only H) (hS : SqL K H a (ns.map V.int)) (h : ∃ r, fn.run [.scr ns] none = .ok (.bl true) r) : spF ⟨prog, w, K, C⟩ fn [.ref a] H (fun v _ => v = .bl true) fun _ _ _ => False := by
  refine .inl ⟨hio, _, scr_of hO hS, ?_⟩
  obtain ⟨r, e⟩ := h
  rw [e]
  exact fun v H' _ r => r.bl_inv
end
end TH
namespace TH
open PySem PySem.Spec PyProof.Rows L2
theorem fnOk_cx {P : Program} {w : World} {K : PySem.W.Frag} {mg : Str → Option Value} {base : Heap} {CX CX' : CXT} {k : Nat} {f : Addr} {fd : FuncData} {ps : List Str} {sp : Sp} (F : FnOk P w K mg base CX k f fd ps sp) (h : ∀ outer H s E e s', CX outer H s E e s' → CX' outer H s E e s') : FnOk P w K mg base CX' k f fd ps sp :=
  ⟨F.len, fun A outer s H args us vs Q E hr e0 hb r hsp => codeAny_mono (F.run A outer s H args us vs Q E hr e0 hb r hsp) fun r s' hq => by
    cases r with
    | error e => exact h _ _ _ _ _ _ hq
    | ok fl => cases fl <;> exact hq⟩
/-- what may be let out, in any program and world -/
def CXany : CXT := fun outer H s E e s' => ∃ P w, L2.CX P w outer H s E e s'
theorem cxany_no {H : Hp} {s : Shared} {e : Value} {s' : Shared} (h : CXany [] H s (fun _ _ _ => False) e s') : False := by
  obtain ⟨P, w, h⟩ := h
  obtain ⟨_, _, _, _, _, _, _, _, _, _, _, _, z⟩ := h
  exact z.elim
end TH

set_option Elab.async false
set_option linter.all false
set_option maxRecDepth 100000
set_option maxHeartbeats 4000000
namespace TH
open PySem PySem.Spec PyProof.Rows L2
theorem evN_ev (n : Nat) : (evN (n + 1)).ev = evStep (evN n) := rfl
theorem evN_evT (n : Nat) : (evN (n + 1)).evT = evTStep (evN n) := rfl
theorem evN_exS (n : Nat) : (evN (n + 1)).exS = exStep (evN n) := rfl
theorem natEq_dec : ∀ {a b : List Nat}, natEq a b = decide (a = b)
  | [], [] => rfl
  | [], _ :: _ => rfl
  | _ :: _, [] => rfl
  | x :: xs, y :: ys => by
    have ih := natEq_dec (a := xs) (b := ys)
    show (Nat.beq x y && natEq xs ys) = _
    rw [ih]
    by_cases h : x = y
    · subst h
      simp
    · have h2 : Nat.beq x y = false := by
        cases e : Nat.beq x y with
        | false => rfl
        | true => exact absurd (Nat.eq_of_beq_eq_true e) h
      simp [h, h2]
theorem seq_lit (s t : String) : seq (Str.ofString s) (Str.ofString t) = decide (s = t) := by
  unfold seq
  rw [natEq_dec]
  by_cases h : s = t
  · subst h
    simp
  · have hne : (Str.ofString s).cps.toList ≠ (Str.ofString t).cps.toList := fun e => by
      rw [Str.ofString_eq_toList, Str.ofString_eq_toList] at e
      have e2 : s.toList.map Char.toNat = t.toList.map Char.toNat := by simpa using e
      have inj : ∀ {a b : List Char}, a.map Char.toNat = b.map Char.toNat → a = b := fun {a} => by
        induction a with
        | nil => intro b e; cases b with
          | nil => rfl
          | cons _ _ => cases e
        | cons x xs ih =>
          intro b e
          cases b with
          | nil => cases e
          | cons y ys =>
            rw [List.map_cons, List.map_cons] at e
            injection e with e1 e2
            have hxy : x = y := by
              apply Char.ext
              apply UInt32.toNat_inj.mp
              exact e1
            rw [hxy, ih e2]
      exact h (String.toList_inj.mp (inj e2))
    simp [h, hne]
end TH

set_option Elab.async false
set_option linter.all false
set_option maxRecDepth 100000
set_option maxHeartbeats 4000000
/-! SEM: what the evaluator does with each form, as combinators: no AST, no names. -/
namespace TH
open PySem PySem.Spec PyProof.Rows L2
abbrev ME := Env → Row → Out Rv
abbrev MB := Env → Row → Out Bool
abbrev MS := Env → Row → SO
abbrev MI := Env → Row → Out (List D × Option Nat)
def eK (d : D) : ME := fun _ r => .ok (.v true d) r
def eG (d : D) : ME := fun _ r => .ok (.v false d) r
def getV (i : Nat) (S : Env) (r : Row) : Out Rv := match S[i]? with
  | some (some d) => .ok (.v false d) r
  | _ => .no
def eV (i : Nat) : ME := getV i
def getO (i : Nat) (S : Env) (r : Row) : Out Rv := match S[i]? with
  | some (some _) => .ok (.p i) r
  | _ => .no
def eO (i : Nat) : ME := getO i
def eIo : ME := fun _ r => match r with
  | some _ => .ok .io r
  | none => .no
def bin2 (op : Operator) (x y : Option D) (r : Row) : Out Rv := match x, y with
  | some x, some y => ret (x.elf && y.elf) (binD op x y) r
  | _, _ => .no
def eBin (op : Operator) (a b : ME) : ME := fun S r => (a S r).bind fun x r => (b S r).bind fun y r => bin2 op (rd S x) (rd S y) r
def neg1 (x : Rv) (r : Row) : Out Rv := match x with
  | .v _ (.int i) => .ok (.v true (.int (-i))) r
  | _ => .no
def eNeg (a : ME) : ME := fun S r => (a S r).bind neg1
def not1 (x : Rv) (r : Row) : Out Rv := match isB x with
  | some b => .ok (.v true (.bl (!b))) r
  | none => .no
def eNot (a : ME) : ME := fun S r => (a S r).bind not1
def eT (t : MB) : ME := fun S r => (t S r).bind fun b r => .ok (.v true (.bl b)) r
def cmpR (op : CmpOp) (x y : Option D) (r : Row) : Out Bool := match x, y with
  | some x, some y => (match cmpD op x y with
    | some k => .ok k r
    | none => .no)
  | _, _ => .no
def tCmp (op : CmpOp) (a b : ME) : MB := fun S r => (a S r).bind fun x r => (b S r).bind fun y r => cmpR op (rd S x) (rd S y) r
def cmpL (op : CmpOp) (y : D) (z : Option D) (r : Row) : Out Bool := match z with
  | some z => (match ordD op y z with
    | some k => .ok k r
    | none => .no)
  | none => .no
def cmpM (op : CmpOp) (x y : Option D) (r : Row) (k : D → Out Bool) : Out Bool := match x, y with
  | some x, some y => (match ordD op x y with
    | some true => k y
    | some false => .ok false r
    | none => .no)
  | _, _ => .no
def tCmp2 (op op' : CmpOp) (a b d : ME) : MB := fun S r => (a S r).bind fun x r => (b S r).bind fun y r => cmpM op (rd S x) (rd S y) r fun y => (d S r).bind fun z r => cmpL op' y (rd S z) r
/-- a test of an expression -/
def tst1 (x : Rv) (r : Row) : Out Bool := match isB x with
  | some b => .ok b r
  | none => .no
def tX (e : ME) : MB := fun S r => (e S r).bind tst1
def tNot (t : MB) : MB := fun S r => (t S r).bind fun b r => .ok (!b) r
def tAnd1 (b : Bool) (r : Row) (k : Unit → Out Bool) : Out Bool := match b with
  | true => k ()
  | false => .ok false r
def tOr1 (b : Bool) (r : Row) (k : Unit → Out Bool) : Out Bool := match b with
  | false => k ()
  | true => .ok true r
def tAnd : List MB → MB
  | [], _, _ => .no
  | [e], S, r => e S r
  | e :: es, S, r => (e S r).bind fun b r => tAnd1 b r fun _ => tAnd es S r
def tOr : List MB → MB
  | [], _, _ => .no
  | [e], S, r => e S r
  | e :: es, S, r => (e S r).bind fun b r => tOr1 b r fun _ => tOr es S r
def eAnd1 (b : Option Bool) (r : Row) (k : Unit → Out Rv) : Out Rv := match b with
  | some true => k ()
  | some false => .ok (.v true (.bl false)) r
  | none => .no
def eOr1 (b : Option Bool) (r : Row) (k : Unit → Out Rv) : Out Rv := match b with
  | some false => k ()
  | some true => .ok (.v true (.bl true)) r
  | none => .no
def eAnd : List ME → ME
  | [], _, _ => .no
  | [e], S, r => e S r
  | e :: es, S, r => (e S r).bind fun v r => eAnd1 (isB v) r fun _ => eAnd es S r
def eOr : List ME → ME
  | [], _, _ => .no
  | [e], S, r => e S r
  | e :: es, S, r => (e S r).bind fun v r => eOr1 (isB v) r fun _ => eOr es S r
def sel {α : Type} (b : Bool) (x y : Unit → α) : α := match b with
  | true => x ()
  | false => y ()
def eIf (t : MB) (a b : ME) : ME := fun S r => (t S r).bind fun k r => sel k (fun _ => a S r) (fun _ => b S r)
def prt (v : Rv) (r : Row) : Out (Option Int) := match v with
  | .v _ (.int i) => .ok (some i) r
  | _ => .no
def eP (e : Option ME) (S : Env) (r : Row) : Out (Option Int) := match e with
  | none => .ok none r
  | some e => (e S r).bind prt
def sli (x : Option D) (l h : Option Int) (r : Row) : Out Rv := match x with
  | some x => ret x.elf (slD x l h) r
  | none => .no
def eSl (a : ME) (lo hi : Option ME) : ME := fun S r => (a S r).bind fun x r => (eP lo S r).bind fun l r => (eP hi S r).bind fun h r => sli (rd S x) l h r
def idx2 (x y : Option D) (r : Row) : Out Rv := match x, y with
  | some x, some y => ret (x.elf && y.elf) (ixD x y) r
  | _, _ => .no
def eIx (a i : ME) : ME := fun S r => (a S r).bind fun x r => (i S r).bind fun y r => idx2 (rdR S r x) (rd S y) r
def thg (x : Rv) (r : Row) : Out Rv := match x with
  | .v _ (.hou ts _) => .ok (.v false (.lst ts)) r
  | .v _ (.hou1 ts) => .ok (.v false (.lst ts)) r
  | _ => .no
def tis (x : Rv) (r : Row) : Out Rv := match x with
  | .v _ (.hou _ ks) => .ok (.v false (.lst ks)) r
  | .v _ (.hou1 _) => .no
  | _ => .no
def eThings (a : ME) : ME := fun S r => (a S r).bind thg
def eTies (a : ME) : ME := fun S r => (a S r).bind tis
def eS : List ME → Env → Row → Out (List Rv)
  | [], _, r => .ok [] r
  | e :: es, S, r => (e S r).bind fun v r => (eS es S r).bind fun vs r => .ok (v :: vs) r
def isRv : Rv → Bool
  | .v _ _ => true
  | _ => false
def tup1 (vs : List Rv) (ds : Option (List D)) (z : Bool) (r : Row) : Out Rv := match ds, z with
  | some ds, true => (match vs.all isRv with
    | true => .ok (.v (vs.all isNw) (.tup ds)) r
    | false => .no)
  | _, _ => .no
def lst1 (vs : List Rv) (ds : Option (List D)) (z : Bool) (r : Row) : Out Rv := match ds, z with
  | some ds, true => (match vs.all isRv with
    | true => .ok (.v (vs.all isNw) (.lst ds)) r
    | false => .no)
  | _, _ => .no
def eTup (es : List ME) : ME := fun S r => (eS es S r).bind fun vs r => tup1 vs (rds S vs) (sz es.length) r
def eLst (es : List ME) : ME := fun S r => (eS es S r).bind fun vs r => lst1 vs (rds S vs) (sz es.length) r
def eCall (fn : Fn) (es : List ME) : ME := fun S r => (eS es S r).bind fun vs r => callFn fn S vs r
def eMk (fn : Fn) (es : List ME) : ME := fun S r => (eS es S r).bind fun vs r => callMk fn S vs r
def blR1 (g : D → Option D) (ds : Option (List D)) (r : Row) : Out Rv := match ds with
  | some [d] => ret (d.elf) (g d) r
  | _ => .no
def blR2 (g : D → D → Option D) (ds : Option (List D)) (r : Row) : Out Rv := match ds with
  | some [x, y] => ret true (g x y) r
  | _ => .no
def eB1 (g : D → Option D) (a : ME) : ME := fun S r => (eS [a] S r).bind fun vs r => blR1 g (rds S vs) r
def eB2 (g : D → D → Option D) (a b : ME) : ME := fun S r => (eS [a, b] S r).bind fun vs r => blR2 g (rds S vs) r
def isi1 (T : Str) (d : Option D) (r : Row) : Out Rv := match d with
  | some d => retB (tyD T d) r
  | none => .no
def isi2 (T U : Str) (d : Option D) (r : Row) : Out Rv := match d with
  | some d => (match tyD T d, tyD U d with
    | some b1, some b2 => .ok (.v true (.bl (b1 || b2))) r
    | _, _ => .no)
  | none => .no
def isiX (L : List Str) (T : Str) (v : Rv) (r : Row) : Out Rv := match v with
  | .v _ (.exc cls [] _) => retB (isSub L cls T) r
  | _ => .no
def eIs (T : Str) (a : ME) : ME := fun S r => (a S r).bind fun v r => isi1 T (rd S v) r
def eIs2 (T U : Str) (a : ME) : ME := fun S r => (a S r).bind fun v r => isi2 T U (rd S v) r
def eIsX (L : List Str) (T : Str) (a : ME) : ME := fun S r => (a S r).bind fun v r => isiX L T v r
def met1 (fn : Fn) (d : D) (ds : Option (List D)) (r : Row) : Out Rv := match ds with
  | some ds => (match fn.run (d :: ds) none with
    | .ok d _ => .ok (.v true d) r
    | _ => .no)
  | none => .no
def met0 (fn : Fn) (x : Rv) (k : Out (List Rv)) (S : Env) : Out Rv := match x with
  | .v _ d => (match isHou d with
    | true => k.bind fun vs r => met1 fn d (rds S vs) r
    | false => .no)
  | _ => .no
def eHouM (fn : Fn) (o : ME) (es : List ME) : ME := fun S r => (o S r).bind fun x r => met0 fn x (eS es S r) S
def joi1 (a : Str) (y : Option D) (r : Row) : Out Rv := match y with
  | some y => ret true (joinD (.str a) y) r
  | none => .no
def joi0 (x : Rv) (S : Env) (k : Out Rv) : Out Rv := match x with
  | .v _ (.str a) => k.bind fun y r => joi1 a (rd S y) r
  | _ => .no
def eJoin (o e : ME) : ME := fun S r => (o S r).bind fun x r => joi0 x S (e S r)
/-! targets, iterables, comprehensions -/
def tgM : List Nat → List D → Env → Option Env
  | [], [], S => some S
  | i :: es, d :: ds, S => tgM es ds (S.set i (some d))
  | _, _, _ => none
def tg1 (i : Nat) : D → Env → Option Env := fun d S => some (S.set i (some d))
def tgT (is : List Nat) : D → Env → Option Env := fun d S => match d with
  | .tup ds => tgM is ds S
  | _ => none
def itG (g : List Rv → Option (List D)) (vs : List Rv) (r : Row) : Out (List D × Option Nat) := match g vs with
  | some ds => .ok (ds, none) r
  | none => .no
def iA (g : List Rv → Option (List D)) (es : List ME) : MI := fun S r => (eS es S r).bind fun vs r => itG g vs r
def itP (S : Env) (v : Rv) (r : Row) : Out (List D × Option Nat) := match v with
  | .v _ d => (match seqOf d with
    | some ds => .ok (ds, none) r
    | none => .no)
  | .p i => (match S[i]? with
    | some (some (.lst ds)) => .ok (ds, some i) r
    | _ => .no)
  | .io => .no
def iP (e : ME) : MI := fun S r => (e S r).bind fun v r => itP S v r
def tTrue : MB := fun _ r => .ok true r
def eLc (vs : List Nat) (tg : D → Env → Option Env) (it : MI) (test : MB) (elt : ME) : ME := fun S r => (it S r).bind fun ds r => lcGo (fun d => tg d (unset S vs)) test elt ds.1 [] true r
/-! statements -/
def nxS (x : SO) (k : Env → Row → SO) : SO := match x with
  | .nx S r => k S r
  | o => o
def sSeq : List MS → MS
  | [], S, r => .nx S r
  | s :: ss, S, r => nxS (s S r) (sSeq ss)
def sPass : MS := fun S r => .nx S r
def sBrk : MS := fun S r => .bk S r
def sCnt : MS := fun S r => .ct S r
def sRet0 : MS := fun _ r => .rt .non r
def retV (v : Rv) (S : Env) (r : Row) : SO := match v with
  | .v nw d => (match nw || d.lf with
    | true => .rt d r
    | false => .no)
  | .p j => (match S[j]? with
    | some (some d) => (match d.elf with
      | true => .rt d r
      | false => .no)
    | _ => .no)
  | .io => .no
def sRet (e : ME) : MS := fun S r => liftS S (e S r) fun v r => retV v S r
def sIf (t : MB) (a b : List MS) : MS := fun S r => liftS S (t S r) fun k r => sel k (fun _ => sSeq a S r) (fun _ => sSeq b S r)
def putV (i : Nat) (v : Rv) (S : Env) (r : Row) : SO := match v with
  | .v _ d => .nx (S.set i (some d)) r
  | .p j => (match S[j]? with
    | some (some d) => .nx ((S.set j none).set i (some d)) r
    | _ => .no)
  | .io => .no
def putO (i : Nat) (v : Rv) (S : Env) (r : Row) : SO := match v with
  | .v true d => (match isCon d && d.elf with
    | true => .nx (S.set i (some d)) r
    | false => .no)
  | .p j => (match S[j]? with
    | some (some d) => .nx ((S.set j none).set i (some d)) r
    | _ => .no)
  | _ => .no
def putI (i : Nat) (v : Rv) (S : Env) (r : Row) : SO := match v, r, S[i]? with
  | .v true (.lst ds), none, some _ => (match lfs ds with
    | true => .nx S (some ds)
    | false => .no)
  | _, _, _ => .no
def sSet (i : Nat) (e : ME) : MS := fun S r => liftS S (e S r) fun v r => putV i v S r
def sSetO (i : Nat) (e : ME) : MS := fun S r => liftS S (e S r) fun v r => putO i v S r
def sSetI (i : Nat) (e : ME) : MS := fun S r => liftS S (e S r) fun v r => putI i v S r
def subI (v y : Rv) (S : Env) (r : Row) : SO := match v, y, r with
  | .v _ d, .v _ (.int z), some ds => (match ixN ds.length z, d.lf with
    | some j, true => .nx S (some (ds.set j d))
    | _, _ => .no)
  | _, _, _ => .no
def subI0 (r : Row) (k : List D → SO) : SO := match r with
  | some ds0 => k ds0
  | none => .no
def sSubI (i e : ME) : MS := fun S r => liftS S (e S r) fun v r => subI0 r fun ds0 => liftS S (i S (some ds0)) fun y r => subI v y S r
def getL (k : Nat) (S : Env) (f : List D → SO) : SO := match S[k]? with
  | some (some (.lst xs)) => f xs
  | _ => .no
def sSubO (k : Nat) (i e : ME) : MS := fun S r => subOwn k e i S r
def unp (tg : D → Env → Option Env) (v : Rv) (S : Env) (r : Row) : SO := match v with
  | .v _ d => (match tg d S with
    | some S => .nx S r
    | none => .no)
  | _ => .no
def sUnp (is : List Nat) (e : ME) : MS := fun S r => liftS S (e S r) fun v r => unp (tgT is) v S r
def mutR (g : List D → List D → Option (List D)) (i : Nat) (xs : List D) (vs : List Rv) (ds : Option (List D)) (S : Env) (r : Row) : SO := match ds, allV vs with
  | some ds, true => (match g xs ds with
    | some ys => .nx (S.set i (some (.lst ys))) r
    | none => .no)
  | _, _ => .no
def sMut (g : List D → List D → Option (List D)) (i : Nat) (es : List ME) : MS := fun S r => getL i S fun xs => liftS S (eS es S r) fun vs r => mutR g i xs vs (rds S vs) S r
def sExp (e : ME) : MS := fun S r => liftS S (e S r) fun _ r => .nx S r
def offI (S : Env) (i : Option Nat) : Env := match i with
  | some i => S.set i none
  | none => S
def sFor (tg : D → Env → Option Env) (it : MI) (body : List MS) : MS := fun S r => liftS S (it S r) fun ds r => forD tg (sSeq body) ds.1 (offI S ds.2) r
def sNo : MS := fun _ _ => .no
def sRaise (x : Str) : MS := fun S r => .ex ⟨x, []⟩ S r
def raiR (x : Str) (ns : List Str) (vs : List Rv) (ds : Option (List D)) (S : Env) (r : Row) : SO := match ds, allV vs with
  | some ds, true => (match lfs ds && Nat.beq ds.length ns.length with
    | true => .ex ⟨x, ns.zip ds⟩ S r
    | false => .no)
  | _, _ => .no
def sRaiseF (x : Str) (ns : List Str) (es : List ME) : MS := fun S r => liftS S (eS es S r) fun vs r => raiR x ns vs (rds S vs) S r
def tryN (L : List Str) (T : Str) (i : Nat) (suite : List MS) (x : SO) : SO := match x with
  | .ex z S1 r1 => (match isSub L z.cls T, z.flds with
    | some true, [] => endTry (fun S => S.set i none) (sSeq suite (S1.set i (some (excD z))) r1)
    | some false, _ => .ex z S1 r1
    | _, _ => .no)
  | o => o
def sTryN (L : List Str) (body : List MS) (T : Str) (i : Nat) (suite : List MS) : MS := fun S r => tryN L T i suite (sSeq body S r)
def try0 (L : List Str) (T : Str) (suite : List MS) (x : SO) : SO := match x with
  | .ex z S1 r1 => (match isSub L z.cls T with
    | some true => endTry id (sSeq suite S1 r1)
    | some false => .ex z S1 r1
    | none => .no)
  | o => o
def sTry (L : List Str) (body : List MS) (T : Str) (suite : List MS) : MS := fun S r => try0 L T suite (sSeq body S r)
/-- a def's run: np arguments, m slots beside them -/
def env0 (io : Bool) (m : Nat) (args : List D) : Env := match io with
  | true => none :: (args.map some ++ List.replicate (m - 1 - args.length) none)
  | false => args.map some ++ List.replicate (m - args.length) none
def runM (io : Bool) (np m : Nat) (body : List MS) (args : List D) (r : Row) : Out D := match Nat.beq args.length np with
  | true => outB (sSeq body (env0 io m args) r)
  | false => .no
def mFn (io : Bool) (np m : Nat) (body : List MS) : Fn := ⟨io, runM io np m body⟩
/-! House.__init__ -/
def houEndM (e5 : ME) (ts : List D) (x : SO) : Out D := match x with
  | .nx S2 r => (match e5 S2 r, S2[0]? with
    | .ok (.v true (.lst ks)) _, some (some (D.hou1 _)) => (match noExcs ts && noExcs ks with
      | true => .ok (.hou ts ks) none
      | false => .no)
    | _, _ => .no)
  | .ex x _ _ => exNo x
  | _ => .no
def houMidM (e2 e5 : ME) (k : Env → Row → SO) (x : SO) : Out D := match x with
  | .nx S r => (match e2 S r, S[0]? with
    | .ok (.v true (.lst ts)) r, some (some (D.exc _ [] _)) => houEndM e5 ts (k (S.set 0 (some (.hou1 ts))) r)
    | _, _ => .no)
  | .ex x _ _ => exNo x
  | _ => .no
def mHou (m : Nat) (e2 e5 : ME) (p q : List MS) : Fn := ⟨false, fun args _ => match args with
  | [a, b] => houMidM e2 e5 (sSeq q) (sSeq p (some (.exc "House" [] []) :: some a :: some b :: List.replicate (m - 3) none) none)
  | _ => .no⟩
end TH

set_option Elab.async false
set_option linter.all false
set_option maxRecDepth 100000
set_option maxHeartbeats 4000000
/-! FN: printed by gen_f.py. -/
namespace TH
open PySem PySem.Spec PyProof.Rows L2
def tblNo : List Str := ["less", "", "With"]
def c_TRENDS : D := .tup [.int (-1), .int (0), .int (1)]
def c_LETTERS : D := .str "abcdefghijklmnopqrstuvwxyz"
def c_LONGEST_NAME : D := .int (8)
def c_MOST_THINGS : D := .int (3)
def c_MOST_MARKS : D := .int (3)
def c_MOST_MARK : D := .int (99)
def c_LEAST_APART : D := .int (2)
def c_MOST_TIES : D := .int (6)
def c_LENGTHS : D := .tbl ["with", "against", "sum", "product", "rate", "under", "over"] [3, 3, 4, 4, 4, 3, 3] tblNo
def c_FIGURES : D := .str "0123456789"
def c_MARKED : D := .tup [.str "rate", .str "under", .str "over"]
def m_spots : Fn := mFn false 1 4
  [(sSetO 1 (eLst [])), (sFor (tg1 2) (iA rng1 [(eBin .Add (eBin .Mult (eK (.int 2)) (eB1 lenD (eV 0))) (eK (.int 1)))]) [(sFor (tg1 3) (iP (eG c_TRENDS)) [(sIf (tOr [(tCmp .Eq (eV 3) (eK (.int 0))), (tCmp .Eq (eBin .Mod (eV 2) (eK (.int 2))) (eK (.int 0)))]) [(sMut appF 1 [(eTup [(eV 2), (eV 3)])])] [])])]), (sRet (eO 1))]
def F_spots : Fn := m_spots 
def m_need_room (f_spots : Fn) : Fn := mFn false 2 4
  [(sIf (tCmp .NotEq (eB1 lenD (eV 1)) (eB1 lenD (eThings (eV 0)))) [(sRaise "BadRoom")] []), (sFor (tgT [2, 3]) (iA zipI2 [(eV 1), (eThings (eV 0))]) [(sIf (tCmp .NotIn (eV 2) (eCall f_spots [(eIx (eV 3) (eK (.int 1)))])) [(sRaise "BadRoom")] [])])]
def F_need_room : Fn := m_need_room F_spots
def m_side : Fn := mFn false 3 4
  [(sSet 3 (eBin .Sub (eIx (eIx (eV 0) (eV 1)) (eK (.int 0))) (eBin .Add (eBin .Mult (eK (.int 2)) (eV 2)) (eK (.int 1))))), (sRet (eBin .Sub (eB1 intD (eT (tCmp .Gt (eV 3) (eK (.int 0))))) (eB1 intD (eT (tCmp .Lt (eV 3) (eK (.int 0)))))))]
def F_side : Fn := m_side 
def m_may_sum : Fn := mFn false 3 3
  [(sIf (tCmp .Eq (eV 0) (eBin .Sub (eK (.int 0)) (eV 1))) [(sRet (eOr [(eT (tCmp .NotEq (eV 0) (eK (.int 0)))), (eT (tCmp .Eq (eV 2) (eK (.int 0))))]))] []), (sRet (eT (tCmp .Eq (eV 2) (eIf (tCmp .NotEq (eV 0) (eK (.int 0))) (eV 0) (eV 1)))))]
def F_may_sum : Fn := m_may_sum 
def m_keeps (f_may_sum f_side : Fn) : Fn := mFn false 2 4
  [(sSet 2 (eIx (eV 1) (eK (.int 0)))), (sSet 3 (eIx (eIx (eV 0) (eIx (eV 1) (eK (.int 1)))) (eK (.int 1)))), (sIf (tCmp .Eq (eV 2) (eK (.str "with"))) [(sRet (eT (tCmp .Eq (eV 3) (eIx (eIx (eV 0) (eIx (eV 1) (eK (.int 2)))) (eK (.int 1))))))] []), (sIf (tCmp .Eq (eV 2) (eK (.str "against"))) [(sRet (eT (tCmp .Eq (eV 3) (eBin .Sub (eK (.int 0)) (eIx (eIx (eV 0) (eIx (eV 1) (eK (.int 2)))) (eK (.int 1)))))))] []), (sIf (tCmp .Eq (eV 2) (eK (.str "sum"))) [(sRet (eCall f_may_sum [(eIx (eIx (eV 0) (eIx (eV 1) (eK (.int 2)))) (eK (.int 1))), (eIx (eIx (eV 0) (eIx (eV 1) (eK (.int 3)))) (eK (.int 1))), (eV 3)]))] []), (sIf (tCmp .Eq (eV 2) (eK (.str "product"))) [(sRet (eT (tCmp .Eq (eV 3) (eBin .Mult (eIx (eIx (eV 0) (eIx (eV 1) (eK (.int 2)))) (eK (.int 1))) (eIx (eIx (eV 0) (eIx (eV 1) (eK (.int 3)))) (eK (.int 1)))))))] []), (sIf (tCmp .Eq (eV 2) (eK (.str "rate"))) [(sRet (eT (tCmp .Eq (eV 3) (eCall f_side [(eV 0), (eIx (eV 1) (eK (.int 2))), (eIx (eV 1) (eK (.int 3)))]))))] []), (sIf (tCmp .Eq (eV 2) (eK (.str "under"))) [(sRet (eT (tCmp .LtE (eCall f_side [(eV 0), (eIx (eV 1) (eK (.int 1))), (eIx (eV 1) (eK (.int 2)))]) (eK (.int 0)))))] []), (sRet (eT (tCmp .GtE (eCall f_side [(eV 0), (eIx (eV 1) (eK (.int 1))), (eIx (eV 1) (eK (.int 2)))]) (eK (.int 0)))))]
def F_keeps : Fn := m_keeps F_may_sum F_side
def m_first_broken (f_keeps : Fn) : Fn := mFn false 2 3
  [(sFor (tg1 2) (iA rng1 [(eB1 lenD (eTies (eV 0)))]) [(sIf (tNot (tX (eCall f_keeps [(eV 1), (eIx (eTies (eV 0)) (eV 2))]))) [(sRet (eV 2))] [])]), (sRet (eK .non))]
def F_first_broken : Fn := m_first_broken F_keeps
def m_broken (f_need_room f_first_broken : Fn) : Fn := mFn false 2 2
  [(sExp (eCall f_need_room [(eV 0), (eV 1)])), (sRet (eCall f_first_broken [(eV 0), (eV 1)]))]
def F_broken : Fn := m_broken F_need_room F_first_broken
def m_all_rows : Fn := mFn false 1 6
  [(sSetO 1 (eLst [(eTup [])])), (sFor (tg1 2) (iP (eV 0)) [(sSetO 3 (eLst [])), (sFor (tg1 4) (iP (eO 1)) [(sMut extF 3 [(eLc [5] (tg1 5) (iP (eV 2)) tTrue (eBin .Add (eV 4) (eTup [(eV 5)])))])]), (sSetO 1 (eO 3))]), (sRet (eO 1))]
def F_all_rows : Fn := m_all_rows 
def m_rooms (f_all_rows f_spots f_first_broken : Fn) : Fn := mFn false 1 4
  [(sSet 1 (eCall f_all_rows [(eLc [3] (tg1 3) (iP (eThings (eV 0))) tTrue (eCall f_spots [(eIx (eV 3) (eK (.int 1)))]))])), (sRet (eLc [2] (tg1 2) (iP (eV 1)) (tCmp .Is (eCall f_first_broken [(eV 0), (eV 2)]) (eK .non)) (eV 2)))]
def F_rooms : Fn := m_rooms F_all_rows F_spots F_first_broken
def m_spots_next : Fn := mFn false 2 7
  [(sUnp [4, 5] (eV 0)), (sSetO 2 (eK (.dct [] []))), (sSet 3 (eV 4)), (sIf (tCmp .Eq (eBin .Mod (eV 4) (eK (.int 2))) (eK (.int 0))) [(sFor (tg1 6) (iP (eTup [(eNeg (eK (.int 1))), (eK (.int 0)), (eK (.int 1))])) [(sSubO 2 (eTup [(eV 4), (eV 6)]) (eK (.bl true)))]), (sSet 3 (eBin .Add (eV 4) (eV 5)))] []), (sIf (tAnd [(tCmp .Eq (eBin .Mod (eV 3) (eK (.int 2))) (eK (.int 1))), (tCmp2 .Lt .Lt (eK (.int 0)) (eV 3) (eBin .Mult (eK (.int 2)) (eB1 lenD (eV 1))))]) [(sSubO 2 (eTup [(eV 3), (eK (.int 0))]) (eK (.bl true))), (sSubO 2 (eTup [(eBin .Sub (eV 3) (eK (.int 1))), (eNeg (eK (.int 1)))]) (eK (.bl true))), (sSubO 2 (eTup [(eBin .Add (eV 3) (eK (.int 1))), (eK (.int 1))]) (eK (.bl true)))] []), (sRet (eB1 sortedD (eO 2)))]
def F_spots_next : Fn := m_spots_next 
def m_first_barred (f_spots_next : Fn) : Fn := mFn false 3 4
  [(sFor (tg1 3) (iA rng1 [(eB1 lenD (eV 1))]) [(sIf (tCmp .NotIn (eIx (eV 2) (eV 3)) (eCall f_spots_next [(eIx (eV 1) (eV 3)), (eIx (eIx (eThings (eV 0)) (eV 3)) (eK (.int 1)))])) [(sRet (eV 3))] [])]), (sRet (eK .non))]
def F_first_barred : Fn := m_first_barred F_spots_next
def m_all_next (f_spots_next f_all_rows f_first_broken : Fn) : Fn := mFn false 2 6
  [(sSet 2 (eLc [4] (tg1 4) (iA rng1 [(eB1 lenD (eV 1))]) tTrue (eCall f_spots_next [(eIx (eV 1) (eV 4)), (eIx (eIx (eThings (eV 0)) (eV 4)) (eK (.int 1)))]))), (sSet 3 (eLc [5] (tg1 5) (iP (eCall f_all_rows [(eV 2)])) (tCmp .NotEq (eV 5) (eV 1)) (eV 5))), (sRet (eLc [5] (tg1 5) (iP (eV 3)) (tCmp .Is (eCall f_first_broken [(eV 0), (eV 5)]) (eK .non)) (eV 5)))]
def F_all_next : Fn := m_all_next F_spots_next F_all_rows F_first_broken
def m_nexts (f_need_room f_all_next : Fn) : Fn := mFn false 2 2
  [(sExp (eCall f_need_room [(eV 0), (eV 1)])), (sRet (eCall f_all_next [(eV 0), (eV 1)]))]
def F_nexts : Fn := m_nexts F_need_room F_all_next
def m_why_not (f_need_room f_first_barred f_first_broken : Fn) : Fn := mFn false 3 5
  [(sExp (eCall f_need_room [(eV 0), (eV 1)])), (sExp (eCall f_need_room [(eV 0), (eV 2)])), (sIf (tCmp .Eq (eV 1) (eV 2)) [(sRet (eTup [(eK (.str "same")), (eK (.int 0))]))] []), (sSet 3 (eCall f_first_barred [(eV 0), (eV 1), (eV 2)])), (sIf (tCmp .IsNot (eV 3) (eK .non)) [(sRet (eTup [(eK (.str "thing")), (eV 3)]))] []), (sSet 4 (eCall f_first_broken [(eV 0), (eV 2)])), (sRet (eIf (tCmp .Is (eV 4) (eK .non)) (eK .non) (eTup [(eK (.str "tie")), (eV 4)])))]
def F_why_not : Fn := m_why_not F_need_room F_first_barred F_first_broken
def m_need_run : Fn := mFn false 2 3
  [(sIf (tCmp .Lt (eB1 lenD (eV 1)) (eK (.int 2))) [(sRaiseF "BadRun" ["row"] [(eB1 lenD (eV 1))])] []), (sFor (tg1 2) (iA rng1 [(eB1 lenD (eV 1))]) [(sIf (tCmp .NotEq (eB1 lenD (eIx (eV 1) (eV 2))) (eB1 lenD (eThings (eV 0)))) [(sRaiseF "BadRun" ["row"] [(eV 2)])] [])])]
def F_need_run : Fn := m_need_run 
def m_is_ahead : Fn := mFn false 2 2
  [(sRet (eT (tCmp .Lt (eBin .Mult (eIx (eV 0) (eK (.int 0))) (eIx (eV 1) (eK (.int 1)))) (eBin .Mult (eIx (eV 1) (eK (.int 0))) (eIx (eV 0) (eK (.int 1)))))))]
def F_is_ahead : Fn := m_is_ahead 
def m_in_order (f_is_ahead : Fn) : Fn := mFn false 1 5
  [(sSetO 1 (eLst [])), (sFor (tg1 2) (iP (eV 0)) [(sSet 3 (eB1 lenD (eLc [4] (tg1 4) (iP (eO 1)) (tX (eCall f_is_ahead [(eV 4), (eV 2)])) (eV 4)))), (sIf (tOr [(tCmp .Eq (eV 3) (eB1 lenD (eO 1))), (tX (eCall f_is_ahead [(eV 2), (eIx (eO 1) (eV 3))]))]) [(sMut insF 1 [(eV 3), (eV 2)])] [])]), (sRet (eO 1))]
def F_in_order : Fn := m_in_order F_is_ahead
def m_times_of (f_in_order : Fn) : Fn := mFn false 3 8
  [(sSetO 3 (eLst [(eTup [(eK (.int 0)), (eK (.int 1))]), (eTup [(eK (.int 1)), (eK (.int 1))])])), (sFor (tgT [4, 5, 6]) (iA zipI3 [(eV 1), (eV 2), (eThings (eV 0))]) [(sFor (tg1 7) (iP (eIx (eV 6) (eK (.int 1)))) [(sIf (tCmp2 .Lt .Lt (eB2 min2D (eV 4) (eV 5)) (eV 7) (eB2 max2D (eV 4) (eV 5))) [(sMut appF 3 [(eTup [(eB1 absD (eBin .Sub (eV 7) (eV 4))), (eB1 absD (eBin .Sub (eV 5) (eV 4)))])])] [])])]), (sRet (eCall f_in_order [(eO 3)]))]
def F_times_of : Fn := m_times_of F_in_order
def m_place_of : Fn := mFn false 3 5
  [(sSet 3 (eK (.int 0))), (sFor (tg1 4) (iP (eV 0)) [(sIf (tCmp .Lt (eBin .Mult (eV 4) (eV 2)) (eV 1)) [(sSet 3 (eBin .Add (eV 3) (eK (.int 2))))] [(sIf (tCmp .Eq (eBin .Mult (eV 4) (eV 2)) (eV 1)) [(sSet 3 (eBin .Add (eV 3) (eK (.int 1))))] [])])]), (sRet (eV 3))]
def F_place_of : Fn := m_place_of 
def m_room_at (f_place_of : Fn) : Fn := mFn false 4 9
  [(sSetO 4 (eLst [])), (sFor (tgT [5, 6, 7]) (iA zipI3 [(eV 1), (eV 2), (eThings (eV 0))]) [(sSet 8 (eBin .Add (eBin .Mult (eV 5) (eIx (eV 3) (eK (.int 1)))) (eBin .Mult (eBin .Sub (eV 6) (eV 5)) (eIx (eV 3) (eK (.int 0)))))), (sMut appF 4 [(eTup [(eCall f_place_of [(eIx (eV 7) (eK (.int 1))), (eV 8), (eIx (eV 3) (eK (.int 1)))]), (eBin .Sub (eB1 intD (eT (tCmp .Gt (eV 6) (eV 5)))) (eB1 intD (eT (tCmp .Lt (eV 6) (eV 5)))))])])]), (sRet (eB1 tupD (eO 4)))]
def F_room_at : Fn := m_room_at F_place_of
def m_rooms_of (f_times_of f_room_at : Fn) : Fn := mFn false 2 10
  [(sSetO 2 (eLst [])), (sFor (tg1 3) (iA rng1 [(eBin .Sub (eB1 lenD (eV 1)) (eK (.int 1)))]) [(sSet 4 (eCall f_times_of [(eV 0), (eIx (eV 1) (eV 3)), (eIx (eV 1) (eBin .Add (eV 3) (eK (.int 1))))])), (sFor (tg1 5) (iA rng1 [(eBin .Sub (eB1 lenD (eV 4)) (eK (.int 1)))]) [(sUnp [8, 9] (eTup [(eIx (eV 4) (eV 5)), (eIx (eV 4) (eBin .Add (eV 5) (eK (.int 1))))])), (sSet 6 (eTup [(eBin .Add (eBin .Mult (eIx (eV 8) (eK (.int 0))) (eIx (eV 9) (eK (.int 1)))) (eBin .Mult (eIx (eV 9) (eK (.int 0))) (eIx (eV 8) (eK (.int 1))))), (eBin .Mult (eBin .Mult (eK (.int 2)) (eIx (eV 8) (eK (.int 1)))) (eIx (eV 9) (eK (.int 1))))])), (sSet 7 (eCall f_room_at [(eV 0), (eIx (eV 1) (eV 3)), (eIx (eV 1) (eBin .Add (eV 3) (eK (.int 1)))), (eV 6)])), (sIf (tOr [(tCmp .Eq (eO 2) (eLst [])), (tCmp .NotEq (eIx (eO 2) (eNeg (eK (.int 1)))) (eV 7))]) [(sMut appF 2 [(eV 7)])] [])])]), (sRet (eO 2))]
def F_rooms_of : Fn := m_rooms_of F_times_of F_room_at
def m_passed (f_need_run f_rooms_of : Fn) : Fn := mFn false 2 2
  [(sExp (eCall f_need_run [(eV 0), (eV 1)])), (sRet (eCall f_rooms_of [(eV 0), (eV 1)]))]
def F_passed : Fn := m_passed F_need_run F_rooms_of
def m_kept (f_need_run f_rooms_of f_first_broken : Fn) : Fn := mFn false 2 5
  [(sExp (eCall f_need_run [(eV 0), (eV 1)])), (sSet 2 (eCall f_rooms_of [(eV 0), (eV 1)])), (sFor (tg1 3) (iA rng1 [(eB1 lenD (eV 2))]) [(sSet 4 (eCall f_first_broken [(eV 0), (eIx (eV 2) (eV 3))])), (sIf (tCmp .IsNot (eV 4) (eK .non)) [(sRet (eTup [(eV 3), (eV 4)]))] [])]), (sRet (eK .non))]
def F_kept : Fn := m_kept F_need_run F_rooms_of F_first_broken
def m_must : Fn := mFn false 3 3
  [(sIf (tNot (tX (eV 0))) [(sRaiseF "BadHouse" ["word", "number"] [(eV 1), (eV 2)])] [])]
def F_must : Fn := m_must 
def m_is_name : Fn := mFn false 1 2
  [(sRet (eAnd [(eT (tCmp2 .LtE .LtE (eK (.int 1)) (eB1 lenD (eV 0)) (eG c_LONGEST_NAME))), (eT (tCmp .Eq (eLc [1] (tg1 1) (iP (eV 0)) (tCmp .NotIn (eV 1) (eG c_LETTERS)) (eV 1)) (eLst [])))]))]
def F_is_name : Fn := m_is_name 
def m_are_marks : Fn := mFn false 1 3
  [(sIf (tOr [(tNot (tCmp2 .LtE .LtE (eK (.int 1)) (eB1 lenD (eV 0)) (eG c_MOST_MARKS))), (tCmp .NotEq (eLc [2] (tg1 2) (iP (eV 0)) (tNot (tCmp .LtE (eB1 absD (eV 2)) (eG c_MOST_MARK))) (eV 2)) (eLst []))]) [(sRet (eK (.bl false)))] []), (sRet (eT (tCmp .Eq (eLc [1] (tg1 1) (iA rng1 [(eBin .Sub (eB1 lenD (eV 0)) (eK (.int 1)))]) (tCmp .Lt (eBin .Sub (eIx (eV 0) (eBin .Add (eV 1) (eK (.int 1)))) (eIx (eV 0) (eV 1))) (eG c_LEAST_APART)) (eV 1)) (eLst []))))]
def F_are_marks : Fn := m_are_marks 
def m_House_is_tie : Fn := mFn false 2 6
  [(sIf (tOr [(tCmp .Eq (eB1 lenD (eV 1)) (eK (.int 0))), (tCmp .NotIn (eIx (eV 1) (eK (.int 0))) (eG c_LENGTHS)), (tCmp .NotEq (eB1 lenD (eV 1)) (eIx (eG c_LENGTHS) (eIx (eV 1) (eK (.int 0)))))]) [(sRet (eK (.bl false)))] []), (sSet 2 (eIx (eV 1) (eK (.int 0)))), (sSet 3 (eSl (eV 1) (some (eK (.int 1))) none)), (sSet 4 (eK .non)), (sIf (tCmp .In (eV 2) (eTup [(eK (.str "rate")), (eK (.str "under")), (eK (.str "over"))])) [(sSet 3 (eSl (eV 1) (some (eK (.int 1))) (some (eNeg (eK (.int 1)))))), (sSet 4 (eIx (eV 1) (eNeg (eK (.int 1)))))] []), (sIf (tCmp .NotEq (eLc [5] (tg1 5) (iP (eV 3)) (tNot (tCmp2 .LtE .Lt (eK (.int 0)) (eV 5) (eB1 lenD (eThings (eV 0))))) (eV 5)) (eLst [])) [(sRet (eK (.bl false)))] []), (sIf (tCmp .IsNot (eV 4) (eK .non)) [(sRet (eT (tCmp2 .LtE .Lt (eK (.int 0)) (eV 4) (eB1 lenD (eIx (eIx (eThings (eV 0)) (eIx (eV 3) (eNeg (eK (.int 1))))) (eK (.int 1)))))))] []), (sRet (eT (tCmp .NotIn (eIx (eV 3) (eK (.int 0))) (eSl (eV 3) (some (eK (.int 1))) none))))]
def F_House_is_tie : Fn := m_House_is_tie 
def m_House_init (f_must f_is_name f_are_marks f_House_is_tie : Fn) : Fn := mHou 8 (eB1 listD (eV 1)) (eB1 listD (eV 2)) [(sExp (eCall f_must [(eT (tCmp2 .LtE .LtE (eK (.int 1)) (eB1 lenD (eV 1)) (eG c_MOST_THINGS))), (eK (.str "things")), (eK (.int 0))])), (sFor (tg1 3) (iA rng1 [(eB1 lenD (eV 1))]) [(sUnp [5, 6] (eIx (eV 1) (eV 3))), (sSet 4 (eAnd [(eCall f_is_name [(eV 5)]), (eT (tCmp .NotIn (eV 5) (eLc [7] (tg1 7) (iP (eSl (eV 1) none (some (eV 3)))) tTrue (eIx (eV 7) (eK (.int 0))))))])), (sExp (eCall f_must [(eAnd [(eV 4), (eCall f_are_marks [(eV 6)])]), (eK (.str "thing")), (eV 3)]))])] [(sExp (eCall f_must [(eT (tCmp .LtE (eB1 lenD (eV 2)) (eG c_MOST_TIES))), (eK (.str "ties")), (eK (.int 0))])), (sFor (tg1 3) (iA rng1 [(eB1 lenD (eV 2))]) [(sExp (eCall f_must [(eHouM f_House_is_tie (eV 0) [(eIx (eV 2) (eV 3))]), (eK (.str "tie")), (eV 3)]))])]
def F_House : Fn := m_House_init F_must F_is_name F_are_marks F_House_is_tie
def m_House_things : Fn := mFn false 1 1
  [(sRet (eB1 listD (eThings (eV 0))))]
def F_House_things : Fn := m_House_things 
def m_House_ties : Fn := mFn false 1 1
  [(sRet (eB1 listD (eTies (eV 0))))]
def F_House_ties : Fn := m_House_ties 
def m_law_taken : Fn := mFn true 1 3
  [(sSubI (eK (.int 1)) (eBin .Add (eIx eIo (eK (.int 1))) (eK (.int 1)))), (sIf (tCmp .Gt (eIx eIo (eK (.int 1))) (eB1 lenD (eIx eIo (eK (.int 0))))) [(sSubI (eK (.int 2)) (eBin .Mod (eBin .Add (eBin .Mult (eIx eIo (eK (.int 2))) (eK (.int 48271))) (eK (.int 11))) (eK (.int 2147483647)))), (sRet (eBin .Mod (eBin .FloorDiv (eIx eIo (eK (.int 2))) (eK (.int 7))) (eV 1)))] []), (sSet 2 (eIx (eIx eIo (eK (.int 0))) (eBin .Sub (eIx eIo (eK (.int 1))) (eK (.int 1))))), (sSubI (eK (.int 2)) (eBin .Mod (eBin .Add (eBin .Add (eBin .Mult (eIx eIo (eK (.int 2))) (eK (.int 48271))) (eV 2)) (eK (.int 11))) (eK (.int 2147483647)))), (sRet (eBin .Mod (eV 2) (eV 1)))]
def F_law_taken : Fn := m_law_taken 
def m_law_marks (f_law_taken : Fn) : Fn := mFn true 2 7
  [(sSetO 3 (eLst [(eK (.int 0))])), (sFor (tg1 4) (iA rng1 [(eBin .Sub (eV 1) (eK (.int 1)))]) [(sMut appF 3 [(eBin .Add (eBin .Add (eIx (eO 3) (eNeg (eK (.int 1)))) (eK (.int 2))) (eCall f_law_taken [eIo, (eV 2)]))])]), (sSet 5 (eBin .Sub (eCall f_law_taken [eIo, (eBin .Sub (eK (.int 199)) (eIx (eO 3) (eNeg (eK (.int 1)))))]) (eK (.int 99)))), (sIf (tCmp .Eq (eCall f_law_taken [eIo, (eK (.int 6))]) (eK (.int 5))) [(sSet 5 (eIx (eLst [(eBin .Sub (eK (.int 0)) (eK (.int 99))), (eBin .Sub (eK (.int 99)) (eIx (eO 3) (eNeg (eK (.int 1)))))]) (eCall f_law_taken [eIo, (eK (.int 2))])))] []), (sRet (eB1 tupD (eLc [6] (tg1 6) (iP (eO 3)) tTrue (eBin .Add (eV 5) (eV 6)))))]
def F_law_marks : Fn := m_law_marks F_law_taken
def m_law_things (f_law_taken f_law_marks : Fn) : Fn := mFn true 2 12
  [(sSet 3 (eCall f_law_taken [eIo, (eK (.int 26))])), (sSet 4 (eJoin (eK (.str "")) (eLc [9] (tg1 9) (iA rng1 [(eK (.int 8))]) tTrue (eIx (eK (.str "abcdefghijklmnopqrstuvwxyz")) (eBin .Mod (eBin .Add (eV 3) (eBin .Mult (eK (.int 7)) (eV 9))) (eK (.int 26))))))), (sSet 5 (eCall f_law_taken [eIo, (eK (.int 6))])), (sSet 6 (eT (tCmp .Eq (eCall f_law_taken [eIo, (eK (.int 3))]) (eK (.int 2))))), (sSet 7 (eIx (eLst [(eK (.int 1)), (eK (.int 4)), (eK (.int 60))]) (eCall f_law_taken [eIo, (eK (.int 3))]))), (sSetO 8 (eLst [])), (sFor (tg1 9) (iA rng1 [(eBin .Add (eK (.int 1)) (eCall f_law_taken [eIo, (eV 1)]))]) [(sSet 10 (eIx (eK (.str "abcdefghijklmnopqrstuvwxyz")) (eBin .Mod (eBin .Add (eBin .Add (eV 3) (eK (.int 3))) (eBin .Mult (eK (.int 5)) (eV 9))) (eK (.int 26))))), (sSet 11 (eIx (eLst [(eBin .Add (eSl (eV 4) none (some (eV 5))) (eV 10)), (eSl (eV 4) none (some (eBin .Add (eBin .Add (eV 5) (eK (.int 1))) (eV 9))))]) (eB1 intD (eV 6)))), (sMut appF 8 [(eTup [(eV 11), (eCall f_law_marks [eIo, (eBin .Add (eK (.int 1)) (eCall f_law_taken [eIo, (eV 2)])), (eV 7)])])])]), (sRet (eO 8))]
def F_law_things : Fn := m_law_things F_law_taken F_law_marks
def m_law_tie (f_law_taken : Fn) : Fn := mFn true 1 7
  [(sSet 2 (eCall f_law_taken [eIo, (eB1 lenD (eV 1))])), (sSet 3 (eLc [6] (tg1 6) (iA rng1 [(eB1 lenD (eV 1))]) (tCmp .NotEq (eV 6) (eV 2)) (eV 6))), (sSet 4 (eCall f_law_taken [eIo, (eIx (eLst [(eK (.int 3)), (eK (.int 8))]) (eB1 intD (eT (tCmp .NotEq (eV 3) (eLst [])))))])), (sIf (tCmp .Eq (eV 4) (eK (.int 0))) [(sSet 5 (eCall f_law_taken [eIo, (eB1 lenD (eV 1))])), (sRet (eTup [(eK (.str "rate")), (eV 2), (eV 5), (eCall f_law_taken [eIo, (eB1 lenD (eIx (eIx (eV 1) (eV 5)) (eK (.int 1))))])]))] []), (sIf (tCmp .Lt (eV 4) (eK (.int 3))) [(sRet (eTup [(eIx (eLst [(eK (.str "under")), (eK (.str "over"))]) (eBin .Sub (eV 4) (eK (.int 1)))), (eV 2), (eCall f_law_taken [eIo, (eB1 lenD (eIx (eIx (eV 1) (eV 2)) (eK (.int 1))))])]))] []), (sSet 5 (eIx (eV 3) (eCall f_law_taken [eIo, (eB1 lenD (eV 3))]))), (sIf (tCmp .Lt (eV 4) (eK (.int 6))) [(sRet (eTup [(eIx (eLst [(eK (.str "with")), (eK (.str "against")), (eK (.str "with"))]) (eBin .Sub (eV 4) (eK (.int 3)))), (eV 2), (eV 5)]))] []), (sRet (eTup [(eIx (eLst [(eK (.str "sum")), (eK (.str "product"))]) (eBin .Sub (eV 4) (eK (.int 6)))), (eV 2), (eV 5), (eIx (eV 3) (eCall f_law_taken [eIo, (eB1 lenD (eV 3))]))]))]
def F_law_tie : Fn := m_law_tie F_law_taken
def m_law_ties (f_law_tie f_law_taken : Fn) : Fn := mFn true 2 4
  [(sRet (eLc [3] (tg1 3) (iA rng1 [(eCall f_law_taken [eIo, (eIx (eLst [(eK (.int 3)), (eBin .Add (eV 2) (eK (.int 1)))]) (eCall f_law_taken [eIo, (eK (.int 2))]))])]) tTrue (eCall f_law_tie [eIo, (eV 1)])))]
def F_law_ties : Fn := m_law_ties F_law_tie F_law_taken
def m_law_keeps : Fn := mFn false 2 9
  [(sSet 2 (eIx (eV 0) (eK (.int 0)))), (sSet 3 (eIx (eIx (eV 1) (eIx (eV 0) (eK (.int 1)))) (eK (.int 1)))), (sIf (tCmp .In (eV 2) (eTup [(eK (.str "under")), (eK (.str "over"))])) [(sSet 7 (eBin .Sub (eBin .Sub (eIx (eIx (eV 1) (eIx (eV 0) (eK (.int 1)))) (eK (.int 0))) (eBin .Mult (eK (.int 2)) (eIx (eV 0) (eK (.int 2))))) (eK (.int 1)))), (sRet (eT (tCmp .LtE (eBin .Mult (eV 7) (eIx (eLst [(eK (.int 1)), (eBin .Sub (eK (.int 0)) (eK (.int 1)))]) (eB1 intD (eT (tCmp .Eq (eV 2) (eK (.str "over"))))))) (eK (.int 0)))))] []), (sIf (tCmp .Eq (eV 2) (eK (.str "rate"))) [(sSet 7 (eBin .Sub (eBin .Sub (eIx (eIx (eV 1) (eIx (eV 0) (eK (.int 2)))) (eK (.int 0))) (eBin .Mult (eK (.int 2)) (eIx (eV 0) (eK (.int 3))))) (eK (.int 1)))), (sRet (eOr [(eT (tCmp .Gt (eBin .Mult (eV 3) (eV 7)) (eK (.int 0)))), (eAnd [(eT (tCmp .Eq (eV 3) (eK (.int 0)))), (eT (tCmp .Eq (eV 7) (eK (.int 0))))])]))] []), (sSet 4 (eIx (eIx (eV 1) (eIx (eV 0) (eK (.int 2)))) (eK (.int 1)))), (sIf (tCmp .In (eV 2) (eTup [(eK (.str "with")), (eK (.str "against"))])) [(sRet (eT (tCmp .Eq (eV 3) (eBin .Mult (eV 4) (eIx (eLst [(eK (.int 1)), (eBin .Sub (eK (.int 0)) (eK (.int 1)))]) (eB1 intD (eT (tCmp .Eq (eV 2) (eK (.str "against"))))))))))] []), (sSet 5 (eIx (eIx (eV 1) (eIx (eV 0) (eK (.int 3)))) (eK (.int 1)))), (sIf (tCmp .Eq (eV 2) (eK (.str "product"))) [(sRet (eT (tCmp .Eq (eV 3) (eBin .Mult (eV 4) (eV 5)))))] []), (sSet 6 (eLst [(eBin .Add (eV 4) (eV 5)), (eBin .Add (eV 4) (eBin .Mult (eK (.int 2)) (eV 5))), (eBin .Add (eBin .Mult (eK (.int 2)) (eV 4)) (eV 5))])), (sRet (eT (tCmp .NotEq (eLc [8] (tg1 8) (iP (eV 6)) (tOr [(tCmp .Gt (eBin .Mult (eV 8) (eV 3)) (eK (.int 0))), (tAnd [(tCmp .Eq (eV 8) (eK (.int 0))), (tCmp .Eq (eV 3) (eK (.int 0)))])]) (eV 8)) (eLst []))))]
def F_law_keeps : Fn := m_law_keeps 
def m_law_first (f_law_keeps : Fn) : Fn := mFn false 2 3
  [(sFor (tg1 2) (iA rng1 [(eB1 lenD (eV 0))]) [(sIf (tNot (tX (eCall f_law_keeps [(eIx (eV 0) (eV 2)), (eV 1)]))) [(sRet (eV 2))] [])]), (sRet (eK .non))]
def F_law_first : Fn := m_law_first F_law_keeps
def m_law_alike (f_law_alike : Fn) : Fn := mFn false 2 3
  [(sIf (tOr [(tX (eIs "tuple" (eV 1))), (tX (eIs "list" (eV 1)))]) [(sIf (tOr [(tCmp .NotEq (eIs "tuple" (eV 0)) (eIs "tuple" (eV 1))), (tNot (tX (eIs2 "tuple" "list" (eV 0))))]) [(sRet (eK (.bl false)))] []), (sIf (tCmp .NotEq (eB1 lenD (eV 0)) (eB1 lenD (eV 1))) [(sRet (eK (.bl false)))] []), (sRet (eT (tCmp .Eq (eLc [2] (tg1 2) (iA rng1 [(eB1 lenD (eV 1))]) (tNot (tX (eCall f_law_alike [(eIx (eV 0) (eV 2)), (eIx (eV 1) (eV 2))]))) (eV 2)) (eLst []))))] []), (sIf (tOr [(tCmp .Is (eV 1) (eK .non)), (tCmp .Is (eV 0) (eK .non))]) [(sRet (eAnd [(eT (tCmp .Is (eV 1) (eK .non))), (eT (tCmp .Is (eV 0) (eK .non)))]))] []), (sIf (tOr [(tX (eIs "bool" (eV 1))), (tX (eIs "bool" (eV 0)))]) [(sRet (eAnd [(eIs "bool" (eV 1)), (eIs "bool" (eV 0)), (eT (tCmp .Eq (eV 0) (eV 1)))]))] []), (sIf (tX (eIs "str" (eV 1))) [(sRet (eAnd [(eIs "str" (eV 0)), (eT (tCmp .Eq (eV 0) (eV 1)))]))] []), (sRet (eAnd [(eIs "int" (eV 0)), (eT (tCmp .Eq (eV 0) (eV 1)))]))]
def R_law_alike : Nat → Fn
  | 0 => noFn
  | n + 1 => m_law_alike (R_law_alike n)
def F_law_alike : Fn := R_law_alike 6
def m_law_spot : Fn := mFn false 5 8
  [(sSet 5 (eBin .Add (eBin .Mult (eV 1) (eV 3)) (eBin .Mult (eV 2) (eV 4)))), (sSet 6 (eK (.int 0))), (sFor (tg1 7) (iP (eV 0)) [(sSet 6 (eBin .Add (eBin .Add (eV 6) (eB1 intD (eT (tCmp .Lt (eBin .Mult (eV 7) (eV 3)) (eV 5))))) (eB1 intD (eT (tCmp .LtE (eBin .Mult (eV 7) (eV 3)) (eV 5))))))]), (sRet (eTup [(eV 6), (eBin .Sub (eB1 intD (eT (tCmp .Gt (eV 2) (eK (.int 0))))) (eB1 intD (eT (tCmp .Lt (eV 2) (eK (.int 0))))))]))]
def F_law_spot : Fn := m_law_spot 
def m_law_kept (f_law_first : Fn) : Fn := mFn false 2 4
  [(sFor (tg1 2) (iA rng1 [(eB1 lenD (eV 1))]) [(sSet 3 (eCall f_law_first [(eV 0), (eIx (eV 1) (eV 2))])), (sIf (tCmp .IsNot (eV 3) (eK .non)) [(sRet (eTup [(eV 2), (eV 3)]))] [])]), (sRet (eK .non))]
def F_law_kept : Fn := m_law_kept F_law_first
def m_law_spots : Fn := mFn false 1 3
  [(sSetO 1 (eLst [])), (sFor (tg1 2) (iA rng1 [(eBin .Add (eBin .Mult (eK (.int 2)) (eB1 lenD (eV 0))) (eK (.int 1)))]) [(sSetO 1 (eBin .Add (eO 1) (eIx (eLst [(eLst [(eTup [(eV 2), (eBin .Sub (eK (.int 0)) (eK (.int 1)))]), (eTup [(eV 2), (eK (.int 0))]), (eTup [(eV 2), (eK (.int 1))])]), (eLst [(eTup [(eV 2), (eK (.int 0))])])]) (eBin .Mod (eV 2) (eK (.int 2))))))]), (sRet (eO 1))]
def F_law_spots : Fn := m_law_spots 
def m_law_rooms (f_law_first f_law_spots : Fn) : Fn := mFn false 2 9
  [(sSet 2 (eLst [(eTup [])])), (sFor (tgT [3, 4]) (iP (eV 0)) [(sSetO 5 (eLst [])), (sFor (tg1 6) (iP (eV 2)) [(sMut extF 5 [(eLc [8] (tg1 8) (iP (eCall f_law_spots [(eV 4)])) tTrue (eBin .Add (eV 6) (eTup [(eV 8)])))])]), (sSet 2 (eO 5))]), (sRet (eLc [7] (tg1 7) (iP (eV 2)) (tCmp .Is (eCall f_law_first [(eV 1), (eV 7)]) (eK .non)) (eV 7)))]
def F_law_rooms : Fn := m_law_rooms F_law_first F_law_spots
def m_law_any (f_law_spots f_law_taken : Fn) : Fn := mFn true 1 6
  [(sSetO 2 (eLst [])), (sFor (tgT [3, 4]) (iP (eV 1)) [(sSet 5 (eCall f_law_spots [(eV 4)])), (sMut appF 2 [(eIx (eV 5) (eCall f_law_taken [eIo, (eB1 lenD (eV 5))]))])]), (sRet (eB1 tupD (eO 2)))]
def F_law_any : Fn := m_law_any F_law_spots F_law_taken
def m_law_odd (f_law_any f_law_taken : Fn) : Fn := mFn true 1 7
  [(sSet 2 (eCall f_law_any [eIo, (eV 1)])), (sSet 3 (eCall f_law_taken [eIo, (eB1 lenD (eV 2))])), (sSet 4 (eBin .Mult (eK (.int 2)) (eB1 lenD (eIx (eIx (eV 1) (eV 3)) (eK (.int 1)))))), (sSet 5 (eCall f_law_taken [eIo, (eK (.int 7))])), (sIf (tCmp .Eq (eV 5) (eK (.int 0))) [(sRet (eBin .Add (eSl (eV 2) none (some (eV 3))) (eSl (eV 2) (some (eBin .Add (eV 3) (eK (.int 1)))) none)))] []), (sIf (tCmp .Eq (eV 5) (eK (.int 1))) [(sRet (eBin .Add (eSl (eV 2) none (some (eBin .Add (eV 3) (eK (.int 1))))) (eSl (eV 2) (some (eV 3)) none)))] []), (sSet 6 (eLst [(eTup [(eBin .Add (eV 4) (eK (.int 1))), (eK (.int 0))]), (eTup [(eBin .Sub (eK (.int 0)) (eK (.int 1))), (eK (.int 0))]), (eTup [(eK (.int 1)), (eK (.int 1))]), (eTup [(eK (.int 0)), (eK (.int 2))]), (eTup [(eV 4), (eBin .Sub (eK (.int 0)) (eK (.int 2)))])])), (sRet (eBin .Add (eBin .Add (eSl (eV 2) none (some (eV 3))) (eTup [(eIx (eV 6) (eBin .Sub (eV 5) (eK (.int 2))))])) (eSl (eV 2) (some (eBin .Add (eV 3) (eK (.int 1)))) none)))]
def F_law_odd : Fn := m_law_odd F_law_any F_law_taken
def m_law_room (f_law_rooms f_law_any f_law_taken : Fn) : Fn := mFn true 2 4
  [(sSet 3 (eCall f_law_rooms [(eV 1), (eV 2)])), (sIf (tAnd [(tCmp .NotEq (eV 3) (eLst [])), (tCmp .Gt (eCall f_law_taken [eIo, (eK (.int 4))]) (eK (.int 0)))]) [(sRet (eIx (eV 3) (eCall f_law_taken [eIo, (eB1 lenD (eV 3))])))] []), (sRet (eCall f_law_any [eIo, (eV 1)]))]
def F_law_room : Fn := m_law_room F_law_rooms F_law_any F_law_taken
def m_law_may : Fn := mFn false 2 6
  [(sUnp [4, 5] (eV 0)), (sSetO 2 (eLst [(eV 4)])), (sIf (tAnd [(tCmp .Eq (eBin .Mod (eV 4) (eK (.int 2))) (eK (.int 0))), (tCmp .NotEq (eV 5) (eK (.int 0)))]) [(sMut appF 2 [(eBin .Add (eV 4) (eV 5))])] []), (sFor (tg1 3) (iP (eO 2)) [(sIf (tAnd [(tCmp .Eq (eBin .Mod (eV 3) (eK (.int 2))) (eK (.int 0))), (tCmp .Eq (eIx (eV 1) (eK (.int 0))) (eV 3))]) [(sRet (eK (.bl true)))] []), (sIf (tAnd [(tCmp .Eq (eBin .Mod (eV 3) (eK (.int 2))) (eK (.int 1))), (tCmp .In (eV 1) (eTup [(eTup [(eV 3), (eK (.int 0))]), (eTup [(eBin .Add (eV 3) (eK (.int 1))), (eK (.int 1))]), (eTup [(eBin .Sub (eV 3) (eK (.int 1))), (eBin .Sub (eK (.int 0)) (eK (.int 1)))])]))]) [(sRet (eK (.bl true)))] [])]), (sRet (eK (.bl false)))]
def F_law_may : Fn := m_law_may 
def m_law_nexts (f_law_spots f_law_may f_law_first : Fn) : Fn := mFn false 3 10
  [(sSet 3 (eLst [(eTup [])])), (sFor (tg1 4) (iA rng1 [(eB1 lenD (eV 0))]) [(sSet 5 (eLc [9] (tg1 9) (iP (eCall f_law_spots [(eIx (eIx (eV 0) (eV 4)) (eK (.int 1)))])) (tX (eCall f_law_may [(eIx (eV 2) (eV 4)), (eV 9)])) (eV 9))), (sSetO 6 (eLst [])), (sFor (tg1 7) (iP (eV 3)) [(sMut extF 6 [(eLc [9] (tg1 9) (iP (eV 5)) tTrue (eBin .Add (eV 7) (eTup [(eV 9)])))])]), (sSet 3 (eO 6))]), (sRet (eLc [8] (tg1 8) (iP (eV 3)) (tAnd [(tCmp .NotEq (eV 8) (eV 2)), (tCmp .Is (eCall f_law_first [(eV 1), (eV 8)]) (eK .non))]) (eV 8)))]
def F_law_nexts : Fn := m_law_nexts F_law_spots F_law_may F_law_first
def m_law_other (f_law_taken f_law_any f_law_room f_law_spots f_law_may : Fn) : Fn := mFn true 4 10
  [(sSet 5 (eCall f_law_taken [eIo, (eK (.int 5))])), (sIf (tAnd [(tCmp .Eq (eV 5) (eK (.int 0))), (tCmp .NotEq (eV 4) (eLst []))]) [(sRet (eIx (eV 4) (eCall f_law_taken [eIo, (eB1 lenD (eV 4))])))] []), (sIf (tCmp .Eq (eV 5) (eK (.int 1))) [(sRet (eV 3))] []), (sIf (tCmp .Eq (eV 5) (eK (.int 2))) [(sRet (eCall f_law_any [eIo, (eV 1)]))] []), (sIf (tCmp .Eq (eV 5) (eK (.int 3))) [(sRet (eCall f_law_room [eIo, (eV 1), (eV 2)]))] []), (sSetO 6 (eLst [])), (sFor (tg1 7) (iA rng1 [(eB1 lenD (eV 1))]) [(sSet 8 (eLc [9] (tg1 9) (iP (eCall f_law_spots [(eIx (eIx (eV 1) (eV 7)) (eK (.int 1)))])) (tX (eCall f_law_may [(eIx (eV 3) (eV 7)), (eV 9)])) (eV 9))), (sMut appF 6 [(eIx (eV 8) (eCall f_law_taken [eIo, (eB1 lenD (eV 8))]))])]), (sRet (eB1 tupD (eO 6)))]
def F_law_other : Fn := m_law_other F_law_taken F_law_any F_law_room F_law_spots F_law_may
def m_law_why (f_law_first f_law_may : Fn) : Fn := mFn false 3 5
  [(sIf (tCmp .Eq (eV 1) (eV 2)) [(sRet (eTup [(eK (.str "same")), (eK (.int 0))]))] []), (sFor (tg1 3) (iA rng1 [(eB1 lenD (eV 1))]) [(sIf (tNot (tX (eCall f_law_may [(eIx (eV 1) (eV 3)), (eIx (eV 2) (eV 3))]))) [(sRet (eTup [(eK (.str "thing")), (eV 3)]))] [])]), (sSet 4 (eCall f_law_first [(eV 0), (eV 2)])), (sRet (eIf (tCmp .Is (eV 4) (eK .non)) (eK .non) (eTup [(eK (.str "tie")), (eV 4)])))]
def F_law_why : Fn := m_law_why F_law_first F_law_may
def m_bounds : Fn := mFn false 2 4
  [(sSet 2 (eIf (tCmp .Gt (eV 1) (eK (.int 0))) (eIx (eV 0) (eBin .FloorDiv (eBin .Sub (eV 1) (eK (.int 1))) (eK (.int 2)))) (eK .non))), (sSet 3 (eIf (tCmp .Lt (eV 1) (eBin .Mult (eK (.int 2)) (eB1 lenD (eV 0)))) (eIx (eV 0) (eBin .FloorDiv (eV 1) (eK (.int 2)))) (eK .non))), (sIf (tCmp .Eq (eBin .Mod (eV 1) (eK (.int 2))) (eK (.int 1))) [(sSet 3 (eV 2))] []), (sRet (eTup [(eV 2), (eV 3)]))]
def F_bounds : Fn := m_bounds 
def m_is_in : Fn := mFn false 4 4
  [(sIf (tOr [(tAnd [(tCmp .IsNot (eV 0) (eK .non)), (tCmp .Lt (eB2 min2D (eV 2) (eV 3)) (eV 0))]), (tAnd [(tCmp .IsNot (eV 1) (eK .non)), (tCmp .Gt (eB2 max2D (eV 2) (eV 3)) (eV 1))])]) [(sRet (eK (.bl false)))] []), (sIf (tAnd [(tCmp .Eq (eV 2) (eV 3)), (tCmp .NotEq (eV 0) (eV 1))]) [(sRet (eT (tCmp .NotIn (eV 2) (eTup [(eV 0), (eV 1)]))))] []), (sRet (eK (.bl true)))]
def F_is_in : Fn := m_is_in 
def m_numbers_in (f_bounds f_is_in : Fn) : Fn := mFn false 3 10
  [(sUnp [4, 5] (eCall f_bounds [(eV 0), (eIx (eV 1) (eK (.int 0)))])), (sUnp [6, 7] (eCall f_bounds [(eV 0), (eIx (eV 2) (eK (.int 0)))])), (sFor (tg1 3) (iA rng2 [(eBin .Sub (eB1 min1D (eV 0)) (eK (.int 1))), (eBin .Add (eB1 max1D (eV 0)) (eK (.int 2)))]) [(sSet 8 (eBin .Sub (eV 3) (eIx (eV 1) (eK (.int 1))))), (sSet 9 (eBin .Add (eV 3) (eIx (eV 2) (eK (.int 1))))), (sIf (tAnd [(tX (eCall f_is_in [(eV 4), (eV 5), (eV 8), (eV 3)])), (tX (eCall f_is_in [(eV 6), (eV 7), (eV 3), (eV 9)]))]) [(sRet (eTup [(eV 8), (eV 3), (eV 9)]))] [])]), (sRet (eK .non))]
def F_numbers_in : Fn := m_numbers_in F_bounds F_is_in
def m_passing (f_need_room f_first_barred f_first_broken f_numbers_in : Fn) : Fn := mFn false 3 7
  [(sExp (eCall f_need_room [(eV 0), (eV 1)])), (sExp (eCall f_need_room [(eV 0), (eV 2)])), (sIf (tOr [(tCmp .Eq (eV 1) (eV 2)), (tCmp .IsNot (eCall f_first_barred [(eV 0), (eV 1), (eV 2)]) (eK .non)), (tCmp .IsNot (eCall f_first_broken [(eV 0), (eV 2)]) (eK .non))]) [(sRet (eK .non))] []), (sSetO 3 (eLst [])), (sFor (tg1 4) (iA rng1 [(eB1 lenD (eV 1))]) [(sMut appF 3 [(eCall f_numbers_in [(eIx (eIx (eThings (eV 0)) (eV 4)) (eK (.int 1))), (eIx (eV 1) (eV 4)), (eIx (eV 2) (eV 4))])])]), (sRet (eLc [5] (tg1 5) (iA rng1 [(eK (.int 3))]) tTrue (eB1 tupD (eLc [6] (tg1 6) (iP (eO 3)) tTrue (eIx (eV 6) (eV 5))))))]
def F_passing : Fn := m_passing F_need_room F_first_barred F_first_broken F_numbers_in
def m_law_few (f_law_things : Fn) : Fn := mFn true 0 4
  [(sSet 1 (eCall f_law_things [eIo, (eK (.int 3)), (eK (.int 3))])), (sRet (eLc [2, 3] (tgT [2, 3]) (iP (eV 1)) tTrue (eTup [(eV 2), (eSl (eV 3) none (some (eIx (eLst [(eK (.int 3)), (eK (.int 3)), (eK (.int 1))]) (eBin .Sub (eB1 lenD (eV 1)) (eK (.int 1))))))])))]
def F_law_few : Fn := m_law_few F_law_things
def m_stay : Fn := mFn false 2 8
  [(sSet 2 (eK .non)), (sFor (tgT [3, 4]) (iA zipI2 [(eV 1), (eThings (eV 0))]) [(sSet 5 (eIx (eV 4) (eK (.int 1)))), (sSet 6 (eBin .Sub (eBin .FloorDiv (eIx (eV 3) (eK (.int 0))) (eK (.int 2))) (eK (.int 1)))), (sIf (tAnd [(tCmp .NotEq (eIx (eV 3) (eK (.int 1))) (eK (.int 0))), (tCmp .LtE (eK (.int 0)) (eV 6)), (tCmp .Lt (eBin .Add (eV 6) (eK (.int 1))) (eB1 lenD (eV 5)))]) [(sSet 7 (eBin .Sub (eIx (eV 5) (eBin .Add (eV 6) (eK (.int 1)))) (eIx (eV 5) (eV 6)))), (sSet 2 (eIf (tCmp .Is (eV 2) (eK .non)) (eV 7) (eB2 min2D (eV 2) (eV 7))))] [])]), (sRet (eV 2))]
def F_stay : Fn := m_stay 
def m_law_stay : Fn := mFn false 2 7
  [(sSetO 2 (eLst [])), (sFor (tg1 3) (iA rng1 [(eB1 lenD (eV 1))]) [(sUnp [5, 6] (eIx (eV 1) (eV 3))), (sSet 4 (eIx (eIx (eV 0) (eV 3)) (eK (.int 1)))), (sIf (tAnd [(tCmp .NotEq (eV 6) (eK (.int 0))), (tCmp2 .Lt .Lt (eK (.int 0)) (eV 5) (eBin .Mult (eK (.int 2)) (eB1 lenD (eV 4))))]) [(sMut appF 2 [(eBin .Sub (eIx (eV 4) (eBin .FloorDiv (eV 5) (eK (.int 2)))) (eIx (eV 4) (eBin .Sub (eBin .FloorDiv (eV 5) (eK (.int 2))) (eK (.int 1)))))])] [])]), (sRet (eIf (tCmp .Eq (eO 2) (eLst [])) (eK .non) (eB1 min1D (eO 2))))]
def F_law_stay : Fn := m_law_stay 
def m_law_hours (f_law_stay f_law_hours : Fn) : Fn := mFn false 6 10
  [(sIf (tCmp .In (eV 4) (eV 1)) [(sRet (eK (.int 0)))] []), (sIf (tCmp .In (eV 4) (eO 3)) [(sRet (eIx (eO 3) (eV 4)))] []), (sSet 6 (eCall f_law_stay [(eV 0), (eV 4)])), (sIf (tOr [(tCmp .In (eV 4) (eV 5)), (tCmp .Is (eV 6) (eK .non))]) [(sRet (eK .non))] []), (sSet 7 (eK (.int 0))), (sFor (tg1 8) (iP (eIx (eV 2) (eV 4))) [(sSet 9 (eCall f_law_hours [(eV 0), (eV 1), (eV 2), (eO 3), (eV 8), (eBin .Add (eV 5) (eLst [(eV 4)]))])), (sIf (tCmp .Is (eV 9) (eK .non)) [(sSubO 3 (eV 4) (eK .non)), (sRet (eK .non))] []), (sSet 7 (eB2 max2D (eV 7) (eV 9)))]), (sSubO 3 (eV 4) (eBin .Add (eV 6) (eV 7))), (sRet (eBin .Add (eV 6) (eV 7)))]
def R_law_hours : Nat → Fn
  | 0 => noFn
  | n + 1 => m_law_hours F_law_stay (R_law_hours n)
def F_law_hours : Fn := R_law_hours 6
def m_law_bound (f_law_taken : Fn) : Fn := mFn true 1 4
  [(sSet 2 (eCall f_law_taken [eIo, (eK (.int 4))])), (sIf (tCmp .Gt (eV 2) (eK (.int 1))) [(sRet (eLst []))] []), (sRet (eLc [3] (tg1 3) (iA rng2 [(eK (.int 1)), (eB1 lenD (eV 1))]) tTrue (eTup [(eIx (eLst [(eK (.str "with")), (eK (.str "against"))]) (eCall f_law_taken [eIo, (eK (.int 2))])), (eK (.int 0)), (eV 3)])))]
def F_law_bound : Fn := m_law_bound F_law_taken
def m_law_none (f_law_taken : Fn) : Fn := mFn true 1 7
  [(sIf (tCmp .Eq (eCall f_law_taken [eIo, (eK (.int 4))]) (eK (.int 3))) [(sSet 5 (eSl (eV 1) none (some (eCall f_law_taken [eIo, (eK (.int 2))])))), (sRet (eTup [(eV 5), (eB1 lenD (eV 5))]))] []), (sSetO 2 (eB1 listD (eV 1))), (sSetO 3 (eLst [])), (sFor (tg1 4) (iA rng1 [(eBin .Add (eK (.int 1)) (eCall f_law_taken [eIo, (eK (.int 2))]))]) [(sSet 6 (eCall f_law_taken [eIo, (eB1 lenD (eO 2))])), (sIf (tCmp .NotIn (eV 6) (eO 3)) [(sSubO 2 (eV 6) (eIx (eLst [(eSl (eIx (eO 2) (eV 6)) (some (eK (.int 1))) none), (eBin .Add (eIx (eO 2) (eV 6)) (eTup [(eK (.int 7))]))]) (eCall f_law_taken [eIo, (eK (.int 2))]))), (sMut appF 3 [(eV 6)])] [])]), (sRet (eTup [(eO 2), (eB1 min1D (eO 3))]))]
def F_law_none : Fn := m_law_none F_law_taken
def m_number_of : Fn := mFn false 2 4
  [(sSet 2 (eIf (tCmp .Eq (eSl (eV 0) none (some (eK (.int 1)))) (eK (.str "-"))) (eSl (eV 0) (some (eK (.int 1))) none) (eV 0))), (sIf (tOr [(tNot (tCmp2 .LtE .LtE (eK (.int 1)) (eB1 lenD (eV 2)) (eK (.int 2)))), (tCmp .NotEq (eLc [3] (tg1 3) (iP (eV 2)) (tCmp .NotIn (eV 3) (eG c_FIGURES)) (eV 3)) (eLst []))]) [(sRaiseF "BadText" ["row"] [(eV 1)])] []), (sIf (tAnd [(tCmp .Eq (eIx (eV 2) (eK (.int 0))) (eK (.str "0"))), (tCmp .NotEq (eV 0) (eK (.str "0")))]) [(sRaiseF "BadText" ["row"] [(eV 1)])] []), (sRet (eB1 intD (eV 0)))]
def F_number_of : Fn := m_number_of 
def m_law_is_name : Fn := mFn false 1 3
  [(sSet 1 (eK (.str "abcdefghijklmnopqrstuvwxyz"))), (sRet (eAnd [(eT (tCmp2 .Lt .Lt (eK (.int 0)) (eB1 lenD (eV 0)) (eK (.int 9)))), (eT (tCmp .Eq (eLc [2] (tg1 2) (iP (eV 0)) (tCmp .NotIn (eV 2) (eV 1)) (eV 2)) (eLst [])))]))]
def F_law_is_name : Fn := m_law_is_name 
def m_law_number : Fn := mFn false 1 3
  [(sSet 1 (eIf (tCmp .Eq (eSl (eV 0) none (some (eK (.int 1)))) (eK (.str "-"))) (eSl (eV 0) (some (eK (.int 1))) none) (eV 0))), (sIf (tOr [(tCmp .Eq (eV 1) (eK (.str ""))), (tCmp .Gt (eB1 lenD (eV 1)) (eK (.int 2))), (tCmp .NotEq (eLc [2] (tg1 2) (iP (eV 1)) (tCmp .NotIn (eV 2) (eK (.str "0123456789"))) (eV 2)) (eLst []))]) [(sRet (eK .non))] []), (sIf (tAnd [(tCmp .Eq (eIx (eV 1) (eK (.int 0))) (eK (.str "0"))), (tCmp .NotEq (eV 0) (eK (.str "0")))]) [(sRet (eK .non))] []), (sRet (eBin .Mult (eB1 intD (eV 1)) (eIx (eLst [(eK (.int 1)), (eBin .Sub (eK (.int 0)) (eK (.int 1)))]) (eB1 intD (eT (tCmp .Eq (eSl (eV 0) none (some (eK (.int 1)))) (eK (.str "-"))))))))]
def F_law_number : Fn := m_law_number 
def m_law_odd_text (f_law_taken : Fn) : Fn := mFn true 0 2
  [(sSet 1 (eLst [(eK (.str "")), (eK (.str " ")), (eK (.str "\n")), (eK (.str "thing a")), (eK (.str "thing a 0\n")), (eK (.str "thing a 0\nthing a 5")), (eK (.str "thing a 0\nwith a a")), (eK (.str "with a b"))])), (sSet 1 (eBin .Add (eV 1) (eLst [(eK (.str "thing a 1 2")), (eK (.str "thing a 0\nthing b 0\nthing c 0\nthing d 0")), (eK (.str "thing a 0\nrate a a 1"))]))), (sRet (eIx (eBin .Add (eV 1) (eLst [(eBin .Add (eK (.str "thing a 0")) (eBin .Mult (eK (.str "\nunder a 0")) (eK (.int 7))))])) (eCall f_law_taken [eIo, (eK (.int 12))])))]
def F_law_odd_text : Fn := m_law_odd_text F_law_taken
def m_law_spoilt_thing (f_law_taken : Fn) : Fn := mFn true 1 9
  [(sSet 2 (eCall f_law_taken [eIo, (eB1 lenD (eV 1))])), (sUnp [6, 7] (eIx (eV 1) (eV 2))), (sSet 3 (eCall f_law_taken [eIo, (eK (.int 12))])), (sIf (tCmp .Eq (eV 3) (eK (.int 0))) [(sRet (eLst []))] []), (sIf (tCmp .Eq (eV 3) (eK (.int 1))) [(sRet (eBin .Add (eV 1) (eLc [8] (tg1 8) (iP (eK (.str "abc"))) tTrue (eTup [(eBin .Add (eK (.str "zz")) (eV 8)), (eTup [(eK (.int 0))])]))))] []), (sSet 4 (eLst [(eK (.str "")), (eK (.str "abcdefghi")), (eK (.str "Ab")), (eK (.str "a b")), (eK (.str "a1")), (eIx (eIx (eV 1) (eK (.int 0))) (eK (.int 0))), (eIx (eIx (eV 1) (eNeg (eK (.int 1)))) (eK (.int 0))), (eIx (eIx (eV 1) (eBin .FloorDiv (eB1 lenD (eV 1)) (eK (.int 2)))) (eK (.int 0)))])), (sSet 4 (eBin .Add (eV 4) (eLst [(eIx (eIx (eV 1) (eNeg (eK (.int 1)))) (eK (.int 0))), (eIx (eIx (eV 1) (eNeg (eK (.int 1)))) (eK (.int 0)))]))), (sIf (tCmp .Lt (eV 3) (eK (.int 5))) [(sSet 6 (eIx (eV 4) (eCall f_law_taken [eIo, (eK (.int 10))])))] []), (sSet 5 (eLst [(eTup []), (eBin .Add (eV 7) (eTup [(eIx (eV 7) (eNeg (eK (.int 1))))])), (eBin .Add (eV 7) (eTup [(eBin .Add (eIx (eV 7) (eNeg (eK (.int 1)))) (eK (.int 1)))])), (eBin .Add (eV 7) (eTup [(eBin .Sub (eIx (eV 7) (eK (.int 0))) (eK (.int 1)))])), (eTup [(eBin .Sub (eK (.int 0)) (eK (.int 100)))]), (eTup [(eK (.int 100))])])), (sSet 5 (eBin .Add (eV 5) (eLst [(eTup [(eBin .Sub (eK (.int 0)) (eK (.int 99))), (eK (.int 0)), (eK (.int 99))]), (eTup [(eK (.int 1)), (eK (.int 3)), (eK (.int 5)), (eK (.int 7))]), (eTup [(eBin .Sub (eK (.int 0)) (eK (.int 99))), (eK (.int 99))])]))), (sIf (tCmp .Gt (eV 3) (eK (.int 4))) [(sSet 7 (eIx (eV 5) (eCall f_law_taken [eIo, (eK (.int 9))])))] []), (sRet (eBin .Add (eBin .Add (eSl (eV 1) none (some (eV 2))) (eLst [(eTup [(eV 6), (eV 7)])])) (eSl (eV 1) (some (eBin .Add (eV 2) (eK (.int 1)))) none)))]
def F_law_spoilt_thing : Fn := m_law_spoilt_thing F_law_taken
def m_law_spoilt_tie (f_law_taken : Fn) : Fn := mFn true 2 11
  [(sSet 3 (eBin .Sub (eCall f_law_taken [eIo, (eK (.int 5))]) (eK (.int 1)))), (sSet 4 (eBin .Sub (eCall f_law_taken [eIo, (eK (.int 5))]) (eK (.int 1)))), (sSet 5 (eIx (eLst [(eK (.str "with")), (eK (.str "against")), (eK (.str "sum")), (eK (.str "product")), (eK (.str "rate")), (eK (.str "under")), (eK (.str "over")), (eK (.str "less")), (eK (.str "")), (eK (.str "With"))]) (eCall f_law_taken [eIo, (eK (.int 10))]))), (sSet 6 (eSl (eTup [(eV 5), (eV 3), (eV 4), (eBin .Sub (eCall f_law_taken [eIo, (eK (.int 5))]) (eK (.int 1)))]) none (some (eBin .Add (eK (.int 1)) (eCall f_law_taken [eIo, (eK (.int 4))]))))), (sIf (tCmp .Eq (eCall f_law_taken [eIo, (eK (.int 8))]) (eK (.int 7))) [(sSet 6 (eIx (eLst [(eTup []), (eTup [(eV 5), (eV 3), (eV 4), (eV 3), (eV 4)])]) (eCall f_law_taken [eIo, (eK (.int 2))])))] []), (sIf (tCmp .Eq (eCall f_law_taken [eIo, (eK (.int 4))]) (eK (.int 3))) [(sSet 9 (eCall f_law_taken [eIo, (eB1 lenD (eV 1))])), (sSet 10 (eBin .Mod (eBin .Add (eV 9) (eK (.int 1))) (eB1 lenD (eV 1)))), (sSet 6 (eIx (eLst [(eTup [(eK (.str "with")), (eV 9), (eV 9)]), (eTup [(eK (.str "against")), (eV 9), (eV 9)]), (eTup [(eK (.str "sum")), (eV 9), (eV 10), (eV 9)]), (eTup [(eK (.str "product")), (eV 9), (eV 9), (eV 10)])]) (eCall f_law_taken [eIo, (eK (.int 4))])))] []), (sSet 7 (eCall f_law_taken [eIo, (eBin .Add (eB1 lenD (eV 2)) (eK (.int 1)))])), (sSet 8 (eIx (eLst [(eK (.int 1)), (eK (.int 1)), (eK (.int 1)), (eK (.int 7))]) (eCall f_law_taken [eIo, (eK (.int 4))]))), (sRet (eBin .Add (eBin .Add (eSl (eV 2) none (some (eV 7))) (eBin .Mult (eLst [(eV 6)]) (eV 8))) (eSl (eV 2) (some (eV 7)) none)))]
def F_law_spoilt_tie : Fn := m_law_spoilt_tie F_law_taken
def m_law_moved : Fn := mFn false 2 3
  [(sRet (eB1 tupD (eLc [2] (tg1 2) (iP (eV 0)) tTrue (eIx (eV 1) (eV 2)))))]
def F_law_moved : Fn := m_law_moved 
def m_law_turned : Fn := mFn false 2 4
  [(sSetO 2 (eLst [])), (sFor (tg1 3) (iA rng1 [(eB1 lenD (eV 1))]) [(sMut appF 2 [(eTup [(eBin .Sub (eBin .Mult (eK (.int 2)) (eB1 lenD (eIx (eIx (eV 0) (eV 3)) (eK (.int 1))))) (eIx (eIx (eV 1) (eV 3)) (eK (.int 0)))), (eBin .Sub (eK (.int 0)) (eIx (eIx (eV 1) (eV 3)) (eK (.int 1))))])])]), (sRet (eB1 tupD (eO 2)))]
def F_law_turned : Fn := m_law_turned 
end TH

set_option Elab.async false
set_option linter.all false
set_option maxRecDepth 100000
set_option maxHeartbeats 4000000
/-! SP: what the defs compute, in plain words: spots, rooms, ties. -/
namespace TH
open PySem PySem.Spec PyProof.Rows L2
abbrev Spot := Int × Int
abbrev Room := List Spot
def spotD (s : Spot) : D := .tup [.int s.1, .int s.2]
def roomD (r : Room) : D := .tup (r.map spotD)
def intsL (l : List Int) : List D := l.map .int
structure Th where
  nm : Str
  ms : List Int
def thD (t : Th) : D := .tup [.str t.nm, .tup (intsL t.ms)]
inductive Tie where
  | wi (a b : Nat) | ag (a b : Nat) | su (a b c : Nat) | pr (a b c : Nat) | ra (a b k : Nat) | un (a k : Nat) | ov (a k : Nat)
def tieD : Tie → D
  | .wi a b => .tup [.str "with", .int a, .int b]
  | .ag a b => .tup [.str "against", .int a, .int b]
  | .su a b c => .tup [.str "sum", .int a, .int b, .int c]
  | .pr a b c => .tup [.str "product", .int a, .int b, .int c]
  | .ra a b k => .tup [.str "rate", .int a, .int b, .int k]
  | .un a k => .tup [.str "under", .int a, .int k]
  | .ov a k => .tup [.str "over", .int a, .int k]
/-- a tie of n things, mk their marks -/
def tieOk (ts : List Th) : Tie → Prop
  | .wi a b => a < ts.length ∧ b < ts.length ∧ a ≠ b
  | .ag a b => a < ts.length ∧ b < ts.length ∧ a ≠ b
  | .su a b c => a < ts.length ∧ b < ts.length ∧ c < ts.length ∧ a ≠ b ∧ a ≠ c
  | .pr a b c => a < ts.length ∧ b < ts.length ∧ c < ts.length ∧ a ≠ b ∧ a ≠ c
  | .ra a b k => a < ts.length ∧ ∃ t, ts[b]? = some t ∧ k < t.ms.length
  | .un a k => ∃ t, ts[a]? = some t ∧ k < t.ms.length
  | .ov a k => ∃ t, ts[a]? = some t ∧ k < t.ms.length
def gap2 : List Int → Prop
  | a :: b :: r => a + 2 ≤ b ∧ gap2 (b :: r)
  | _ => True
def marksOk (mk : List Int) : Prop := 1 ≤ mk.length ∧ mk.length ≤ 3 ∧ (∀ m ∈ mk, -99 ≤ m ∧ m ≤ 99) ∧ gap2 mk
def nameOk (n : Str) : Prop := 1 ≤ n.length ∧ n.length ≤ 8 ∧ ∀ c ∈ n.cps.toList, 97 ≤ c ∧ c ≤ 122
structure thingsOk (ts : List Th) : Prop where
  lo : 1 ≤ ts.length
  hi : ts.length ≤ 3
  mks : ∀ t ∈ ts, marksOk t.ms
  nm : ∀ t ∈ ts, nameOk t.nm
  nd : ∀ (i j : Nat) (ti tj : Th), ts[i]? = some ti → ts[j]? = some tj → ti.nm = tj.nm → i = j
structure tiesOk (ts : List Th) (ks : List Tie) : Prop where
  hi : ks.length ≤ 6
  ok : ∀ k ∈ ks, tieOk ts k
def houD (ts : List Th) (ks : List Tie) : D := .hou (ts.map thD) (ks.map tieD)
def RowOk (r : Row) : Prop := ∃ (ns : List Int) (i h : Int), r = some [.scr ns, .int i, .int h] ∧ 0 ≤ i

def spotsS (k : Nat) : List Spot := (List.range (2 * k + 1)).flatMap fun (p : Nat) => if p % 2 = 0 then [((p : Int), -1), ((p : Int), 0), ((p : Int), 1)] else [((p : Int), 0)]
def roomsFrom : List (List Spot) → List Room → List Room
  | [], acc => acc
  | s :: ss, acc => roomsFrom ss (acc.flatMap fun one => s.map fun x => one ++ [x])
def roomsS (ts : List Th) : List Room := roomsFrom (ts.map fun t => spotsS t.ms.length) [[]]
def roomOkB (ts : List Th) (r : Room) : Bool := decide (r.length = ts.length) && (r.zip ts).all fun x => decide (x.1 ∈ spotsS x.2.ms.length)
def trS (r : Room) (a : Nat) : Int := (r.getD a (0, 0)).2
def plS (r : Room) (a : Nat) : Int := (r.getD a (0, 0)).1
def sideS (p : Int) (k : Nat) : Int := (if p - (2 * (k : Int) + 1) > 0 then 1 else 0) - (if p - (2 * (k : Int) + 1) < 0 then 1 else 0)
def sumS (one other whole : Int) : Bool := if one = 0 - other then (decide (one ≠ 0) || decide (whole = 0)) else decide (whole = if one ≠ 0 then one else other)
def keepsS (r : Room) : Tie → Bool
  | .wi a b => decide (trS r a = trS r b)
  | .ag a b => decide (trS r a = 0 - trS r b)
  | .su a b c => sumS (trS r b) (trS r c) (trS r a)
  | .pr a b c => decide (trS r a = trS r b * trS r c)
  | .ra a b k => decide (trS r a = sideS (plS r b) k)
  | .un a k => decide (sideS (plS r a) k ≤ 0)
  | .ov a k => decide (sideS (plS r a) k ≥ 0)
def firstS (ks : List Tie) (r : Room) : Option Nat := (List.range ks.length).find? fun i => !(keepsS r (ks.getD i (.wi 0 0)))
def optD : Option Nat → D
  | none => .non
  | some n => .int (n : Int)
def keptS (ts : List Th) (ks : List Tie) : List Room := (roomsS ts).filter fun r => (firstS ks r).isNone
/-- the things of a tie are among n ones -/
def tieIn (n : Nat) : Tie → Prop
  | .wi a b => a < n ∧ b < n
  | .ag a b => a < n ∧ b < n
  | .su a b c => a < n ∧ b < n ∧ c < n
  | .pr a b c => a < n ∧ b < n ∧ c < n
  | .ra a b _ => a < n ∧ b < n
  | .un a _ => a < n
  | .ov a _ => a < n
def TrIn (r : Room) : Prop := ∀ s ∈ r, s.2 = -1 ∨ s.2 = 0 ∨ s.2 = 1
theorem tieOk_in {ts : List Th} {k : Tie} (h : tieOk ts k) : tieIn ts.length k := by
  cases k with
  | wi a b => exact ⟨h.1, h.2.1⟩
  | ag a b => exact ⟨h.1, h.2.1⟩
  | su a b c => exact ⟨h.1, h.2.1, h.2.2.1⟩
  | pr a b c => exact ⟨h.1, h.2.1, h.2.2.1⟩
  | ra a b k =>
    obtain ⟨h1, t, h2, _⟩ := h
    exact ⟨h1, (List.getElem?_eq_some_iff.mp h2).1⟩
  | un a k =>
    obtain ⟨t, h2, _⟩ := h
    exact (List.getElem?_eq_some_iff.mp h2).1
  | ov a k =>
    obtain ⟨t, h2, _⟩ := h
    exact (List.getElem?_eq_some_iff.mp h2).1
theorem spots_tr {s : Spot} {k : Nat} (h : s ∈ spotsS k) : s.2 = -1 ∨ s.2 = 0 ∨ s.2 = 1 := by
  unfold spotsS at h
  rw [List.mem_flatMap] at h
  obtain ⟨p, _, h⟩ := h
  split at h
  · simp at h
    rcases h with h | h | h <;> subst h <;> simp
  · simp at h
    subst h; simp
theorem roomOk_len {ts : List Th} {r : Room} (h : roomOkB ts r = true) : r.length = ts.length := by
  unfold roomOkB at h
  rw [Bool.and_eq_true] at h
  exact of_decide_eq_true h.1
theorem roomOk_mem {ts : List Th} {r : Room} (h : roomOkB ts r = true) {i : Nat} {s : Spot} {t : Th} (h1 : r[i]? = some s) (h2 : ts[i]? = some t) : s ∈ spotsS t.ms.length := by
  unfold roomOkB at h
  rw [Bool.and_eq_true, List.all_eq_true] at h
  have hm : (s, t) ∈ r.zip ts := by
    apply List.mem_of_getElem? (i := i)
    rw [List.getElem?_zip_eq_some]
    exact ⟨h1, h2⟩
  exact of_decide_eq_true (h.2 _ hm)
theorem roomOk_tr {ts : List Th} {r : Room} (h : roomOkB ts r = true) : TrIn r := by
  intro s hs
  obtain ⟨i, hi, e⟩ := List.getElem_of_mem hs
  have hl := roomOk_len h
  have h1 : r[i]? = some s := by rw [List.getElem?_eq_getElem hi, e]
  have h2 : ts[i]? = some ts[i] := List.getElem?_eq_getElem (by omega)
  exact spots_tr (roomOk_mem h h1 h2)
def msIn (ts : List Th) : Prop := ∀ t ∈ ts, 1 ≤ t.ms.length ∧ t.ms.length ≤ 3
theorem msOf {ts : List Th} (h : thingsOk ts) : msIn ts := fun t ht => ⟨(h.mks t ht).1, (h.mks t ht).2.1⟩
end TH

set_option Elab.async false
set_option linter.all false
set_option maxRecDepth 100000
set_option maxHeartbeats 4000000
/-! SML: the combinators step by step; nothing behind a step that is not known is touched. -/
namespace TH
open PySem PySem.Spec PyProof.Rows L2
/-- simp goes not into what hangs on x -/
@[reducible] def Tg {A : Type} (_ : A) (T : Type) : Type := T
section
variable {α β : Type}
def bnd (x : Out α) (f : α → Row → Out β) (_ : Tg f Unit := ()) : Out β := Out.bind x f
def lft (S : Env) (x : Out α) (f : α → Row → SO) (_ : Tg f Unit := ()) : SO := liftS S x f
def selD (b : Bool) (x y : Unit → α) (_ : Tg x Unit := ()) (_ : Tg y Unit := ()) : α := sel b x y
theorem bind_ok (a : α) (r : Row) (f : α → Row → Out β) : bnd (.ok a r) f = f a r := rfl
theorem bind_ex (a : DX) (r : Row) (f : α → Row → Out β) : bnd (.ex a r) f = .ex a r := rfl
theorem bind_no (f : α → Row → Out β) : bnd .no f = .no := rfl
theorem lift_ok (S : Env) (a : α) (r : Row) (f : α → Row → SO) : lft S (.ok a r) f = f a r := rfl
theorem lift_ex (S : Env) (a : DX) (r : Row) (f : α → Row → SO) : lft S (.ex a r) f = .ex a S r := rfl
theorem lift_no (S : Env) (f : α → Row → SO) : lft S .no f = .no := rfl
theorem sel_t (x y : Unit → α) : selD true x y = x () := rfl
theorem sel_f (x y : Unit → α) : selD false x y = y () := rfl
end
def nxD (x : SO) (k : Env → Row → SO) (_ : Tg k Unit := ()) : SO := nxS x k
def tAndD (b : Bool) (r : Row) (k : Unit → Out Bool) (_ : Tg k Unit := ()) : Out Bool := tAnd1 b r k
def tOrD (b : Bool) (r : Row) (k : Unit → Out Bool) (_ : Tg k Unit := ()) : Out Bool := tOr1 b r k
def eAndD (b : Option Bool) (r : Row) (k : Unit → Out Rv) (_ : Tg k Unit := ()) : Out Rv := eAnd1 b r k
def eOrD (b : Option Bool) (r : Row) (k : Unit → Out Rv) (_ : Tg k Unit := ()) : Out Rv := eOr1 b r k
def cmpMD (op : CmpOp) (x y : Option D) (r : Row) (k : D → Out Bool) (_ : Tg k Unit := ()) : Out Bool := cmpM op x y r k
def forW (b : D → Env → Option Env) (f : Env → Row → SO) (ds : List D) (S : Env) (r : Row) (_ : Tg b Unit := ()) (_ : Tg f Unit := ()) : SO := forD b f ds S r
def lcW (b : D → Option Env) (t : Env → Row → Out Bool) (e : Env → Row → Out Rv) (ds acc : List D) (n : Bool) (r : Row) (_ : Tg b Unit := ()) (_ : Tg t Unit := ()) (_ : Tg e Unit := ()) : Out Rv := lcGo b t e ds acc n r
theorem nxS_nx (S : Env) (r : Row) (k : Env → Row → SO) : nxD (.nx S r) k = k S r := rfl
theorem nxS_rt (d : D) (r : Row) (k : Env → Row → SO) : nxD (.rt d r) k = .rt d r := rfl
theorem nxS_bk (S : Env) (r : Row) (k : Env → Row → SO) : nxD (.bk S r) k = .bk S r := rfl
theorem nxS_ct (S : Env) (r : Row) (k : Env → Row → SO) : nxD (.ct S r) k = .ct S r := rfl
theorem nxS_ex (x : DX) (S : Env) (r : Row) (k : Env → Row → SO) : nxD (.ex x S r) k = .ex x S r := rfl
theorem nxS_no (k : Env → Row → SO) : nxD .no k = .no := rfl
theorem tAnd1_t (r : Row) (k : Unit → Out Bool) : tAndD true r k = k () := rfl
theorem tAnd1_f (r : Row) (k : Unit → Out Bool) : tAndD false r k = .ok false r := rfl
theorem tOr1_t (r : Row) (k : Unit → Out Bool) : tOrD true r k = .ok true r := rfl
theorem tOr1_f (r : Row) (k : Unit → Out Bool) : tOrD false r k = k () := rfl
theorem eAnd1_t (r : Row) (k : Unit → Out Rv) : eAndD (some true) r k = k () := rfl
theorem eAnd1_f (r : Row) (k : Unit → Out Rv) : eAndD (some false) r k = .ok (.v true (.bl false)) r := rfl
theorem eOr1_t (r : Row) (k : Unit → Out Rv) : eOrD (some true) r k = .ok (.v true (.bl true)) r := rfl
theorem eOr1_f (r : Row) (k : Unit → Out Rv) : eOrD (some false) r k = k () := rfl
theorem tAnd_one (e : MB) (S : Env) (r : Row) : tAnd [e] S r = e S r := rfl
theorem tAnd_cons (e e' : MB) (es : List MB) (S : Env) (r : Row) : tAnd (e :: e' :: es) S r = bnd (e S r) fun b r => tAndD b r fun _ => tAnd (e' :: es) S r := rfl
theorem tOr_one (e : MB) (S : Env) (r : Row) : tOr [e] S r = e S r := rfl
theorem tOr_cons (e e' : MB) (es : List MB) (S : Env) (r : Row) : tOr (e :: e' :: es) S r = bnd (e S r) fun b r => tOrD b r fun _ => tOr (e' :: es) S r := rfl
theorem eAnd_one (e : ME) (S : Env) (r : Row) : eAnd [e] S r = e S r := rfl
theorem eAnd_cons (e e' : ME) (es : List ME) (S : Env) (r : Row) : eAnd (e :: e' :: es) S r = bnd (e S r) fun v r => eAndD (isB v) r fun _ => eAnd (e' :: es) S r := rfl
theorem eOr_one (e : ME) (S : Env) (r : Row) : eOr [e] S r = e S r := rfl
theorem eOr_cons (e e' : ME) (es : List ME) (S : Env) (r : Row) : eOr (e :: e' :: es) S r = bnd (e S r) fun v r => eOrD (isB v) r fun _ => eOr (e' :: es) S r := rfl
/-! expressions -/
theorem eK_r (d : D) (S : Env) (r : Row) : eK d S r = .ok (.v true d) r := rfl
theorem eG_r (d : D) (S : Env) (r : Row) : eG d S r = .ok (.v false d) r := rfl
theorem eV_r (i : Nat) (S : Env) (r : Row) : eV i S r = getV i S r := rfl
theorem eO_r (i : Nat) (S : Env) (r : Row) : eO i S r = getO i S r := rfl
theorem getV_0 (d : D) (S : Env) (r : Row) : getV 0 (some d :: S) r = .ok (.v false d) r := rfl
theorem getV_s (i : Nat) (o : Option D) (S : Env) (r : Row) : getV (i + 1) (o :: S) r = getV i S r := rfl
/-- the place i of the frame -/
def cell (S : Env) (i : Nat) : Option D := (S[i]?).getD none
theorem cell_0 (o : Option D) (S : Env) : cell (o :: S) 0 = o := rfl
theorem cell_s (o : Option D) (S : Env) (i : Nat) : cell (o :: S) (i + 1) = cell S i := rfl
def ownR (i : Nat) (o : Option D) (r : Row) : Out Rv := match o with
  | some _ => .ok (.p i) r
  | none => .no
theorem getO_c (i : Nat) (S : Env) (r : Row) : getO i S r = ownR i (cell S i) r := by
  unfold getO cell
  cases S[i]? with
  | none => rfl
  | some o => cases o <;> rfl
theorem ownR_s (i : Nat) (d : D) (r : Row) : ownR i (some d) r = .ok (.p i) r := rfl
theorem eIo_r (S : Env) (x : List D) : eIo S (some x) = .ok .io (some x) := rfl
theorem eBin_r (op : Operator) (a b : ME) (S : Env) (r : Row) : eBin op a b S r = bnd (a S r) fun x r => bnd (b S r) fun y r => bin2 op (rd S x) (rd S y) r := rfl
theorem bin2_r (op : Operator) (x y : D) (r : Row) : bin2 op (some x) (some y) r = ret (x.elf && y.elf) (binD op x y) r := rfl
theorem ret_s (nw : Bool) (d : D) (r : Row) : ret nw (some d) r = .ok (.v nw d) r := rfl
theorem retB_s (b : Bool) (r : Row) : retB (some b) r = .ok (.v true (.bl b)) r := rfl
theorem rd_v (S : Env) (b : Bool) (d : D) : rd S (.v b d) = some d := rfl
theorem rd_p (S : Env) (i : Nat) : rd S (.p i) = cell S i := rfl
theorem rdR_v (S : Env) (r : Row) (b : Bool) (d : D) : rdR S r (.v b d) = some d := rfl
theorem rdR_p (S : Env) (r : Row) (i : Nat) : rdR S r (.p i) = cell S i := rfl
theorem rdR_io (S : Env) (x : List D) : rdR S (some x) .io = some (.lst x) := rfl
theorem rds_nil (S : Env) : rds S [] = some [] := rfl

theorem rds_v (S : Env) (b : Bool) (d : D) (vs : List Rv) : rds S (.v b d :: vs) = (rds S vs).map (d :: ·) := rfl
theorem rds_p (S : Env) (i : Nat) (vs : List Rv) : rds S (.p i :: vs) = Option.bind (cell S i) fun d => (rds S vs).map (d :: ·) := rfl
theorem obind_s {α β : Type} (x : α) (f : α → Option β) : (some x).bind f = f x := rfl
theorem omap_s {α β : Type} (x : α) (f : α → β) : (some x).map f = some (f x) := rfl
theorem eNeg_r (a : ME) (S : Env) (r : Row) : eNeg a S r = bnd (a S r) neg1 := rfl
theorem neg1_r (b : Bool) (i : Int) (r : Row) : neg1 (.v b (.int i)) r = .ok (.v true (.int (-i))) r := rfl
theorem eNot_r (a : ME) (S : Env) (r : Row) : eNot a S r = bnd (a S r) not1 := rfl
theorem not1_r (b x : Bool) (r : Row) : not1 (.v b (.bl x)) r = .ok (.v true (.bl (!x))) r := rfl
theorem eT_r (t : MB) (S : Env) (r : Row) : eT t S r = bnd (t S r) fun b r => .ok (.v true (.bl b)) r := rfl
theorem tCmp_r (op : CmpOp) (a b : ME) (S : Env) (r : Row) : tCmp op a b S r = bnd (a S r) fun x r => bnd (b S r) fun y r => cmpR op (rd S x) (rd S y) r := rfl
def okB (k : Option Bool) (r : Row) : Out Bool := match k with
  | some k => .ok k r
  | none => .no
theorem okB_s (k : Bool) (r : Row) : okB (some k) r = .ok k r := rfl
theorem cmpR_r (op : CmpOp) (x y : D) (r : Row) : cmpR op (some x) (some y) r = okB (cmpD op x y) r := rfl
theorem tCmp2_r (op op' : CmpOp) (a b d : ME) (S : Env) (r : Row) : tCmp2 op op' a b d S r = bnd (a S r) fun x r => bnd (b S r) fun y r => cmpMD op (rd S x) (rd S y) r fun y => bnd (d S r) fun z r => cmpL op' y (rd S z) r := rfl
theorem cmpL_r (op : CmpOp) (y z : D) (r : Row) : cmpL op y (some z) r = okB (ordD op y z) r := rfl
def cmpK (b : Option Bool) (r : Row) (y : D) (k : D → Out Bool) (_ : Tg k Unit := ()) : Out Bool := match b with
  | some true => k y
  | some false => .ok false r
  | none => .no
theorem cmpM_r (op : CmpOp) (x y : D) (r : Row) (k : D → Out Bool) : cmpMD op (some x) (some y) r k = cmpK (ordD op x y) r y k := rfl
theorem cmpK_s (b : Bool) (r : Row) (y : D) (k : D → Out Bool) : cmpK (some b) r y k = selD b (fun _ => k y) (fun _ => .ok false r) := by cases b <;> rfl
theorem tX_r (e : ME) (S : Env) (r : Row) : tX e S r = bnd (e S r) tst1 := rfl
theorem tst1_r (b x : Bool) (r : Row) : tst1 (.v b (.bl x)) r = .ok x r := rfl
theorem tNot_r (t : MB) (S : Env) (r : Row) : tNot t S r = bnd (t S r) fun b r => .ok (!b) r := rfl
theorem isB_r (b x : Bool) : isB (.v b (.bl x)) = some x := rfl
theorem eIf_r (t : MB) (a b : ME) (S : Env) (r : Row) : eIf t a b S r = bnd (t S r) fun k r => selD k (fun _ => a S r) (fun _ => b S r) := rfl
theorem prt_r (b : Bool) (i : Int) (r : Row) : prt (.v b (.int i)) r = .ok (some i) r := rfl
theorem eP_n (S : Env) (r : Row) : eP none S r = .ok none r := rfl
theorem eP_s (e : ME) (S : Env) (r : Row) : eP (some e) S r = bnd (e S r) prt := rfl
theorem eSl_r (a : ME) (lo hi : Option ME) (S : Env) (r : Row) : eSl a lo hi S r = bnd (a S r) fun x r => bnd (eP lo S r) fun l r => bnd (eP hi S r) fun h r => sli (rd S x) l h r := rfl
theorem sli_r (x : D) (l h : Option Int) (r : Row) : sli (some x) l h r = ret x.elf (slD x l h) r := rfl
theorem eIx_r (a i : ME) (S : Env) (r : Row) : eIx a i S r = bnd (a S r) fun x r => bnd (i S r) fun y r => idx2 (rdR S r x) (rd S y) r := rfl
theorem idx2_r (x y : D) (r : Row) : idx2 (some x) (some y) r = ret (x.elf && y.elf) (ixD x y) r := rfl
theorem eThings_r (a : ME) (S : Env) (r : Row) : eThings a S r = bnd (a S r) thg := rfl
theorem eTies_r (a : ME) (S : Env) (r : Row) : eTies a S r = bnd (a S r) tis := rfl
theorem thg_h (b : Bool) (ts ks : List D) (r : Row) : thg (.v b (.hou ts ks)) r = .ok (.v false (.lst ts)) r := rfl
theorem thg_1 (b : Bool) (ts : List D) (r : Row) : thg (.v b (.hou1 ts)) r = .ok (.v false (.lst ts)) r := rfl
theorem tis_h (b : Bool) (ts ks : List D) (r : Row) : tis (.v b (.hou ts ks)) r = .ok (.v false (.lst ks)) r := rfl
theorem eS_n (S : Env) (r : Row) : eS [] S r = .ok [] r := rfl
theorem eS_c (e : ME) (es : List ME) (S : Env) (r : Row) : eS (e :: es) S r = bnd (e S r) fun v r => bnd (eS es S r) fun vs r => .ok (v :: vs) r := rfl
theorem eTup_r (es : List ME) (S : Env) (r : Row) : eTup es S r = bnd (eS es S r) fun vs r => tup1 vs (rds S vs) (sz es.length) r := rfl
theorem eLst_r (es : List ME) (S : Env) (r : Row) : eLst es S r = bnd (eS es S r) fun vs r => lst1 vs (rds S vs) (sz es.length) r := rfl
def allNw : List Rv → Bool
  | [] => true
  | v :: vs => isNw v && allNw vs
theorem allNw_eq (vs : List Rv) : vs.all isNw = allNw vs := by
  induction vs with
  | nil => rfl
  | cons v vs ih => rw [List.all_cons, ih]; rfl
theorem allV_eq (vs : List Rv) : vs.all isRv = allV vs := by
  induction vs with
  | nil => rfl
  | cons v vs ih =>
    rw [List.all_cons, ih]
    cases v <;> rfl
theorem tup1_r (vs : List Rv) (ds : List D) (r : Row) (h : allV vs = true) : tup1 vs (some ds) true r = .ok (.v (allNw vs) (.tup ds)) r := by
  unfold tup1
  simp only [allV_eq, h, allNw_eq]
theorem lst1_r (vs : List Rv) (ds : List D) (r : Row) (h : allV vs = true) : lst1 vs (some ds) true r = .ok (.v (allNw vs) (.lst ds)) r := by
  unfold lst1
  simp only [allV_eq, h, allNw_eq]
theorem allV_n : allV [] = true := rfl
theorem allV_c (b : Bool) (d : D) (vs : List Rv) : allV (.v b d :: vs) = allV vs := rfl
theorem allNw_n : allNw [] = true := rfl
theorem allNw_c (b : Bool) (d : D) (vs : List Rv) : allNw (.v b d :: vs) = ((b || d.lf) && allNw vs) := rfl
/-! calls -/
theorem eCall_r (fn : Fn) (es : List ME) (S : Env) (r : Row) : eCall fn es S r = bnd (eS es S r) fun vs r => callFn fn S vs r := rfl
def callR (x : Out D) (r : Row) : Out Rv := match x with
  | .ok d _ => .ok (.v true d) r
  | .ex x _ => .ex x r
  | .no => .no
theorem callR_ok (d : D) (r r' : Row) : callR (.ok d r') r = .ok (.v true d) r := rfl
theorem callR_ex (x : DX) (r r' : Row) : callR (.ex x r') r = .ex x r := rfl
def call0 (fn : Fn) (ds : Option (List D)) (r : Row) : Out Rv := match ds with
  | some ds => callR (fn.run ds none) r
  | none => .no
theorem call0_s (fn : Fn) (ds : List D) (r : Row) : call0 fn (some ds) r = callR (fn.run ds none) r := rfl
theorem callFn_f {fn : Fn} (h : fn.io = false) (S : Env) (vs : List Rv) (r : Row) : callFn fn S vs r = call0 fn (rds S vs) r := by
  unfold callFn
  rw [h]
  cases rds S vs with
  | none => rfl
  | some ds =>
    show _ = callR (fn.run ds none) r
    cases e : fn.run ds none <;> simp only [e, callR]
def call1 (fn : Fn) (ds : Option (List D)) (row : List D) : Out Rv := match ds with
  | some ds => (fn.run ds (some row)).bind fun d r => .ok (.v true d) r
  | none => .no
theorem call1_s (fn : Fn) (ds : List D) (row : List D) : call1 fn (some ds) row = bnd (fn.run ds (some row)) fun d r => .ok (.v true d) r := rfl
theorem callFn_t {fn : Fn} (h : fn.io = true) (S : Env) (vs : List Rv) (row : List D) : callFn fn S (.io :: vs) (some row) = call1 fn (rds S vs) row := by
  unfold callFn
  rw [h]
  show (match rds S vs, some row with | some ds, some row => (fn.run ds (some row)).bind fun d r => Out.ok (Rv.v true d) r | _, _ => Out.no) = _
  cases rds S vs <;> rfl
theorem eMk_r (fn : Fn) (es : List ME) (S : Env) (r : Row) : eMk fn es S r = bnd (eS es S r) fun vs r => callMk fn S vs r := rfl
theorem callMk_r (fn : Fn) (S : Env) (vs : List Rv) (r : Row) : callMk fn S vs r = call0 fn (rds S vs) r := by
  unfold callMk
  cases rds S vs with
  | none => rfl
  | some ds =>
    show _ = callR (fn.run ds none) r
    cases e : fn.run ds none <;> simp only [e, callR]
theorem eB1_r (g : D → Option D) (a : ME) (S : Env) (r : Row) : eB1 g a S r = bnd (a S r) fun v r => blR1 g (rds S [v]) r := by
  show Out.bind (Out.bind (a S r) _) _ = _
  cases a S r <;> rfl
theorem eB2_r (g : D → D → Option D) (a b : ME) (S : Env) (r : Row) : eB2 g a b S r = bnd (eS [a, b] S r) fun vs r => blR2 g (rds S vs) r := rfl
theorem blR1_r (g : D → Option D) (d : D) (r : Row) : blR1 g (some [d]) r = ret d.elf (g d) r := rfl
theorem blR2_r (g : D → D → Option D) (x y : D) (r : Row) : blR2 g (some [x, y]) r = ret true (g x y) r := rfl
theorem eIs_r (T : Str) (a : ME) (S : Env) (r : Row) : eIs T a S r = bnd (a S r) fun v r => isi1 T (rd S v) r := rfl
theorem eIs2_r (T U : Str) (a : ME) (S : Env) (r : Row) : eIs2 T U a S r = bnd (a S r) fun v r => isi2 T U (rd S v) r := rfl
theorem eIsX_r (L : List Str) (T : Str) (a : ME) (S : Env) (r : Row) : eIsX L T a S r = bnd (a S r) fun v r => isiX L T v r := rfl
theorem isi1_r (T : Str) (d : D) (r : Row) : isi1 T (some d) r = retB (tyD T d) r := rfl
theorem isiX_r (L : List Str) (T : Str) (b : Bool) (c : Str) (vs : List D) (r : Row) : isiX L T (.v b (.exc c [] vs)) r = retB (isSub L c T) r := rfl
theorem eHouM_r (fn : Fn) (o : ME) (es : List ME) (S : Env) (r : Row) : eHouM fn o es S r = bnd (o S r) fun x r => met0 fn x (eS es S r) S := rfl
theorem met0_h (fn : Fn) (b : Bool) (ts ks : List D) (k : Out (List Rv)) (S : Env) : met0 fn (.v b (.hou ts ks)) k S = bnd k fun vs r => met1 fn (.hou ts ks) (rds S vs) r := rfl
theorem met0_1 (fn : Fn) (b : Bool) (ts : List D) (k : Out (List Rv)) (S : Env) : met0 fn (.v b (.hou1 ts)) k S = bnd k fun vs r => met1 fn (.hou1 ts) (rds S vs) r := rfl
def metR (x : Out D) (r : Row) : Out Rv := match x with
  | .ok d _ => .ok (.v true d) r
  | _ => .no
theorem metR_ok (d : D) (r r' : Row) : metR (.ok d r') r = .ok (.v true d) r := rfl
theorem met1_s (fn : Fn) (d : D) (ds : List D) (r : Row) : met1 fn d (some ds) r = metR (fn.run (d :: ds) none) r := rfl
theorem eJoin_r (o e : ME) (S : Env) (r : Row) : eJoin o e S r = bnd (o S r) fun x r => joi0 x S (e S r) := rfl
theorem joi0_r (b : Bool) (a : Str) (S : Env) (k : Out Rv) : joi0 (.v b (.str a)) S k = bnd k fun y r => joi1 a (rd S y) r := rfl
theorem joi1_r (a : Str) (y : D) (r : Row) : joi1 a (some y) r = ret true (joinD (.str a) y) r := rfl
/-! iterables -/
theorem iA_r (g : List Rv → Option (List D)) (es : List ME) (S : Env) (r : Row) : iA g es S r = bnd (eS es S r) fun vs r => itG g vs r := rfl
def itO (x : Option (List D)) (r : Row) : Out (List D × Option Nat) := match x with
  | some ds => .ok (ds, none) r
  | none => .no
theorem itO_s (ds : List D) (r : Row) : itO (some ds) r = .ok (ds, none) r := rfl
theorem itG_r (g : List Rv → Option (List D)) (vs : List Rv) (r : Row) : itG g vs r = itO (g vs) r := rfl
theorem iP_r (e : ME) (S : Env) (r : Row) : iP e S r = bnd (e S r) fun v r => itP S v r := rfl
theorem itP_v (S : Env) (b : Bool) (d : D) (r : Row) : itP S (.v b d) r = itO (seqOf d) r := rfl
def itC (i : Nat) (o : Option D) (r : Row) : Out (List D × Option Nat) := match o with
  | some (.lst ds) => .ok (ds, some i) r
  | _ => .no
theorem itC_s (i : Nat) (ds : List D) (r : Row) : itC i (some (.lst ds)) r = .ok (ds, some i) r := rfl
theorem itP_p (S : Env) (i : Nat) (r : Row) : itP S (.p i) r = itC i (cell S i) r := by
  unfold cell
  show (match S[i]? with | some (some (.lst ds)) => Out.ok (ds, some i) r | _ => Out.no) = _
  cases S[i]? with
  | none => rfl
  | some o => cases o with
    | none => rfl
    | some d => cases d <;> rfl
theorem rng1_r (b : Bool) (n : Int) : rng1 [.v b (.int n)] = gd (sm62 n) (rng 0 n) := rfl
theorem rng2_r (b b' : Bool) (m n : Int) : rng2 [.v b (.int m), .v b' (.int n)] = gd (sm62 m && sm62 n) (rng m n) := rfl
theorem gd_t {α : Type} (x : α) : gd true x = some x := rfl
theorem zip2_r (b b' : Bool) (x y : D) : zipI2 [.v b x, .v b' y] = Option.bind (seqZ x) fun xs => Option.map (fun ys => zip2 xs ys) (seqZ y) := by
  show (match seqZ x, seqZ y with | some xs, some ys => some (zip2 xs ys) | _, _ => none) = _
  cases seqZ x <;> cases seqZ y <;> rfl
theorem zip3_r (b b' b2 : Bool) (x y z : D) : zipI3 [.v b x, .v b' y, .v b2 z] = Option.bind (seqZ x) fun xs => Option.bind (seqZ y) fun ys => Option.map (fun zs => zip3 xs ys zs) (seqZ z) := by
  show (match seqZ x, seqZ y, seqZ z with | some xs, some ys, some zs => some (zip3 xs ys zs) | _, _, _ => none) = _
  cases seqZ x <;> cases seqZ y <;> cases seqZ z <;> rfl
theorem eLc_r (vs : List Nat) (tg : D → Env → Option Env) (it : MI) (test : MB) (elt : ME) (S : Env) (r : Row) : eLc vs tg it test elt S r = bnd (it S r) fun ds r => lcW (fun d => tg d (unset S vs)) test elt ds.1 [] true r := rfl
theorem tTrue_r (S : Env) (r : Row) : tTrue S r = .ok true r := rfl
theorem tg1_r (i : Nat) (d : D) (S : Env) : tg1 i d S = some (S.set i (some d)) := rfl
theorem tgT_r (is : List Nat) (ds : List D) (S : Env) : tgT is (.tup ds) S = tgM is ds S := rfl
theorem tgM_n (S : Env) : tgM [] [] S = some S := rfl
theorem tgM_c (i : Nat) (is : List Nat) (d : D) (ds : List D) (S : Env) : tgM (i :: is) (d :: ds) S = tgM is ds (S.set i (some d)) := rfl
theorem unset_n (S : Env) : unset S [] = S := rfl
theorem unset_c (S : Env) (i : Nat) (is : List Nat) : unset S (i :: is) = (unset S is).set i none := rfl
theorem set_0 {α : Type} (o p : α) (S : List α) : (o :: S).set 0 p = p :: S := rfl
theorem set_s {α : Type} (o p : α) (S : List α) (i : Nat) : (o :: S).set (i + 1) p = o :: S.set i p := rfl
/-! statements -/
theorem sSeq_n (S : Env) (r : Row) : sSeq [] S r = .nx S r := rfl
theorem sSeq_c (s : MS) (ss : List MS) (S : Env) (r : Row) : sSeq (s :: ss) S r = nxD (s S r) (sSeq ss) := rfl
theorem sPass_r (S : Env) (r : Row) : sPass S r = .nx S r := rfl
theorem sBrk_r (S : Env) (r : Row) : sBrk S r = .bk S r := rfl
theorem sCnt_r (S : Env) (r : Row) : sCnt S r = .ct S r := rfl
theorem sRet0_r (S : Env) (r : Row) : sRet0 S r = .rt .non r := rfl
theorem sRet_r (e : ME) (S : Env) (r : Row) : sRet e S r = lft S (e S r) fun v r => retV v S r := rfl
theorem retV_t (d : D) (S : Env) (r : Row) : retV (.v true d) S r = .rt d r := rfl
theorem retV_f {d : D} (h : d.lf = true) (b : Bool) (S : Env) (r : Row) : retV (.v b d) S r = .rt d r := by
  show (match b || d.lf with | true => SO.rt d r | false => SO.no) = _
  rw [h]
  cases b <;> rfl
def retC (o : Option D) (r : Row) : SO := match o with
  | some d => (match d.elf with
    | true => .rt d r
    | false => .no)
  | none => .no
theorem retC_s {d : D} (h : d.elf = true) (r : Row) : retC (some d) r = .rt d r := by
  unfold retC
  simp only [h]
theorem retV_p (S : Env) (i : Nat) (r : Row) : retV (.p i) S r = retC (cell S i) r := by
  unfold cell
  show (match S[i]? with | some (some d) => (match d.elf with | true => SO.rt d r | false => SO.no) | _ => SO.no) = _
  cases S[i]? with
  | none => rfl
  | some o => cases o <;> rfl
theorem sIf_r (t : MB) (a b : List MS) (S : Env) (r : Row) : sIf t a b S r = lft S (t S r) fun k r => selD k (fun _ => sSeq a S r) (fun _ => sSeq b S r) := rfl
theorem putV_v (i : Nat) (b : Bool) (d : D) (S : Env) (r : Row) : putV i (.v b d) S r = .nx (S.set i (some d)) r := rfl
def putC (j i : Nat) (o : Option D) (S : Env) (r : Row) : SO := match o with
  | some d => .nx ((S.set j none).set i (some d)) r
  | none => .no
theorem putC_s (j i : Nat) (d : D) (S : Env) (r : Row) : putC j i (some d) S r = .nx ((S.set j none).set i (some d)) r := rfl
theorem putV_p (S : Env) (j i : Nat) (r : Row) : putV i (.p j) S r = putC j i (cell S j) S r := by
  unfold cell
  show (match S[j]? with | some (some d) => SO.nx ((S.set j none).set i (some d)) r | _ => SO.no) = _
  cases S[j]? with
  | none => rfl
  | some o => cases o <;> rfl
theorem putO_l {xs : List D} (h : lfs xs = true) (i : Nat) (S : Env) (r : Row) : putO i (.v true (.lst xs)) S r = .nx (S.set i (some (.lst xs))) r := by
  show (match isCon (.lst xs) && (D.lst xs).elf with | true => _ | false => _) = _
  have e : (isCon (.lst xs) && (D.lst xs).elf) = true := h
  rw [e]
theorem putO_d {ks vs : List D} (h : (lfs ks && lfs vs) = true) (i : Nat) (S : Env) (r : Row) : putO i (.v true (.dct ks vs)) S r = .nx (S.set i (some (.dct ks vs))) r := by
  show (match isCon (.dct ks vs) && (D.dct ks vs).elf with | true => _ | false => _) = _
  have e : (isCon (.dct ks vs) && (D.dct ks vs).elf) = true := h
  rw [e]
theorem elf_dct (a b : List D) : (D.dct a b).elf = (lfs a && lfs b) := rfl
theorem putO_p (S : Env) (j i : Nat) (r : Row) : putO i (.p j) S r = putC j i (cell S j) S r := by
  unfold cell
  show (match S[j]? with | some (some d) => SO.nx ((S.set j none).set i (some d)) r | _ => SO.no) = _
  cases S[j]? with
  | none => rfl
  | some o => cases o <;> rfl
theorem sSet_r (i : Nat) (e : ME) (S : Env) (r : Row) : sSet i e S r = lft S (e S r) fun v r => putV i v S r := rfl
theorem sSetO_r (i : Nat) (e : ME) (S : Env) (r : Row) : sSetO i e S r = lft S (e S r) fun v r => putO i v S r := rfl
theorem sSetI_r (i : Nat) (e : ME) (S : Env) (r : Row) : sSetI i e S r = lft S (e S r) fun v r => putI i v S r := rfl
theorem putI_r {xs : List D} (h : lfs xs = true) (i : Nat) (S : Env) (h2 : (S[i]?).isSome = true) : putI i (.v true (.lst xs)) S none = .nx S (some xs) := by
  unfold putI
  cases e : S[i]? with
  | none => rw [e] at h2; cases h2
  | some o => simp only [h]
theorem sSubI_r (i e : ME) (S : Env) (r : Row) : sSubI i e S r = lft S (e S r) fun v r => subI0 r fun ds0 => lft S (i S (some ds0)) fun y r => subI v y S r := rfl
theorem subI0_s (x : List D) (k : List D → SO) : subI0 (some x) k = k x := rfl
def subC (o : Option Nat) (d : D) (S : Env) (ds : List D) : SO := match o with
  | some j => .nx S (some (ds.set j d))
  | none => .no
theorem subC_s (j : Nat) (d : D) (S : Env) (ds : List D) : subC (some j) d S ds = .nx S (some (ds.set j d)) := rfl
theorem subI_r {d : D} (h : d.lf = true) (ds : List D) (z : Int) (b b' : Bool) (S : Env) : subI (.v b d) (.v b' (.int z)) S (some ds) = subC (ixN ds.length z) d S ds := by
  show (match ixN ds.length z, d.lf with | some j, true => SO.nx S (some (ds.set j d)) | _, _ => SO.no) = _
  rw [h]
  cases ixN ds.length z <;> rfl
def subX (k : Nat) (ks vs : List D) (v y : Rv) (S : Env) (r : Row) : SO := match v, y with
  | .v _ d, .v _ key => (match storeD ks vs key d with
    | some p => .nx (S.set k (some (.dct p.1 p.2))) r
    | none => .no)
  | _, _ => .no
def subZ (k : Nat) (o : Option (List D × List D)) (S : Env) (r : Row) : SO := match o with
  | some p => .nx (S.set k (some (.dct p.1 p.2))) r
  | none => .no
theorem subZ_s (k : Nat) (ks vs : List D) (S : Env) (r : Row) : subZ k (some (ks, vs)) S r = .nx (S.set k (some (.dct ks vs))) r := rfl
theorem subX_r (k : Nat) (ks vs : List D) (b b' : Bool) (d key : D) (S : Env) (r : Row) : subX k ks vs (.v b d) (.v b' key) S r = subZ k (storeD ks vs key d) S r := by
  show (match storeD ks vs key d with | some p => SO.nx (S.set k (some (.dct p.1 p.2))) r | none => .no) = _
  cases storeD ks vs key d <;> rfl
def subL (k : Nat) (xs : List D) (v y : Rv) (S : Env) (r : Row) : SO := match v, y with
  | .v _ d, .v _ (.int z) => (match ixN xs.length z with
    | some j => .nx (S.set k (some (.lst (xs.set j d)))) r
    | none => .no)
  | _, _ => .no
def subW (k : Nat) (o : Option D) (ee ei : ME) (S : Env) (r : Row) (_ : Tg ee Unit := ()) (_ : Tg ei Unit := ()) : SO := match o with
  | some (.lst xs) => lft S (ee S r) fun v r => lft S (ei S r) fun y r => subL k xs v y S r
  | some (.dct ks vs) => lft S (ee S r) fun v r => lft S (ei S r) fun y r => subX k ks vs v y S r
  | _ => .no
theorem subW_d (k : Nat) (ks vs : List D) (ee ei : ME) (S : Env) (r : Row) : subW k (some (.dct ks vs)) ee ei S r = lft S (ee S r) fun v r => lft S (ei S r) fun y r => subX k ks vs v y S r := rfl
theorem subW_l (k : Nat) (xs : List D) (ee ei : ME) (S : Env) (r : Row) : subW k (some (.lst xs)) ee ei S r = lft S (ee S r) fun v r => lft S (ei S r) fun y r => subL k xs v y S r := rfl
def subY (k : Nat) (o : Option Nat) (xs : List D) (d : D) (S : Env) (r : Row) : SO := match o with
  | some j => .nx (S.set k (some (.lst (xs.set j d)))) r
  | none => .no
theorem subY_s (k j : Nat) (xs : List D) (d : D) (S : Env) (r : Row) : subY k (some j) xs d S r = .nx (S.set k (some (.lst (xs.set j d)))) r := rfl
theorem subL_r (k : Nat) (xs : List D) (b b' : Bool) (d : D) (z : Int) (S : Env) (r : Row) : subL k xs (.v b d) (.v b' (.int z)) S r = subY k (ixN xs.length z) xs d S r := by
  show (match ixN xs.length z with | some j => SO.nx (S.set k (some (.lst (xs.set j d)))) r | none => .no) = _
  cases ixN xs.length z <;> rfl
theorem sSubO_r (k : Nat) (i e : ME) (S : Env) (r : Row) : sSubO k i e S r = subW k (cell S k) e i S r := by
  show subOwn k e i S r = _
  unfold cell subOwn
  cases S[k]? with
  | none => rfl
  | some o => cases o with
    | none => rfl
    | some d => cases d <;> rfl
def getC (o : Option D) (f : List D → SO) (_ : Tg f Unit := ()) : SO := match o with
  | some (.lst xs) => f xs
  | _ => .no
theorem getC_s (xs : List D) (f : List D → SO) : getC (some (.lst xs)) f = f xs := rfl
theorem getL_r (S : Env) (k : Nat) (f : List D → SO) : getL k S f = getC (cell S k) f := by
  unfold cell getL
  cases S[k]? with
  | none => rfl
  | some o => cases o with
    | none => rfl
    | some d => cases d <;> rfl
theorem sUnp_r (is : List Nat) (e : ME) (S : Env) (r : Row) : sUnp is e S r = lft S (e S r) fun v r => unp (tgT is) v S r := rfl
def nxO (o : Option Env) (r : Row) : SO := match o with
  | some S => .nx S r
  | none => .no
theorem nxO_s (S : Env) (r : Row) : nxO (some S) r = .nx S r := rfl
theorem unp_r (tg : D → Env → Option Env) (b : Bool) (d : D) (S : Env) (r : Row) : unp tg (.v b d) S r = nxO (tg d S) r := rfl
theorem sMut_r (g : List D → List D → Option (List D)) (i : Nat) (es : List ME) (S : Env) (r : Row) : sMut g i es S r = getL i S fun xs => lft S (eS es S r) fun vs r => mutR g i xs vs (rds S vs) S r := rfl
def mutC (o : Option (List D)) (i : Nat) (S : Env) (r : Row) : SO := match o with
  | some ys => .nx (S.set i (some (.lst ys))) r
  | none => .no
theorem mutC_s (ys : List D) (i : Nat) (S : Env) (r : Row) : mutC (some ys) i S r = .nx (S.set i (some (.lst ys))) r := rfl
theorem mutR_r (g : List D → List D → Option (List D)) (xs : List D) {vs : List Rv} (ds : List D) (h : allV vs = true) (i : Nat) (S : Env) (r : Row) : mutR g i xs vs (some ds) S r = mutC (g xs ds) i S r := by
  unfold mutR
  rw [h]
  dsimp only
  cases g xs ds <;> rfl
theorem app_r (xs : List D) (d : D) : appF xs [d] = gd (sz xs.length) (xs ++ [d]) := rfl
theorem ext_r (xs ys : List D) : extF xs [.lst ys] = gd (sz (xs.length + ys.length)) (xs ++ ys) := rfl
theorem clr_r (xs : List D) : clrF xs [] = some [] := rfl
theorem rvs_r (xs : List D) : rvsF xs [] = some xs.reverse := rfl
theorem sExp_r (e : ME) (S : Env) (r : Row) : sExp e S r = lft S (e S r) fun _ r => .nx S r := rfl
theorem sFor_r (tg : D → Env → Option Env) (it : MI) (body : List MS) (S : Env) (r : Row) : sFor tg it body S r = lft S (it S r) fun ds r => forW tg (sSeq body) ds.1 (offI S ds.2) r := rfl
theorem offI_n (S : Env) : offI S none = S := rfl
theorem offI_s (S : Env) (i : Nat) : offI S (some i) = S.set i none := rfl
theorem sRaise_r (x : Str) (S : Env) (r : Row) : sRaise x S r = .ex ⟨x, []⟩ S r := rfl
theorem sRaiseF_r (x : Str) (ns : List Str) (es : List ME) (S : Env) (r : Row) : sRaiseF x ns es S r = lft S (eS es S r) fun vs r => raiR x ns vs (rds S vs) S r := rfl
theorem raiR_r {x : Str} {ns : List Str} {vs : List Rv} {ds : List D} (h : allV vs = true) (h2 : (lfs ds && Nat.beq ds.length ns.length) = true) (S : Env) (r : Row) : raiR x ns vs (some ds) S r = .ex ⟨x, ns.zip ds⟩ S r := by
  unfold raiR
  rw [h]
  dsimp only
  rw [h2]
theorem outB_nx (S : Env) (r : Row) : outB (.nx S r) = .ok .non r := rfl
theorem outB_rt (d : D) (r : Row) : outB (.rt d r) = .ok d r := rfl
theorem outB_ex (x : DX) (S : Env) (r : Row) : outB (.ex x S r) = .ex x r := rfl
theorem run_f (np m : Nat) (body : List MS) (args : List D) (r : Row) (h : args.length = np) : (mFn false np m body).run args r = outB (sSeq body (env0 false m args) r) := by
  show (match Nat.beq args.length np with | true => _ | false => _) = _
  rw [h, show Nat.beq np np = true from Nat.beq_refl np]
theorem run_t (np m : Nat) (body : List MS) (args : List D) (r : Row) (h : args.length = np) : (mFn true np m body).run args r = outB (sSeq body (env0 true m args) r) := by
  show (match Nat.beq args.length np with | true => _ | false => _) = _
  rw [h, show Nat.beq np np = true from Nat.beq_refl np]
theorem io_m (io : Bool) (np m : Nat) (body : List MS) : (mFn io np m body).io = io := rfl
/-! data -/
theorem elf_int (i : Int) : (D.int i).elf = true := rfl
theorem elf_bl (i : Bool) : (D.bl i).elf = true := rfl
theorem elf_str (i : Str) : (D.str i).elf = true := rfl
theorem elf_non : (D.non).elf = true := rfl
theorem elf_scr (i : List Int) : (D.scr i).elf = true := rfl
theorem elf_tup (i : List D) : (D.tup i).elf = lfs i := rfl
theorem elf_lst (i : List D) : (D.lst i).elf = lfs i := rfl
theorem elf_tbl (a : List Str) (b : List Int) (c : List Str) : (D.tbl a b c).elf = true := rfl
theorem lf_int (i : Int) : (D.int i).lf = true := rfl
theorem lf_bl (i : Bool) : (D.bl i).lf = true := rfl
theorem lf_str (i : Str) : (D.str i).lf = true := rfl
theorem lf_non : (D.non).lf = true := rfl
theorem lf_scr (i : List Int) : (D.scr i).lf = true := rfl
theorem lf_tup (i : List D) : (D.tup i).lf = lfs i := rfl
theorem lf_lst (i : List D) : (D.lst i).lf = false := rfl
theorem lf_hou (i j : List D) : (D.hou i j).lf = false := rfl
theorem lfs_n : lfs [] = true := rfl
theorem lfs_c (d : D) (ds : List D) : lfs (d :: ds) = (d.lf && lfs ds) := rfl
theorem add_i (a b : Int) : binD .Add (.int a) (.int b) = some (.int (a + b)) := rfl
theorem sub_i (a b : Int) : binD .Sub (.int a) (.int b) = some (.int (a - b)) := rfl
theorem add_t (a b : List D) : binD .Add (.tup a) (.tup b) = gd (sz (a.length + b.length)) (.tup (a ++ b)) := rfl
theorem add_l (a b : List D) : binD .Add (.lst a) (.lst b) = gd (sz (a.length + b.length)) (.lst (a ++ b)) := rfl
theorem add_s (a b : Str) : binD .Add (.str a) (.str b) = gd (sz (a.length + b.length)) (.str (a ++ b)) := rfl
theorem mul_i (a b : Int) : binD .Mult (.int a) (.int b) = gd (small64 a || small64 b) (.int (a * b)) := rfl
theorem mod_i (a b : Int) : binD .Mod (.int a) (.int b) = gd (decide (0 < b)) (.int (a % b)) := rfl
theorem fdv_i (a b : Int) : binD .FloorDiv (.int a) (.int b) = gd (!(decide (b = 0)) && decide (b.natAbs < 1073741824)) (.int (a.fdiv b)) := rfl
theorem len_l (xs : List D) : lenD (.lst xs) = some (.int xs.length) := rfl
theorem len_t (xs : List D) : lenD (.tup xs) = some (.int xs.length) := rfl
theorem len_scr (xs : List Int) : lenD (.scr xs) = some (.int xs.length) := rfl
theorem len_s (z : Str) : lenD (.str z) = gd (sz z.length) (.int z.length) := rfl
theorem int_b (b : Bool) : intD (.bl b) = some (.int (if b then 1 else 0)) := rfl
theorem int_i (i : Int) : intD (.int i) = some (.int i) := rfl
theorem list_l (xs : List D) : listD (.lst xs) = some (.lst xs) := rfl
theorem list_t (xs : List D) : listD (.tup xs) = some (.lst xs) := rfl
theorem tup_l (xs : List D) : tupD (.lst xs) = some (.tup xs) := rfl
theorem ix_l (xs : List D) (i : Int) : ixD (.lst xs) (.int i) = atI xs i := rfl
theorem ix_t (xs : List D) (i : Int) : ixD (.tup xs) (.int i) = atI xs i := rfl
theorem ix_scr (xs : List Int) (i : Int) : ixD (.scr xs) (.int i) = (atI xs i).map .int := rfl
theorem sl_l (xs : List D) (l h : Option Int) : slD (.lst xs) l h = some (.lst (cutG xs l h)) := rfl
theorem sl_t (xs : List D) (l h : Option Int) : slD (.tup xs) l h = some (.tup (cutG xs l h)) := rfl
theorem sl_s (z : Str) (l h : Option Int) : slD (.str z) l h = gd (sz z.length) (.str (cutS z l h)) := rfl
theorem ord_lt (a b : Int) : ordD .Lt (.int a) (.int b) = some (decide (a < b)) := rfl
theorem ord_le (a b : Int) : ordD .LtE (.int a) (.int b) = some (decide (a ≤ b)) := rfl
theorem ord_gt (a b : Int) : ordD .Gt (.int a) (.int b) = some (decide (b < a)) := rfl
theorem ord_ge (a b : Int) : ordD .GtE (.int a) (.int b) = some (decide (b ≤ a)) := rfl
theorem cmp_lt (x y : D) : cmpD .Lt x y = ordD .Lt x y := rfl
theorem cmp_le (x y : D) : cmpD .LtE x y = ordD .LtE x y := rfl
theorem cmp_gt (x y : D) : cmpD .Gt x y = ordD .Gt x y := rfl
theorem cmp_ge (x y : D) : cmpD .GtE x y = ordD .GtE x y := rfl
theorem cmp_eq (x y : D) : cmpD .Eq x y = eqD x y := rfl
theorem cmp_ne (x y : D) : cmpD .NotEq x y = (eqD x y).map not := rfl
theorem cmp_in (x y : D) : cmpD .In x y = inD x y := rfl
theorem cmp_ni (x y : D) : cmpD .NotIn x y = (inD x y).map not := rfl
theorem cmp_is (x : D) : cmpD .Is x .non = some (isNon x) := rfl
theorem cmp_isn (x : D) : cmpD .IsNot x .non = some (!(isNon x)) := rfl
theorem eq_i (a b : Int) : eqD (.int a) (.int b) = some (decide (a = b)) := by
  show some (a == b) = _
  rw [show (a == b) = decide (a = b) from rfl]
theorem eq_s (a b : Str) : eqD (.str a) (.str b) = some (decide (a = b)) := by
  show some (a == b) = _
  rw [show (a == b) = decide (a = b) from rfl]
theorem eq_b (a b : Bool) : eqD (.bl a) (.bl b) = some (decide (a = b)) := by
  show some (a == b) = _
  cases a <;> cases b <;> rfl
/-- of two things without lists, made of ints, texts, None and tuples -/
theorem str_inj {s t : String} (h : (Str.ofString s) = (Str.ofString t)) : s = t := by
  have e := seq_lit s t
  rw [h] at e
  have e2 : seq (Str.ofString t) (Str.ofString t) = true := by unfold seq; rw [natEq_dec]; simp
  rw [e2] at e
  exact (of_decide_eq_true e.symm)
theorem str_eq (s t : String) : ((Str.ofString s) = (Str.ofString t)) = (s = t) := propext ⟨str_inj, fun h => by rw [h]⟩
theorem lfs_map {α : Type} {f : α → D} (h : ∀ x, (f x).lf = true) : ∀ l : List α, lfs (l.map f) = true
  | [] => rfl
  | x :: l => by rw [List.map_cons, lfs_c, h, lfs_map h l]; rfl
theorem lfs_app : ∀ (a b : List D), lfs (a ++ b) = (lfs a && lfs b)
  | [], b => rfl
  | x :: a, b => by rw [List.cons_append, lfs_c, lfs_app a b, lfs_c, Bool.and_assoc]
theorem lfs_intsL (l : List Int) : lfs (intsL l) = true := lfs_map (fun _ => rfl) l
theorem lf_spotD (s : Spot) : (spotD s).lf = true := rfl
theorem lf_roomD (r : Room) : (roomD r).lf = true := lfs_map lf_spotD r
theorem elf_roomD (r : Room) : (roomD r).elf = true := lf_roomD r
theorem lf_thD (t : Th) : (thD t).lf = true := by
  show (true && (lfs (intsL t.ms) && true)) = true
  rw [lfs_intsL]; rfl
theorem lf_tieD (t : Tie) : (tieD t).lf = true := by cases t <;> rfl
theorem sz_t {n : Nat} (h : n ≤ 1000000) : sz n = true := Nat.ble_eq_true_of_le h
theorem sm62_t {i : Int} (h1 : -1000000000 ≤ i) (h2 : i ≤ 1000000000) : sm62 i = true := Nat.ble_eq_true_of_le (by omega)
theorem sm64_t {i : Int} (h1 : -1000000000 ≤ i) (h2 : i ≤ 1000000000) : small64 i = true := Nat.ble_eq_true_of_le (by omega)
theorem atI_0 {α : Type} (x : α) (xs : List α) : atI (x :: xs) 0 = some x := by
  unfold atI ixN
  rw [if_pos (by omega), if_pos (by rw [List.length_cons]; omega)]
  rfl
theorem atI_1 {α : Type} (x y : α) (xs : List α) : atI (x :: y :: xs) 1 = some y := by
  unfold atI ixN
  rw [if_pos (by omega), if_pos (by rw [List.length_cons, List.length_cons]; omega)]
  rfl
theorem atI_2 {α : Type} (x y z : α) (xs : List α) : atI (x :: y :: z :: xs) 2 = some z := by
  unfold atI ixN
  rw [if_pos (by omega), if_pos (by simp only [List.length_cons]; omega)]
  rfl
theorem atI_3 {α : Type} (x y z w : α) (xs : List α) : atI (x :: y :: z :: w :: xs) 3 = some w := by
  unfold atI ixN
  rw [if_pos (by omega), if_pos (by simp only [List.length_cons]; omega)]
  rfl
theorem atI_4 {α : Type} (x y z w u : α) (xs : List α) : atI (x :: y :: z :: w :: u :: xs) 4 = some u := by
  unfold atI ixN
  rw [if_pos (by omega), if_pos (by simp only [List.length_cons]; omega)]
  rfl
theorem atI_m {α : Type} (x : α) (xs : List α) : atI (x :: xs) (-1) = (x :: xs).getLast? := by
  unfold atI ixN
  rw [if_neg (by omega), if_pos (by simp only [List.length_cons]; omega), List.getLast?_eq_getElem?]
  show (x :: xs)[(-1 + ((x :: xs).length : Int)).toNat]? = _
  congr 1
  omega
theorem glast_1 {α : Type} (x : α) : [x].getLast? = some x := rfl
theorem glast_s {α : Type} (x y : α) (xs : List α) : (x :: y :: xs).getLast? = (y :: xs).getLast? := by simp
theorem str_seq (s t : String) : decide ((Str.ofString s) = (Str.ofString t)) = decide (s = t) := by
  by_cases h : s = t
  · subst h; simp
  · have : ¬ (Str.ofString s) = (Str.ofString t) := fun e => h (str_inj e)
    simp [h, this]
theorem sz_0 : sz 0 = true := rfl
theorem sz_1 : sz 1 = true := rfl
theorem sz_2 : sz 2 = true := rfl
theorem sz_3 : sz 3 = true := rfl
theorem sz_4 : sz 4 = true := rfl
theorem sz_5 : sz 5 = true := rfl
theorem sz_6 : sz 6 = true := rfl
theorem sz_7 : sz 7 = true := rfl
theorem sz_8 : sz 8 = true := rfl
theorem sz_9 : sz 9 = true := rfl
theorem sz_10 : sz 10 = true := rfl
theorem sz_11 : sz 11 = true := rfl
theorem sz_12 : sz 12 = true := rfl
theorem sz_15 : sz 15 = true := rfl
theorem seqZ_t (xs : List D) : seqZ (.tup xs) = some xs := rfl
theorem seqZ_l (xs : List D) : seqZ (.lst xs) = some xs := rfl
theorem seqOf_t (xs : List D) : seqOf (.tup xs) = some xs := rfl
theorem seqOf_l (xs : List D) : seqOf (.lst xs) = some xs := rfl
theorem seqOf_s (x : Str) : seqOf (.str x) = some (x.cps.toList.map one1) := rfl
theorem isNon_n : isNon .non = true := rfl
theorem isNon_i (i : Int) : isNon (.int i) = false := rfl
theorem isNon_t (i : List D) : isNon (.tup i) = false := rfl
theorem isNon_l (i : List D) : isNon (.lst i) = false := rfl
theorem isNon_b (i : Bool) : isNon (.bl i) = false := rfl
theorem isNon_s (i : Str) : isNon (.str i) = false := rfl
theorem isCon_l (i : List D) : isCon (.lst i) = true := rfl
theorem ixN_31 : ixN 3 1 = some 1 := rfl
theorem ixN_32 : ixN 3 2 = some 2 := rfl
theorem na7 : decide ((7 : Int).natAbs < 1073741824) = true := rfl
theorem tyD_tup_tuple (x : List D) : tyD "tuple" (.tup x) = some true := by kernel_rfl
theorem tyD_tup_list (x : List D) : tyD "list" (.tup x) = some false := by kernel_rfl
theorem tyD_tup_bool (x : List D) : tyD "bool" (.tup x) = some false := by kernel_rfl
theorem tyD_tup_str (x : List D) : tyD "str" (.tup x) = some false := by kernel_rfl
theorem tyD_tup_int (x : List D) : tyD "int" (.tup x) = some false := by kernel_rfl
theorem tyD_lst_tuple (x : List D) : tyD "tuple" (.lst x) = some false := by kernel_rfl
theorem tyD_lst_list (x : List D) : tyD "list" (.lst x) = some true := by kernel_rfl
theorem tyD_lst_bool (x : List D) : tyD "bool" (.lst x) = some false := by kernel_rfl
theorem tyD_lst_str (x : List D) : tyD "str" (.lst x) = some false := by kernel_rfl
theorem tyD_lst_int (x : List D) : tyD "int" (.lst x) = some false := by kernel_rfl
theorem tyD_int_tuple (x : Int) : tyD "tuple" (.int x) = some false := by kernel_rfl
theorem tyD_int_list (x : Int) : tyD "list" (.int x) = some false := by kernel_rfl
theorem tyD_int_bool (x : Int) : tyD "bool" (.int x) = some false := by kernel_rfl
theorem tyD_int_str (x : Int) : tyD "str" (.int x) = some false := by kernel_rfl
theorem tyD_int_int (x : Int) : tyD "int" (.int x) = some true := by kernel_rfl
theorem tyD_str_tuple (x : Str) : tyD "tuple" (.str x) = some false := by kernel_rfl
theorem tyD_str_list (x : Str) : tyD "list" (.str x) = some false := by kernel_rfl
theorem tyD_str_bool (x : Str) : tyD "bool" (.str x) = some false := by kernel_rfl
theorem tyD_str_str (x : Str) : tyD "str" (.str x) = some true := by kernel_rfl
theorem tyD_str_int (x : Str) : tyD "int" (.str x) = some false := by kernel_rfl
theorem tyD_non_tuple : tyD "tuple" .non = some false := by kernel_rfl
theorem tyD_non_list : tyD "list" .non = some false := by kernel_rfl
theorem tyD_non_bool : tyD "bool" .non = some false := by kernel_rfl
theorem tyD_non_str : tyD "str" .non = some false := by kernel_rfl
theorem tyD_non_int : tyD "int" .non = some false := by kernel_rfl
theorem tyD_bl_tuple (x : Bool) : tyD "tuple" (.bl x) = some false := by kernel_rfl
theorem tyD_bl_list (x : Bool) : tyD "list" (.bl x) = some false := by kernel_rfl
theorem tyD_bl_bool (x : Bool) : tyD "bool" (.bl x) = some true := by kernel_rfl
theorem tyD_bl_str (x : Bool) : tyD "str" (.bl x) = some false := by kernel_rfl
theorem tyD_bl_int (x : Bool) : tyD "int" (.bl x) = some true := by kernel_rfl
theorem isi2_r (T U : Str) (d : D) (r : Row) : isi2 T U (some d) r = (match tyD T d, tyD U d with
    | some b1, some b2 => .ok (.v true (.bl (b1 || b2))) r
    | _, _ => .no) := rfl
def tryND (L : List Str) (T : Str) (i : Nat) (suite : List MS) (x : SO) (_ : Tg suite Unit := ()) : SO := tryN L T i suite x
def try0D (L : List Str) (T : Str) (suite : List MS) (x : SO) (_ : Tg suite Unit := ()) : SO := try0 L T suite x
theorem sTryN_r (L : List Str) (body : List MS) (T : Str) (i : Nat) (suite : List MS) (S : Env) (r : Row) : sTryN L body T i suite S r = tryND L T i suite (sSeq body S r) := rfl
theorem sTry_r (L : List Str) (body : List MS) (T : Str) (suite : List MS) (S : Env) (r : Row) : sTry L body T suite S r = try0D L T suite (sSeq body S r) := rfl
theorem tryN_nx (L : List Str) (T : Str) (i : Nat) (suite : List MS) (S : Env) (r : Row) : tryND L T i suite (.nx S r) = .nx S r := rfl
theorem tryN_rt (L : List Str) (T : Str) (i : Nat) (suite : List MS) (d : D) (r : Row) : tryND L T i suite (.rt d r) = .rt d r := rfl
theorem try0_nx (L : List Str) (T : Str) (suite : List MS) (S : Env) (r : Row) : try0D L T suite (.nx S r) = .nx S r := rfl
theorem try0_rt (L : List Str) (T : Str) (suite : List MS) (d : D) (r : Row) : try0D L T suite (.rt d r) = .rt d r := rfl
theorem tryN_ex {L : List Str} {c T : Str} (h : isSub L c T = some true) (i : Nat) (suite : List MS) (S : Env) (r : Row) : tryND L T i suite (.ex ⟨c, []⟩ S r) = endTry (fun S => S.set i none) (sSeq suite (S.set i (some (.exc c [] []))) r) := by
  show tryN L T i suite (.ex ⟨c, []⟩ S r) = _
  unfold tryN
  simp only [h]
  rfl
theorem try0_ex {L : List Str} {c T : Str} (h : isSub L c T = some true) (suite : List MS) (fs : List (Str × D)) (S : Env) (r : Row) : try0D L T suite (.ex ⟨c, fs⟩ S r) = endTry id (sSeq suite S r) := by
  show try0 L T suite (.ex ⟨c, fs⟩ S r) = _
  unfold try0
  simp only [h]
theorem endTry_rt {d : D} (h : noExc d = true) (f : Env → Env) : endTry f (.rt d none) = .rt d none := by
  unfold endTry
  simp only [h]
  rfl
theorem endTry_nx {f : Env → Env} {S : Env} (h : noExcO (f S) = true) : endTry f (.nx S none) = .nx (f S) none := by
  unfold endTry
  simp only [h]
  rfl
theorem noExc_b (b : Bool) : noExc (.bl b) = true := rfl
theorem noExc_i (b : Int) : noExc (.int b) = true := rfl
theorem noExc_n : noExc .non = true := rfl
theorem noExc_s (b : Str) : noExc (.str b) = true := rfl
end TH

set_option Elab.async false
set_option linter.all false
set_option maxRecDepth 100000
set_option maxHeartbeats 4000000
/-! LO: loops of the combinators as plain lists. -/
namespace TH
open PySem PySem.Spec PyProof.Rows L2
theorem forW_n (b : D → Env → Option Env) (f : Env → Row → SO) (S : Env) (r : Row) : forW b f [] S r = .nx S r := rfl
theorem forW_c {b : D → Env → Option Env} {S S1 : Env} {d : D} (h : b d S = some S1) (f : Env → Row → SO) (ds : List D) (r : Row) : forW b f (d :: ds) S r = (match f S1 r with
      | .nx S r => forW b f ds S r
      | .ct S r => forW b f ds S r
      | .bk S r => .nx S r
      | o => o) := by
  show forD b f (d :: ds) S r = _
  rw [forD, h]
  rfl
/-- goes on, so that P -/
def Nxt (x : SO) (P : Env → Row → Prop) (_ : Tg P Unit := ()) : Prop := ∃ S2 r2, (x = .nx S2 r2 ∨ x = .ct S2 r2) ∧ P S2 r2
theorem nxt_nx {S : Env} {r : Row} {P : Env → Row → Prop} (h : P S r) : Nxt (.nx S r) P := ⟨S, r, .inl rfl, h⟩
theorem nxt_ct {S : Env} {r : Row} {P : Env → Row → Prop} (h : P S r) : Nxt (.ct S r) P := ⟨S, r, .inr rfl, h⟩
/-- comes to f y with P y -/
def Yld {B : Type} (x : Out Rv) (eb : B → D) (P : B → Row → Prop) (_ : Tg P Unit := ()) (_ : Tg eb Unit := ()) : Prop := ∃ y k r2, x = .ok (.v k (eb y)) r2 ∧ (k || (eb y).lf) = true ∧ P y r2
theorem yld_t {B : Type} {eb : B → D} {y : B} {r : Row} {P : B → Row → Prop} (h : P y r) : Yld (.ok (.v true (eb y)) r) eb P := ⟨y, true, r, rfl, rfl, h⟩
theorem yld_k {B : Type} {eb : B → D} {y : B} {k : Bool} {r : Row} {P : B → Row → Prop} (hk : (k || (eb y).lf) = true) (h : P y r) : Yld (.ok (.v k (eb y)) r) eb P := ⟨y, k, r, rfl, hk, h⟩
section
variable {A : Type} {b : D → Env → Option Env} {f : Env → Row → SO} {emb : A → D} {F : SO} {C : Prop}
/-- a loop that goes on to its end -/
theorem for_inv {J : List A → Env → Row → Prop} (h : ∀ a rest S r, J (a :: rest) S r → ∃ S1, b (emb a) S = some S1 ∧ Nxt (f S1 r) (J rest)) : ∀ {items : List A} {S : Env} {r : Row}, J items S r → ∃ S2 r2, forW b f (items.map emb) S r = .nx S2 r2 ∧ J [] S2 r2
  | [], S, r, h0 => ⟨S, r, rfl, h0⟩
  | a :: rest, S, r, h0 => by
    obtain ⟨S1, e1, S2, r2, e2, h1⟩ := h a rest S r h0
    obtain ⟨S3, r3, e3, h3⟩ := for_inv h h1
    refine ⟨S3, r3, ?_, h3⟩
    rw [List.map_cons, forW_c e1]
    rcases e2 with e2 | e2 <;> rw [e2] <;> exact e3
theorem for_inv_e {items : List A} {ds : List D} {S : Env} {r : Row} (J : List A → Env → Row → Prop) (hF : forW b f ds S r = F) (hd : ds = items.map emb) (h0 : J items S r)
    (h : ∀ a rest S r, J (a :: rest) S r → ∃ S1, b (emb a) S = some S1 ∧ Nxt (f S1 r) (J rest)) (k : ∀ S2 r2, F = .nx S2 r2 → J [] S2 r2 → C) : C := by
  obtain ⟨S2, r2, e, h2⟩ := for_inv h h0
  rw [hd, e] at hF
  exact k S2 r2 hF.symm h2
/-- the first one of which p says yes ends it -/
theorem for_find {J : Env → Prop} {r : Row} {p : A → Bool} {res : A → D} : ∀ {items : List A} {S : Env}, J S → (∀ a ∈ items, ∀ S, J S → ∃ S1, b (emb a) S = some S1 ∧ ((p a = true ∧ f S1 r = .rt (res a) r) ∨ (p a = false ∧ ∃ S2, f S1 r = .nx S2 r ∧ J S2))) →
    (∃ S2, items.find? p = none ∧ forW b f (items.map emb) S r = .nx S2 r ∧ J S2) ∨ ∃ a, items.find? p = some a ∧ forW b f (items.map emb) S r = .rt (res a) r
  | [], S, h0, h => .inl ⟨S, rfl, rfl, h0⟩
  | a :: items, S, h0, h => by
    obtain ⟨S1, e1, h1⟩ := h a List.mem_cons_self S h0
    rcases h1 with ⟨hp, h1⟩ | ⟨hp, S2, h1, h2⟩
    · refine .inr ⟨a, List.find?_cons_of_pos hp, ?_⟩
      rw [List.map_cons, forW_c e1, h1]
    · rw [List.map_cons, forW_c e1, h1, List.find?_cons_of_neg (by simp [hp])]
      exact for_find h2 fun c hc => h c (List.mem_cons_of_mem _ hc)
theorem for_find_e {items : List A} {ds : List D} {S : Env} {r : Row} (J : Env → Prop) (p : A → Bool) (res : A → D) (hF : forW b f ds S r = F) (hd : ds = items.map emb) (h0 : J S)
    (h : ∀ a ∈ items, ∀ S, J S → ∃ S1, b (emb a) S = some S1 ∧ ((p a = true ∧ f S1 r = .rt (res a) r) ∨ (p a = false ∧ ∃ S2, f S1 r = .nx S2 r ∧ J S2)))
    (k1 : ∀ S2, items.find? p = none → F = .nx S2 r → J S2 → C) (k2 : ∀ a, items.find? p = some a → F = .rt (res a) r → C) : C := by
  rw [hd] at hF
  rcases for_find h0 h with ⟨S2, e, e2, h2⟩ | ⟨a, e, e2⟩
  · exact k1 S2 e (hF.symm.trans e2) h2
  · exact k2 a e (hF.symm.trans e2)
/-- one of them raises -/
theorem for_raise {J : Env → Prop} {r : Row} {p : A → Bool} {res : A → DX} : ∀ {items : List A} {S : Env}, J S → (∀ a ∈ items, ∀ S, J S → ∃ S1, b (emb a) S = some S1 ∧ ((p a = true ∧ ∃ S2, f S1 r = .ex (res a) S2 r) ∨ (p a = false ∧ ∃ S2, f S1 r = .nx S2 r ∧ J S2))) →
    (∃ S2, items.find? p = none ∧ forW b f (items.map emb) S r = .nx S2 r ∧ J S2) ∨ ∃ a S2, items.find? p = some a ∧ forW b f (items.map emb) S r = .ex (res a) S2 r
  | [], S, h0, h => .inl ⟨S, rfl, rfl, h0⟩
  | a :: items, S, h0, h => by
    obtain ⟨S1, e1, h1⟩ := h a List.mem_cons_self S h0
    rcases h1 with ⟨hp, S2, h1⟩ | ⟨hp, S2, h1, h2⟩
    · refine .inr ⟨a, S2, List.find?_cons_of_pos hp, ?_⟩
      rw [List.map_cons, forW_c e1, h1]
    · rw [List.map_cons, forW_c e1, h1, List.find?_cons_of_neg (by simp [hp])]
      exact for_raise h2 fun c hc => h c (List.mem_cons_of_mem _ hc)
theorem for_raise_e {items : List A} {ds : List D} {S : Env} {r : Row} (J : Env → Prop) (p : A → Bool) (res : A → DX) (hF : forW b f ds S r = F) (hd : ds = items.map emb) (h0 : J S)
    (h : ∀ a ∈ items, ∀ S, J S → ∃ S1, b (emb a) S = some S1 ∧ ((p a = true ∧ ∃ S2, f S1 r = .ex (res a) S2 r) ∨ (p a = false ∧ ∃ S2, f S1 r = .nx S2 r ∧ J S2)))
    (k1 : ∀ S2, items.find? p = none → F = .nx S2 r → J S2 → C) (k2 : ∀ a S2, items.find? p = some a → F = .ex (res a) S2 r → C) : C := by
  rw [hd] at hF
  rcases for_raise h0 h with ⟨S2, e, e2, h2⟩ | ⟨a, S2, e, e2⟩
  · exact k1 S2 e (hF.symm.trans e2) h2
  · exact k2 a S2 e (hF.symm.trans e2)
end
section
variable {A : Type} {b : D → Option Env} {t : Env → Row → Out Bool} {e : Env → Row → Out Rv} {emb : A → D}
theorem lcW_n (acc : List D) (n : Bool) (r : Row) : lcW b t e [] acc n r = .ok (.v n (.lst acc)) r := rfl
theorem lcW_f {S : Env} {d : D} {r r1 : Row} (h : b d = some S) (h2 : t S r = .ok false r1) (ds acc : List D) (n : Bool) : lcW b t e (d :: ds) acc n r = lcW b t e ds acc n r1 := by
  show lcGo b t e (d :: ds) acc n r = _
  rw [lcGo, h]
  dsimp only
  rw [h2]
  rfl
theorem lcW_t {S : Env} {d y : D} {k : Bool} {r r1 r2 : Row} {acc : List D} (h : b d = some S) (h2 : t S r = .ok true r1) (h3 : e S r1 = .ok (.v k y) r2) (hk : (k || y.lf) = true) (hz : acc.length ≤ 1000000) (ds : List D) (n : Bool) : lcW b t e (d :: ds) acc n r = lcW b t e ds (acc ++ [y]) n r2 := by
  show lcGo b t e (d :: ds) acc n r = _
  rw [lcGo, h]
  dsimp only
  rw [h2]
  dsimp only
  rw [h3]
  dsimp only
  rw [sz_t hz]
  dsimp only
  rw [hk, Bool.and_true]
  rfl
theorem lc_go {p : A → Bool} {g : A → D} {r : Row} {n : Bool} : ∀ {items : List A} {acc : List D}, acc.length + items.length ≤ 1000000 → (∀ a ∈ items, ∃ S, b (emb a) = some S ∧ t S r = .ok (p a) r ∧ (p a = true → ∃ k, e S r = .ok (.v k (g a)) r ∧ (k || (g a).lf) = true)) →
    lcW b t e (items.map emb) acc n r = .ok (.v n (.lst (acc ++ (items.filter p).map g))) r
  | [], acc, _, _ => by rw [List.map_nil, lcW_n]; simp
  | a :: items, acc, hz, h => by
    obtain ⟨S, h1, h2, h3⟩ := h a List.mem_cons_self
    have ht : ∀ c ∈ items, _ := fun c hc => h c (List.mem_cons_of_mem _ hc)
    rw [List.length_cons] at hz
    rw [List.map_cons]
    cases hp : p a with
    | false =>
      rw [hp] at h2
      rw [lcW_f h1 h2, lc_go (by omega) ht, List.filter_cons_of_neg (by simp [hp])]
    | true =>
      rw [hp] at h2
      obtain ⟨k, h4, h5⟩ := h3 hp
      rw [lcW_t h1 h2 h4 h5 (by omega), lc_go (by rw [List.length_append, List.length_singleton]; omega) ht, List.filter_cons_of_pos hp, List.map_cons, List.append_assoc]
      rfl
/-- [g a for a in items if p a] -/
theorem lc_map (items : List A) (emb : A → D) (p : A → Bool) (g : A → D) {ds : List D} {r : Row} (hd : ds = items.map emb) (hz : items.length ≤ 1000000) (h : ∀ a ∈ items, ∃ S, b (emb a) = some S ∧ t S r = .ok (p a) r ∧ (p a = true → ∃ k, e S r = .ok (.v k (g a)) r ∧ (k || (g a).lf) = true)) :
    lcW b t e ds [] true r = .ok (.v true (.lst ((items.filter p).map g))) r := by
  rw [hd, lc_go (by simpa using hz) h]
  rfl
/-- [g a for a in items] -/
theorem lc_all (items : List A) (emb : A → D) (g : A → D) {ds : List D} {r : Row} (hd : ds = items.map emb) (hz : items.length ≤ 1000000) (h : ∀ a ∈ items, ∃ S, b (emb a) = some S ∧ t S r = .ok true r ∧ ∃ k, e S r = .ok (.v k (g a)) r ∧ (k || (g a).lf) = true) :
    lcW b t e ds [] true r = .ok (.v true (.lst (items.map g))) r := by
  rw [lc_map items emb (fun _ => true) g hd hz fun a ha => let ⟨S, h1, h2, h3⟩ := h a ha; ⟨S, h1, h2, fun _ => h3⟩]
  rw [List.filter_eq_self.mpr (fun _ _ => rfl)]
theorem lc_draw_go {B : Type} {eb : B → D} {J : Row → Prop} {P : A → B → Prop} {n : Bool} : ∀ {items : List A} {acc : List D} {r : Row}, acc.length + items.length ≤ 1000000 → J r → (∀ a ∈ items, ∀ r, J r → ∃ S, b (emb a) = some S ∧ t S r = .ok true r ∧ Yld (e S r) eb fun y r2 => J r2 ∧ P a y) →
    ∃ (ys : List B) (r2 : Row), lcW b t e (items.map emb) acc n r = .ok (.v n (.lst (acc ++ ys.map eb))) r2 ∧ J r2 ∧ ys.length = items.length ∧ ∀ y ∈ ys, ∃ a ∈ items, P a y
  | [], acc, r, _, hj, _ => ⟨[], r, by rw [List.map_nil, lcW_n]; simp, hj, rfl, by simp⟩
  | a :: items, acc, r, hz, hj, h => by
    obtain ⟨S, h1, h2, y, k, r2, h3, h4, h5, h6⟩ := h a List.mem_cons_self r hj
    have ht : ∀ c ∈ items, _ := fun c hc => h c (List.mem_cons_of_mem _ hc)
    rw [List.length_cons] at hz
    obtain ⟨ys, r3, g1, g2, g3, g4⟩ := lc_draw_go (acc := acc ++ [eb y]) (by rw [List.length_append, List.length_singleton]; omega) h5 ht
    refine ⟨y :: ys, r3, ?_, g2, by rw [List.length_cons, List.length_cons, g3], fun z hz => ?_⟩
    · rw [List.map_cons, lcW_t h1 h2 h3 h4 (by omega), g1, List.append_assoc]
      rfl
    · rcases List.mem_cons.mp hz with q | hz
      · exact ⟨a, List.mem_cons_self, q ▸ h6⟩
      · obtain ⟨c, hc, q⟩ := g4 z hz
        exact ⟨c, List.mem_cons_of_mem _ hc, q⟩
/-- [.. for a in items], the row changed -/
theorem lc_draw_e {C : Prop} {B : Type} {F : Out Rv} {ds : List D} {r : Row} (items : List A) (emb : A → D) (eb : B → D) (J : Row → Prop) (P : A → B → Prop) (hF : lcW b t e ds [] true r = F) (hd : ds = items.map emb) (hz : items.length ≤ 1000000) (hj : J r)
    (h : ∀ a ∈ items, ∀ r, J r → ∃ S, b (emb a) = some S ∧ t S r = .ok true r ∧ Yld (e S r) eb fun y r2 => J r2 ∧ P a y)
    (k : ∀ (ys : List B) (r2 : Row), F = .ok (.v true (.lst (ys.map eb))) r2 → J r2 → ys.length = items.length → (∀ y ∈ ys, ∃ a ∈ items, P a y) → C) : C := by
  obtain ⟨ys, r2, e, h2, h3, h4⟩ := lc_draw_go (emb := emb) (eb := eb) (n := true) (acc := []) (by simpa using hz) hj h
  rw [hd, e] at hF
  exact k ys r2 hF.symm h2 h3 h4
end
def natD (i : Nat) : D := .int (i : Int)
theorem rng_nat (n : Nat) : rng 0 (n : Int) = (List.range n).map natD := by
  unfold rng
  rw [show ((n : Int) - 0).toNat = n by omega]
  apply List.map_congr_left
  intro i _
  show D.int (0 + (i : Int)) = _
  rw [Int.zero_add]
  rfl
theorem rng_nat' {n : Nat} {i : Int} (h : i = (n : Int)) : rng 0 i = (List.range n).map natD := by rw [h, rng_nat]
theorem rng_from (m n : Nat) : rng (m : Int) (n : Int) = (List.range (n - m)).map fun i => natD (m + i) := by
  unfold rng
  rw [show ((n : Int) - (m : Int)).toNat = n - m by omega]
  apply List.map_congr_left
  intro i _
  show D.int ((m : Int) + (i : Int)) = D.int ((m + i : Nat) : Int)
  rw [Int.natCast_add]
theorem atI_nat {α : Type} (xs : List α) (i : Nat) : atI xs (i : Int) = xs[i]? := by
  unfold atI ixN
  rw [if_pos (by omega)]
  by_cases h : (i : Int) < (xs.length : Int)
  · rw [if_pos h]
    simp
  · rw [if_neg h]
    have : xs.length ≤ i := by omega
    simp [List.getElem?_eq_none this]
theorem drop_range {n m a : Nat} {rest : List Nat} (h : (List.range n).drop m = a :: rest) : a = m ∧ m < n ∧ rest = (List.range n).drop (m + 1) := by
  have hl : m < n := by
    rcases Nat.lt_or_ge m n with h1 | h1
    · exact h1
    · rw [List.drop_eq_nil_of_le (by rw [List.length_range]; exact h1)] at h
      cases h
  rw [List.drop_eq_getElem_cons (by rw [List.length_range]; exact hl), List.getElem_range] at h
  injection h with h1 h2
  exact ⟨h1.symm, hl, h2.symm⟩
theorem for_range_e {b : D → Env → Option Env} {f : Env → Row → SO} {F : SO} {C : Prop} {n : Nat} {ds : List D} {S : Env} {r : Row} (J : Nat → Env → Row → Prop) (hF : forW b f ds S r = F) (hd : ds = (List.range n).map natD) (h0 : J 0 S r)
    (h : ∀ i, i < n → ∀ S r, J i S r → ∃ S1, b (natD i) S = some S1 ∧ Nxt (f S1 r) (J (i + 1))) (k : ∀ S2 r2, F = .nx S2 r2 → J n S2 r2 → C) : C := by
  refine for_inv_e (items := List.range n) (emb := natD) (fun rest S r => ∃ m, m ≤ n ∧ rest = (List.range n).drop m ∧ J m S r) hF hd ⟨0, Nat.zero_le _, rfl, h0⟩ ?_ ?_
  · rintro a rest S r ⟨m, hm, hr, hj⟩
    obtain ⟨e1, e2, e3⟩ := drop_range hr.symm
    subst e1
    obtain ⟨S1, h1, S2, r2, h2, h3⟩ := h a e2 S r hj
    exact ⟨S1, h1, S2, r2, h2, a + 1, e2, e3, h3⟩
  · rintro S2 r2 e ⟨m, hm, hr, hj⟩
    have : m = n := by
      rcases Nat.lt_or_ge m n with h1 | h1
      · rw [List.drop_eq_getElem_cons (by rw [List.length_range]; exact h1)] at hr
        cases hr
      · omega
    subst this
    exact k S2 r2 e hj
end TH

set_option Elab.async false
set_option linter.all false
set_option maxRecDepth 100000
set_option maxHeartbeats 4000000
/-! SXB: the simp lists as one name. -/
namespace TH
open PySem PySem.Spec PyProof.Rows L2
def SXA := (And.intro (And.intro (And.intro (And.intro (And.intro (And.intro (And.intro (And.intro @run_f @run_t) (And.intro @bind_ok @bind_ex)) (And.intro (And.intro @bind_no @lift_ok) (And.intro @lift_ex (And.intro @lift_no @sel_t)))) (And.intro (And.intro (And.intro @sel_f @nxS_nx) (And.intro @nxS_rt (And.intro @nxS_bk @nxS_ct))) (And.intro (And.intro @nxS_ex @nxS_no) (And.intro @tAnd1_t (And.intro @tAnd1_f @tOr1_t))))) (And.intro (And.intro (And.intro (And.intro @tOr1_f @eAnd1_t) (And.intro @eAnd1_f @eOr1_t)) (And.intro (And.intro @eOr1_f @tAnd_one) (And.intro @tAnd_cons (And.intro @tOr_one @tOr_cons)))) (And.intro (And.intro (And.intro @eAnd_one @eAnd_cons) (And.intro @eOr_one (And.intro @eOr_cons @eK_r))) (And.intro (And.intro @eG_r @eV_r) (And.intro @eO_r (And.intro @getV_0 @getV_s)))))) (And.intro (And.intro (And.intro (And.intro (And.intro @cell_0 @cell_s) (And.intro @getO_c @ownR_s)) (And.intro (And.intro @eIo_r @eBin_r) (And.intro @bin2_r (And.intro @ret_s @retB_s)))) (And.intro (And.intro (And.intro @rd_v @rd_p) (And.intro @rdR_v (And.intro @rdR_p @rdR_io))) (And.intro (And.intro @rds_nil @rds_v) (And.intro @rds_p (And.intro @obind_s @omap_s))))) (And.intro (And.intro (And.intro (And.intro @eNeg_r @neg1_r) (And.intro @eNot_r (And.intro @not1_r @eT_r))) (And.intro (And.intro @tCmp_r @okB_s) (And.intro @cmpR_r (And.intro @tCmp2_r @cmpL_r)))) (And.intro (And.intro (And.intro @cmpM_r @cmpK_s) (And.intro @tX_r (And.intro @tst1_r @tNot_r))) (And.intro (And.intro @isB_r @eIf_r) (And.intro @prt_r (And.intro @eP_n @eP_s))))))) (And.intro (And.intro (And.intro (And.intro (And.intro (And.intro @eSl_r @sli_r) (And.intro @eIx_r @idx2_r)) (And.intro (And.intro @eThings_r @eTies_r) (And.intro @thg_h (And.intro @thg_1 @tis_h)))) (And.intro (And.intro (And.intro @eS_n @eS_c) (And.intro @eTup_r (And.intro @eLst_r @tup1_r))) (And.intro (And.intro @lst1_r @allV_n) (And.intro @allV_c (And.intro @allNw_n @allNw_c))))) (And.intro (And.intro (And.intro (And.intro @eCall_r @callR_ok) (And.intro @callR_ex @call0_s)) (And.intro (And.intro @callFn_f @call1_s) (And.intro @callFn_t (And.intro @eMk_r @callMk_r)))) (And.intro (And.intro (And.intro @eB1_r @eB2_r) (And.intro @blR1_r (And.intro @blR2_r @eIs_r))) (And.intro (And.intro @eIs2_r @eIsX_r) (And.intro @isi1_r (And.intro @isiX_r @eHouM_r)))))) (And.intro (And.intro (And.intro (And.intro (And.intro @met0_h @met0_1) (And.intro @metR_ok @met1_s)) (And.intro (And.intro @eJoin_r @joi0_r) (And.intro @joi1_r (And.intro @iA_r @itO_s)))) (And.intro (And.intro (And.intro @itG_r @iP_r) (And.intro @itP_v (And.intro @itC_s @itP_p))) (And.intro (And.intro @rng1_r @rng2_r) (And.intro @gd_t (And.intro @zip2_r @zip3_r))))) (And.intro (And.intro (And.intro (And.intro @eLc_r @tTrue_r) (And.intro @tg1_r (And.intro @tgT_r @tgM_n))) (And.intro (And.intro @tgM_c @unset_n) (And.intro @unset_c (And.intro @set_0 @set_s)))) (And.intro (And.intro (And.intro @sSeq_n @sSeq_c) (And.intro @sPass_r (And.intro @sBrk_r @sCnt_r))) (And.intro (And.intro @sRet0_r @sRet_r) (And.intro @retV_t (And.intro @retV_f @retC_s)))))))) (And.intro (And.intro (And.intro (And.intro (And.intro (And.intro (And.intro @retV_p @sIf_r) (And.intro @putV_v @putC_s)) (And.intro (And.intro @putV_p @putO_l) (And.intro @putO_d (And.intro @elf_dct @putO_p)))) (And.intro (And.intro (And.intro @sSet_r @sSetO_r) (And.intro @sSetI_r (And.intro @putI_r @sSubI_r))) (And.intro (And.intro @subI0_s @subC_s) (And.intro @subI_r (And.intro @subZ_s @subX_r))))) (And.intro (And.intro (And.intro (And.intro @subW_d @subW_l) (And.intro @subY_s @subL_r)) (And.intro (And.intro @sSubO_r @getC_s) (And.intro @getL_r (And.intro @sUnp_r @nxO_s)))) (And.intro (And.intro (And.intro @unp_r @sMut_r) (And.intro @mutC_s (And.intro @mutR_r @app_r))) (And.intro (And.intro @ext_r @clr_r) (And.intro @rvs_r (And.intro @sExp_r @sFor_r)))))) (And.intro (And.intro (And.intro (And.intro (And.intro @offI_n @offI_s) (And.intro @sRaise_r @sRaiseF_r)) (And.intro (And.intro @raiR_r @outB_nx) (And.intro @outB_rt (And.intro @outB_ex @io_m)))) (And.intro (And.intro (And.intro @elf_int @elf_bl) (And.intro @elf_str (And.intro @elf_non @elf_scr))) (And.intro (And.intro @elf_tup @elf_lst) (And.intro @elf_tbl (And.intro @lf_int @lf_bl))))) (And.intro (And.intro (And.intro (And.intro @lf_str @lf_non) (And.intro @lf_scr (And.intro @lf_tup @lf_lst))) (And.intro (And.intro @lf_hou @lfs_n) (And.intro @lfs_c (And.intro @add_i @sub_i)))) (And.intro (And.intro (And.intro @add_t @add_l) (And.intro @add_s (And.intro @mul_i @mod_i))) (And.intro (And.intro @fdv_i @len_l) (And.intro @len_t (And.intro @len_scr @len_s))))))) (And.intro (And.intro (And.intro (And.intro (And.intro (And.intro @int_b @int_i) (And.intro @list_l @list_t)) (And.intro (And.intro @tup_l @ix_l) (And.intro @ix_t (And.intro @ix_scr @sl_l)))) (And.intro (And.intro (And.intro @sl_t @sl_s) (And.intro @ord_lt (And.intro @ord_le @ord_gt))) (And.intro (And.intro @ord_ge @cmp_lt) (And.intro @cmp_le (And.intro @cmp_gt @cmp_ge))))) (And.intro (And.intro (And.intro (And.intro @cmp_eq @cmp_ne) (And.intro @cmp_in (And.intro @cmp_ni @cmp_is))) (And.intro (And.intro @cmp_isn @eq_i) (And.intro @eq_s (And.intro @eq_b @str_eq)))) (And.intro (And.intro (And.intro @lfs_app @lfs_intsL) (And.intro @lf_spotD (And.intro @lf_roomD @elf_roomD))) (And.intro (And.intro @lf_thD @lf_tieD) (And.intro @sz_t (And.intro @sm62_t @sm64_t)))))) (And.intro (And.intro (And.intro (And.intro (And.intro @atI_0 @atI_1) (And.intro @atI_2 @atI_3)) (And.intro (And.intro @atI_4 @atI_m) (And.intro @glast_1 (And.intro @glast_s @str_seq)))) (And.intro (And.intro (And.intro @sz_0 @sz_1) (And.intro @sz_2 (And.intro @sz_3 @sz_4))) (And.intro (And.intro @sz_5 @sz_6) (And.intro @sz_7 (And.intro @sz_8 @sz_9))))) (And.intro (And.intro (And.intro (And.intro @sz_10 @sz_11) (And.intro @sz_12 (And.intro @sz_15 @seqZ_t))) (And.intro (And.intro @seqZ_l @seqOf_t) (And.intro @seqOf_l (And.intro @seqOf_s @isNon_n)))) (And.intro (And.intro (And.intro @isNon_i @isNon_t) (And.intro @isNon_l (And.intro @isNon_b @isNon_s))) (And.intro (And.intro @isCon_l @ixN_31) (And.intro @ixN_32 (And.intro @na7 @isi2_r)))))))))
end TH

set_option Elab.async false
set_option linter.all false
set_option maxRecDepth 100000
set_option maxHeartbeats 4000000
/-! KA: rooms.py and its mates. -/
namespace TH
open PySem PySem.Spec PyProof.Rows L2
theorem may_sum_ok (a b w : Int) : F_may_sum.run [.int a, .int b, .int w] none = .ok (.bl (sumS a b w)) none := by
  simp (dsimp := false) (implicitDefEqProofs := false) only [F_may_sum, m_may_sum, SXA, Bool.and_true, Bool.true_and, Bool.and_false, Bool.false_and, Bool.or_true, Bool.true_or, Bool.or_false, Bool.false_or, Bool.not_true, Bool.not_false, List.length_cons, List.length_nil, Nat.zero_add, Nat.reduceAdd, Nat.reduceSub, Nat.reduceLeDiff, Nat.reduceMul, decide_true, decide_false, env0, List.map_cons, List.map_nil, List.replicate, List.cons_append, List.nil_append, List.append_nil, List.length_append, String.reduceEq, lfs_app, Int.reduceNeg, eq_self, if_true, if_false, Bool.false_eq_true, Int.reduceLE, Int.reduceLT, Int.reduceEq, Int.reduceSub, Int.reduceAdd, Int.reduceMul]
  unfold sumS
  by_cases h : a = 0 - b
  · simp (dsimp := false) (implicitDefEqProofs := false) only [h, SXA, Bool.and_true, Bool.true_and, Bool.and_false, Bool.false_and, Bool.or_true, Bool.true_or, Bool.or_false, Bool.false_or, Bool.not_true, Bool.not_false, List.length_cons, List.length_nil, Nat.zero_add, Nat.reduceAdd, Nat.reduceSub, Nat.reduceLeDiff, Nat.reduceMul, decide_true, decide_false, env0, List.map_cons, List.map_nil, List.replicate, List.cons_append, List.nil_append, List.append_nil, List.length_append, String.reduceEq, lfs_app, Int.reduceNeg, eq_self, if_true, if_false, Bool.false_eq_true, Int.reduceLE, Int.reduceLT, Int.reduceEq, Int.reduceSub, Int.reduceAdd, Int.reduceMul]
    by_cases h2 : (0 - b = 0)
    · simp (dsimp := false) (implicitDefEqProofs := false) only [h2, SXA, Bool.and_true, Bool.true_and, Bool.and_false, Bool.false_and, Bool.or_true, Bool.true_or, Bool.or_false, Bool.false_or, Bool.not_true, Bool.not_false, List.length_cons, List.length_nil, Nat.zero_add, Nat.reduceAdd, Nat.reduceSub, Nat.reduceLeDiff, Nat.reduceMul, decide_true, decide_false, env0, List.map_cons, List.map_nil, List.replicate, List.cons_append, List.nil_append, List.append_nil, List.length_append, String.reduceEq, lfs_app, Int.reduceNeg, eq_self, if_true, if_false, Bool.false_eq_true, Int.reduceLE, Int.reduceLT, Int.reduceEq, Int.reduceSub, Int.reduceAdd, Int.reduceMul]
      simp
    · simp (dsimp := false) (implicitDefEqProofs := false) only [h2, SXA, Bool.and_true, Bool.true_and, Bool.and_false, Bool.false_and, Bool.or_true, Bool.true_or, Bool.or_false, Bool.false_or, Bool.not_true, Bool.not_false, List.length_cons, List.length_nil, Nat.zero_add, Nat.reduceAdd, Nat.reduceSub, Nat.reduceLeDiff, Nat.reduceMul, decide_true, decide_false, env0, List.map_cons, List.map_nil, List.replicate, List.cons_append, List.nil_append, List.append_nil, List.length_append, String.reduceEq, lfs_app, Int.reduceNeg, eq_self, if_true, if_false, Bool.false_eq_true, Int.reduceLE, Int.reduceLT, Int.reduceEq, Int.reduceSub, Int.reduceAdd, Int.reduceMul]
      simp
      omega
  · simp (dsimp := false) (implicitDefEqProofs := false) only [h, SXA, Bool.and_true, Bool.true_and, Bool.and_false, Bool.false_and, Bool.or_true, Bool.true_or, Bool.or_false, Bool.false_or, Bool.not_true, Bool.not_false, List.length_cons, List.length_nil, Nat.zero_add, Nat.reduceAdd, Nat.reduceSub, Nat.reduceLeDiff, Nat.reduceMul, decide_true, decide_false, env0, List.map_cons, List.map_nil, List.replicate, List.cons_append, List.nil_append, List.append_nil, List.length_append, String.reduceEq, lfs_app, Int.reduceNeg, eq_self, if_true, if_false, Bool.false_eq_true, Int.reduceLE, Int.reduceLT, Int.reduceEq, Int.reduceSub, Int.reduceAdd, Int.reduceMul]
    by_cases h2 : a = 0
    · simp (dsimp := false) (implicitDefEqProofs := false) only [h2, SXA, Bool.and_true, Bool.true_and, Bool.and_false, Bool.false_and, Bool.or_true, Bool.true_or, Bool.or_false, Bool.false_or, Bool.not_true, Bool.not_false, List.length_cons, List.length_nil, Nat.zero_add, Nat.reduceAdd, Nat.reduceSub, Nat.reduceLeDiff, Nat.reduceMul, decide_true, decide_false, env0, List.map_cons, List.map_nil, List.replicate, List.cons_append, List.nil_append, List.append_nil, List.length_append, String.reduceEq, lfs_app, Int.reduceNeg, eq_self, if_true, if_false, Bool.false_eq_true, Int.reduceLE, Int.reduceLT, Int.reduceEq, Int.reduceSub, Int.reduceAdd, Int.reduceMul]
      simp [h]
    · simp (dsimp := false) (implicitDefEqProofs := false) only [h2, SXA, Bool.and_true, Bool.true_and, Bool.and_false, Bool.false_and, Bool.or_true, Bool.true_or, Bool.or_false, Bool.false_or, Bool.not_true, Bool.not_false, List.length_cons, List.length_nil, Nat.zero_add, Nat.reduceAdd, Nat.reduceSub, Nat.reduceLeDiff, Nat.reduceMul, decide_true, decide_false, env0, List.map_cons, List.map_nil, List.replicate, List.cons_append, List.nil_append, List.append_nil, List.length_append, String.reduceEq, lfs_app, Int.reduceNeg, eq_self, if_true, if_false, Bool.false_eq_true, Int.reduceLE, Int.reduceLT, Int.reduceEq, Int.reduceSub, Int.reduceAdd, Int.reduceMul]
      simp [h, h2]
theorem atI_room {r : Room} {a : Nat} (h : a < r.length) : atI (r.map spotD) (a : Int) = some (.tup [.int (plS r a), .int (trS r a)]) := by
  rw [atI_nat, List.getElem?_map]
  have e : r[a]? = some r[a] := List.getElem?_eq_getElem h
  have e2 : r.getD a (0, 0) = r[a] := by rw [List.getD_eq_getElem?_getD, e]; rfl
  rw [e]
  unfold plS trS
  rw [e2]
  rfl
theorem side_ok {r : Room} {a : Nat} (h : a < r.length) (k : Nat) : F_side.run [roomD r, .int a, .int k] none = .ok (.int (sideS (plS r a) k)) none := by
  have h := atI_room h
  unfold roomD
  simp (dsimp := false) (implicitDefEqProofs := false) only [F_side, m_side, h, SXA, Bool.and_true, Bool.true_and, Bool.and_false, Bool.false_and, Bool.or_true, Bool.true_or, Bool.or_false, Bool.false_or, Bool.not_true, Bool.not_false, List.length_cons, List.length_nil, Nat.zero_add, Nat.reduceAdd, Nat.reduceSub, Nat.reduceLeDiff, Nat.reduceMul, decide_true, decide_false, env0, List.map_cons, List.map_nil, List.replicate, List.cons_append, List.nil_append, List.append_nil, List.length_append, String.reduceEq, lfs_app, Int.reduceNeg, eq_self, if_true, if_false, Bool.false_eq_true, Int.reduceLE, Int.reduceLT, Int.reduceEq, Int.reduceSub, Int.reduceAdd, Int.reduceMul]
  unfold sideS
  simp only [decide_eq_true_eq, gt_iff_lt]
theorem spots_ok (ms : List Int) (h : 1 ≤ ms.length) (h3 : ms.length ≤ 3) : F_spots.run [.tup (intsL ms)] none = .ok (.lst ((spotsS ms.length).map spotD)) none := by
  match ms, h, h3 with
  | [a], _, _ => kernel_rfl
  | [a, b], _, _ => kernel_rfl
  | [a, b, c], _, _ => kernel_rfl
theorem law_spots_ok (ms : List Int) (h : 1 ≤ ms.length) (h3 : ms.length ≤ 3) : F_law_spots.run [.tup (intsL ms)] none = .ok (.lst ((spotsS ms.length).map spotD)) none := by
  match ms, h, h3 with
  | [a], _, _ => kernel_rfl
  | [a, b], _, _ => kernel_rfl
  | [a, b, c], _, _ => kernel_rfl
theorem tr_sm {r : Room} (h : TrIn r) {a : Nat} (ha : a < r.length) : small64 (trS r a) = true ∧ (trS r a = -1 ∨ trS r a = 0 ∨ trS r a = 1) := by
  have e2 : r.getD a (0, 0) = r[a] := by rw [List.getD_eq_getElem?_getD, List.getElem?_eq_getElem ha]; rfl
  have q := h r[a] (List.getElem_mem ha)
  unfold trS
  rw [e2]
  refine ⟨?_, q⟩
  rcases q with q | q | q <;> rw [q] <;> rfl
theorem keeps_ok {r : Room} {k : Tie} (h : tieIn r.length k) (ht : TrIn r) : F_keeps.run [roomD r, tieD k] none = .ok (.bl (keepsS r k)) none := by
  cases k with
  | wi a b =>
    have h1 := atI_room h.1
    have h2 := atI_room h.2
    unfold roomD tieD
    simp (dsimp := false) (implicitDefEqProofs := false) only [F_keeps, m_keeps, h1, h2, str_seq, SXA, Bool.and_true, Bool.true_and, Bool.and_false, Bool.false_and, Bool.or_true, Bool.true_or, Bool.or_false, Bool.false_or, Bool.not_true, Bool.not_false, List.length_cons, List.length_nil, Nat.zero_add, Nat.reduceAdd, Nat.reduceSub, Nat.reduceLeDiff, Nat.reduceMul, decide_true, decide_false, env0, List.map_cons, List.map_nil, List.replicate, List.cons_append, List.nil_append, List.append_nil, List.length_append, String.reduceEq, lfs_app, Int.reduceNeg, eq_self, if_true, if_false, Bool.false_eq_true, Int.reduceLE, Int.reduceLT, Int.reduceEq, Int.reduceSub, Int.reduceAdd, Int.reduceMul]
    rfl
  | ag a b =>
    have h1 := atI_room h.1
    have h2 := atI_room h.2
    unfold roomD tieD
    simp (dsimp := false) (implicitDefEqProofs := false) only [F_keeps, m_keeps, h1, h2, str_seq, SXA, Bool.and_true, Bool.true_and, Bool.and_false, Bool.false_and, Bool.or_true, Bool.true_or, Bool.or_false, Bool.false_or, Bool.not_true, Bool.not_false, List.length_cons, List.length_nil, Nat.zero_add, Nat.reduceAdd, Nat.reduceSub, Nat.reduceLeDiff, Nat.reduceMul, decide_true, decide_false, env0, List.map_cons, List.map_nil, List.replicate, List.cons_append, List.nil_append, List.append_nil, List.length_append, String.reduceEq, lfs_app, Int.reduceNeg, eq_self, if_true, if_false, Bool.false_eq_true, Int.reduceLE, Int.reduceLT, Int.reduceEq, Int.reduceSub, Int.reduceAdd, Int.reduceMul]
    rfl
  | su a b c =>
    have h1 := atI_room h.1
    have h2 := atI_room h.2.1
    have h3 := atI_room h.2.2
    unfold roomD tieD
    simp (dsimp := false) (implicitDefEqProofs := false) only [F_keeps, m_keeps, h1, h2, h3, str_seq, callFn_f (fn := F_may_sum) rfl, may_sum_ok, SXA, Bool.and_true, Bool.true_and, Bool.and_false, Bool.false_and, Bool.or_true, Bool.true_or, Bool.or_false, Bool.false_or, Bool.not_true, Bool.not_false, List.length_cons, List.length_nil, Nat.zero_add, Nat.reduceAdd, Nat.reduceSub, Nat.reduceLeDiff, Nat.reduceMul, decide_true, decide_false, env0, List.map_cons, List.map_nil, List.replicate, List.cons_append, List.nil_append, List.append_nil, List.length_append, String.reduceEq, lfs_app, Int.reduceNeg, eq_self, if_true, if_false, Bool.false_eq_true, Int.reduceLE, Int.reduceLT, Int.reduceEq, Int.reduceSub, Int.reduceAdd, Int.reduceMul]
    rfl
  | pr a b c =>
    have h1 := atI_room h.1
    have h2 := atI_room h.2.1
    have h3 := atI_room h.2.2
    have h4 := (tr_sm ht h.2.1).1
    unfold roomD tieD
    simp (dsimp := false) (implicitDefEqProofs := false) only [F_keeps, m_keeps, h1, h2, h3, h4, str_seq, SXA, Bool.and_true, Bool.true_and, Bool.and_false, Bool.false_and, Bool.or_true, Bool.true_or, Bool.or_false, Bool.false_or, Bool.not_true, Bool.not_false, List.length_cons, List.length_nil, Nat.zero_add, Nat.reduceAdd, Nat.reduceSub, Nat.reduceLeDiff, Nat.reduceMul, decide_true, decide_false, env0, List.map_cons, List.map_nil, List.replicate, List.cons_append, List.nil_append, List.append_nil, List.length_append, String.reduceEq, lfs_app, Int.reduceNeg, eq_self, if_true, if_false, Bool.false_eq_true, Int.reduceLE, Int.reduceLT, Int.reduceEq, Int.reduceSub, Int.reduceAdd, Int.reduceMul]
    rfl
  | ra a b k =>
    have h1 := atI_room h.1
    have h2 := side_ok h.2 k
    unfold roomD at h2
    unfold roomD tieD
    simp (dsimp := false) (implicitDefEqProofs := false) only [F_keeps, m_keeps, h1, h2, callFn_f (fn := F_side) rfl, str_seq, SXA, Bool.and_true, Bool.true_and, Bool.and_false, Bool.false_and, Bool.or_true, Bool.true_or, Bool.or_false, Bool.false_or, Bool.not_true, Bool.not_false, List.length_cons, List.length_nil, Nat.zero_add, Nat.reduceAdd, Nat.reduceSub, Nat.reduceLeDiff, Nat.reduceMul, decide_true, decide_false, env0, List.map_cons, List.map_nil, List.replicate, List.cons_append, List.nil_append, List.append_nil, List.length_append, String.reduceEq, lfs_app, Int.reduceNeg, eq_self, if_true, if_false, Bool.false_eq_true, Int.reduceLE, Int.reduceLT, Int.reduceEq, Int.reduceSub, Int.reduceAdd, Int.reduceMul]
    rfl
  | un a k =>
    have h1 := atI_room h
    have h2 := side_ok h k
    unfold roomD at h2
    unfold roomD tieD
    simp (dsimp := false) (implicitDefEqProofs := false) only [F_keeps, m_keeps, h1, h2, callFn_f (fn := F_side) rfl, str_seq, SXA, Bool.and_true, Bool.true_and, Bool.and_false, Bool.false_and, Bool.or_true, Bool.true_or, Bool.or_false, Bool.false_or, Bool.not_true, Bool.not_false, List.length_cons, List.length_nil, Nat.zero_add, Nat.reduceAdd, Nat.reduceSub, Nat.reduceLeDiff, Nat.reduceMul, decide_true, decide_false, env0, List.map_cons, List.map_nil, List.replicate, List.cons_append, List.nil_append, List.append_nil, List.length_append, String.reduceEq, lfs_app, Int.reduceNeg, eq_self, if_true, if_false, Bool.false_eq_true, Int.reduceLE, Int.reduceLT, Int.reduceEq, Int.reduceSub, Int.reduceAdd, Int.reduceMul]
    rfl
  | ov a k =>
    have h1 := atI_room h
    have h2 := side_ok h k
    unfold roomD at h2
    unfold roomD tieD
    simp (dsimp := false) (implicitDefEqProofs := false) only [F_keeps, m_keeps, h1, h2, callFn_f (fn := F_side) rfl, str_seq, SXA, Bool.and_true, Bool.true_and, Bool.and_false, Bool.false_and, Bool.or_true, Bool.true_or, Bool.or_false, Bool.false_or, Bool.not_true, Bool.not_false, List.length_cons, List.length_nil, Nat.zero_add, Nat.reduceAdd, Nat.reduceSub, Nat.reduceLeDiff, Nat.reduceMul, decide_true, decide_false, env0, List.map_cons, List.map_nil, List.replicate, List.cons_append, List.nil_append, List.append_nil, List.length_append, String.reduceEq, lfs_app, Int.reduceNeg, eq_self, if_true, if_false, Bool.false_eq_true, Int.reduceLE, Int.reduceLT, Int.reduceEq, Int.reduceSub, Int.reduceAdd, Int.reduceMul]
    rfl

/-! membership and equality on data -/
def spotPy (s : Spot) : PyData := .tuple [.int s.1, .int s.2]
def roomPy (r : Room) : PyData := .tuple (r.map spotPy)
theorem pys_map {α : Type} {f : α → D} {g : α → PyData} (h : ∀ x, (f x).py = some (g x)) : ∀ l : List α, pys (l.map f) = some (l.map g)
  | [] => rfl
  | x :: l => by
    rw [List.map_cons, pys, h, pys_map h l]; rfl
theorem py_spot (s : Spot) : (spotD s).py = some (spotPy s) := rfl
theorem py_room (r : Room) : (roomD r).py = some (roomPy r) := by
  show (pys (r.map spotD)).map PyData.tuple = _
  rw [pys_map py_spot]; rfl
theorem eqv_int (a b : Int) : PyData.eqv (.int a) (.int b) = decide (a = b) := rfl
theorem eqv_spot (a b : Spot) : PyData.eqv (spotPy a) (spotPy b) = decide (a = b) := by
  show (decide (a.1 = b.1) && (decide (a.2 = b.2) && true)) = _
  rw [Bool.and_true]
  by_cases h : a = b
  · subst h; simp
  · rw [decide_eq_false h]
    by_cases h1 : a.1 = b.1
    · by_cases h2 : a.2 = b.2
      · exact absurd (Prod.ext h1 h2) h
      · simp [h2]
    · simp [h1]
theorem eqvAll_map {α : Type} [DecidableEq α] {g : α → PyData} (h : ∀ x y, PyData.eqv (g x) (g y) = decide (x = y)) : ∀ l m : List α, PyData.eqvAll (l.map g) (m.map g) = decide (l = m)
  | [], [] => rfl
  | [], _ :: _ => rfl
  | _ :: _, [] => rfl
  | x :: l, y :: m => by
    rw [List.map_cons, List.map_cons, PyData.eqvAll, h, eqvAll_map h l m]
    by_cases h1 : x = y
    · by_cases h2 : l = m
      · subst h1 h2; simp
      · simp [h2]
    · simp [h1]
theorem eqv_room (a b : Room) : PyData.eqv (roomPy a) (roomPy b) = decide (a = b) := eqvAll_map eqv_spot a b
theorem any_mem {α : Type} [DecidableEq α] {g : α → PyData} (h : ∀ x y, PyData.eqv (g x) (g y) = decide (x = y)) (a : α) : ∀ l : List α, ((l.map g).any fun b => PyData.eqv b (g a)) = decide (a ∈ l)
  | [] => rfl
  | x :: l => by
    rw [List.map_cons, List.any_cons, h, any_mem h a l]
    by_cases h1 : x = a
    · subst h1; simp
    · have : ¬ a = x := fun e => h1 e.symm
      simp [h1, this]
theorem in_spots (s : Spot) (l : List Spot) : inD (spotD s) (.lst (l.map spotD)) = some (decide (s ∈ l)) := by
  show (match (spotD s).py, pys (l.map spotD) with | some a, some bs => gd ((spotD s).dok 20) (bs.any fun b => PyData.eqv b a) | _, _ => none) = _
  rw [py_spot, pys_map py_spot]
  show gd true ((l.map spotPy).any fun b => PyData.eqv b (spotPy s)) = _
  rw [any_mem eqv_spot]
  exact congrArg some (decide_eq_decide.mpr Iff.rfl)
theorem dok_spot (s : Spot) (n : Nat) : (spotD s).dok (n + 1) = true := rfl
theorem doks_map {α : Type} {f : α → D} {n : Nat} (h : ∀ x, (f x).dok n = true) : ∀ l : List α, doks (l.map f) n = true
  | [] => rfl
  | x :: l => by rw [List.map_cons, doks, h, doks_map h l]; rfl
theorem dok_room (r : Room) (n : Nat) : (roomD r).dok (n + 2) = true := by
  show doks (r.map spotD) (n + 1) = true
  exact doks_map (fun s => dok_spot s n) r
theorem in_rooms (s : Room) (l : List Room) : inD (roomD s) (.lst (l.map roomD)) = some (decide (s ∈ l)) := by
  show (match (roomD s).py, pys (l.map roomD) with | some a, some bs => gd ((roomD s).dok 20) (bs.any fun b => PyData.eqv b a) | _, _ => none) = _
  rw [py_room, pys_map py_room, dok_room s 18]
  show some ((l.map roomPy).any fun b => PyData.eqv b (roomPy s)) = _
  rw [any_mem eqv_room]
  exact congrArg some (decide_eq_decide.mpr Iff.rfl)
theorem eq_room (a b : Room) : eqD (roomD a) (roomD b) = some (decide (a = b)) := by
  unfold eqD
  rw [py_room, py_room, dok_room b 18]
  show some (PyData.eqv (roomPy a) (roomPy b)) = _
  rw [eqv_room]
theorem eq_rooms (a b : List Room) : eqD (.lst (a.map roomD)) (.lst (b.map roomD)) = some (decide (a = b)) := by
  have e : ∀ l : List Room, (D.lst (l.map roomD)).py = some (.list (l.map roomPy)) := fun l => by
    show (pys (l.map roomD)).map PyData.list = _
    rw [pys_map py_room]; rfl
  have d : (D.lst (b.map roomD)).dok 20 = true := by
    show doks (b.map roomD) 19 = true
    exact doks_map (fun s => dok_room s 17) b
  unfold eqD
  rw [e, e, d]
  show some (PyData.eqvAll (a.map roomPy) (b.map roomPy)) = _
  rw [eqvAll_map eqv_room]
/-! first_broken, need_room, broken -/
theorem houD_eq (ts : List Th) (ks : List Tie) : houD ts ks = .hou (ts.map thD) (ks.map tieD) := rfl
theorem first_broken_ok {ts : List Th} {ks : List Tie} {r : Room} (h : ∀ k ∈ ks, tieIn r.length k) (ht : TrIn r) (hz : ks.length ≤ 1000) : F_first_broken.run [houD ts ks, roomD r] none = .ok (optD (firstS ks r)) none := by
  rw [houD_eq]
  simp (dsimp := false) (implicitDefEqProofs := false) only [F_first_broken, m_first_broken, List.length_map, sm62_t (i := (ks.length : Int)) (by omega) (by omega), SXA, Bool.and_true, Bool.true_and, Bool.and_false, Bool.false_and, Bool.or_true, Bool.true_or, Bool.or_false, Bool.false_or, Bool.not_true, Bool.not_false, List.length_cons, List.length_nil, Nat.zero_add, Nat.reduceAdd, Nat.reduceSub, Nat.reduceLeDiff, Nat.reduceMul, decide_true, decide_false, env0, List.map_cons, List.map_nil, List.replicate, List.cons_append, List.nil_append, List.append_nil, List.length_append, String.reduceEq, lfs_app, Int.reduceNeg, eq_self, if_true, if_false, Bool.false_eq_true, Int.reduceLE, Int.reduceLT, Int.reduceEq, Int.reduceSub, Int.reduceAdd, Int.reduceMul]
  generalize hF : forW _ _ _ _ _ = F
  refine for_find_e (items := List.range ks.length) (emb := natD) (fun S => ∃ o, S = [some (.hou (ts.map thD) (ks.map tieD)), some (roomD r), o]) (fun i => !(keepsS r (ks.getD i (.wi 0 0)))) natD hF (rng_nat _) ⟨_, rfl⟩ ?_ ?_ ?_
  · rintro i hi S ⟨o, rfl⟩
    have hi : i < ks.length := List.mem_range.mp hi
    have e : (ks.map tieD)[i]? = some (tieD ks[i]) := by rw [List.getElem?_map, List.getElem?_eq_getElem hi]; rfl
    have e2 : ks.getD i (.wi 0 0) = ks[i] := by rw [List.getD_eq_getElem?_getD, List.getElem?_eq_getElem hi]; rfl
    have hk := keeps_ok (h ks[i] (List.getElem_mem hi)) ht
    refine ⟨_, rfl, ?_⟩
    rw [e2]
    cases hb : keepsS r ks[i] with
    | true =>
      right
      refine ⟨rfl, ?_⟩
      simp (dsimp := false) (implicitDefEqProofs := false) only [natD, atI_nat, e, hk, hb, callFn_f (fn := F_keeps) rfl, lf_tieD, SXA, Bool.and_true, Bool.true_and, Bool.and_false, Bool.false_and, Bool.or_true, Bool.true_or, Bool.or_false, Bool.false_or, Bool.not_true, Bool.not_false, List.length_cons, List.length_nil, Nat.zero_add, Nat.reduceAdd, Nat.reduceSub, Nat.reduceLeDiff, Nat.reduceMul, decide_true, decide_false, env0, List.map_cons, List.map_nil, List.replicate, List.cons_append, List.nil_append, List.append_nil, List.length_append, String.reduceEq, lfs_app, Int.reduceNeg, eq_self, if_true, if_false, Bool.false_eq_true, Int.reduceLE, Int.reduceLT, Int.reduceEq, Int.reduceSub, Int.reduceAdd, Int.reduceMul]
      exact ⟨_, rfl, _, rfl⟩
    | false =>
      left
      refine ⟨rfl, ?_⟩
      simp (dsimp := false) (implicitDefEqProofs := false) only [natD, atI_nat, e, hk, hb, callFn_f (fn := F_keeps) rfl, lf_tieD, SXA, Bool.and_true, Bool.true_and, Bool.and_false, Bool.false_and, Bool.or_true, Bool.true_or, Bool.or_false, Bool.false_or, Bool.not_true, Bool.not_false, List.length_cons, List.length_nil, Nat.zero_add, Nat.reduceAdd, Nat.reduceSub, Nat.reduceLeDiff, Nat.reduceMul, decide_true, decide_false, env0, List.map_cons, List.map_nil, List.replicate, List.cons_append, List.nil_append, List.append_nil, List.length_append, String.reduceEq, lfs_app, Int.reduceNeg, eq_self, if_true, if_false, Bool.false_eq_true, Int.reduceLE, Int.reduceLT, Int.reduceEq, Int.reduceSub, Int.reduceAdd, Int.reduceMul]
  · rintro S2 h1 rfl ⟨o, rfl⟩
    simp (dsimp := false) (implicitDefEqProofs := false) only [SXA, Bool.and_true, Bool.true_and, Bool.and_false, Bool.false_and, Bool.or_true, Bool.true_or, Bool.or_false, Bool.false_or, Bool.not_true, Bool.not_false, List.length_cons, List.length_nil, Nat.zero_add, Nat.reduceAdd, Nat.reduceSub, Nat.reduceLeDiff, Nat.reduceMul, decide_true, decide_false, env0, List.map_cons, List.map_nil, List.replicate, List.cons_append, List.nil_append, List.append_nil, List.length_append, String.reduceEq, lfs_app, Int.reduceNeg, eq_self, if_true, if_false, Bool.false_eq_true, Int.reduceLE, Int.reduceLT, Int.reduceEq, Int.reduceSub, Int.reduceAdd, Int.reduceMul]
    unfold firstS
    rw [h1]; rfl
  · rintro i h1 rfl
    simp (dsimp := false) (implicitDefEqProofs := false) only [SXA, Bool.and_true, Bool.true_and, Bool.and_false, Bool.false_and, Bool.or_true, Bool.true_or, Bool.or_false, Bool.false_or, Bool.not_true, Bool.not_false, List.length_cons, List.length_nil, Nat.zero_add, Nat.reduceAdd, Nat.reduceSub, Nat.reduceLeDiff, Nat.reduceMul, decide_true, decide_false, env0, List.map_cons, List.map_nil, List.replicate, List.cons_append, List.nil_append, List.append_nil, List.length_append, String.reduceEq, lfs_app, Int.reduceNeg, eq_self, if_true, if_false, Bool.false_eq_true, Int.reduceLE, Int.reduceLT, Int.reduceEq, Int.reduceSub, Int.reduceAdd, Int.reduceMul]
    unfold firstS
    rw [h1]; rfl

theorem zip2_map {α β : Type} (f : α → D) (g : β → D) : ∀ (l : List α) (m : List β), zip2 (l.map f) (m.map g) = (l.zip m).map fun x => .tup [f x.1, g x.2]
  | [], _ => rfl
  | _ :: _, [] => rfl
  | x :: l, y :: m => by
    rw [List.map_cons, List.map_cons, zip2, zip2_map f g l m]; rfl
theorem need_room_ok {ts : List Th} (hm : msIn ts) (ks : List Tie) (r : Room) : F_need_room.run [houD ts ks, roomD r] none = if roomOkB ts r then .ok .non none else .ex ⟨"BadRoom", []⟩ none := by
  rw [houD_eq]
  show F_need_room.run [.hou (ts.map thD) (ks.map tieD), .tup (r.map spotD)] none = _
  simp (dsimp := false) (implicitDefEqProofs := false) only [F_need_room, m_need_room, List.length_map, SXA, Bool.and_true, Bool.true_and, Bool.and_false, Bool.false_and, Bool.or_true, Bool.true_or, Bool.or_false, Bool.false_or, Bool.not_true, Bool.not_false, List.length_cons, List.length_nil, Nat.zero_add, Nat.reduceAdd, Nat.reduceSub, Nat.reduceLeDiff, Nat.reduceMul, decide_true, decide_false, env0, List.map_cons, List.map_nil, List.replicate, List.cons_append, List.nil_append, List.append_nil, List.length_append, String.reduceEq, lfs_app, Int.reduceNeg, eq_self, if_true, if_false, Bool.false_eq_true, Int.reduceLE, Int.reduceLT, Int.reduceEq, Int.reduceSub, Int.reduceAdd, Int.reduceMul]
  unfold roomOkB
  by_cases hl : (r.length : Int) = (ts.length : Int)
  · have hl' : r.length = ts.length := by omega
    simp (dsimp := false) (implicitDefEqProofs := false) only [hl, SXA, Bool.and_true, Bool.true_and, Bool.and_false, Bool.false_and, Bool.or_true, Bool.true_or, Bool.or_false, Bool.false_or, Bool.not_true, Bool.not_false, List.length_cons, List.length_nil, Nat.zero_add, Nat.reduceAdd, Nat.reduceSub, Nat.reduceLeDiff, Nat.reduceMul, decide_true, decide_false, env0, List.map_cons, List.map_nil, List.replicate, List.cons_append, List.nil_append, List.append_nil, List.length_append, String.reduceEq, lfs_app, Int.reduceNeg, eq_self, if_true, if_false, Bool.false_eq_true, Int.reduceLE, Int.reduceLT, Int.reduceEq, Int.reduceSub, Int.reduceAdd, Int.reduceMul]
    rw [decide_eq_true hl', Bool.true_and]
    rw [zip2_map]
    generalize hF : forW _ _ _ _ _ = F
    refine for_raise_e (items := r.zip ts) (emb := fun x => .tup [spotD x.1, thD x.2]) (fun S => ∃ o o2, S = [some (.hou (ts.map thD) (ks.map tieD)), some (.tup (r.map spotD)), o, o2]) (fun x => !(decide (x.1 ∈ spotsS x.2.ms.length))) (fun _ => ⟨"BadRoom", []⟩) hF rfl ⟨_, _, rfl⟩ ?_ ?_ ?_
    · rintro ⟨s, t⟩ hx S ⟨o, o2, rfl⟩
      obtain ⟨h1, h3⟩ := hm t (List.of_mem_zip hx).2
      have hs := spots_ok t.ms h1 h3
      refine ⟨_, rfl, ?_⟩
      dsimp only
      cases hb : decide (s ∈ spotsS t.ms.length) with
      | true =>
        right
        refine ⟨rfl, ?_⟩
        simp (dsimp := false) (implicitDefEqProofs := false) only [thD, hs, in_spots, hb, callFn_f (fn := F_spots) rfl, lfs_intsL, SXA, Bool.and_true, Bool.true_and, Bool.and_false, Bool.false_and, Bool.or_true, Bool.true_or, Bool.or_false, Bool.false_or, Bool.not_true, Bool.not_false, List.length_cons, List.length_nil, Nat.zero_add, Nat.reduceAdd, Nat.reduceSub, Nat.reduceLeDiff, Nat.reduceMul, decide_true, decide_false, env0, List.map_cons, List.map_nil, List.replicate, List.cons_append, List.nil_append, List.append_nil, List.length_append, String.reduceEq, lfs_app, Int.reduceNeg, eq_self, if_true, if_false, Bool.false_eq_true, Int.reduceLE, Int.reduceLT, Int.reduceEq, Int.reduceSub, Int.reduceAdd, Int.reduceMul]
        exact ⟨_, rfl, _, _, rfl⟩
      | false =>
        left
        refine ⟨rfl, ?_⟩
        simp (dsimp := false) (implicitDefEqProofs := false) only [thD, hs, in_spots, hb, callFn_f (fn := F_spots) rfl, lfs_intsL, SXA, Bool.and_true, Bool.true_and, Bool.and_false, Bool.false_and, Bool.or_true, Bool.true_or, Bool.or_false, Bool.false_or, Bool.not_true, Bool.not_false, List.length_cons, List.length_nil, Nat.zero_add, Nat.reduceAdd, Nat.reduceSub, Nat.reduceLeDiff, Nat.reduceMul, decide_true, decide_false, env0, List.map_cons, List.map_nil, List.replicate, List.cons_append, List.nil_append, List.append_nil, List.length_append, String.reduceEq, lfs_app, Int.reduceNeg, eq_self, if_true, if_false, Bool.false_eq_true, Int.reduceLE, Int.reduceLT, Int.reduceEq, Int.reduceSub, Int.reduceAdd, Int.reduceMul]
        exact ⟨_, rfl⟩
    · rintro S2 h1 rfl ⟨o, o2, rfl⟩
      simp (dsimp := false) (implicitDefEqProofs := false) only [SXA, Bool.and_true, Bool.true_and, Bool.and_false, Bool.false_and, Bool.or_true, Bool.true_or, Bool.or_false, Bool.false_or, Bool.not_true, Bool.not_false, List.length_cons, List.length_nil, Nat.zero_add, Nat.reduceAdd, Nat.reduceSub, Nat.reduceLeDiff, Nat.reduceMul, decide_true, decide_false, env0, List.map_cons, List.map_nil, List.replicate, List.cons_append, List.nil_append, List.append_nil, List.length_append, String.reduceEq, lfs_app, Int.reduceNeg, eq_self, if_true, if_false, Bool.false_eq_true, Int.reduceLE, Int.reduceLT, Int.reduceEq, Int.reduceSub, Int.reduceAdd, Int.reduceMul]
      rw [List.find?_eq_none] at h1
      have e : ((r.zip ts).all fun x => decide (x.1 ∈ spotsS x.2.ms.length)) = true := by
        rw [List.all_eq_true]
        intro x hx
        have q := h1 x hx
        simp only [Bool.not_eq_true, Bool.not_eq_false'] at q
        exact q
      rw [e]; rfl
    · rintro x S2 h1 rfl
      simp (dsimp := false) (implicitDefEqProofs := false) only [SXA, Bool.and_true, Bool.true_and, Bool.and_false, Bool.false_and, Bool.or_true, Bool.true_or, Bool.or_false, Bool.false_or, Bool.not_true, Bool.not_false, List.length_cons, List.length_nil, Nat.zero_add, Nat.reduceAdd, Nat.reduceSub, Nat.reduceLeDiff, Nat.reduceMul, decide_true, decide_false, env0, List.map_cons, List.map_nil, List.replicate, List.cons_append, List.nil_append, List.append_nil, List.length_append, String.reduceEq, lfs_app, Int.reduceNeg, eq_self, if_true, if_false, Bool.false_eq_true, Int.reduceLE, Int.reduceLT, Int.reduceEq, Int.reduceSub, Int.reduceAdd, Int.reduceMul]
      have e : ((r.zip ts).all fun x => decide (x.1 ∈ spotsS x.2.ms.length)) = false := by
        cases q : ((r.zip ts).all fun x => decide (x.1 ∈ spotsS x.2.ms.length)) with
        | false => rfl
        | true =>
          rw [List.all_eq_true] at q
          have q2 := q x (List.mem_of_find?_eq_some h1)
          have q3 := List.find?_some h1
          rw [q2] at q3
          cases q3
      rw [e]; rfl
  · have hl' : ¬ r.length = ts.length := by omega
    simp (dsimp := false) (implicitDefEqProofs := false) only [hl, SXA, Bool.and_true, Bool.true_and, Bool.and_false, Bool.false_and, Bool.or_true, Bool.true_or, Bool.or_false, Bool.false_or, Bool.not_true, Bool.not_false, List.length_cons, List.length_nil, Nat.zero_add, Nat.reduceAdd, Nat.reduceSub, Nat.reduceLeDiff, Nat.reduceMul, decide_true, decide_false, env0, List.map_cons, List.map_nil, List.replicate, List.cons_append, List.nil_append, List.append_nil, List.length_append, String.reduceEq, lfs_app, Int.reduceNeg, eq_self, if_true, if_false, Bool.false_eq_true, Int.reduceLE, Int.reduceLT, Int.reduceEq, Int.reduceSub, Int.reduceAdd, Int.reduceMul]
    rw [decide_eq_false hl', Bool.false_and]
    rfl
theorem broken_ok {ts : List Th} {ks : List Tie} {r : Room} (hm : msIn ts) (h : ∀ k ∈ ks, tieIn ts.length k) (hz : ks.length ≤ 1000) (hr : roomOkB ts r = true) : F_broken.run [houD ts ks, roomD r] none = .ok (optD (firstS ks r)) none := by
  have h1 := need_room_ok hm ks r
  rw [hr, if_pos rfl] at h1
  have hl := roomOk_len hr
  have h2 := first_broken_ok (ts := ts) (fun k hk => by rw [hl]; exact h k hk) (roomOk_tr hr) hz
  simp (dsimp := false) (implicitDefEqProofs := false) only [F_broken, m_broken, callFn_f (fn := F_need_room) rfl, callFn_f (fn := F_first_broken) rfl, h1, h2, SXA, Bool.and_true, Bool.true_and, Bool.and_false, Bool.false_and, Bool.or_true, Bool.true_or, Bool.or_false, Bool.false_or, Bool.not_true, Bool.not_false, List.length_cons, List.length_nil, Nat.zero_add, Nat.reduceAdd, Nat.reduceSub, Nat.reduceLeDiff, Nat.reduceMul, decide_true, decide_false, env0, List.map_cons, List.map_nil, List.replicate, List.cons_append, List.nil_append, List.append_nil, List.length_append, String.reduceEq, lfs_app, Int.reduceNeg, eq_self, if_true, if_false, Bool.false_eq_true, Int.reduceLE, Int.reduceLT, Int.reduceEq, Int.reduceSub, Int.reduceAdd, Int.reduceMul]
theorem broken_bad {ts : List Th} {r : Room} (hm : msIn ts) (ks : List Tie) (hr : roomOkB ts r = false) : F_broken.run [houD ts ks, roomD r] none = .ex ⟨"BadRoom", []⟩ none := by
  have h1 := need_room_ok hm ks r
  rw [hr, if_neg (by decide)] at h1
  simp (dsimp := false) (implicitDefEqProofs := false) only [F_broken, m_broken, callFn_f (fn := F_need_room) rfl, h1, SXA, Bool.and_true, Bool.true_and, Bool.and_false, Bool.false_and, Bool.or_true, Bool.true_or, Bool.or_false, Bool.false_or, Bool.not_true, Bool.not_false, List.length_cons, List.length_nil, Nat.zero_add, Nat.reduceAdd, Nat.reduceSub, Nat.reduceLeDiff, Nat.reduceMul, decide_true, decide_false, env0, List.map_cons, List.map_nil, List.replicate, List.cons_append, List.nil_append, List.append_nil, List.length_append, String.reduceEq, lfs_app, Int.reduceNeg, eq_self, if_true, if_false, Bool.false_eq_true, Int.reduceLE, Int.reduceLT, Int.reduceEq, Int.reduceSub, Int.reduceAdd, Int.reduceMul]
end TH

set_option Elab.async false
set_option linter.all false
set_option maxRecDepth 100000
set_option maxHeartbeats 4000000
/-! KB: all_rows, rooms; the law's own. -/
namespace TH
open PySem PySem.Spec PyProof.Rows L2
/-- the rows made longer by one of l each -/
def longer (acc : List Room) (l : List Spot) : List Room := acc.flatMap fun one => l.map fun x => one ++ [x]
theorem longer_cons (x : Room) (acc : List Room) (l : List Spot) : longer (x :: acc) l = (l.map fun s => x ++ [s]) ++ longer acc l := by
  unfold longer
  rw [List.flatMap_cons]
theorem longer_len : ∀ (acc : List Room) (l : List Spot), (longer acc l).length = acc.length * l.length
  | [], l => by simp [longer]
  | x :: acc, l => by
    rw [longer_cons, List.length_append, List.length_map, longer_len acc l, List.length_cons, Nat.succ_mul, Nat.add_comm]
theorem roomD_snoc (one : Room) (x : Spot) : D.tup (one.map spotD ++ [spotD x]) = roomD (one ++ [x]) := by
  unfold roomD
  rw [List.map_append]; rfl
theorem lfs_rooms (l : List Room) : lfs (l.map roomD) = true := lfs_map lf_roomD l
theorem lfs_spots (l : List Spot) : lfs (l.map spotD) = true := lfs_map lf_spotD l
/-- sizes as the rows grow: n lists are left, of at most 15 each -/
def growOk (acc : List Room) (n : Nat) : Prop := n ≤ 3 ∧ acc.length ≤ 15 ^ (3 - n) ∧ ∀ x ∈ acc, x.length ≤ 3 - n
theorem grow_step {acc : List Room} {n : Nat} {l : List Spot} (h : growOk acc (n + 1)) (hl : l.length ≤ 15) : growOk (longer acc l) n := by
  obtain ⟨h1, h2, h3⟩ := h
  refine ⟨by omega, ?_, ?_⟩
  · rw [longer_len]
    have e : 15 ^ (3 - n) = 15 ^ (3 - (n + 1)) * 15 := by
      rw [← Nat.pow_succ]
      congr 1
      omega
    rw [e]
    exact Nat.mul_le_mul h2 hl
  · intro x hx
    unfold longer at hx
    rw [List.mem_flatMap] at hx
    obtain ⟨o, ho, hx⟩ := hx
    rw [List.mem_map] at hx
    obtain ⟨s, _, rfl⟩ := hx
    rw [List.length_append, List.length_singleton]
    have := h3 o ho
    omega
theorem grow_max {acc : List Room} {n : Nat} (h : growOk acc n) : acc.length ≤ 3375 := by
  have : 15 ^ (3 - n) ≤ 15 ^ 3 := Nat.pow_le_pow_right (by omega) (by omega)
  have := h.2.1
  omega
theorem roomsFrom_cons (l : List Spot) (ss : List (List Spot)) (acc : List Room) : roomsFrom (l :: ss) acc = roomsFrom ss (longer acc l) := rfl
def spotsD (l : List Spot) : D := .lst (l.map spotD)
theorem all_rows_ok {ss : List (List Spot)} (h3 : ss.length ≤ 3) (h15 : ∀ l ∈ ss, l.length ≤ 15) : F_all_rows.run [.lst (ss.map spotsD)] none = .ok (.lst ((roomsFrom ss [[]]).map roomD)) none := by
  simp (dsimp := false) (implicitDefEqProofs := false) only [F_all_rows, m_all_rows, SXA, Bool.and_true, Bool.true_and, Bool.and_false, Bool.false_and, Bool.or_true, Bool.true_or, Bool.or_false, Bool.false_or, Bool.not_true, Bool.not_false, List.length_cons, List.length_nil, Nat.zero_add, Nat.reduceAdd, Nat.reduceSub, Nat.reduceLeDiff, Nat.reduceMul, decide_true, decide_false, env0, List.map_cons, List.map_nil, List.replicate, List.cons_append, List.nil_append, List.append_nil, List.length_append, String.reduceEq, lfs_app, Int.reduceNeg, eq_self, if_true, if_false, Bool.false_eq_true, Int.reduceLE, Int.reduceLT, Int.reduceEq, Int.reduceSub, Int.reduceAdd, Int.reduceMul]
  generalize hF : forW _ _ _ _ _ = F
  refine for_inv_e (items := ss) (emb := spotsD) (fun rest S r => r = none ∧ (∀ l ∈ rest, l.length ≤ 15) ∧ ∃ acc o2 o3 o4 o5, S = [some (.lst (ss.map spotsD)), some (.lst (acc.map roomD)), o2, o3, o4, o5] ∧ roomsFrom rest acc = roomsFrom ss [[]] ∧ growOk acc rest.length) hF rfl ⟨rfl, h15, [[]], _, _, _, _, rfl, rfl, h3, ?_, ?_⟩ ?_ ?_
  · exact Nat.one_le_pow _ _ (by omega)
  · intro x hx
    rw [List.mem_singleton.mp hx]
    exact Nat.zero_le _
  · rintro l rest S r ⟨rfl, hr, acc, o2, o3, o4, o5, rfl, e, hg⟩
    refine ⟨_, rfl, ?_⟩
    simp (dsimp := false) (implicitDefEqProofs := false) only [spotsD, SXA, Bool.and_true, Bool.true_and, Bool.and_false, Bool.false_and, Bool.or_true, Bool.true_or, Bool.or_false, Bool.false_or, Bool.not_true, Bool.not_false, List.length_cons, List.length_nil, Nat.zero_add, Nat.reduceAdd, Nat.reduceSub, Nat.reduceLeDiff, Nat.reduceMul, decide_true, decide_false, env0, List.map_cons, List.map_nil, List.replicate, List.cons_append, List.nil_append, List.append_nil, List.length_append, String.reduceEq, lfs_app, Int.reduceNeg, eq_self, if_true, if_false, Bool.false_eq_true, Int.reduceLE, Int.reduceLT, Int.reduceEq, Int.reduceSub, Int.reduceAdd, Int.reduceMul]
    generalize hG : forW _ _ _ _ _ = G
    refine for_inv_e (items := acc) (emb := roomD) (fun rest' S r => r = none ∧ ∃ pre o4 o5, pre ++ rest' = acc ∧ S = [some (.lst (ss.map spotsD)), none, some (.lst (l.map spotD)), some (.lst ((longer pre l).map roomD)), o4, o5]) hG rfl ⟨rfl, [], _, _, rfl, rfl⟩ ?_ ?_
    · rintro one rest' S r ⟨rfl, pre, o4, o5, hp, rfl⟩
      have hone : one ∈ acc := by rw [← hp]; simp
      have hlen := hg.2.2 one hone
      have hmax := grow_max hg
      have hl15 := hr l List.mem_cons_self
      have hpl : pre.length ≤ acc.length := by rw [← hp, List.length_append]; omega
      have hll := longer_len pre l
      have hmul : pre.length * l.length ≤ 3375 * 15 := Nat.mul_le_mul (by omega) hl15
      refine ⟨_, rfl, ?_⟩
      simp (dsimp := false) (implicitDefEqProofs := false) only [SXA, Bool.and_true, Bool.true_and, Bool.and_false, Bool.false_and, Bool.or_true, Bool.true_or, Bool.or_false, Bool.false_or, Bool.not_true, Bool.not_false, List.length_cons, List.length_nil, Nat.zero_add, Nat.reduceAdd, Nat.reduceSub, Nat.reduceLeDiff, Nat.reduceMul, decide_true, decide_false, env0, List.map_cons, List.map_nil, List.replicate, List.cons_append, List.nil_append, List.append_nil, List.length_append, String.reduceEq, lfs_app, Int.reduceNeg, eq_self, if_true, if_false, Bool.false_eq_true, Int.reduceLE, Int.reduceLT, Int.reduceEq, Int.reduceSub, Int.reduceAdd, Int.reduceMul]
      rw [lc_all l spotD (fun s => roomD (one ++ [s])) rfl (by omega)]
      · simp (dsimp := false) (implicitDefEqProofs := false) only [SXA, Bool.and_true, Bool.true_and, Bool.and_false, Bool.false_and, Bool.or_true, Bool.true_or, Bool.or_false, Bool.false_or, Bool.not_true, Bool.not_false, List.length_cons, List.length_nil, Nat.zero_add, Nat.reduceAdd, Nat.reduceSub, Nat.reduceLeDiff, Nat.reduceMul, decide_true, decide_false, env0, List.map_cons, List.map_nil, List.replicate, List.cons_append, List.nil_append, List.append_nil, List.length_append, String.reduceEq, lfs_app, Int.reduceNeg, eq_self, if_true, if_false, Bool.false_eq_true, Int.reduceLE, Int.reduceLT, Int.reduceEq, Int.reduceSub, Int.reduceAdd, Int.reduceMul]
        rw [List.length_map, List.length_map, sz_t (by omega)]
        simp (dsimp := false) (implicitDefEqProofs := false) only [SXA, Bool.and_true, Bool.true_and, Bool.and_false, Bool.false_and, Bool.or_true, Bool.true_or, Bool.or_false, Bool.false_or, Bool.not_true, Bool.not_false, List.length_cons, List.length_nil, Nat.zero_add, Nat.reduceAdd, Nat.reduceSub, Nat.reduceLeDiff, Nat.reduceMul, decide_true, decide_false, env0, List.map_cons, List.map_nil, List.replicate, List.cons_append, List.nil_append, List.append_nil, List.length_append, String.reduceEq, lfs_app, Int.reduceNeg, eq_self, if_true, if_false, Bool.false_eq_true, Int.reduceLE, Int.reduceLT, Int.reduceEq, Int.reduceSub, Int.reduceAdd, Int.reduceMul]
        have e3 : longer (pre ++ [one]) l = longer pre l ++ (l.map fun s => one ++ [s]) := by
          unfold longer
          rw [List.flatMap_append]
          simp
        have e4 : (longer pre l).map roomD ++ l.map (fun s => roomD (one ++ [s])) = (longer (pre ++ [one]) l).map roomD := by
          rw [e3, List.map_append, List.map_map]
          rfl
        rw [e4]
        exact nxt_nx ⟨rfl, pre ++ [one], _, _, by rw [List.append_assoc]; exact hp, rfl⟩
      · intro s hs
        refine ⟨_, rfl, rfl, ?_⟩
        have hz : sz (one.length + 1) = true := sz_t (by omega)
        unfold roomD
        simp (dsimp := false) (implicitDefEqProofs := false) only [List.length_map, hz, SXA, Bool.and_true, Bool.true_and, Bool.and_false, Bool.false_and, Bool.or_true, Bool.true_or, Bool.or_false, Bool.false_or, Bool.not_true, Bool.not_false, List.length_cons, List.length_nil, Nat.zero_add, Nat.reduceAdd, Nat.reduceSub, Nat.reduceLeDiff, Nat.reduceMul, decide_true, decide_false, env0, List.map_cons, List.map_nil, List.replicate, List.cons_append, List.nil_append, List.append_nil, List.length_append, String.reduceEq, lfs_app, Int.reduceNeg, eq_self, if_true, if_false, Bool.false_eq_true, Int.reduceLE, Int.reduceLT, Int.reduceEq, Int.reduceSub, Int.reduceAdd, Int.reduceMul]
        rw [List.map_append]
        refine ⟨_, rfl, ?_⟩
        rw [lfs_spots]
        rfl
    · rintro S2 r2 rfl ⟨rfl, pre, o4, o5, hp, rfl⟩
      rw [List.append_nil] at hp
      subst hp
      simp (dsimp := false) (implicitDefEqProofs := false) only [SXA, Bool.and_true, Bool.true_and, Bool.and_false, Bool.false_and, Bool.or_true, Bool.true_or, Bool.or_false, Bool.false_or, Bool.not_true, Bool.not_false, List.length_cons, List.length_nil, Nat.zero_add, Nat.reduceAdd, Nat.reduceSub, Nat.reduceLeDiff, Nat.reduceMul, decide_true, decide_false, env0, List.map_cons, List.map_nil, List.replicate, List.cons_append, List.nil_append, List.append_nil, List.length_append, String.reduceEq, lfs_app, Int.reduceNeg, eq_self, if_true, if_false, Bool.false_eq_true, Int.reduceLE, Int.reduceLT, Int.reduceEq, Int.reduceSub, Int.reduceAdd, Int.reduceMul]
      exact nxt_nx ⟨rfl, fun m hm => hr m (List.mem_cons_of_mem _ hm), longer pre l, _, _, _, _, rfl, e, grow_step hg (hr l List.mem_cons_self)⟩
  · rintro S2 r2 rfl ⟨rfl, _, acc, o2, o3, o4, o5, rfl, e, hg⟩
    have e' : acc = roomsFrom ss [[]] := e
    simp (dsimp := false) (implicitDefEqProofs := false) only [lfs_rooms, SXA, Bool.and_true, Bool.true_and, Bool.and_false, Bool.false_and, Bool.or_true, Bool.true_or, Bool.or_false, Bool.false_or, Bool.not_true, Bool.not_false, List.length_cons, List.length_nil, Nat.zero_add, Nat.reduceAdd, Nat.reduceSub, Nat.reduceLeDiff, Nat.reduceMul, decide_true, decide_false, env0, List.map_cons, List.map_nil, List.replicate, List.cons_append, List.nil_append, List.append_nil, List.length_append, String.reduceEq, lfs_app, Int.reduceNeg, eq_self, if_true, if_false, Bool.false_eq_true, Int.reduceLE, Int.reduceLT, Int.reduceEq, Int.reduceSub, Int.reduceAdd, Int.reduceMul]
    rw [e']

theorem spotsS_len (k : Nat) (h : k ≤ 3) : (spotsS k).length ≤ 15 := by
  match k, h with
  | 0, _ => decide
  | 1, _ => decide
  | 2, _ => decide
  | 3, _ => decide
def allRooms (ts : List Th) : List Room := roomsFrom (ts.map fun t => spotsS t.ms.length) [[]]
theorem grow_from {n : Nat} : ∀ {ss : List (List Spot)} {acc : List Room}, growOk acc ss.length → (∀ l ∈ ss, l.length ≤ 15) → growOk (roomsFrom ss acc) 0
  | [], acc, h, _ => h
  | l :: ss, acc, h, h2 => by
    rw [roomsFrom_cons]
    exact grow_from (n := n) (grow_step h (h2 l List.mem_cons_self)) fun m hm => h2 m (List.mem_cons_of_mem _ hm)
theorem grow0 {n : Nat} (h : n ≤ 3) : growOk [[]] n := ⟨h, Nat.one_le_pow _ _ (by omega), fun x hx => by rw [List.mem_singleton.mp hx]; exact Nat.zero_le _⟩
theorem rooms_len {ts : List Th} (hm : msIn ts) (h3 : ts.length ≤ 3) : (allRooms ts).length ≤ 3375 := by
  refine grow_max (grow_from (n := 0) (grow0 (by rw [List.length_map]; exact h3)) ?_)
  intro l hl
  rw [List.mem_map] at hl
  obtain ⟨t, ht, rfl⟩ := hl
  exact spotsS_len _ (hm t ht).2
/-- a row of the first k things of ts -/
def preOk : List (List Spot) → Room → Prop
  | [], [] => True
  | l :: ls, s :: r => s ∈ l ∧ preOk ls r
  | _, _ => False
theorem preOk_snoc : ∀ {ls : List (List Spot)} {r : Room} {l : List Spot} {s : Spot}, preOk ls r → s ∈ l → preOk (ls ++ [l]) (r ++ [s])
  | [], [], l, s, _, hs => ⟨hs, trivial⟩
  | [], _ :: _, _, _, h, _ => h.elim
  | _ :: _, [], _, _, h, _ => h.elim
  | l0 :: ls, s0 :: r, l, s, h, hs => ⟨h.1, preOk_snoc h.2 hs⟩
theorem from_pre : ∀ {ss : List (List Spot)} {acc : List Room} {done : List (List Spot)}, (∀ x ∈ acc, preOk done x) → ∀ x ∈ roomsFrom ss acc, preOk (done ++ ss) x
  | [], acc, done, h, x, hx => by rw [List.append_nil]; exact h x hx
  | l :: ss, acc, done, h, x, hx => by
    rw [roomsFrom_cons] at hx
    have := from_pre (done := done ++ [l]) (ss := ss) (acc := longer acc l) (fun y hy => by
      unfold longer at hy
      rw [List.mem_flatMap] at hy
      obtain ⟨o, ho, hy⟩ := hy
      rw [List.mem_map] at hy
      obtain ⟨s, hs, rfl⟩ := hy
      exact preOk_snoc (h o ho) hs) x hx
    rwa [List.append_assoc] at this
theorem preOk_room : ∀ {ts : List Th} {r : Room}, preOk (ts.map fun t => spotsS t.ms.length) r → roomOkB ts r = true
  | [], [], _ => rfl
  | [], _ :: _, h => h.elim
  | _ :: _, [], h => h.elim
  | t :: ts, s :: r, h => by
    have h2 := preOk_room (ts := ts) (r := r) h.2
    unfold roomOkB at h2 ⊢
    rw [Bool.and_eq_true] at h2 ⊢
    rw [List.zip_cons_cons, List.all_cons, List.length_cons, List.length_cons, Bool.and_eq_true]
    refine ⟨decide_eq_true ?_, decide_eq_true h.1, h2.2⟩
    rw [of_decide_eq_true h2.1]
theorem allRooms_ok {ts : List Th} {r : Room} (h : r ∈ allRooms ts) : roomOkB ts r = true := by
  apply preOk_room
  have := from_pre (done := []) (ss := ts.map fun t => spotsS t.ms.length) (acc := [[]]) (fun x hx => by rw [List.mem_singleton.mp hx]; trivial) r (show r ∈ roomsFrom (ts.map fun t => spotsS t.ms.length) [[]] from h)
  rwa [List.nil_append] at this
def goodRooms (ts : List Th) (ks : List Tie) : List Room := (allRooms ts).filter fun r => (firstS ks r).isNone
theorem isNon_opt (o : Option Nat) : isNon (optD o) = o.isNone := by cases o <;> rfl
theorem rooms_ok {ts : List Th} {ks : List Tie} (hm : msIn ts) (h3 : ts.length ≤ 3) (h : ∀ k ∈ ks, tieIn ts.length k) (hz : ks.length ≤ 1000) : F_rooms.run [houD ts ks] none = .ok (.lst ((goodRooms ts ks).map roomD)) none := by
  rw [houD_eq]
  simp (dsimp := false) (implicitDefEqProofs := false) only [F_rooms, m_rooms, SXA, Bool.and_true, Bool.true_and, Bool.and_false, Bool.false_and, Bool.or_true, Bool.true_or, Bool.or_false, Bool.false_or, Bool.not_true, Bool.not_false, List.length_cons, List.length_nil, Nat.zero_add, Nat.reduceAdd, Nat.reduceSub, Nat.reduceLeDiff, Nat.reduceMul, decide_true, decide_false, env0, List.map_cons, List.map_nil, List.replicate, List.cons_append, List.nil_append, List.append_nil, List.length_append, String.reduceEq, lfs_app, Int.reduceNeg, eq_self, if_true, if_false, Bool.false_eq_true, Int.reduceLE, Int.reduceLT, Int.reduceEq, Int.reduceSub, Int.reduceAdd, Int.reduceMul]
  rw [lc_all ts thD (fun t => spotsD (spotsS t.ms.length)) rfl (by omega)]
  · have e : (ts.map fun t => spotsD (spotsS t.ms.length)) = ((ts.map fun t => spotsS t.ms.length).map spotsD) := by rw [List.map_map]; rfl
    rw [e]
    have ha : F_all_rows.run [.lst ((ts.map fun t => spotsS t.ms.length).map spotsD)] none = .ok (.lst ((allRooms ts).map roomD)) none := all_rows_ok (ss := ts.map fun t => spotsS t.ms.length) (by rw [List.length_map]; exact h3) (by
      intro l hl
      rw [List.mem_map] at hl
      obtain ⟨t, ht, rfl⟩ := hl
      exact spotsS_len _ (hm t ht).2)
    simp (dsimp := false) (implicitDefEqProofs := false) only [callFn_f (fn := F_all_rows) rfl, ha, SXA, Bool.and_true, Bool.true_and, Bool.and_false, Bool.false_and, Bool.or_true, Bool.true_or, Bool.or_false, Bool.false_or, Bool.not_true, Bool.not_false, List.length_cons, List.length_nil, Nat.zero_add, Nat.reduceAdd, Nat.reduceSub, Nat.reduceLeDiff, Nat.reduceMul, decide_true, decide_false, env0, List.map_cons, List.map_nil, List.replicate, List.cons_append, List.nil_append, List.append_nil, List.length_append, String.reduceEq, lfs_app, Int.reduceNeg, eq_self, if_true, if_false, Bool.false_eq_true, Int.reduceLE, Int.reduceLT, Int.reduceEq, Int.reduceSub, Int.reduceAdd, Int.reduceMul]
    have hlen := rooms_len hm h3
    rw [lc_map (allRooms ts) roomD (fun r => (firstS ks r).isNone) roomD rfl (by omega)]
    · simp (dsimp := false) (implicitDefEqProofs := false) only [SXA, Bool.and_true, Bool.true_and, Bool.and_false, Bool.false_and, Bool.or_true, Bool.true_or, Bool.or_false, Bool.false_or, Bool.not_true, Bool.not_false, List.length_cons, List.length_nil, Nat.zero_add, Nat.reduceAdd, Nat.reduceSub, Nat.reduceLeDiff, Nat.reduceMul, decide_true, decide_false, env0, List.map_cons, List.map_nil, List.replicate, List.cons_append, List.nil_append, List.append_nil, List.length_append, String.reduceEq, lfs_app, Int.reduceNeg, eq_self, if_true, if_false, Bool.false_eq_true, Int.reduceLE, Int.reduceLT, Int.reduceEq, Int.reduceSub, Int.reduceAdd, Int.reduceMul]
      rfl
    · intro r hr
      have hok := allRooms_ok hr
      have hl := roomOk_len hok
      have h2 := first_broken_ok (ts := ts) (fun k hk => by rw [hl]; exact h k hk) (roomOk_tr hok) hz
      rw [houD_eq] at h2
      refine ⟨_, rfl, ?_, fun _ => ?_⟩
      · simp (dsimp := false) (implicitDefEqProofs := false) only [callFn_f (fn := F_first_broken) rfl, h2, isNon_opt, SXA, Bool.and_true, Bool.true_and, Bool.and_false, Bool.false_and, Bool.or_true, Bool.true_or, Bool.or_false, Bool.false_or, Bool.not_true, Bool.not_false, List.length_cons, List.length_nil, Nat.zero_add, Nat.reduceAdd, Nat.reduceSub, Nat.reduceLeDiff, Nat.reduceMul, decide_true, decide_false, env0, List.map_cons, List.map_nil, List.replicate, List.cons_append, List.nil_append, List.append_nil, List.length_append, String.reduceEq, lfs_app, Int.reduceNeg, eq_self, if_true, if_false, Bool.false_eq_true, Int.reduceLE, Int.reduceLT, Int.reduceEq, Int.reduceSub, Int.reduceAdd, Int.reduceMul]
      · simp (dsimp := false) (implicitDefEqProofs := false) only [lf_roomD, SXA, Bool.and_true, Bool.true_and, Bool.and_false, Bool.false_and, Bool.or_true, Bool.true_or, Bool.or_false, Bool.false_or, Bool.not_true, Bool.not_false, List.length_cons, List.length_nil, Nat.zero_add, Nat.reduceAdd, Nat.reduceSub, Nat.reduceLeDiff, Nat.reduceMul, decide_true, decide_false, env0, List.map_cons, List.map_nil, List.replicate, List.cons_append, List.nil_append, List.append_nil, List.length_append, String.reduceEq, lfs_app, Int.reduceNeg, eq_self, if_true, if_false, Bool.false_eq_true, Int.reduceLE, Int.reduceLT, Int.reduceEq, Int.reduceSub, Int.reduceAdd, Int.reduceMul]
        exact ⟨_, rfl, trivial⟩
  · intro t ht
    obtain ⟨h1, h3⟩ := hm t ht
    have hs := spots_ok t.ms h1 h3
    refine ⟨_, rfl, rfl, ?_⟩
    simp (dsimp := false) (implicitDefEqProofs := false) only [thD, callFn_f (fn := F_spots) rfl, hs, lfs_intsL, SXA, Bool.and_true, Bool.true_and, Bool.and_false, Bool.false_and, Bool.or_true, Bool.true_or, Bool.or_false, Bool.false_or, Bool.not_true, Bool.not_false, List.length_cons, List.length_nil, Nat.zero_add, Nat.reduceAdd, Nat.reduceSub, Nat.reduceLeDiff, Nat.reduceMul, decide_true, decide_false, env0, List.map_cons, List.map_nil, List.replicate, List.cons_append, List.nil_append, List.append_nil, List.length_append, String.reduceEq, lfs_app, Int.reduceNeg, eq_self, if_true, if_false, Bool.false_eq_true, Int.reduceLE, Int.reduceLT, Int.reduceEq, Int.reduceSub, Int.reduceAdd, Int.reduceMul]
    exact ⟨true, rfl, rfl⟩
end TH

set_option Elab.async false
set_option linter.all false
set_option maxRecDepth 100000
set_option maxHeartbeats 4000000
/-! KC: what the laws draw. -/
namespace TH
open PySem PySem.Spec PyProof.Rows L2
def RowL (l : List D) : Prop := ∃ (ns : List Int) (i h : Int), l = [.scr ns, .int i, .int h] ∧ 0 ≤ i
theorem taken_ok {l : List D} (hr : RowL l) {m : Int} (hm : 0 < m) : ∃ v l2, F_law_taken.run [.int m] (some l) = .ok (.int v) (some l2) ∧ (0 ≤ v ∧ v < m) ∧ RowL l2 := by
  obtain ⟨ns, i, h, rfl, hi⟩ := hr
  simp (dsimp := false) (implicitDefEqProofs := false) only [F_law_taken, m_law_taken, SXA, Bool.and_true, Bool.true_and, Bool.and_false, Bool.false_and, Bool.or_true, Bool.true_or, Bool.or_false, Bool.false_or, Bool.not_true, Bool.not_false, List.length_cons, List.length_nil, Nat.zero_add, Nat.reduceAdd, Nat.reduceSub, Nat.reduceLeDiff, Nat.reduceMul, decide_true, decide_false, env0, List.map_cons, List.map_nil, List.replicate, List.cons_append, List.nil_append, List.append_nil, List.length_append, String.reduceEq, lfs_app, Int.reduceNeg, eq_self, if_true, if_false, Bool.false_eq_true, Int.reduceLE, Int.reduceLT, Int.reduceEq, Int.reduceSub, Int.reduceAdd, Int.reduceMul]
  by_cases hb : (ns.length : Int) < i + 1
  · simp (dsimp := false) (implicitDefEqProofs := false) only [hb, hm, SXA, Bool.and_true, Bool.true_and, Bool.and_false, Bool.false_and, Bool.or_true, Bool.true_or, Bool.or_false, Bool.false_or, Bool.not_true, Bool.not_false, List.length_cons, List.length_nil, Nat.zero_add, Nat.reduceAdd, Nat.reduceSub, Nat.reduceLeDiff, Nat.reduceMul, decide_true, decide_false, env0, List.map_cons, List.map_nil, List.replicate, List.cons_append, List.nil_append, List.append_nil, List.length_append, String.reduceEq, lfs_app, Int.reduceNeg, eq_self, if_true, if_false, Bool.false_eq_true, Int.reduceLE, Int.reduceLT, Int.reduceEq, Int.reduceSub, Int.reduceAdd, Int.reduceMul]
    exact ⟨_, _, rfl, ⟨Int.emod_nonneg _ (by omega), Int.emod_lt_of_pos _ hm⟩, ns, _, _, rfl, by omega⟩
  · obtain ⟨c, hc⟩ : ∃ c, atI ns (i + 1 - 1) = some c := by
      obtain ⟨n, rfl⟩ := Int.eq_ofNat_of_zero_le hi
      rw [show (n : Int) + 1 - 1 = (n : Int) by omega, atI_nat]
      have : n < ns.length := by omega
      exact ⟨_, List.getElem?_eq_getElem this⟩
    simp (dsimp := false) (implicitDefEqProofs := false) only [hb, hm, hc, SXA, Bool.and_true, Bool.true_and, Bool.and_false, Bool.false_and, Bool.or_true, Bool.true_or, Bool.or_false, Bool.false_or, Bool.not_true, Bool.not_false, List.length_cons, List.length_nil, Nat.zero_add, Nat.reduceAdd, Nat.reduceSub, Nat.reduceLeDiff, Nat.reduceMul, decide_true, decide_false, env0, List.map_cons, List.map_nil, List.replicate, List.cons_append, List.nil_append, List.append_nil, List.length_append, String.reduceEq, lfs_app, Int.reduceNeg, eq_self, if_true, if_false, Bool.false_eq_true, Int.reduceLE, Int.reduceLT, Int.reduceEq, Int.reduceSub, Int.reduceAdd, Int.reduceMul]
    exact ⟨_, _, rfl, ⟨Int.emod_nonneg _ (by omega), Int.emod_lt_of_pos _ hm⟩, ns, _, _, rfl, by omega⟩
theorem atI_last {α : Type} {xs : List α} (h : xs ≠ []) : atI xs (-1) = xs.getLast? := by
  cases xs with
  | nil => exact absurd rfl h
  | cons x xs => exact atI_m x xs
theorem last_ints (l : List Int) : (intsL l).getLast? = l.getLast?.map .int := by
  unfold intsL
  rw [List.getLast?_map]
theorem gap2_snoc : ∀ {l : List Int} {e e' : Int}, gap2 l → l.getLast? = some e → e + 2 ≤ e' → gap2 (l ++ [e'])
  | [], _, _, _, h, _ => by cases h
  | [a], e, e', _, h, h2 => by
    cases h
    exact ⟨h2, trivial⟩
  | a :: b :: r, e, e', h, h1, h2 => by
    refine ⟨h.1, ?_⟩
    exact gap2_snoc (l := b :: r) h.2 (by rw [← h1]; simp) h2
theorem gap2_last : ∀ {l : List Int} {e d : Int}, gap2 l → l.getLast? = some e → d ∈ l → d ≤ e
  | [], _, _, _, h, _ => by cases h
  | [a], e, d, _, h, hd => by
    have h' : a = e := Option.some.inj h
    rw [List.mem_singleton.mp hd, h']
    exact Int.le_refl e
  | a :: b :: r, e, d, h, h1, hd => by
    have h1' : (b :: r).getLast? = some e := by rw [← h1]; simp
    rcases List.mem_cons.mp hd with hd | hd
    · have := gap2_last h.2 h1' (List.mem_cons_self (a := b) (l := r))
      have := h.1
      omega
    · exact gap2_last h.2 h1' hd
theorem gap2_shift (c : Int) : ∀ {l : List Int}, gap2 l → gap2 (l.map fun m => c + m)
  | [], _ => trivial
  | [a], _ => trivial
  | a :: b :: r, h => by
    refine ⟨?_, gap2_shift c (l := b :: r) h.2⟩
    have := h.1
    show c + a + 2 ≤ c + b
    omega
theorem intsL_app (a b : List Int) : intsL (a ++ b) = intsL a ++ intsL b := List.map_append
theorem range1 {n : Int} {k : Nat} (h : n = (k : Int)) (hk : k ≤ 1000000) : gd (sm62 n) (rng 0 n) = some ((List.range k).map natD) := by
  rw [sm62_t (by omega) (by omega), h, rng_nat]; rfl
theorem marks_ok {l : List D} (hr : RowL l) {many : Nat} {far : Int} (h1 : 1 ≤ many) (h3 : many ≤ 3) (hf : 1 ≤ far) (hf2 : far ≤ 60) :
    ∃ ms l2, F_law_marks.run [.int many, .int far] (some l) = .ok (.tup (intsL ms)) (some l2) ∧ (ms.length = many ∧ marksOk ms) ∧ RowL l2 := by
  simp (dsimp := false) (implicitDefEqProofs := false) only [F_law_marks, m_law_marks, range1 (n := (many : Int) - 1) (k := many - 1) (by omega) (by omega), SXA, Bool.and_true, Bool.true_and, Bool.and_false, Bool.false_and, Bool.or_true, Bool.true_or, Bool.or_false, Bool.false_or, Bool.not_true, Bool.not_false, List.length_cons, List.length_nil, Nat.zero_add, Nat.reduceAdd, Nat.reduceSub, Nat.reduceLeDiff, Nat.reduceMul, decide_true, decide_false, env0, List.map_cons, List.map_nil, List.replicate, List.cons_append, List.nil_append, List.append_nil, List.length_append, String.reduceEq, lfs_app, Int.reduceNeg, eq_self, if_true, if_false, Bool.false_eq_true, Int.reduceLE, Int.reduceLT, Int.reduceEq, Int.reduceSub, Int.reduceAdd, Int.reduceMul]
  generalize hF : forW _ _ _ _ _ = F
  refine for_inv_e (items := List.range (many - 1)) (emb := natD) (fun rest S r => ∃ l o x, r = some l ∧ RowL l ∧ S = [none, some (.int many), some (.int far), some (.lst (intsL x)), o, none, none] ∧ x.length + rest.length = many ∧ x ≠ [] ∧ gap2 x ∧ ∀ e ∈ x, 0 ≤ e ∧ e ≤ 61 * ((x.length : Int) - 1)) hF rfl ⟨_, _, [0], rfl, hr, rfl, by rw [List.length_range, List.length_singleton]; omega, by simp, trivial, by simp⟩ ?_ ?_
  · rintro i rest S r ⟨l, o, x, rfl, hl, rfl, hlen, hne, hg, hb⟩
    refine ⟨_, rfl, ?_⟩
    obtain ⟨e, he⟩ : ∃ e, x.getLast? = some e := ⟨_, List.getLast?_eq_some_getLast hne⟩
    have hne' : intsL x ≠ [] := by simpa [intsL] using hne
    have hix : atI (intsL x) (-1) = some (.int e) := by rw [atI_last hne', last_ints, he]; rfl
    obtain ⟨v, l2, ev, hv, hl2⟩ := taken_ok hl (m := far) (by omega)
    have hz : x.length ≤ 3 := by rw [List.length_cons] at hlen; omega
    have hsz : sz (intsL x).length = true := sz_t (by unfold intsL; rw [List.length_map]; omega)
    simp (dsimp := false) (implicitDefEqProofs := false) only [hix, callFn_t (fn := F_law_taken) rfl, ev, lfs_intsL, hsz, SXA, Bool.and_true, Bool.true_and, Bool.and_false, Bool.false_and, Bool.or_true, Bool.true_or, Bool.or_false, Bool.false_or, Bool.not_true, Bool.not_false, List.length_cons, List.length_nil, Nat.zero_add, Nat.reduceAdd, Nat.reduceSub, Nat.reduceLeDiff, Nat.reduceMul, decide_true, decide_false, env0, List.map_cons, List.map_nil, List.replicate, List.cons_append, List.nil_append, List.append_nil, List.length_append, String.reduceEq, lfs_app, Int.reduceNeg, eq_self, if_true, if_false, Bool.false_eq_true, Int.reduceLE, Int.reduceLT, Int.reduceEq, Int.reduceSub, Int.reduceAdd, Int.reduceMul]
    refine nxt_nx ⟨l2, _, x ++ [e + 2 + v], rfl, hl2, by rw [intsL_app]; rfl, ?_, by simp, gap2_snoc hg he (by omega), ?_⟩
    · rw [List.length_append, List.length_singleton]
      rw [List.length_cons] at hlen
      omega
    · intro d hd
      rw [List.length_append, List.length_singleton]
      have hem := hb e (List.mem_of_getLast? he)
      rcases List.mem_append.mp hd with hd | hd
      · have := hb d hd
        omega
      · rw [List.mem_singleton.mp hd]
        omega
  · rintro S2 r2 rfl ⟨l, o, x, rfl, hl, rfl, hlen, hne, hg, hb⟩
    rw [List.length_nil, Nat.add_zero] at hlen
    obtain ⟨e, he⟩ : ∃ e, x.getLast? = some e := ⟨_, List.getLast?_eq_some_getLast hne⟩
    have hne' : intsL x ≠ [] := by simpa [intsL] using hne
    have hix : atI (intsL x) (-1) = some (.int e) := by rw [atI_last hne', last_ints, he]; rfl
    have hem := hb e (List.mem_of_getLast? he)
    have hxe : ∀ d ∈ x, 0 ≤ d ∧ d ≤ e := by
      intro d hd
      exact ⟨(hb d hd).1, gap2_last hg he hd⟩
    obtain ⟨v, l2, ev, hv, hl2⟩ := taken_ok hl (m := 199 - e) (by omega)
    obtain ⟨v2, l3, ev2, hv2, hl3⟩ := taken_ok hl2 (m := 6) (by omega)
    have fin : ∀ (g : Int) (lz : List D), RowL lz → -99 ≤ g → g ≤ 99 - e → ∃ ms l2, (Out.ok (D.tup (x.map fun d => D.int (g + d))) (some lz) : Out D) = .ok (.tup (intsL ms)) (some l2) ∧ (ms.length = many ∧ marksOk ms) ∧ RowL l2 := by
      intro g lz hz h4 h5
      refine ⟨x.map fun d => g + d, lz, ?_, ⟨by rw [List.length_map, hlen], ?_, ?_, ?_, gap2_shift g hg⟩, hz⟩
      · unfold intsL
        rw [List.map_map]
        rfl
      · rw [List.length_map]; omega
      · rw [List.length_map]; omega
      · intro m hm
        rw [List.mem_map] at hm
        obtain ⟨d, hd, rfl⟩ := hm
        have := hxe d hd
        omega
    simp (dsimp := false) (implicitDefEqProofs := false) only [hix, callFn_t (fn := F_law_taken) rfl, ev, ev2, lfs_intsL, SXA, Bool.and_true, Bool.true_and, Bool.and_false, Bool.false_and, Bool.or_true, Bool.true_or, Bool.or_false, Bool.false_or, Bool.not_true, Bool.not_false, List.length_cons, List.length_nil, Nat.zero_add, Nat.reduceAdd, Nat.reduceSub, Nat.reduceLeDiff, Nat.reduceMul, decide_true, decide_false, env0, List.map_cons, List.map_nil, List.replicate, List.cons_append, List.nil_append, List.append_nil, List.length_append, String.reduceEq, lfs_app, Int.reduceNeg, eq_self, if_true, if_false, Bool.false_eq_true, Int.reduceLE, Int.reduceLT, Int.reduceEq, Int.reduceSub, Int.reduceAdd, Int.reduceMul]
    have hlf : ∀ g : Int, lfs (x.map fun d => D.int (g + d)) = true := fun g => lfs_map (f := fun d => D.int (g + d)) (fun _ => rfl) x
    by_cases h5 : v2 = 5
    · obtain ⟨v3, l4, ev3, hv3, hl4⟩ := taken_ok hl3 (m := 2) (by omega)
      have hv3' : v3 = 0 ∨ v3 = 1 := by omega
      rcases hv3' with rfl | rfl
      · simp (dsimp := false) (implicitDefEqProofs := false) only [h5, hix, callFn_t (fn := F_law_taken) rfl, ev3, lfs_intsL, SXA, Bool.and_true, Bool.true_and, Bool.and_false, Bool.false_and, Bool.or_true, Bool.true_or, Bool.or_false, Bool.false_or, Bool.not_true, Bool.not_false, List.length_cons, List.length_nil, Nat.zero_add, Nat.reduceAdd, Nat.reduceSub, Nat.reduceLeDiff, Nat.reduceMul, decide_true, decide_false, env0, List.map_cons, List.map_nil, List.replicate, List.cons_append, List.nil_append, List.append_nil, List.length_append, String.reduceEq, lfs_app, Int.reduceNeg, eq_self, if_true, if_false, Bool.false_eq_true, Int.reduceLE, Int.reduceLT, Int.reduceEq, Int.reduceSub, Int.reduceAdd, Int.reduceMul]
        rw [lc_all (ds := intsL x) x D.int (fun d => .int (-99 + d)) rfl (by omega)]
        · simp (dsimp := false) (implicitDefEqProofs := false) only [hlf, SXA, Bool.and_true, Bool.true_and, Bool.and_false, Bool.false_and, Bool.or_true, Bool.true_or, Bool.or_false, Bool.false_or, Bool.not_true, Bool.not_false, List.length_cons, List.length_nil, Nat.zero_add, Nat.reduceAdd, Nat.reduceSub, Nat.reduceLeDiff, Nat.reduceMul, decide_true, decide_false, env0, List.map_cons, List.map_nil, List.replicate, List.cons_append, List.nil_append, List.append_nil, List.length_append, String.reduceEq, lfs_app, Int.reduceNeg, eq_self, if_true, if_false, Bool.false_eq_true, Int.reduceLE, Int.reduceLT, Int.reduceEq, Int.reduceSub, Int.reduceAdd, Int.reduceMul]
          exact fin (-99) _ hl4 (by omega) (by omega)
        · intro d hd
          refine ⟨_, rfl, rfl, ?_⟩
          simp (dsimp := false) (implicitDefEqProofs := false) only [SXA, Bool.and_true, Bool.true_and, Bool.and_false, Bool.false_and, Bool.or_true, Bool.true_or, Bool.or_false, Bool.false_or, Bool.not_true, Bool.not_false, List.length_cons, List.length_nil, Nat.zero_add, Nat.reduceAdd, Nat.reduceSub, Nat.reduceLeDiff, Nat.reduceMul, decide_true, decide_false, env0, List.map_cons, List.map_nil, List.replicate, List.cons_append, List.nil_append, List.append_nil, List.length_append, String.reduceEq, lfs_app, Int.reduceNeg, eq_self, if_true, if_false, Bool.false_eq_true, Int.reduceLE, Int.reduceLT, Int.reduceEq, Int.reduceSub, Int.reduceAdd, Int.reduceMul]
          exact ⟨true, rfl, trivial⟩
      · simp (dsimp := false) (implicitDefEqProofs := false) only [h5, hix, callFn_t (fn := F_law_taken) rfl, ev3, lfs_intsL, SXA, Bool.and_true, Bool.true_and, Bool.and_false, Bool.false_and, Bool.or_true, Bool.true_or, Bool.or_false, Bool.false_or, Bool.not_true, Bool.not_false, List.length_cons, List.length_nil, Nat.zero_add, Nat.reduceAdd, Nat.reduceSub, Nat.reduceLeDiff, Nat.reduceMul, decide_true, decide_false, env0, List.map_cons, List.map_nil, List.replicate, List.cons_append, List.nil_append, List.append_nil, List.length_append, String.reduceEq, lfs_app, Int.reduceNeg, eq_self, if_true, if_false, Bool.false_eq_true, Int.reduceLE, Int.reduceLT, Int.reduceEq, Int.reduceSub, Int.reduceAdd, Int.reduceMul]
        rw [lc_all (ds := intsL x) x D.int (fun d => .int ((99 - e) + d)) rfl (by omega)]
        · simp (dsimp := false) (implicitDefEqProofs := false) only [hlf, SXA, Bool.and_true, Bool.true_and, Bool.and_false, Bool.false_and, Bool.or_true, Bool.true_or, Bool.or_false, Bool.false_or, Bool.not_true, Bool.not_false, List.length_cons, List.length_nil, Nat.zero_add, Nat.reduceAdd, Nat.reduceSub, Nat.reduceLeDiff, Nat.reduceMul, decide_true, decide_false, env0, List.map_cons, List.map_nil, List.replicate, List.cons_append, List.nil_append, List.append_nil, List.length_append, String.reduceEq, lfs_app, Int.reduceNeg, eq_self, if_true, if_false, Bool.false_eq_true, Int.reduceLE, Int.reduceLT, Int.reduceEq, Int.reduceSub, Int.reduceAdd, Int.reduceMul]
          exact fin (99 - e) _ hl4 (by omega) (by omega)
        · intro d hd
          refine ⟨_, rfl, rfl, ?_⟩
          simp (dsimp := false) (implicitDefEqProofs := false) only [SXA, Bool.and_true, Bool.true_and, Bool.and_false, Bool.false_and, Bool.or_true, Bool.true_or, Bool.or_false, Bool.false_or, Bool.not_true, Bool.not_false, List.length_cons, List.length_nil, Nat.zero_add, Nat.reduceAdd, Nat.reduceSub, Nat.reduceLeDiff, Nat.reduceMul, decide_true, decide_false, env0, List.map_cons, List.map_nil, List.replicate, List.cons_append, List.nil_append, List.append_nil, List.length_append, String.reduceEq, lfs_app, Int.reduceNeg, eq_self, if_true, if_false, Bool.false_eq_true, Int.reduceLE, Int.reduceLT, Int.reduceEq, Int.reduceSub, Int.reduceAdd, Int.reduceMul]
          exact ⟨true, rfl, trivial⟩
    · simp (dsimp := false) (implicitDefEqProofs := false) only [h5, hix, callFn_t (fn := F_law_taken) rfl, lfs_intsL, SXA, Bool.and_true, Bool.true_and, Bool.and_false, Bool.false_and, Bool.or_true, Bool.true_or, Bool.or_false, Bool.false_or, Bool.not_true, Bool.not_false, List.length_cons, List.length_nil, Nat.zero_add, Nat.reduceAdd, Nat.reduceSub, Nat.reduceLeDiff, Nat.reduceMul, decide_true, decide_false, env0, List.map_cons, List.map_nil, List.replicate, List.cons_append, List.nil_append, List.append_nil, List.length_append, String.reduceEq, lfs_app, Int.reduceNeg, eq_self, if_true, if_false, Bool.false_eq_true, Int.reduceLE, Int.reduceLT, Int.reduceEq, Int.reduceSub, Int.reduceAdd, Int.reduceMul]
      rw [lc_all (ds := intsL x) x D.int (fun d => .int ((v - 99) + d)) rfl (by omega)]
      · simp (dsimp := false) (implicitDefEqProofs := false) only [hlf, SXA, Bool.and_true, Bool.true_and, Bool.and_false, Bool.false_and, Bool.or_true, Bool.true_or, Bool.or_false, Bool.false_or, Bool.not_true, Bool.not_false, List.length_cons, List.length_nil, Nat.zero_add, Nat.reduceAdd, Nat.reduceSub, Nat.reduceLeDiff, Nat.reduceMul, decide_true, decide_false, env0, List.map_cons, List.map_nil, List.replicate, List.cons_append, List.nil_append, List.append_nil, List.length_append, String.reduceEq, lfs_app, Int.reduceNeg, eq_self, if_true, if_false, Bool.false_eq_true, Int.reduceLE, Int.reduceLT, Int.reduceEq, Int.reduceSub, Int.reduceAdd, Int.reduceMul]
        exact fin (v - 99) _ hl3 (by omega) (by omega)
      · intro d hd
        refine ⟨_, rfl, rfl, ?_⟩
        simp (dsimp := false) (implicitDefEqProofs := false) only [SXA, Bool.and_true, Bool.true_and, Bool.and_false, Bool.false_and, Bool.or_true, Bool.true_or, Bool.or_false, Bool.false_or, Bool.not_true, Bool.not_false, List.length_cons, List.length_nil, Nat.zero_add, Nat.reduceAdd, Nat.reduceSub, Nat.reduceLeDiff, Nat.reduceMul, decide_true, decide_false, env0, List.map_cons, List.map_nil, List.replicate, List.cons_append, List.nil_append, List.append_nil, List.length_append, String.reduceEq, lfs_app, Int.reduceNeg, eq_self, if_true, if_false, Bool.false_eq_true, Int.reduceLE, Int.reduceLT, Int.reduceEq, Int.reduceSub, Int.reduceAdd, Int.reduceMul]
        exact ⟨true, rfl, trivial⟩

/-! names -/
def letN (i : Nat) : Nat := 97 + i % 26
def baseL (turn : Nat) : List Nat := (List.range 8).map fun k => letN (turn + 7 * k)
def nmL (turn cut : Nat) (w : Bool) (k : Nat) : List Nat := if w then (baseL turn).take (cut + 1 + k) else (baseL turn).take cut ++ [letN (turn + 3 + 5 * k)]
theorem nm_len : ∀ turn < 26, ∀ cut < 6, ∀ w : Bool, ∀ k < 3, 1 ≤ (nmL turn cut w k).length ∧ (nmL turn cut w k).length ≤ 8 := by decide +kernel
theorem nm_let : ∀ turn < 26, ∀ cut < 6, ∀ w : Bool, ∀ k < 3, ∀ c ∈ nmL turn cut w k, 97 ≤ c ∧ c ≤ 122 := by decide +kernel
theorem nm_dis : ∀ turn < 26, ∀ cut < 6, ∀ w : Bool, ∀ k < 3, ∀ j < 3, nmL turn cut w k = nmL turn cut w j → k = j := by decide +kernel
def nmS (turn cut : Nat) (w : Bool) (k : Nat) : Str := ⟨(nmL turn cut w k).toArray⟩
def abc : Str := "abcdefghijklmnopqrstuvwxyz"
theorem abc_at : ∀ i < 26, atI abc.cps.toList ((i : Nat) : Int) = some (97 + i) := by decide +kernel
theorem abc_ix {i : Int} (h : 0 ≤ i) : ixD (.str abc) (.int (i % 26)) = some (.str ⟨#[letN i.toNat]⟩) := by
  obtain ⟨n, rfl⟩ := Int.eq_ofNat_of_zero_le h
  have e : ((n : Int) % 26) = ((n % 26 : Nat) : Int) := by omega
  rw [e]
  show (match sz abc.length with | true => (atI abc.cps.toList _).map one1 | false => none) = _
  have e2 : sz abc.length = true := by decide +kernel
  rw [e2, abc_at _ (Nat.mod_lt _ (by omega))]
  rfl
theorem join8 (a b c d e f g h : Nat) : joinD (.str "") (.lst [.str ⟨#[a]⟩, .str ⟨#[b]⟩, .str ⟨#[c]⟩, .str ⟨#[d]⟩, .str ⟨#[e]⟩, .str ⟨#[f]⟩, .str ⟨#[g]⟩, .str ⟨#[h]⟩]) = some (.str ⟨#[a, b, c, d, e, f, g, h]⟩) := by kernel_rfl
theorem range8 : List.range 8 = [0, 1, 2, 3, 4, 5, 6, 7] := rfl

theorem abc_ix' {i : Int} (h : 0 ≤ i) : ixD (.str "abcdefghijklmnopqrstuvwxyz") (.int (i % 26)) = some (.str ⟨#[letN i.toNat]⟩) := abc_ix h
theorem base_cut (turn c : Nat) (h : c ≤ 8) : cutS ⟨(baseL turn).toArray⟩ none (some (c : Int)) = ⟨((baseL turn).take c).toArray⟩ := by
  unfold cutS
  have e : Str.length ⟨(baseL turn).toArray⟩ = 8 := rfl
  rw [e, HT.sIx_none, HT.sIx_nat]
  rw [show min c 8 - 0 = c by omega]
  rfl
theorem lfs_things (ts : List Th) : lfs (ts.map thD) = true := lfs_map lf_thD ts
structure ThPart (turn cut : Nat) (w : Bool) (long : Nat) (ts : List Th) : Prop where
  nm : ∀ j t, ts[j]? = some t → t.nm = nmS turn cut w j
  mks : ∀ t ∈ ts, marksOk t.ms ∧ t.ms.length ≤ long
theorem th_snoc {turn cut long : Nat} {w : Bool} {ts : List Th} {m : Nat} {ms : List Int} (h : ThPart turn cut w long ts) (hl : ts.length = m) (h1 : marksOk ms) (h2 : ms.length ≤ long) : ThPart turn cut w long (ts ++ [⟨nmS turn cut w m, ms⟩]) := by
  subst hl
  refine ⟨fun j t e => ?_, fun t ht => ?_⟩
  · by_cases hj : j < ts.length
    · rw [List.getElem?_append_left hj] at e
      exact h.nm j t e
    · rw [List.getElem?_append_right (by omega)] at e
      have e2 : j - ts.length = 0 := by
        have := (List.getElem?_eq_some_iff.mp e).1
        rw [List.length_singleton] at this
        omega
      rw [e2] at e
      cases e
      have : j = ts.length := by omega
      rw [this]
  · rcases List.mem_append.mp ht with ht | ht
    · exact h.mks t ht
    · rw [List.mem_singleton.mp ht]
      exact ⟨h1, h2⟩
theorem th_ok {turn cut long : Nat} {w : Bool} {ts : List Th} (h : ThPart turn cut w long ts) (ht : turn < 26) (hc : cut < 6) (h1 : 1 ≤ ts.length) (h3 : ts.length ≤ 3) : thingsOk ts := by
  refine ⟨h1, h3, fun t ht => (h.mks t ht).1, fun t hm => ?_, ?_⟩
  · obtain ⟨j, hj, e⟩ := List.getElem_of_mem hm
    have e2 := h.nm j t (by rw [List.getElem?_eq_getElem hj, e])
    rw [e2]
    have q := nm_len turn ht cut hc w j (by omega)
    exact ⟨q.1, q.2, fun c hcc => nm_let turn ht cut hc w j (by omega) c hcc⟩
  · intro i j ti tj hi hj e'
    have li := (List.getElem?_eq_some_iff.mp hi).1
    have lj := (List.getElem?_eq_some_iff.mp hj).1
    rw [h.nm i _ hi, h.nm j _ hj] at e'
    have e2 : nmL turn cut w i = nmL turn cut w j := congrArg (fun s : Str => s.cps.toList) e'
    exact nm_dis turn ht cut hc w i (by omega) j (by omega) e2
theorem things_ok {l : List D} (hr : RowL l) {most long : Nat} (h1 : 1 ≤ most) (h3 : most ≤ 3) (h1' : 1 ≤ long) (h3' : long ≤ 3) :
    ∃ ts l2, F_law_things.run [.int most, .int long] (some l) = .ok (.lst (ts.map thD)) (some l2) ∧ (thingsOk ts ∧ ts.length ≤ most ∧ ∀ t ∈ ts, t.ms.length ≤ long) ∧ RowL l2 := by
  obtain ⟨v1, l1, e1, hv1, hl1⟩ := taken_ok hr (m := 26) (by omega)
  obtain ⟨v2, l2, e2, hv2, hl2⟩ := taken_ok hl1 (m := 6) (by omega)
  obtain ⟨v3, l3, e3, hv3, hl3⟩ := taken_ok hl2 (m := 3) (by omega)
  obtain ⟨v4, l4, e4, hv4, hl4⟩ := taken_ok hl3 (m := 3) (by omega)
  obtain ⟨v5, l5, e5, hv5, hl5⟩ := taken_ok hl4 (m := (most : Int)) (by omega)
  obtain ⟨turn, rfl⟩ := Int.eq_ofNat_of_zero_le hv1.1
  obtain ⟨cut, rfl⟩ := Int.eq_ofNat_of_zero_le hv2.1
  obtain ⟨n, rfl⟩ := Int.eq_ofNat_of_zero_le hv5.1
  obtain ⟨far, hfar, hf1, hf2⟩ : ∃ far : Int, atI [D.int 1, D.int 4, D.int 60] v4 = some (.int far) ∧ 1 ≤ far ∧ far ≤ 60 := by
    have : v4 = 0 ∨ v4 = 1 ∨ v4 = 2 := by omega
    rcases this with rfl | rfl | rfl
    · exact ⟨1, rfl, by omega, by omega⟩
    · exact ⟨4, rfl, by omega, by omega⟩
    · exact ⟨60, rfl, by omega, by omega⟩
  simp (dsimp := false) (implicitDefEqProofs := false) only [F_law_things, m_law_things, callFn_t (fn := F_law_taken) rfl, e1, SXA, Bool.and_true, Bool.true_and, Bool.and_false, Bool.false_and, Bool.or_true, Bool.true_or, Bool.or_false, Bool.false_or, Bool.not_true, Bool.not_false, List.length_cons, List.length_nil, Nat.zero_add, Nat.reduceAdd, Nat.reduceSub, Nat.reduceLeDiff, Nat.reduceMul, decide_true, decide_false, env0, List.map_cons, List.map_nil, List.replicate, List.cons_append, List.nil_append, List.append_nil, List.length_append, String.reduceEq, lfs_app, Int.reduceNeg, eq_self, if_true, if_false, Bool.false_eq_true, Int.reduceLE, Int.reduceLT, Int.reduceEq, Int.reduceSub, Int.reduceAdd, Int.reduceMul]
  rw [lc_all (ds := rng 0 8) (List.range 8) natD (fun k => .str ⟨#[letN (turn + 7 * k)]⟩) (rng_nat 8) (by decide)]
  · have hj : joinD (.str "") (.lst ((List.range 8).map fun k => .str ⟨#[letN (turn + 7 * k)]⟩)) = some (.str ⟨(baseL turn).toArray⟩) := join8 _ _ _ _ _ _ _ _
    simp (dsimp := false) (implicitDefEqProofs := false) only [callFn_t (fn := F_law_taken) rfl, hj, e2, e3, e4, e5, hfar, range1 (n := 1 + (n : Int)) (k := n + 1) (by omega) (by omega), SXA, Bool.and_true, Bool.true_and, Bool.and_false, Bool.false_and, Bool.or_true, Bool.true_or, Bool.or_false, Bool.false_or, Bool.not_true, Bool.not_false, List.length_cons, List.length_nil, Nat.zero_add, Nat.reduceAdd, Nat.reduceSub, Nat.reduceLeDiff, Nat.reduceMul, decide_true, decide_false, env0, List.map_cons, List.map_nil, List.replicate, List.cons_append, List.nil_append, List.append_nil, List.length_append, String.reduceEq, lfs_app, Int.reduceNeg, eq_self, if_true, if_false, Bool.false_eq_true, Int.reduceLE, Int.reduceLT, Int.reduceEq, Int.reduceSub, Int.reduceAdd, Int.reduceMul]
    generalize hW : decide (v3 = 2) = w
    generalize hF : forW _ _ _ _ _ = F
    refine for_range_e (fun m S r => ∃ l ts o9 o10 o11, r = some l ∧ RowL l ∧ S = [none, some (.int most), some (.int long), some (.int turn), some (.str ⟨(baseL turn).toArray⟩), some (.int cut), some (.bl w), some (.int far), some (.lst (ts.map thD)), o9, o10, o11] ∧ ts.length = m ∧ ThPart turn cut w long ts) hF rfl ⟨_, [], _, _, _, rfl, hl5, rfl, rfl, ⟨by simp, by simp⟩⟩ ?_ ?_
    · rintro m hm S r ⟨l, ts, o9, o10, o11, rfl, hl, rfl, hlen, hp⟩
      refine ⟨_, rfl, ?_⟩
      obtain ⟨u, lu, eu, hu, hlu⟩ := taken_ok hl (m := (long : Int)) (by omega)
      obtain ⟨un, rfl⟩ := Int.eq_ofNat_of_zero_le hu.1
      obtain ⟨ms, lm, em, ⟨hm1, hm2⟩, hlm⟩ := marks_ok hlu (many := 1 + un) (far := far) (by omega) (by omega) hf1 hf2
      have em' : F_law_marks.run [.int (1 + (un : Int)), .int far] (some lu) = .ok (.tup (intsL ms)) (some lm) := em
      have hsign : ixD (.str "abcdefghijklmnopqrstuvwxyz") (.int (((turn : Int) + 3 + 5 * (m : Int)) % 26)) = some (.str ⟨#[letN (turn + 3 + 5 * m)]⟩) := by
        rw [abc_ix' (by omega)]
        rw [show ((turn : Int) + 3 + 5 * (m : Int)).toNat = turn + 3 + 5 * m by omega]
      have hz8 : sz (Str.length ⟨(baseL turn).toArray⟩) = true := rfl
      have hsz : sz (ts.map thD).length = true := sz_t (by rw [List.length_map]; omega)
      have hz2 : sz (Str.length ⟨((baseL turn).take cut).toArray⟩ + Str.length ⟨#[letN (turn + 3 + 5 * m)]⟩) = true := by
        apply sz_t
        show ((baseL turn).take cut).length + 1 ≤ _
        rw [List.length_take]
        omega
      have hc1 := base_cut turn cut (by omega)
      have hc2 : cutS ⟨(baseL turn).toArray⟩ none (some ((cut : Int) + 1 + (m : Int))) = ⟨((baseL turn).take (cut + 1 + m)).toArray⟩ := by
        have := base_cut turn (cut + 1 + m) (by omega)
        rw [← this]
        congr 2
      have hjn : (⟨((baseL turn).take cut).toArray⟩ : Str) ++ (⟨#[letN (turn + 3 + 5 * m)]⟩ : Str) = ⟨((baseL turn).take cut ++ [letN (turn + 3 + 5 * m)]).toArray⟩ := by
        show Str.append _ _ = _
        unfold Str.append
        congr 1
        simp
      have hend : ∀ o9 o10, Nxt (SO.nx [none, some (.int most), some (.int long), some (.int turn), some (.str ⟨(baseL turn).toArray⟩), some (.int cut), some (.bl w), some (.int far), some (.lst (ts.map thD ++ [.tup [.str (nmS turn cut w m), .tup (intsL ms)]])), o9, o10, some (.str (nmS turn cut w m))] (some lm)) (fun S r => ∃ l ts o9 o10 o11, r = some l ∧ RowL l ∧ S = [none, some (.int most), some (.int long), some (.int turn), some (.str ⟨(baseL turn).toArray⟩), some (.int cut), some (.bl w), some (.int far), some (.lst (ts.map thD)), o9, o10, o11] ∧ ts.length = m + 1 ∧ ThPart turn cut w long ts) := by
        intro o9 o10
        have e : ts.map thD ++ [.tup [.str (nmS turn cut w m), .tup (intsL ms)]] = (ts ++ [(⟨nmS turn cut w m, ms⟩ : Th)]).map thD := by rw [List.map_append]; rfl
        rw [e]
        exact nxt_nx ⟨lm, ts ++ [⟨nmS turn cut w m, ms⟩], _, _, _, rfl, hlm, rfl, by rw [List.length_append, List.length_singleton, hlen], th_snoc hp hlen hm2 (by omega)⟩
      cases w with
      | true =>
        simp (dsimp := false) (implicitDefEqProofs := false) only [natD, callFn_t (fn := F_law_taken) rfl, callFn_t (fn := F_law_marks) rfl, eu, em', hsign, hz8, hsz, hc1, hc2, hjn, hz2, lfs_intsL, SXA, Bool.and_true, Bool.true_and, Bool.and_false, Bool.false_and, Bool.or_true, Bool.true_or, Bool.or_false, Bool.false_or, Bool.not_true, Bool.not_false, List.length_cons, List.length_nil, Nat.zero_add, Nat.reduceAdd, Nat.reduceSub, Nat.reduceLeDiff, Nat.reduceMul, decide_true, decide_false, env0, List.map_cons, List.map_nil, List.replicate, List.cons_append, List.nil_append, List.append_nil, List.length_append, String.reduceEq, lfs_app, Int.reduceNeg, eq_self, if_true, if_false, Bool.false_eq_true, Int.reduceLE, Int.reduceLT, Int.reduceEq, Int.reduceSub, Int.reduceAdd, Int.reduceMul]
        exact hend _ _
      | false =>
        simp (dsimp := false) (implicitDefEqProofs := false) only [natD, callFn_t (fn := F_law_taken) rfl, callFn_t (fn := F_law_marks) rfl, eu, em', hsign, hz8, hsz, hc1, hc2, hjn, hz2, lfs_intsL, SXA, Bool.and_true, Bool.true_and, Bool.and_false, Bool.false_and, Bool.or_true, Bool.true_or, Bool.or_false, Bool.false_or, Bool.not_true, Bool.not_false, List.length_cons, List.length_nil, Nat.zero_add, Nat.reduceAdd, Nat.reduceSub, Nat.reduceLeDiff, Nat.reduceMul, decide_true, decide_false, env0, List.map_cons, List.map_nil, List.replicate, List.cons_append, List.nil_append, List.append_nil, List.length_append, String.reduceEq, lfs_app, Int.reduceNeg, eq_self, if_true, if_false, Bool.false_eq_true, Int.reduceLE, Int.reduceLT, Int.reduceEq, Int.reduceSub, Int.reduceAdd, Int.reduceMul]
        exact hend _ _
    · rintro S2 r2 rfl ⟨l, ts, o9, o10, o11, rfl, hl, rfl, hlen, hp⟩
      simp (dsimp := false) (implicitDefEqProofs := false) only [lfs_things, SXA, Bool.and_true, Bool.true_and, Bool.and_false, Bool.false_and, Bool.or_true, Bool.true_or, Bool.or_false, Bool.false_or, Bool.not_true, Bool.not_false, List.length_cons, List.length_nil, Nat.zero_add, Nat.reduceAdd, Nat.reduceSub, Nat.reduceLeDiff, Nat.reduceMul, decide_true, decide_false, env0, List.map_cons, List.map_nil, List.replicate, List.cons_append, List.nil_append, List.append_nil, List.length_append, String.reduceEq, lfs_app, Int.reduceNeg, eq_self, if_true, if_false, Bool.false_eq_true, Int.reduceLE, Int.reduceLT, Int.reduceEq, Int.reduceSub, Int.reduceAdd, Int.reduceMul]
      exact ⟨ts, l, rfl, ⟨th_ok hp (by omega) (by omega) (by omega) (by omega), by omega, fun t ht => (hp.mks t ht).2⟩, hl⟩
  · intro k hk
    refine ⟨_, rfl, rfl, ?_⟩
    have hk' : k < 8 := List.mem_range.mp hk
    have hx := abc_ix' (i := (turn : Int) + 7 * (k : Int)) (by omega)
    have e : ((turn : Int) + 7 * (k : Int)).toNat = turn + 7 * k := by omega
    rw [e] at hx
    simp (dsimp := false) (implicitDefEqProofs := false) only [natD, hx, SXA, Bool.and_true, Bool.true_and, Bool.and_false, Bool.false_and, Bool.or_true, Bool.true_or, Bool.or_false, Bool.false_or, Bool.not_true, Bool.not_false, List.length_cons, List.length_nil, Nat.zero_add, Nat.reduceAdd, Nat.reduceSub, Nat.reduceLeDiff, Nat.reduceMul, decide_true, decide_false, env0, List.map_cons, List.map_nil, List.replicate, List.cons_append, List.nil_append, List.append_nil, List.length_append, String.reduceEq, lfs_app, Int.reduceNeg, eq_self, if_true, if_false, Bool.false_eq_true, Int.reduceLE, Int.reduceLT, Int.reduceEq, Int.reduceSub, Int.reduceAdd, Int.reduceMul]
    exact ⟨true, rfl, trivial⟩
end TH

set_option Elab.async false
set_option linter.all false
set_option maxRecDepth 100000
set_option maxHeartbeats 4000000
/-! KD: ties drawn. -/
namespace TH
open PySem PySem.Spec PyProof.Rows L2
theorem pys_len : ∀ {xs : List D} {zs : List PyData}, pys xs = some zs → xs.length = zs.length
  | [], zs, h => by cases h; rfl
  | x :: xs, zs, h => by
    rw [pys] at h
    cases hx : x.py with
    | none => rw [hx] at h; cases h
    | some a =>
      rw [hx] at h
      cases hs : pys xs with
      | none =>
        rw [hs] at h
        cases h
      | some as =>
        rw [hs] at h
        cases h
        rw [List.length_cons, List.length_cons, pys_len hs]
theorem eqD_nil {xs : List D} {zs : List PyData} (h : pys xs = some zs) : eqD (.lst xs) (.lst []) = some (decide (xs = [])) := by
  unfold eqD
  have e : (D.lst xs).py = some (.list zs) := by
    show (pys xs).map PyData.list = _
    rw [h]; rfl
  rw [e]
  show some (PyData.eqvAll zs []) = _
  have hl := pys_len h
  cases zs with
  | nil =>
    cases xs with
    | nil => rfl
    | cons x xs => cases hl
  | cons z zs =>
    cases xs with
    | nil => cases hl
    | cons x xs => rfl
theorem pys_nat : ∀ l : List Nat, pys (l.map natD) = some (l.map fun (i : Nat) => PyData.int (i : Int))
  | [] => rfl
  | x :: l => by
    rw [List.map_cons, pys, pys_nat l]; rfl
theorem eq_nats (l : List Nat) : eqD (.lst (l.map natD)) (.lst []) = some (decide (l = [])) := by
  rw [eqD_nil (pys_nat l)]
  cases l <;> rfl
theorem lfs_nats (l : List Nat) : lfs (l.map natD) = true := lfs_map (fun _ => rfl) l
theorem at_thing {ts : List Th} {a : Nat} {t : Th} (h : ts[a]? = some t) : atI (ts.map thD) (a : Int) = some (.tup [.str t.nm, .tup (intsL t.ms)]) := by
  rw [atI_nat, List.getElem?_map, h]; rfl
theorem len_ints (l : List Int) : (intsL l).length = l.length := List.length_map _
theorem tie_ok {ts : List Th} (ht : msIn ts) {l : List D} (hr : RowL l) (h1 : 1 ≤ ts.length) (h3 : ts.length ≤ 3) :
    ∃ k l2, F_law_tie.run [.lst (ts.map thD)] (some l) = .ok (tieD k) (some l2) ∧ tieOk ts k ∧ RowL l2 := by
  obtain ⟨v1, l1, e1, hv1, hl1⟩ := taken_ok hr (m := (ts.length : Int)) (by omega)
  obtain ⟨a, rfl⟩ := Int.eq_ofNat_of_zero_le hv1.1
  obtain ⟨ta, hta⟩ : ∃ t, ts[a]? = some t := ⟨_, List.getElem?_eq_getElem (by omega)⟩
  have hma := ht ta (List.mem_of_getElem? hta)
  have hxa := at_thing hta
  simp (dsimp := false) (implicitDefEqProofs := false) only [F_law_tie, m_law_tie, callFn_t (fn := F_law_taken) rfl, List.length_map, e1, range1 (n := (ts.length : Int)) (k := ts.length) rfl (by omega), SXA, Bool.and_true, Bool.true_and, Bool.and_false, Bool.false_and, Bool.or_true, Bool.true_or, Bool.or_false, Bool.false_or, Bool.not_true, Bool.not_false, List.length_cons, List.length_nil, Nat.zero_add, Nat.reduceAdd, Nat.reduceSub, Nat.reduceLeDiff, Nat.reduceMul, decide_true, decide_false, env0, List.map_cons, List.map_nil, List.replicate, List.cons_append, List.nil_append, List.append_nil, List.length_append, String.reduceEq, lfs_app, Int.reduceNeg, eq_self, if_true, if_false, Bool.false_eq_true, Int.reduceLE, Int.reduceLT, Int.reduceEq, Int.reduceSub, Int.reduceAdd, Int.reduceMul]
  rw [lc_map (ds := (List.range ts.length).map natD) (List.range ts.length) natD (fun k => !(decide (k = a))) natD rfl (by rw [List.length_range]; omega)]
  rotate_left
  · intro k hk
    refine ⟨_, rfl, ?_, fun _ => ?_⟩
    · have e : decide ((k : Int) = (a : Int)) = decide (k = a) := by
        rw [decide_eq_decide]; omega
      simp (dsimp := false) (implicitDefEqProofs := false) only [natD, e, SXA, Bool.and_true, Bool.true_and, Bool.and_false, Bool.false_and, Bool.or_true, Bool.true_or, Bool.or_false, Bool.false_or, Bool.not_true, Bool.not_false, List.length_cons, List.length_nil, Nat.zero_add, Nat.reduceAdd, Nat.reduceSub, Nat.reduceLeDiff, Nat.reduceMul, decide_true, decide_false, env0, List.map_cons, List.map_nil, List.replicate, List.cons_append, List.nil_append, List.append_nil, List.length_append, String.reduceEq, lfs_app, Int.reduceNeg, eq_self, if_true, if_false, Bool.false_eq_true, Int.reduceLE, Int.reduceLT, Int.reduceEq, Int.reduceSub, Int.reduceAdd, Int.reduceMul]
    · simp (dsimp := false) (implicitDefEqProofs := false) only [natD, SXA, Bool.and_true, Bool.true_and, Bool.and_false, Bool.false_and, Bool.or_true, Bool.true_or, Bool.or_false, Bool.false_or, Bool.not_true, Bool.not_false, List.length_cons, List.length_nil, Nat.zero_add, Nat.reduceAdd, Nat.reduceSub, Nat.reduceLeDiff, Nat.reduceMul, decide_true, decide_false, env0, List.map_cons, List.map_nil, List.replicate, List.cons_append, List.nil_append, List.append_nil, List.length_append, String.reduceEq, lfs_app, Int.reduceNeg, eq_self, if_true, if_false, Bool.false_eq_true, Int.reduceLE, Int.reduceLT, Int.reduceEq, Int.reduceSub, Int.reduceAdd, Int.reduceMul]
      exact ⟨false, rfl, trivial⟩
  generalize hR : (List.range ts.length).filter (fun k => !(decide (k = a))) = R
  have hRm : ∀ k ∈ R, k < ts.length ∧ k ≠ a := by
    intro k hk
    rw [← hR, List.mem_filter, List.mem_range] at hk
    refine ⟨hk.1, ?_⟩
    simpa using hk.2
  have hRl : R.length ≤ 3 := by
    rw [← hR]
    have := List.length_filter_le (fun k => !(decide (k = a))) (List.range ts.length)
    rw [List.length_range] at this
    omega
  obtain ⟨w, l2, way, hix, e2, hw, hl2⟩ : ∃ w l2 m, atI [D.int 3, D.int 8] (if (!(decide (R = []))) = true then 1 else 0) = some (.int m) ∧ F_law_taken.run [.int m] (some l1) = .ok (.int w) (some l2) ∧ (0 ≤ w ∧ w < 8 ∧ (R = [] → w < 3)) ∧ RowL l2 := by
    by_cases hn : R = []
    · obtain ⟨w, l2, e2, hw, hl2⟩ := taken_ok hl1 (m := 3) (by omega)
      refine ⟨w, l2, 3, ?_, e2, ⟨hw.1, by omega, fun _ => hw.2⟩, hl2⟩
      rw [decide_eq_true hn]; rfl
    · obtain ⟨w, l2, e2, hw, hl2⟩ := taken_ok hl1 (m := 8) (by omega)
      refine ⟨w, l2, 8, ?_, e2, ⟨hw.1, hw.2, fun h => absurd h hn⟩, hl2⟩
      rw [decide_eq_false hn]; rfl
  simp (dsimp := false) (implicitDefEqProofs := false) only [lfs_nats, eq_nats, hix, callFn_t (fn := F_law_taken) rfl, e2, SXA, Bool.and_true, Bool.true_and, Bool.and_false, Bool.false_and, Bool.or_true, Bool.true_or, Bool.or_false, Bool.false_or, Bool.not_true, Bool.not_false, List.length_cons, List.length_nil, Nat.zero_add, Nat.reduceAdd, Nat.reduceSub, Nat.reduceLeDiff, Nat.reduceMul, decide_true, decide_false, env0, List.map_cons, List.map_nil, List.replicate, List.cons_append, List.nil_append, List.append_nil, List.length_append, String.reduceEq, lfs_app, Int.reduceNeg, eq_self, if_true, if_false, Bool.false_eq_true, Int.reduceLE, Int.reduceLT, Int.reduceEq, Int.reduceSub, Int.reduceAdd, Int.reduceMul]
  by_cases hw0 : w = 0
  · obtain ⟨v3, l3, e3, hv3, hl3⟩ := taken_ok hl2 (m := (ts.length : Int)) (by omega)
    obtain ⟨b, rfl⟩ := Int.eq_ofNat_of_zero_le hv3.1
    obtain ⟨tb, htb⟩ : ∃ t, ts[b]? = some t := ⟨_, List.getElem?_eq_getElem (by omega)⟩
    have hmb := ht tb (List.mem_of_getElem? htb)
    have hxb := at_thing htb
    obtain ⟨v4, l4, e4, hv4, hl4⟩ := taken_ok hl3 (m := (tb.ms.length : Int)) (by omega)
    obtain ⟨k, rfl⟩ := Int.eq_ofNat_of_zero_le hv4.1
    simp (dsimp := false) (implicitDefEqProofs := false) only [hw0, callFn_t (fn := F_law_taken) rfl, List.length_map, e3, hxb, lfs_things, lfs_intsL, len_ints, e4, SXA, Bool.and_true, Bool.true_and, Bool.and_false, Bool.false_and, Bool.or_true, Bool.true_or, Bool.or_false, Bool.false_or, Bool.not_true, Bool.not_false, List.length_cons, List.length_nil, Nat.zero_add, Nat.reduceAdd, Nat.reduceSub, Nat.reduceLeDiff, Nat.reduceMul, decide_true, decide_false, env0, List.map_cons, List.map_nil, List.replicate, List.cons_append, List.nil_append, List.append_nil, List.length_append, String.reduceEq, lfs_app, Int.reduceNeg, eq_self, if_true, if_false, Bool.false_eq_true, Int.reduceLE, Int.reduceLT, Int.reduceEq, Int.reduceSub, Int.reduceAdd, Int.reduceMul]
    exact ⟨.ra a b k, _, rfl, ⟨by omega, tb, htb, by omega⟩, hl4⟩
  · by_cases hw3 : w < 3
    · obtain ⟨v4, l4, e4, hv4, hl4⟩ := taken_ok hl2 (m := (ta.ms.length : Int)) (by omega)
      obtain ⟨k, rfl⟩ := Int.eq_ofNat_of_zero_le hv4.1
      have : w = 1 ∨ w = 2 := by omega
      rcases this with rfl | rfl
      · simp (dsimp := false) (implicitDefEqProofs := false) only [hw0, callFn_t (fn := F_law_taken) rfl, hxa, lfs_things, lfs_intsL, len_ints, e4, SXA, Bool.and_true, Bool.true_and, Bool.and_false, Bool.false_and, Bool.or_true, Bool.true_or, Bool.or_false, Bool.false_or, Bool.not_true, Bool.not_false, List.length_cons, List.length_nil, Nat.zero_add, Nat.reduceAdd, Nat.reduceSub, Nat.reduceLeDiff, Nat.reduceMul, decide_true, decide_false, env0, List.map_cons, List.map_nil, List.replicate, List.cons_append, List.nil_append, List.append_nil, List.length_append, String.reduceEq, lfs_app, Int.reduceNeg, eq_self, if_true, if_false, Bool.false_eq_true, Int.reduceLE, Int.reduceLT, Int.reduceEq, Int.reduceSub, Int.reduceAdd, Int.reduceMul]
        exact ⟨.un a k, _, rfl, ⟨ta, hta, by omega⟩, hl4⟩
      · simp (dsimp := false) (implicitDefEqProofs := false) only [hw0, callFn_t (fn := F_law_taken) rfl, hxa, lfs_things, lfs_intsL, len_ints, e4, SXA, Bool.and_true, Bool.true_and, Bool.and_false, Bool.false_and, Bool.or_true, Bool.true_or, Bool.or_false, Bool.false_or, Bool.not_true, Bool.not_false, List.length_cons, List.length_nil, Nat.zero_add, Nat.reduceAdd, Nat.reduceSub, Nat.reduceLeDiff, Nat.reduceMul, decide_true, decide_false, env0, List.map_cons, List.map_nil, List.replicate, List.cons_append, List.nil_append, List.append_nil, List.length_append, String.reduceEq, lfs_app, Int.reduceNeg, eq_self, if_true, if_false, Bool.false_eq_true, Int.reduceLE, Int.reduceLT, Int.reduceEq, Int.reduceSub, Int.reduceAdd, Int.reduceMul]
        exact ⟨.ov a k, _, rfl, ⟨ta, hta, by omega⟩, hl4⟩
    · have hRn : R ≠ [] := fun h => hw3 (hw.2.2 h)
      have hRp : 0 < R.length := List.length_pos_iff.mpr hRn
      obtain ⟨v4, l4, e4, hv4, hl4⟩ := taken_ok hl2 (m := (R.length : Int)) (by omega)
      obtain ⟨k, rfl⟩ := Int.eq_ofNat_of_zero_le hv4.1
      obtain ⟨b, hb⟩ : ∃ b, R[k]? = some b := ⟨_, List.getElem?_eq_getElem (by omega)⟩
      have hbm := hRm b (List.mem_of_getElem? hb)
      have hxb : atI (R.map natD) (k : Int) = some (.int b) := by rw [atI_nat, List.getElem?_map, hb]; rfl
      by_cases hw6 : w < 6
      · have : w = 3 ∨ w = 4 ∨ w = 5 := by omega
        rcases this with rfl | rfl | rfl
        · simp (dsimp := false) (implicitDefEqProofs := false) only [callFn_t (fn := F_law_taken) rfl, List.length_map, hxb, lfs_nats, e4, SXA, Bool.and_true, Bool.true_and, Bool.and_false, Bool.false_and, Bool.or_true, Bool.true_or, Bool.or_false, Bool.false_or, Bool.not_true, Bool.not_false, List.length_cons, List.length_nil, Nat.zero_add, Nat.reduceAdd, Nat.reduceSub, Nat.reduceLeDiff, Nat.reduceMul, decide_true, decide_false, env0, List.map_cons, List.map_nil, List.replicate, List.cons_append, List.nil_append, List.append_nil, List.length_append, String.reduceEq, lfs_app, Int.reduceNeg, eq_self, if_true, if_false, Bool.false_eq_true, Int.reduceLE, Int.reduceLT, Int.reduceEq, Int.reduceSub, Int.reduceAdd, Int.reduceMul]
          exact ⟨.wi a b, _, rfl, ⟨by omega, hbm.1, fun h => hbm.2 h.symm⟩, hl4⟩
        · simp (dsimp := false) (implicitDefEqProofs := false) only [callFn_t (fn := F_law_taken) rfl, List.length_map, hxb, lfs_nats, e4, SXA, Bool.and_true, Bool.true_and, Bool.and_false, Bool.false_and, Bool.or_true, Bool.true_or, Bool.or_false, Bool.false_or, Bool.not_true, Bool.not_false, List.length_cons, List.length_nil, Nat.zero_add, Nat.reduceAdd, Nat.reduceSub, Nat.reduceLeDiff, Nat.reduceMul, decide_true, decide_false, env0, List.map_cons, List.map_nil, List.replicate, List.cons_append, List.nil_append, List.append_nil, List.length_append, String.reduceEq, lfs_app, Int.reduceNeg, eq_self, if_true, if_false, Bool.false_eq_true, Int.reduceLE, Int.reduceLT, Int.reduceEq, Int.reduceSub, Int.reduceAdd, Int.reduceMul]
          exact ⟨.ag a b, _, rfl, ⟨by omega, hbm.1, fun h => hbm.2 h.symm⟩, hl4⟩
        · simp (dsimp := false) (implicitDefEqProofs := false) only [callFn_t (fn := F_law_taken) rfl, List.length_map, hxb, lfs_nats, e4, SXA, Bool.and_true, Bool.true_and, Bool.and_false, Bool.false_and, Bool.or_true, Bool.true_or, Bool.or_false, Bool.false_or, Bool.not_true, Bool.not_false, List.length_cons, List.length_nil, Nat.zero_add, Nat.reduceAdd, Nat.reduceSub, Nat.reduceLeDiff, Nat.reduceMul, decide_true, decide_false, env0, List.map_cons, List.map_nil, List.replicate, List.cons_append, List.nil_append, List.append_nil, List.length_append, String.reduceEq, lfs_app, Int.reduceNeg, eq_self, if_true, if_false, Bool.false_eq_true, Int.reduceLE, Int.reduceLT, Int.reduceEq, Int.reduceSub, Int.reduceAdd, Int.reduceMul]
          exact ⟨.wi a b, _, rfl, ⟨by omega, hbm.1, fun h => hbm.2 h.symm⟩, hl4⟩
      · obtain ⟨v5, l5, e5, hv5, hl5⟩ := taken_ok hl4 (m := (R.length : Int)) (by omega)
        obtain ⟨j, rfl⟩ := Int.eq_ofNat_of_zero_le hv5.1
        obtain ⟨c, hc⟩ : ∃ c, R[j]? = some c := ⟨_, List.getElem?_eq_getElem (by omega)⟩
        have hcm := hRm c (List.mem_of_getElem? hc)
        have hxc : atI (R.map natD) (j : Int) = some (.int c) := by rw [atI_nat, List.getElem?_map, hc]; rfl
        have : w = 6 ∨ w = 7 := by omega
        rcases this with rfl | rfl
        · simp (dsimp := false) (implicitDefEqProofs := false) only [callFn_t (fn := F_law_taken) rfl, List.length_map, hxb, hxc, lfs_nats, e4, e5, SXA, Bool.and_true, Bool.true_and, Bool.and_false, Bool.false_and, Bool.or_true, Bool.true_or, Bool.or_false, Bool.false_or, Bool.not_true, Bool.not_false, List.length_cons, List.length_nil, Nat.zero_add, Nat.reduceAdd, Nat.reduceSub, Nat.reduceLeDiff, Nat.reduceMul, decide_true, decide_false, env0, List.map_cons, List.map_nil, List.replicate, List.cons_append, List.nil_append, List.append_nil, List.length_append, String.reduceEq, lfs_app, Int.reduceNeg, eq_self, if_true, if_false, Bool.false_eq_true, Int.reduceLE, Int.reduceLT, Int.reduceEq, Int.reduceSub, Int.reduceAdd, Int.reduceMul]
          exact ⟨.su a b c, _, rfl, ⟨by omega, hbm.1, hcm.1, fun h => hbm.2 h.symm, fun h => hcm.2 h.symm⟩, hl5⟩
        · simp (dsimp := false) (implicitDefEqProofs := false) only [callFn_t (fn := F_law_taken) rfl, List.length_map, hxb, hxc, lfs_nats, e4, e5, SXA, Bool.and_true, Bool.true_and, Bool.and_false, Bool.false_and, Bool.or_true, Bool.true_or, Bool.or_false, Bool.false_or, Bool.not_true, Bool.not_false, List.length_cons, List.length_nil, Nat.zero_add, Nat.reduceAdd, Nat.reduceSub, Nat.reduceLeDiff, Nat.reduceMul, decide_true, decide_false, env0, List.map_cons, List.map_nil, List.replicate, List.cons_append, List.nil_append, List.append_nil, List.length_append, String.reduceEq, lfs_app, Int.reduceNeg, eq_self, if_true, if_false, Bool.false_eq_true, Int.reduceLE, Int.reduceLT, Int.reduceEq, Int.reduceSub, Int.reduceAdd, Int.reduceMul]
          exact ⟨.pr a b c, _, rfl, ⟨by omega, hbm.1, hcm.1, fun h => hbm.2 h.symm, fun h => hcm.2 h.symm⟩, hl5⟩
end TH

set_option Elab.async false
set_option linter.all false
set_option maxRecDepth 100000
set_option maxHeartbeats 4000000
/-! KG: ties, any room, odd rooms. -/
namespace TH
open PySem PySem.Spec PyProof.Rows L2

theorem ties_ok {ts : List Th} (ht : msIn ts) {l : List D} (hr : RowL l) (h1 : 1 ≤ ts.length) (h3 : ts.length ≤ 3) {most : Nat} (hm : 2 ≤ most) (hm2 : most ≤ 6) :
    ∃ ks l2, F_law_ties.run [.lst (ts.map thD), .int most] (some l) = .ok (.lst (ks.map tieD)) (some l2) ∧ (tiesOk ts ks ∧ ks.length ≤ most) ∧ RowL l2 := by
  obtain ⟨v1, l1, e1, hv1, hl1⟩ := taken_ok hr (m := 2) (by omega)
  obtain ⟨m, hix, hm1⟩ : ∃ m : Nat, atI [D.int 3, D.int ((most : Int) + 1)] v1 = some (.int m) ∧ 1 ≤ m ∧ m ≤ most + 1 := by
    have : v1 = 0 ∨ v1 = 1 := by omega
    rcases this with rfl | rfl
    · exact ⟨3, rfl, by omega, by omega⟩
    · exact ⟨most + 1, rfl, by omega, by omega⟩
  obtain ⟨v2, l2, e2, hv2, hl2⟩ := taken_ok hl1 (m := (m : Int)) (by omega)
  obtain ⟨n, rfl⟩ := Int.eq_ofNat_of_zero_le hv2.1
  simp (dsimp := false) (implicitDefEqProofs := false) only [F_law_ties, m_law_ties, callFn_t (fn := F_law_taken) rfl, e1, hix, e2, range1 (n := (n : Int)) (k := n) rfl (by omega), SXA, Bool.and_true, Bool.true_and, Bool.and_false, Bool.false_and, Bool.or_true, Bool.true_or, Bool.or_false, Bool.false_or, Bool.not_true, Bool.not_false, List.length_cons, List.length_nil, Nat.zero_add, Nat.reduceAdd, Nat.reduceSub, Nat.reduceLeDiff, Nat.reduceMul, decide_true, decide_false, env0, List.map_cons, List.map_nil, List.replicate, List.cons_append, List.nil_append, List.append_nil, List.length_append, String.reduceEq, lfs_app, Int.reduceNeg, eq_self, if_true, if_false, Bool.false_eq_true, Int.reduceLE, Int.reduceLT, Int.reduceEq, Int.reduceSub, Int.reduceAdd, Int.reduceMul]
  generalize hF : lcW _ _ _ _ _ _ _ = F
  refine lc_draw_e (B := Tie) (List.range n) natD tieD (fun r => ∃ l, r = some l ∧ RowL l) (fun _ k => tieOk ts k) hF rfl (by rw [List.length_range]; omega) ⟨l2, rfl, hl2⟩ ?_ ?_
  · rintro i hi r ⟨l, rfl, hl⟩
    obtain ⟨k, l3, e3, hk, hl3⟩ := tie_ok ht hl h1 h3
    refine ⟨_, rfl, rfl, ?_⟩
    simp (dsimp := false) (implicitDefEqProofs := false) only [callFn_t (fn := F_law_tie) rfl, e3, SXA, Bool.and_true, Bool.true_and, Bool.and_false, Bool.false_and, Bool.or_true, Bool.true_or, Bool.or_false, Bool.false_or, Bool.not_true, Bool.not_false, List.length_cons, List.length_nil, Nat.zero_add, Nat.reduceAdd, Nat.reduceSub, Nat.reduceLeDiff, Nat.reduceMul, decide_true, decide_false, env0, List.map_cons, List.map_nil, List.replicate, List.cons_append, List.nil_append, List.append_nil, List.length_append, String.reduceEq, lfs_app, Int.reduceNeg, eq_self, if_true, if_false, Bool.false_eq_true, Int.reduceLE, Int.reduceLT, Int.reduceEq, Int.reduceSub, Int.reduceAdd, Int.reduceMul]
    exact yld_t ⟨⟨l3, rfl, hl3⟩, hk⟩
  · rintro ks r2 rfl ⟨l3, rfl, hl3⟩ hlen hks
    simp (dsimp := false) (implicitDefEqProofs := false) only [SXA, Bool.and_true, Bool.true_and, Bool.and_false, Bool.false_and, Bool.or_true, Bool.true_or, Bool.or_false, Bool.false_or, Bool.not_true, Bool.not_false, List.length_cons, List.length_nil, Nat.zero_add, Nat.reduceAdd, Nat.reduceSub, Nat.reduceLeDiff, Nat.reduceMul, decide_true, decide_false, env0, List.map_cons, List.map_nil, List.replicate, List.cons_append, List.nil_append, List.append_nil, List.length_append, String.reduceEq, lfs_app, Int.reduceNeg, eq_self, if_true, if_false, Bool.false_eq_true, Int.reduceLE, Int.reduceLT, Int.reduceEq, Int.reduceSub, Int.reduceAdd, Int.reduceMul]
    rw [List.length_range] at hlen
    refine ⟨ks, l3, rfl, ⟨⟨by omega, fun k hk => ?_⟩, by omega⟩, hl3⟩
    obtain ⟨_, _, q⟩ := hks k hk
    exact q
theorem at_spots {l : List Spot} {i : Nat} {s : Spot} (h : l[i]? = some s) : atI (l.map spotD) (i : Int) = some (spotD s) := by
  rw [atI_nat, List.getElem?_map, h]; rfl
theorem spotsS_pos (k : Nat) : 1 ≤ (spotsS k).length := by
  unfold spotsS
  rw [List.range_succ_eq_map]
  simp
theorem any_ok {ts : List Th} (ht : msIn ts) (h3 : ts.length ≤ 3) {l : List D} (hr : RowL l) : ∃ r l2, F_law_any.run [.lst (ts.map thD)] (some l) = .ok (roomD r) (some l2) ∧ roomOkB ts r = true ∧ RowL l2 := by
  simp (dsimp := false) (implicitDefEqProofs := false) only [F_law_any, m_law_any, SXA, Bool.and_true, Bool.true_and, Bool.and_false, Bool.false_and, Bool.or_true, Bool.true_or, Bool.or_false, Bool.false_or, Bool.not_true, Bool.not_false, List.length_cons, List.length_nil, Nat.zero_add, Nat.reduceAdd, Nat.reduceSub, Nat.reduceLeDiff, Nat.reduceMul, decide_true, decide_false, env0, List.map_cons, List.map_nil, List.replicate, List.cons_append, List.nil_append, List.append_nil, List.length_append, String.reduceEq, lfs_app, Int.reduceNeg, eq_self, if_true, if_false, Bool.false_eq_true, Int.reduceLE, Int.reduceLT, Int.reduceEq, Int.reduceSub, Int.reduceAdd, Int.reduceMul]
  generalize hF : forW _ _ _ _ _ = F
  refine for_inv_e (items := ts) (emb := thD) (fun rest S r => ∃ l pre x o3 o4 o5, r = some l ∧ RowL l ∧ pre ++ rest = ts ∧ S = [none, some (.lst (ts.map thD)), some (.lst (x.map spotD)), o3, o4, o5] ∧ preOk (pre.map fun t => spotsS t.ms.length) x ∧ x.length = pre.length) hF rfl ⟨l, [], [], _, _, _, rfl, hr, rfl, rfl, trivial, rfl⟩ ?_ ?_
  · rintro t rest S r ⟨l, pre, x, o3, o4, o5, rfl, hl, hp, rfl, hx, hxl⟩
    refine ⟨_, rfl, ?_⟩
    have htm : t ∈ ts := by rw [← hp]; simp
    obtain ⟨q1, q3⟩ := ht t htm
    have hs := law_spots_ok t.ms q1 q3
    have hpos := spotsS_pos t.ms.length
    obtain ⟨v, l2, e2, hv, hl2⟩ := taken_ok hl (m := ((spotsS t.ms.length).length : Int)) (by omega)
    obtain ⟨i, rfl⟩ := Int.eq_ofNat_of_zero_le hv.1
    obtain ⟨s, hsi⟩ : ∃ s, (spotsS t.ms.length)[i]? = some s := ⟨_, List.getElem?_eq_getElem (by omega)⟩
    have hix := at_spots hsi
    have hlen : x.length ≤ 3 := by
      have : pre.length ≤ ts.length := by rw [← hp, List.length_append]; omega
      omega
    have hsz : sz (x.map spotD).length = true := sz_t (by rw [List.length_map]; omega)
    simp (dsimp := false) (implicitDefEqProofs := false) only [callFn_f (fn := F_law_spots) rfl, hs, callFn_t (fn := F_law_taken) rfl, List.length_map, e2, hix, lfs_spots, lf_spotD, hsz, SXA, Bool.and_true, Bool.true_and, Bool.and_false, Bool.false_and, Bool.or_true, Bool.true_or, Bool.or_false, Bool.false_or, Bool.not_true, Bool.not_false, List.length_cons, List.length_nil, Nat.zero_add, Nat.reduceAdd, Nat.reduceSub, Nat.reduceLeDiff, Nat.reduceMul, decide_true, decide_false, env0, List.map_cons, List.map_nil, List.replicate, List.cons_append, List.nil_append, List.append_nil, List.length_append, String.reduceEq, lfs_app, Int.reduceNeg, eq_self, if_true, if_false, Bool.false_eq_true, Int.reduceLE, Int.reduceLT, Int.reduceEq, Int.reduceSub, Int.reduceAdd, Int.reduceMul]
    have hsz' : sz x.length = true := sz_t (by omega)
    simp (dsimp := false) (implicitDefEqProofs := false) only [hsz', SXA, Bool.and_true, Bool.true_and, Bool.and_false, Bool.false_and, Bool.or_true, Bool.true_or, Bool.or_false, Bool.false_or, Bool.not_true, Bool.not_false, List.length_cons, List.length_nil, Nat.zero_add, Nat.reduceAdd, Nat.reduceSub, Nat.reduceLeDiff, Nat.reduceMul, decide_true, decide_false, env0, List.map_cons, List.map_nil, List.replicate, List.cons_append, List.nil_append, List.append_nil, List.length_append, String.reduceEq, lfs_app, Int.reduceNeg, eq_self, if_true, if_false, Bool.false_eq_true, Int.reduceLE, Int.reduceLT, Int.reduceEq, Int.reduceSub, Int.reduceAdd, Int.reduceMul]
    have e : x.map spotD ++ [spotD s] = (x ++ [s]).map spotD := by rw [List.map_append]; rfl
    rw [e]
    refine nxt_nx ⟨l2, pre ++ [t], x ++ [s], _, _, _, rfl, hl2, by rw [List.append_assoc]; exact hp, rfl, ?_, by rw [List.length_append, List.length_append, hxl]; rfl⟩
    rw [List.map_append]
    exact preOk_snoc hx (List.mem_of_getElem? hsi)
  · rintro S2 r2 rfl ⟨l, pre, x, o3, o4, o5, rfl, hl, hp, rfl, hx, hxl⟩
    rw [List.append_nil] at hp
    subst hp
    simp (dsimp := false) (implicitDefEqProofs := false) only [lfs_spots, SXA, Bool.and_true, Bool.true_and, Bool.and_false, Bool.false_and, Bool.or_true, Bool.true_or, Bool.or_false, Bool.false_or, Bool.not_true, Bool.not_false, List.length_cons, List.length_nil, Nat.zero_add, Nat.reduceAdd, Nat.reduceSub, Nat.reduceLeDiff, Nat.reduceMul, decide_true, decide_false, env0, List.map_cons, List.map_nil, List.replicate, List.cons_append, List.nil_append, List.append_nil, List.length_append, String.reduceEq, lfs_app, Int.reduceNeg, eq_self, if_true, if_false, Bool.false_eq_true, Int.reduceLE, Int.reduceLT, Int.reduceEq, Int.reduceSub, Int.reduceAdd, Int.reduceMul]
    exact ⟨x, l, rfl, preOk_room hx, hl⟩
theorem cutG_to {α : Type} (xs : List α) (k : Nat) : cutG xs none (some (k : Int)) = xs.take k := by
  unfold cutG
  rw [HT.sIx_none, HT.sIx_nat]
  rw [List.drop_zero, Nat.sub_zero]
  by_cases h : k ≤ xs.length
  · rw [Nat.min_eq_left h]
  · rw [Nat.min_eq_right (by omega), List.take_of_length_le (Nat.le_refl _), List.take_of_length_le (by omega)]
theorem cutG_from {α : Type} (xs : List α) (k : Nat) : cutG xs (some (k : Int)) none = xs.drop k := by
  unfold cutG
  rw [HT.sIx_none, HT.sIx_nat]
  by_cases h : k ≤ xs.length
  · rw [Nat.min_eq_left h, List.take_of_length_le (by rw [List.length_drop]; omega)]
  · rw [Nat.min_eq_right (by omega), Nat.sub_self, List.take_zero, List.drop_of_length_le (by omega)]
theorem lf_cut (r : Room) (k : Nat) : lfs ((r.map spotD).take k) = true := by rw [← List.map_take]; exact lfs_spots _
theorem lf_cut2 (r : Room) (k : Nat) : lfs ((r.map spotD).drop k) = true := by rw [← List.map_drop]; exact lfs_spots _
theorem bad_len {ts : List Th} {r : Room} (h : r.length ≠ ts.length) : roomOkB ts r = false := by
  unfold roomOkB
  rw [decide_eq_false h]; rfl
theorem bad_spot {ts : List Th} {r : Room} {i : Nat} {s : Spot} {t : Th} (h1 : r[i]? = some s) (h2 : ts[i]? = some t) (h : s ∉ spotsS t.ms.length) : roomOkB ts r = false := by
  cases q : roomOkB ts r with
  | false => rfl
  | true => exact absurd (roomOk_mem q h1 h2) h
theorem odd_spots : ∀ k : Nat, 1 ≤ k → k ≤ 3 → ∀ s ∈ [((2 * (k : Int) + 1, 0) : Spot), (-1, 0), (1, 1), (0, 2), (2 * (k : Int), -2)], s ∉ spotsS k := by
  intro k h1 h3
  have : k = 1 ∨ k = 2 ∨ k = 3 := by omega
  rcases this with rfl | rfl | rfl <;> decide
theorem odd_ok {ts : List Th} (ht : msIn ts) (h1 : 1 ≤ ts.length) (h3 : ts.length ≤ 3) {l : List D} (hr : RowL l) : ∃ r l2, F_law_odd.run [.lst (ts.map thD)] (some l) = .ok (roomD r) (some l2) ∧ roomOkB ts r = false ∧ RowL l2 := by
  obtain ⟨r, l1, e1, hok, hl1⟩ := any_ok ht h3 hr
  have hlen := roomOk_len hok
  obtain ⟨v2, l2, e2, hv2, hl2⟩ := taken_ok hl1 (m := (r.length : Int)) (by omega)
  obtain ⟨k, rfl⟩ := Int.eq_ofNat_of_zero_le hv2.1
  obtain ⟨t, hk⟩ : ∃ t, ts[k]? = some t := ⟨_, List.getElem?_eq_getElem (by omega)⟩
  have hx := at_thing hk
  obtain ⟨v3, l3, e3, hv3, hl3⟩ := taken_ok hl2 (m := 7) (by omega)
  obtain ⟨q1, q3⟩ := ht t (List.mem_of_getElem? hk)
  have c1 : cutG (r.map spotD) none (some (k : Int)) = (r.take k).map spotD := by rw [cutG_to, List.map_take]
  have c2 : cutG (r.map spotD) (some ((k : Int) + 1)) none = (r.drop (k + 1)).map spotD := by
    have := cutG_from (r.map spotD) (k + 1)
    rw [← List.map_drop] at this
    exact this
  have c3 : cutG (r.map spotD) none (some ((k : Int) + 1)) = (r.take (k + 1)).map spotD := by
    have := cutG_to (r.map spotD) (k + 1)
    rw [← List.map_take] at this
    exact this
  have c4 : cutG (r.map spotD) (some (k : Int)) none = (r.drop k).map spotD := by rw [cutG_from, List.map_drop]
  have z1 : sz ((r.take k).length + (r.drop (k + 1)).length) = true := sz_t (by rw [List.length_take, List.length_drop]; omega)
  have z2 : sz ((r.take (k + 1)).length + (r.drop k).length) = true := sz_t (by rw [List.length_take, List.length_drop]; omega)
  have z3 : sz ((r.take k).length + 1) = true := sz_t (by rw [List.length_take]; omega)
  have z4 : sz ((r.take k).length + 1 + (r.drop (k + 1)).length) = true := sz_t (by rw [List.length_take, List.length_drop]; omega)
  unfold roomD at e1
  simp (dsimp := false) (implicitDefEqProofs := false) only [F_law_odd, m_law_odd, callFn_t (fn := F_law_taken) rfl, callFn_t (fn := F_law_any) rfl, List.length_map, e1, e2, e3, hx, len_ints, lfs_things, lfs_spots, lfs_intsL, c1, c2, c3, c4, z1, z2, SXA, Bool.and_true, Bool.true_and, Bool.and_false, Bool.false_and, Bool.or_true, Bool.true_or, Bool.or_false, Bool.false_or, Bool.not_true, Bool.not_false, List.length_cons, List.length_nil, Nat.zero_add, Nat.reduceAdd, Nat.reduceSub, Nat.reduceLeDiff, Nat.reduceMul, decide_true, decide_false, env0, List.map_cons, List.map_nil, List.replicate, List.cons_append, List.nil_append, List.append_nil, List.length_append, String.reduceEq, lfs_app, Int.reduceNeg, eq_self, if_true, if_false, Bool.false_eq_true, Int.reduceLE, Int.reduceLT, Int.reduceEq, Int.reduceSub, Int.reduceAdd, Int.reduceMul]
  by_cases hw0 : v3 = 0
  · simp (dsimp := false) (implicitDefEqProofs := false) only [hw0, lfs_spots, c1, c2, List.length_map, z1, SXA, Bool.and_true, Bool.true_and, Bool.and_false, Bool.false_and, Bool.or_true, Bool.true_or, Bool.or_false, Bool.false_or, Bool.not_true, Bool.not_false, List.length_cons, List.length_nil, Nat.zero_add, Nat.reduceAdd, Nat.reduceSub, Nat.reduceLeDiff, Nat.reduceMul, decide_true, decide_false, env0, List.map_cons, List.map_nil, List.replicate, List.cons_append, List.nil_append, List.append_nil, List.length_append, String.reduceEq, lfs_app, Int.reduceNeg, eq_self, if_true, if_false, Bool.false_eq_true, Int.reduceLE, Int.reduceLT, Int.reduceEq, Int.reduceSub, Int.reduceAdd, Int.reduceMul]
    refine ⟨r.take k ++ r.drop (k + 1), l3, ?_, bad_len ?_, hl3⟩
    · unfold roomD
      rw [List.map_append]
    · rw [List.length_append, List.length_take, List.length_drop]
      omega
  · by_cases hw1 : v3 = 1
    · simp (dsimp := false) (implicitDefEqProofs := false) only [hw1, lfs_spots, c3, c4, List.length_map, z2, SXA, Bool.and_true, Bool.true_and, Bool.and_false, Bool.false_and, Bool.or_true, Bool.true_or, Bool.or_false, Bool.false_or, Bool.not_true, Bool.not_false, List.length_cons, List.length_nil, Nat.zero_add, Nat.reduceAdd, Nat.reduceSub, Nat.reduceLeDiff, Nat.reduceMul, decide_true, decide_false, env0, List.map_cons, List.map_nil, List.replicate, List.cons_append, List.nil_append, List.append_nil, List.length_append, String.reduceEq, lfs_app, Int.reduceNeg, eq_self, if_true, if_false, Bool.false_eq_true, Int.reduceLE, Int.reduceLT, Int.reduceEq, Int.reduceSub, Int.reduceAdd, Int.reduceMul]
      refine ⟨r.take (k + 1) ++ r.drop k, l3, ?_, bad_len ?_, hl3⟩
      · unfold roomD
        rw [List.map_append]
      · rw [List.length_append, List.length_take, List.length_drop]
        omega
    · simp (dsimp := false) (implicitDefEqProofs := false) only [hw0, hw1, lfs_spots, c1, c2, List.length_map, z3, z4, SXA, Bool.and_true, Bool.true_and, Bool.and_false, Bool.false_and, Bool.or_true, Bool.true_or, Bool.or_false, Bool.false_or, Bool.not_true, Bool.not_false, List.length_cons, List.length_nil, Nat.zero_add, Nat.reduceAdd, Nat.reduceSub, Nat.reduceLeDiff, Nat.reduceMul, decide_true, decide_false, env0, List.map_cons, List.map_nil, List.replicate, List.cons_append, List.nil_append, List.append_nil, List.length_append, String.reduceEq, lfs_app, Int.reduceNeg, eq_self, if_true, if_false, Bool.false_eq_true, Int.reduceLE, Int.reduceLT, Int.reduceEq, Int.reduceSub, Int.reduceAdd, Int.reduceMul]
      have fin : ∀ s : Spot, s ∈ [((2 * (t.ms.length : Int) + 1, 0) : Spot), (-1, 0), (1, 1), (0, 2), (2 * (t.ms.length : Int), -2)] → ∃ r2 lz, (Out.ok (D.tup ((r.take k).map spotD ++ [.tup [.int s.1, .int s.2]] ++ (r.drop (k + 1)).map spotD)) (some l3) : Out D) = .ok (roomD r2) (some lz) ∧ roomOkB ts r2 = false ∧ RowL lz := by
        intro s hs
        refine ⟨r.take k ++ [s] ++ r.drop (k + 1), l3, ?_, bad_spot (i := k) (s := s) ?_ hk (odd_spots _ q1 q3 s hs), hl3⟩
        · unfold roomD
          rw [List.map_append, List.map_append]
          rfl
        · rw [List.append_assoc, List.getElem?_append_right (by rw [List.length_take]; omega)]
          rw [List.length_take, show k - min k r.length = 0 by omega]
          rfl
      have hcs : v3 = 2 ∨ v3 = 3 ∨ v3 = 4 ∨ v3 = 5 ∨ v3 = 6 := by omega
      rcases hcs with rfl | rfl | rfl | rfl | rfl
      · simp (dsimp := false) (implicitDefEqProofs := false) only [lfs_spots, c1, c2, List.length_map, z3, z4, SXA, Bool.and_true, Bool.true_and, Bool.and_false, Bool.false_and, Bool.or_true, Bool.true_or, Bool.or_false, Bool.false_or, Bool.not_true, Bool.not_false, List.length_cons, List.length_nil, Nat.zero_add, Nat.reduceAdd, Nat.reduceSub, Nat.reduceLeDiff, Nat.reduceMul, decide_true, decide_false, env0, List.map_cons, List.map_nil, List.replicate, List.cons_append, List.nil_append, List.append_nil, List.length_append, String.reduceEq, lfs_app, Int.reduceNeg, eq_self, if_true, if_false, Bool.false_eq_true, Int.reduceLE, Int.reduceLT, Int.reduceEq, Int.reduceSub, Int.reduceAdd, Int.reduceMul]
        exact fin (_, _) (by simp)
      · simp (dsimp := false) (implicitDefEqProofs := false) only [lfs_spots, c1, c2, List.length_map, z3, z4, SXA, Bool.and_true, Bool.true_and, Bool.and_false, Bool.false_and, Bool.or_true, Bool.true_or, Bool.or_false, Bool.false_or, Bool.not_true, Bool.not_false, List.length_cons, List.length_nil, Nat.zero_add, Nat.reduceAdd, Nat.reduceSub, Nat.reduceLeDiff, Nat.reduceMul, decide_true, decide_false, env0, List.map_cons, List.map_nil, List.replicate, List.cons_append, List.nil_append, List.append_nil, List.length_append, String.reduceEq, lfs_app, Int.reduceNeg, eq_self, if_true, if_false, Bool.false_eq_true, Int.reduceLE, Int.reduceLT, Int.reduceEq, Int.reduceSub, Int.reduceAdd, Int.reduceMul]
        exact fin (_, _) (by simp)
      · simp (dsimp := false) (implicitDefEqProofs := false) only [lfs_spots, c1, c2, List.length_map, z3, z4, SXA, Bool.and_true, Bool.true_and, Bool.and_false, Bool.false_and, Bool.or_true, Bool.true_or, Bool.or_false, Bool.false_or, Bool.not_true, Bool.not_false, List.length_cons, List.length_nil, Nat.zero_add, Nat.reduceAdd, Nat.reduceSub, Nat.reduceLeDiff, Nat.reduceMul, decide_true, decide_false, env0, List.map_cons, List.map_nil, List.replicate, List.cons_append, List.nil_append, List.append_nil, List.length_append, String.reduceEq, lfs_app, Int.reduceNeg, eq_self, if_true, if_false, Bool.false_eq_true, Int.reduceLE, Int.reduceLT, Int.reduceEq, Int.reduceSub, Int.reduceAdd, Int.reduceMul]
        exact fin (_, _) (by simp)
      · simp (dsimp := false) (implicitDefEqProofs := false) only [lfs_spots, c1, c2, List.length_map, z3, z4, SXA, Bool.and_true, Bool.true_and, Bool.and_false, Bool.false_and, Bool.or_true, Bool.true_or, Bool.or_false, Bool.false_or, Bool.not_true, Bool.not_false, List.length_cons, List.length_nil, Nat.zero_add, Nat.reduceAdd, Nat.reduceSub, Nat.reduceLeDiff, Nat.reduceMul, decide_true, decide_false, env0, List.map_cons, List.map_nil, List.replicate, List.cons_append, List.nil_append, List.append_nil, List.length_append, String.reduceEq, lfs_app, Int.reduceNeg, eq_self, if_true, if_false, Bool.false_eq_true, Int.reduceLE, Int.reduceLT, Int.reduceEq, Int.reduceSub, Int.reduceAdd, Int.reduceMul]
        exact fin (_, _) (by simp)
      · simp (dsimp := false) (implicitDefEqProofs := false) only [atI_4, lfs_spots, c1, c2, List.length_map, z3, z4, SXA, Bool.and_true, Bool.true_and, Bool.and_false, Bool.false_and, Bool.or_true, Bool.true_or, Bool.or_false, Bool.false_or, Bool.not_true, Bool.not_false, List.length_cons, List.length_nil, Nat.zero_add, Nat.reduceAdd, Nat.reduceSub, Nat.reduceLeDiff, Nat.reduceMul, decide_true, decide_false, env0, List.map_cons, List.map_nil, List.replicate, List.cons_append, List.nil_append, List.append_nil, List.length_append, String.reduceEq, lfs_app, Int.reduceNeg, eq_self, if_true, if_false, Bool.false_eq_true, Int.reduceLE, Int.reduceLT, Int.reduceEq, Int.reduceSub, Int.reduceAdd, Int.reduceMul]
        exact fin (_, _) (by simp)
end TH

set_option Elab.async false
set_option linter.all false
set_option maxRecDepth 100000
set_option maxHeartbeats 4000000
/-! KH: alike, the law's own keeps, first, rooms. -/
namespace TH
open PySem PySem.Spec PyProof.Rows L2

/-- data that alike looks through, n calls deep -/
def AOk : Nat → D → Prop
  | 0, _ => False
  | _ + 1, .int _ => True
  | _ + 1, .str _ => True
  | _ + 1, .non => True
  | _ + 1, .bl _ => True
  | n + 1, .tup xs => xs.length ≤ 100000 ∧ ∀ x ∈ xs, AOk n x
  | n + 1, .lst xs => xs.length ≤ 100000 ∧ ∀ x ∈ xs, AOk n x
  | _ + 1, _ => False
theorem io_R : ∀ n : Nat, (R_law_alike n).io = false
  | 0 => rfl
  | _ + 1 => rfl
theorem ko_nil : eqD (.lst []) (.lst []) = some true := rfl
theorem alike_ok : ∀ {n : Nat} {d : D}, AOk n d → (R_law_alike n).run [d, d] none = .ok (.bl true) none
  | 0, _, h => h.elim
  | n + 1, .int i, _ => by
    show (m_law_alike (R_law_alike n)).run _ _ = _
    simp (dsimp := false) (implicitDefEqProofs := false) only [m_law_alike, tyD_tup_tuple, tyD_tup_list, tyD_tup_bool, tyD_tup_str, tyD_tup_int, tyD_lst_tuple, tyD_lst_list, tyD_lst_bool, tyD_lst_str, tyD_lst_int, tyD_int_tuple, tyD_int_list, tyD_int_bool, tyD_int_str, tyD_int_int, tyD_str_tuple, tyD_str_list, tyD_str_bool, tyD_str_str, tyD_str_int, tyD_non_tuple, tyD_non_list, tyD_non_bool, tyD_non_str, tyD_non_int, tyD_bl_tuple, tyD_bl_list, tyD_bl_bool, tyD_bl_str, tyD_bl_int, isi2_r, SXA, Bool.and_true, Bool.true_and, Bool.and_false, Bool.false_and, Bool.or_true, Bool.true_or, Bool.or_false, Bool.false_or, Bool.not_true, Bool.not_false, List.length_cons, List.length_nil, Nat.zero_add, Nat.reduceAdd, Nat.reduceSub, Nat.reduceLeDiff, Nat.reduceMul, decide_true, decide_false, env0, List.map_cons, List.map_nil, List.replicate, List.cons_append, List.nil_append, List.append_nil, List.length_append, String.reduceEq, lfs_app, Int.reduceNeg, eq_self, if_true, if_false, Bool.false_eq_true, Int.reduceLE, Int.reduceLT, Int.reduceEq, Int.reduceSub, Int.reduceAdd, Int.reduceMul]
  | n + 1, .str i, _ => by
    show (m_law_alike (R_law_alike n)).run _ _ = _
    simp (dsimp := false) (implicitDefEqProofs := false) only [m_law_alike, tyD_tup_tuple, tyD_tup_list, tyD_tup_bool, tyD_tup_str, tyD_tup_int, tyD_lst_tuple, tyD_lst_list, tyD_lst_bool, tyD_lst_str, tyD_lst_int, tyD_int_tuple, tyD_int_list, tyD_int_bool, tyD_int_str, tyD_int_int, tyD_str_tuple, tyD_str_list, tyD_str_bool, tyD_str_str, tyD_str_int, tyD_non_tuple, tyD_non_list, tyD_non_bool, tyD_non_str, tyD_non_int, tyD_bl_tuple, tyD_bl_list, tyD_bl_bool, tyD_bl_str, tyD_bl_int, isi2_r, SXA, Bool.and_true, Bool.true_and, Bool.and_false, Bool.false_and, Bool.or_true, Bool.true_or, Bool.or_false, Bool.false_or, Bool.not_true, Bool.not_false, List.length_cons, List.length_nil, Nat.zero_add, Nat.reduceAdd, Nat.reduceSub, Nat.reduceLeDiff, Nat.reduceMul, decide_true, decide_false, env0, List.map_cons, List.map_nil, List.replicate, List.cons_append, List.nil_append, List.append_nil, List.length_append, String.reduceEq, lfs_app, Int.reduceNeg, eq_self, if_true, if_false, Bool.false_eq_true, Int.reduceLE, Int.reduceLT, Int.reduceEq, Int.reduceSub, Int.reduceAdd, Int.reduceMul]
  | n + 1, .non, _ => by
    show (m_law_alike (R_law_alike n)).run _ _ = _
    simp (dsimp := false) (implicitDefEqProofs := false) only [m_law_alike, tyD_tup_tuple, tyD_tup_list, tyD_tup_bool, tyD_tup_str, tyD_tup_int, tyD_lst_tuple, tyD_lst_list, tyD_lst_bool, tyD_lst_str, tyD_lst_int, tyD_int_tuple, tyD_int_list, tyD_int_bool, tyD_int_str, tyD_int_int, tyD_str_tuple, tyD_str_list, tyD_str_bool, tyD_str_str, tyD_str_int, tyD_non_tuple, tyD_non_list, tyD_non_bool, tyD_non_str, tyD_non_int, tyD_bl_tuple, tyD_bl_list, tyD_bl_bool, tyD_bl_str, tyD_bl_int, isi2_r, SXA, Bool.and_true, Bool.true_and, Bool.and_false, Bool.false_and, Bool.or_true, Bool.true_or, Bool.or_false, Bool.false_or, Bool.not_true, Bool.not_false, List.length_cons, List.length_nil, Nat.zero_add, Nat.reduceAdd, Nat.reduceSub, Nat.reduceLeDiff, Nat.reduceMul, decide_true, decide_false, env0, List.map_cons, List.map_nil, List.replicate, List.cons_append, List.nil_append, List.append_nil, List.length_append, String.reduceEq, lfs_app, Int.reduceNeg, eq_self, if_true, if_false, Bool.false_eq_true, Int.reduceLE, Int.reduceLT, Int.reduceEq, Int.reduceSub, Int.reduceAdd, Int.reduceMul]
  | n + 1, .bl b, _ => by
    show (m_law_alike (R_law_alike n)).run _ _ = _
    simp (dsimp := false) (implicitDefEqProofs := false) only [m_law_alike, tyD_tup_tuple, tyD_tup_list, tyD_tup_bool, tyD_tup_str, tyD_tup_int, tyD_lst_tuple, tyD_lst_list, tyD_lst_bool, tyD_lst_str, tyD_lst_int, tyD_int_tuple, tyD_int_list, tyD_int_bool, tyD_int_str, tyD_int_int, tyD_str_tuple, tyD_str_list, tyD_str_bool, tyD_str_str, tyD_str_int, tyD_non_tuple, tyD_non_list, tyD_non_bool, tyD_non_str, tyD_non_int, tyD_bl_tuple, tyD_bl_list, tyD_bl_bool, tyD_bl_str, tyD_bl_int, isi2_r, SXA, Bool.and_true, Bool.true_and, Bool.and_false, Bool.false_and, Bool.or_true, Bool.true_or, Bool.or_false, Bool.false_or, Bool.not_true, Bool.not_false, List.length_cons, List.length_nil, Nat.zero_add, Nat.reduceAdd, Nat.reduceSub, Nat.reduceLeDiff, Nat.reduceMul, decide_true, decide_false, env0, List.map_cons, List.map_nil, List.replicate, List.cons_append, List.nil_append, List.append_nil, List.length_append, String.reduceEq, lfs_app, Int.reduceNeg, eq_self, if_true, if_false, Bool.false_eq_true, Int.reduceLE, Int.reduceLT, Int.reduceEq, Int.reduceSub, Int.reduceAdd, Int.reduceMul]
  | n + 1, .tup xs, h => by
    have h1 : xs.length ≤ 100000 := h.1
    have h2 : ∀ x ∈ xs, AOk n x := h.2
    show (m_law_alike (R_law_alike n)).run _ _ = _
    simp (dsimp := false) (implicitDefEqProofs := false) only [m_law_alike, tyD_tup_tuple, tyD_tup_list, tyD_tup_bool, tyD_tup_str, tyD_tup_int, tyD_lst_tuple, tyD_lst_list, tyD_lst_bool, tyD_lst_str, tyD_lst_int, tyD_int_tuple, tyD_int_list, tyD_int_bool, tyD_int_str, tyD_int_int, tyD_str_tuple, tyD_str_list, tyD_str_bool, tyD_str_str, tyD_str_int, tyD_non_tuple, tyD_non_list, tyD_non_bool, tyD_non_str, tyD_non_int, tyD_bl_tuple, tyD_bl_list, tyD_bl_bool, tyD_bl_str, tyD_bl_int, isi2_r, range1 (n := (xs.length : Int)) (k := xs.length) rfl (by omega), SXA, Bool.and_true, Bool.true_and, Bool.and_false, Bool.false_and, Bool.or_true, Bool.true_or, Bool.or_false, Bool.false_or, Bool.not_true, Bool.not_false, List.length_cons, List.length_nil, Nat.zero_add, Nat.reduceAdd, Nat.reduceSub, Nat.reduceLeDiff, Nat.reduceMul, decide_true, decide_false, env0, List.map_cons, List.map_nil, List.replicate, List.cons_append, List.nil_append, List.append_nil, List.length_append, String.reduceEq, lfs_app, Int.reduceNeg, eq_self, if_true, if_false, Bool.false_eq_true, Int.reduceLE, Int.reduceLT, Int.reduceEq, Int.reduceSub, Int.reduceAdd, Int.reduceMul]
    rw [lc_map (ds := (List.range xs.length).map natD) (List.range xs.length) natD (fun _ => false) natD rfl (by rw [List.length_range]; omega)]
    · have e : (List.range xs.length).filter (fun _ => false) = [] := List.filter_eq_nil_iff.mpr fun _ _ => by simp
      rw [e]
      simp (dsimp := false) (implicitDefEqProofs := false) only [ko_nil, SXA, Bool.and_true, Bool.true_and, Bool.and_false, Bool.false_and, Bool.or_true, Bool.true_or, Bool.or_false, Bool.false_or, Bool.not_true, Bool.not_false, List.length_cons, List.length_nil, Nat.zero_add, Nat.reduceAdd, Nat.reduceSub, Nat.reduceLeDiff, Nat.reduceMul, decide_true, decide_false, env0, List.map_cons, List.map_nil, List.replicate, List.cons_append, List.nil_append, List.append_nil, List.length_append, String.reduceEq, lfs_app, Int.reduceNeg, eq_self, if_true, if_false, Bool.false_eq_true, Int.reduceLE, Int.reduceLT, Int.reduceEq, Int.reduceSub, Int.reduceAdd, Int.reduceMul]
    · intro i hi
      have hi' : i < xs.length := List.mem_range.mp hi
      have e : xs[i]? = some xs[i] := List.getElem?_eq_getElem hi'
      have hr := alike_ok (h2 xs[i] (List.getElem_mem hi'))
      refine ⟨_, rfl, ?_, fun h => by cases h⟩
      simp (dsimp := false) (implicitDefEqProofs := false) only [natD, callFn_f (io_R n), atI_nat, e, hr, SXA, Bool.and_true, Bool.true_and, Bool.and_false, Bool.false_and, Bool.or_true, Bool.true_or, Bool.or_false, Bool.false_or, Bool.not_true, Bool.not_false, List.length_cons, List.length_nil, Nat.zero_add, Nat.reduceAdd, Nat.reduceSub, Nat.reduceLeDiff, Nat.reduceMul, decide_true, decide_false, env0, List.map_cons, List.map_nil, List.replicate, List.cons_append, List.nil_append, List.append_nil, List.length_append, String.reduceEq, lfs_app, Int.reduceNeg, eq_self, if_true, if_false, Bool.false_eq_true, Int.reduceLE, Int.reduceLT, Int.reduceEq, Int.reduceSub, Int.reduceAdd, Int.reduceMul]
  | n + 1, .lst xs, h => by
    have h1 : xs.length ≤ 100000 := h.1
    have h2 : ∀ x ∈ xs, AOk n x := h.2
    show (m_law_alike (R_law_alike n)).run _ _ = _
    simp (dsimp := false) (implicitDefEqProofs := false) only [m_law_alike, tyD_tup_tuple, tyD_tup_list, tyD_tup_bool, tyD_tup_str, tyD_tup_int, tyD_lst_tuple, tyD_lst_list, tyD_lst_bool, tyD_lst_str, tyD_lst_int, tyD_int_tuple, tyD_int_list, tyD_int_bool, tyD_int_str, tyD_int_int, tyD_str_tuple, tyD_str_list, tyD_str_bool, tyD_str_str, tyD_str_int, tyD_non_tuple, tyD_non_list, tyD_non_bool, tyD_non_str, tyD_non_int, tyD_bl_tuple, tyD_bl_list, tyD_bl_bool, tyD_bl_str, tyD_bl_int, isi2_r, range1 (n := (xs.length : Int)) (k := xs.length) rfl (by omega), SXA, Bool.and_true, Bool.true_and, Bool.and_false, Bool.false_and, Bool.or_true, Bool.true_or, Bool.or_false, Bool.false_or, Bool.not_true, Bool.not_false, List.length_cons, List.length_nil, Nat.zero_add, Nat.reduceAdd, Nat.reduceSub, Nat.reduceLeDiff, Nat.reduceMul, decide_true, decide_false, env0, List.map_cons, List.map_nil, List.replicate, List.cons_append, List.nil_append, List.append_nil, List.length_append, String.reduceEq, lfs_app, Int.reduceNeg, eq_self, if_true, if_false, Bool.false_eq_true, Int.reduceLE, Int.reduceLT, Int.reduceEq, Int.reduceSub, Int.reduceAdd, Int.reduceMul]
    rw [lc_map (ds := (List.range xs.length).map natD) (List.range xs.length) natD (fun _ => false) natD rfl (by rw [List.length_range]; omega)]
    · have e : (List.range xs.length).filter (fun _ => false) = [] := List.filter_eq_nil_iff.mpr fun _ _ => by simp
      rw [e]
      simp (dsimp := false) (implicitDefEqProofs := false) only [ko_nil, SXA, Bool.and_true, Bool.true_and, Bool.and_false, Bool.false_and, Bool.or_true, Bool.true_or, Bool.or_false, Bool.false_or, Bool.not_true, Bool.not_false, List.length_cons, List.length_nil, Nat.zero_add, Nat.reduceAdd, Nat.reduceSub, Nat.reduceLeDiff, Nat.reduceMul, decide_true, decide_false, env0, List.map_cons, List.map_nil, List.replicate, List.cons_append, List.nil_append, List.append_nil, List.length_append, String.reduceEq, lfs_app, Int.reduceNeg, eq_self, if_true, if_false, Bool.false_eq_true, Int.reduceLE, Int.reduceLT, Int.reduceEq, Int.reduceSub, Int.reduceAdd, Int.reduceMul]
    · intro i hi
      have hi' : i < xs.length := List.mem_range.mp hi
      have e : xs[i]? = some xs[i] := List.getElem?_eq_getElem hi'
      have hr := alike_ok (h2 xs[i] (List.getElem_mem hi'))
      refine ⟨_, rfl, ?_, fun h => by cases h⟩
      simp (dsimp := false) (implicitDefEqProofs := false) only [natD, callFn_f (io_R n), atI_nat, e, hr, SXA, Bool.and_true, Bool.true_and, Bool.and_false, Bool.false_and, Bool.or_true, Bool.true_or, Bool.or_false, Bool.false_or, Bool.not_true, Bool.not_false, List.length_cons, List.length_nil, Nat.zero_add, Nat.reduceAdd, Nat.reduceSub, Nat.reduceLeDiff, Nat.reduceMul, decide_true, decide_false, env0, List.map_cons, List.map_nil, List.replicate, List.cons_append, List.nil_append, List.append_nil, List.length_append, String.reduceEq, lfs_app, Int.reduceNeg, eq_self, if_true, if_false, Bool.false_eq_true, Int.reduceLE, Int.reduceLT, Int.reduceEq, Int.reduceSub, Int.reduceAdd, Int.reduceMul]

theorem aok_room (r : Room) (h : r.length ≤ 100000) : AOk 3 (roomD r) := by
  refine ⟨by rw [List.length_map]; exact h, fun x hx => ?_⟩
  rw [List.mem_map] at hx
  obtain ⟨s, _, rfl⟩ := hx
  refine ⟨by show 2 ≤ 100000; omega, fun y hy => ?_⟩
  rcases List.mem_cons.mp hy with rfl | hy
  · trivial
  · rw [List.mem_singleton.mp hy]; trivial
theorem aok_mono : ∀ {n : Nat} {d : D}, AOk n d → AOk (n + 1) d
  | 0, _, h => h.elim
  | n + 1, .int i, _ => trivial
  | n + 1, .str i, _ => trivial
  | n + 1, .non, _ => trivial
  | n + 1, .bl b, _ => trivial
  | n + 1, .tup xs, h => ⟨h.1, fun x hx => aok_mono (h.2 x hx)⟩
  | n + 1, .lst xs, h => ⟨h.1, fun x hx => aok_mono (h.2 x hx)⟩
theorem alike_rooms {l : List Room} (h : l.length ≤ 100000) (h2 : ∀ r ∈ l, r.length ≤ 100000) : F_law_alike.run [.lst (l.map roomD), .lst (l.map roomD)] none = .ok (.bl true) none := by
  refine alike_ok (n := 6) (aok_mono (aok_mono ⟨by rw [List.length_map]; exact h, fun x hx => ?_⟩))
  rw [List.mem_map] at hx
  obtain ⟨r, hr, rfl⟩ := hx
  exact aok_room r (h2 r hr)
theorem alike_opt (o : Option Nat) : F_law_alike.run [optD o, optD o] none = .ok (.bl true) none := by
  cases o <;> exact alike_ok (n := 6) trivial
/-! the law's keeps, first, rooms -/
theorem in_str2 (a x y : String) : inD (.str (Str.ofString a)) (.tup [.str (Str.ofString x), .str (Str.ofString y)]) = some (decide (x = a) || decide (y = a)) := by
  show some (decide ((Str.ofString x) = (Str.ofString a)) || (decide ((Str.ofString y) = (Str.ofString a)) || false)) = _
  rw [str_seq, str_seq, Bool.or_false]
theorem pys_int : ∀ l : List Int, pys (l.map D.int) = some (l.map PyData.int)
  | [] => rfl
  | x :: l => by rw [List.map_cons, pys, pys_int l]; rfl
theorem eq_ints (l : List Int) : eqD (.lst (l.map D.int)) (.lst []) = some (decide (l = [])) := by
  rw [eqD_nil (pys_int l)]
  cases l <;> rfl
theorem lfs_int (l : List Int) : lfs (l.map D.int) = true := lfs_map (fun _ => rfl) l
theorem side_le (p : Int) (k : Nat) : (sideS p k ≤ 0) = (p - 2 * (k : Int) - 1 ≤ 0) := by
  unfold sideS
  apply propext
  split <;> split <;> omega
theorem side_ge (p : Int) (k : Nat) : (sideS p k ≥ 0) = (p - 2 * (k : Int) - 1 ≥ 0) := by
  unfold sideS
  apply propext
  split <;> split <;> omega
theorem side_eq {x p : Int} {k : Nat} (h : x = -1 ∨ x = 0 ∨ x = 1) : (x = sideS p k) = (0 < x * (p - 2 * (k : Int) - 1) ∨ (x = 0 ∧ p - 2 * (k : Int) - 1 = 0)) := by
  unfold sideS
  apply propext
  rcases h with rfl | rfl | rfl <;> split <;> split <;> omega
def triedP (w z : Int) : Bool := decide (0 < z * w) || (decide (z = 0) && decide (w = 0))
theorem tried_sum {x y w : Int} (hx : x = -1 ∨ x = 0 ∨ x = 1) (hy : y = -1 ∨ y = 0 ∨ y = 1) (hw : w = -1 ∨ w = 0 ∨ w = 1) : (!(decide (([x + y, x + 2 * y, 2 * x + y].filter (triedP w)) = []))) = sumS x y w := by
  rcases hx with rfl | rfl | rfl <;> rcases hy with rfl | rfl | rfl <;> rcases hw with rfl | rfl | rfl <;> decide
theorem law_keeps_ok {r : Room} {k : Tie} (h : tieIn r.length k) (ht : TrIn r) : F_law_keeps.run [tieD k, roomD r] none = .ok (.bl (keepsS r k)) none := by
  cases k with
  | wi a b =>
    have h1 := atI_room h.1
    have h2 := atI_room h.2
    unfold roomD tieD
    simp (dsimp := false) (implicitDefEqProofs := false) only [F_law_keeps, m_law_keeps, h1, h2, str_seq, in_str2, Int.mul_one, SXA, Bool.and_true, Bool.true_and, Bool.and_false, Bool.false_and, Bool.or_true, Bool.true_or, Bool.or_false, Bool.false_or, Bool.not_true, Bool.not_false, List.length_cons, List.length_nil, Nat.zero_add, Nat.reduceAdd, Nat.reduceSub, Nat.reduceLeDiff, Nat.reduceMul, decide_true, decide_false, env0, List.map_cons, List.map_nil, List.replicate, List.cons_append, List.nil_append, List.append_nil, List.length_append, String.reduceEq, lfs_app, Int.reduceNeg, eq_self, if_true, if_false, Bool.false_eq_true, Int.reduceLE, Int.reduceLT, Int.reduceEq, Int.reduceSub, Int.reduceAdd, Int.reduceMul]
    rfl
  | ag a b =>
    have h1 := atI_room h.1
    have h2 := atI_room h.2
    unfold roomD tieD
    simp (dsimp := false) (implicitDefEqProofs := false) only [F_law_keeps, m_law_keeps, h1, h2, str_seq, in_str2, SXA, Bool.and_true, Bool.true_and, Bool.and_false, Bool.false_and, Bool.or_true, Bool.true_or, Bool.or_false, Bool.false_or, Bool.not_true, Bool.not_false, List.length_cons, List.length_nil, Nat.zero_add, Nat.reduceAdd, Nat.reduceSub, Nat.reduceLeDiff, Nat.reduceMul, decide_true, decide_false, env0, List.map_cons, List.map_nil, List.replicate, List.cons_append, List.nil_append, List.append_nil, List.length_append, String.reduceEq, lfs_app, Int.reduceNeg, eq_self, if_true, if_false, Bool.false_eq_true, Int.reduceLE, Int.reduceLT, Int.reduceEq, Int.reduceSub, Int.reduceAdd, Int.reduceMul]
    have e : decide (trS r a = trS r b * -1) = keepsS r (.ag a b) := by
      show _ = decide (trS r a = 0 - trS r b)
      rw [decide_eq_decide]
      omega
    rw [e]
  | su a b c =>
    have h1 := atI_room h.1
    have h2 := atI_room h.2.1
    have h3 := atI_room h.2.2
    obtain ⟨g1, t1⟩ := tr_sm ht h.1
    obtain ⟨g2, t2⟩ := tr_sm ht h.2.1
    obtain ⟨g3, t3⟩ := tr_sm ht h.2.2
    unfold roomD tieD
    simp (dsimp := false) (implicitDefEqProofs := false) only [F_law_keeps, m_law_keeps, h1, h2, h3, str_seq, in_str2, g1, g2, g3, SXA, Bool.and_true, Bool.true_and, Bool.and_false, Bool.false_and, Bool.or_true, Bool.true_or, Bool.or_false, Bool.false_or, Bool.not_true, Bool.not_false, List.length_cons, List.length_nil, Nat.zero_add, Nat.reduceAdd, Nat.reduceSub, Nat.reduceLeDiff, Nat.reduceMul, decide_true, decide_false, env0, List.map_cons, List.map_nil, List.replicate, List.cons_append, List.nil_append, List.append_nil, List.length_append, String.reduceEq, lfs_app, Int.reduceNeg, eq_self, if_true, if_false, Bool.false_eq_true, Int.reduceLE, Int.reduceLT, Int.reduceEq, Int.reduceSub, Int.reduceAdd, Int.reduceMul]
    rw [lc_map (ds := [D.int (trS r b + trS r c), D.int (trS r b + 2 * trS r c), D.int (2 * trS r b + trS r c)]) [trS r b + trS r c, trS r b + 2 * trS r c, 2 * trS r b + trS r c] D.int (triedP (trS r a)) D.int rfl (by show 3 ≤ 1000000; omega)]
    · simp (dsimp := false) (implicitDefEqProofs := false) only [lfs_int, eq_ints, tried_sum t2 t3 t1, SXA, Bool.and_true, Bool.true_and, Bool.and_false, Bool.false_and, Bool.or_true, Bool.true_or, Bool.or_false, Bool.false_or, Bool.not_true, Bool.not_false, List.length_cons, List.length_nil, Nat.zero_add, Nat.reduceAdd, Nat.reduceSub, Nat.reduceLeDiff, Nat.reduceMul, decide_true, decide_false, env0, List.map_cons, List.map_nil, List.replicate, List.cons_append, List.nil_append, List.append_nil, List.length_append, String.reduceEq, lfs_app, Int.reduceNeg, eq_self, if_true, if_false, Bool.false_eq_true, Int.reduceLE, Int.reduceLT, Int.reduceEq, Int.reduceSub, Int.reduceAdd, Int.reduceMul]
      rfl
    · intro z hz
      refine ⟨_, rfl, ?_, fun _ => ?_⟩
      · unfold triedP
        by_cases p1 : 0 < z * trS r a
        · simp (dsimp := false) (implicitDefEqProofs := false) only [g1, p1, SXA, Bool.and_true, Bool.true_and, Bool.and_false, Bool.false_and, Bool.or_true, Bool.true_or, Bool.or_false, Bool.false_or, Bool.not_true, Bool.not_false, List.length_cons, List.length_nil, Nat.zero_add, Nat.reduceAdd, Nat.reduceSub, Nat.reduceLeDiff, Nat.reduceMul, decide_true, decide_false, env0, List.map_cons, List.map_nil, List.replicate, List.cons_append, List.nil_append, List.append_nil, List.length_append, String.reduceEq, lfs_app, Int.reduceNeg, eq_self, if_true, if_false, Bool.false_eq_true, Int.reduceLE, Int.reduceLT, Int.reduceEq, Int.reduceSub, Int.reduceAdd, Int.reduceMul]
        · by_cases p2 : z = 0
          · subst p2
            simp (dsimp := false) (implicitDefEqProofs := false) only [g1, p1, SXA, Bool.and_true, Bool.true_and, Bool.and_false, Bool.false_and, Bool.or_true, Bool.true_or, Bool.or_false, Bool.false_or, Bool.not_true, Bool.not_false, List.length_cons, List.length_nil, Nat.zero_add, Nat.reduceAdd, Nat.reduceSub, Nat.reduceLeDiff, Nat.reduceMul, decide_true, decide_false, env0, List.map_cons, List.map_nil, List.replicate, List.cons_append, List.nil_append, List.append_nil, List.length_append, String.reduceEq, lfs_app, Int.reduceNeg, eq_self, if_true, if_false, Bool.false_eq_true, Int.reduceLE, Int.reduceLT, Int.reduceEq, Int.reduceSub, Int.reduceAdd, Int.reduceMul]
          · simp (dsimp := false) (implicitDefEqProofs := false) only [g1, p1, p2, SXA, Bool.and_true, Bool.true_and, Bool.and_false, Bool.false_and, Bool.or_true, Bool.true_or, Bool.or_false, Bool.false_or, Bool.not_true, Bool.not_false, List.length_cons, List.length_nil, Nat.zero_add, Nat.reduceAdd, Nat.reduceSub, Nat.reduceLeDiff, Nat.reduceMul, decide_true, decide_false, env0, List.map_cons, List.map_nil, List.replicate, List.cons_append, List.nil_append, List.append_nil, List.length_append, String.reduceEq, lfs_app, Int.reduceNeg, eq_self, if_true, if_false, Bool.false_eq_true, Int.reduceLE, Int.reduceLT, Int.reduceEq, Int.reduceSub, Int.reduceAdd, Int.reduceMul]
      · simp (dsimp := false) (implicitDefEqProofs := false) only [SXA, Bool.and_true, Bool.true_and, Bool.and_false, Bool.false_and, Bool.or_true, Bool.true_or, Bool.or_false, Bool.false_or, Bool.not_true, Bool.not_false, List.length_cons, List.length_nil, Nat.zero_add, Nat.reduceAdd, Nat.reduceSub, Nat.reduceLeDiff, Nat.reduceMul, decide_true, decide_false, env0, List.map_cons, List.map_nil, List.replicate, List.cons_append, List.nil_append, List.append_nil, List.length_append, String.reduceEq, lfs_app, Int.reduceNeg, eq_self, if_true, if_false, Bool.false_eq_true, Int.reduceLE, Int.reduceLT, Int.reduceEq, Int.reduceSub, Int.reduceAdd, Int.reduceMul]
        exact ⟨false, rfl, trivial⟩
  | pr a b c =>
    have h1 := atI_room h.1
    have h2 := atI_room h.2.1
    have h3 := atI_room h.2.2
    have h4 := (tr_sm ht h.2.1).1
    unfold roomD tieD
    simp (dsimp := false) (implicitDefEqProofs := false) only [F_law_keeps, m_law_keeps, h1, h2, h3, h4, str_seq, in_str2, SXA, Bool.and_true, Bool.true_and, Bool.and_false, Bool.false_and, Bool.or_true, Bool.true_or, Bool.or_false, Bool.false_or, Bool.not_true, Bool.not_false, List.length_cons, List.length_nil, Nat.zero_add, Nat.reduceAdd, Nat.reduceSub, Nat.reduceLeDiff, Nat.reduceMul, decide_true, decide_false, env0, List.map_cons, List.map_nil, List.replicate, List.cons_append, List.nil_append, List.append_nil, List.length_append, String.reduceEq, lfs_app, Int.reduceNeg, eq_self, if_true, if_false, Bool.false_eq_true, Int.reduceLE, Int.reduceLT, Int.reduceEq, Int.reduceSub, Int.reduceAdd, Int.reduceMul]
    rfl
  | ra a b k =>
    have h1 := atI_room h.1
    have h2 := atI_room h.2
    obtain ⟨h4, t1⟩ := tr_sm ht h.1
    have hs := side_eq (p := plS r b) (k := k) t1
    unfold roomD tieD
    have hg : keepsS r (.ra a b k) = decide (trS r a = sideS (plS r b) k) := rfl
    by_cases p1 : 0 < trS r a * (plS r b - 2 * (k : Int) - 1)
    · simp (dsimp := false) (implicitDefEqProofs := false) only [F_law_keeps, m_law_keeps, h1, h2, h4, p1, str_seq, in_str2, SXA, Bool.and_true, Bool.true_and, Bool.and_false, Bool.false_and, Bool.or_true, Bool.true_or, Bool.or_false, Bool.false_or, Bool.not_true, Bool.not_false, List.length_cons, List.length_nil, Nat.zero_add, Nat.reduceAdd, Nat.reduceSub, Nat.reduceLeDiff, Nat.reduceMul, decide_true, decide_false, env0, List.map_cons, List.map_nil, List.replicate, List.cons_append, List.nil_append, List.append_nil, List.length_append, String.reduceEq, lfs_app, Int.reduceNeg, eq_self, if_true, if_false, Bool.false_eq_true, Int.reduceLE, Int.reduceLT, Int.reduceEq, Int.reduceSub, Int.reduceAdd, Int.reduceMul]
      rw [hg, decide_eq_true (hs.mpr (.inl p1))]
    · by_cases p2 : trS r a = 0
      · by_cases p3 : plS r b - 2 * (k : Int) - 1 = 0
        · simp (dsimp := false) (implicitDefEqProofs := false) only [F_law_keeps, m_law_keeps, h1, h2, h4, p1, decide_eq_true p2, decide_eq_true p3, str_seq, in_str2, SXA, Bool.and_true, Bool.true_and, Bool.and_false, Bool.false_and, Bool.or_true, Bool.true_or, Bool.or_false, Bool.false_or, Bool.not_true, Bool.not_false, List.length_cons, List.length_nil, Nat.zero_add, Nat.reduceAdd, Nat.reduceSub, Nat.reduceLeDiff, Nat.reduceMul, decide_true, decide_false, env0, List.map_cons, List.map_nil, List.replicate, List.cons_append, List.nil_append, List.append_nil, List.length_append, String.reduceEq, lfs_app, Int.reduceNeg, eq_self, if_true, if_false, Bool.false_eq_true, Int.reduceLE, Int.reduceLT, Int.reduceEq, Int.reduceSub, Int.reduceAdd, Int.reduceMul]
          rw [hg, decide_eq_true (hs.mpr (.inr ⟨p2, p3⟩))]
        · simp (dsimp := false) (implicitDefEqProofs := false) only [F_law_keeps, m_law_keeps, h1, h2, h4, p1, decide_eq_true p2, decide_eq_false p3, str_seq, in_str2, SXA, Bool.and_true, Bool.true_and, Bool.and_false, Bool.false_and, Bool.or_true, Bool.true_or, Bool.or_false, Bool.false_or, Bool.not_true, Bool.not_false, List.length_cons, List.length_nil, Nat.zero_add, Nat.reduceAdd, Nat.reduceSub, Nat.reduceLeDiff, Nat.reduceMul, decide_true, decide_false, env0, List.map_cons, List.map_nil, List.replicate, List.cons_append, List.nil_append, List.append_nil, List.length_append, String.reduceEq, lfs_app, Int.reduceNeg, eq_self, if_true, if_false, Bool.false_eq_true, Int.reduceLE, Int.reduceLT, Int.reduceEq, Int.reduceSub, Int.reduceAdd, Int.reduceMul]
          rw [hg, decide_eq_false (fun q => (hs.mp q).elim p1 fun q => p3 q.2)]
      · simp (dsimp := false) (implicitDefEqProofs := false) only [F_law_keeps, m_law_keeps, h1, h2, h4, p1, p2, str_seq, in_str2, SXA, Bool.and_true, Bool.true_and, Bool.and_false, Bool.false_and, Bool.or_true, Bool.true_or, Bool.or_false, Bool.false_or, Bool.not_true, Bool.not_false, List.length_cons, List.length_nil, Nat.zero_add, Nat.reduceAdd, Nat.reduceSub, Nat.reduceLeDiff, Nat.reduceMul, decide_true, decide_false, env0, List.map_cons, List.map_nil, List.replicate, List.cons_append, List.nil_append, List.append_nil, List.length_append, String.reduceEq, lfs_app, Int.reduceNeg, eq_self, if_true, if_false, Bool.false_eq_true, Int.reduceLE, Int.reduceLT, Int.reduceEq, Int.reduceSub, Int.reduceAdd, Int.reduceMul]
        rw [hg, decide_eq_false (fun q => (hs.mp q).elim p1 fun q => p2 q.1)]
  | un a k =>
    have h1 := atI_room h
    unfold roomD tieD
    simp (dsimp := false) (implicitDefEqProofs := false) only [F_law_keeps, m_law_keeps, h1, str_seq, in_str2, Int.mul_one, SXA, Bool.and_true, Bool.true_and, Bool.and_false, Bool.false_and, Bool.or_true, Bool.true_or, Bool.or_false, Bool.false_or, Bool.not_true, Bool.not_false, List.length_cons, List.length_nil, Nat.zero_add, Nat.reduceAdd, Nat.reduceSub, Nat.reduceLeDiff, Nat.reduceMul, decide_true, decide_false, env0, List.map_cons, List.map_nil, List.replicate, List.cons_append, List.nil_append, List.append_nil, List.length_append, String.reduceEq, lfs_app, Int.reduceNeg, eq_self, if_true, if_false, Bool.false_eq_true, Int.reduceLE, Int.reduceLT, Int.reduceEq, Int.reduceSub, Int.reduceAdd, Int.reduceMul]
    have e : keepsS r (.un a k) = decide (plS r a - 2 * (k : Int) - 1 ≤ 0) := by
      show decide (sideS (plS r a) k ≤ 0) = _
      rw [decide_eq_decide, side_le]
    rw [e]
  | ov a k =>
    have h1 := atI_room h
    unfold roomD tieD
    simp (dsimp := false) (implicitDefEqProofs := false) only [F_law_keeps, m_law_keeps, h1, str_seq, in_str2, SXA, Bool.and_true, Bool.true_and, Bool.and_false, Bool.false_and, Bool.or_true, Bool.true_or, Bool.or_false, Bool.false_or, Bool.not_true, Bool.not_false, List.length_cons, List.length_nil, Nat.zero_add, Nat.reduceAdd, Nat.reduceSub, Nat.reduceLeDiff, Nat.reduceMul, decide_true, decide_false, env0, List.map_cons, List.map_nil, List.replicate, List.cons_append, List.nil_append, List.append_nil, List.length_append, String.reduceEq, lfs_app, Int.reduceNeg, eq_self, if_true, if_false, Bool.false_eq_true, Int.reduceLE, Int.reduceLT, Int.reduceEq, Int.reduceSub, Int.reduceAdd, Int.reduceMul]
    have e : keepsS r (.ov a k) = decide ((plS r a - 2 * (k : Int) - 1) * -1 ≤ 0) := by
      show decide (sideS (plS r a) k ≥ 0) = _
      rw [decide_eq_decide, side_ge]
      omega
    rw [e]
end TH

set_option Elab.async false
set_option linter.all false
set_option maxRecDepth 100000
set_option maxHeartbeats 4000000
/-! KI: the law's own first, rooms. -/
namespace TH
open PySem PySem.Spec PyProof.Rows L2

theorem law_first_ok {ks : List Tie} {r : Room} (h : ∀ k ∈ ks, tieIn r.length k) (ht : TrIn r) (hz : ks.length ≤ 1000) : F_law_first.run [.lst (ks.map tieD), roomD r] none = .ok (optD (firstS ks r)) none := by
  simp (dsimp := false) (implicitDefEqProofs := false) only [F_law_first, m_law_first, List.length_map, range1 (n := (ks.length : Int)) (k := ks.length) rfl (by omega), SXA, Bool.and_true, Bool.true_and, Bool.and_false, Bool.false_and, Bool.or_true, Bool.true_or, Bool.or_false, Bool.false_or, Bool.not_true, Bool.not_false, List.length_cons, List.length_nil, Nat.zero_add, Nat.reduceAdd, Nat.reduceSub, Nat.reduceLeDiff, Nat.reduceMul, decide_true, decide_false, env0, List.map_cons, List.map_nil, List.replicate, List.cons_append, List.nil_append, List.append_nil, List.length_append, String.reduceEq, lfs_app, Int.reduceNeg, eq_self, if_true, if_false, Bool.false_eq_true, Int.reduceLE, Int.reduceLT, Int.reduceEq, Int.reduceSub, Int.reduceAdd, Int.reduceMul]
  generalize hF : forW _ _ _ _ _ = F
  refine for_find_e (items := List.range ks.length) (emb := natD) (fun S => ∃ o, S = [some (.lst (ks.map tieD)), some (roomD r), o]) (fun i => !(keepsS r (ks.getD i (.wi 0 0)))) natD hF rfl ⟨_, rfl⟩ ?_ ?_ ?_
  · rintro i hi S ⟨o, rfl⟩
    have hi : i < ks.length := List.mem_range.mp hi
    have e : (ks.map tieD)[i]? = some (tieD ks[i]) := by rw [List.getElem?_map, List.getElem?_eq_getElem hi]; rfl
    have e2 : ks.getD i (.wi 0 0) = ks[i] := by rw [List.getD_eq_getElem?_getD, List.getElem?_eq_getElem hi]; rfl
    have hk := law_keeps_ok (h ks[i] (List.getElem_mem hi)) ht
    refine ⟨_, rfl, ?_⟩
    rw [e2]
    cases hb : keepsS r ks[i] with
    | true =>
      right
      refine ⟨rfl, ?_⟩
      simp (dsimp := false) (implicitDefEqProofs := false) only [natD, atI_nat, e, hk, hb, callFn_f (fn := F_law_keeps) rfl, lf_tieD, SXA, Bool.and_true, Bool.true_and, Bool.and_false, Bool.false_and, Bool.or_true, Bool.true_or, Bool.or_false, Bool.false_or, Bool.not_true, Bool.not_false, List.length_cons, List.length_nil, Nat.zero_add, Nat.reduceAdd, Nat.reduceSub, Nat.reduceLeDiff, Nat.reduceMul, decide_true, decide_false, env0, List.map_cons, List.map_nil, List.replicate, List.cons_append, List.nil_append, List.append_nil, List.length_append, String.reduceEq, lfs_app, Int.reduceNeg, eq_self, if_true, if_false, Bool.false_eq_true, Int.reduceLE, Int.reduceLT, Int.reduceEq, Int.reduceSub, Int.reduceAdd, Int.reduceMul]
      exact ⟨_, rfl, _, rfl⟩
    | false =>
      left
      refine ⟨rfl, ?_⟩
      simp (dsimp := false) (implicitDefEqProofs := false) only [natD, atI_nat, e, hk, hb, callFn_f (fn := F_law_keeps) rfl, lf_tieD, SXA, Bool.and_true, Bool.true_and, Bool.and_false, Bool.false_and, Bool.or_true, Bool.true_or, Bool.or_false, Bool.false_or, Bool.not_true, Bool.not_false, List.length_cons, List.length_nil, Nat.zero_add, Nat.reduceAdd, Nat.reduceSub, Nat.reduceLeDiff, Nat.reduceMul, decide_true, decide_false, env0, List.map_cons, List.map_nil, List.replicate, List.cons_append, List.nil_append, List.append_nil, List.length_append, String.reduceEq, lfs_app, Int.reduceNeg, eq_self, if_true, if_false, Bool.false_eq_true, Int.reduceLE, Int.reduceLT, Int.reduceEq, Int.reduceSub, Int.reduceAdd, Int.reduceMul]
  · rintro S2 h1 rfl ⟨o, rfl⟩
    simp (dsimp := false) (implicitDefEqProofs := false) only [SXA, Bool.and_true, Bool.true_and, Bool.and_false, Bool.false_and, Bool.or_true, Bool.true_or, Bool.or_false, Bool.false_or, Bool.not_true, Bool.not_false, List.length_cons, List.length_nil, Nat.zero_add, Nat.reduceAdd, Nat.reduceSub, Nat.reduceLeDiff, Nat.reduceMul, decide_true, decide_false, env0, List.map_cons, List.map_nil, List.replicate, List.cons_append, List.nil_append, List.append_nil, List.length_append, String.reduceEq, lfs_app, Int.reduceNeg, eq_self, if_true, if_false, Bool.false_eq_true, Int.reduceLE, Int.reduceLT, Int.reduceEq, Int.reduceSub, Int.reduceAdd, Int.reduceMul]
    unfold firstS
    rw [h1]; rfl
  · rintro i h1 rfl
    simp (dsimp := false) (implicitDefEqProofs := false) only [SXA, Bool.and_true, Bool.true_and, Bool.and_false, Bool.false_and, Bool.or_true, Bool.true_or, Bool.or_false, Bool.false_or, Bool.not_true, Bool.not_false, List.length_cons, List.length_nil, Nat.zero_add, Nat.reduceAdd, Nat.reduceSub, Nat.reduceLeDiff, Nat.reduceMul, decide_true, decide_false, env0, List.map_cons, List.map_nil, List.replicate, List.cons_append, List.nil_append, List.append_nil, List.length_append, String.reduceEq, lfs_app, Int.reduceNeg, eq_self, if_true, if_false, Bool.false_eq_true, Int.reduceLE, Int.reduceLT, Int.reduceEq, Int.reduceSub, Int.reduceAdd, Int.reduceMul]
    unfold firstS
    rw [h1]; rfl
theorem law_rooms_ok {ts : List Th} {ks : List Tie} (hm : msIn ts) (h3 : ts.length ≤ 3) (h : ∀ k ∈ ks, tieIn ts.length k) (hz : ks.length ≤ 1000) : F_law_rooms.run [.lst (ts.map thD), .lst (ks.map tieD)] none = .ok (.lst ((goodRooms ts ks).map roomD)) none := by
  simp (dsimp := false) (implicitDefEqProofs := false) only [F_law_rooms, m_law_rooms, SXA, Bool.and_true, Bool.true_and, Bool.and_false, Bool.false_and, Bool.or_true, Bool.true_or, Bool.or_false, Bool.false_or, Bool.not_true, Bool.not_false, List.length_cons, List.length_nil, Nat.zero_add, Nat.reduceAdd, Nat.reduceSub, Nat.reduceLeDiff, Nat.reduceMul, decide_true, decide_false, env0, List.map_cons, List.map_nil, List.replicate, List.cons_append, List.nil_append, List.append_nil, List.length_append, String.reduceEq, lfs_app, Int.reduceNeg, eq_self, if_true, if_false, Bool.false_eq_true, Int.reduceLE, Int.reduceLT, Int.reduceEq, Int.reduceSub, Int.reduceAdd, Int.reduceMul]
  generalize hF : forW _ _ _ _ _ = F
  refine for_inv_e (items := ts) (emb := thD) (fun rest S r => r = none ∧ (∀ t ∈ rest, t ∈ ts) ∧ ∃ acc o3 o4 o5 o6 o7 o8, S = [some (.lst (ts.map thD)), some (.lst (ks.map tieD)), some (.lst (acc.map roomD)), o3, o4, o5, o6, o7, o8] ∧ roomsFrom (rest.map fun t => spotsS t.ms.length) acc = allRooms ts ∧ growOk acc rest.length) hF rfl ⟨rfl, fun _ q => q, [[]], _, _, _, _, _, _, rfl, rfl, h3, ?_, ?_⟩ ?_ ?_
  · exact Nat.one_le_pow _ _ (by omega)
  · intro x hx
    rw [List.mem_singleton.mp hx]
    exact Nat.zero_le _
  · rintro t rest S r ⟨rfl, hr, acc, o3, o4, o5, o6, o7, o8, rfl, e, hg⟩
    obtain ⟨q1, q3⟩ := hm t (hr t List.mem_cons_self)
    have hs := law_spots_ok t.ms q1 q3
    have hl15 := spotsS_len t.ms.length q3
    refine ⟨_, rfl, ?_⟩
    simp (dsimp := false) (implicitDefEqProofs := false) only [SXA, Bool.and_true, Bool.true_and, Bool.and_false, Bool.false_and, Bool.or_true, Bool.true_or, Bool.or_false, Bool.false_or, Bool.not_true, Bool.not_false, List.length_cons, List.length_nil, Nat.zero_add, Nat.reduceAdd, Nat.reduceSub, Nat.reduceLeDiff, Nat.reduceMul, decide_true, decide_false, env0, List.map_cons, List.map_nil, List.replicate, List.cons_append, List.nil_append, List.append_nil, List.length_append, String.reduceEq, lfs_app, Int.reduceNeg, eq_self, if_true, if_false, Bool.false_eq_true, Int.reduceLE, Int.reduceLT, Int.reduceEq, Int.reduceSub, Int.reduceAdd, Int.reduceMul]
    generalize hG : forW _ _ _ _ _ = G
    refine for_inv_e (items := acc) (emb := roomD) (fun rest' S r => r = none ∧ ∃ pre o6 o7 o8, pre ++ rest' = acc ∧ S = [some (.lst (ts.map thD)), some (.lst (ks.map tieD)), some (.lst (acc.map roomD)), some (.str t.nm), some (.tup (intsL t.ms)), some (.lst ((longer pre (spotsS t.ms.length)).map roomD)), o6, o7, o8]) hG rfl ⟨rfl, [], _, _, _, rfl, rfl⟩ ?_ ?_
    · rintro one rest' S r ⟨rfl, pre, o6, o7, o8, hp, rfl⟩
      have hone : one ∈ acc := by rw [← hp]; simp
      have hlen := hg.2.2 one hone
      have hmax := grow_max hg
      have hpl : pre.length ≤ acc.length := by rw [← hp, List.length_append]; omega
      have hll := longer_len pre (spotsS t.ms.length)
      have hmul : pre.length * (spotsS t.ms.length).length ≤ 3375 * 15 := Nat.mul_le_mul (by omega) hl15
      refine ⟨_, rfl, ?_⟩
      simp (dsimp := false) (implicitDefEqProofs := false) only [callFn_f (fn := F_law_spots) rfl, hs, SXA, Bool.and_true, Bool.true_and, Bool.and_false, Bool.false_and, Bool.or_true, Bool.true_or, Bool.or_false, Bool.false_or, Bool.not_true, Bool.not_false, List.length_cons, List.length_nil, Nat.zero_add, Nat.reduceAdd, Nat.reduceSub, Nat.reduceLeDiff, Nat.reduceMul, decide_true, decide_false, env0, List.map_cons, List.map_nil, List.replicate, List.cons_append, List.nil_append, List.append_nil, List.length_append, String.reduceEq, lfs_app, Int.reduceNeg, eq_self, if_true, if_false, Bool.false_eq_true, Int.reduceLE, Int.reduceLT, Int.reduceEq, Int.reduceSub, Int.reduceAdd, Int.reduceMul]
      rw [lc_all (spotsS t.ms.length) spotD (fun s => roomD (one ++ [s])) rfl (by omega)]
      · simp (dsimp := false) (implicitDefEqProofs := false) only [SXA, Bool.and_true, Bool.true_and, Bool.and_false, Bool.false_and, Bool.or_true, Bool.true_or, Bool.or_false, Bool.false_or, Bool.not_true, Bool.not_false, List.length_cons, List.length_nil, Nat.zero_add, Nat.reduceAdd, Nat.reduceSub, Nat.reduceLeDiff, Nat.reduceMul, decide_true, decide_false, env0, List.map_cons, List.map_nil, List.replicate, List.cons_append, List.nil_append, List.append_nil, List.length_append, String.reduceEq, lfs_app, Int.reduceNeg, eq_self, if_true, if_false, Bool.false_eq_true, Int.reduceLE, Int.reduceLT, Int.reduceEq, Int.reduceSub, Int.reduceAdd, Int.reduceMul]
        rw [List.length_map, List.length_map, sz_t (by omega)]
        simp (dsimp := false) (implicitDefEqProofs := false) only [SXA, Bool.and_true, Bool.true_and, Bool.and_false, Bool.false_and, Bool.or_true, Bool.true_or, Bool.or_false, Bool.false_or, Bool.not_true, Bool.not_false, List.length_cons, List.length_nil, Nat.zero_add, Nat.reduceAdd, Nat.reduceSub, Nat.reduceLeDiff, Nat.reduceMul, decide_true, decide_false, env0, List.map_cons, List.map_nil, List.replicate, List.cons_append, List.nil_append, List.append_nil, List.length_append, String.reduceEq, lfs_app, Int.reduceNeg, eq_self, if_true, if_false, Bool.false_eq_true, Int.reduceLE, Int.reduceLT, Int.reduceEq, Int.reduceSub, Int.reduceAdd, Int.reduceMul]
        have e3 : longer (pre ++ [one]) (spotsS t.ms.length) = longer pre (spotsS t.ms.length) ++ ((spotsS t.ms.length).map fun s => one ++ [s]) := by
          unfold longer
          rw [List.flatMap_append]
          simp
        have e4 : (longer pre (spotsS t.ms.length)).map roomD ++ (spotsS t.ms.length).map (fun s => roomD (one ++ [s])) = (longer (pre ++ [one]) (spotsS t.ms.length)).map roomD := by
          rw [e3, List.map_append, List.map_map]
          rfl
        rw [e4]
        exact nxt_nx ⟨rfl, pre ++ [one], _, _, _, by rw [List.append_assoc]; exact hp, rfl⟩
      · intro s hs
        refine ⟨_, rfl, rfl, ?_⟩
        have hz : sz (one.length + 1) = true := sz_t (by omega)
        unfold roomD
        simp (dsimp := false) (implicitDefEqProofs := false) only [List.length_map, hz, SXA, Bool.and_true, Bool.true_and, Bool.and_false, Bool.false_and, Bool.or_true, Bool.true_or, Bool.or_false, Bool.false_or, Bool.not_true, Bool.not_false, List.length_cons, List.length_nil, Nat.zero_add, Nat.reduceAdd, Nat.reduceSub, Nat.reduceLeDiff, Nat.reduceMul, decide_true, decide_false, env0, List.map_cons, List.map_nil, List.replicate, List.cons_append, List.nil_append, List.append_nil, List.length_append, String.reduceEq, lfs_app, Int.reduceNeg, eq_self, if_true, if_false, Bool.false_eq_true, Int.reduceLE, Int.reduceLT, Int.reduceEq, Int.reduceSub, Int.reduceAdd, Int.reduceMul]
        rw [List.map_append]
        refine ⟨_, rfl, ?_⟩
        rw [lfs_spots]
        rfl
    · rintro S2 r2 rfl ⟨rfl, pre, o6, o7, o8, hp, rfl⟩
      rw [List.append_nil] at hp
      subst hp
      simp (dsimp := false) (implicitDefEqProofs := false) only [SXA, Bool.and_true, Bool.true_and, Bool.and_false, Bool.false_and, Bool.or_true, Bool.true_or, Bool.or_false, Bool.false_or, Bool.not_true, Bool.not_false, List.length_cons, List.length_nil, Nat.zero_add, Nat.reduceAdd, Nat.reduceSub, Nat.reduceLeDiff, Nat.reduceMul, decide_true, decide_false, env0, List.map_cons, List.map_nil, List.replicate, List.cons_append, List.nil_append, List.append_nil, List.length_append, String.reduceEq, lfs_app, Int.reduceNeg, eq_self, if_true, if_false, Bool.false_eq_true, Int.reduceLE, Int.reduceLT, Int.reduceEq, Int.reduceSub, Int.reduceAdd, Int.reduceMul]
      exact nxt_nx ⟨rfl, fun m hm => hr m (List.mem_cons_of_mem _ hm), longer pre (spotsS t.ms.length), _, _, _, _, _, _, rfl, e, grow_step hg hl15⟩
  · rintro S2 r2 rfl ⟨rfl, _, acc, o3, o4, o5, o6, o7, o8, rfl, e, hg⟩
    have e' : acc = allRooms ts := e
    subst e'
    have hlen := rooms_len hm h3
    simp (dsimp := false) (implicitDefEqProofs := false) only [SXA, Bool.and_true, Bool.true_and, Bool.and_false, Bool.false_and, Bool.or_true, Bool.true_or, Bool.or_false, Bool.false_or, Bool.not_true, Bool.not_false, List.length_cons, List.length_nil, Nat.zero_add, Nat.reduceAdd, Nat.reduceSub, Nat.reduceLeDiff, Nat.reduceMul, decide_true, decide_false, env0, List.map_cons, List.map_nil, List.replicate, List.cons_append, List.nil_append, List.append_nil, List.length_append, String.reduceEq, lfs_app, Int.reduceNeg, eq_self, if_true, if_false, Bool.false_eq_true, Int.reduceLE, Int.reduceLT, Int.reduceEq, Int.reduceSub, Int.reduceAdd, Int.reduceMul]
    rw [lc_map (allRooms ts) roomD (fun r => (firstS ks r).isNone) roomD rfl (by omega)]
    · simp (dsimp := false) (implicitDefEqProofs := false) only [SXA, Bool.and_true, Bool.true_and, Bool.and_false, Bool.false_and, Bool.or_true, Bool.true_or, Bool.or_false, Bool.false_or, Bool.not_true, Bool.not_false, List.length_cons, List.length_nil, Nat.zero_add, Nat.reduceAdd, Nat.reduceSub, Nat.reduceLeDiff, Nat.reduceMul, decide_true, decide_false, env0, List.map_cons, List.map_nil, List.replicate, List.cons_append, List.nil_append, List.append_nil, List.length_append, String.reduceEq, lfs_app, Int.reduceNeg, eq_self, if_true, if_false, Bool.false_eq_true, Int.reduceLE, Int.reduceLT, Int.reduceEq, Int.reduceSub, Int.reduceAdd, Int.reduceMul]
      rfl
    · intro r hr
      have hok := allRooms_ok hr
      have hl := roomOk_len hok
      have h2 := law_first_ok (ks := ks) (fun k hk => by rw [hl]; exact h k hk) (roomOk_tr hok) hz
      refine ⟨_, rfl, ?_, fun _ => ?_⟩
      · simp (dsimp := false) (implicitDefEqProofs := false) only [callFn_f (fn := F_law_first) rfl, h2, isNon_opt, SXA, Bool.and_true, Bool.true_and, Bool.and_false, Bool.false_and, Bool.or_true, Bool.true_or, Bool.or_false, Bool.false_or, Bool.not_true, Bool.not_false, List.length_cons, List.length_nil, Nat.zero_add, Nat.reduceAdd, Nat.reduceSub, Nat.reduceLeDiff, Nat.reduceMul, decide_true, decide_false, env0, List.map_cons, List.map_nil, List.replicate, List.cons_append, List.nil_append, List.append_nil, List.length_append, String.reduceEq, lfs_app, Int.reduceNeg, eq_self, if_true, if_false, Bool.false_eq_true, Int.reduceLE, Int.reduceLT, Int.reduceEq, Int.reduceSub, Int.reduceAdd, Int.reduceMul]
      · simp (dsimp := false) (implicitDefEqProofs := false) only [lf_roomD, SXA, Bool.and_true, Bool.true_and, Bool.and_false, Bool.false_and, Bool.or_true, Bool.true_or, Bool.or_false, Bool.false_or, Bool.not_true, Bool.not_false, List.length_cons, List.length_nil, Nat.zero_add, Nat.reduceAdd, Nat.reduceSub, Nat.reduceLeDiff, Nat.reduceMul, decide_true, decide_false, env0, List.map_cons, List.map_nil, List.replicate, List.cons_append, List.nil_append, List.append_nil, List.length_append, String.reduceEq, lfs_app, Int.reduceNeg, eq_self, if_true, if_false, Bool.false_eq_true, Int.reduceLE, Int.reduceLT, Int.reduceEq, Int.reduceSub, Int.reduceAdd, Int.reduceMul]
        exact ⟨_, rfl, trivial⟩
end TH

set_option Elab.async false
set_option linter.all false
set_option maxRecDepth 100000
set_option maxHeartbeats 4000000
/-! KJ: the house is made. -/
namespace TH
open PySem PySem.Spec PyProof.Rows L2

theorem elf_LEN : c_LENGTHS.elf = true := rfl
theorem inL_with : inD (.str "with") c_LENGTHS = some true := by kernel_rfl
theorem ixL_with : ixD c_LENGTHS (.str "with") = some (.int 3) := by kernel_rfl
theorem inL_against : inD (.str "against") c_LENGTHS = some true := by kernel_rfl
theorem ixL_against : ixD c_LENGTHS (.str "against") = some (.int 3) := by kernel_rfl
theorem inL_sum : inD (.str "sum") c_LENGTHS = some true := by kernel_rfl
theorem ixL_sum : ixD c_LENGTHS (.str "sum") = some (.int 4) := by kernel_rfl
theorem inL_product : inD (.str "product") c_LENGTHS = some true := by kernel_rfl
theorem ixL_product : ixD c_LENGTHS (.str "product") = some (.int 4) := by kernel_rfl
theorem inL_rate : inD (.str "rate") c_LENGTHS = some true := by kernel_rfl
theorem ixL_rate : ixD c_LENGTHS (.str "rate") = some (.int 4) := by kernel_rfl
theorem inL_under : inD (.str "under") c_LENGTHS = some true := by kernel_rfl
theorem ixL_under : ixD c_LENGTHS (.str "under") = some (.int 3) := by kernel_rfl
theorem inL_over : inD (.str "over") c_LENGTHS = some true := by kernel_rfl
theorem ixL_over : ixD c_LENGTHS (.str "over") = some (.int 3) := by kernel_rfl
theorem in_str3 (a x y z : String) : inD (.str (Str.ofString a)) (.tup [.str (Str.ofString x), .str (Str.ofString y), .str (Str.ofString z)]) = some (decide (x = a) || (decide (y = a) || decide (z = a))) := by
  show some (decide ((Str.ofString x) = (Str.ofString a)) || (decide ((Str.ofString y) = (Str.ofString a)) || (decide ((Str.ofString z) = (Str.ofString a)) || false))) = _
  rw [str_seq, str_seq, str_seq, Bool.or_false]
theorem abc_in : ∀ i < 26, inD (one1 (97 + i)) c_LETTERS = some true := by decide +kernel
theorem abc_in' {c : Nat} (h1 : 97 ≤ c) (h2 : c ≤ 122) : inD (one1 c) c_LETTERS = some true := by
  have := abc_in (c - 97) (by omega)
  rwa [show 97 + (c - 97) = c by omega] at this
theorem filter_none {α : Type} {p : α → Bool} {l : List α} (h : ∀ x ∈ l, p x = false) : l.filter p = [] := List.filter_eq_nil_iff.mpr fun x hx => by simp [h x hx]
theorem is_name_ok {n : Str} (h : nameOk n) : F_is_name.run [.str n] none = .ok (.bl true) none := by
  obtain ⟨h1, h2, h3⟩ := h
  have hz : sz n.length = true := sz_t (by omega)
  have e1 : (1 : Int) ≤ (n.length : Int) := by omega
  have e2 : (n.length : Int) ≤ 8 := by omega
  simp (dsimp := false) (implicitDefEqProofs := false) only [F_is_name, m_is_name, c_LONGEST_NAME, hz, e1, e2, SXA, Bool.and_true, Bool.true_and, Bool.and_false, Bool.false_and, Bool.or_true, Bool.true_or, Bool.or_false, Bool.false_or, Bool.not_true, Bool.not_false, List.length_cons, List.length_nil, Nat.zero_add, Nat.reduceAdd, Nat.reduceSub, Nat.reduceLeDiff, Nat.reduceMul, decide_true, decide_false, env0, List.map_cons, List.map_nil, List.replicate, List.cons_append, List.nil_append, List.append_nil, List.length_append, String.reduceEq, lfs_app, Int.reduceNeg, eq_self, if_true, if_false, Bool.false_eq_true, Int.reduceLE, Int.reduceLT, Int.reduceEq, Int.reduceSub, Int.reduceAdd, Int.reduceMul]
  rw [lc_map n.cps.toList one1 (fun _ => false) one1 rfl (by
    have : n.cps.toList.length = n.length := by simp [Str.length]
    omega)]
  · rw [filter_none (fun _ _ => rfl)]
    simp (dsimp := false) (implicitDefEqProofs := false) only [ko_nil, SXA, Bool.and_true, Bool.true_and, Bool.and_false, Bool.false_and, Bool.or_true, Bool.true_or, Bool.or_false, Bool.false_or, Bool.not_true, Bool.not_false, List.length_cons, List.length_nil, Nat.zero_add, Nat.reduceAdd, Nat.reduceSub, Nat.reduceLeDiff, Nat.reduceMul, decide_true, decide_false, env0, List.map_cons, List.map_nil, List.replicate, List.cons_append, List.nil_append, List.append_nil, List.length_append, String.reduceEq, lfs_app, Int.reduceNeg, eq_self, if_true, if_false, Bool.false_eq_true, Int.reduceLE, Int.reduceLT, Int.reduceEq, Int.reduceSub, Int.reduceAdd, Int.reduceMul]
  · intro c hc
    have hin := abc_in' (h3 c hc).1 (h3 c hc).2
    refine ⟨_, rfl, ?_, fun q => by cases q⟩
    simp (dsimp := false) (implicitDefEqProofs := false) only [hin, SXA, Bool.and_true, Bool.true_and, Bool.and_false, Bool.false_and, Bool.or_true, Bool.true_or, Bool.or_false, Bool.false_or, Bool.not_true, Bool.not_false, List.length_cons, List.length_nil, Nat.zero_add, Nat.reduceAdd, Nat.reduceSub, Nat.reduceLeDiff, Nat.reduceMul, decide_true, decide_false, env0, List.map_cons, List.map_nil, List.replicate, List.cons_append, List.nil_append, List.append_nil, List.length_append, String.reduceEq, lfs_app, Int.reduceNeg, eq_self, if_true, if_false, Bool.false_eq_true, Int.reduceLE, Int.reduceLT, Int.reduceEq, Int.reduceSub, Int.reduceAdd, Int.reduceMul]
theorem gap2_at : ∀ {l : List Int} {i : Nat} {a b : Int}, gap2 l → l[i]? = some a → l[i + 1]? = some b → a + 2 ≤ b
  | [], _, _, _, _, h, _ => by cases h
  | [x], i, a, b, _, _, h => by
    rw [List.getElem?_cons_succ] at h
    cases h
  | x :: y :: r, 0, a, b, h, h1, h2 => by
    cases h1; cases h2
    exact h.1
  | x :: y :: r, i + 1, a, b, h, h1, h2 => gap2_at (l := y :: r) (i := i) h.2 (by rw [List.getElem?_cons_succ] at h1; exact h1) (by rw [List.getElem?_cons_succ] at h2; exact h2)
theorem abs_i (i : Int) : absD (.int i) = some (.int (if i < 0 then -i else i)) := rfl
theorem are_marks_ok {ms : List Int} (h : marksOk ms) : F_are_marks.run [.tup (intsL ms)] none = .ok (.bl true) none := by
  obtain ⟨h1, h2, h3, h4⟩ := h
  have e1 : (1 : Int) ≤ (ms.length : Int) := by omega
  have e2 : (ms.length : Int) ≤ 3 := by omega
  simp (dsimp := false) (implicitDefEqProofs := false) only [F_are_marks, m_are_marks, c_MOST_MARKS, len_ints, e1, e2, SXA, Bool.and_true, Bool.true_and, Bool.and_false, Bool.false_and, Bool.or_true, Bool.true_or, Bool.or_false, Bool.false_or, Bool.not_true, Bool.not_false, List.length_cons, List.length_nil, Nat.zero_add, Nat.reduceAdd, Nat.reduceSub, Nat.reduceLeDiff, Nat.reduceMul, decide_true, decide_false, env0, List.map_cons, List.map_nil, List.replicate, List.cons_append, List.nil_append, List.append_nil, List.length_append, String.reduceEq, lfs_app, Int.reduceNeg, eq_self, if_true, if_false, Bool.false_eq_true, Int.reduceLE, Int.reduceLT, Int.reduceEq, Int.reduceSub, Int.reduceAdd, Int.reduceMul]
  rw [lc_map (ds := intsL ms) ms D.int (fun _ => false) D.int rfl (by omega)]
  · rw [filter_none (fun _ _ => rfl)]
    simp (dsimp := false) (implicitDefEqProofs := false) only [ko_nil, len_ints, range1 (n := (ms.length : Int) - 1) (k := ms.length - 1) (by omega) (by omega), SXA, Bool.and_true, Bool.true_and, Bool.and_false, Bool.false_and, Bool.or_true, Bool.true_or, Bool.or_false, Bool.false_or, Bool.not_true, Bool.not_false, List.length_cons, List.length_nil, Nat.zero_add, Nat.reduceAdd, Nat.reduceSub, Nat.reduceLeDiff, Nat.reduceMul, decide_true, decide_false, env0, List.map_cons, List.map_nil, List.replicate, List.cons_append, List.nil_append, List.append_nil, List.length_append, String.reduceEq, lfs_app, Int.reduceNeg, eq_self, if_true, if_false, Bool.false_eq_true, Int.reduceLE, Int.reduceLT, Int.reduceEq, Int.reduceSub, Int.reduceAdd, Int.reduceMul]
    rw [lc_map (List.range (ms.length - 1)) natD (fun _ => false) natD rfl (by rw [List.length_range]; omega)]
    · rw [filter_none (fun _ _ => rfl)]
      simp (dsimp := false) (implicitDefEqProofs := false) only [ko_nil, SXA, Bool.and_true, Bool.true_and, Bool.and_false, Bool.false_and, Bool.or_true, Bool.true_or, Bool.or_false, Bool.false_or, Bool.not_true, Bool.not_false, List.length_cons, List.length_nil, Nat.zero_add, Nat.reduceAdd, Nat.reduceSub, Nat.reduceLeDiff, Nat.reduceMul, decide_true, decide_false, env0, List.map_cons, List.map_nil, List.replicate, List.cons_append, List.nil_append, List.append_nil, List.length_append, String.reduceEq, lfs_app, Int.reduceNeg, eq_self, if_true, if_false, Bool.false_eq_true, Int.reduceLE, Int.reduceLT, Int.reduceEq, Int.reduceSub, Int.reduceAdd, Int.reduceMul]
    · intro i hi
      have hi' := List.mem_range.mp hi
      have g1 : ms[i]? = some ms[i] := List.getElem?_eq_getElem (by omega)
      have g2 : ms[i + 1]? = some ms[i + 1] := List.getElem?_eq_getElem (by omega)
      have hg := gap2_at h4 g1 g2
      have a1 : atI (intsL ms) (i : Int) = some (.int ms[i]) := by unfold intsL; rw [atI_nat, List.getElem?_map, g1]; rfl
      have a2 : atI (intsL ms) ((i : Int) + 1) = some (.int ms[i + 1]) := by
        have : atI (intsL ms) ((i + 1 : Nat) : Int) = some (.int ms[i + 1]) := by unfold intsL; rw [atI_nat, List.getElem?_map, g2]; rfl
        exact this
      have e3 : ¬ (ms[i + 1] - ms[i] < 2) := by omega
      refine ⟨_, rfl, ?_, fun q => by cases q⟩
      simp (dsimp := false) (implicitDefEqProofs := false) only [natD, a1, a2, lfs_intsL, c_LEAST_APART, e3, SXA, Bool.and_true, Bool.true_and, Bool.and_false, Bool.false_and, Bool.or_true, Bool.true_or, Bool.or_false, Bool.false_or, Bool.not_true, Bool.not_false, List.length_cons, List.length_nil, Nat.zero_add, Nat.reduceAdd, Nat.reduceSub, Nat.reduceLeDiff, Nat.reduceMul, decide_true, decide_false, env0, List.map_cons, List.map_nil, List.replicate, List.cons_append, List.nil_append, List.append_nil, List.length_append, String.reduceEq, lfs_app, Int.reduceNeg, eq_self, if_true, if_false, Bool.false_eq_true, Int.reduceLE, Int.reduceLT, Int.reduceEq, Int.reduceSub, Int.reduceAdd, Int.reduceMul]
  · intro m hm
    have hb := h3 m hm
    have e3 : (if m < 0 then -m else m) ≤ 99 := by split <;> omega
    refine ⟨_, rfl, ?_, fun q => by cases q⟩
    simp (dsimp := false) (implicitDefEqProofs := false) only [abs_i, c_MOST_MARK, e3, SXA, Bool.and_true, Bool.true_and, Bool.and_false, Bool.false_and, Bool.or_true, Bool.true_or, Bool.or_false, Bool.false_or, Bool.not_true, Bool.not_false, List.length_cons, List.length_nil, Nat.zero_add, Nat.reduceAdd, Nat.reduceSub, Nat.reduceLeDiff, Nat.reduceMul, decide_true, decide_false, env0, List.map_cons, List.map_nil, List.replicate, List.cons_append, List.nil_append, List.append_nil, List.length_append, String.reduceEq, lfs_app, Int.reduceNeg, eq_self, if_true, if_false, Bool.false_eq_true, Int.reduceLE, Int.reduceLT, Int.reduceEq, Int.reduceSub, Int.reduceAdd, Int.reduceMul]
/-- the things that a tie tells are things -/
theorem rngs_ok {f : Env → Row → Out Bool} {g : Env → Row → Out Rv} {S : Env} {ds : List D} (l : List Nat) (hd : ds = l.map natD) (hl : l.length ≤ 10) (h : ∀ i ∈ l, ∃ S1, tg1 5 (natD i) (unset S [5]) = some S1 ∧ f S1 none = .ok false none) : lcW (fun d => tg1 5 d (unset S [5])) f g ds [] true none = .ok (.v true (.lst [])) none := by
  subst hd
  rw [lc_map l natD (fun _ => false) natD rfl (by omega)]
  · rw [filter_none (fun _ _ => rfl)]; rfl
  · intro i hi
    obtain ⟨S1, h1, h2⟩ := h i hi
    exact ⟨S1, h1, h2, fun q => by cases q⟩
theorem cut3 {α : Type} (a b c : α) : cutG [a, b, c] (some 1) none = [b, c] := rfl
theorem cut4 {α : Type} (a b c d : α) : cutG [a, b, c, d] (some 1) none = [b, c, d] := rfl
theorem cut3m {α : Type} (a b c : α) : cutG [a, b, c] (some 1) (some (-1)) = [b] := rfl
theorem cut4m {α : Type} (a b c d : α) : cutG [a, b, c, d] (some 1) (some (-1)) = [b, c] := rfl
theorem cut2 {α : Type} (a b : α) : cutG [a, b] (some 1) none = [b] := rfl
theorem in_int1 (a b : Int) : inD (.int a) (.tup [.int b]) = some (decide (b = a)) := by
  show some (decide (b = a) || false) = _
  rw [Bool.or_false]
theorem in_int2 (a b c : Int) : inD (.int a) (.tup [.int b, .int c]) = some (decide (b = a) || decide (c = a)) := by
  show some (decide (b = a) || (decide (c = a) || false)) = _
  rw [Bool.or_false]
theorem c_0 : ((0 : Nat) : Int) = 0 := rfl
theorem c_1 : ((1 : Nat) : Int) = 1 := rfl
theorem c_2 : ((2 : Nat) : Int) = 2 := rfl
theorem c_3 : ((3 : Nat) : Int) = 3 := rfl
theorem c_4 : ((4 : Nat) : Int) = 4 := rfl
theorem is_tie_ok {ts : List Th} {k : Tie} (h : tieOk ts k) : F_House_is_tie.run [.hou1 (ts.map thD), tieD k] none = .ok (.bl true) none := by
  have hn : ∀ {i : Nat}, i < ts.length → ((0 : Int) ≤ (i : Int)) ∧ ((i : Int) < (ts.length : Int)) := fun h => ⟨by omega, by omega⟩
  cases k with
  | wi a b =>
    obtain ⟨h1, h2, h3⟩ := h
    have e3 : ¬ ((b : Int) = (a : Int)) := by omega
    unfold tieD
    simp (dsimp := false) (implicitDefEqProofs := false) only [F_House_is_tie, m_House_is_tie, elf_LEN, inL_with, ixL_with, inL_against, ixL_against, inL_sum, ixL_sum, inL_product, ixL_product, inL_rate, ixL_rate, inL_under, ixL_under, inL_over, ixL_over, c_0, c_1, c_2, c_3, c_4, in_str3, cut3, cut4, cut3m, cut4m, SXA, Bool.and_true, Bool.true_and, Bool.and_false, Bool.false_and, Bool.or_true, Bool.true_or, Bool.or_false, Bool.false_or, Bool.not_true, Bool.not_false, List.length_cons, List.length_nil, Nat.zero_add, Nat.reduceAdd, Nat.reduceSub, Nat.reduceLeDiff, Nat.reduceMul, decide_true, decide_false, env0, List.map_cons, List.map_nil, List.replicate, List.cons_append, List.nil_append, List.append_nil, List.length_append, String.reduceEq, lfs_app, Int.reduceNeg, eq_self, if_true, if_false, Bool.false_eq_true, Int.reduceLE, Int.reduceLT, Int.reduceEq, Int.reduceSub, Int.reduceAdd, Int.reduceMul]
    rw [rngs_ok (ds := [.int a, .int b]) [a, b] rfl (by show 2 ≤ 10; omega)]
    · simp (dsimp := false) (implicitDefEqProofs := false) only [ko_nil, cut2, in_int1, e3, SXA, Bool.and_true, Bool.true_and, Bool.and_false, Bool.false_and, Bool.or_true, Bool.true_or, Bool.or_false, Bool.false_or, Bool.not_true, Bool.not_false, List.length_cons, List.length_nil, Nat.zero_add, Nat.reduceAdd, Nat.reduceSub, Nat.reduceLeDiff, Nat.reduceMul, decide_true, decide_false, env0, List.map_cons, List.map_nil, List.replicate, List.cons_append, List.nil_append, List.append_nil, List.length_append, String.reduceEq, lfs_app, Int.reduceNeg, eq_self, if_true, if_false, Bool.false_eq_true, Int.reduceLE, Int.reduceLT, Int.reduceEq, Int.reduceSub, Int.reduceAdd, Int.reduceMul]
    · intro i hi
      have hi' : i < ts.length := by
          rcases List.mem_cons.mp hi with rfl | hi
          · exact h1
          · rw [List.mem_singleton.mp hi]; exact h2
      refine ⟨_, rfl, ?_⟩
      simp (dsimp := false) (implicitDefEqProofs := false) only [natD, List.length_map, (hn hi').1, (hn hi').2, SXA, Bool.and_true, Bool.true_and, Bool.and_false, Bool.false_and, Bool.or_true, Bool.true_or, Bool.or_false, Bool.false_or, Bool.not_true, Bool.not_false, List.length_cons, List.length_nil, Nat.zero_add, Nat.reduceAdd, Nat.reduceSub, Nat.reduceLeDiff, Nat.reduceMul, decide_true, decide_false, env0, List.map_cons, List.map_nil, List.replicate, List.cons_append, List.nil_append, List.append_nil, List.length_append, String.reduceEq, lfs_app, Int.reduceNeg, eq_self, if_true, if_false, Bool.false_eq_true, Int.reduceLE, Int.reduceLT, Int.reduceEq, Int.reduceSub, Int.reduceAdd, Int.reduceMul]
  | ag a b =>
    obtain ⟨h1, h2, h3⟩ := h
    have e3 : ¬ ((b : Int) = (a : Int)) := by omega
    unfold tieD
    simp (dsimp := false) (implicitDefEqProofs := false) only [F_House_is_tie, m_House_is_tie, elf_LEN, inL_with, ixL_with, inL_against, ixL_against, inL_sum, ixL_sum, inL_product, ixL_product, inL_rate, ixL_rate, inL_under, ixL_under, inL_over, ixL_over, c_0, c_1, c_2, c_3, c_4, in_str3, cut3, cut4, cut3m, cut4m, SXA, Bool.and_true, Bool.true_and, Bool.and_false, Bool.false_and, Bool.or_true, Bool.true_or, Bool.or_false, Bool.false_or, Bool.not_true, Bool.not_false, List.length_cons, List.length_nil, Nat.zero_add, Nat.reduceAdd, Nat.reduceSub, Nat.reduceLeDiff, Nat.reduceMul, decide_true, decide_false, env0, List.map_cons, List.map_nil, List.replicate, List.cons_append, List.nil_append, List.append_nil, List.length_append, String.reduceEq, lfs_app, Int.reduceNeg, eq_self, if_true, if_false, Bool.false_eq_true, Int.reduceLE, Int.reduceLT, Int.reduceEq, Int.reduceSub, Int.reduceAdd, Int.reduceMul]
    rw [rngs_ok (ds := [.int a, .int b]) [a, b] rfl (by show 2 ≤ 10; omega)]
    · simp (dsimp := false) (implicitDefEqProofs := false) only [ko_nil, cut2, in_int1, e3, SXA, Bool.and_true, Bool.true_and, Bool.and_false, Bool.false_and, Bool.or_true, Bool.true_or, Bool.or_false, Bool.false_or, Bool.not_true, Bool.not_false, List.length_cons, List.length_nil, Nat.zero_add, Nat.reduceAdd, Nat.reduceSub, Nat.reduceLeDiff, Nat.reduceMul, decide_true, decide_false, env0, List.map_cons, List.map_nil, List.replicate, List.cons_append, List.nil_append, List.append_nil, List.length_append, String.reduceEq, lfs_app, Int.reduceNeg, eq_self, if_true, if_false, Bool.false_eq_true, Int.reduceLE, Int.reduceLT, Int.reduceEq, Int.reduceSub, Int.reduceAdd, Int.reduceMul]
    · intro i hi
      have hi' : i < ts.length := by
          rcases List.mem_cons.mp hi with rfl | hi
          · exact h1
          · rw [List.mem_singleton.mp hi]; exact h2
      refine ⟨_, rfl, ?_⟩
      simp (dsimp := false) (implicitDefEqProofs := false) only [natD, List.length_map, (hn hi').1, (hn hi').2, SXA, Bool.and_true, Bool.true_and, Bool.and_false, Bool.false_and, Bool.or_true, Bool.true_or, Bool.or_false, Bool.false_or, Bool.not_true, Bool.not_false, List.length_cons, List.length_nil, Nat.zero_add, Nat.reduceAdd, Nat.reduceSub, Nat.reduceLeDiff, Nat.reduceMul, decide_true, decide_false, env0, List.map_cons, List.map_nil, List.replicate, List.cons_append, List.nil_append, List.append_nil, List.length_append, String.reduceEq, lfs_app, Int.reduceNeg, eq_self, if_true, if_false, Bool.false_eq_true, Int.reduceLE, Int.reduceLT, Int.reduceEq, Int.reduceSub, Int.reduceAdd, Int.reduceMul]
  | su a b c =>
    obtain ⟨h1, h2, h2', h3, h4⟩ := h
    have e3 : ¬ ((b : Int) = (a : Int)) := by omega
    have e4 : ¬ ((c : Int) = (a : Int)) := by omega
    unfold tieD
    simp (dsimp := false) (implicitDefEqProofs := false) only [F_House_is_tie, m_House_is_tie, elf_LEN, inL_with, ixL_with, inL_against, ixL_against, inL_sum, ixL_sum, inL_product, ixL_product, inL_rate, ixL_rate, inL_under, ixL_under, inL_over, ixL_over, c_0, c_1, c_2, c_3, c_4, in_str3, cut3, cut4, cut3m, cut4m, SXA, Bool.and_true, Bool.true_and, Bool.and_false, Bool.false_and, Bool.or_true, Bool.true_or, Bool.or_false, Bool.false_or, Bool.not_true, Bool.not_false, List.length_cons, List.length_nil, Nat.zero_add, Nat.reduceAdd, Nat.reduceSub, Nat.reduceLeDiff, Nat.reduceMul, decide_true, decide_false, env0, List.map_cons, List.map_nil, List.replicate, List.cons_append, List.nil_append, List.append_nil, List.length_append, String.reduceEq, lfs_app, Int.reduceNeg, eq_self, if_true, if_false, Bool.false_eq_true, Int.reduceLE, Int.reduceLT, Int.reduceEq, Int.reduceSub, Int.reduceAdd, Int.reduceMul]
    rw [rngs_ok (ds := [.int a, .int b, .int c]) [a, b, c] rfl (by show 3 ≤ 10; omega)]
    · simp (dsimp := false) (implicitDefEqProofs := false) only [ko_nil, cut3, in_int2, e3, e4, SXA, Bool.and_true, Bool.true_and, Bool.and_false, Bool.false_and, Bool.or_true, Bool.true_or, Bool.or_false, Bool.false_or, Bool.not_true, Bool.not_false, List.length_cons, List.length_nil, Nat.zero_add, Nat.reduceAdd, Nat.reduceSub, Nat.reduceLeDiff, Nat.reduceMul, decide_true, decide_false, env0, List.map_cons, List.map_nil, List.replicate, List.cons_append, List.nil_append, List.append_nil, List.length_append, String.reduceEq, lfs_app, Int.reduceNeg, eq_self, if_true, if_false, Bool.false_eq_true, Int.reduceLE, Int.reduceLT, Int.reduceEq, Int.reduceSub, Int.reduceAdd, Int.reduceMul]
    · intro i hi
      have hi' : i < ts.length := by
          rcases List.mem_cons.mp hi with rfl | hi
          · exact h1
          · rcases List.mem_cons.mp hi with rfl | hi
            · exact h2
            · rw [List.mem_singleton.mp hi]; exact h2'
      refine ⟨_, rfl, ?_⟩
      simp (dsimp := false) (implicitDefEqProofs := false) only [natD, List.length_map, (hn hi').1, (hn hi').2, SXA, Bool.and_true, Bool.true_and, Bool.and_false, Bool.false_and, Bool.or_true, Bool.true_or, Bool.or_false, Bool.false_or, Bool.not_true, Bool.not_false, List.length_cons, List.length_nil, Nat.zero_add, Nat.reduceAdd, Nat.reduceSub, Nat.reduceLeDiff, Nat.reduceMul, decide_true, decide_false, env0, List.map_cons, List.map_nil, List.replicate, List.cons_append, List.nil_append, List.append_nil, List.length_append, String.reduceEq, lfs_app, Int.reduceNeg, eq_self, if_true, if_false, Bool.false_eq_true, Int.reduceLE, Int.reduceLT, Int.reduceEq, Int.reduceSub, Int.reduceAdd, Int.reduceMul]
  | pr a b c =>
    obtain ⟨h1, h2, h2', h3, h4⟩ := h
    have e3 : ¬ ((b : Int) = (a : Int)) := by omega
    have e4 : ¬ ((c : Int) = (a : Int)) := by omega
    unfold tieD
    simp (dsimp := false) (implicitDefEqProofs := false) only [F_House_is_tie, m_House_is_tie, elf_LEN, inL_with, ixL_with, inL_against, ixL_against, inL_sum, ixL_sum, inL_product, ixL_product, inL_rate, ixL_rate, inL_under, ixL_under, inL_over, ixL_over, c_0, c_1, c_2, c_3, c_4, in_str3, cut3, cut4, cut3m, cut4m, SXA, Bool.and_true, Bool.true_and, Bool.and_false, Bool.false_and, Bool.or_true, Bool.true_or, Bool.or_false, Bool.false_or, Bool.not_true, Bool.not_false, List.length_cons, List.length_nil, Nat.zero_add, Nat.reduceAdd, Nat.reduceSub, Nat.reduceLeDiff, Nat.reduceMul, decide_true, decide_false, env0, List.map_cons, List.map_nil, List.replicate, List.cons_append, List.nil_append, List.append_nil, List.length_append, String.reduceEq, lfs_app, Int.reduceNeg, eq_self, if_true, if_false, Bool.false_eq_true, Int.reduceLE, Int.reduceLT, Int.reduceEq, Int.reduceSub, Int.reduceAdd, Int.reduceMul]
    rw [rngs_ok (ds := [.int a, .int b, .int c]) [a, b, c] rfl (by show 3 ≤ 10; omega)]
    · simp (dsimp := false) (implicitDefEqProofs := false) only [ko_nil, cut3, in_int2, e3, e4, SXA, Bool.and_true, Bool.true_and, Bool.and_false, Bool.false_and, Bool.or_true, Bool.true_or, Bool.or_false, Bool.false_or, Bool.not_true, Bool.not_false, List.length_cons, List.length_nil, Nat.zero_add, Nat.reduceAdd, Nat.reduceSub, Nat.reduceLeDiff, Nat.reduceMul, decide_true, decide_false, env0, List.map_cons, List.map_nil, List.replicate, List.cons_append, List.nil_append, List.append_nil, List.length_append, String.reduceEq, lfs_app, Int.reduceNeg, eq_self, if_true, if_false, Bool.false_eq_true, Int.reduceLE, Int.reduceLT, Int.reduceEq, Int.reduceSub, Int.reduceAdd, Int.reduceMul]
    · intro i hi
      have hi' : i < ts.length := by
          rcases List.mem_cons.mp hi with rfl | hi
          · exact h1
          · rcases List.mem_cons.mp hi with rfl | hi
            · exact h2
            · rw [List.mem_singleton.mp hi]; exact h2'
      refine ⟨_, rfl, ?_⟩
      simp (dsimp := false) (implicitDefEqProofs := false) only [natD, List.length_map, (hn hi').1, (hn hi').2, SXA, Bool.and_true, Bool.true_and, Bool.and_false, Bool.false_and, Bool.or_true, Bool.true_or, Bool.or_false, Bool.false_or, Bool.not_true, Bool.not_false, List.length_cons, List.length_nil, Nat.zero_add, Nat.reduceAdd, Nat.reduceSub, Nat.reduceLeDiff, Nat.reduceMul, decide_true, decide_false, env0, List.map_cons, List.map_nil, List.replicate, List.cons_append, List.nil_append, List.append_nil, List.length_append, String.reduceEq, lfs_app, Int.reduceNeg, eq_self, if_true, if_false, Bool.false_eq_true, Int.reduceLE, Int.reduceLT, Int.reduceEq, Int.reduceSub, Int.reduceAdd, Int.reduceMul]
  | ra a b k =>
    obtain ⟨h1, t, h2, h3⟩ := h
    have hb := (List.getElem?_eq_some_iff.mp h2).1
    have hxb := at_thing h2
    have e5 : (0 : Int) ≤ (k : Int) := by omega
    have e6 : (k : Int) < (t.ms.length : Int) := by omega
    unfold tieD
    simp (dsimp := false) (implicitDefEqProofs := false) only [F_House_is_tie, m_House_is_tie, elf_LEN, inL_with, ixL_with, inL_against, ixL_against, inL_sum, ixL_sum, inL_product, ixL_product, inL_rate, ixL_rate, inL_under, ixL_under, inL_over, ixL_over, c_0, c_1, c_2, c_3, c_4, in_str3, cut3, cut4, cut3m, cut4m, SXA, Bool.and_true, Bool.true_and, Bool.and_false, Bool.false_and, Bool.or_true, Bool.true_or, Bool.or_false, Bool.false_or, Bool.not_true, Bool.not_false, List.length_cons, List.length_nil, Nat.zero_add, Nat.reduceAdd, Nat.reduceSub, Nat.reduceLeDiff, Nat.reduceMul, decide_true, decide_false, env0, List.map_cons, List.map_nil, List.replicate, List.cons_append, List.nil_append, List.append_nil, List.length_append, String.reduceEq, lfs_app, Int.reduceNeg, eq_self, if_true, if_false, Bool.false_eq_true, Int.reduceLE, Int.reduceLT, Int.reduceEq, Int.reduceSub, Int.reduceAdd, Int.reduceMul]
    rw [rngs_ok (ds := [.int a, .int b]) [a, b] rfl (by show 2 ≤ 10; omega)]
    · simp (dsimp := false) (implicitDefEqProofs := false) only [ko_nil, hxb, lfs_things, lfs_intsL, len_ints, e5, e6, SXA, Bool.and_true, Bool.true_and, Bool.and_false, Bool.false_and, Bool.or_true, Bool.true_or, Bool.or_false, Bool.false_or, Bool.not_true, Bool.not_false, List.length_cons, List.length_nil, Nat.zero_add, Nat.reduceAdd, Nat.reduceSub, Nat.reduceLeDiff, Nat.reduceMul, decide_true, decide_false, env0, List.map_cons, List.map_nil, List.replicate, List.cons_append, List.nil_append, List.append_nil, List.length_append, String.reduceEq, lfs_app, Int.reduceNeg, eq_self, if_true, if_false, Bool.false_eq_true, Int.reduceLE, Int.reduceLT, Int.reduceEq, Int.reduceSub, Int.reduceAdd, Int.reduceMul]
    · intro i hi
      have hi' : i < ts.length := by
          rcases List.mem_cons.mp hi with rfl | hi
          · exact h1
          · rw [List.mem_singleton.mp hi]; exact hb
      refine ⟨_, rfl, ?_⟩
      simp (dsimp := false) (implicitDefEqProofs := false) only [natD, List.length_map, (hn hi').1, (hn hi').2, SXA, Bool.and_true, Bool.true_and, Bool.and_false, Bool.false_and, Bool.or_true, Bool.true_or, Bool.or_false, Bool.false_or, Bool.not_true, Bool.not_false, List.length_cons, List.length_nil, Nat.zero_add, Nat.reduceAdd, Nat.reduceSub, Nat.reduceLeDiff, Nat.reduceMul, decide_true, decide_false, env0, List.map_cons, List.map_nil, List.replicate, List.cons_append, List.nil_append, List.append_nil, List.length_append, String.reduceEq, lfs_app, Int.reduceNeg, eq_self, if_true, if_false, Bool.false_eq_true, Int.reduceLE, Int.reduceLT, Int.reduceEq, Int.reduceSub, Int.reduceAdd, Int.reduceMul]
  | un a k =>
    obtain ⟨t, h2, h3⟩ := h
    have hb := (List.getElem?_eq_some_iff.mp h2).1
    have hxb := at_thing h2
    have e5 : (0 : Int) ≤ (k : Int) := by omega
    have e6 : (k : Int) < (t.ms.length : Int) := by omega
    unfold tieD
    simp (dsimp := false) (implicitDefEqProofs := false) only [F_House_is_tie, m_House_is_tie, elf_LEN, inL_with, ixL_with, inL_against, ixL_against, inL_sum, ixL_sum, inL_product, ixL_product, inL_rate, ixL_rate, inL_under, ixL_under, inL_over, ixL_over, c_0, c_1, c_2, c_3, c_4, in_str3, cut3, cut4, cut3m, cut4m, SXA, Bool.and_true, Bool.true_and, Bool.and_false, Bool.false_and, Bool.or_true, Bool.true_or, Bool.or_false, Bool.false_or, Bool.not_true, Bool.not_false, List.length_cons, List.length_nil, Nat.zero_add, Nat.reduceAdd, Nat.reduceSub, Nat.reduceLeDiff, Nat.reduceMul, decide_true, decide_false, env0, List.map_cons, List.map_nil, List.replicate, List.cons_append, List.nil_append, List.append_nil, List.length_append, String.reduceEq, lfs_app, Int.reduceNeg, eq_self, if_true, if_false, Bool.false_eq_true, Int.reduceLE, Int.reduceLT, Int.reduceEq, Int.reduceSub, Int.reduceAdd, Int.reduceMul]
    rw [rngs_ok (ds := [.int a]) [a] rfl (by show 1 ≤ 10; omega)]
    · simp (dsimp := false) (implicitDefEqProofs := false) only [ko_nil, hxb, lfs_things, lfs_intsL, len_ints, e5, e6, SXA, Bool.and_true, Bool.true_and, Bool.and_false, Bool.false_and, Bool.or_true, Bool.true_or, Bool.or_false, Bool.false_or, Bool.not_true, Bool.not_false, List.length_cons, List.length_nil, Nat.zero_add, Nat.reduceAdd, Nat.reduceSub, Nat.reduceLeDiff, Nat.reduceMul, decide_true, decide_false, env0, List.map_cons, List.map_nil, List.replicate, List.cons_append, List.nil_append, List.append_nil, List.length_append, String.reduceEq, lfs_app, Int.reduceNeg, eq_self, if_true, if_false, Bool.false_eq_true, Int.reduceLE, Int.reduceLT, Int.reduceEq, Int.reduceSub, Int.reduceAdd, Int.reduceMul]
    · intro i hi
      have hi' : i < ts.length := by
          rw [List.mem_singleton.mp hi]; exact hb
      refine ⟨_, rfl, ?_⟩
      simp (dsimp := false) (implicitDefEqProofs := false) only [natD, List.length_map, (hn hi').1, (hn hi').2, SXA, Bool.and_true, Bool.true_and, Bool.and_false, Bool.false_and, Bool.or_true, Bool.true_or, Bool.or_false, Bool.false_or, Bool.not_true, Bool.not_false, List.length_cons, List.length_nil, Nat.zero_add, Nat.reduceAdd, Nat.reduceSub, Nat.reduceLeDiff, Nat.reduceMul, decide_true, decide_false, env0, List.map_cons, List.map_nil, List.replicate, List.cons_append, List.nil_append, List.append_nil, List.length_append, String.reduceEq, lfs_app, Int.reduceNeg, eq_self, if_true, if_false, Bool.false_eq_true, Int.reduceLE, Int.reduceLT, Int.reduceEq, Int.reduceSub, Int.reduceAdd, Int.reduceMul]
  | ov a k =>
    obtain ⟨t, h2, h3⟩ := h
    have hb := (List.getElem?_eq_some_iff.mp h2).1
    have hxb := at_thing h2
    have e5 : (0 : Int) ≤ (k : Int) := by omega
    have e6 : (k : Int) < (t.ms.length : Int) := by omega
    unfold tieD
    simp (dsimp := false) (implicitDefEqProofs := false) only [F_House_is_tie, m_House_is_tie, elf_LEN, inL_with, ixL_with, inL_against, ixL_against, inL_sum, ixL_sum, inL_product, ixL_product, inL_rate, ixL_rate, inL_under, ixL_under, inL_over, ixL_over, c_0, c_1, c_2, c_3, c_4, in_str3, cut3, cut4, cut3m, cut4m, SXA, Bool.and_true, Bool.true_and, Bool.and_false, Bool.false_and, Bool.or_true, Bool.true_or, Bool.or_false, Bool.false_or, Bool.not_true, Bool.not_false, List.length_cons, List.length_nil, Nat.zero_add, Nat.reduceAdd, Nat.reduceSub, Nat.reduceLeDiff, Nat.reduceMul, decide_true, decide_false, env0, List.map_cons, List.map_nil, List.replicate, List.cons_append, List.nil_append, List.append_nil, List.length_append, String.reduceEq, lfs_app, Int.reduceNeg, eq_self, if_true, if_false, Bool.false_eq_true, Int.reduceLE, Int.reduceLT, Int.reduceEq, Int.reduceSub, Int.reduceAdd, Int.reduceMul]
    rw [rngs_ok (ds := [.int a]) [a] rfl (by show 1 ≤ 10; omega)]
    · simp (dsimp := false) (implicitDefEqProofs := false) only [ko_nil, hxb, lfs_things, lfs_intsL, len_ints, e5, e6, SXA, Bool.and_true, Bool.true_and, Bool.and_false, Bool.false_and, Bool.or_true, Bool.true_or, Bool.or_false, Bool.false_or, Bool.not_true, Bool.not_false, List.length_cons, List.length_nil, Nat.zero_add, Nat.reduceAdd, Nat.reduceSub, Nat.reduceLeDiff, Nat.reduceMul, decide_true, decide_false, env0, List.map_cons, List.map_nil, List.replicate, List.cons_append, List.nil_append, List.append_nil, List.length_append, String.reduceEq, lfs_app, Int.reduceNeg, eq_self, if_true, if_false, Bool.false_eq_true, Int.reduceLE, Int.reduceLT, Int.reduceEq, Int.reduceSub, Int.reduceAdd, Int.reduceMul]
    · intro i hi
      have hi' : i < ts.length := by
          rw [List.mem_singleton.mp hi]; exact hb
      refine ⟨_, rfl, ?_⟩
      simp (dsimp := false) (implicitDefEqProofs := false) only [natD, List.length_map, (hn hi').1, (hn hi').2, SXA, Bool.and_true, Bool.true_and, Bool.and_false, Bool.false_and, Bool.or_true, Bool.true_or, Bool.or_false, Bool.false_or, Bool.not_true, Bool.not_false, List.length_cons, List.length_nil, Nat.zero_add, Nat.reduceAdd, Nat.reduceSub, Nat.reduceLeDiff, Nat.reduceMul, decide_true, decide_false, env0, List.map_cons, List.map_nil, List.replicate, List.cons_append, List.nil_append, List.append_nil, List.length_append, String.reduceEq, lfs_app, Int.reduceNeg, eq_self, if_true, if_false, Bool.false_eq_true, Int.reduceLE, Int.reduceLT, Int.reduceEq, Int.reduceSub, Int.reduceAdd, Int.reduceMul]
end TH

set_option Elab.async false
set_option linter.all false
set_option maxRecDepth 100000
set_option maxHeartbeats 4000000
/-! KK: the house is made. -/
namespace TH
open PySem PySem.Spec PyProof.Rows L2

theorem houMid_r {e2 e5 : ME} {k : Env → Row → SO} {S : Env} {r r' : Row} {ts vs : List D} {c : Str} (h : e2 S r = .ok (.v true (.lst ts)) r') (h0 : S[0]? = some (some (.exc c [] vs))) : houMidM e2 e5 k (.nx S r) = houEndM e5 ts (k (S.set 0 (some (.hou1 ts))) r') := by
  show (match e2 S r, S[0]? with
    | .ok (.v true (.lst ts)) r, some (some (D.exc _ [] _)) => houEndM e5 ts (k (S.set 0 (some (.hou1 ts))) r)
    | _, _ => .no) = _
  rw [h, h0]
theorem houEnd_r {e5 : ME} {S : Env} {r r' : Row} {ts ks x : List D} (h : e5 S r = .ok (.v true (.lst ks)) r') (h0 : S[0]? = some (some (.hou1 x))) (hn : (noExcs ts && noExcs ks) = true) : houEndM e5 ts (.nx S r) = .ok (.hou ts ks) none := by
  show (match e5 S r, S[0]? with
    | .ok (.v true (.lst ks)) _, some (some (D.hou1 _)) => (match noExcs ts && noExcs ks with
      | true => Out.ok (D.hou ts ks) none
      | false => .no)
    | _, _ => .no) = _
  rw [h, h0]
  simp only [hn]
theorem noExcs_map {α : Type} {f : α → D} (h : ∀ x, noExc (f x) = true) : ∀ l : List α, noExcs (l.map f) = true
  | [] => rfl
  | x :: l => by rw [List.map_cons, noExcs, h, noExcs_map h l]; rfl
theorem noExc_th (t : Th) : noExc (thD t) = true := by
  show (true && (noExcs (intsL t.ms) && true)) = true
  unfold intsL
  rw [noExcs_map (fun _ => rfl)]; rfl
theorem noExc_tie (t : Tie) : noExc (tieD t) = true := by cases t <;> rfl
theorem lfs_ties (l : List Tie) : lfs (l.map tieD) = true := lfs_map lf_tieD l
theorem pys_str : ∀ l : List Str, pys (l.map D.str) = some (l.map PyData.str)
  | [] => rfl
  | x :: l => by rw [List.map_cons, pys, pys_str l]; rfl
theorem in_strs (a : Str) (l : List Str) : inD (.str a) (.lst (l.map D.str)) = some (decide (a ∈ l)) := by
  show (match (D.str a).py, pys (l.map D.str) with | some a', some bs => gd ((D.str a).dok 20) (bs.any fun b => PyData.eqv b a') | _, _ => none) = _
  rw [pys_str]
  show some ((l.map PyData.str).any fun b => PyData.eqv b (PyData.str a)) = _
  rw [any_mem (g := PyData.str) (fun x y => rfl)]
theorem cutG_toN {α : Type} (f : Nat → Int) (xs : List α) (k : Nat) (h : f k = (k : Int)) : cutG xs none (some (f k)) = xs.take k := by rw [h, cutG_to]
theorem house_ok {fm : Fn} (hio : fm.io = false) (hM : ∀ w n, fm.run [.bl true, .str w, .int n] none = .ok .non none) {ts : List Th} {ks : List Tie} (ht : thingsOk ts) (hk : tiesOk ts ks) :
    (m_House_init fm F_is_name F_are_marks F_House_is_tie).run [.lst (ts.map thD), .lst (ks.map tieD)] none = .ok (houD ts ks) none := by
  unfold m_House_init
  show houMidM _ _ _ (sSeq _ (some (.exc "House" [] []) :: some (.lst (ts.map thD)) :: some (.lst (ks.map tieD)) :: List.replicate 5 none) none) = _
  have h1 := ht.lo
  have h3 := ht.hi
  have h6 := hk.hi
  generalize hP : sSeq _ (some (.exc "House" [] []) :: some (.lst (ts.map thD)) :: some (.lst (ks.map tieD)) :: List.replicate 5 none) none = P
  have hA : ∃ o3 o4 o5 o6 o7, P = .nx [some (.exc "House" [] []), some (.lst (ts.map thD)), some (.lst (ks.map tieD)), o3, o4, o5, o6, o7] none := by
    rw [← hP]
    have e1 : (1 : Int) ≤ (ts.length : Int) := by omega
    have e2 : (ts.length : Int) ≤ 3 := by omega
    simp (dsimp := false) (implicitDefEqProofs := false) only [c_MOST_THINGS, List.length_map, e1, e2, callFn_f hio, hM, range1 (n := (ts.length : Int)) (k := ts.length) rfl (by omega), SXA, Bool.and_true, Bool.true_and, Bool.and_false, Bool.false_and, Bool.or_true, Bool.true_or, Bool.or_false, Bool.false_or, Bool.not_true, Bool.not_false, List.length_cons, List.length_nil, Nat.zero_add, Nat.reduceAdd, Nat.reduceSub, Nat.reduceLeDiff, Nat.reduceMul, decide_true, decide_false, env0, List.map_cons, List.map_nil, List.replicate, List.cons_append, List.nil_append, List.append_nil, List.length_append, String.reduceEq, lfs_app, Int.reduceNeg, eq_self, if_true, if_false, Bool.false_eq_true, Int.reduceLE, Int.reduceLT, Int.reduceEq, Int.reduceSub, Int.reduceAdd, Int.reduceMul]
    generalize hF : forW _ _ _ _ _ = F
    refine for_range_e (fun _ S r => r = none ∧ ∃ o3 o4 o5 o6 o7, S = [some (.exc "House" [] []), some (.lst (ts.map thD)), some (.lst (ks.map tieD)), o3, o4, o5, o6, o7]) hF rfl ⟨rfl, _, _, _, _, _, rfl⟩ ?_ ?_
    · rintro i hi S r ⟨rfl, o3, o4, o5, o6, o7, rfl⟩
      refine ⟨_, rfl, ?_⟩
      have hti : ts[i]? = some ts[i] := List.getElem?_eq_getElem hi
      have hx := at_thing hti
      have hmem : ts[i] ∈ ts := List.getElem_mem hi
      have hnm := is_name_ok (ht.nm _ hmem)
      have hmk := are_marks_ok (ht.mks _ hmem)
      have hcut : cutG (ts.map thD) none (some (i : Int)) = (ts.take i).map thD := by rw [cutG_to, List.map_take]
      have hlt : (ts.take i).length ≤ 3 := by rw [List.length_take]; omega
      have hni : decide (ts[i].nm ∈ (ts.take i).map (·.nm)) = false := by
        apply decide_eq_false
        intro hq
        rw [List.mem_map] at hq
        obtain ⟨t, htm, e⟩ := hq
        obtain ⟨j, hj, ej⟩ := List.getElem_of_mem htm
        rw [List.length_take] at hj
        rw [List.getElem_take] at ej
        have q2 : ts[j]? = some t := by rw [List.getElem?_eq_getElem (by omega), ej]
        have := ht.nd j i t ts[i] q2 hti e
        omega
      simp (dsimp := false) (implicitDefEqProofs := false) only [natD, hx, lfs_things, lfs_intsL, callFn_f (fn := F_is_name) rfl, callFn_f (fn := F_are_marks) rfl, hnm, hmk, hcut, SXA, Bool.and_true, Bool.true_and, Bool.and_false, Bool.false_and, Bool.or_true, Bool.true_or, Bool.or_false, Bool.false_or, Bool.not_true, Bool.not_false, List.length_cons, List.length_nil, Nat.zero_add, Nat.reduceAdd, Nat.reduceSub, Nat.reduceLeDiff, Nat.reduceMul, decide_true, decide_false, env0, List.map_cons, List.map_nil, List.replicate, List.cons_append, List.nil_append, List.append_nil, List.length_append, String.reduceEq, lfs_app, Int.reduceNeg, eq_self, if_true, if_false, Bool.false_eq_true, Int.reduceLE, Int.reduceLT, Int.reduceEq, Int.reduceSub, Int.reduceAdd, Int.reduceMul]
      rw [lc_all (ts.take i) thD (fun t => .str t.nm) rfl (by omega)]
      · have e4 : (ts.take i).map (fun t => D.str t.nm) = ((ts.take i).map (·.nm)).map D.str := by rw [List.map_map]; rfl
        rw [e4]
        simp (dsimp := false) (implicitDefEqProofs := false) only [in_strs, hni, callFn_f hio, hM, callFn_f (fn := F_are_marks) rfl, hmk, SXA, Bool.and_true, Bool.true_and, Bool.and_false, Bool.false_and, Bool.or_true, Bool.true_or, Bool.or_false, Bool.false_or, Bool.not_true, Bool.not_false, List.length_cons, List.length_nil, Nat.zero_add, Nat.reduceAdd, Nat.reduceSub, Nat.reduceLeDiff, Nat.reduceMul, decide_true, decide_false, env0, List.map_cons, List.map_nil, List.replicate, List.cons_append, List.nil_append, List.append_nil, List.length_append, String.reduceEq, lfs_app, Int.reduceNeg, eq_self, if_true, if_false, Bool.false_eq_true, Int.reduceLE, Int.reduceLT, Int.reduceEq, Int.reduceSub, Int.reduceAdd, Int.reduceMul]
        exact nxt_nx ⟨rfl, _, _, _, _, _, rfl⟩
      · intro t htm
        refine ⟨_, rfl, rfl, ?_⟩
        simp (dsimp := false) (implicitDefEqProofs := false) only [thD, lfs_intsL, SXA, Bool.and_true, Bool.true_and, Bool.and_false, Bool.false_and, Bool.or_true, Bool.true_or, Bool.or_false, Bool.false_or, Bool.not_true, Bool.not_false, List.length_cons, List.length_nil, Nat.zero_add, Nat.reduceAdd, Nat.reduceSub, Nat.reduceLeDiff, Nat.reduceMul, decide_true, decide_false, env0, List.map_cons, List.map_nil, List.replicate, List.cons_append, List.nil_append, List.append_nil, List.length_append, String.reduceEq, lfs_app, Int.reduceNeg, eq_self, if_true, if_false, Bool.false_eq_true, Int.reduceLE, Int.reduceLT, Int.reduceEq, Int.reduceSub, Int.reduceAdd, Int.reduceMul]
        exact ⟨true, rfl, trivial⟩
    · rintro S2 r2 rfl ⟨rfl, o3, o4, o5, o6, o7, rfl⟩
      simp (dsimp := false) (implicitDefEqProofs := false) only [SXA, Bool.and_true, Bool.true_and, Bool.and_false, Bool.false_and, Bool.or_true, Bool.true_or, Bool.or_false, Bool.false_or, Bool.not_true, Bool.not_false, List.length_cons, List.length_nil, Nat.zero_add, Nat.reduceAdd, Nat.reduceSub, Nat.reduceLeDiff, Nat.reduceMul, decide_true, decide_false, env0, List.map_cons, List.map_nil, List.replicate, List.cons_append, List.nil_append, List.append_nil, List.length_append, String.reduceEq, lfs_app, Int.reduceNeg, eq_self, if_true, if_false, Bool.false_eq_true, Int.reduceLE, Int.reduceLT, Int.reduceEq, Int.reduceSub, Int.reduceAdd, Int.reduceMul]
      exact ⟨_, _, _, _, _, rfl⟩
  obtain ⟨o3, o4, o5, o6, o7, rfl⟩ := hA
  rw [houMid_r (ts := ts.map thD) (r' := none) (by simp (dsimp := false) (implicitDefEqProofs := false) only [lfs_things, SXA, Bool.and_true, Bool.true_and, Bool.and_false, Bool.false_and, Bool.or_true, Bool.true_or, Bool.or_false, Bool.false_or, Bool.not_true, Bool.not_false, List.length_cons, List.length_nil, Nat.zero_add, Nat.reduceAdd, Nat.reduceSub, Nat.reduceLeDiff, Nat.reduceMul, decide_true, decide_false, env0, List.map_cons, List.map_nil, List.replicate, List.cons_append, List.nil_append, List.append_nil, List.length_append, String.reduceEq, lfs_app, Int.reduceNeg, eq_self, if_true, if_false, Bool.false_eq_true, Int.reduceLE, Int.reduceLT, Int.reduceEq, Int.reduceSub, Int.reduceAdd, Int.reduceMul]) rfl]
  generalize hQ : sSeq _ _ none = Q
  have hB : ∃ o3 o4 o5 o6 o7, Q = .nx [some (.hou1 (ts.map thD)), some (.lst (ts.map thD)), some (.lst (ks.map tieD)), o3, o4, o5, o6, o7] none := by
    rw [← hQ]
    have e2 : (ks.length : Int) ≤ 6 := by omega
    simp (dsimp := false) (implicitDefEqProofs := false) only [c_MOST_TIES, List.length_map, e2, callFn_f hio, hM, range1 (n := (ks.length : Int)) (k := ks.length) rfl (by omega), SXA, Bool.and_true, Bool.true_and, Bool.and_false, Bool.false_and, Bool.or_true, Bool.true_or, Bool.or_false, Bool.false_or, Bool.not_true, Bool.not_false, List.length_cons, List.length_nil, Nat.zero_add, Nat.reduceAdd, Nat.reduceSub, Nat.reduceLeDiff, Nat.reduceMul, decide_true, decide_false, env0, List.map_cons, List.map_nil, List.replicate, List.cons_append, List.nil_append, List.append_nil, List.length_append, String.reduceEq, lfs_app, Int.reduceNeg, eq_self, if_true, if_false, Bool.false_eq_true, Int.reduceLE, Int.reduceLT, Int.reduceEq, Int.reduceSub, Int.reduceAdd, Int.reduceMul]
    generalize hF : forW _ _ _ _ _ = F
    refine for_range_e (fun _ S r => r = none ∧ ∃ o3 o4 o5 o6 o7, S = [some (.hou1 (ts.map thD)), some (.lst (ts.map thD)), some (.lst (ks.map tieD)), o3, o4, o5, o6, o7]) hF rfl ⟨rfl, _, _, _, _, _, rfl⟩ ?_ ?_
    · rintro i hi S r ⟨rfl, o3, o4, o5, o6, o7, rfl⟩
      refine ⟨_, rfl, ?_⟩
      have hki : (ks.map tieD)[i]? = some (tieD ks[i]) := by rw [List.getElem?_map, List.getElem?_eq_getElem hi]; rfl
      have hit := is_tie_ok (hk.ok _ (List.getElem_mem hi))
      simp (dsimp := false) (implicitDefEqProofs := false) only [natD, atI_nat, hki, lfs_ties, callFn_f hio, hM, hit, SXA, Bool.and_true, Bool.true_and, Bool.and_false, Bool.false_and, Bool.or_true, Bool.true_or, Bool.or_false, Bool.false_or, Bool.not_true, Bool.not_false, List.length_cons, List.length_nil, Nat.zero_add, Nat.reduceAdd, Nat.reduceSub, Nat.reduceLeDiff, Nat.reduceMul, decide_true, decide_false, env0, List.map_cons, List.map_nil, List.replicate, List.cons_append, List.nil_append, List.append_nil, List.length_append, String.reduceEq, lfs_app, Int.reduceNeg, eq_self, if_true, if_false, Bool.false_eq_true, Int.reduceLE, Int.reduceLT, Int.reduceEq, Int.reduceSub, Int.reduceAdd, Int.reduceMul]
      exact nxt_nx ⟨rfl, _, _, _, _, _, rfl⟩
    · rintro S2 r2 rfl ⟨rfl, o3, o4, o5, o6, o7, rfl⟩
      simp (dsimp := false) (implicitDefEqProofs := false) only [SXA, Bool.and_true, Bool.true_and, Bool.and_false, Bool.false_and, Bool.or_true, Bool.true_or, Bool.or_false, Bool.false_or, Bool.not_true, Bool.not_false, List.length_cons, List.length_nil, Nat.zero_add, Nat.reduceAdd, Nat.reduceSub, Nat.reduceLeDiff, Nat.reduceMul, decide_true, decide_false, env0, List.map_cons, List.map_nil, List.replicate, List.cons_append, List.nil_append, List.append_nil, List.length_append, String.reduceEq, lfs_app, Int.reduceNeg, eq_self, if_true, if_false, Bool.false_eq_true, Int.reduceLE, Int.reduceLT, Int.reduceEq, Int.reduceSub, Int.reduceAdd, Int.reduceMul]
      exact ⟨_, _, _, _, _, rfl⟩
  obtain ⟨o3, o4, o5, o6, o7, rfl⟩ := hB
  rw [houEnd_r (ks := ks.map tieD) (r' := none) (x := ts.map thD) (by simp (dsimp := false) (implicitDefEqProofs := false) only [lfs_ties, SXA, Bool.and_true, Bool.true_and, Bool.and_false, Bool.false_and, Bool.or_true, Bool.true_or, Bool.or_false, Bool.false_or, Bool.not_true, Bool.not_false, List.length_cons, List.length_nil, Nat.zero_add, Nat.reduceAdd, Nat.reduceSub, Nat.reduceLeDiff, Nat.reduceMul, decide_true, decide_false, env0, List.map_cons, List.map_nil, List.replicate, List.cons_append, List.nil_append, List.append_nil, List.length_append, String.reduceEq, lfs_app, Int.reduceNeg, eq_self, if_true, if_false, Bool.false_eq_true, Int.reduceLE, Int.reduceLT, Int.reduceEq, Int.reduceSub, Int.reduceAdd, Int.reduceMul]) rfl (by rw [noExcs_map noExc_th, noExcs_map noExc_tie]; rfl)]
  rfl
theorem must_ok (w : Str) (n : Int) : F_must.run [.bl true, .str w, .int n] none = .ok .non none := by
  simp (dsimp := false) (implicitDefEqProofs := false) only [F_must, m_must, SXA, Bool.and_true, Bool.true_and, Bool.and_false, Bool.false_and, Bool.or_true, Bool.true_or, Bool.or_false, Bool.false_or, Bool.not_true, Bool.not_false, List.length_cons, List.length_nil, Nat.zero_add, Nat.reduceAdd, Nat.reduceSub, Nat.reduceLeDiff, Nat.reduceMul, decide_true, decide_false, env0, List.map_cons, List.map_nil, List.replicate, List.cons_append, List.nil_append, List.append_nil, List.length_append, String.reduceEq, lfs_app, Int.reduceNeg, eq_self, if_true, if_false, Bool.false_eq_true, Int.reduceLE, Int.reduceLT, Int.reduceEq, Int.reduceSub, Int.reduceAdd, Int.reduceMul]
end TH

set_option Elab.async false
set_option linter.all false
set_option maxRecDepth 100000
set_option maxHeartbeats 4000000
/-! KL: what a thing may be next. -/
namespace TH
open PySem PySem.Spec PyProof.Rows L2

def mayS (s q : Spot) : Bool :=
  let one (e : Int) : Bool := (decide (e % 2 = 0) && decide (q.1 = e)) || (decide (e % 2 = 1) && (decide (q = (e, 0)) || decide (q = (e + 1, 1)) || decide (q = (e - 1, -1))))
  one s.1 || (decide (s.1 % 2 = 0) && decide (s.2 ≠ 0) && one (s.1 + s.2))
def nextS (k : Nat) (s : Spot) : List Spot := (spotsS k).filter (mayS s)
def codeB : Out D → Nat
  | .ok (.bl true) none => 1
  | .ok (.bl false) none => 2
  | _ => 0
theorem codeB_t {x : Out D} (h : codeB x = 1) : x = .ok (.bl true) none := by
  unfold codeB at h
  split at h
  · rfl
  · cases h
  · cases h
theorem codeB_f {x : Out D} (h : codeB x = 2) : x = .ok (.bl false) none := by
  unfold codeB at h
  split at h
  · cases h
  · rfl
  · cases h
theorem may_all : ∀ s ∈ spotsS 3, ∀ q ∈ spotsS 3, codeB (F_law_may.run [spotD s, spotD q] none) = if mayS s q then 1 else 2 := by decide +kernel
theorem spots_3 {k : Nat} {s : Spot} (h : s ∈ spotsS k) (h3 : k ≤ 3) : s ∈ spotsS 3 := by
  unfold spotsS at h ⊢
  rw [List.mem_flatMap] at h ⊢
  obtain ⟨p, hp, h⟩ := h
  exact ⟨p, List.mem_range.mpr (by have := List.mem_range.mp hp; omega), h⟩
theorem law_may_ok {k j : Nat} {s q : Spot} (hs : s ∈ spotsS k) (hq : q ∈ spotsS j) (hk : k ≤ 3) (hj : j ≤ 3) : F_law_may.run [spotD s, spotD q] none = .ok (.bl (mayS s q)) none := by
  have h := may_all s (spots_3 hs hk) q (spots_3 hq hj)
  cases hm : mayS s q with
  | true => rw [hm, if_pos rfl] at h; exact codeB_t h
  | false => rw [hm, if_neg (by decide)] at h; exact codeB_f h
theorem spots_1 : spotsS 1 = [(0, -1), (0, 0), (0, 1), (1, 0), (2, -1), (2, 0), (2, 1)] := by decide
theorem spots_2 : spotsS 2 = [(0, -1), (0, 0), (0, 1), (1, 0), (2, -1), (2, 0), (2, 1), (3, 0), (4, -1), (4, 0), (4, 1)] := by decide
theorem spots_33 : spotsS 3 = [(0, -1), (0, 0), (0, 1), (1, 0), (2, -1), (2, 0), (2, 1), (3, 0), (4, -1), (4, 0), (4, 1), (5, 0), (6, -1), (6, 0), (6, 1)] := by decide
theorem next_ok {ms : List Int} (h1 : 1 ≤ ms.length) (h3 : ms.length ≤ 3) {s : Spot} (hs : s ∈ spotsS ms.length) : F_spots_next.run [spotD s, .tup (intsL ms)] none = .ok (.lst ((nextS ms.length s).map spotD)) none := by
  match ms, h1, h3, hs with
  | [a], _, _, hs =>
    have hs' : s ∈ spotsS 1 := hs
    rw [spots_1] at hs'
    simp only [List.mem_cons, List.not_mem_nil, or_false] at hs'
    rcases hs' with rfl | rfl | rfl | rfl | rfl | rfl | rfl <;> kernel_rfl
  | [a, b], _, _, hs =>
    have hs' : s ∈ spotsS 2 := hs
    rw [spots_2] at hs'
    simp only [List.mem_cons, List.not_mem_nil, or_false] at hs'
    rcases hs' with rfl | rfl | rfl | rfl | rfl | rfl | rfl | rfl | rfl | rfl | rfl <;> kernel_rfl
  | [a, b, c], _, _, hs =>
    have hs' : s ∈ spotsS 3 := hs
    rw [spots_33] at hs'
    simp only [List.mem_cons, List.not_mem_nil, or_false] at hs'
    rcases hs' with rfl | rfl | rfl | rfl | rfl | rfl | rfl | rfl | rfl | rfl | rfl | rfl | rfl | rfl | rfl <;> kernel_rfl
theorem may_self_all : ∀ s ∈ spotsS 3, mayS s s = true := by decide
theorem next_self {k : Nat} {s : Spot} (hs : s ∈ spotsS k) (h3 : k ≤ 3) : s ∈ nextS k s := List.mem_filter.mpr ⟨hs, may_self_all s (spots_3 hs h3)⟩
theorem next_mem {k : Nat} {s q : Spot} : q ∈ nextS k s ↔ q ∈ spotsS k ∧ mayS s q = true := List.mem_filter
theorem next_len (k : Nat) (h : k ≤ 3) (s : Spot) : (nextS k s).length ≤ 15 := Nat.le_trans (List.length_filter_le _ _) (spotsS_len k h)
end TH

set_option Elab.async false
set_option linter.all false
set_option maxRecDepth 100000
set_option maxHeartbeats 4000000
/-! KM: moves.py. -/
namespace TH
open PySem PySem.Spec PyProof.Rows L2

def kS (ts : List Th) (i : Nat) : Nat := match ts[i]? with
  | some t => t.ms.length
  | none => 0
def sp0 (r : Room) (i : Nat) : Spot := r.getD i (0, 0)
theorem sp0_at {r : Room} {i : Nat} (h : i < r.length) : r[i]? = some (sp0 r i) := by
  unfold sp0
  rw [List.getD_eq_getElem?_getD, List.getElem?_eq_getElem h]; rfl
theorem atI_sp {r : Room} {i : Nat} (h : i < r.length) : atI (r.map spotD) (i : Int) = some (spotD (sp0 r i)) := by
  rw [atI_nat, List.getElem?_map, sp0_at h]; rfl
theorem elf_spotD (s : Spot) : (spotD s).elf = true := rfl
theorem kS_at {ts : List Th} {i : Nat} {t : Th} (h : ts[i]? = some t) : kS ts i = t.ms.length := by unfold kS; rw [h]
theorem sp0_mem {ts : List Th} {r : Room} (h : roomOkB ts r = true) {i : Nat} (hi : i < ts.length) : sp0 r i ∈ spotsS (kS ts i) := by
  have hl := roomOk_len h
  have h2 : ts[i]? = some ts[i] := List.getElem?_eq_getElem hi
  rw [kS_at h2]
  exact roomOk_mem h (sp0_at (by omega)) h2
def barS (ts : List Th) (r o : Room) : Option Nat := (List.range r.length).find? fun i => !(decide (sp0 o i ∈ nextS (kS ts i) (sp0 r i)))
theorem first_barred_ok {ts : List Th} (hm : msIn ts) (h3 : ts.length ≤ 3) (ks : List Tie) {r o : Room} (hr : roomOkB ts r = true) (ho : roomOkB ts o = true) : F_first_barred.run [houD ts ks, roomD r, roomD o] none = .ok (optD (barS ts r o)) none := by
  have lr := roomOk_len hr
  have lo := roomOk_len ho
  rw [houD_eq]
  show F_first_barred.run [.hou (ts.map thD) (ks.map tieD), .tup (r.map spotD), .tup (o.map spotD)] none = _
  simp (dsimp := false) (implicitDefEqProofs := false) only [F_first_barred, m_first_barred, List.length_map, range1 (n := (r.length : Int)) (k := r.length) rfl (by omega), SXA, Bool.and_true, Bool.true_and, Bool.and_false, Bool.false_and, Bool.or_true, Bool.true_or, Bool.or_false, Bool.false_or, Bool.not_true, Bool.not_false, List.length_cons, List.length_nil, Nat.zero_add, Nat.reduceAdd, Nat.reduceSub, Nat.reduceLeDiff, Nat.reduceMul, decide_true, decide_false, env0, List.map_cons, List.map_nil, List.replicate, List.cons_append, List.nil_append, List.append_nil, List.length_append, String.reduceEq, lfs_app, Int.reduceNeg, eq_self, if_true, if_false, Bool.false_eq_true, Int.reduceLE, Int.reduceLT, Int.reduceEq, Int.reduceSub, Int.reduceAdd, Int.reduceMul]
  generalize hF : forW _ _ _ _ _ = F
  refine for_find_e (items := List.range r.length) (emb := natD) (fun S => ∃ o3, S = [some (.hou (ts.map thD) (ks.map tieD)), some (.tup (r.map spotD)), some (.tup (o.map spotD)), o3]) (fun i => !(decide (sp0 o i ∈ nextS (kS ts i) (sp0 r i)))) natD hF rfl ⟨_, rfl⟩ ?_ ?_ ?_
  · rintro i hi S ⟨o3, rfl⟩
    have hi : i < r.length := List.mem_range.mp hi
    have h2 : ts[i]? = some ts[i] := List.getElem?_eq_getElem (by omega)
    obtain ⟨q1, q3⟩ := hm ts[i] (List.getElem_mem (by omega))
    have a1 := atI_sp hi
    have a2 := atI_sp (r := o) (i := i) (by omega)
    have a3 := at_thing h2
    have hmem := sp0_mem hr (i := i) (by omega)
    rw [kS_at h2] at hmem ⊢
    have hn := next_ok q1 q3 hmem
    refine ⟨_, rfl, ?_⟩
    cases hb : decide (sp0 o i ∈ nextS ts[i].ms.length (sp0 r i)) with
    | true =>
      right
      refine ⟨rfl, ?_⟩
      simp (dsimp := false) (implicitDefEqProofs := false) only [natD, a1, a2, a3, lfs_spots, lfs_things, lfs_intsL, elf_spotD, callFn_f (fn := F_spots_next) rfl, hn, in_spots, hb, SXA, Bool.and_true, Bool.true_and, Bool.and_false, Bool.false_and, Bool.or_true, Bool.true_or, Bool.or_false, Bool.false_or, Bool.not_true, Bool.not_false, List.length_cons, List.length_nil, Nat.zero_add, Nat.reduceAdd, Nat.reduceSub, Nat.reduceLeDiff, Nat.reduceMul, decide_true, decide_false, env0, List.map_cons, List.map_nil, List.replicate, List.cons_append, List.nil_append, List.append_nil, List.length_append, String.reduceEq, lfs_app, Int.reduceNeg, eq_self, if_true, if_false, Bool.false_eq_true, Int.reduceLE, Int.reduceLT, Int.reduceEq, Int.reduceSub, Int.reduceAdd, Int.reduceMul]
      exact ⟨_, rfl, _, rfl⟩
    | false =>
      left
      refine ⟨rfl, ?_⟩
      simp (dsimp := false) (implicitDefEqProofs := false) only [natD, a1, a2, a3, lfs_spots, lfs_things, lfs_intsL, elf_spotD, callFn_f (fn := F_spots_next) rfl, hn, in_spots, hb, SXA, Bool.and_true, Bool.true_and, Bool.and_false, Bool.false_and, Bool.or_true, Bool.true_or, Bool.or_false, Bool.false_or, Bool.not_true, Bool.not_false, List.length_cons, List.length_nil, Nat.zero_add, Nat.reduceAdd, Nat.reduceSub, Nat.reduceLeDiff, Nat.reduceMul, decide_true, decide_false, env0, List.map_cons, List.map_nil, List.replicate, List.cons_append, List.nil_append, List.append_nil, List.length_append, String.reduceEq, lfs_app, Int.reduceNeg, eq_self, if_true, if_false, Bool.false_eq_true, Int.reduceLE, Int.reduceLT, Int.reduceEq, Int.reduceSub, Int.reduceAdd, Int.reduceMul]
  · rintro S2 h1 rfl ⟨o3, rfl⟩
    simp (dsimp := false) (implicitDefEqProofs := false) only [SXA, Bool.and_true, Bool.true_and, Bool.and_false, Bool.false_and, Bool.or_true, Bool.true_or, Bool.or_false, Bool.false_or, Bool.not_true, Bool.not_false, List.length_cons, List.length_nil, Nat.zero_add, Nat.reduceAdd, Nat.reduceSub, Nat.reduceLeDiff, Nat.reduceMul, decide_true, decide_false, env0, List.map_cons, List.map_nil, List.replicate, List.cons_append, List.nil_append, List.append_nil, List.length_append, String.reduceEq, lfs_app, Int.reduceNeg, eq_self, if_true, if_false, Bool.false_eq_true, Int.reduceLE, Int.reduceLT, Int.reduceEq, Int.reduceSub, Int.reduceAdd, Int.reduceMul]
    unfold barS
    rw [h1]; rfl
  · rintro i h1 rfl
    simp (dsimp := false) (implicitDefEqProofs := false) only [SXA, Bool.and_true, Bool.true_and, Bool.and_false, Bool.false_and, Bool.or_true, Bool.true_or, Bool.or_false, Bool.false_or, Bool.not_true, Bool.not_false, List.length_cons, List.length_nil, Nat.zero_add, Nat.reduceAdd, Nat.reduceSub, Nat.reduceLeDiff, Nat.reduceMul, decide_true, decide_false, env0, List.map_cons, List.map_nil, List.replicate, List.cons_append, List.nil_append, List.append_nil, List.length_append, String.reduceEq, lfs_app, Int.reduceNeg, eq_self, if_true, if_false, Bool.false_eq_true, Int.reduceLE, Int.reduceLT, Int.reduceEq, Int.reduceSub, Int.reduceAdd, Int.reduceMul]
    unfold barS
    rw [h1]; rfl
/-- for each thing all that it may be next -/
def nextL (ts : List Th) (r : Room) : List (List Spot) := (List.range r.length).map fun i => nextS (kS ts i) (sp0 r i)
def goodNext (ts : List Th) (ks : List Tie) (r : Room) : List Room := ((roomsFrom (nextL ts r) [[]]).filter fun o => !(decide (o = r))).filter fun o => (firstS ks o).isNone
theorem preOk_get : ∀ {ls : List (List Spot)} {o : Room}, preOk ls o → o.length = ls.length ∧ ∀ (i : Nat) (s : Spot), o[i]? = some s → ∃ l, ls[i]? = some l ∧ s ∈ l
  | [], [], _ => ⟨rfl, fun i s h => by simp at h⟩
  | [], _ :: _, h => h.elim
  | _ :: _, [], h => h.elim
  | l :: ls, s :: o, h => by
    obtain ⟨h1, h2⟩ := preOk_get h.2
    refine ⟨by rw [List.length_cons, List.length_cons, h1], fun i q hq => ?_⟩
    cases i with
    | zero =>
      cases hq
      exact ⟨l, rfl, h.1⟩
    | succ i => exact h2 i q (by simpa using hq)
theorem roomOk_of {ts : List Th} {o : Room} (hl : o.length = ts.length) (h : ∀ (i : Nat) (s : Spot) (t : Th), o[i]? = some s → ts[i]? = some t → s ∈ spotsS t.ms.length) : roomOkB ts o = true := by
  unfold roomOkB
  rw [decide_eq_true hl, Bool.true_and, List.all_eq_true]
  intro x hx
  obtain ⟨i, hi⟩ := List.getElem?_of_mem hx
  rw [List.getElem?_zip_eq_some] at hi
  exact decide_eq_true (h i x.1 x.2 hi.1 hi.2)
theorem nextL_room {ts : List Th} {r o : Room} (hr : roomOkB ts r = true) (h : o ∈ roomsFrom (nextL ts r) [[]]) : roomOkB ts o = true := by
  have lr := roomOk_len hr
  have hp := from_pre (done := []) (ss := nextL ts r) (acc := [[]]) (fun x hx => by rw [List.mem_singleton.mp hx]; trivial) o h
  rw [List.nil_append] at hp
  obtain ⟨h1, h2⟩ := preOk_get hp
  have hll : (nextL ts r).length = ts.length := by unfold nextL; rw [List.length_map, List.length_range, lr]
  refine roomOk_of (by omega) fun i s t hs ht => ?_
  obtain ⟨l, hl, hm⟩ := h2 i s hs
  have hi : i < r.length := by have := (List.getElem?_eq_some_iff.mp ht).1; omega
  unfold nextL at hl
  rw [List.getElem?_map, List.getElem?_range hi] at hl
  cases hl
  rw [← kS_at ht]
  exact (next_mem.mp hm).1
theorem nextL_len {ts : List Th} {r : Room} (hm : msIn ts) (h3 : ts.length ≤ 3) (hr : roomOkB ts r = true) : (nextL ts r).length ≤ 3 ∧ ∀ l ∈ nextL ts r, l.length ≤ 15 := by
  have lr := roomOk_len hr
  refine ⟨by unfold nextL; rw [List.length_map, List.length_range]; omega, fun l hl => ?_⟩
  unfold nextL at hl
  rw [List.mem_map] at hl
  obtain ⟨i, hi, rfl⟩ := hl
  have hi := List.mem_range.mp hi
  have h2 : ts[i]? = some ts[i] := List.getElem?_eq_getElem (by omega)
  rw [kS_at h2]
  exact next_len _ (hm _ (List.getElem_mem (by omega))).2 _
theorem all_next_ok {ts : List Th} {ks : List Tie} (hm : msIn ts) (h3 : ts.length ≤ 3) (h : ∀ k ∈ ks, tieIn ts.length k) (hz : ks.length ≤ 1000) {r : Room} (hr : roomOkB ts r = true) : F_all_next.run [houD ts ks, roomD r] none = .ok (.lst ((goodNext ts ks r).map roomD)) none := by
  have lr := roomOk_len hr
  have hh := houD_eq ts ks
  rw [hh]
  show F_all_next.run [.hou (ts.map thD) (ks.map tieD), .tup (r.map spotD)] none = _
  simp (dsimp := false) (implicitDefEqProofs := false) only [F_all_next, m_all_next, List.length_map, range1 (n := (r.length : Int)) (k := r.length) rfl (by omega), SXA, Bool.and_true, Bool.true_and, Bool.and_false, Bool.false_and, Bool.or_true, Bool.true_or, Bool.or_false, Bool.false_or, Bool.not_true, Bool.not_false, List.length_cons, List.length_nil, Nat.zero_add, Nat.reduceAdd, Nat.reduceSub, Nat.reduceLeDiff, Nat.reduceMul, decide_true, decide_false, env0, List.map_cons, List.map_nil, List.replicate, List.cons_append, List.nil_append, List.append_nil, List.length_append, String.reduceEq, lfs_app, Int.reduceNeg, eq_self, if_true, if_false, Bool.false_eq_true, Int.reduceLE, Int.reduceLT, Int.reduceEq, Int.reduceSub, Int.reduceAdd, Int.reduceMul]
  rw [lc_all (List.range r.length) natD (fun i => spotsD (nextS (kS ts i) (sp0 r i))) rfl (by rw [List.length_range]; omega)]
  · have e : ((List.range r.length).map fun i => spotsD (nextS (kS ts i) (sp0 r i))) = (nextL ts r).map spotsD := by unfold nextL; rw [List.map_map]; rfl
    rw [e]
    obtain ⟨l3, l15⟩ := nextL_len hm h3 hr
    have ha := all_rows_ok l3 l15
    have hlen : (roomsFrom (nextL ts r) [[]]).length ≤ 3375 := grow_max (grow_from (n := 0) (grow0 l3) l15)
    simp (dsimp := false) (implicitDefEqProofs := false) only [callFn_f (fn := F_all_rows) rfl, ha, SXA, Bool.and_true, Bool.true_and, Bool.and_false, Bool.false_and, Bool.or_true, Bool.true_or, Bool.or_false, Bool.false_or, Bool.not_true, Bool.not_false, List.length_cons, List.length_nil, Nat.zero_add, Nat.reduceAdd, Nat.reduceSub, Nat.reduceLeDiff, Nat.reduceMul, decide_true, decide_false, env0, List.map_cons, List.map_nil, List.replicate, List.cons_append, List.nil_append, List.append_nil, List.length_append, String.reduceEq, lfs_app, Int.reduceNeg, eq_self, if_true, if_false, Bool.false_eq_true, Int.reduceLE, Int.reduceLT, Int.reduceEq, Int.reduceSub, Int.reduceAdd, Int.reduceMul]
    rw [lc_map (roomsFrom (nextL ts r) [[]]) roomD (fun o => !(decide (o = r))) roomD rfl (by omega)]
    · have hlen2 : ((roomsFrom (nextL ts r) [[]]).filter fun o => !(decide (o = r))).length ≤ 3375 := Nat.le_trans (List.length_filter_le _ _) hlen
      simp (dsimp := false) (implicitDefEqProofs := false) only [SXA, Bool.and_true, Bool.true_and, Bool.and_false, Bool.false_and, Bool.or_true, Bool.true_or, Bool.or_false, Bool.false_or, Bool.not_true, Bool.not_false, List.length_cons, List.length_nil, Nat.zero_add, Nat.reduceAdd, Nat.reduceSub, Nat.reduceLeDiff, Nat.reduceMul, decide_true, decide_false, env0, List.map_cons, List.map_nil, List.replicate, List.cons_append, List.nil_append, List.append_nil, List.length_append, String.reduceEq, lfs_app, Int.reduceNeg, eq_self, if_true, if_false, Bool.false_eq_true, Int.reduceLE, Int.reduceLT, Int.reduceEq, Int.reduceSub, Int.reduceAdd, Int.reduceMul]
      rw [lc_map ((roomsFrom (nextL ts r) [[]]).filter fun o => !(decide (o = r))) roomD (fun o => (firstS ks o).isNone) roomD rfl (by omega)]
      · simp (dsimp := false) (implicitDefEqProofs := false) only [SXA, Bool.and_true, Bool.true_and, Bool.and_false, Bool.false_and, Bool.or_true, Bool.true_or, Bool.or_false, Bool.false_or, Bool.not_true, Bool.not_false, List.length_cons, List.length_nil, Nat.zero_add, Nat.reduceAdd, Nat.reduceSub, Nat.reduceLeDiff, Nat.reduceMul, decide_true, decide_false, env0, List.map_cons, List.map_nil, List.replicate, List.cons_append, List.nil_append, List.append_nil, List.length_append, String.reduceEq, lfs_app, Int.reduceNeg, eq_self, if_true, if_false, Bool.false_eq_true, Int.reduceLE, Int.reduceLT, Int.reduceEq, Int.reduceSub, Int.reduceAdd, Int.reduceMul]
        rfl
      · intro o ho
        have hok := nextL_room hr (List.mem_filter.mp ho).1
        have hl := roomOk_len hok
        have h2 := first_broken_ok (ts := ts) (fun k hk => by rw [hl]; exact h k hk) (roomOk_tr hok) hz
        rw [hh] at h2
        refine ⟨_, rfl, ?_, fun _ => ?_⟩
        · simp (dsimp := false) (implicitDefEqProofs := false) only [callFn_f (fn := F_first_broken) rfl, h2, isNon_opt, SXA, Bool.and_true, Bool.true_and, Bool.and_false, Bool.false_and, Bool.or_true, Bool.true_or, Bool.or_false, Bool.false_or, Bool.not_true, Bool.not_false, List.length_cons, List.length_nil, Nat.zero_add, Nat.reduceAdd, Nat.reduceSub, Nat.reduceLeDiff, Nat.reduceMul, decide_true, decide_false, env0, List.map_cons, List.map_nil, List.replicate, List.cons_append, List.nil_append, List.append_nil, List.length_append, String.reduceEq, lfs_app, Int.reduceNeg, eq_self, if_true, if_false, Bool.false_eq_true, Int.reduceLE, Int.reduceLT, Int.reduceEq, Int.reduceSub, Int.reduceAdd, Int.reduceMul]
        · simp (dsimp := false) (implicitDefEqProofs := false) only [lf_roomD, SXA, Bool.and_true, Bool.true_and, Bool.and_false, Bool.false_and, Bool.or_true, Bool.true_or, Bool.or_false, Bool.false_or, Bool.not_true, Bool.not_false, List.length_cons, List.length_nil, Nat.zero_add, Nat.reduceAdd, Nat.reduceSub, Nat.reduceLeDiff, Nat.reduceMul, decide_true, decide_false, env0, List.map_cons, List.map_nil, List.replicate, List.cons_append, List.nil_append, List.append_nil, List.length_append, String.reduceEq, lfs_app, Int.reduceNeg, eq_self, if_true, if_false, Bool.false_eq_true, Int.reduceLE, Int.reduceLT, Int.reduceEq, Int.reduceSub, Int.reduceAdd, Int.reduceMul]
          exact ⟨_, rfl, trivial⟩
    · intro o ho
      have e2 : eqD (roomD o) (.tup (r.map spotD)) = some (decide (o = r)) := eq_room o r
      refine ⟨_, rfl, ?_, fun _ => ?_⟩
      · simp (dsimp := false) (implicitDefEqProofs := false) only [e2, SXA, Bool.and_true, Bool.true_and, Bool.and_false, Bool.false_and, Bool.or_true, Bool.true_or, Bool.or_false, Bool.false_or, Bool.not_true, Bool.not_false, List.length_cons, List.length_nil, Nat.zero_add, Nat.reduceAdd, Nat.reduceSub, Nat.reduceLeDiff, Nat.reduceMul, decide_true, decide_false, env0, List.map_cons, List.map_nil, List.replicate, List.cons_append, List.nil_append, List.append_nil, List.length_append, String.reduceEq, lfs_app, Int.reduceNeg, eq_self, if_true, if_false, Bool.false_eq_true, Int.reduceLE, Int.reduceLT, Int.reduceEq, Int.reduceSub, Int.reduceAdd, Int.reduceMul]
      · simp (dsimp := false) (implicitDefEqProofs := false) only [lf_roomD, SXA, Bool.and_true, Bool.true_and, Bool.and_false, Bool.false_and, Bool.or_true, Bool.true_or, Bool.or_false, Bool.false_or, Bool.not_true, Bool.not_false, List.length_cons, List.length_nil, Nat.zero_add, Nat.reduceAdd, Nat.reduceSub, Nat.reduceLeDiff, Nat.reduceMul, decide_true, decide_false, env0, List.map_cons, List.map_nil, List.replicate, List.cons_append, List.nil_append, List.append_nil, List.length_append, String.reduceEq, lfs_app, Int.reduceNeg, eq_self, if_true, if_false, Bool.false_eq_true, Int.reduceLE, Int.reduceLT, Int.reduceEq, Int.reduceSub, Int.reduceAdd, Int.reduceMul]
        exact ⟨_, rfl, trivial⟩
  · intro i hi
    have hi : i < r.length := List.mem_range.mp hi
    have h2 : ts[i]? = some ts[i] := List.getElem?_eq_getElem (by omega)
    obtain ⟨q1, q3⟩ := hm ts[i] (List.getElem_mem (by omega))
    have a1 := atI_sp hi
    have a3 := at_thing h2
    have hmem := sp0_mem hr (i := i) (by omega)
    rw [kS_at h2] at hmem ⊢
    have hn := next_ok q1 q3 hmem
    refine ⟨_, rfl, rfl, ?_⟩
    simp (dsimp := false) (implicitDefEqProofs := false) only [natD, a1, a3, lfs_spots, lfs_things, lfs_intsL, elf_spotD, callFn_f (fn := F_spots_next) rfl, hn, SXA, Bool.and_true, Bool.true_and, Bool.and_false, Bool.false_and, Bool.or_true, Bool.true_or, Bool.or_false, Bool.false_or, Bool.not_true, Bool.not_false, List.length_cons, List.length_nil, Nat.zero_add, Nat.reduceAdd, Nat.reduceSub, Nat.reduceLeDiff, Nat.reduceMul, decide_true, decide_false, env0, List.map_cons, List.map_nil, List.replicate, List.cons_append, List.nil_append, List.append_nil, List.length_append, String.reduceEq, lfs_app, Int.reduceNeg, eq_self, if_true, if_false, Bool.false_eq_true, Int.reduceLE, Int.reduceLT, Int.reduceEq, Int.reduceSub, Int.reduceAdd, Int.reduceMul]
    exact ⟨true, rfl, rfl⟩
theorem nexts_ok {ts : List Th} {ks : List Tie} (hm : msIn ts) (h3 : ts.length ≤ 3) (h : ∀ k ∈ ks, tieIn ts.length k) (hz : ks.length ≤ 1000) {r : Room} (hr : roomOkB ts r = true) : F_nexts.run [houD ts ks, roomD r] none = .ok (.lst ((goodNext ts ks r).map roomD)) none := by
  have h1 := need_room_ok hm ks r
  rw [hr, if_pos rfl] at h1
  have h2 := all_next_ok hm h3 h hz hr
  simp (dsimp := false) (implicitDefEqProofs := false) only [F_nexts, m_nexts, callFn_f (fn := F_need_room) rfl, callFn_f (fn := F_all_next) rfl, h1, h2, SXA, Bool.and_true, Bool.true_and, Bool.and_false, Bool.false_and, Bool.or_true, Bool.true_or, Bool.or_false, Bool.false_or, Bool.not_true, Bool.not_false, List.length_cons, List.length_nil, Nat.zero_add, Nat.reduceAdd, Nat.reduceSub, Nat.reduceLeDiff, Nat.reduceMul, decide_true, decide_false, env0, List.map_cons, List.map_nil, List.replicate, List.cons_append, List.nil_append, List.append_nil, List.length_append, String.reduceEq, lfs_app, Int.reduceNeg, eq_self, if_true, if_false, Bool.false_eq_true, Int.reduceLE, Int.reduceLT, Int.reduceEq, Int.reduceSub, Int.reduceAdd, Int.reduceMul]
theorem nexts_bad {ts : List Th} {r : Room} (hm : msIn ts) (ks : List Tie) (hr : roomOkB ts r = false) : F_nexts.run [houD ts ks, roomD r] none = .ex ⟨"BadRoom", []⟩ none := by
  have h1 := need_room_ok hm ks r
  rw [hr, if_neg (by decide)] at h1
  simp (dsimp := false) (implicitDefEqProofs := false) only [F_nexts, m_nexts, callFn_f (fn := F_need_room) rfl, h1, SXA, Bool.and_true, Bool.true_and, Bool.and_false, Bool.false_and, Bool.or_true, Bool.true_or, Bool.or_false, Bool.false_or, Bool.not_true, Bool.not_false, List.length_cons, List.length_nil, Nat.zero_add, Nat.reduceAdd, Nat.reduceSub, Nat.reduceLeDiff, Nat.reduceMul, decide_true, decide_false, env0, List.map_cons, List.map_nil, List.replicate, List.cons_append, List.nil_append, List.append_nil, List.length_append, String.reduceEq, lfs_app, Int.reduceNeg, eq_self, if_true, if_false, Bool.false_eq_true, Int.reduceLE, Int.reduceLT, Int.reduceEq, Int.reduceSub, Int.reduceAdd, Int.reduceMul]
def whyD (ts : List Th) (ks : List Tie) (r o : Room) : D := if r = o then .tup [.str "same", .int 0] else match barS ts r o with
  | some i => .tup [.str "thing", .int (i : Int)]
  | none => (match firstS ks o with
    | none => .non
    | some i => .tup [.str "tie", .int (i : Int)])
theorem why_not_ok {ts : List Th} {ks : List Tie} (hm : msIn ts) (h3 : ts.length ≤ 3) (h : ∀ k ∈ ks, tieIn ts.length k) (hz : ks.length ≤ 1000) {r o : Room} (hr : roomOkB ts r = true) (ho : roomOkB ts o = true) : F_why_not.run [houD ts ks, roomD r, roomD o] none = .ok (whyD ts ks r o) none := by
  have h1 := need_room_ok hm ks r
  rw [hr, if_pos rfl] at h1
  have h2 := need_room_ok hm ks o
  rw [ho, if_pos rfl] at h2
  have hb := first_barred_ok hm h3 ks hr ho
  have lo := roomOk_len ho
  have hf := first_broken_ok (ts := ts) (fun k hk => by rw [lo]; exact h k hk) (roomOk_tr ho) hz
  have he := eq_room r o
  simp (dsimp := false) (implicitDefEqProofs := false) only [F_why_not, m_why_not, callFn_f (fn := F_need_room) rfl, callFn_f (fn := F_first_barred) rfl, h1, h2, he, SXA, Bool.and_true, Bool.true_and, Bool.and_false, Bool.false_and, Bool.or_true, Bool.true_or, Bool.or_false, Bool.false_or, Bool.not_true, Bool.not_false, List.length_cons, List.length_nil, Nat.zero_add, Nat.reduceAdd, Nat.reduceSub, Nat.reduceLeDiff, Nat.reduceMul, decide_true, decide_false, env0, List.map_cons, List.map_nil, List.replicate, List.cons_append, List.nil_append, List.append_nil, List.length_append, String.reduceEq, lfs_app, Int.reduceNeg, eq_self, if_true, if_false, Bool.false_eq_true, Int.reduceLE, Int.reduceLT, Int.reduceEq, Int.reduceSub, Int.reduceAdd, Int.reduceMul]
  unfold whyD
  by_cases hro : r = o
  · simp (dsimp := false) (implicitDefEqProofs := false) only [hro, SXA, Bool.and_true, Bool.true_and, Bool.and_false, Bool.false_and, Bool.or_true, Bool.true_or, Bool.or_false, Bool.false_or, Bool.not_true, Bool.not_false, List.length_cons, List.length_nil, Nat.zero_add, Nat.reduceAdd, Nat.reduceSub, Nat.reduceLeDiff, Nat.reduceMul, decide_true, decide_false, env0, List.map_cons, List.map_nil, List.replicate, List.cons_append, List.nil_append, List.append_nil, List.length_append, String.reduceEq, lfs_app, Int.reduceNeg, eq_self, if_true, if_false, Bool.false_eq_true, Int.reduceLE, Int.reduceLT, Int.reduceEq, Int.reduceSub, Int.reduceAdd, Int.reduceMul]
  · simp (dsimp := false) (implicitDefEqProofs := false) only [hro, callFn_f (fn := F_first_barred) rfl, hb, SXA, Bool.and_true, Bool.true_and, Bool.and_false, Bool.false_and, Bool.or_true, Bool.true_or, Bool.or_false, Bool.false_or, Bool.not_true, Bool.not_false, List.length_cons, List.length_nil, Nat.zero_add, Nat.reduceAdd, Nat.reduceSub, Nat.reduceLeDiff, Nat.reduceMul, decide_true, decide_false, env0, List.map_cons, List.map_nil, List.replicate, List.cons_append, List.nil_append, List.append_nil, List.length_append, String.reduceEq, lfs_app, Int.reduceNeg, eq_self, if_true, if_false, Bool.false_eq_true, Int.reduceLE, Int.reduceLT, Int.reduceEq, Int.reduceSub, Int.reduceAdd, Int.reduceMul]
    cases hbar : barS ts r o with
    | some i =>
      simp (dsimp := false) (implicitDefEqProofs := false) only [optD, SXA, Bool.and_true, Bool.true_and, Bool.and_false, Bool.false_and, Bool.or_true, Bool.true_or, Bool.or_false, Bool.false_or, Bool.not_true, Bool.not_false, List.length_cons, List.length_nil, Nat.zero_add, Nat.reduceAdd, Nat.reduceSub, Nat.reduceLeDiff, Nat.reduceMul, decide_true, decide_false, env0, List.map_cons, List.map_nil, List.replicate, List.cons_append, List.nil_append, List.append_nil, List.length_append, String.reduceEq, lfs_app, Int.reduceNeg, eq_self, if_true, if_false, Bool.false_eq_true, Int.reduceLE, Int.reduceLT, Int.reduceEq, Int.reduceSub, Int.reduceAdd, Int.reduceMul]
    | none =>
      simp (dsimp := false) (implicitDefEqProofs := false) only [optD, callFn_f (fn := F_first_broken) rfl, hf, SXA, Bool.and_true, Bool.true_and, Bool.and_false, Bool.false_and, Bool.or_true, Bool.true_or, Bool.or_false, Bool.false_or, Bool.not_true, Bool.not_false, List.length_cons, List.length_nil, Nat.zero_add, Nat.reduceAdd, Nat.reduceSub, Nat.reduceLeDiff, Nat.reduceMul, decide_true, decide_false, env0, List.map_cons, List.map_nil, List.replicate, List.cons_append, List.nil_append, List.append_nil, List.length_append, String.reduceEq, lfs_app, Int.reduceNeg, eq_self, if_true, if_false, Bool.false_eq_true, Int.reduceLE, Int.reduceLT, Int.reduceEq, Int.reduceSub, Int.reduceAdd, Int.reduceMul]
      cases hfi : firstS ks o with
      | some i => simp (dsimp := false) (implicitDefEqProofs := false) only [optD, SXA, Bool.and_true, Bool.true_and, Bool.and_false, Bool.false_and, Bool.or_true, Bool.true_or, Bool.or_false, Bool.false_or, Bool.not_true, Bool.not_false, List.length_cons, List.length_nil, Nat.zero_add, Nat.reduceAdd, Nat.reduceSub, Nat.reduceLeDiff, Nat.reduceMul, decide_true, decide_false, env0, List.map_cons, List.map_nil, List.replicate, List.cons_append, List.nil_append, List.append_nil, List.length_append, String.reduceEq, lfs_app, Int.reduceNeg, eq_self, if_true, if_false, Bool.false_eq_true, Int.reduceLE, Int.reduceLT, Int.reduceEq, Int.reduceSub, Int.reduceAdd, Int.reduceMul]
      | none => simp (dsimp := false) (implicitDefEqProofs := false) only [optD, SXA, Bool.and_true, Bool.true_and, Bool.and_false, Bool.false_and, Bool.or_true, Bool.true_or, Bool.or_false, Bool.false_or, Bool.not_true, Bool.not_false, List.length_cons, List.length_nil, Nat.zero_add, Nat.reduceAdd, Nat.reduceSub, Nat.reduceLeDiff, Nat.reduceMul, decide_true, decide_false, env0, List.map_cons, List.map_nil, List.replicate, List.cons_append, List.nil_append, List.append_nil, List.length_append, String.reduceEq, lfs_app, Int.reduceNeg, eq_self, if_true, if_false, Bool.false_eq_true, Int.reduceLE, Int.reduceLT, Int.reduceEq, Int.reduceSub, Int.reduceAdd, Int.reduceMul]
theorem why_not_bad1 {ts : List Th} {r : Room} (hm : msIn ts) (ks : List Tie) (hr : roomOkB ts r = false) (o : Room) : F_why_not.run [houD ts ks, roomD r, roomD o] none = .ex ⟨"BadRoom", []⟩ none := by
  have h1 := need_room_ok hm ks r
  rw [hr, if_neg (by decide)] at h1
  simp (dsimp := false) (implicitDefEqProofs := false) only [F_why_not, m_why_not, callFn_f (fn := F_need_room) rfl, h1, SXA, Bool.and_true, Bool.true_and, Bool.and_false, Bool.false_and, Bool.or_true, Bool.true_or, Bool.or_false, Bool.false_or, Bool.not_true, Bool.not_false, List.length_cons, List.length_nil, Nat.zero_add, Nat.reduceAdd, Nat.reduceSub, Nat.reduceLeDiff, Nat.reduceMul, decide_true, decide_false, env0, List.map_cons, List.map_nil, List.replicate, List.cons_append, List.nil_append, List.append_nil, List.length_append, String.reduceEq, lfs_app, Int.reduceNeg, eq_self, if_true, if_false, Bool.false_eq_true, Int.reduceLE, Int.reduceLT, Int.reduceEq, Int.reduceSub, Int.reduceAdd, Int.reduceMul]
theorem why_not_bad2 {ts : List Th} {r o : Room} (hm : msIn ts) (ks : List Tie) (hr : roomOkB ts r = true) (ho : roomOkB ts o = false) : F_why_not.run [houD ts ks, roomD r, roomD o] none = .ex ⟨"BadRoom", []⟩ none := by
  have h1 := need_room_ok hm ks r
  rw [hr, if_pos rfl] at h1
  have h2 := need_room_ok hm ks o
  rw [ho, if_neg (by decide)] at h2
  simp (dsimp := false) (implicitDefEqProofs := false) only [F_why_not, m_why_not, callFn_f (fn := F_need_room) rfl, h1, h2, SXA, Bool.and_true, Bool.true_and, Bool.and_false, Bool.false_and, Bool.or_true, Bool.true_or, Bool.or_false, Bool.false_or, Bool.not_true, Bool.not_false, List.length_cons, List.length_nil, Nat.zero_add, Nat.reduceAdd, Nat.reduceSub, Nat.reduceLeDiff, Nat.reduceMul, decide_true, decide_false, env0, List.map_cons, List.map_nil, List.replicate, List.cons_append, List.nil_append, List.append_nil, List.length_append, String.reduceEq, lfs_app, Int.reduceNeg, eq_self, if_true, if_false, Bool.false_eq_true, Int.reduceLE, Int.reduceLT, Int.reduceEq, Int.reduceSub, Int.reduceAdd, Int.reduceMul]
end TH

set_option Elab.async false
set_option linter.all false
set_option maxRecDepth 100000
set_option maxHeartbeats 4000000
/-! KN: the law's own nexts, room, other, why. -/
namespace TH
open PySem PySem.Spec PyProof.Rows L2

theorem eq_rooms_nil (l : List Room) : eqD (.lst (l.map roomD)) (.lst []) = some (decide (l = [])) := eq_rooms l []
theorem at_rooms {l : List Room} {i : Nat} {r : Room} (h : l[i]? = some r) : atI (l.map roomD) (i : Int) = some (roomD r) := by
  rw [atI_nat, List.getElem?_map, h]; rfl
theorem good_mem {ts : List Th} {ks : List Tie} {r : Room} (h : r ∈ goodRooms ts ks) : roomOkB ts r = true := allRooms_ok (List.mem_filter.mp h).1
theorem good_len {ts : List Th} (hm : msIn ts) (h3 : ts.length ≤ 3) (ks : List Tie) : (goodRooms ts ks).length ≤ 3375 := Nat.le_trans (List.length_filter_le _ _) (rooms_len hm h3)
theorem law_room_ok {ts : List Th} {ks : List Tie} (hm : msIn ts) (h3 : ts.length ≤ 3) (h : ∀ k ∈ ks, tieIn ts.length k) (hz : ks.length ≤ 1000) {l : List D} (hl : RowL l) :
    ∃ r l2, F_law_room.run [.lst (ts.map thD), .lst (ks.map tieD)] (some l) = .ok (roomD r) (some l2) ∧ roomOkB ts r = true ∧ RowL l2 := by
  have hr := law_rooms_ok hm h3 h hz
  have hlen := good_len hm h3 ks
  simp (dsimp := false) (implicitDefEqProofs := false) only [F_law_room, m_law_room, callFn_f (fn := F_law_rooms) rfl, hr, eq_rooms_nil, SXA, Bool.and_true, Bool.true_and, Bool.and_false, Bool.false_and, Bool.or_true, Bool.true_or, Bool.or_false, Bool.false_or, Bool.not_true, Bool.not_false, List.length_cons, List.length_nil, Nat.zero_add, Nat.reduceAdd, Nat.reduceSub, Nat.reduceLeDiff, Nat.reduceMul, decide_true, decide_false, env0, List.map_cons, List.map_nil, List.replicate, List.cons_append, List.nil_append, List.append_nil, List.length_append, String.reduceEq, lfs_app, Int.reduceNeg, eq_self, if_true, if_false, Bool.false_eq_true, Int.reduceLE, Int.reduceLT, Int.reduceEq, Int.reduceSub, Int.reduceAdd, Int.reduceMul]
  by_cases hn : goodRooms ts ks = []
  · obtain ⟨r, l2, e2, hok, hl2⟩ := any_ok hm h3 hl
    simp (dsimp := false) (implicitDefEqProofs := false) only [hn, callFn_t (fn := F_law_any) rfl, e2, SXA, Bool.and_true, Bool.true_and, Bool.and_false, Bool.false_and, Bool.or_true, Bool.true_or, Bool.or_false, Bool.false_or, Bool.not_true, Bool.not_false, List.length_cons, List.length_nil, Nat.zero_add, Nat.reduceAdd, Nat.reduceSub, Nat.reduceLeDiff, Nat.reduceMul, decide_true, decide_false, env0, List.map_cons, List.map_nil, List.replicate, List.cons_append, List.nil_append, List.append_nil, List.length_append, String.reduceEq, lfs_app, Int.reduceNeg, eq_self, if_true, if_false, Bool.false_eq_true, Int.reduceLE, Int.reduceLT, Int.reduceEq, Int.reduceSub, Int.reduceAdd, Int.reduceMul]
    exact ⟨r, l2, rfl, hok, hl2⟩
  · obtain ⟨v, l2, e2, hv, hl2⟩ := taken_ok hl (m := 4) (by omega)
    simp (dsimp := false) (implicitDefEqProofs := false) only [hn, callFn_t (fn := F_law_taken) rfl, e2, SXA, Bool.and_true, Bool.true_and, Bool.and_false, Bool.false_and, Bool.or_true, Bool.true_or, Bool.or_false, Bool.false_or, Bool.not_true, Bool.not_false, List.length_cons, List.length_nil, Nat.zero_add, Nat.reduceAdd, Nat.reduceSub, Nat.reduceLeDiff, Nat.reduceMul, decide_true, decide_false, env0, List.map_cons, List.map_nil, List.replicate, List.cons_append, List.nil_append, List.append_nil, List.length_append, String.reduceEq, lfs_app, Int.reduceNeg, eq_self, if_true, if_false, Bool.false_eq_true, Int.reduceLE, Int.reduceLT, Int.reduceEq, Int.reduceSub, Int.reduceAdd, Int.reduceMul]
    by_cases hv0 : 0 < v
    · have hp : 0 < (goodRooms ts ks).length := List.length_pos_iff.mpr hn
      obtain ⟨v3, l3, e3, hv3, hl3⟩ := taken_ok hl2 (m := ((goodRooms ts ks).length : Int)) (by omega)
      obtain ⟨i, rfl⟩ := Int.eq_ofNat_of_zero_le hv3.1
      obtain ⟨r, hri⟩ : ∃ r, (goodRooms ts ks)[i]? = some r := ⟨_, List.getElem?_eq_getElem (by omega)⟩
      have hx := at_rooms hri
      simp (dsimp := false) (implicitDefEqProofs := false) only [hv0, callFn_t (fn := F_law_taken) rfl, List.length_map, e3, hx, lfs_rooms, lf_roomD, SXA, Bool.and_true, Bool.true_and, Bool.and_false, Bool.false_and, Bool.or_true, Bool.true_or, Bool.or_false, Bool.false_or, Bool.not_true, Bool.not_false, List.length_cons, List.length_nil, Nat.zero_add, Nat.reduceAdd, Nat.reduceSub, Nat.reduceLeDiff, Nat.reduceMul, decide_true, decide_false, env0, List.map_cons, List.map_nil, List.replicate, List.cons_append, List.nil_append, List.append_nil, List.length_append, String.reduceEq, lfs_app, Int.reduceNeg, eq_self, if_true, if_false, Bool.false_eq_true, Int.reduceLE, Int.reduceLT, Int.reduceEq, Int.reduceSub, Int.reduceAdd, Int.reduceMul]
      exact ⟨r, l3, rfl, good_mem (List.mem_of_getElem? hri), hl3⟩
    · obtain ⟨r, l3, e3, hok, hl3⟩ := any_ok hm h3 hl2
      simp (dsimp := false) (implicitDefEqProofs := false) only [hv0, callFn_t (fn := F_law_any) rfl, e3, SXA, Bool.and_true, Bool.true_and, Bool.and_false, Bool.false_and, Bool.or_true, Bool.true_or, Bool.or_false, Bool.false_or, Bool.not_true, Bool.not_false, List.length_cons, List.length_nil, Nat.zero_add, Nat.reduceAdd, Nat.reduceSub, Nat.reduceLeDiff, Nat.reduceMul, decide_true, decide_false, env0, List.map_cons, List.map_nil, List.replicate, List.cons_append, List.nil_append, List.append_nil, List.length_append, String.reduceEq, lfs_app, Int.reduceNeg, eq_self, if_true, if_false, Bool.false_eq_true, Int.reduceLE, Int.reduceLT, Int.reduceEq, Int.reduceSub, Int.reduceAdd, Int.reduceMul]
      exact ⟨r, l3, rfl, hok, hl3⟩
theorem nextL_drop {ts : List Th} {r : Room} {m : Nat} (h : m < r.length) : (nextL ts r).drop m = nextS (kS ts m) (sp0 r m) :: (nextL ts r).drop (m + 1) := by
  have hl : m < (nextL ts r).length := by unfold nextL; rw [List.length_map, List.length_range]; exact h
  rw [List.drop_eq_getElem_cons hl]
  congr 1
  have q : (nextL ts r)[m]? = some (nextS (kS ts m) (sp0 r m)) := by
    unfold nextL
    rw [List.getElem?_map, List.getElem?_range h]; rfl
  rw [List.getElem?_eq_getElem hl] at q
  exact Option.some.inj q
theorem law_nexts_ok {ts : List Th} {ks : List Tie} (hm : msIn ts) (h3 : ts.length ≤ 3) (h : ∀ k ∈ ks, tieIn ts.length k) (hz : ks.length ≤ 1000) {r : Room} (hr : roomOkB ts r = true) : F_law_nexts.run [.lst (ts.map thD), .lst (ks.map tieD), roomD r] none = .ok (.lst ((goodNext ts ks r).map roomD)) none := by
  have lr := roomOk_len hr
  have hll : (nextL ts r).length = ts.length := by unfold nextL; rw [List.length_map, List.length_range, lr]
  obtain ⟨l3, l15⟩ := nextL_len hm h3 hr
  show F_law_nexts.run [.lst (ts.map thD), .lst (ks.map tieD), .tup (r.map spotD)] none = _
  simp (dsimp := false) (implicitDefEqProofs := false) only [F_law_nexts, m_law_nexts, List.length_map, range1 (n := (ts.length : Int)) (k := ts.length) rfl (by omega), SXA, Bool.and_true, Bool.true_and, Bool.and_false, Bool.false_and, Bool.or_true, Bool.true_or, Bool.or_false, Bool.false_or, Bool.not_true, Bool.not_false, List.length_cons, List.length_nil, Nat.zero_add, Nat.reduceAdd, Nat.reduceSub, Nat.reduceLeDiff, Nat.reduceMul, decide_true, decide_false, env0, List.map_cons, List.map_nil, List.replicate, List.cons_append, List.nil_append, List.append_nil, List.length_append, String.reduceEq, lfs_app, Int.reduceNeg, eq_self, if_true, if_false, Bool.false_eq_true, Int.reduceLE, Int.reduceLT, Int.reduceEq, Int.reduceSub, Int.reduceAdd, Int.reduceMul]
  generalize hF : forW _ _ _ _ _ = F
  refine for_range_e (fun m S rr => rr = none ∧ ∃ acc o4 o5 o6 o7 o8 o9, S = [some (.lst (ts.map thD)), some (.lst (ks.map tieD)), some (.tup (r.map spotD)), some (.lst (acc.map roomD)), o4, o5, o6, o7, o8, o9] ∧ roomsFrom ((nextL ts r).drop m) acc = roomsFrom (nextL ts r) [[]] ∧ growOk acc (ts.length - m)) hF rfl ⟨rfl, [[]], _, _, _, _, _, _, rfl, rfl, grow0 h3⟩ ?_ ?_
  · rintro m hmt S rr ⟨rfl, acc, o4, o5, o6, o7, o8, o9, rfl, e, hg⟩
    have h2 : ts[m]? = some ts[m] := List.getElem?_eq_getElem hmt
    obtain ⟨q1, q3⟩ := hm ts[m] (List.getElem_mem hmt)
    have hs := law_spots_ok ts[m].ms q1 q3
    have hmem := sp0_mem hr (i := m) hmt
    have a1 := atI_sp (r := r) (i := m) (by omega)
    have a3 := at_thing h2
    rw [nextL_drop (by omega), roomsFrom_cons] at e
    rw [kS_at h2] at e hmem
    have hl15 := next_len ts[m].ms.length q3 (sp0 r m)
    have hg' : growOk acc ((ts.length - (m + 1)) + 1) := by rwa [show ts.length - m = (ts.length - (m + 1)) + 1 by omega] at hg
    refine ⟨_, rfl, ?_⟩
    simp (dsimp := false) (implicitDefEqProofs := false) only [natD, a3, lfs_things, lfs_intsL, callFn_f (fn := F_law_spots) rfl, hs, SXA, Bool.and_true, Bool.true_and, Bool.and_false, Bool.false_and, Bool.or_true, Bool.true_or, Bool.or_false, Bool.false_or, Bool.not_true, Bool.not_false, List.length_cons, List.length_nil, Nat.zero_add, Nat.reduceAdd, Nat.reduceSub, Nat.reduceLeDiff, Nat.reduceMul, decide_true, decide_false, env0, List.map_cons, List.map_nil, List.replicate, List.cons_append, List.nil_append, List.append_nil, List.length_append, String.reduceEq, lfs_app, Int.reduceNeg, eq_self, if_true, if_false, Bool.false_eq_true, Int.reduceLE, Int.reduceLT, Int.reduceEq, Int.reduceSub, Int.reduceAdd, Int.reduceMul]
    rw [lc_map (spotsS ts[m].ms.length) spotD (mayS (sp0 r m)) spotD rfl (by have := spotsS_len ts[m].ms.length q3; omega)]
    rotate_left
    · intro q hq
      have hmay := law_may_ok hmem hq q3 q3
      refine ⟨_, rfl, ?_, fun _ => ?_⟩
      · simp (dsimp := false) (implicitDefEqProofs := false) only [a1, lfs_spots, callFn_f (fn := F_law_may) rfl, hmay, SXA, Bool.and_true, Bool.true_and, Bool.and_false, Bool.false_and, Bool.or_true, Bool.true_or, Bool.or_false, Bool.false_or, Bool.not_true, Bool.not_false, List.length_cons, List.length_nil, Nat.zero_add, Nat.reduceAdd, Nat.reduceSub, Nat.reduceLeDiff, Nat.reduceMul, decide_true, decide_false, env0, List.map_cons, List.map_nil, List.replicate, List.cons_append, List.nil_append, List.append_nil, List.length_append, String.reduceEq, lfs_app, Int.reduceNeg, eq_self, if_true, if_false, Bool.false_eq_true, Int.reduceLE, Int.reduceLT, Int.reduceEq, Int.reduceSub, Int.reduceAdd, Int.reduceMul]
      · simp (dsimp := false) (implicitDefEqProofs := false) only [elf_spotD, lf_spotD, SXA, Bool.and_true, Bool.true_and, Bool.and_false, Bool.false_and, Bool.or_true, Bool.true_or, Bool.or_false, Bool.false_or, Bool.not_true, Bool.not_false, List.length_cons, List.length_nil, Nat.zero_add, Nat.reduceAdd, Nat.reduceSub, Nat.reduceLeDiff, Nat.reduceMul, decide_true, decide_false, env0, List.map_cons, List.map_nil, List.replicate, List.cons_append, List.nil_append, List.append_nil, List.length_append, String.reduceEq, lfs_app, Int.reduceNeg, eq_self, if_true, if_false, Bool.false_eq_true, Int.reduceLE, Int.reduceLT, Int.reduceEq, Int.reduceSub, Int.reduceAdd, Int.reduceMul]
        exact ⟨false, rfl, trivial⟩
    have hsome : (spotsS ts[m].ms.length).filter (mayS (sp0 r m)) = nextS ts[m].ms.length (sp0 r m) := rfl
    rw [hsome]
    generalize nextS ts[m].ms.length (sp0 r m) = some' at e hl15 ⊢
    simp (dsimp := false) (implicitDefEqProofs := false) only [SXA, Bool.and_true, Bool.true_and, Bool.and_false, Bool.false_and, Bool.or_true, Bool.true_or, Bool.or_false, Bool.false_or, Bool.not_true, Bool.not_false, List.length_cons, List.length_nil, Nat.zero_add, Nat.reduceAdd, Nat.reduceSub, Nat.reduceLeDiff, Nat.reduceMul, decide_true, decide_false, env0, List.map_cons, List.map_nil, List.replicate, List.cons_append, List.nil_append, List.append_nil, List.length_append, String.reduceEq, lfs_app, Int.reduceNeg, eq_self, if_true, if_false, Bool.false_eq_true, Int.reduceLE, Int.reduceLT, Int.reduceEq, Int.reduceSub, Int.reduceAdd, Int.reduceMul]
    generalize hG : forW _ _ _ _ _ = G
    refine for_inv_e (items := acc) (emb := roomD) (fun rest' S rr => rr = none ∧ ∃ pre o7 o8 o9, pre ++ rest' = acc ∧ S = [some (.lst (ts.map thD)), some (.lst (ks.map tieD)), some (.tup (r.map spotD)), some (.lst (acc.map roomD)), some (.int m), some (.lst (some'.map spotD)), some (.lst ((longer pre some').map roomD)), o7, o8, o9]) hG rfl ⟨rfl, [], _, _, _, rfl, rfl⟩ ?_ ?_
    · rintro one rest' S rr ⟨rfl, pre, o7, o8, o9, hp, rfl⟩
      have hone : one ∈ acc := by rw [← hp]; simp
      have hlen := hg.2.2 one hone
      have hmax := grow_max hg
      have hpl : pre.length ≤ acc.length := by rw [← hp, List.length_append]; omega
      have hll := longer_len pre some'
      have hmul : pre.length * some'.length ≤ 3375 * 15 := Nat.mul_le_mul (by omega) hl15
      refine ⟨_, rfl, ?_⟩
      simp (dsimp := false) (implicitDefEqProofs := false) only [SXA, Bool.and_true, Bool.true_and, Bool.and_false, Bool.false_and, Bool.or_true, Bool.true_or, Bool.or_false, Bool.false_or, Bool.not_true, Bool.not_false, List.length_cons, List.length_nil, Nat.zero_add, Nat.reduceAdd, Nat.reduceSub, Nat.reduceLeDiff, Nat.reduceMul, decide_true, decide_false, env0, List.map_cons, List.map_nil, List.replicate, List.cons_append, List.nil_append, List.append_nil, List.length_append, String.reduceEq, lfs_app, Int.reduceNeg, eq_self, if_true, if_false, Bool.false_eq_true, Int.reduceLE, Int.reduceLT, Int.reduceEq, Int.reduceSub, Int.reduceAdd, Int.reduceMul]
      rw [lc_all some' spotD (fun s => roomD (one ++ [s])) rfl (by omega)]
      · simp (dsimp := false) (implicitDefEqProofs := false) only [SXA, Bool.and_true, Bool.true_and, Bool.and_false, Bool.false_and, Bool.or_true, Bool.true_or, Bool.or_false, Bool.false_or, Bool.not_true, Bool.not_false, List.length_cons, List.length_nil, Nat.zero_add, Nat.reduceAdd, Nat.reduceSub, Nat.reduceLeDiff, Nat.reduceMul, decide_true, decide_false, env0, List.map_cons, List.map_nil, List.replicate, List.cons_append, List.nil_append, List.append_nil, List.length_append, String.reduceEq, lfs_app, Int.reduceNeg, eq_self, if_true, if_false, Bool.false_eq_true, Int.reduceLE, Int.reduceLT, Int.reduceEq, Int.reduceSub, Int.reduceAdd, Int.reduceMul]
        rw [List.length_map, List.length_map, sz_t (by omega)]
        simp (dsimp := false) (implicitDefEqProofs := false) only [SXA, Bool.and_true, Bool.true_and, Bool.and_false, Bool.false_and, Bool.or_true, Bool.true_or, Bool.or_false, Bool.false_or, Bool.not_true, Bool.not_false, List.length_cons, List.length_nil, Nat.zero_add, Nat.reduceAdd, Nat.reduceSub, Nat.reduceLeDiff, Nat.reduceMul, decide_true, decide_false, env0, List.map_cons, List.map_nil, List.replicate, List.cons_append, List.nil_append, List.append_nil, List.length_append, String.reduceEq, lfs_app, Int.reduceNeg, eq_self, if_true, if_false, Bool.false_eq_true, Int.reduceLE, Int.reduceLT, Int.reduceEq, Int.reduceSub, Int.reduceAdd, Int.reduceMul]
        have e3 : longer (pre ++ [one]) some' = longer pre some' ++ (some'.map fun s => one ++ [s]) := by
          unfold longer
          rw [List.flatMap_append]
          simp
        have e4 : (longer pre some').map roomD ++ some'.map (fun s => roomD (one ++ [s])) = (longer (pre ++ [one]) some').map roomD := by
          rw [e3, List.map_append, List.map_map]
          rfl
        rw [e4]
        exact nxt_nx ⟨rfl, pre ++ [one], _, _, _, by rw [List.append_assoc]; exact hp, rfl⟩
      · intro s hs
        refine ⟨_, rfl, rfl, ?_⟩
        have hz : sz (one.length + 1) = true := sz_t (by omega)
        unfold roomD
        simp (dsimp := false) (implicitDefEqProofs := false) only [List.length_map, hz, SXA, Bool.and_true, Bool.true_and, Bool.and_false, Bool.false_and, Bool.or_true, Bool.true_or, Bool.or_false, Bool.false_or, Bool.not_true, Bool.not_false, List.length_cons, List.length_nil, Nat.zero_add, Nat.reduceAdd, Nat.reduceSub, Nat.reduceLeDiff, Nat.reduceMul, decide_true, decide_false, env0, List.map_cons, List.map_nil, List.replicate, List.cons_append, List.nil_append, List.append_nil, List.length_append, String.reduceEq, lfs_app, Int.reduceNeg, eq_self, if_true, if_false, Bool.false_eq_true, Int.reduceLE, Int.reduceLT, Int.reduceEq, Int.reduceSub, Int.reduceAdd, Int.reduceMul]
        rw [List.map_append]
        refine ⟨_, rfl, ?_⟩
        rw [lfs_spots]
        rfl
    · rintro S2 r2 rfl ⟨rfl, pre, o7, o8, o9, hp, rfl⟩
      rw [List.append_nil] at hp
      subst hp
      simp (dsimp := false) (implicitDefEqProofs := false) only [SXA, Bool.and_true, Bool.true_and, Bool.and_false, Bool.false_and, Bool.or_true, Bool.true_or, Bool.or_false, Bool.false_or, Bool.not_true, Bool.not_false, List.length_cons, List.length_nil, Nat.zero_add, Nat.reduceAdd, Nat.reduceSub, Nat.reduceLeDiff, Nat.reduceMul, decide_true, decide_false, env0, List.map_cons, List.map_nil, List.replicate, List.cons_append, List.nil_append, List.append_nil, List.length_append, String.reduceEq, lfs_app, Int.reduceNeg, eq_self, if_true, if_false, Bool.false_eq_true, Int.reduceLE, Int.reduceLT, Int.reduceEq, Int.reduceSub, Int.reduceAdd, Int.reduceMul]
      exact nxt_nx ⟨rfl, longer pre some', _, _, _, _, _, _, rfl, e, grow_step hg' hl15⟩
  · rintro S2 r2 rfl ⟨rfl, acc, o4, o5, o6, o7, o8, o9, rfl, e, hg⟩
    rw [List.drop_of_length_le (by omega)] at e
    have e' : acc = roomsFrom (nextL ts r) [[]] := e
    subst e'
    have hlen := grow_max hg
    simp (dsimp := false) (implicitDefEqProofs := false) only [SXA, Bool.and_true, Bool.true_and, Bool.and_false, Bool.false_and, Bool.or_true, Bool.true_or, Bool.or_false, Bool.false_or, Bool.not_true, Bool.not_false, List.length_cons, List.length_nil, Nat.zero_add, Nat.reduceAdd, Nat.reduceSub, Nat.reduceLeDiff, Nat.reduceMul, decide_true, decide_false, env0, List.map_cons, List.map_nil, List.replicate, List.cons_append, List.nil_append, List.append_nil, List.length_append, String.reduceEq, lfs_app, Int.reduceNeg, eq_self, if_true, if_false, Bool.false_eq_true, Int.reduceLE, Int.reduceLT, Int.reduceEq, Int.reduceSub, Int.reduceAdd, Int.reduceMul]
    rw [lc_map (roomsFrom (nextL ts r) [[]]) roomD (fun o => !(decide (o = r)) && (firstS ks o).isNone) roomD rfl (by omega)]
    · simp (dsimp := false) (implicitDefEqProofs := false) only [SXA, Bool.and_true, Bool.true_and, Bool.and_false, Bool.false_and, Bool.or_true, Bool.true_or, Bool.or_false, Bool.false_or, Bool.not_true, Bool.not_false, List.length_cons, List.length_nil, Nat.zero_add, Nat.reduceAdd, Nat.reduceSub, Nat.reduceLeDiff, Nat.reduceMul, decide_true, decide_false, env0, List.map_cons, List.map_nil, List.replicate, List.cons_append, List.nil_append, List.append_nil, List.length_append, String.reduceEq, lfs_app, Int.reduceNeg, eq_self, if_true, if_false, Bool.false_eq_true, Int.reduceLE, Int.reduceLT, Int.reduceEq, Int.reduceSub, Int.reduceAdd, Int.reduceMul]
      unfold goodNext
      rw [List.filter_filter]
      congr 4
      funext o
      rw [Bool.and_comm]
    · intro o ho
      have hok := nextL_room hr ho
      have hl := roomOk_len hok
      have h2 := law_first_ok (ks := ks) (fun k hk => by rw [hl]; exact h k hk) (roomOk_tr hok) hz
      have e2 : eqD (roomD o) (.tup (r.map spotD)) = some (decide (o = r)) := eq_room o r
      refine ⟨_, rfl, ?_, fun _ => ?_⟩
      · by_cases hor : o = r
        · simp (dsimp := false) (implicitDefEqProofs := false) only [e2, decide_eq_true hor, SXA, Bool.and_true, Bool.true_and, Bool.and_false, Bool.false_and, Bool.or_true, Bool.true_or, Bool.or_false, Bool.false_or, Bool.not_true, Bool.not_false, List.length_cons, List.length_nil, Nat.zero_add, Nat.reduceAdd, Nat.reduceSub, Nat.reduceLeDiff, Nat.reduceMul, decide_true, decide_false, env0, List.map_cons, List.map_nil, List.replicate, List.cons_append, List.nil_append, List.append_nil, List.length_append, String.reduceEq, lfs_app, Int.reduceNeg, eq_self, if_true, if_false, Bool.false_eq_true, Int.reduceLE, Int.reduceLT, Int.reduceEq, Int.reduceSub, Int.reduceAdd, Int.reduceMul]
        · simp (dsimp := false) (implicitDefEqProofs := false) only [e2, decide_eq_false hor, callFn_f (fn := F_law_first) rfl, h2, isNon_opt, SXA, Bool.and_true, Bool.true_and, Bool.and_false, Bool.false_and, Bool.or_true, Bool.true_or, Bool.or_false, Bool.false_or, Bool.not_true, Bool.not_false, List.length_cons, List.length_nil, Nat.zero_add, Nat.reduceAdd, Nat.reduceSub, Nat.reduceLeDiff, Nat.reduceMul, decide_true, decide_false, env0, List.map_cons, List.map_nil, List.replicate, List.cons_append, List.nil_append, List.append_nil, List.length_append, String.reduceEq, lfs_app, Int.reduceNeg, eq_self, if_true, if_false, Bool.false_eq_true, Int.reduceLE, Int.reduceLT, Int.reduceEq, Int.reduceSub, Int.reduceAdd, Int.reduceMul]
      · simp (dsimp := false) (implicitDefEqProofs := false) only [lf_roomD, SXA, Bool.and_true, Bool.true_and, Bool.and_false, Bool.false_and, Bool.or_true, Bool.true_or, Bool.or_false, Bool.false_or, Bool.not_true, Bool.not_false, List.length_cons, List.length_nil, Nat.zero_add, Nat.reduceAdd, Nat.reduceSub, Nat.reduceLeDiff, Nat.reduceMul, decide_true, decide_false, env0, List.map_cons, List.map_nil, List.replicate, List.cons_append, List.nil_append, List.append_nil, List.length_append, String.reduceEq, lfs_app, Int.reduceNeg, eq_self, if_true, if_false, Bool.false_eq_true, Int.reduceLE, Int.reduceLT, Int.reduceEq, Int.reduceSub, Int.reduceAdd, Int.reduceMul]
        exact ⟨_, rfl, trivial⟩

theorem good_next_room {ts : List Th} {ks : List Tie} {r o : Room} (hr : roomOkB ts r = true) (h : o ∈ goodNext ts ks r) : roomOkB ts o = true := nextL_room hr (List.mem_filter.mp (List.mem_filter.mp h).1).1
theorem good_next_len {ts : List Th} (hm : msIn ts) (h3 : ts.length ≤ 3) (ks : List Tie) {r : Room} (hr : roomOkB ts r = true) : (goodNext ts ks r).length ≤ 3375 := by
  obtain ⟨l3, l15⟩ := nextL_len hm h3 hr
  have hlen : (roomsFrom (nextL ts r) [[]]).length ≤ 3375 := grow_max (grow_from (n := 0) (grow0 l3) l15)
  unfold goodNext
  exact Nat.le_trans (List.length_filter_le _ _) (Nat.le_trans (List.length_filter_le _ _) hlen)
theorem law_other_ok {ts : List Th} {ks : List Tie} (hm : msIn ts) (h3 : ts.length ≤ 3) (h : ∀ k ∈ ks, tieIn ts.length k) (hz : ks.length ≤ 1000) {r : Room} (hr : roomOkB ts r = true) {due : List Room} (hd : ∀ o ∈ due, roomOkB ts o = true) {l : List D} (hl : RowL l) :
    ∃ o l2, F_law_other.run [.lst (ts.map thD), .lst (ks.map tieD), roomD r, .lst (due.map roomD)] (some l) = .ok (roomD o) (some l2) ∧ roomOkB ts o = true ∧ RowL l2 := by
  have lr := roomOk_len hr
  obtain ⟨w, l2, e2, hw, hl2⟩ := taken_ok hl (m := 5) (by omega)
  have hcs : w = 0 ∨ w = 1 ∨ w = 2 ∨ w = 3 ∨ w = 4 := by omega
  have last : ∀ w', w' = 4 ∨ (w' = 0 ∧ due = []) → ∃ o l3, outB (sSeq [(sSetO 6 (eLst [])), (sFor (tg1 7) (iA rng1 [(eB1 lenD (eV 1))]) [(sSet 8 (eLc [9] (tg1 9) (iP (eCall F_law_spots [(eIx (eIx (eV 1) (eV 7)) (eK (.int 1)))])) (tX (eCall F_law_may [(eIx (eV 3) (eV 7)), (eV 9)])) (eV 9))), (sMut appF 6 [(eIx (eV 8) (eCall F_law_taken [eIo, (eB1 lenD (eV 8))]))])]), (sRet (eB1 tupD (eO 6)))] [none, some (.lst (ts.map thD)), some (.lst (ks.map tieD)), some (roomD r), some (.lst (due.map roomD)), some (.int w'), none, none, none, none] (some l2)) = .ok (roomD o) (some l3) ∧ roomOkB ts o = true ∧ RowL l3 := by
    intro w' _
    simp (dsimp := false) (implicitDefEqProofs := false) only [List.length_map, range1 (n := (ts.length : Int)) (k := ts.length) rfl (by omega), SXA, Bool.and_true, Bool.true_and, Bool.and_false, Bool.false_and, Bool.or_true, Bool.true_or, Bool.or_false, Bool.false_or, Bool.not_true, Bool.not_false, List.length_cons, List.length_nil, Nat.zero_add, Nat.reduceAdd, Nat.reduceSub, Nat.reduceLeDiff, Nat.reduceMul, decide_true, decide_false, env0, List.map_cons, List.map_nil, List.replicate, List.cons_append, List.nil_append, List.append_nil, List.length_append, String.reduceEq, lfs_app, Int.reduceNeg, eq_self, if_true, if_false, Bool.false_eq_true, Int.reduceLE, Int.reduceLT, Int.reduceEq, Int.reduceSub, Int.reduceAdd, Int.reduceMul]
    generalize hF : forW _ _ _ _ _ = F
    refine for_range_e (fun m S rr => ∃ l x o7 o8 o9, rr = some l ∧ RowL l ∧ S = [none, some (.lst (ts.map thD)), some (.lst (ks.map tieD)), some (roomD r), some (.lst (due.map roomD)), some (.int w'), some (.lst (x.map spotD)), o7, o8, o9] ∧ x.length = m ∧ ∀ (i : Nat) (s : Spot) (t : Th), x[i]? = some s → ts[i]? = some t → s ∈ spotsS t.ms.length) hF rfl ⟨l2, [], _, _, _, rfl, hl2, rfl, rfl, by intro i s t hs; simp at hs⟩ ?_ ?_
    · rintro m hmt S rr ⟨l, x, o7, o8, o9, rfl, hl, rfl, hxl, hx⟩
      have h2 : ts[m]? = some ts[m] := List.getElem?_eq_getElem hmt
      obtain ⟨q1, q3⟩ := hm ts[m] (List.getElem_mem hmt)
      have hs := law_spots_ok ts[m].ms q1 q3
      have hmem := sp0_mem hr (i := m) hmt
      rw [kS_at h2] at hmem
      have a1 := atI_sp (r := r) (i := m) (by omega)
      have a3 := at_thing h2
      refine ⟨_, rfl, ?_⟩
      unfold roomD
      simp (dsimp := false) (implicitDefEqProofs := false) only [natD, a3, lfs_things, lfs_intsL, callFn_f (fn := F_law_spots) rfl, hs, SXA, Bool.and_true, Bool.true_and, Bool.and_false, Bool.false_and, Bool.or_true, Bool.true_or, Bool.or_false, Bool.false_or, Bool.not_true, Bool.not_false, List.length_cons, List.length_nil, Nat.zero_add, Nat.reduceAdd, Nat.reduceSub, Nat.reduceLeDiff, Nat.reduceMul, decide_true, decide_false, env0, List.map_cons, List.map_nil, List.replicate, List.cons_append, List.nil_append, List.append_nil, List.length_append, String.reduceEq, lfs_app, Int.reduceNeg, eq_self, if_true, if_false, Bool.false_eq_true, Int.reduceLE, Int.reduceLT, Int.reduceEq, Int.reduceSub, Int.reduceAdd, Int.reduceMul]
      rw [lc_map (spotsS ts[m].ms.length) spotD (mayS (sp0 r m)) spotD rfl (by have := spotsS_len ts[m].ms.length q3; omega)]
      rotate_left
      · intro q hq
        have hmay := law_may_ok hmem hq q3 q3
        refine ⟨_, rfl, ?_, fun _ => ?_⟩
        · simp (dsimp := false) (implicitDefEqProofs := false) only [a1, lfs_spots, callFn_f (fn := F_law_may) rfl, hmay, SXA, Bool.and_true, Bool.true_and, Bool.and_false, Bool.false_and, Bool.or_true, Bool.true_or, Bool.or_false, Bool.false_or, Bool.not_true, Bool.not_false, List.length_cons, List.length_nil, Nat.zero_add, Nat.reduceAdd, Nat.reduceSub, Nat.reduceLeDiff, Nat.reduceMul, decide_true, decide_false, env0, List.map_cons, List.map_nil, List.replicate, List.cons_append, List.nil_append, List.append_nil, List.length_append, String.reduceEq, lfs_app, Int.reduceNeg, eq_self, if_true, if_false, Bool.false_eq_true, Int.reduceLE, Int.reduceLT, Int.reduceEq, Int.reduceSub, Int.reduceAdd, Int.reduceMul]
        · simp (dsimp := false) (implicitDefEqProofs := false) only [elf_spotD, lf_spotD, SXA, Bool.and_true, Bool.true_and, Bool.and_false, Bool.false_and, Bool.or_true, Bool.true_or, Bool.or_false, Bool.false_or, Bool.not_true, Bool.not_false, List.length_cons, List.length_nil, Nat.zero_add, Nat.reduceAdd, Nat.reduceSub, Nat.reduceLeDiff, Nat.reduceMul, decide_true, decide_false, env0, List.map_cons, List.map_nil, List.replicate, List.cons_append, List.nil_append, List.append_nil, List.length_append, String.reduceEq, lfs_app, Int.reduceNeg, eq_self, if_true, if_false, Bool.false_eq_true, Int.reduceLE, Int.reduceLT, Int.reduceEq, Int.reduceSub, Int.reduceAdd, Int.reduceMul]
          exact ⟨false, rfl, trivial⟩
      have hsome : (spotsS ts[m].ms.length).filter (mayS (sp0 r m)) = nextS ts[m].ms.length (sp0 r m) := rfl
      rw [hsome]
      have hpos : 0 < (nextS ts[m].ms.length (sp0 r m)).length := List.length_pos_of_mem (next_self hmem q3)
      obtain ⟨v, l3, e3, hv, hl3⟩ := taken_ok hl (m := ((nextS ts[m].ms.length (sp0 r m)).length : Int)) (by omega)
      obtain ⟨i, rfl⟩ := Int.eq_ofNat_of_zero_le hv.1
      obtain ⟨s, hsi⟩ : ∃ s, (nextS ts[m].ms.length (sp0 r m))[i]? = some s := ⟨_, List.getElem?_eq_getElem (show i < (nextS ts[m].ms.length (sp0 r m)).length by omega)⟩
      have hix := at_spots hsi
      have hsz : sz x.length = true := sz_t (by omega)
      simp (dsimp := false) (implicitDefEqProofs := false) only [callFn_t (fn := F_law_taken) rfl, List.length_map, e3, hix, lfs_spots, lf_spotD, hsz, SXA, Bool.and_true, Bool.true_and, Bool.and_false, Bool.false_and, Bool.or_true, Bool.true_or, Bool.or_false, Bool.false_or, Bool.not_true, Bool.not_false, List.length_cons, List.length_nil, Nat.zero_add, Nat.reduceAdd, Nat.reduceSub, Nat.reduceLeDiff, Nat.reduceMul, decide_true, decide_false, env0, List.map_cons, List.map_nil, List.replicate, List.cons_append, List.nil_append, List.append_nil, List.length_append, String.reduceEq, lfs_app, Int.reduceNeg, eq_self, if_true, if_false, Bool.false_eq_true, Int.reduceLE, Int.reduceLT, Int.reduceEq, Int.reduceSub, Int.reduceAdd, Int.reduceMul]
      have e : x.map spotD ++ [spotD s] = (x ++ [s]).map spotD := by rw [List.map_append]; rfl
      rw [e]
      refine nxt_nx ⟨l3, x ++ [s], _, _, _, rfl, hl3, rfl, by rw [List.length_append, List.length_singleton, hxl], fun j q t hj htj => ?_⟩
      by_cases hjx : j < x.length
      · rw [List.getElem?_append_left hjx] at hj
        exact hx j q t hj htj
      · rw [List.getElem?_append_right (by omega)] at hj
        have hj0 : j - x.length = 0 := by
          have := (List.getElem?_eq_some_iff.mp hj).1
          rw [List.length_singleton] at this
          omega
        rw [hj0] at hj
        cases hj
        have : j = m := by omega
        subst this
        rw [h2] at htj
        cases htj
        exact (next_mem.mp (List.mem_of_getElem? hsi)).1
    · rintro S2 r2 rfl ⟨l, x, o7, o8, o9, rfl, hl, rfl, hxl, hx⟩
      simp (dsimp := false) (implicitDefEqProofs := false) only [lfs_spots, SXA, Bool.and_true, Bool.true_and, Bool.and_false, Bool.false_and, Bool.or_true, Bool.true_or, Bool.or_false, Bool.false_or, Bool.not_true, Bool.not_false, List.length_cons, List.length_nil, Nat.zero_add, Nat.reduceAdd, Nat.reduceSub, Nat.reduceLeDiff, Nat.reduceMul, decide_true, decide_false, env0, List.map_cons, List.map_nil, List.replicate, List.cons_append, List.nil_append, List.append_nil, List.length_append, String.reduceEq, lfs_app, Int.reduceNeg, eq_self, if_true, if_false, Bool.false_eq_true, Int.reduceLE, Int.reduceLT, Int.reduceEq, Int.reduceSub, Int.reduceAdd, Int.reduceMul]
      exact ⟨x, l, rfl, roomOk_of hxl hx, hl⟩
  rcases hcs with rfl | rfl | rfl | rfl | rfl
  · by_cases hdn : due = []
    · simp (dsimp := false) (implicitDefEqProofs := false) only [F_law_other, m_law_other, callFn_t (fn := F_law_taken) rfl, e2, eq_rooms_nil, hdn, SXA, Bool.and_true, Bool.true_and, Bool.and_false, Bool.false_and, Bool.or_true, Bool.true_or, Bool.or_false, Bool.false_or, Bool.not_true, Bool.not_false, List.length_cons, List.length_nil, Nat.zero_add, Nat.reduceAdd, Nat.reduceSub, Nat.reduceLeDiff, Nat.reduceMul, decide_true, decide_false, env0, List.map_cons, List.map_nil, List.replicate, List.cons_append, List.nil_append, List.append_nil, List.length_append, String.reduceEq, lfs_app, Int.reduceNeg, eq_self, if_true, if_false, Bool.false_eq_true, Int.reduceLE, Int.reduceLT, Int.reduceEq, Int.reduceSub, Int.reduceAdd, Int.reduceMul]
      have q := last 0 (.inr ⟨rfl, hdn⟩)
      simp (dsimp := false) (implicitDefEqProofs := false) only [hdn, SXA, Bool.and_true, Bool.true_and, Bool.and_false, Bool.false_and, Bool.or_true, Bool.true_or, Bool.or_false, Bool.false_or, Bool.not_true, Bool.not_false, List.length_cons, List.length_nil, Nat.zero_add, Nat.reduceAdd, Nat.reduceSub, Nat.reduceLeDiff, Nat.reduceMul, decide_true, decide_false, env0, List.map_cons, List.map_nil, List.replicate, List.cons_append, List.nil_append, List.append_nil, List.length_append, String.reduceEq, lfs_app, Int.reduceNeg, eq_self, if_true, if_false, Bool.false_eq_true, Int.reduceLE, Int.reduceLT, Int.reduceEq, Int.reduceSub, Int.reduceAdd, Int.reduceMul] at q
      exact q
    · have hp : 0 < due.length := List.length_pos_iff.mpr hdn
      obtain ⟨v3, l3, e3, hv3, hl3⟩ := taken_ok hl2 (m := (due.length : Int)) (by omega)
      obtain ⟨i, rfl⟩ := Int.eq_ofNat_of_zero_le hv3.1
      obtain ⟨o, hoi⟩ : ∃ o, due[i]? = some o := ⟨_, List.getElem?_eq_getElem (by omega)⟩
      have hx := at_rooms hoi
      simp (dsimp := false) (implicitDefEqProofs := false) only [F_law_other, m_law_other, callFn_t (fn := F_law_taken) rfl, e2, eq_rooms_nil, hdn, List.length_map, e3, hx, lfs_rooms, lf_roomD, SXA, Bool.and_true, Bool.true_and, Bool.and_false, Bool.false_and, Bool.or_true, Bool.true_or, Bool.or_false, Bool.false_or, Bool.not_true, Bool.not_false, List.length_cons, List.length_nil, Nat.zero_add, Nat.reduceAdd, Nat.reduceSub, Nat.reduceLeDiff, Nat.reduceMul, decide_true, decide_false, env0, List.map_cons, List.map_nil, List.replicate, List.cons_append, List.nil_append, List.append_nil, List.length_append, String.reduceEq, lfs_app, Int.reduceNeg, eq_self, if_true, if_false, Bool.false_eq_true, Int.reduceLE, Int.reduceLT, Int.reduceEq, Int.reduceSub, Int.reduceAdd, Int.reduceMul]
      exact ⟨o, l3, rfl, hd o (List.mem_of_getElem? hoi), hl3⟩
  · simp (dsimp := false) (implicitDefEqProofs := false) only [F_law_other, m_law_other, callFn_t (fn := F_law_taken) rfl, e2, lf_roomD, SXA, Bool.and_true, Bool.true_and, Bool.and_false, Bool.false_and, Bool.or_true, Bool.true_or, Bool.or_false, Bool.false_or, Bool.not_true, Bool.not_false, List.length_cons, List.length_nil, Nat.zero_add, Nat.reduceAdd, Nat.reduceSub, Nat.reduceLeDiff, Nat.reduceMul, decide_true, decide_false, env0, List.map_cons, List.map_nil, List.replicate, List.cons_append, List.nil_append, List.append_nil, List.length_append, String.reduceEq, lfs_app, Int.reduceNeg, eq_self, if_true, if_false, Bool.false_eq_true, Int.reduceLE, Int.reduceLT, Int.reduceEq, Int.reduceSub, Int.reduceAdd, Int.reduceMul]
    exact ⟨r, l2, rfl, hr, hl2⟩
  · obtain ⟨o, l3, e3, hok, hl3⟩ := any_ok hm h3 hl2
    simp (dsimp := false) (implicitDefEqProofs := false) only [F_law_other, m_law_other, callFn_t (fn := F_law_taken) rfl, e2, callFn_t (fn := F_law_any) rfl, e3, SXA, Bool.and_true, Bool.true_and, Bool.and_false, Bool.false_and, Bool.or_true, Bool.true_or, Bool.or_false, Bool.false_or, Bool.not_true, Bool.not_false, List.length_cons, List.length_nil, Nat.zero_add, Nat.reduceAdd, Nat.reduceSub, Nat.reduceLeDiff, Nat.reduceMul, decide_true, decide_false, env0, List.map_cons, List.map_nil, List.replicate, List.cons_append, List.nil_append, List.append_nil, List.length_append, String.reduceEq, lfs_app, Int.reduceNeg, eq_self, if_true, if_false, Bool.false_eq_true, Int.reduceLE, Int.reduceLT, Int.reduceEq, Int.reduceSub, Int.reduceAdd, Int.reduceMul]
    exact ⟨o, l3, rfl, hok, hl3⟩
  · obtain ⟨o, l3, e3, hok, hl3⟩ := law_room_ok hm h3 h hz hl2
    simp (dsimp := false) (implicitDefEqProofs := false) only [F_law_other, m_law_other, callFn_t (fn := F_law_taken) rfl, e2, callFn_t (fn := F_law_room) rfl, e3, SXA, Bool.and_true, Bool.true_and, Bool.and_false, Bool.false_and, Bool.or_true, Bool.true_or, Bool.or_false, Bool.false_or, Bool.not_true, Bool.not_false, List.length_cons, List.length_nil, Nat.zero_add, Nat.reduceAdd, Nat.reduceSub, Nat.reduceLeDiff, Nat.reduceMul, decide_true, decide_false, env0, List.map_cons, List.map_nil, List.replicate, List.cons_append, List.nil_append, List.append_nil, List.length_append, String.reduceEq, lfs_app, Int.reduceNeg, eq_self, if_true, if_false, Bool.false_eq_true, Int.reduceLE, Int.reduceLT, Int.reduceEq, Int.reduceSub, Int.reduceAdd, Int.reduceMul]
    exact ⟨o, l3, rfl, hok, hl3⟩
  · have q := last 4 (.inl rfl)
    simp (dsimp := false) (implicitDefEqProofs := false) only [F_law_other, m_law_other, callFn_t (fn := F_law_taken) rfl, e2, SXA, Bool.and_true, Bool.true_and, Bool.and_false, Bool.false_and, Bool.or_true, Bool.true_or, Bool.or_false, Bool.false_or, Bool.not_true, Bool.not_false, List.length_cons, List.length_nil, Nat.zero_add, Nat.reduceAdd, Nat.reduceSub, Nat.reduceLeDiff, Nat.reduceMul, decide_true, decide_false, env0, List.map_cons, List.map_nil, List.replicate, List.cons_append, List.nil_append, List.append_nil, List.length_append, String.reduceEq, lfs_app, Int.reduceNeg, eq_self, if_true, if_false, Bool.false_eq_true, Int.reduceLE, Int.reduceLT, Int.reduceEq, Int.reduceSub, Int.reduceAdd, Int.reduceMul]
    simp (dsimp := false) (implicitDefEqProofs := false) only [SXA, Bool.and_true, Bool.true_and, Bool.and_false, Bool.false_and, Bool.or_true, Bool.true_or, Bool.or_false, Bool.false_or, Bool.not_true, Bool.not_false, List.length_cons, List.length_nil, Nat.zero_add, Nat.reduceAdd, Nat.reduceSub, Nat.reduceLeDiff, Nat.reduceMul, decide_true, decide_false, env0, List.map_cons, List.map_nil, List.replicate, List.cons_append, List.nil_append, List.append_nil, List.length_append, String.reduceEq, lfs_app, Int.reduceNeg, eq_self, if_true, if_false, Bool.false_eq_true, Int.reduceLE, Int.reduceLT, Int.reduceEq, Int.reduceSub, Int.reduceAdd, Int.reduceMul] at q
    exact q

theorem law_why_ok {ts : List Th} {ks : List Tie} (hm : msIn ts) (h3 : ts.length ≤ 3) (h : ∀ k ∈ ks, tieIn ts.length k) (hz : ks.length ≤ 1000) {r o : Room} (hr : roomOkB ts r = true) (ho : roomOkB ts o = true) : F_law_why.run [.lst (ks.map tieD), roomD r, roomD o] none = .ok (whyD ts ks r o) none := by
  have lr := roomOk_len hr
  have lo := roomOk_len ho
  have he := eq_room r o
  have hf := law_first_ok (ks := ks) (fun k hk => by rw [lo]; exact h k hk) (roomOk_tr ho) hz
  have hw : whyD ts ks r o = whyD ts ks r o := rfl
  unfold roomD at he hf ⊢
  simp (dsimp := false) (implicitDefEqProofs := false) only [F_law_why, m_law_why, he, SXA, Bool.and_true, Bool.true_and, Bool.and_false, Bool.false_and, Bool.or_true, Bool.true_or, Bool.or_false, Bool.false_or, Bool.not_true, Bool.not_false, List.length_cons, List.length_nil, Nat.zero_add, Nat.reduceAdd, Nat.reduceSub, Nat.reduceLeDiff, Nat.reduceMul, decide_true, decide_false, env0, List.map_cons, List.map_nil, List.replicate, List.cons_append, List.nil_append, List.append_nil, List.length_append, String.reduceEq, lfs_app, Int.reduceNeg, eq_self, if_true, if_false, Bool.false_eq_true, Int.reduceLE, Int.reduceLT, Int.reduceEq, Int.reduceSub, Int.reduceAdd, Int.reduceMul]
  by_cases hro : r = o
  · simp (dsimp := false) (implicitDefEqProofs := false) only [hro, SXA, Bool.and_true, Bool.true_and, Bool.and_false, Bool.false_and, Bool.or_true, Bool.true_or, Bool.or_false, Bool.false_or, Bool.not_true, Bool.not_false, List.length_cons, List.length_nil, Nat.zero_add, Nat.reduceAdd, Nat.reduceSub, Nat.reduceLeDiff, Nat.reduceMul, decide_true, decide_false, env0, List.map_cons, List.map_nil, List.replicate, List.cons_append, List.nil_append, List.append_nil, List.length_append, String.reduceEq, lfs_app, Int.reduceNeg, eq_self, if_true, if_false, Bool.false_eq_true, Int.reduceLE, Int.reduceLT, Int.reduceEq, Int.reduceSub, Int.reduceAdd, Int.reduceMul]
    unfold whyD
    rw [if_pos rfl]
  · simp (dsimp := false) (implicitDefEqProofs := false) only [hro, List.length_map, range1 (n := (r.length : Int)) (k := r.length) rfl (by omega), SXA, Bool.and_true, Bool.true_and, Bool.and_false, Bool.false_and, Bool.or_true, Bool.true_or, Bool.or_false, Bool.false_or, Bool.not_true, Bool.not_false, List.length_cons, List.length_nil, Nat.zero_add, Nat.reduceAdd, Nat.reduceSub, Nat.reduceLeDiff, Nat.reduceMul, decide_true, decide_false, env0, List.map_cons, List.map_nil, List.replicate, List.cons_append, List.nil_append, List.append_nil, List.length_append, String.reduceEq, lfs_app, Int.reduceNeg, eq_self, if_true, if_false, Bool.false_eq_true, Int.reduceLE, Int.reduceLT, Int.reduceEq, Int.reduceSub, Int.reduceAdd, Int.reduceMul]
    generalize hF : forW _ _ _ _ _ = F
    refine for_find_e (items := List.range r.length) (emb := natD) (fun S => ∃ o3, S = [some (.lst (ks.map tieD)), some (.tup (r.map spotD)), some (.tup (o.map spotD)), o3, none]) (fun i => !(decide (sp0 o i ∈ nextS (kS ts i) (sp0 r i)))) (fun i => .tup [.str "thing", .int (i : Int)]) hF rfl ⟨_, rfl⟩ ?_ ?_ ?_
    · rintro i hi S ⟨o3, rfl⟩
      have hi : i < r.length := List.mem_range.mp hi
      have h2 : ts[i]? = some ts[i] := List.getElem?_eq_getElem (by omega)
      obtain ⟨q1, q3⟩ := hm ts[i] (List.getElem_mem (by omega))
      have a1 := atI_sp hi
      have a2 := atI_sp (r := o) (i := i) (by omega)
      have hmr := sp0_mem hr (i := i) (by omega)
      have hmo := sp0_mem ho (i := i) (by omega)
      rw [kS_at h2] at hmr hmo ⊢
      have hmay := law_may_ok hmr hmo q3 q3
      have e : decide (sp0 o i ∈ nextS ts[i].ms.length (sp0 r i)) = mayS (sp0 r i) (sp0 o i) := by
        cases hb : mayS (sp0 r i) (sp0 o i) with
        | true => exact decide_eq_true (next_mem.mpr ⟨hmo, hb⟩)
        | false => exact decide_eq_false fun q => by rw [(next_mem.mp q).2] at hb; cases hb
      refine ⟨_, rfl, ?_⟩
      rw [e]
      cases hb : mayS (sp0 r i) (sp0 o i) with
      | true =>
        right
        refine ⟨rfl, ?_⟩
        simp (dsimp := false) (implicitDefEqProofs := false) only [natD, a1, a2, lfs_spots, elf_spotD, callFn_f (fn := F_law_may) rfl, hmay, hb, SXA, Bool.and_true, Bool.true_and, Bool.and_false, Bool.false_and, Bool.or_true, Bool.true_or, Bool.or_false, Bool.false_or, Bool.not_true, Bool.not_false, List.length_cons, List.length_nil, Nat.zero_add, Nat.reduceAdd, Nat.reduceSub, Nat.reduceLeDiff, Nat.reduceMul, decide_true, decide_false, env0, List.map_cons, List.map_nil, List.replicate, List.cons_append, List.nil_append, List.append_nil, List.length_append, String.reduceEq, lfs_app, Int.reduceNeg, eq_self, if_true, if_false, Bool.false_eq_true, Int.reduceLE, Int.reduceLT, Int.reduceEq, Int.reduceSub, Int.reduceAdd, Int.reduceMul]
        exact ⟨_, rfl, _, rfl⟩
      | false =>
        left
        refine ⟨rfl, ?_⟩
        simp (dsimp := false) (implicitDefEqProofs := false) only [natD, a1, a2, lfs_spots, elf_spotD, callFn_f (fn := F_law_may) rfl, hmay, hb, SXA, Bool.and_true, Bool.true_and, Bool.and_false, Bool.false_and, Bool.or_true, Bool.true_or, Bool.or_false, Bool.false_or, Bool.not_true, Bool.not_false, List.length_cons, List.length_nil, Nat.zero_add, Nat.reduceAdd, Nat.reduceSub, Nat.reduceLeDiff, Nat.reduceMul, decide_true, decide_false, env0, List.map_cons, List.map_nil, List.replicate, List.cons_append, List.nil_append, List.append_nil, List.length_append, String.reduceEq, lfs_app, Int.reduceNeg, eq_self, if_true, if_false, Bool.false_eq_true, Int.reduceLE, Int.reduceLT, Int.reduceEq, Int.reduceSub, Int.reduceAdd, Int.reduceMul]
    · rintro S2 h1 rfl ⟨o3, rfl⟩
      simp (dsimp := false) (implicitDefEqProofs := false) only [callFn_f (fn := F_law_first) rfl, hf, SXA, Bool.and_true, Bool.true_and, Bool.and_false, Bool.false_and, Bool.or_true, Bool.true_or, Bool.or_false, Bool.false_or, Bool.not_true, Bool.not_false, List.length_cons, List.length_nil, Nat.zero_add, Nat.reduceAdd, Nat.reduceSub, Nat.reduceLeDiff, Nat.reduceMul, decide_true, decide_false, env0, List.map_cons, List.map_nil, List.replicate, List.cons_append, List.nil_append, List.append_nil, List.length_append, String.reduceEq, lfs_app, Int.reduceNeg, eq_self, if_true, if_false, Bool.false_eq_true, Int.reduceLE, Int.reduceLT, Int.reduceEq, Int.reduceSub, Int.reduceAdd, Int.reduceMul]
      unfold whyD
      rw [if_neg hro]
      have hbar : barS ts r o = none := h1
      rw [hbar]
      cases hfi : firstS ks o with
      | some i => simp (dsimp := false) (implicitDefEqProofs := false) only [optD, SXA, Bool.and_true, Bool.true_and, Bool.and_false, Bool.false_and, Bool.or_true, Bool.true_or, Bool.or_false, Bool.false_or, Bool.not_true, Bool.not_false, List.length_cons, List.length_nil, Nat.zero_add, Nat.reduceAdd, Nat.reduceSub, Nat.reduceLeDiff, Nat.reduceMul, decide_true, decide_false, env0, List.map_cons, List.map_nil, List.replicate, List.cons_append, List.nil_append, List.append_nil, List.length_append, String.reduceEq, lfs_app, Int.reduceNeg, eq_self, if_true, if_false, Bool.false_eq_true, Int.reduceLE, Int.reduceLT, Int.reduceEq, Int.reduceSub, Int.reduceAdd, Int.reduceMul]
      | none => simp (dsimp := false) (implicitDefEqProofs := false) only [optD, SXA, Bool.and_true, Bool.true_and, Bool.and_false, Bool.false_and, Bool.or_true, Bool.true_or, Bool.or_false, Bool.false_or, Bool.not_true, Bool.not_false, List.length_cons, List.length_nil, Nat.zero_add, Nat.reduceAdd, Nat.reduceSub, Nat.reduceLeDiff, Nat.reduceMul, decide_true, decide_false, env0, List.map_cons, List.map_nil, List.replicate, List.cons_append, List.nil_append, List.append_nil, List.length_append, String.reduceEq, lfs_app, Int.reduceNeg, eq_self, if_true, if_false, Bool.false_eq_true, Int.reduceLE, Int.reduceLT, Int.reduceEq, Int.reduceSub, Int.reduceAdd, Int.reduceMul]
    · rintro i h1 rfl
      simp (dsimp := false) (implicitDefEqProofs := false) only [SXA, Bool.and_true, Bool.true_and, Bool.and_false, Bool.false_and, Bool.or_true, Bool.true_or, Bool.or_false, Bool.false_or, Bool.not_true, Bool.not_false, List.length_cons, List.length_nil, Nat.zero_add, Nat.reduceAdd, Nat.reduceSub, Nat.reduceLeDiff, Nat.reduceMul, decide_true, decide_false, env0, List.map_cons, List.map_nil, List.replicate, List.cons_append, List.nil_append, List.append_nil, List.length_append, String.reduceEq, lfs_app, Int.reduceNeg, eq_self, if_true, if_false, Bool.false_eq_true, Int.reduceLE, Int.reduceLT, Int.reduceEq, Int.reduceSub, Int.reduceAdd, Int.reduceMul]
      unfold whyD
      rw [if_neg hro]
      have hbar : barS ts r o = some i := h1
      rw [hbar]
theorem alike_why (ts : List Th) (ks : List Tie) (r o : Room) : F_law_alike.run [whyD ts ks r o, whyD ts ks r o] none = .ok (.bl true) none := by
  have two : ∀ (w : Str) (i : Int), AOk 6 (.tup [.str w, .int i]) := fun w i => ⟨by show 2 ≤ 100000; omega, fun x hx => by
    rcases List.mem_cons.mp hx with rfl | hx
    · trivial
    · rw [List.mem_singleton.mp hx]; trivial⟩
  unfold whyD
  split
  · exact alike_ok (n := 6) (two _ _)
  · split
    · exact alike_ok (n := 6) (two _ _)
    · split
      · exact alike_ok (n := 6) trivial
      · exact alike_ok (n := 6) (two _ _)
end TH

set_option Elab.async false
set_option linter.all false
set_option maxRecDepth 100000
set_option maxHeartbeats 4000000
/-! M: this law's own. -/
namespace TH
open PySem PySem.Spec PyProof.Rows L2
def clsL : List Str := ["TrendError", "BadHouse", "BadRoom"]
theorem isSub_BadHouse_TrendError : isSub clsL "BadHouse" "TrendError" = some true := by kernel_rfl
theorem isSub_BadHouse_BadHouse : isSub clsL "BadHouse" "BadHouse" = some true := by kernel_rfl
theorem isSub_BadHouse_BadRoom : isSub clsL "BadHouse" "BadRoom" = some false := by kernel_rfl
theorem isSub_BadHouse_ValueError : isSub clsL "BadHouse" "ValueError" = some true := by kernel_rfl
theorem isSub_BadRoom_TrendError : isSub clsL "BadRoom" "TrendError" = some true := by kernel_rfl
theorem isSub_BadRoom_BadHouse : isSub clsL "BadRoom" "BadHouse" = some false := by kernel_rfl
theorem isSub_BadRoom_BadRoom : isSub clsL "BadRoom" "BadRoom" = some true := by kernel_rfl
theorem isSub_BadRoom_ValueError : isSub clsL "BadRoom" "ValueError" = some true := by kernel_rfl
def m_law_refused (f_nexts f_why_not : Fn) : Fn := mFn false 3 5
  [(sSetO 3 (eLst [])), (sFor (tg1 4) (iA rng1 [(eK (.int 3))]) [(sTry clsL [(sIf (tCmp .Eq (eV 4) (eK (.int 0))) [(sExp (eCall f_nexts [(eV 0), (eV 2)]))] [(sIf (tCmp .Eq (eV 4) (eK (.int 1))) [(sExp (eCall f_why_not [(eV 0), (eV 2), (eV 1)]))] [(sExp (eCall f_why_not [(eV 0), (eV 1), (eV 2)]))])])] "BadRoom" [(sMut appF 3 [(eV 4)])])]), (sRet (eT (tCmp .Eq (eO 3) (eLst [(eK (.int 0)), (eK (.int 1)), (eK (.int 2))]))))]
def F_law_refused : Fn := m_law_refused F_nexts F_why_not
def m_must0 : Fn := mFn false 3 3
  [(sIf (tNot (tX (eV 0))) [sNo] [])]
def F_must0 : Fn := m_must0 
def F_House0 : Fn := m_House_init F_must0 F_is_name F_are_marks F_House_is_tie
def m_law (f_law_things f_law_ties f_law_room f_law_nexts f_nexts f_law_alike f_law_other f_law_refused f_law_odd f_why_not f_law_why f_House : Fn) : Fn := mFn false 1 10
  [(sSetI 1 (eLst [(eV 0), (eK (.int 0)), (eK (.int 0))])), (sSet 2 (eCall f_law_things [eIo, (eK (.int 3)), (eK (.int 3))])), (sSet 3 (eCall f_law_ties [eIo, (eV 2), (eK (.int 6))])), (sSet 4 (eMk f_House [(eB1 listD (eV 2)), (eB1 listD (eV 3))])), (sSet 5 (eCall f_law_room [eIo, (eV 2), (eV 3)])), (sSet 6 (eCall f_law_nexts [(eV 2), (eV 3), (eV 5)])), (sSetO 7 (eCall f_nexts [(eV 4), (eV 5)])), (sIf (tNot (tX (eCall f_law_alike [(eO 7), (eV 6)]))) [(sRet (eK (.bl false)))] []), (sMut clrF 7 []), (sFor (tg1 8) (iA rng1 [(eK (.int 8))]) [(sSet 9 (eCall f_law_other [eIo, (eV 2), (eV 3), (eV 5), (eV 6)])), (sIf (tNot (tX (eCall f_law_alike [(eCall f_why_not [(eV 4), (eV 5), (eV 9)]), (eCall f_law_why [(eV 3), (eV 5), (eV 9)])]))) [(sRet (eK (.bl false)))] []), (sIf (tNot (tX (eCall f_law_alike [(eCall f_nexts [(eV 4), (eV 9)]), (eCall f_law_nexts [(eV 2), (eV 3), (eV 9)])]))) [(sRet (eK (.bl false)))] [])]), (sIf (tNot (tX (eCall f_law_refused [(eV 4), (eV 5), (eCall f_law_odd [eIo, (eV 2)])]))) [(sRet (eK (.bl false)))] []), (sRet (eCall f_law_alike [(eCall f_nexts [(eV 4), (eV 5)]), (eV 6)]))]
def F_law : Fn := m_law F_law_things F_law_ties F_law_room F_law_nexts F_nexts F_law_alike F_law_other F_law_refused F_law_odd F_why_not F_law_why F_House0
end TH

set_option Elab.async false
set_option linter.all false
set_option maxRecDepth 100000
set_option maxHeartbeats 4000000
/-! P_k03: the plain law. -/
namespace TH
open PySem PySem.Spec PyProof.Rows L2

theorem must0_ok (w : Str) (n : Int) : F_must0.run [.bl true, .str w, .int n] none = .ok .non none := by
  simp (dsimp := false) (implicitDefEqProofs := false) only [F_must0, m_must0, SXA, Bool.and_true, Bool.true_and, Bool.and_false, Bool.false_and, Bool.or_true, Bool.true_or, Bool.or_false, Bool.false_or, Bool.not_true, Bool.not_false, List.length_cons, List.length_nil, Nat.zero_add, Nat.reduceAdd, Nat.reduceSub, Nat.reduceLeDiff, Nat.reduceMul, decide_true, decide_false, env0, List.map_cons, List.map_nil, List.replicate, List.cons_append, List.nil_append, List.append_nil, List.length_append, String.reduceEq, lfs_app, Int.reduceNeg, eq_self, if_true, if_false, Bool.false_eq_true, Int.reduceLE, Int.reduceLT, Int.reduceEq, Int.reduceSub, Int.reduceAdd, Int.reduceMul]
theorem nxO_s' (d : D) (r : List (Option D)) : noExcO (some d :: r) = (noExc d && noExcO r) := rfl
theorem nxO_n' (r : List (Option D)) : noExcO (none :: r) = noExcO r := rfl
theorem nxO_nil' : noExcO [] = true := rfl
theorem noExc_hou (ts : List Th) (ks : List Tie) : noExc (houD ts ks) = true := by
  show (noExcs (ts.map thD) && noExcs (ks.map tieD)) = true
  rw [noExcs_map noExc_th, noExcs_map noExc_tie]; rfl
theorem noExc_spot (s : Spot) : noExc (spotD s) = true := rfl
theorem noExc_room (r : Room) : noExc (roomD r) = true := noExcs_map noExc_spot r
theorem noExc_nats (l : List Nat) : noExc (.lst (l.map natD)) = true := noExcs_map (f := natD) (fun _ => rfl) l
theorem eq_012 : eqD (.lst ((List.range 3).map natD)) (.lst [.int 0, .int 1, .int 2]) = some true := rfl
theorem refused_ok {ts : List Th} {r o : Room} (hm : msIn ts) (ks : List Tie) (hr : roomOkB ts r = true) (ho : roomOkB ts o = false) : F_law_refused.run [houD ts ks, roomD r, roomD o] none = .ok (.bl true) none := by
  have h1 := nexts_bad hm ks ho
  have h2 := why_not_bad1 hm ks ho r
  have h3 := why_not_bad2 hm ks hr ho
  simp (dsimp := false) (implicitDefEqProofs := false) only [F_law_refused, m_law_refused, SXA, Bool.and_true, Bool.true_and, Bool.and_false, Bool.false_and, Bool.or_true, Bool.true_or, Bool.or_false, Bool.false_or, Bool.not_true, Bool.not_false, List.length_cons, List.length_nil, Nat.zero_add, Nat.reduceAdd, Nat.reduceSub, Nat.reduceLeDiff, Nat.reduceMul, decide_true, decide_false, env0, List.map_cons, List.map_nil, List.replicate, List.cons_append, List.nil_append, List.append_nil, List.length_append, String.reduceEq, lfs_app, Int.reduceNeg, eq_self, if_true, if_false, Bool.false_eq_true, Int.reduceLE, Int.reduceLT, Int.reduceEq, Int.reduceSub, Int.reduceAdd, Int.reduceMul]
  generalize hF : forW _ _ _ _ _ = F
  refine for_range_e (n := 3) (fun m S rr => rr = none ∧ ∃ o4, noExcO [o4] = true ∧ S = [some (houD ts ks), some (roomD r), some (roomD o), some (.lst ((List.range m).map natD)), o4]) hF (rng_nat 3) ⟨rfl, none, rfl, rfl⟩ ?_ ?_
  · rintro m hm3 S rr ⟨rfl, o4, ho4, rfl⟩
    refine ⟨_, rfl, ?_⟩
    have e : (List.range m).map natD ++ [natD m] = (List.range (m + 1)).map natD := by rw [List.range_succ, List.map_append]; rfl
    have fin : ∀ o4 : Option D, Nxt (SO.nx [some (houD ts ks), some (roomD r), some (roomD o), some (.lst ((List.range m).map natD ++ [natD m])), some (natD m)] none) (fun S rr => rr = none ∧ ∃ o4, noExcO [o4] = true ∧ S = [some (houD ts ks), some (roomD r), some (roomD o), some (.lst ((List.range (m + 1)).map natD)), o4]) := by
      intro o4
      rw [e]
      exact nxt_nx ⟨rfl, _, rfl, rfl⟩
    have hsz : sz (List.range m).length = true := sz_t (by rw [List.length_range]; omega)
    have hno : noExc (.lst ((List.range m).map natD ++ [natD m])) = true := by rw [e]; exact noExc_nats _
    have hcs : m = 0 ∨ m = 1 ∨ m = 2 := by omega
    rcases hcs with rfl | rfl | rfl
    · have e0 : natD 0 = .int 0 := rfl
      rw [e0] at fin hno ⊢
      simp (dsimp := false) (implicitDefEqProofs := false) only [callFn_f (fn := F_nexts) rfl, h1, sTryN_r, sTry_r, tryN_nx, tryN_rt, try0_nx, try0_rt, tryN_ex, try0_ex, endTry_rt, endTry_nx, noExc_b, noExc_i, noExc_n, noExc_s, isSub_BadRoom_BadRoom, List.length_map, hsz, id, nxO_s', nxO_n', nxO_nil', noExc_hou, noExc_room, hno, SXA, Bool.and_true, Bool.true_and, Bool.and_false, Bool.false_and, Bool.or_true, Bool.true_or, Bool.or_false, Bool.false_or, Bool.not_true, Bool.not_false, List.length_cons, List.length_nil, Nat.zero_add, Nat.reduceAdd, Nat.reduceSub, Nat.reduceLeDiff, Nat.reduceMul, decide_true, decide_false, env0, List.map_cons, List.map_nil, List.replicate, List.cons_append, List.nil_append, List.append_nil, List.length_append, String.reduceEq, lfs_app, Int.reduceNeg, eq_self, if_true, if_false, Bool.false_eq_true, Int.reduceLE, Int.reduceLT, Int.reduceEq, Int.reduceSub, Int.reduceAdd, Int.reduceMul]
      exact fin none
    · have e0 : natD 1 = .int 1 := rfl
      rw [e0] at fin hno ⊢
      simp (dsimp := false) (implicitDefEqProofs := false) only [callFn_f (fn := F_why_not) rfl, h2, sTryN_r, sTry_r, tryN_nx, tryN_rt, try0_nx, try0_rt, tryN_ex, try0_ex, endTry_rt, endTry_nx, noExc_b, noExc_i, noExc_n, noExc_s, isSub_BadRoom_BadRoom, List.length_map, hsz, id, nxO_s', nxO_n', nxO_nil', noExc_hou, noExc_room, hno, SXA, Bool.and_true, Bool.true_and, Bool.and_false, Bool.false_and, Bool.or_true, Bool.true_or, Bool.or_false, Bool.false_or, Bool.not_true, Bool.not_false, List.length_cons, List.length_nil, Nat.zero_add, Nat.reduceAdd, Nat.reduceSub, Nat.reduceLeDiff, Nat.reduceMul, decide_true, decide_false, env0, List.map_cons, List.map_nil, List.replicate, List.cons_append, List.nil_append, List.append_nil, List.length_append, String.reduceEq, lfs_app, Int.reduceNeg, eq_self, if_true, if_false, Bool.false_eq_true, Int.reduceLE, Int.reduceLT, Int.reduceEq, Int.reduceSub, Int.reduceAdd, Int.reduceMul]
      exact fin none
    · have e0 : natD 2 = .int 2 := rfl
      rw [e0] at fin hno ⊢
      simp (dsimp := false) (implicitDefEqProofs := false) only [callFn_f (fn := F_why_not) rfl, h3, sTryN_r, sTry_r, tryN_nx, tryN_rt, try0_nx, try0_rt, tryN_ex, try0_ex, endTry_rt, endTry_nx, noExc_b, noExc_i, noExc_n, noExc_s, isSub_BadRoom_BadRoom, List.length_map, hsz, id, nxO_s', nxO_n', nxO_nil', noExc_hou, noExc_room, hno, SXA, Bool.and_true, Bool.true_and, Bool.and_false, Bool.false_and, Bool.or_true, Bool.true_or, Bool.or_false, Bool.false_or, Bool.not_true, Bool.not_false, List.length_cons, List.length_nil, Nat.zero_add, Nat.reduceAdd, Nat.reduceSub, Nat.reduceLeDiff, Nat.reduceMul, decide_true, decide_false, env0, List.map_cons, List.map_nil, List.replicate, List.cons_append, List.nil_append, List.append_nil, List.length_append, String.reduceEq, lfs_app, Int.reduceNeg, eq_self, if_true, if_false, Bool.false_eq_true, Int.reduceLE, Int.reduceLT, Int.reduceEq, Int.reduceSub, Int.reduceAdd, Int.reduceMul]
      exact fin none
  · rintro S2 r2 rfl ⟨rfl, o4, ho4, rfl⟩
    simp (dsimp := false) (implicitDefEqProofs := false) only [eq_012, SXA, Bool.and_true, Bool.true_and, Bool.and_false, Bool.false_and, Bool.or_true, Bool.true_or, Bool.or_false, Bool.false_or, Bool.not_true, Bool.not_false, List.length_cons, List.length_nil, Nat.zero_add, Nat.reduceAdd, Nat.reduceSub, Nat.reduceLeDiff, Nat.reduceMul, decide_true, decide_false, env0, List.map_cons, List.map_nil, List.replicate, List.cons_append, List.nil_append, List.append_nil, List.length_append, String.reduceEq, lfs_app, Int.reduceNeg, eq_self, if_true, if_false, Bool.false_eq_true, Int.reduceLE, Int.reduceLT, Int.reduceEq, Int.reduceSub, Int.reduceAdd, Int.reduceMul]
theorem law_ok (ns : List Int) (hns : ns.length ≤ 63) : ∃ r, F_law.run [.scr ns] none = .ok (.bl true) r := by
  have hr0 : RowL [.scr ns, .int 0, .int 0] := ⟨ns, 0, 0, rfl, by omega⟩
  obtain ⟨ts, l1, e1, ⟨ht, _, _⟩, hl1⟩ := things_ok hr0 (most := 3) (long := 3) (by omega) (by omega) (by omega) (by omega)
  have e1' : F_law_things.run [.int 3, .int 3] (some [.scr ns, .int 0, .int 0]) = .ok (.lst (ts.map thD)) (some l1) := e1
  have hm := msOf ht
  obtain ⟨ks, l2, e2, ⟨hk, _⟩, hl2⟩ := ties_ok hm hl1 ht.lo ht.hi (most := 6) (by omega) (by omega)
  have e2' : F_law_ties.run [.lst (ts.map thD), .int 6] (some l1) = .ok (.lst (ks.map tieD)) (some l2) := e2
  have hH : F_House0.run [.lst (ts.map thD), .lst (ks.map tieD)] none = .ok (houD ts ks) none := house_ok (fm := F_must0) rfl must0_ok ht hk
  have hin : ∀ k ∈ ks, tieIn ts.length k := fun k hk' => tieOk_in (hk.ok k hk')
  have hz : ks.length ≤ 1000 := by have := hk.hi; omega
  obtain ⟨r, l3, e3, hr, hl3⟩ := law_room_ok hm ht.hi hin hz hl2
  have hln := law_nexts_ok hm ht.hi hin hz hr
  have hpn := nexts_ok hm ht.hi hin hz hr
  have hal : ∀ o, roomOkB ts o = true → F_law_alike.run [.lst ((goodNext ts ks o).map roomD), .lst ((goodNext ts ks o).map roomD)] none = .ok (.bl true) none := by
    intro o ho
    have := good_next_len hm ht.hi ks ho
    refine alike_rooms (by omega) fun q hq => ?_
    have h1 := roomOk_len (good_next_room ho hq)
    have := ht.hi
    omega
  have hal0 := hal r hr
  simp (dsimp := false) (implicitDefEqProofs := false) only [F_law, m_law, putI_r, List.getElem?_cons_succ, List.getElem?_cons_zero, Option.isSome, callFn_t (fn := F_law_things) rfl, e1', callFn_t (fn := F_law_ties) rfl, e2', lfs_things, lfs_ties, callMk_r, hH, callFn_t (fn := F_law_room) rfl, e3, callFn_f (fn := F_law_nexts) rfl, hln, callFn_f (fn := F_nexts) rfl, hpn, lfs_rooms, callFn_f (fn := F_law_alike) rfl, hal0, SXA, Bool.and_true, Bool.true_and, Bool.and_false, Bool.false_and, Bool.or_true, Bool.true_or, Bool.or_false, Bool.false_or, Bool.not_true, Bool.not_false, List.length_cons, List.length_nil, Nat.zero_add, Nat.reduceAdd, Nat.reduceSub, Nat.reduceLeDiff, Nat.reduceMul, decide_true, decide_false, env0, List.map_cons, List.map_nil, List.replicate, List.cons_append, List.nil_append, List.append_nil, List.length_append, String.reduceEq, lfs_app, Int.reduceNeg, eq_self, if_true, if_false, Bool.false_eq_true, Int.reduceLE, Int.reduceLT, Int.reduceEq, Int.reduceSub, Int.reduceAdd, Int.reduceMul]
  generalize hF : forW _ _ _ _ _ = F
  refine for_range_e (n := 8) (fun _ S rr => ∃ l o8 o9, rr = some l ∧ RowL l ∧ S = [some (.scr ns), none, some (.lst (ts.map thD)), some (.lst (ks.map tieD)), some (houD ts ks), some (roomD r), some (.lst ((goodNext ts ks r).map roomD)), some (.lst []), o8, o9]) hF (rng_nat 8) ⟨l3, _, _, rfl, hl3, rfl⟩ ?_ ?_
  · rintro i hi S rr ⟨l, o8, o9, rfl, hl, rfl⟩
    refine ⟨_, rfl, ?_⟩
    obtain ⟨o, l4, e4, ho, hl4⟩ := law_other_ok hm ht.hi hin hz hr (due := goodNext ts ks r) (fun q hq => good_next_room hr hq) hl
    have hwp := why_not_ok hm ht.hi hin hz hr ho
    have hwl := law_why_ok hm ht.hi hin hz hr ho
    have haw := alike_why ts ks r o
    have hno := nexts_ok hm ht.hi hin hz ho
    have hnl := law_nexts_ok hm ht.hi hin hz ho
    have hao := hal o ho
    simp (dsimp := false) (implicitDefEqProofs := false) only [callFn_t (fn := F_law_other) rfl, e4, callFn_f (fn := F_why_not) rfl, hwp, callFn_f (fn := F_law_why) rfl, hwl, callFn_f (fn := F_law_alike) rfl, haw, callFn_f (fn := F_nexts) rfl, hno, callFn_f (fn := F_law_nexts) rfl, hnl, hao, SXA, Bool.and_true, Bool.true_and, Bool.and_false, Bool.false_and, Bool.or_true, Bool.true_or, Bool.or_false, Bool.false_or, Bool.not_true, Bool.not_false, List.length_cons, List.length_nil, Nat.zero_add, Nat.reduceAdd, Nat.reduceSub, Nat.reduceLeDiff, Nat.reduceMul, decide_true, decide_false, env0, List.map_cons, List.map_nil, List.replicate, List.cons_append, List.nil_append, List.append_nil, List.length_append, String.reduceEq, lfs_app, Int.reduceNeg, eq_self, if_true, if_false, Bool.false_eq_true, Int.reduceLE, Int.reduceLT, Int.reduceEq, Int.reduceSub, Int.reduceAdd, Int.reduceMul]
    exact nxt_nx ⟨l4, _, _, rfl, hl4, rfl⟩
  · rintro S2 r2 rfl ⟨l, o8, o9, rfl, hl, rfl⟩
    obtain ⟨odd, l4, e4, hbad, hl4⟩ := odd_ok hm ht.lo ht.hi hl
    have href := refused_ok hm ks hr hbad
    simp (dsimp := false) (implicitDefEqProofs := false) only [callFn_t (fn := F_law_odd) rfl, e4, callFn_f (fn := F_law_refused) rfl, href, callFn_f (fn := F_nexts) rfl, hpn, callFn_f (fn := F_law_alike) rfl, hal0, SXA, Bool.and_true, Bool.true_and, Bool.and_false, Bool.false_and, Bool.or_true, Bool.true_or, Bool.or_false, Bool.false_or, Bool.not_true, Bool.not_false, List.length_cons, List.length_nil, Nat.zero_add, Nat.reduceAdd, Nat.reduceSub, Nat.reduceLeDiff, Nat.reduceMul, decide_true, decide_false, env0, List.map_cons, List.map_nil, List.replicate, List.cons_append, List.nil_append, List.append_nil, List.length_append, String.reduceEq, lfs_app, Int.reduceNeg, eq_self, if_true, if_false, Bool.false_eq_true, Int.reduceLE, Int.reduceLT, Int.reduceEq, Int.reduceSub, Int.reduceAdd, Int.reduceMul]
    exact ⟨_, rfl⟩
end TH

set_option Elab.async false
set_option linter.all false
set_option maxRecDepth 100000
set_option maxHeartbeats 0
namespace TH
open PySem PySem.Spec PyProof.Rows L2
def top (i : Nat) : Stmt := PySem.Challenge.pw_trendhouse_k03_what_comes_next_and_why_n.main.body.getD i (.Pass ⟨0, 0, 0, 0⟩)

def x_law_taken : Ctx := { np := 1, N := ["_law_row", "_law_many", "_law_cell"], sc := defScope (top 33), st := defScope (top 33), own := [], io := some 0, calm := true, loops := true, tries := false, fns := [], mks := [], mts := [], cst := [], exs := [], cls := clsL, exc := none }
def f_law_taken : Fn := mkFn 40 x_law_taken (defBody (top 33))
def x_law_marks (f_law_taken : Fn) : Ctx := { np := 2, N := ["_law_row", "_law_many", "_law_far", "_law_found", "_law_k", "_law_begin", "_law_mark"], sc := defScope (top 34), st := defScope (top 34), own := [3], io := some 0, calm := true, loops := true, tries := false, fns := [("_law_taken", f_law_taken)], mks := [], mts := [], cst := [], exs := [], cls := clsL, exc := none }
def f_law_marks : Fn := mkFn 40 (x_law_marks f_law_taken) (defBody (top 34))
def x_law_things (f_law_taken f_law_marks : Fn) : Ctx := { np := 2, N := ["_law_row", "_law_most", "_law_long", "_law_turn", "_law_base", "_law_cut", "_law_within", "_law_far", "_law_things_here", "_law_k", "_law_sign", "_law_name"], sc := defScope (top 35), st := defScope (top 35), own := [8], io := some 0, calm := true, loops := true, tries := false, fns := [("_law_taken", f_law_taken), ("_law_marks", f_law_marks)], mks := [], mts := [], cst := [], exs := [], cls := clsL, exc := none }
def f_law_things : Fn := mkFn 40 (x_law_things f_law_taken f_law_marks) (defBody (top 35))
def x_law_tie (f_law_taken : Fn) : Ctx := { np := 1, N := ["_law_row", "_law_things_here", "_law_one", "_law_rest", "_law_way", "_law_other_here", "_law_k"], sc := defScope (top 36), st := defScope (top 36), own := [], io := some 0, calm := true, loops := true, tries := false, fns := [("_law_taken", f_law_taken)], mks := [], mts := [], cst := [], exs := [], cls := clsL, exc := none }
def f_law_tie : Fn := mkFn 40 (x_law_tie f_law_taken) (defBody (top 36))
def x_law_ties (f_law_tie f_law_taken : Fn) : Ctx := { np := 2, N := ["_law_row", "_law_things_here", "_law_most", "_law_k"], sc := defScope (top 37), st := defScope (top 37), own := [], io := some 0, calm := true, loops := true, tries := false, fns := [("_law_tie", f_law_tie), ("_law_taken", f_law_taken)], mks := [], mts := [], cst := [], exs := [], cls := clsL, exc := none }
def f_law_ties : Fn := mkFn 40 (x_law_ties f_law_tie f_law_taken) (defBody (top 37))
def x_law_keeps : Ctx := { np := 2, N := ["_law_tie_here", "_law_room_here", "_law_word", "_law_trend", "_law_other_here", "_law_last", "_law_tried", "_law_far", "_law_one"], sc := defScope (top 39), st := defScope (top 39), own := [], io := none, calm := true, loops := true, tries := false, fns := [], mks := [], mts := [], cst := [], exs := [], cls := clsL, exc := none }
def f_law_keeps : Fn := mkFn 40 x_law_keeps (defBody (top 39))
def x_law_first (f_law_keeps : Fn) : Ctx := { np := 2, N := ["_law_ties_here", "_law_room_here", "_law_number"], sc := defScope (top 40), st := defScope (top 40), own := [], io := none, calm := true, loops := true, tries := false, fns := [("_law_keeps", f_law_keeps)], mks := [], mts := [], cst := [], exs := [], cls := clsL, exc := none }
def f_law_first : Fn := mkFn 40 (x_law_first f_law_keeps) (defBody (top 40))
def x_law_spots : Ctx := { np := 1, N := ["_law_marks_here", "_law_found", "_law_place"], sc := defScope (top 38), st := defScope (top 38), own := [1], io := none, calm := true, loops := true, tries := false, fns := [], mks := [], mts := [], cst := [], exs := [], cls := clsL, exc := none }
def f_law_spots : Fn := mkFn 40 x_law_spots (defBody (top 38))
def x_law_rooms (f_law_first f_law_spots : Fn) : Ctx := { np := 2, N := ["_law_things_here", "_law_ties_here", "_law_found", "_law_name", "_law_marks_here", "_law_longer", "_law_one", "_law_room_here", "_law_spot"], sc := defScope (top 41), st := defScope (top 41), own := [5], io := none, calm := true, loops := true, tries := false, fns := [("_law_first", f_law_first), ("_law_spots", f_law_spots)], mks := [], mts := [], cst := [], exs := [], cls := clsL, exc := none }
def f_law_rooms : Fn := mkFn 40 (x_law_rooms f_law_first f_law_spots) (defBody (top 41))
def x_law_any (f_law_spots f_law_taken : Fn) : Ctx := { np := 1, N := ["_law_row", "_law_things_here", "_law_found", "_law_name", "_law_marks_here", "_law_some"], sc := defScope (top 42), st := defScope (top 42), own := [2], io := some 0, calm := true, loops := true, tries := false, fns := [("_law_spots", f_law_spots), ("_law_taken", f_law_taken)], mks := [], mts := [], cst := [], exs := [], cls := clsL, exc := none }
def f_law_any : Fn := mkFn 40 (x_law_any f_law_spots f_law_taken) (defBody (top 42))
def x_law_room (f_law_rooms f_law_any f_law_taken : Fn) : Ctx := { np := 2, N := ["_law_row", "_law_things_here", "_law_ties_here", "_law_every"], sc := defScope (top 43), st := defScope (top 43), own := [], io := some 0, calm := true, loops := true, tries := false, fns := [("_law_rooms", f_law_rooms), ("_law_any", f_law_any), ("_law_taken", f_law_taken)], mks := [], mts := [], cst := [], exs := [], cls := clsL, exc := none }
def f_law_room : Fn := mkFn 40 (x_law_room f_law_rooms f_law_any f_law_taken) (defBody (top 43))
def x_law_may : Ctx := { np := 2, N := ["_law_spot", "_law_other_here", "_law_ends", "_law_end", "_law_place", "_law_trend"], sc := defScope (top 44), st := defScope (top 44), own := [2], io := none, calm := true, loops := true, tries := false, fns := [], mks := [], mts := [], cst := [], exs := [], cls := clsL, exc := none }
def f_law_may : Fn := mkFn 40 x_law_may (defBody (top 44))
def x_law_nexts (f_law_spots f_law_may f_law_first : Fn) : Ctx := { np := 3, N := ["_law_things_here", "_law_ties_here", "_law_room_here", "_law_found", "_law_k", "_law_some", "_law_longer", "_law_one", "_law_other_here", "_law_spot"], sc := defScope (top 45), st := defScope (top 45), own := [6], io := none, calm := true, loops := true, tries := false, fns := [("_law_spots", f_law_spots), ("_law_may", f_law_may), ("_law_first", f_law_first)], mks := [], mts := [], cst := [], exs := [], cls := clsL, exc := none }
def f_law_nexts : Fn := mkFn 40 (x_law_nexts f_law_spots f_law_may f_law_first) (defBody (top 45))
def x_spots : Ctx := { np := 1, N := ["marks", "found", "place", "trend"], sc := defScope (top 6), st := defScope (top 6), own := [1], io := none, calm := true, loops := true, tries := false, fns := [], mks := [], mts := [], cst := [("TRENDS", c_TRENDS)], exs := [], cls := clsL, exc := none }
def f_spots : Fn := mkFn 40 x_spots (defBody (top 6))
def x_need_room (f_spots : Fn) : Ctx := { np := 2, N := ["house", "room", "spot", "thing"], sc := defScope (top 7), st := defScope (top 7), own := [], io := none, calm := true, loops := true, tries := false, fns := [("spots", f_spots)], mks := [], mts := [], cst := [], exs := [("BadRoom", [])], cls := clsL, exc := none }
def f_need_room : Fn := mkFn 40 (x_need_room f_spots) (defBody (top 7))
def x_spots_next : Ctx := { np := 2, N := ["spot", "marks", "found", "met", "place", "trend", "other"], sc := defScope (top 14), st := defScope (top 14), own := [2], io := none, calm := true, loops := true, tries := false, fns := [], mks := [], mts := [], cst := [], exs := [], cls := clsL, exc := none }
def f_spots_next : Fn := mkFn 40 x_spots_next (defBody (top 14))
def x_all_rows : Ctx := { np := 1, N := ["some", "found", "row", "longer", "one", "spot"], sc := defScope (top 12), st := defScope (top 12), own := [1, 3], io := none, calm := true, loops := true, tries := false, fns := [], mks := [], mts := [], cst := [], exs := [], cls := clsL, exc := none }
def f_all_rows : Fn := mkFn 40 x_all_rows (defBody (top 12))
def x_may_sum : Ctx := { np := 3, N := ["one", "other", "whole"], sc := defScope (top 9), st := defScope (top 9), own := [], io := none, calm := true, loops := true, tries := false, fns := [], mks := [], mts := [], cst := [], exs := [], cls := clsL, exc := none }
def f_may_sum : Fn := mkFn 40 x_may_sum (defBody (top 9))
def x_side : Ctx := { np := 3, N := ["room", "thing", "mark", "place"], sc := defScope (top 8), st := defScope (top 8), own := [], io := none, calm := true, loops := true, tries := false, fns := [], mks := [], mts := [], cst := [], exs := [], cls := clsL, exc := none }
def f_side : Fn := mkFn 40 x_side (defBody (top 8))
def x_keeps (f_may_sum f_side : Fn) : Ctx := { np := 2, N := ["room", "tie", "word", "trend"], sc := defScope (top 10), st := defScope (top 10), own := [], io := none, calm := true, loops := true, tries := false, fns := [("may_sum", f_may_sum), ("side", f_side)], mks := [], mts := [], cst := [], exs := [], cls := clsL, exc := none }
def f_keeps : Fn := mkFn 40 (x_keeps f_may_sum f_side) (defBody (top 10))
def x_first_broken (f_keeps : Fn) : Ctx := { np := 2, N := ["house", "room", "number"], sc := defScope (top 11), st := defScope (top 11), own := [], io := none, calm := true, loops := true, tries := false, fns := [("keeps", f_keeps)], mks := [], mts := [], cst := [], exs := [], cls := clsL, exc := none }
def f_first_broken : Fn := mkFn 40 (x_first_broken f_keeps) (defBody (top 11))
def x_all_next (f_spots_next f_all_rows f_first_broken : Fn) : Ctx := { np := 2, N := ["house", "room", "some", "every", "k", "other"], sc := defScope (top 16), st := defScope (top 16), own := [], io := none, calm := true, loops := true, tries := false, fns := [("spots_next", f_spots_next), ("all_rows", f_all_rows), ("first_broken", f_first_broken)], mks := [], mts := [], cst := [], exs := [], cls := clsL, exc := none }
def f_all_next : Fn := mkFn 40 (x_all_next f_spots_next f_all_rows f_first_broken) (defBody (top 16))
def x_nexts (f_need_room f_all_next : Fn) : Ctx := { np := 2, N := ["house", "room"], sc := defScope (top 17), st := defScope (top 17), own := [], io := none, calm := true, loops := true, tries := false, fns := [("need_room", f_need_room), ("all_next", f_all_next)], mks := [], mts := [], cst := [], exs := [], cls := clsL, exc := none }
def f_nexts : Fn := mkFn 40 (x_nexts f_need_room f_all_next) (defBody (top 17))
def x_law_alike (f_law_alike : Fn) : Ctx := { np := 2, N := ["_law_found", "_law_due", "_law_k"], sc := defScope (top 46), st := defScope (top 46), own := [], io := none, calm := true, loops := true, tries := false, fns := [("_law_alike", f_law_alike)], mks := [], mts := [], cst := [], exs := [], cls := clsL, exc := none }
def r_law_alike : Nat → Fn
  | 0 => noFn
  | n + 1 => mkFn 40 (x_law_alike (r_law_alike n)) (defBody (top 46))
def f_law_alike : Fn := r_law_alike 6
def x_law_other (f_law_taken f_law_any f_law_room f_law_spots f_law_may : Fn) : Ctx := { np := 4, N := ["_law_row", "_law_things_here", "_law_ties_here", "_law_room_here", "_law_due", "_law_way", "_law_found", "_law_k", "_law_some", "_law_spot"], sc := defScope (top 48), st := defScope (top 48), own := [6], io := some 0, calm := true, loops := true, tries := false, fns := [("_law_taken", f_law_taken), ("_law_any", f_law_any), ("_law_room", f_law_room), ("_law_spots", f_law_spots), ("_law_may", f_law_may)], mks := [], mts := [], cst := [], exs := [], cls := clsL, exc := none }
def f_law_other : Fn := mkFn 40 (x_law_other f_law_taken f_law_any f_law_room f_law_spots f_law_may) (defBody (top 48))
def x_first_barred (f_spots_next : Fn) : Ctx := { np := 3, N := ["house", "room", "other", "number"], sc := defScope (top 15), st := defScope (top 15), own := [], io := none, calm := true, loops := true, tries := false, fns := [("spots_next", f_spots_next)], mks := [], mts := [], cst := [], exs := [], cls := clsL, exc := none }
def f_first_barred : Fn := mkFn 40 (x_first_barred f_spots_next) (defBody (top 15))
def x_why_not (f_need_room f_first_barred f_first_broken : Fn) : Ctx := { np := 3, N := ["house", "room", "other", "thing", "tie"], sc := defScope (top 18), st := defScope (top 18), own := [], io := none, calm := true, loops := true, tries := false, fns := [("need_room", f_need_room), ("first_barred", f_first_barred), ("first_broken", f_first_broken)], mks := [], mts := [], cst := [], exs := [], cls := clsL, exc := none }
def f_why_not : Fn := mkFn 40 (x_why_not f_need_room f_first_barred f_first_broken) (defBody (top 18))
def x_law_refused (f_nexts f_why_not : Fn) : Ctx := { np := 3, N := ["_law_house", "_law_room_here", "_law_odd_here", "_law_told", "_law_way"], sc := defScope (top 50), st := defScope (top 50), own := [3], io := none, calm := true, loops := true, tries := true, fns := [("nexts", f_nexts), ("why_not", f_why_not)], mks := [], mts := [], cst := [], exs := [], cls := clsL, exc := none }
def f_law_refused : Fn := mkFn 40 (x_law_refused f_nexts f_why_not) (defBody (top 50))
def x_law_odd (f_law_any f_law_taken : Fn) : Ctx := { np := 1, N := ["_law_row", "_law_things_here", "_law_room_here", "_law_k", "_law_most", "_law_way", "_law_some"], sc := defScope (top 47), st := defScope (top 47), own := [], io := some 0, calm := true, loops := true, tries := false, fns := [("_law_any", f_law_any), ("_law_taken", f_law_taken)], mks := [], mts := [], cst := [], exs := [], cls := clsL, exc := none }
def f_law_odd : Fn := mkFn 40 (x_law_odd f_law_any f_law_taken) (defBody (top 47))
def x_law_why (f_law_first f_law_may : Fn) : Ctx := { np := 3, N := ["_law_ties_here", "_law_room_here", "_law_other_here", "_law_number", "_law_tie_here"], sc := defScope (top 49), st := defScope (top 49), own := [], io := none, calm := true, loops := true, tries := false, fns := [("_law_first", f_law_first), ("_law_may", f_law_may)], mks := [], mts := [], cst := [], exs := [], cls := clsL, exc := none }
def f_law_why : Fn := mkFn 40 (x_law_why f_law_first f_law_may) (defBody (top 49))
def x_must : Ctx := { np := 3, N := ["good", "word", "number"], sc := defScope (top 28), st := defScope (top 28), own := [], io := none, calm := true, loops := true, tries := false, fns := [], mks := [], mts := [], cst := [], exs := [], cls := clsL, exc := none }
def f_must : Fn := mkFn 40 x_must (defBody (top 28))
def x_is_name : Ctx := { np := 1, N := ["text", "sign"], sc := defScope (top 29), st := defScope (top 29), own := [], io := none, calm := true, loops := true, tries := false, fns := [], mks := [], mts := [], cst := [("LONGEST_NAME", c_LONGEST_NAME), ("LETTERS", c_LETTERS)], exs := [], cls := clsL, exc := none }
def f_is_name : Fn := mkFn 40 x_is_name (defBody (top 29))
def x_are_marks : Ctx := { np := 1, N := ["marks", "k", "mark"], sc := defScope (top 30), st := defScope (top 30), own := [], io := none, calm := true, loops := true, tries := false, fns := [], mks := [], mts := [], cst := [("MOST_MARKS", c_MOST_MARKS), ("LEAST_APART", c_LEAST_APART), ("MOST_MARK", c_MOST_MARK)], exs := [], cls := clsL, exc := none }
def f_are_marks : Fn := mkFn 40 x_are_marks (defBody (top 30))
def x_House_is_tie : Ctx := { np := 2, N := ["self", "tie", "word", "things", "mark", "thing"], sc := defScope (inClass (top 31) 1), st := defScope (inClass (top 31) 1), own := [], io := none, calm := true, loops := true, tries := false, fns := [], mks := [], mts := [], cst := [("LENGTHS", c_LENGTHS)], exs := [], cls := clsL, exc := none }
def f_House_is_tie : Fn := mkFn 40 x_House_is_tie (defBody (inClass (top 31) 1))
def x_House_init (f_must f_is_name f_are_marks f_House_is_tie : Fn) : Ctx := { np := 3, N := ["self", "things", "ties", "number", "good", "name", "marks", "thing"], sc := defScope (inClass (top 31) 0), st := defScope (inClass (top 31) 0), own := [], io := none, calm := true, loops := true, tries := false, fns := [("must", f_must), ("is_name", f_is_name), ("are_marks", f_are_marks)], mks := [], mts := [("is_tie", f_House_is_tie)], cst := [("MOST_THINGS", c_MOST_THINGS), ("MOST_TIES", c_MOST_TIES)], exs := [], cls := clsL, exc := none }
def f_House : Fn := ⟨false, houRun 40 (x_House_init f_must f_is_name f_are_marks f_House_is_tie) (defBody (inClass (top 31) 0))⟩
def x_law (f_law_things f_law_ties f_law_room f_law_nexts f_nexts f_law_alike f_law_other f_law_refused f_law_odd f_why_not f_law_why f_House : Fn) : Ctx := { np := 1, N := ["_law_script", "_law_row", "_law_things_here", "_law_ties_here", "_law_house", "_law_room_here", "_law_due", "_law_found", "_law_turn", "_law_other_here"], sc := defScope (top 51), st := defScope (top 51), own := [7], io := some 1, calm := true, loops := true, tries := false, fns := [("_law_things", f_law_things), ("_law_ties", f_law_ties), ("_law_room", f_law_room), ("_law_nexts", f_law_nexts), ("nexts", f_nexts), ("_law_alike", f_law_alike), ("_law_other", f_law_other), ("_law_refused", f_law_refused), ("_law_odd", f_law_odd), ("why_not", f_why_not), ("_law_why", f_law_why)], mks := [("House", f_House)], mts := [], cst := [], exs := [], cls := clsL, exc := none }
def f_law : Fn := mkFn 40 (x_law f_law_things f_law_ties f_law_room f_law_nexts f_nexts f_law_alike f_law_other f_law_refused f_law_odd f_why_not f_law_why f_House) (defBody (top 51))
theorem q_law_taken : mkFn 40 x_law_taken (defBody (top 33)) = m_law_taken  := by kernel_rfl
theorem e_law_taken : f_law_taken = F_law_taken := by
  unfold f_law_taken
  rw [q_law_taken]
  rfl
theorem q_law_marks (f_law_taken : Fn) : mkFn 40 (x_law_marks f_law_taken) (defBody (top 34)) = m_law_marks f_law_taken := by kernel_rfl
theorem e_law_marks : f_law_marks = F_law_marks := by
  unfold f_law_marks
  rw [q_law_marks, e_law_taken]
  rfl
theorem q_law_things (f_law_taken f_law_marks : Fn) : mkFn 40 (x_law_things f_law_taken f_law_marks) (defBody (top 35)) = m_law_things f_law_taken f_law_marks := by kernel_rfl
theorem e_law_things : f_law_things = F_law_things := by
  unfold f_law_things
  rw [q_law_things, e_law_taken, e_law_marks]
  rfl
theorem q_law_tie (f_law_taken : Fn) : mkFn 40 (x_law_tie f_law_taken) (defBody (top 36)) = m_law_tie f_law_taken := by kernel_rfl
theorem e_law_tie : f_law_tie = F_law_tie := by
  unfold f_law_tie
  rw [q_law_tie, e_law_taken]
  rfl
theorem q_law_ties (f_law_tie f_law_taken : Fn) : mkFn 40 (x_law_ties f_law_tie f_law_taken) (defBody (top 37)) = m_law_ties f_law_tie f_law_taken := by kernel_rfl
theorem e_law_ties : f_law_ties = F_law_ties := by
  unfold f_law_ties
  rw [q_law_ties, e_law_tie, e_law_taken]
  rfl
theorem q_law_keeps : mkFn 40 x_law_keeps (defBody (top 39)) = m_law_keeps  := by kernel_rfl
theorem e_law_keeps : f_law_keeps = F_law_keeps := by
  unfold f_law_keeps
  rw [q_law_keeps]
  rfl
theorem q_law_first (f_law_keeps : Fn) : mkFn 40 (x_law_first f_law_keeps) (defBody (top 40)) = m_law_first f_law_keeps := by kernel_rfl
theorem e_law_first : f_law_first = F_law_first := by
  unfold f_law_first
  rw [q_law_first, e_law_keeps]
  rfl
theorem q_law_spots : mkFn 40 x_law_spots (defBody (top 38)) = m_law_spots  := by kernel_rfl
theorem e_law_spots : f_law_spots = F_law_spots := by
  unfold f_law_spots
  rw [q_law_spots]
  rfl
theorem q_law_rooms (f_law_first f_law_spots : Fn) : mkFn 40 (x_law_rooms f_law_first f_law_spots) (defBody (top 41)) = m_law_rooms f_law_first f_law_spots := by kernel_rfl
theorem e_law_rooms : f_law_rooms = F_law_rooms := by
  unfold f_law_rooms
  rw [q_law_rooms, e_law_first, e_law_spots]
  rfl
theorem q_law_any (f_law_spots f_law_taken : Fn) : mkFn 40 (x_law_any f_law_spots f_law_taken) (defBody (top 42)) = m_law_any f_law_spots f_law_taken := by kernel_rfl
theorem e_law_any : f_law_any = F_law_any := by
  unfold f_law_any
  rw [q_law_any, e_law_spots, e_law_taken]
  rfl
theorem q_law_room (f_law_rooms f_law_any f_law_taken : Fn) : mkFn 40 (x_law_room f_law_rooms f_law_any f_law_taken) (defBody (top 43)) = m_law_room f_law_rooms f_law_any f_law_taken := by kernel_rfl
theorem e_law_room : f_law_room = F_law_room := by
  unfold f_law_room
  rw [q_law_room, e_law_rooms, e_law_any, e_law_taken]
  rfl
theorem q_law_may : mkFn 40 x_law_may (defBody (top 44)) = m_law_may  := by kernel_rfl
theorem e_law_may : f_law_may = F_law_may := by
  unfold f_law_may
  rw [q_law_may]
  rfl
theorem q_law_nexts (f_law_spots f_law_may f_law_first : Fn) : mkFn 40 (x_law_nexts f_law_spots f_law_may f_law_first) (defBody (top 45)) = m_law_nexts f_law_spots f_law_may f_law_first := by kernel_rfl
theorem e_law_nexts : f_law_nexts = F_law_nexts := by
  unfold f_law_nexts
  rw [q_law_nexts, e_law_spots, e_law_may, e_law_first]
  rfl
theorem q_spots : mkFn 40 x_spots (defBody (top 6)) = m_spots  := by kernel_rfl
theorem e_spots : f_spots = F_spots := by
  unfold f_spots
  rw [q_spots]
  rfl
theorem q_need_room (f_spots : Fn) : mkFn 40 (x_need_room f_spots) (defBody (top 7)) = m_need_room f_spots := by kernel_rfl
theorem e_need_room : f_need_room = F_need_room := by
  unfold f_need_room
  rw [q_need_room, e_spots]
  rfl
theorem q_spots_next : mkFn 40 x_spots_next (defBody (top 14)) = m_spots_next  := by kernel_rfl
theorem e_spots_next : f_spots_next = F_spots_next := by
  unfold f_spots_next
  rw [q_spots_next]
  rfl
theorem q_all_rows : mkFn 40 x_all_rows (defBody (top 12)) = m_all_rows  := by kernel_rfl
theorem e_all_rows : f_all_rows = F_all_rows := by
  unfold f_all_rows
  rw [q_all_rows]
  rfl
theorem q_may_sum : mkFn 40 x_may_sum (defBody (top 9)) = m_may_sum  := by kernel_rfl
theorem e_may_sum : f_may_sum = F_may_sum := by
  unfold f_may_sum
  rw [q_may_sum]
  rfl
theorem q_side : mkFn 40 x_side (defBody (top 8)) = m_side  := by kernel_rfl
theorem e_side : f_side = F_side := by
  unfold f_side
  rw [q_side]
  rfl
theorem q_keeps (f_may_sum f_side : Fn) : mkFn 40 (x_keeps f_may_sum f_side) (defBody (top 10)) = m_keeps f_may_sum f_side := by kernel_rfl
theorem e_keeps : f_keeps = F_keeps := by
  unfold f_keeps
  rw [q_keeps, e_may_sum, e_side]
  rfl
theorem q_first_broken (f_keeps : Fn) : mkFn 40 (x_first_broken f_keeps) (defBody (top 11)) = m_first_broken f_keeps := by kernel_rfl
theorem e_first_broken : f_first_broken = F_first_broken := by
  unfold f_first_broken
  rw [q_first_broken, e_keeps]
  rfl
theorem q_all_next (f_spots_next f_all_rows f_first_broken : Fn) : mkFn 40 (x_all_next f_spots_next f_all_rows f_first_broken) (defBody (top 16)) = m_all_next f_spots_next f_all_rows f_first_broken := by kernel_rfl
theorem e_all_next : f_all_next = F_all_next := by
  unfold f_all_next
  rw [q_all_next, e_spots_next, e_all_rows, e_first_broken]
  rfl
theorem q_nexts (f_need_room f_all_next : Fn) : mkFn 40 (x_nexts f_need_room f_all_next) (defBody (top 17)) = m_nexts f_need_room f_all_next := by kernel_rfl
theorem e_nexts : f_nexts = F_nexts := by
  unfold f_nexts
  rw [q_nexts, e_need_room, e_all_next]
  rfl
theorem q_law_alike (f_law_alike : Fn) : mkFn 40 (x_law_alike f_law_alike) (defBody (top 46)) = m_law_alike f_law_alike := by kernel_rfl
theorem e_law_alike : f_law_alike = F_law_alike := by
  have h : ∀ n, r_law_alike n = R_law_alike n := by
    intro n
    induction n with
    | zero => rfl
    | succ n ih =>
      show mkFn 40 (x_law_alike (r_law_alike n)) (defBody (top 46)) = m_law_alike (R_law_alike n)
      rw [q_law_alike, ih]
  exact h 6
theorem q_law_other (f_law_taken f_law_any f_law_room f_law_spots f_law_may : Fn) : mkFn 40 (x_law_other f_law_taken f_law_any f_law_room f_law_spots f_law_may) (defBody (top 48)) = m_law_other f_law_taken f_law_any f_law_room f_law_spots f_law_may := by kernel_rfl
theorem e_law_other : f_law_other = F_law_other := by
  unfold f_law_other
  rw [q_law_other, e_law_taken, e_law_any, e_law_room, e_law_spots, e_law_may]
  rfl
theorem q_first_barred (f_spots_next : Fn) : mkFn 40 (x_first_barred f_spots_next) (defBody (top 15)) = m_first_barred f_spots_next := by kernel_rfl
theorem e_first_barred : f_first_barred = F_first_barred := by
  unfold f_first_barred
  rw [q_first_barred, e_spots_next]
  rfl
theorem q_why_not (f_need_room f_first_barred f_first_broken : Fn) : mkFn 40 (x_why_not f_need_room f_first_barred f_first_broken) (defBody (top 18)) = m_why_not f_need_room f_first_barred f_first_broken := by kernel_rfl
theorem e_why_not : f_why_not = F_why_not := by
  unfold f_why_not
  rw [q_why_not, e_need_room, e_first_barred, e_first_broken]
  rfl
theorem q_law_refused (f_nexts f_why_not : Fn) : mkFn 40 (x_law_refused f_nexts f_why_not) (defBody (top 50)) = m_law_refused f_nexts f_why_not := by kernel_rfl
theorem e_law_refused : f_law_refused = F_law_refused := by
  unfold f_law_refused
  rw [q_law_refused, e_nexts, e_why_not]
  rfl
theorem q_law_odd (f_law_any f_law_taken : Fn) : mkFn 40 (x_law_odd f_law_any f_law_taken) (defBody (top 47)) = m_law_odd f_law_any f_law_taken := by kernel_rfl
theorem e_law_odd : f_law_odd = F_law_odd := by
  unfold f_law_odd
  rw [q_law_odd, e_law_any, e_law_taken]
  rfl
theorem q_law_why (f_law_first f_law_may : Fn) : mkFn 40 (x_law_why f_law_first f_law_may) (defBody (top 49)) = m_law_why f_law_first f_law_may := by kernel_rfl
theorem e_law_why : f_law_why = F_law_why := by
  unfold f_law_why
  rw [q_law_why, e_law_first, e_law_may]
  rfl
theorem q_must : mkFn 40 x_must (defBody (top 28)) = m_must0  := by kernel_rfl
theorem e_must : f_must = F_must0 := by
  unfold f_must
  rw [q_must]
  rfl
theorem q_is_name : mkFn 40 x_is_name (defBody (top 29)) = m_is_name  := by kernel_rfl
theorem e_is_name : f_is_name = F_is_name := by
  unfold f_is_name
  rw [q_is_name]
  rfl
theorem q_are_marks : mkFn 40 x_are_marks (defBody (top 30)) = m_are_marks  := by kernel_rfl
theorem e_are_marks : f_are_marks = F_are_marks := by
  unfold f_are_marks
  rw [q_are_marks]
  rfl
theorem q_House_is_tie : mkFn 40 x_House_is_tie (defBody (inClass (top 31) 1)) = m_House_is_tie  := by kernel_rfl
theorem e_House_is_tie : f_House_is_tie = F_House_is_tie := by
  unfold f_House_is_tie
  rw [q_House_is_tie]
  rfl
theorem q_House_init (f_must f_is_name f_are_marks f_House_is_tie : Fn) : (⟨false, houRun 40 (x_House_init f_must f_is_name f_are_marks f_House_is_tie) (defBody (inClass (top 31) 0))⟩ : Fn) = m_House_init f_must f_is_name f_are_marks f_House_is_tie := by kernel_rfl
theorem e_House_init : f_House = F_House0 := by
  unfold f_House
  rw [q_House_init, e_must, e_is_name, e_are_marks, e_House_is_tie]
  rfl
theorem q_law (f_law_things f_law_ties f_law_room f_law_nexts f_nexts f_law_alike f_law_other f_law_refused f_law_odd f_why_not f_law_why f_House : Fn) : mkFn 40 (x_law f_law_things f_law_ties f_law_room f_law_nexts f_nexts f_law_alike f_law_other f_law_refused f_law_odd f_why_not f_law_why f_House) (defBody (top 51)) = m_law f_law_things f_law_ties f_law_room f_law_nexts f_nexts f_law_alike f_law_other f_law_refused f_law_odd f_why_not f_law_why f_House := by kernel_rfl
theorem e_law : f_law = F_law := by
  unfold f_law
  rw [q_law, e_law_things, e_law_ties, e_law_room, e_law_nexts, e_nexts, e_law_alike, e_law_other, e_law_refused, e_law_odd, e_why_not, e_law_why, e_House_init]
  rfl
def d_law_taken : He.DefD := ⟨("_law_taken", none), "_law_taken", "_law_taken", defArgs (top 33), defBody (top 33), defScope (top 33), [], []⟩
def d_law_marks : He.DefD := ⟨("_law_marks", none), "_law_marks", "_law_marks", defArgs (top 34), defBody (top 34), defScope (top 34), [], []⟩
def d_law_things : He.DefD := ⟨("_law_things", none), "_law_things", "_law_things", defArgs (top 35), defBody (top 35), defScope (top 35), [], []⟩
def d_law_tie : He.DefD := ⟨("_law_tie", none), "_law_tie", "_law_tie", defArgs (top 36), defBody (top 36), defScope (top 36), [], []⟩
def d_law_ties : He.DefD := ⟨("_law_ties", none), "_law_ties", "_law_ties", defArgs (top 37), defBody (top 37), defScope (top 37), [], []⟩
def d_law_keeps : He.DefD := ⟨("_law_keeps", none), "_law_keeps", "_law_keeps", defArgs (top 39), defBody (top 39), defScope (top 39), [], []⟩
def d_law_first : He.DefD := ⟨("_law_first", none), "_law_first", "_law_first", defArgs (top 40), defBody (top 40), defScope (top 40), [], []⟩
def d_law_spots : He.DefD := ⟨("_law_spots", none), "_law_spots", "_law_spots", defArgs (top 38), defBody (top 38), defScope (top 38), [], []⟩
def d_law_rooms : He.DefD := ⟨("_law_rooms", none), "_law_rooms", "_law_rooms", defArgs (top 41), defBody (top 41), defScope (top 41), [], []⟩
def d_law_any : He.DefD := ⟨("_law_any", none), "_law_any", "_law_any", defArgs (top 42), defBody (top 42), defScope (top 42), [], []⟩
def d_law_room : He.DefD := ⟨("_law_room", none), "_law_room", "_law_room", defArgs (top 43), defBody (top 43), defScope (top 43), [], []⟩
def d_law_may : He.DefD := ⟨("_law_may", none), "_law_may", "_law_may", defArgs (top 44), defBody (top 44), defScope (top 44), [], []⟩
def d_law_nexts : He.DefD := ⟨("_law_nexts", none), "_law_nexts", "_law_nexts", defArgs (top 45), defBody (top 45), defScope (top 45), [], []⟩
def d_spots : He.DefD := ⟨("spots", none), "spots", "spots", defArgs (top 6), defBody (top 6), defScope (top 6), [], []⟩
def d_need_room : He.DefD := ⟨("need_room", none), "need_room", "need_room", defArgs (top 7), defBody (top 7), defScope (top 7), [], []⟩
def d_spots_next : He.DefD := ⟨("spots_next", none), "spots_next", "spots_next", defArgs (top 14), defBody (top 14), defScope (top 14), [], []⟩
def d_all_rows : He.DefD := ⟨("all_rows", none), "all_rows", "all_rows", defArgs (top 12), defBody (top 12), defScope (top 12), [], []⟩
def d_may_sum : He.DefD := ⟨("may_sum", none), "may_sum", "may_sum", defArgs (top 9), defBody (top 9), defScope (top 9), [], []⟩
def d_side : He.DefD := ⟨("side", none), "side", "side", defArgs (top 8), defBody (top 8), defScope (top 8), [], []⟩
def d_keeps : He.DefD := ⟨("keeps", none), "keeps", "keeps", defArgs (top 10), defBody (top 10), defScope (top 10), [], []⟩
def d_first_broken : He.DefD := ⟨("first_broken", none), "first_broken", "first_broken", defArgs (top 11), defBody (top 11), defScope (top 11), [], []⟩
def d_all_next : He.DefD := ⟨("all_next", none), "all_next", "all_next", defArgs (top 16), defBody (top 16), defScope (top 16), [], []⟩
def d_nexts : He.DefD := ⟨("nexts", none), "nexts", "nexts", defArgs (top 17), defBody (top 17), defScope (top 17), [], []⟩
def d_law_alike : He.DefD := ⟨("_law_alike", none), "_law_alike", "_law_alike", defArgs (top 46), defBody (top 46), defScope (top 46), [], []⟩
def d_law_other : He.DefD := ⟨("_law_other", none), "_law_other", "_law_other", defArgs (top 48), defBody (top 48), defScope (top 48), [], []⟩
def d_first_barred : He.DefD := ⟨("first_barred", none), "first_barred", "first_barred", defArgs (top 15), defBody (top 15), defScope (top 15), [], []⟩
def d_why_not : He.DefD := ⟨("why_not", none), "why_not", "why_not", defArgs (top 18), defBody (top 18), defScope (top 18), [], []⟩
def d_law_refused : He.DefD := ⟨("_law_refused", none), "_law_refused", "_law_refused", defArgs (top 50), defBody (top 50), defScope (top 50), [], []⟩
def d_law_odd : He.DefD := ⟨("_law_odd", none), "_law_odd", "_law_odd", defArgs (top 47), defBody (top 47), defScope (top 47), [], []⟩
def d_law_why : He.DefD := ⟨("_law_why", none), "_law_why", "_law_why", defArgs (top 49), defBody (top 49), defScope (top 49), [], []⟩
def d_must : He.DefD := ⟨("must", none), "must", "must", defArgs (top 28), defBody (top 28), defScope (top 28), [], []⟩
def d_is_name : He.DefD := ⟨("is_name", none), "is_name", "is_name", defArgs (top 29), defBody (top 29), defScope (top 29), [], []⟩
def d_are_marks : He.DefD := ⟨("are_marks", none), "are_marks", "are_marks", defArgs (top 30), defBody (top 30), defScope (top 30), [], []⟩
def d_House_is_tie : He.DefD := ⟨("House", some "is_tie"), "is_tie", "House.is_tie", defArgs (inClass (top 31) 1), defBody (inClass (top 31) 1), defScope (inClass (top 31) 1), [], []⟩
def d_House_init : He.DefD := ⟨("House", some "__init__"), "__init__", "House.__init__", defArgs (inClass (top 31) 0), defBody (inClass (top 31) 0), defScope (inClass (top 31) 0), [], []⟩
def d_law : He.DefD := ⟨("law", none), "law", "law", defArgs (top 51), defBody (top 51), defScope (top 51), [], []⟩
def fnL : List He.DefD := [d_law_taken, d_law_marks, d_law_things, d_law_tie, d_law_ties, d_law_keeps, d_law_first, d_law_spots, d_law_rooms, d_law_any, d_law_room, d_law_may, d_law_nexts, d_spots, d_need_room, d_spots_next, d_all_rows, d_may_sum, d_side, d_keeps, d_first_broken, d_all_next, d_nexts, d_law_alike, d_law_other, d_first_barred, d_why_not, d_law_refused, d_law_odd, d_law_why, d_must, d_is_name, d_are_marks, d_House_is_tie, d_House_init, d_law]
def faL : List He.Fa := [.glo "TrendError", .glo "BadHouse", .glo "BadRoom", .glo "spots", .glo "need_room", .glo "side", .glo "may_sum", .glo "keeps", .glo "first_broken", .glo "all_rows", .glo "spots_next", .glo "first_barred", .glo "all_next", .glo "nexts", .glo "why_not", .glo "must", .glo "is_name", .glo "are_marks", .glo "House", .glo "_law_taken", .glo "_law_marks", .glo "_law_things", .glo "_law_tie", .glo "_law_ties", .glo "_law_spots", .glo "_law_keeps", .glo "_law_first", .glo "_law_rooms", .glo "_law_any", .glo "_law_room", .glo "_law_may", .glo "_law_nexts", .glo "_law_alike", .glo "_law_odd", .glo "_law_other", .glo "_law_why", .glo "_law_refused", .glo "law", .free "len", .free "int", .free "list", .free "tuple", .free "abs", .free "max", .free "min", .free "range", .free "zip", .free "isinstance", .free "bool", .free "str", .free "enumerate", .free "reversed", .free "sorted", .free "set", .free "ValueError", .glo "TRENDS", .str "LETTERS" "abcdefghijklmnopqrstuvwxyz", .int "LONGEST_NAME" (8), .int "MOST_THINGS" (3), .int "MOST_MARKS" (3), .int "MOST_MARK" (99), .int "LEAST_APART" (2), .int "MOST_TIES" (6), .glo "LENGTHS", .cls "House", .noat "House" "kept_things", .noat "House" "kept_ties", .meth "House" "is_tie", .mkr "House", .exc "BadRoom"]
def names0 : List PySem.Str := ["TrendError", "BadHouse", "BadRoom", "TRENDS", "spots", "need_room", "side", "may_sum", "keeps", "first_broken", "all_rows", "spots_next", "first_barred", "all_next", "nexts", "why_not", "LETTERS", "LONGEST_NAME", "MOST_THINGS", "MOST_MARKS"]
def names1 : List PySem.Str := ["MOST_MARK", "LEAST_APART", "MOST_TIES", "LENGTHS", "must", "is_name", "are_marks", "House", "_law_taken", "_law_marks", "_law_things", "_law_tie", "_law_ties", "_law_spots", "_law_keeps", "_law_first", "_law_rooms", "_law_any", "_law_room", "_law_may"]
def names2 : List PySem.Str := ["_law_nexts", "_law_alike", "_law_odd", "_law_other", "_law_why", "_law_refused"]
def names : List PySem.Str := names0 ++ names1 ++ names2
abbrev RR : PySem.W.OpenRow := PySem.W.OpenLaw.row PySem.Challenge.rw_trendhouse_k03_what_comes_next_and_why_n
def exL (K : PySem.W.Frag) : Bool := kitsB clsL K && (He.tupB K "TRENDS" ([(-1 : Int), (0 : Int), (1 : Int)].map He.Dv.int) && (tabB K "LENGTHS" ["with", "against", "sum", "product", "rate", "under", "over"] [3, 3, 4, 4, 4, 3, 3] tblNo))
def tsL : List He.Tab := [((fun K => He.ga K "LENGTHS"), ["with", "against", "sum", "product", "rate", "under", "over"])]
abbrev hkL : PySem.W.Hook := He.hookX 5 faL fnL tsL [] exL
def obL (s : PySem.W.SharedT) : He.AlX := He.obsX 5 faL fnL tsL [] exL (HandSHeadRun.getT s)
theorem ob_eqL (s : PySem.W.SharedT) : obL s = hkL.obs s.abs := He.obsX_eq (HandSHeadRun.getT_eq s)
theorem runL (w : World) : HandSHeadRun.RunEq RR (PySem.W.view RR.prog [51]) hkL obL 6000 names w :=
  PySem.W.byRow2 "special-get-raises" (P := fun w => HandSHeadRun.RunEq RR (PySem.W.view RR.prog [51]) hkL obL 6000 names w) (fun w os => by kernel_rfl) (fun w os => by kernel_rfl) w
theorem sc_law_taken : FnScope ["_law_row", "_law_many", "_law_cell"] ["_law_row", "_law_many"] (defScope (top 33)) := ⟨rfl, rfl, rfl, by decide +kernel, rfl, by decide +kernel, by decide +kernel⟩
theorem sc_law_marks : FnScope ["_law_row", "_law_many", "_law_far", "_law_found", "_law_k", "_law_begin", "_law_mark"] ["_law_row", "_law_many", "_law_far"] (defScope (top 34)) := ⟨rfl, rfl, rfl, by decide +kernel, rfl, by decide +kernel, by decide +kernel⟩
theorem sc_law_things : FnScope ["_law_row", "_law_most", "_law_long", "_law_turn", "_law_base", "_law_cut", "_law_within", "_law_far", "_law_things_here", "_law_k", "_law_sign", "_law_name"] ["_law_row", "_law_most", "_law_long"] (defScope (top 35)) := ⟨rfl, rfl, rfl, by decide +kernel, rfl, by decide +kernel, by decide +kernel⟩
theorem sc_law_tie : FnScope ["_law_row", "_law_things_here", "_law_one", "_law_rest", "_law_way", "_law_other_here", "_law_k"] ["_law_row", "_law_things_here"] (defScope (top 36)) := ⟨rfl, rfl, rfl, by decide +kernel, rfl, by decide +kernel, by decide +kernel⟩
theorem sc_law_ties : FnScope ["_law_row", "_law_things_here", "_law_most", "_law_k"] ["_law_row", "_law_things_here", "_law_most"] (defScope (top 37)) := ⟨rfl, rfl, rfl, by decide +kernel, rfl, by decide +kernel, by decide +kernel⟩
theorem sc_law_keeps : FnScope ["_law_tie_here", "_law_room_here", "_law_word", "_law_trend", "_law_other_here", "_law_last", "_law_tried", "_law_far", "_law_one"] ["_law_tie_here", "_law_room_here"] (defScope (top 39)) := ⟨rfl, rfl, rfl, by decide +kernel, rfl, by decide +kernel, by decide +kernel⟩
theorem sc_law_first : FnScope ["_law_ties_here", "_law_room_here", "_law_number"] ["_law_ties_here", "_law_room_here"] (defScope (top 40)) := ⟨rfl, rfl, rfl, by decide +kernel, rfl, by decide +kernel, by decide +kernel⟩
theorem sc_law_spots : FnScope ["_law_marks_here", "_law_found", "_law_place"] ["_law_marks_here"] (defScope (top 38)) := ⟨rfl, rfl, rfl, by decide +kernel, rfl, by decide +kernel, by decide +kernel⟩
theorem sc_law_rooms : FnScope ["_law_things_here", "_law_ties_here", "_law_found", "_law_name", "_law_marks_here", "_law_longer", "_law_one", "_law_room_here", "_law_spot"] ["_law_things_here", "_law_ties_here"] (defScope (top 41)) := ⟨rfl, rfl, rfl, by decide +kernel, rfl, by decide +kernel, by decide +kernel⟩
theorem sc_law_any : FnScope ["_law_row", "_law_things_here", "_law_found", "_law_name", "_law_marks_here", "_law_some"] ["_law_row", "_law_things_here"] (defScope (top 42)) := ⟨rfl, rfl, rfl, by decide +kernel, rfl, by decide +kernel, by decide +kernel⟩
theorem sc_law_room : FnScope ["_law_row", "_law_things_here", "_law_ties_here", "_law_every"] ["_law_row", "_law_things_here", "_law_ties_here"] (defScope (top 43)) := ⟨rfl, rfl, rfl, by decide +kernel, rfl, by decide +kernel, by decide +kernel⟩
theorem sc_law_may : FnScope ["_law_spot", "_law_other_here", "_law_ends", "_law_end", "_law_place", "_law_trend"] ["_law_spot", "_law_other_here"] (defScope (top 44)) := ⟨rfl, rfl, rfl, by decide +kernel, rfl, by decide +kernel, by decide +kernel⟩
theorem sc_law_nexts : FnScope ["_law_things_here", "_law_ties_here", "_law_room_here", "_law_found", "_law_k", "_law_some", "_law_longer", "_law_one", "_law_other_here", "_law_spot"] ["_law_things_here", "_law_ties_here", "_law_room_here"] (defScope (top 45)) := ⟨rfl, rfl, rfl, by decide +kernel, rfl, by decide +kernel, by decide +kernel⟩
theorem sc_spots : FnScope ["marks", "found", "place", "trend"] ["marks"] (defScope (top 6)) := ⟨rfl, rfl, rfl, by decide +kernel, rfl, by decide +kernel, by decide +kernel⟩
theorem sc_need_room : FnScope ["house", "room", "spot", "thing"] ["house", "room"] (defScope (top 7)) := ⟨rfl, rfl, rfl, by decide +kernel, rfl, by decide +kernel, by decide +kernel⟩
theorem sc_spots_next : FnScope ["spot", "marks", "found", "met", "place", "trend", "other"] ["spot", "marks"] (defScope (top 14)) := ⟨rfl, rfl, rfl, by decide +kernel, rfl, by decide +kernel, by decide +kernel⟩
theorem sc_all_rows : FnScope ["some", "found", "row", "longer", "one", "spot"] ["some"] (defScope (top 12)) := ⟨rfl, rfl, rfl, by decide +kernel, rfl, by decide +kernel, by decide +kernel⟩
theorem sc_may_sum : FnScope ["one", "other", "whole"] ["one", "other", "whole"] (defScope (top 9)) := ⟨rfl, rfl, rfl, by decide +kernel, rfl, by decide +kernel, by decide +kernel⟩
theorem sc_side : FnScope ["room", "thing", "mark", "place"] ["room", "thing", "mark"] (defScope (top 8)) := ⟨rfl, rfl, rfl, by decide +kernel, rfl, by decide +kernel, by decide +kernel⟩
theorem sc_keeps : FnScope ["room", "tie", "word", "trend"] ["room", "tie"] (defScope (top 10)) := ⟨rfl, rfl, rfl, by decide +kernel, rfl, by decide +kernel, by decide +kernel⟩
theorem sc_first_broken : FnScope ["house", "room", "number"] ["house", "room"] (defScope (top 11)) := ⟨rfl, rfl, rfl, by decide +kernel, rfl, by decide +kernel, by decide +kernel⟩
theorem sc_all_next : FnScope ["house", "room", "some", "every", "k", "other"] ["house", "room"] (defScope (top 16)) := ⟨rfl, rfl, rfl, by decide +kernel, rfl, by decide +kernel, by decide +kernel⟩
theorem sc_nexts : FnScope ["house", "room"] ["house", "room"] (defScope (top 17)) := ⟨rfl, rfl, rfl, by decide +kernel, rfl, by decide +kernel, by decide +kernel⟩
theorem sc_law_alike : FnScope ["_law_found", "_law_due", "_law_k"] ["_law_found", "_law_due"] (defScope (top 46)) := ⟨rfl, rfl, rfl, by decide +kernel, rfl, by decide +kernel, by decide +kernel⟩
theorem sc_law_other : FnScope ["_law_row", "_law_things_here", "_law_ties_here", "_law_room_here", "_law_due", "_law_way", "_law_found", "_law_k", "_law_some", "_law_spot"] ["_law_row", "_law_things_here", "_law_ties_here", "_law_room_here", "_law_due"] (defScope (top 48)) := ⟨rfl, rfl, rfl, by decide +kernel, rfl, by decide +kernel, by decide +kernel⟩
theorem sc_first_barred : FnScope ["house", "room", "other", "number"] ["house", "room", "other"] (defScope (top 15)) := ⟨rfl, rfl, rfl, by decide +kernel, rfl, by decide +kernel, by decide +kernel⟩
theorem sc_why_not : FnScope ["house", "room", "other", "thing", "tie"] ["house", "room", "other"] (defScope (top 18)) := ⟨rfl, rfl, rfl, by decide +kernel, rfl, by decide +kernel, by decide +kernel⟩
theorem sc_law_refused : FnScope ["_law_house", "_law_room_here", "_law_odd_here", "_law_told", "_law_way"] ["_law_house", "_law_room_here", "_law_odd_here"] (defScope (top 50)) := ⟨rfl, rfl, rfl, by decide +kernel, rfl, by decide +kernel, by decide +kernel⟩
theorem sc_law_odd : FnScope ["_law_row", "_law_things_here", "_law_room_here", "_law_k", "_law_most", "_law_way", "_law_some"] ["_law_row", "_law_things_here"] (defScope (top 47)) := ⟨rfl, rfl, rfl, by decide +kernel, rfl, by decide +kernel, by decide +kernel⟩
theorem sc_law_why : FnScope ["_law_ties_here", "_law_room_here", "_law_other_here", "_law_number", "_law_tie_here"] ["_law_ties_here", "_law_room_here", "_law_other_here"] (defScope (top 49)) := ⟨rfl, rfl, rfl, by decide +kernel, rfl, by decide +kernel, by decide +kernel⟩
theorem sc_must : FnScope ["good", "word", "number"] ["good", "word", "number"] (defScope (top 28)) := ⟨rfl, rfl, rfl, by decide +kernel, rfl, by decide +kernel, by decide +kernel⟩
theorem sc_is_name : FnScope ["text", "sign"] ["text"] (defScope (top 29)) := ⟨rfl, rfl, rfl, by decide +kernel, rfl, by decide +kernel, by decide +kernel⟩
theorem sc_are_marks : FnScope ["marks", "k", "mark"] ["marks"] (defScope (top 30)) := ⟨rfl, rfl, rfl, by decide +kernel, rfl, by decide +kernel, by decide +kernel⟩
theorem sc_House_is_tie : FnScope ["self", "tie", "word", "things", "mark", "thing"] ["self", "tie"] (defScope (inClass (top 31) 1)) := ⟨rfl, rfl, rfl, by decide +kernel, rfl, by decide +kernel, by decide +kernel⟩
theorem sc_House_init : FnScope ["self", "things", "ties", "number", "good", "name", "marks", "thing"] ["self", "things", "ties"] (defScope (inClass (top 31) 0)) := ⟨rfl, rfl, rfl, by decide +kernel, rfl, by decide +kernel, by decide +kernel⟩
theorem sc_law : FnScope ["_law_script", "_law_row", "_law_things_here", "_law_ties_here", "_law_house", "_law_room_here", "_law_due", "_law_found", "_law_turn", "_law_other_here"] ["_law_script"] (defScope (top 51)) := ⟨rfl, rfl, rfl, by decide +kernel, rfl, by decide +kernel, by decide +kernel⟩
theorem chain {prog : Program} {w : World} {K : PySem.W.Frag} {h : Heap} {mg : Str → Option Value} (KX : K.In h) (G : h.Ns mainGlobals mg) (c : He.SaysX faL fnL tsL [] exL w h K) :
    ∃ (f : Addr) (fd : FuncData), mg "law" = some (.ref f) ∧ (∀ (s : Shared) (u : Value), BindsTo s fd ⟨[u], []⟩ [("_law_script", u)]) ∧ ∀ base : Heap, FnOk prog w K mg base (L2.CX prog w) 8 f fd ["_law_script"] (spF ⟨prog, w, K, ⟨He.ga K "House", none⟩⟩ f_law) := by
  obtain ⟨fd_law_taken, FD_law_taken⟩ := c.t.d.def_ 0 (d := d_law_taken) rfl
  obtain ⟨fd_law_marks, FD_law_marks⟩ := c.t.d.def_ 1 (d := d_law_marks) rfl
  obtain ⟨fd_law_things, FD_law_things⟩ := c.t.d.def_ 2 (d := d_law_things) rfl
  obtain ⟨fd_law_tie, FD_law_tie⟩ := c.t.d.def_ 3 (d := d_law_tie) rfl
  obtain ⟨fd_law_ties, FD_law_ties⟩ := c.t.d.def_ 4 (d := d_law_ties) rfl
  obtain ⟨fd_law_keeps, FD_law_keeps⟩ := c.t.d.def_ 5 (d := d_law_keeps) rfl
  obtain ⟨fd_law_first, FD_law_first⟩ := c.t.d.def_ 6 (d := d_law_first) rfl
  obtain ⟨fd_law_spots, FD_law_spots⟩ := c.t.d.def_ 7 (d := d_law_spots) rfl
  obtain ⟨fd_law_rooms, FD_law_rooms⟩ := c.t.d.def_ 8 (d := d_law_rooms) rfl
  obtain ⟨fd_law_any, FD_law_any⟩ := c.t.d.def_ 9 (d := d_law_any) rfl
  obtain ⟨fd_law_room, FD_law_room⟩ := c.t.d.def_ 10 (d := d_law_room) rfl
  obtain ⟨fd_law_may, FD_law_may⟩ := c.t.d.def_ 11 (d := d_law_may) rfl
  obtain ⟨fd_law_nexts, FD_law_nexts⟩ := c.t.d.def_ 12 (d := d_law_nexts) rfl
  obtain ⟨fd_spots, FD_spots⟩ := c.t.d.def_ 13 (d := d_spots) rfl
  obtain ⟨fd_need_room, FD_need_room⟩ := c.t.d.def_ 14 (d := d_need_room) rfl
  obtain ⟨fd_spots_next, FD_spots_next⟩ := c.t.d.def_ 15 (d := d_spots_next) rfl
  obtain ⟨fd_all_rows, FD_all_rows⟩ := c.t.d.def_ 16 (d := d_all_rows) rfl
  obtain ⟨fd_may_sum, FD_may_sum⟩ := c.t.d.def_ 17 (d := d_may_sum) rfl
  obtain ⟨fd_side, FD_side⟩ := c.t.d.def_ 18 (d := d_side) rfl
  obtain ⟨fd_keeps, FD_keeps⟩ := c.t.d.def_ 19 (d := d_keeps) rfl
  obtain ⟨fd_first_broken, FD_first_broken⟩ := c.t.d.def_ 20 (d := d_first_broken) rfl
  obtain ⟨fd_all_next, FD_all_next⟩ := c.t.d.def_ 21 (d := d_all_next) rfl
  obtain ⟨fd_nexts, FD_nexts⟩ := c.t.d.def_ 22 (d := d_nexts) rfl
  obtain ⟨fd_law_alike, FD_law_alike⟩ := c.t.d.def_ 23 (d := d_law_alike) rfl
  obtain ⟨fd_law_other, FD_law_other⟩ := c.t.d.def_ 24 (d := d_law_other) rfl
  obtain ⟨fd_first_barred, FD_first_barred⟩ := c.t.d.def_ 25 (d := d_first_barred) rfl
  obtain ⟨fd_why_not, FD_why_not⟩ := c.t.d.def_ 26 (d := d_why_not) rfl
  obtain ⟨fd_law_refused, FD_law_refused⟩ := c.t.d.def_ 27 (d := d_law_refused) rfl
  obtain ⟨fd_law_odd, FD_law_odd⟩ := c.t.d.def_ 28 (d := d_law_odd) rfl
  obtain ⟨fd_law_why, FD_law_why⟩ := c.t.d.def_ 29 (d := d_law_why) rfl
  obtain ⟨fd_must, FD_must⟩ := c.t.d.def_ 30 (d := d_must) rfl
  obtain ⟨fd_is_name, FD_is_name⟩ := c.t.d.def_ 31 (d := d_is_name) rfl
  obtain ⟨fd_are_marks, FD_are_marks⟩ := c.t.d.def_ 32 (d := d_are_marks) rfl
  obtain ⟨fd_House_is_tie, FD_House_is_tie⟩ := c.t.d.def_ 33 (d := d_House_is_tie) rfl
  obtain ⟨fd_House_init, FD_House_init⟩ := c.t.d.def_ 34 (d := d_House_init) rfl
  obtain ⟨fd_law, FD_law⟩ := c.t.d.def_ 35 (d := d_law) rfl
  have hblt : ∀ x ∈ bltNames, mg x = none := List.forall_mem_cons.mpr ⟨(He.free_ok KX G (c.t.d.fact 38 (f := .free "len") rfl)), List.forall_mem_cons.mpr ⟨(He.free_ok KX G (c.t.d.fact 39 (f := .free "int") rfl)), List.forall_mem_cons.mpr ⟨(He.free_ok KX G (c.t.d.fact 40 (f := .free "list") rfl)), List.forall_mem_cons.mpr ⟨(He.free_ok KX G (c.t.d.fact 41 (f := .free "tuple") rfl)), List.forall_mem_cons.mpr ⟨(He.free_ok KX G (c.t.d.fact 42 (f := .free "abs") rfl)), List.forall_mem_cons.mpr ⟨(He.free_ok KX G (c.t.d.fact 43 (f := .free "max") rfl)), List.forall_mem_cons.mpr ⟨(He.free_ok KX G (c.t.d.fact 44 (f := .free "min") rfl)), List.forall_mem_cons.mpr ⟨(He.free_ok KX G (c.t.d.fact 45 (f := .free "range") rfl)), List.forall_mem_cons.mpr ⟨(He.free_ok KX G (c.t.d.fact 46 (f := .free "zip") rfl)), List.forall_mem_cons.mpr ⟨(He.free_ok KX G (c.t.d.fact 47 (f := .free "isinstance") rfl)), List.forall_mem_cons.mpr ⟨(He.free_ok KX G (c.t.d.fact 48 (f := .free "bool") rfl)), List.forall_mem_cons.mpr ⟨(He.free_ok KX G (c.t.d.fact 49 (f := .free "str") rfl)), List.forall_mem_cons.mpr ⟨(He.free_ok KX G (c.t.d.fact 50 (f := .free "enumerate") rfl)), List.forall_mem_cons.mpr ⟨(He.free_ok KX G (c.t.d.fact 51 (f := .free "reversed") rfl)), List.forall_mem_cons.mpr ⟨(He.free_ok KX G (c.t.d.fact 52 (f := .free "sorted") rfl)), List.forall_mem_cons.mpr ⟨(He.free_ok KX G (c.t.d.fact 53 (f := .free "set") rfl)), fun _ hh => nomatch hh⟩⟩⟩⟩⟩⟩⟩⟩⟩⟩⟩⟩⟩⟩⟩⟩
  have hcl : ∀ T ∈ clsL, mg T = some (.ref (He.ga K T)) := List.forall_mem_cons.mpr ⟨(He.glo_ok KX G (c.t.d.fact 0 (f := .glo "TrendError") rfl)), List.forall_mem_cons.mpr ⟨(He.glo_ok KX G (c.t.d.fact 1 (f := .glo "BadHouse") rfl)), List.forall_mem_cons.mpr ⟨(He.glo_ok KX G (c.t.d.fact 2 (f := .glo "BadRoom") rfl)), fun _ hh => nomatch hh⟩⟩⟩
  have hex : exL K = true := c.more
  unfold exL at hex
  simp only [Bool.and_eq_true] at hex
  obtain ⟨hx0, hx1, hx2⟩ := hex
  have hxs : ExsOk K mg clsL := exs_ok hx0 (He.free_ok KX G (c.t.d.fact 54 (f := .free "ValueError") rfl)) hcl
  have hcls : Cls K (He.ga K "House") := He.cls_ok (c.t.d.fact 64 (f := .cls "House") rfl)
  have hnt : NoAttr K (He.ga K "House") "kept_things" := He.noat_ok (c.t.d.fact 65 (f := .noat "House" "kept_things") rfl)
  have hnk : NoAttr K (He.ga K "House") "kept_ties" := He.noat_ok (c.t.d.fact 66 (f := .noat "House" "kept_ties") rfl)
  have hc_TRENDS : ∀ e : Option (Addr × Value × Option Addr), ∃ v u, mg "TRENDS" = some u ∧ RelV v u ∧ ∀ P H, Rp ⟨prog, w, K, ⟨He.ga K "House", e⟩⟩ P H v c_TRENDS := fun e => cst_ref (He.glo_ok KX G (c.t.d.fact 55 (f := .glo "TRENDS") rfl)) fun P H => tupI_ok hx1 P H
  have hc_LETTERS : ∀ e : Option (Addr × Value × Option Addr), ∃ v u, mg "LETTERS" = some u ∧ RelV v u ∧ ∀ P H, Rp ⟨prog, w, K, ⟨He.ga K "House", e⟩⟩ P H v c_LETTERS := fun e => cst_str (He.str_ok KX G (c.t.d.fact 56 (f := .str "LETTERS" "abcdefghijklmnopqrstuvwxyz") rfl))
  have hc_LONGEST_NAME : ∀ e : Option (Addr × Value × Option Addr), ∃ v u, mg "LONGEST_NAME" = some u ∧ RelV v u ∧ ∀ P H, Rp ⟨prog, w, K, ⟨He.ga K "House", e⟩⟩ P H v c_LONGEST_NAME := fun e => cst_int (He.int_ok KX G (c.t.d.fact 57 (f := .int "LONGEST_NAME" (8)) rfl))
  have hc_MOST_THINGS : ∀ e : Option (Addr × Value × Option Addr), ∃ v u, mg "MOST_THINGS" = some u ∧ RelV v u ∧ ∀ P H, Rp ⟨prog, w, K, ⟨He.ga K "House", e⟩⟩ P H v c_MOST_THINGS := fun e => cst_int (He.int_ok KX G (c.t.d.fact 58 (f := .int "MOST_THINGS" (3)) rfl))
  have hc_MOST_MARKS : ∀ e : Option (Addr × Value × Option Addr), ∃ v u, mg "MOST_MARKS" = some u ∧ RelV v u ∧ ∀ P H, Rp ⟨prog, w, K, ⟨He.ga K "House", e⟩⟩ P H v c_MOST_MARKS := fun e => cst_int (He.int_ok KX G (c.t.d.fact 59 (f := .int "MOST_MARKS" (3)) rfl))
  have hc_MOST_MARK : ∀ e : Option (Addr × Value × Option Addr), ∃ v u, mg "MOST_MARK" = some u ∧ RelV v u ∧ ∀ P H, Rp ⟨prog, w, K, ⟨He.ga K "House", e⟩⟩ P H v c_MOST_MARK := fun e => cst_int (He.int_ok KX G (c.t.d.fact 60 (f := .int "MOST_MARK" (99)) rfl))
  have hc_LEAST_APART : ∀ e : Option (Addr × Value × Option Addr), ∃ v u, mg "LEAST_APART" = some u ∧ RelV v u ∧ ∀ P H, Rp ⟨prog, w, K, ⟨He.ga K "House", e⟩⟩ P H v c_LEAST_APART := fun e => cst_int (He.int_ok KX G (c.t.d.fact 61 (f := .int "LEAST_APART" (2)) rfl))
  have hc_MOST_TIES : ∀ e : Option (Addr × Value × Option Addr), ∃ v u, mg "MOST_TIES" = some u ∧ RelV v u ∧ ∀ P H, Rp ⟨prog, w, K, ⟨He.ga K "House", e⟩⟩ P H v c_MOST_TIES := fun e => cst_int (He.int_ok KX G (c.t.d.fact 62 (f := .int "MOST_TIES" (6)) rfl))
  have hc_LENGTHS : ∀ e : Option (Addr × Value × Option Addr), ∃ v u, mg "LENGTHS" = some u ∧ RelV v u ∧ ∀ P H, Rp ⟨prog, w, K, ⟨He.ga K "House", e⟩⟩ P H v c_LENGTHS := fun e => cst_ref (He.glo_ok KX G (c.t.d.fact 63 (f := .glo "LENGTHS") rfl)) fun P H => tab_ok hx2 (c.t.tab 0 rfl) P H
  refine ⟨_, fd_law, (He.glo_ok KX G (c.t.d.fact 37 (f := .glo "law") rfl)), fun s u => FunD.bindsA (ps := ["_law_script"]) FD_law (fun _ _ _ _ _ _ us hl => match us, hl with | [_], _ => rfl) s [u] rfl, fun base => ?_⟩
  have F_law_taken : ∀ e : Option (Addr × Value × Option Addr), FnFact prog w K mg base ⟨He.ga K "House", e⟩ 1 "_law_taken" f_law_taken := fun e => ⟨_, fd_law_taken, _, def_ok (k := 0) 40 x_law_taken FD_law_taken sc_law_taken rfl (by decide +kernel) ({ blt := hblt, cst := allF_nil, hcls := hcls, nkt := hnt, nkk := hnk, xs := hxs, e0 := fun hh => nomatch hh }) (allF_nil) (allF_nil) (allF_nil) (fun X h1 h2 h3 h4 h5 _ _ => fun y hy => (show ∀ y ns, look y [] = some ns → ns = [] → ExK X y from allF_nil) y [] hy rfl) (fun X h1 h2 h3 h4 h5 _ _ => fun y m ns hy => (show ∀ y ns, look y [] = some ns → ∀ m ms, ns = m :: ms → ExF X ⟨He.ga K "House", e⟩ y (m :: ms) from allF_nil) y _ hy m ns rfl), (He.glo_ok KX G (c.t.d.fact 19 (f := .glo "_law_taken") rfl)), FD_law_taken.kp, FunD.bindsN FD_law_taken fun _ _ _ _ _ _ us hl => match us, hl with | [_, _], _ => rfl⟩
  have F_law_marks : ∀ e : Option (Addr × Value × Option Addr), FnFact prog w K mg base ⟨He.ga K "House", e⟩ 2 "_law_marks" f_law_marks := fun e => ⟨_, fd_law_marks, _, def_ok (k := 1) 40 (x_law_marks f_law_taken) FD_law_marks sc_law_marks rfl (by decide +kernel) ({ blt := hblt, cst := allF_nil, hcls := hcls, nkt := hnt, nkk := hnk, xs := hxs, e0 := fun hh => nomatch hh }) (allF_cons (FnFact.mono (F_law_taken e) (by decide)) (allF_nil)) (allF_nil) (allF_nil) (fun X h1 h2 h3 h4 h5 _ _ => fun y hy => (show ∀ y ns, look y [] = some ns → ns = [] → ExK X y from allF_nil) y [] hy rfl) (fun X h1 h2 h3 h4 h5 _ _ => fun y m ns hy => (show ∀ y ns, look y [] = some ns → ∀ m ms, ns = m :: ms → ExF X ⟨He.ga K "House", e⟩ y (m :: ms) from allF_nil) y _ hy m ns rfl), (He.glo_ok KX G (c.t.d.fact 20 (f := .glo "_law_marks") rfl)), FD_law_marks.kp, FunD.bindsN FD_law_marks fun _ _ _ _ _ _ us hl => match us, hl with | [_, _, _], _ => rfl⟩
  have F_law_things : ∀ e : Option (Addr × Value × Option Addr), FnFact prog w K mg base ⟨He.ga K "House", e⟩ 3 "_law_things" f_law_things := fun e => ⟨_, fd_law_things, _, def_ok (k := 2) 40 (x_law_things f_law_taken f_law_marks) FD_law_things sc_law_things rfl (by decide +kernel) ({ blt := hblt, cst := allF_nil, hcls := hcls, nkt := hnt, nkk := hnk, xs := hxs, e0 := fun hh => nomatch hh }) (allF_cons (FnFact.mono (F_law_taken e) (by decide)) (allF_cons (FnFact.mono (F_law_marks e) (by decide)) (allF_nil))) (allF_nil) (allF_nil) (fun X h1 h2 h3 h4 h5 _ _ => fun y hy => (show ∀ y ns, look y [] = some ns → ns = [] → ExK X y from allF_nil) y [] hy rfl) (fun X h1 h2 h3 h4 h5 _ _ => fun y m ns hy => (show ∀ y ns, look y [] = some ns → ∀ m ms, ns = m :: ms → ExF X ⟨He.ga K "House", e⟩ y (m :: ms) from allF_nil) y _ hy m ns rfl), (He.glo_ok KX G (c.t.d.fact 21 (f := .glo "_law_things") rfl)), FD_law_things.kp, FunD.bindsN FD_law_things fun _ _ _ _ _ _ us hl => match us, hl with | [_, _, _], _ => rfl⟩
  have F_law_tie : ∀ e : Option (Addr × Value × Option Addr), FnFact prog w K mg base ⟨He.ga K "House", e⟩ 2 "_law_tie" f_law_tie := fun e => ⟨_, fd_law_tie, _, def_ok (k := 1) 40 (x_law_tie f_law_taken) FD_law_tie sc_law_tie rfl (by decide +kernel) ({ blt := hblt, cst := allF_nil, hcls := hcls, nkt := hnt, nkk := hnk, xs := hxs, e0 := fun hh => nomatch hh }) (allF_cons (FnFact.mono (F_law_taken e) (by decide)) (allF_nil)) (allF_nil) (allF_nil) (fun X h1 h2 h3 h4 h5 _ _ => fun y hy => (show ∀ y ns, look y [] = some ns → ns = [] → ExK X y from allF_nil) y [] hy rfl) (fun X h1 h2 h3 h4 h5 _ _ => fun y m ns hy => (show ∀ y ns, look y [] = some ns → ∀ m ms, ns = m :: ms → ExF X ⟨He.ga K "House", e⟩ y (m :: ms) from allF_nil) y _ hy m ns rfl), (He.glo_ok KX G (c.t.d.fact 22 (f := .glo "_law_tie") rfl)), FD_law_tie.kp, FunD.bindsN FD_law_tie fun _ _ _ _ _ _ us hl => match us, hl with | [_, _], _ => rfl⟩
  have F_law_ties : ∀ e : Option (Addr × Value × Option Addr), FnFact prog w K mg base ⟨He.ga K "House", e⟩ 3 "_law_ties" f_law_ties := fun e => ⟨_, fd_law_ties, _, def_ok (k := 2) 40 (x_law_ties f_law_tie f_law_taken) FD_law_ties sc_law_ties rfl (by decide +kernel) ({ blt := hblt, cst := allF_nil, hcls := hcls, nkt := hnt, nkk := hnk, xs := hxs, e0 := fun hh => nomatch hh }) (allF_cons (FnFact.mono (F_law_tie e) (by decide)) (allF_cons (FnFact.mono (F_law_taken e) (by decide)) (allF_nil))) (allF_nil) (allF_nil) (fun X h1 h2 h3 h4 h5 _ _ => fun y hy => (show ∀ y ns, look y [] = some ns → ns = [] → ExK X y from allF_nil) y [] hy rfl) (fun X h1 h2 h3 h4 h5 _ _ => fun y m ns hy => (show ∀ y ns, look y [] = some ns → ∀ m ms, ns = m :: ms → ExF X ⟨He.ga K "House", e⟩ y (m :: ms) from allF_nil) y _ hy m ns rfl), (He.glo_ok KX G (c.t.d.fact 23 (f := .glo "_law_ties") rfl)), FD_law_ties.kp, FunD.bindsN FD_law_ties fun _ _ _ _ _ _ us hl => match us, hl with | [_, _, _], _ => rfl⟩
  have F_law_keeps : ∀ e : Option (Addr × Value × Option Addr), FnFact prog w K mg base ⟨He.ga K "House", e⟩ 1 "_law_keeps" f_law_keeps := fun e => ⟨_, fd_law_keeps, _, def_ok (k := 0) 40 x_law_keeps FD_law_keeps sc_law_keeps rfl (by decide +kernel) ({ blt := hblt, cst := allF_nil, hcls := hcls, nkt := hnt, nkk := hnk, xs := hxs, e0 := fun hh => nomatch hh }) (allF_nil) (allF_nil) (allF_nil) (fun X h1 h2 h3 h4 h5 _ _ => fun y hy => (show ∀ y ns, look y [] = some ns → ns = [] → ExK X y from allF_nil) y [] hy rfl) (fun X h1 h2 h3 h4 h5 _ _ => fun y m ns hy => (show ∀ y ns, look y [] = some ns → ∀ m ms, ns = m :: ms → ExF X ⟨He.ga K "House", e⟩ y (m :: ms) from allF_nil) y _ hy m ns rfl), (He.glo_ok KX G (c.t.d.fact 25 (f := .glo "_law_keeps") rfl)), FD_law_keeps.kp, FunD.bindsN FD_law_keeps fun _ _ _ _ _ _ us hl => match us, hl with | [_, _], _ => rfl⟩
  have F_law_first : ∀ e : Option (Addr × Value × Option Addr), FnFact prog w K mg base ⟨He.ga K "House", e⟩ 2 "_law_first" f_law_first := fun e => ⟨_, fd_law_first, _, def_ok (k := 1) 40 (x_law_first f_law_keeps) FD_law_first sc_law_first rfl (by decide +kernel) ({ blt := hblt, cst := allF_nil, hcls := hcls, nkt := hnt, nkk := hnk, xs := hxs, e0 := fun hh => nomatch hh }) (allF_cons (FnFact.mono (F_law_keeps e) (by decide)) (allF_nil)) (allF_nil) (allF_nil) (fun X h1 h2 h3 h4 h5 _ _ => fun y hy => (show ∀ y ns, look y [] = some ns → ns = [] → ExK X y from allF_nil) y [] hy rfl) (fun X h1 h2 h3 h4 h5 _ _ => fun y m ns hy => (show ∀ y ns, look y [] = some ns → ∀ m ms, ns = m :: ms → ExF X ⟨He.ga K "House", e⟩ y (m :: ms) from allF_nil) y _ hy m ns rfl), (He.glo_ok KX G (c.t.d.fact 26 (f := .glo "_law_first") rfl)), FD_law_first.kp, FunD.bindsN FD_law_first fun _ _ _ _ _ _ us hl => match us, hl with | [_, _], _ => rfl⟩
  have F_law_spots : ∀ e : Option (Addr × Value × Option Addr), FnFact prog w K mg base ⟨He.ga K "House", e⟩ 1 "_law_spots" f_law_spots := fun e => ⟨_, fd_law_spots, _, def_ok (k := 0) 40 x_law_spots FD_law_spots sc_law_spots rfl (by decide +kernel) ({ blt := hblt, cst := allF_nil, hcls := hcls, nkt := hnt, nkk := hnk, xs := hxs, e0 := fun hh => nomatch hh }) (allF_nil) (allF_nil) (allF_nil) (fun X h1 h2 h3 h4 h5 _ _ => fun y hy => (show ∀ y ns, look y [] = some ns → ns = [] → ExK X y from allF_nil) y [] hy rfl) (fun X h1 h2 h3 h4 h5 _ _ => fun y m ns hy => (show ∀ y ns, look y [] = some ns → ∀ m ms, ns = m :: ms → ExF X ⟨He.ga K "House", e⟩ y (m :: ms) from allF_nil) y _ hy m ns rfl), (He.glo_ok KX G (c.t.d.fact 24 (f := .glo "_law_spots") rfl)), FD_law_spots.kp, FunD.bindsN FD_law_spots fun _ _ _ _ _ _ us hl => match us, hl with | [_], _ => rfl⟩
  have F_law_rooms : ∀ e : Option (Addr × Value × Option Addr), FnFact prog w K mg base ⟨He.ga K "House", e⟩ 3 "_law_rooms" f_law_rooms := fun e => ⟨_, fd_law_rooms, _, def_ok (k := 2) 40 (x_law_rooms f_law_first f_law_spots) FD_law_rooms sc_law_rooms rfl (by decide +kernel) ({ blt := hblt, cst := allF_nil, hcls := hcls, nkt := hnt, nkk := hnk, xs := hxs, e0 := fun hh => nomatch hh }) (allF_cons (FnFact.mono (F_law_first e) (by decide)) (allF_cons (FnFact.mono (F_law_spots e) (by decide)) (allF_nil))) (allF_nil) (allF_nil) (fun X h1 h2 h3 h4 h5 _ _ => fun y hy => (show ∀ y ns, look y [] = some ns → ns = [] → ExK X y from allF_nil) y [] hy rfl) (fun X h1 h2 h3 h4 h5 _ _ => fun y m ns hy => (show ∀ y ns, look y [] = some ns → ∀ m ms, ns = m :: ms → ExF X ⟨He.ga K "House", e⟩ y (m :: ms) from allF_nil) y _ hy m ns rfl), (He.glo_ok KX G (c.t.d.fact 27 (f := .glo "_law_rooms") rfl)), FD_law_rooms.kp, FunD.bindsN FD_law_rooms fun _ _ _ _ _ _ us hl => match us, hl with | [_, _], _ => rfl⟩
  have F_law_any : ∀ e : Option (Addr × Value × Option Addr), FnFact prog w K mg base ⟨He.ga K "House", e⟩ 2 "_law_any" f_law_any := fun e => ⟨_, fd_law_any, _, def_ok (k := 1) 40 (x_law_any f_law_spots f_law_taken) FD_law_any sc_law_any rfl (by decide +kernel) ({ blt := hblt, cst := allF_nil, hcls := hcls, nkt := hnt, nkk := hnk, xs := hxs, e0 := fun hh => nomatch hh }) (allF_cons (FnFact.mono (F_law_spots e) (by decide)) (allF_cons (FnFact.mono (F_law_taken e) (by decide)) (allF_nil))) (allF_nil) (allF_nil) (fun X h1 h2 h3 h4 h5 _ _ => fun y hy => (show ∀ y ns, look y [] = some ns → ns = [] → ExK X y from allF_nil) y [] hy rfl) (fun X h1 h2 h3 h4 h5 _ _ => fun y m ns hy => (show ∀ y ns, look y [] = some ns → ∀ m ms, ns = m :: ms → ExF X ⟨He.ga K "House", e⟩ y (m :: ms) from allF_nil) y _ hy m ns rfl), (He.glo_ok KX G (c.t.d.fact 28 (f := .glo "_law_any") rfl)), FD_law_any.kp, FunD.bindsN FD_law_any fun _ _ _ _ _ _ us hl => match us, hl with | [_, _], _ => rfl⟩
  have F_law_room : ∀ e : Option (Addr × Value × Option Addr), FnFact prog w K mg base ⟨He.ga K "House", e⟩ 4 "_law_room" f_law_room := fun e => ⟨_, fd_law_room, _, def_ok (k := 3) 40 (x_law_room f_law_rooms f_law_any f_law_taken) FD_law_room sc_law_room rfl (by decide +kernel) ({ blt := hblt, cst := allF_nil, hcls := hcls, nkt := hnt, nkk := hnk, xs := hxs, e0 := fun hh => nomatch hh }) (allF_cons (FnFact.mono (F_law_rooms e) (by decide)) (allF_cons (FnFact.mono (F_law_any e) (by decide)) (allF_cons (FnFact.mono (F_law_taken e) (by decide)) (allF_nil)))) (allF_nil) (allF_nil) (fun X h1 h2 h3 h4 h5 _ _ => fun y hy => (show ∀ y ns, look y [] = some ns → ns = [] → ExK X y from allF_nil) y [] hy rfl) (fun X h1 h2 h3 h4 h5 _ _ => fun y m ns hy => (show ∀ y ns, look y [] = some ns → ∀ m ms, ns = m :: ms → ExF X ⟨He.ga K "House", e⟩ y (m :: ms) from allF_nil) y _ hy m ns rfl), (He.glo_ok KX G (c.t.d.fact 29 (f := .glo "_law_room") rfl)), FD_law_room.kp, FunD.bindsN FD_law_room fun _ _ _ _ _ _ us hl => match us, hl with | [_, _, _], _ => rfl⟩
  have F_law_may : ∀ e : Option (Addr × Value × Option Addr), FnFact prog w K mg base ⟨He.ga K "House", e⟩ 1 "_law_may" f_law_may := fun e => ⟨_, fd_law_may, _, def_ok (k := 0) 40 x_law_may FD_law_may sc_law_may rfl (by decide +kernel) ({ blt := hblt, cst := allF_nil, hcls := hcls, nkt := hnt, nkk := hnk, xs := hxs, e0 := fun hh => nomatch hh }) (allF_nil) (allF_nil) (allF_nil) (fun X h1 h2 h3 h4 h5 _ _ => fun y hy => (show ∀ y ns, look y [] = some ns → ns = [] → ExK X y from allF_nil) y [] hy rfl) (fun X h1 h2 h3 h4 h5 _ _ => fun y m ns hy => (show ∀ y ns, look y [] = some ns → ∀ m ms, ns = m :: ms → ExF X ⟨He.ga K "House", e⟩ y (m :: ms) from allF_nil) y _ hy m ns rfl), (He.glo_ok KX G (c.t.d.fact 30 (f := .glo "_law_may") rfl)), FD_law_may.kp, FunD.bindsN FD_law_may fun _ _ _ _ _ _ us hl => match us, hl with | [_, _], _ => rfl⟩
  have F_law_nexts : ∀ e : Option (Addr × Value × Option Addr), FnFact prog w K mg base ⟨He.ga K "House", e⟩ 3 "_law_nexts" f_law_nexts := fun e => ⟨_, fd_law_nexts, _, def_ok (k := 2) 40 (x_law_nexts f_law_spots f_law_may f_law_first) FD_law_nexts sc_law_nexts rfl (by decide +kernel) ({ blt := hblt, cst := allF_nil, hcls := hcls, nkt := hnt, nkk := hnk, xs := hxs, e0 := fun hh => nomatch hh }) (allF_cons (FnFact.mono (F_law_spots e) (by decide)) (allF_cons (FnFact.mono (F_law_may e) (by decide)) (allF_cons (FnFact.mono (F_law_first e) (by decide)) (allF_nil)))) (allF_nil) (allF_nil) (fun X h1 h2 h3 h4 h5 _ _ => fun y hy => (show ∀ y ns, look y [] = some ns → ns = [] → ExK X y from allF_nil) y [] hy rfl) (fun X h1 h2 h3 h4 h5 _ _ => fun y m ns hy => (show ∀ y ns, look y [] = some ns → ∀ m ms, ns = m :: ms → ExF X ⟨He.ga K "House", e⟩ y (m :: ms) from allF_nil) y _ hy m ns rfl), (He.glo_ok KX G (c.t.d.fact 31 (f := .glo "_law_nexts") rfl)), FD_law_nexts.kp, FunD.bindsN FD_law_nexts fun _ _ _ _ _ _ us hl => match us, hl with | [_, _, _], _ => rfl⟩
  have F_spots : ∀ e : Option (Addr × Value × Option Addr), FnFact prog w K mg base ⟨He.ga K "House", e⟩ 1 "spots" f_spots := fun e => ⟨_, fd_spots, _, def_ok (k := 0) 40 x_spots FD_spots sc_spots rfl (by decide +kernel) ({ blt := hblt, cst := allF_cons (hc_TRENDS e) (allF_nil), hcls := hcls, nkt := hnt, nkk := hnk, xs := hxs, e0 := fun hh => nomatch hh }) (allF_nil) (allF_nil) (allF_nil) (fun X h1 h2 h3 h4 h5 _ _ => fun y hy => (show ∀ y ns, look y [] = some ns → ns = [] → ExK X y from allF_nil) y [] hy rfl) (fun X h1 h2 h3 h4 h5 _ _ => fun y m ns hy => (show ∀ y ns, look y [] = some ns → ∀ m ms, ns = m :: ms → ExF X ⟨He.ga K "House", e⟩ y (m :: ms) from allF_nil) y _ hy m ns rfl), (He.glo_ok KX G (c.t.d.fact 3 (f := .glo "spots") rfl)), FD_spots.kp, FunD.bindsN FD_spots fun _ _ _ _ _ _ us hl => match us, hl with | [_], _ => rfl⟩
  have F_need_room : ∀ e : Option (Addr × Value × Option Addr), FnFact prog w K mg base ⟨He.ga K "House", e⟩ 2 "need_room" f_need_room := fun e => ⟨_, fd_need_room, _, def_ok (k := 1) 40 (x_need_room f_spots) FD_need_room sc_need_room rfl (by decide +kernel) ({ blt := hblt, cst := allF_nil, hcls := hcls, nkt := hnt, nkk := hnk, xs := hxs, e0 := fun hh => nomatch hh }) (allF_cons (FnFact.mono (F_spots e) (by decide)) (allF_nil)) (allF_nil) (allF_nil) (fun X h1 h2 h3 h4 h5 _ _ => fun y hy => (show ∀ y ns, look y [("BadRoom", ([] : List Str))] = some ns → ns = [] → ExK X y from allF_cons (fun _ => exK_of (prog := prog) (w := w) (base := base) (He.glo_ok KX G (c.t.d.fact 2 (f := .glo "BadRoom") rfl)) (c.t.d.fact 69 (f := .exc "BadRoom") rfl) (by decide +kernel) X h1 h2 h3 h4 h5) (allF_nil)) y [] hy rfl) (fun X h1 h2 h3 h4 h5 _ _ => fun y m ns hy => (show ∀ y ns, look y [("BadRoom", ([] : List Str))] = some ns → ∀ m ms, ns = m :: ms → ExF X ⟨He.ga K "House", e⟩ y (m :: ms) from allF_cons (fun m ms hh => nomatch hh) (allF_nil)) y _ hy m ns rfl), (He.glo_ok KX G (c.t.d.fact 4 (f := .glo "need_room") rfl)), FD_need_room.kp, FunD.bindsN FD_need_room fun _ _ _ _ _ _ us hl => match us, hl with | [_, _], _ => rfl⟩
  have F_spots_next : ∀ e : Option (Addr × Value × Option Addr), FnFact prog w K mg base ⟨He.ga K "House", e⟩ 1 "spots_next" f_spots_next := fun e => ⟨_, fd_spots_next, _, def_ok (k := 0) 40 x_spots_next FD_spots_next sc_spots_next rfl (by decide +kernel) ({ blt := hblt, cst := allF_nil, hcls := hcls, nkt := hnt, nkk := hnk, xs := hxs, e0 := fun hh => nomatch hh }) (allF_nil) (allF_nil) (allF_nil) (fun X h1 h2 h3 h4 h5 _ _ => fun y hy => (show ∀ y ns, look y [] = some ns → ns = [] → ExK X y from allF_nil) y [] hy rfl) (fun X h1 h2 h3 h4 h5 _ _ => fun y m ns hy => (show ∀ y ns, look y [] = some ns → ∀ m ms, ns = m :: ms → ExF X ⟨He.ga K "House", e⟩ y (m :: ms) from allF_nil) y _ hy m ns rfl), (He.glo_ok KX G (c.t.d.fact 10 (f := .glo "spots_next") rfl)), FD_spots_next.kp, FunD.bindsN FD_spots_next fun _ _ _ _ _ _ us hl => match us, hl with | [_, _], _ => rfl⟩
  have F_all_rows : ∀ e : Option (Addr × Value × Option Addr), FnFact prog w K mg base ⟨He.ga K "House", e⟩ 1 "all_rows" f_all_rows := fun e => ⟨_, fd_all_rows, _, def_ok (k := 0) 40 x_all_rows FD_all_rows sc_all_rows rfl (by decide +kernel) ({ blt := hblt, cst := allF_nil, hcls := hcls, nkt := hnt, nkk := hnk, xs := hxs, e0 := fun hh => nomatch hh }) (allF_nil) (allF_nil) (allF_nil) (fun X h1 h2 h3 h4 h5 _ _ => fun y hy => (show ∀ y ns, look y [] = some ns → ns = [] → ExK X y from allF_nil) y [] hy rfl) (fun X h1 h2 h3 h4 h5 _ _ => fun y m ns hy => (show ∀ y ns, look y [] = some ns → ∀ m ms, ns = m :: ms → ExF X ⟨He.ga K "House", e⟩ y (m :: ms) from allF_nil) y _ hy m ns rfl), (He.glo_ok KX G (c.t.d.fact 9 (f := .glo "all_rows") rfl)), FD_all_rows.kp, FunD.bindsN FD_all_rows fun _ _ _ _ _ _ us hl => match us, hl with | [_], _ => rfl⟩
  have F_may_sum : ∀ e : Option (Addr × Value × Option Addr), FnFact prog w K mg base ⟨He.ga K "House", e⟩ 1 "may_sum" f_may_sum := fun e => ⟨_, fd_may_sum, _, def_ok (k := 0) 40 x_may_sum FD_may_sum sc_may_sum rfl (by decide +kernel) ({ blt := hblt, cst := allF_nil, hcls := hcls, nkt := hnt, nkk := hnk, xs := hxs, e0 := fun hh => nomatch hh }) (allF_nil) (allF_nil) (allF_nil) (fun X h1 h2 h3 h4 h5 _ _ => fun y hy => (show ∀ y ns, look y [] = some ns → ns = [] → ExK X y from allF_nil) y [] hy rfl) (fun X h1 h2 h3 h4 h5 _ _ => fun y m ns hy => (show ∀ y ns, look y [] = some ns → ∀ m ms, ns = m :: ms → ExF X ⟨He.ga K "House", e⟩ y (m :: ms) from allF_nil) y _ hy m ns rfl), (He.glo_ok KX G (c.t.d.fact 6 (f := .glo "may_sum") rfl)), FD_may_sum.kp, FunD.bindsN FD_may_sum fun _ _ _ _ _ _ us hl => match us, hl with | [_, _, _], _ => rfl⟩
  have F_side : ∀ e : Option (Addr × Value × Option Addr), FnFact prog w K mg base ⟨He.ga K "House", e⟩ 1 "side" f_side := fun e => ⟨_, fd_side, _, def_ok (k := 0) 40 x_side FD_side sc_side rfl (by decide +kernel) ({ blt := hblt, cst := allF_nil, hcls := hcls, nkt := hnt, nkk := hnk, xs := hxs, e0 := fun hh => nomatch hh }) (allF_nil) (allF_nil) (allF_nil) (fun X h1 h2 h3 h4 h5 _ _ => fun y hy => (show ∀ y ns, look y [] = some ns → ns = [] → ExK X y from allF_nil) y [] hy rfl) (fun X h1 h2 h3 h4 h5 _ _ => fun y m ns hy => (show ∀ y ns, look y [] = some ns → ∀ m ms, ns = m :: ms → ExF X ⟨He.ga K "House", e⟩ y (m :: ms) from allF_nil) y _ hy m ns rfl), (He.glo_ok KX G (c.t.d.fact 5 (f := .glo "side") rfl)), FD_side.kp, FunD.bindsN FD_side fun _ _ _ _ _ _ us hl => match us, hl with | [_, _, _], _ => rfl⟩
  have F_keeps : ∀ e : Option (Addr × Value × Option Addr), FnFact prog w K mg base ⟨He.ga K "House", e⟩ 2 "keeps" f_keeps := fun e => ⟨_, fd_keeps, _, def_ok (k := 1) 40 (x_keeps f_may_sum f_side) FD_keeps sc_keeps rfl (by decide +kernel) ({ blt := hblt, cst := allF_nil, hcls := hcls, nkt := hnt, nkk := hnk, xs := hxs, e0 := fun hh => nomatch hh }) (allF_cons (FnFact.mono (F_may_sum e) (by decide)) (allF_cons (FnFact.mono (F_side e) (by decide)) (allF_nil))) (allF_nil) (allF_nil) (fun X h1 h2 h3 h4 h5 _ _ => fun y hy => (show ∀ y ns, look y [] = some ns → ns = [] → ExK X y from allF_nil) y [] hy rfl) (fun X h1 h2 h3 h4 h5 _ _ => fun y m ns hy => (show ∀ y ns, look y [] = some ns → ∀ m ms, ns = m :: ms → ExF X ⟨He.ga K "House", e⟩ y (m :: ms) from allF_nil) y _ hy m ns rfl), (He.glo_ok KX G (c.t.d.fact 7 (f := .glo "keeps") rfl)), FD_keeps.kp, FunD.bindsN FD_keeps fun _ _ _ _ _ _ us hl => match us, hl with | [_, _], _ => rfl⟩
  have F_first_broken : ∀ e : Option (Addr × Value × Option Addr), FnFact prog w K mg base ⟨He.ga K "House", e⟩ 3 "first_broken" f_first_broken := fun e => ⟨_, fd_first_broken, _, def_ok (k := 2) 40 (x_first_broken f_keeps) FD_first_broken sc_first_broken rfl (by decide +kernel) ({ blt := hblt, cst := allF_nil, hcls := hcls, nkt := hnt, nkk := hnk, xs := hxs, e0 := fun hh => nomatch hh }) (allF_cons (FnFact.mono (F_keeps e) (by decide)) (allF_nil)) (allF_nil) (allF_nil) (fun X h1 h2 h3 h4 h5 _ _ => fun y hy => (show ∀ y ns, look y [] = some ns → ns = [] → ExK X y from allF_nil) y [] hy rfl) (fun X h1 h2 h3 h4 h5 _ _ => fun y m ns hy => (show ∀ y ns, look y [] = some ns → ∀ m ms, ns = m :: ms → ExF X ⟨He.ga K "House", e⟩ y (m :: ms) from allF_nil) y _ hy m ns rfl), (He.glo_ok KX G (c.t.d.fact 8 (f := .glo "first_broken") rfl)), FD_first_broken.kp, FunD.bindsN FD_first_broken fun _ _ _ _ _ _ us hl => match us, hl with | [_, _], _ => rfl⟩
  have F_all_next : ∀ e : Option (Addr × Value × Option Addr), FnFact prog w K mg base ⟨He.ga K "House", e⟩ 4 "all_next" f_all_next := fun e => ⟨_, fd_all_next, _, def_ok (k := 3) 40 (x_all_next f_spots_next f_all_rows f_first_broken) FD_all_next sc_all_next rfl (by decide +kernel) ({ blt := hblt, cst := allF_nil, hcls := hcls, nkt := hnt, nkk := hnk, xs := hxs, e0 := fun hh => nomatch hh }) (allF_cons (FnFact.mono (F_spots_next e) (by decide)) (allF_cons (FnFact.mono (F_all_rows e) (by decide)) (allF_cons (FnFact.mono (F_first_broken e) (by decide)) (allF_nil)))) (allF_nil) (allF_nil) (fun X h1 h2 h3 h4 h5 _ _ => fun y hy => (show ∀ y ns, look y [] = some ns → ns = [] → ExK X y from allF_nil) y [] hy rfl) (fun X h1 h2 h3 h4 h5 _ _ => fun y m ns hy => (show ∀ y ns, look y [] = some ns → ∀ m ms, ns = m :: ms → ExF X ⟨He.ga K "House", e⟩ y (m :: ms) from allF_nil) y _ hy m ns rfl), (He.glo_ok KX G (c.t.d.fact 12 (f := .glo "all_next") rfl)), FD_all_next.kp, FunD.bindsN FD_all_next fun _ _ _ _ _ _ us hl => match us, hl with | [_, _], _ => rfl⟩
  have F_nexts : ∀ e : Option (Addr × Value × Option Addr), FnFact prog w K mg base ⟨He.ga K "House", e⟩ 5 "nexts" f_nexts := fun e => ⟨_, fd_nexts, _, def_ok (k := 4) 40 (x_nexts f_need_room f_all_next) FD_nexts sc_nexts rfl (by decide +kernel) ({ blt := hblt, cst := allF_nil, hcls := hcls, nkt := hnt, nkk := hnk, xs := hxs, e0 := fun hh => nomatch hh }) (allF_cons (FnFact.mono (F_need_room e) (by decide)) (allF_cons (FnFact.mono (F_all_next e) (by decide)) (allF_nil))) (allF_nil) (allF_nil) (fun X h1 h2 h3 h4 h5 _ _ => fun y hy => (show ∀ y ns, look y [] = some ns → ns = [] → ExK X y from allF_nil) y [] hy rfl) (fun X h1 h2 h3 h4 h5 _ _ => fun y m ns hy => (show ∀ y ns, look y [] = some ns → ∀ m ms, ns = m :: ms → ExF X ⟨He.ga K "House", e⟩ y (m :: ms) from allF_nil) y _ hy m ns rfl), (He.glo_ok KX G (c.t.d.fact 13 (f := .glo "nexts") rfl)), FD_nexts.kp, FunD.bindsN FD_nexts fun _ _ _ _ _ _ us hl => match us, hl with | [_, _], _ => rfl⟩
  have R_law_alike : ∀ e : Option (Addr × Value × Option Addr), ∀ n, FnFact prog w K mg base ⟨He.ga K "House", e⟩ (n + 0) "_law_alike" (r_law_alike n) := fun e => fun n => by
    induction n with
    | zero => exact ⟨_, fd_law_alike, ["_law_found", "_law_due"], fn_no, (He.glo_ok KX G (c.t.d.fact 32 (f := .glo "_law_alike") rfl)), FD_law_alike.kp, FunD.bindsN FD_law_alike fun _ _ _ _ _ _ us hl => match us, hl with | [_, _], _ => rfl⟩
    | succ n ih => exact FnFact.mono (⟨_, fd_law_alike, _, def_ok (k := n + 0) 40 (x_law_alike (r_law_alike n)) FD_law_alike sc_law_alike rfl (by kernel_rfl) ({ blt := hblt, cst := allF_nil, hcls := hcls, nkt := hnt, nkk := hnk, xs := hxs, e0 := fun hh => nomatch hh }) (allF_cons (ih) (allF_nil)) (allF_nil) (allF_nil) (fun X h1 h2 h3 h4 h5 _ _ => fun y hy => (show ∀ y ns, look y [] = some ns → ns = [] → ExK X y from allF_nil) y [] hy rfl) (fun X h1 h2 h3 h4 h5 _ _ => fun y m ns hy => (show ∀ y ns, look y [] = some ns → ∀ m ms, ns = m :: ms → ExF X ⟨He.ga K "House", e⟩ y (m :: ms) from allF_nil) y _ hy m ns rfl), (He.glo_ok KX G (c.t.d.fact 32 (f := .glo "_law_alike") rfl)), FD_law_alike.kp, FunD.bindsN FD_law_alike fun _ _ _ _ _ _ us hl => match us, hl with | [_, _], _ => rfl⟩ : FnFact prog w K mg base ⟨He.ga K "House", e⟩ (n + 0 + 1) "_law_alike" (r_law_alike (n + 1))) (by omega)
  have F_law_alike : ∀ e : Option (Addr × Value × Option Addr), FnFact prog w K mg base ⟨He.ga K "House", e⟩ 7 "_law_alike" f_law_alike := fun e => (R_law_alike e 6).mono (by decide)
  have F_law_other : ∀ e : Option (Addr × Value × Option Addr), FnFact prog w K mg base ⟨He.ga K "House", e⟩ 5 "_law_other" f_law_other := fun e => ⟨_, fd_law_other, _, def_ok (k := 4) 40 (x_law_other f_law_taken f_law_any f_law_room f_law_spots f_law_may) FD_law_other sc_law_other rfl (by decide +kernel) ({ blt := hblt, cst := allF_nil, hcls := hcls, nkt := hnt, nkk := hnk, xs := hxs, e0 := fun hh => nomatch hh }) (allF_cons (FnFact.mono (F_law_taken e) (by decide)) (allF_cons (FnFact.mono (F_law_any e) (by decide)) (allF_cons (FnFact.mono (F_law_room e) (by decide)) (allF_cons (FnFact.mono (F_law_spots e) (by decide)) (allF_cons (FnFact.mono (F_law_may e) (by decide)) (allF_nil)))))) (allF_nil) (allF_nil) (fun X h1 h2 h3 h4 h5 _ _ => fun y hy => (show ∀ y ns, look y [] = some ns → ns = [] → ExK X y from allF_nil) y [] hy rfl) (fun X h1 h2 h3 h4 h5 _ _ => fun y m ns hy => (show ∀ y ns, look y [] = some ns → ∀ m ms, ns = m :: ms → ExF X ⟨He.ga K "House", e⟩ y (m :: ms) from allF_nil) y _ hy m ns rfl), (He.glo_ok KX G (c.t.d.fact 34 (f := .glo "_law_other") rfl)), FD_law_other.kp, FunD.bindsN FD_law_other fun _ _ _ _ _ _ us hl => match us, hl with | [_, _, _, _, _], _ => rfl⟩
  have F_first_barred : ∀ e : Option (Addr × Value × Option Addr), FnFact prog w K mg base ⟨He.ga K "House", e⟩ 2 "first_barred" f_first_barred := fun e => ⟨_, fd_first_barred, _, def_ok (k := 1) 40 (x_first_barred f_spots_next) FD_first_barred sc_first_barred rfl (by decide +kernel) ({ blt := hblt, cst := allF_nil, hcls := hcls, nkt := hnt, nkk := hnk, xs := hxs, e0 := fun hh => nomatch hh }) (allF_cons (FnFact.mono (F_spots_next e) (by decide)) (allF_nil)) (allF_nil) (allF_nil) (fun X h1 h2 h3 h4 h5 _ _ => fun y hy => (show ∀ y ns, look y [] = some ns → ns = [] → ExK X y from allF_nil) y [] hy rfl) (fun X h1 h2 h3 h4 h5 _ _ => fun y m ns hy => (show ∀ y ns, look y [] = some ns → ∀ m ms, ns = m :: ms → ExF X ⟨He.ga K "House", e⟩ y (m :: ms) from allF_nil) y _ hy m ns rfl), (He.glo_ok KX G (c.t.d.fact 11 (f := .glo "first_barred") rfl)), FD_first_barred.kp, FunD.bindsN FD_first_barred fun _ _ _ _ _ _ us hl => match us, hl with | [_, _, _], _ => rfl⟩
  have F_why_not : ∀ e : Option (Addr × Value × Option Addr), FnFact prog w K mg base ⟨He.ga K "House", e⟩ 4 "why_not" f_why_not := fun e => ⟨_, fd_why_not, _, def_ok (k := 3) 40 (x_why_not f_need_room f_first_barred f_first_broken) FD_why_not sc_why_not rfl (by decide +kernel) ({ blt := hblt, cst := allF_nil, hcls := hcls, nkt := hnt, nkk := hnk, xs := hxs, e0 := fun hh => nomatch hh }) (allF_cons (FnFact.mono (F_need_room e) (by decide)) (allF_cons (FnFact.mono (F_first_barred e) (by decide)) (allF_cons (FnFact.mono (F_first_broken e) (by decide)) (allF_nil)))) (allF_nil) (allF_nil) (fun X h1 h2 h3 h4 h5 _ _ => fun y hy => (show ∀ y ns, look y [] = some ns → ns = [] → ExK X y from allF_nil) y [] hy rfl) (fun X h1 h2 h3 h4 h5 _ _ => fun y m ns hy => (show ∀ y ns, look y [] = some ns → ∀ m ms, ns = m :: ms → ExF X ⟨He.ga K "House", e⟩ y (m :: ms) from allF_nil) y _ hy m ns rfl), (He.glo_ok KX G (c.t.d.fact 14 (f := .glo "why_not") rfl)), FD_why_not.kp, FunD.bindsN FD_why_not fun _ _ _ _ _ _ us hl => match us, hl with | [_, _, _], _ => rfl⟩
  have F_law_refused : FnFact prog w K mg base ⟨He.ga K "House", none⟩ 6 "_law_refused" f_law_refused := ⟨_, fd_law_refused, _, def_ok (k := 5) 40 (x_law_refused f_nexts f_why_not) FD_law_refused sc_law_refused rfl (by decide +kernel) ({ blt := hblt, cst := allF_nil, hcls := hcls, nkt := hnt, nkk := hnk, xs := hxs, e0 := fun _ => rfl }) (allF_cons (FnFact.mono (F_nexts none) (by decide)) (allF_cons (FnFact.mono (F_why_not none) (by decide)) (allF_nil))) (allF_nil) (allF_nil) (fun X h1 h2 h3 h4 h5 _ _ => fun y hy => (show ∀ y ns, look y [] = some ns → ns = [] → ExK X y from allF_nil) y [] hy rfl) (fun X h1 h2 h3 h4 h5 _ _ => fun y m ns hy => (show ∀ y ns, look y [] = some ns → ∀ m ms, ns = m :: ms → ExF X ⟨He.ga K "House", none⟩ y (m :: ms) from allF_nil) y _ hy m ns rfl), (He.glo_ok KX G (c.t.d.fact 36 (f := .glo "_law_refused") rfl)), FD_law_refused.kp, FunD.bindsN FD_law_refused fun _ _ _ _ _ _ us hl => match us, hl with | [_, _, _], _ => rfl⟩
  have F_law_odd : ∀ e : Option (Addr × Value × Option Addr), FnFact prog w K mg base ⟨He.ga K "House", e⟩ 3 "_law_odd" f_law_odd := fun e => ⟨_, fd_law_odd, _, def_ok (k := 2) 40 (x_law_odd f_law_any f_law_taken) FD_law_odd sc_law_odd rfl (by decide +kernel) ({ blt := hblt, cst := allF_nil, hcls := hcls, nkt := hnt, nkk := hnk, xs := hxs, e0 := fun hh => nomatch hh }) (allF_cons (FnFact.mono (F_law_any e) (by decide)) (allF_cons (FnFact.mono (F_law_taken e) (by decide)) (allF_nil))) (allF_nil) (allF_nil) (fun X h1 h2 h3 h4 h5 _ _ => fun y hy => (show ∀ y ns, look y [] = some ns → ns = [] → ExK X y from allF_nil) y [] hy rfl) (fun X h1 h2 h3 h4 h5 _ _ => fun y m ns hy => (show ∀ y ns, look y [] = some ns → ∀ m ms, ns = m :: ms → ExF X ⟨He.ga K "House", e⟩ y (m :: ms) from allF_nil) y _ hy m ns rfl), (He.glo_ok KX G (c.t.d.fact 33 (f := .glo "_law_odd") rfl)), FD_law_odd.kp, FunD.bindsN FD_law_odd fun _ _ _ _ _ _ us hl => match us, hl with | [_, _], _ => rfl⟩
  have F_law_why : ∀ e : Option (Addr × Value × Option Addr), FnFact prog w K mg base ⟨He.ga K "House", e⟩ 3 "_law_why" f_law_why := fun e => ⟨_, fd_law_why, _, def_ok (k := 2) 40 (x_law_why f_law_first f_law_may) FD_law_why sc_law_why rfl (by decide +kernel) ({ blt := hblt, cst := allF_nil, hcls := hcls, nkt := hnt, nkk := hnk, xs := hxs, e0 := fun hh => nomatch hh }) (allF_cons (FnFact.mono (F_law_first e) (by decide)) (allF_cons (FnFact.mono (F_law_may e) (by decide)) (allF_nil))) (allF_nil) (allF_nil) (fun X h1 h2 h3 h4 h5 _ _ => fun y hy => (show ∀ y ns, look y [] = some ns → ns = [] → ExK X y from allF_nil) y [] hy rfl) (fun X h1 h2 h3 h4 h5 _ _ => fun y m ns hy => (show ∀ y ns, look y [] = some ns → ∀ m ms, ns = m :: ms → ExF X ⟨He.ga K "House", e⟩ y (m :: ms) from allF_nil) y _ hy m ns rfl), (He.glo_ok KX G (c.t.d.fact 35 (f := .glo "_law_why") rfl)), FD_law_why.kp, FunD.bindsN FD_law_why fun _ _ _ _ _ _ us hl => match us, hl with | [_, _, _], _ => rfl⟩
  have F_must : ∀ e : Option (Addr × Value × Option Addr), FnFact prog w K mg base ⟨He.ga K "House", e⟩ 1 "must" f_must := fun e => ⟨_, fd_must, _, def_ok (k := 0) 40 x_must FD_must sc_must rfl (by decide +kernel) ({ blt := hblt, cst := allF_nil, hcls := hcls, nkt := hnt, nkk := hnk, xs := hxs, e0 := fun hh => nomatch hh }) (allF_nil) (allF_nil) (allF_nil) (fun X h1 h2 h3 h4 h5 _ _ => fun y hy => (show ∀ y ns, look y [] = some ns → ns = [] → ExK X y from allF_nil) y [] hy rfl) (fun X h1 h2 h3 h4 h5 _ _ => fun y m ns hy => (show ∀ y ns, look y [] = some ns → ∀ m ms, ns = m :: ms → ExF X ⟨He.ga K "House", e⟩ y (m :: ms) from allF_nil) y _ hy m ns rfl), (He.glo_ok KX G (c.t.d.fact 15 (f := .glo "must") rfl)), FD_must.kp, FunD.bindsN FD_must fun _ _ _ _ _ _ us hl => match us, hl with | [_, _, _], _ => rfl⟩
  have F_is_name : ∀ e : Option (Addr × Value × Option Addr), FnFact prog w K mg base ⟨He.ga K "House", e⟩ 1 "is_name" f_is_name := fun e => ⟨_, fd_is_name, _, def_ok (k := 0) 40 x_is_name FD_is_name sc_is_name rfl (by decide +kernel) ({ blt := hblt, cst := allF_cons (hc_LONGEST_NAME e) (allF_cons (hc_LETTERS e) (allF_nil)), hcls := hcls, nkt := hnt, nkk := hnk, xs := hxs, e0 := fun hh => nomatch hh }) (allF_nil) (allF_nil) (allF_nil) (fun X h1 h2 h3 h4 h5 _ _ => fun y hy => (show ∀ y ns, look y [] = some ns → ns = [] → ExK X y from allF_nil) y [] hy rfl) (fun X h1 h2 h3 h4 h5 _ _ => fun y m ns hy => (show ∀ y ns, look y [] = some ns → ∀ m ms, ns = m :: ms → ExF X ⟨He.ga K "House", e⟩ y (m :: ms) from allF_nil) y _ hy m ns rfl), (He.glo_ok KX G (c.t.d.fact 16 (f := .glo "is_name") rfl)), FD_is_name.kp, FunD.bindsN FD_is_name fun _ _ _ _ _ _ us hl => match us, hl with | [_], _ => rfl⟩
  have F_are_marks : ∀ e : Option (Addr × Value × Option Addr), FnFact prog w K mg base ⟨He.ga K "House", e⟩ 1 "are_marks" f_are_marks := fun e => ⟨_, fd_are_marks, _, def_ok (k := 0) 40 x_are_marks FD_are_marks sc_are_marks rfl (by decide +kernel) ({ blt := hblt, cst := allF_cons (hc_MOST_MARKS e) (allF_cons (hc_LEAST_APART e) (allF_cons (hc_MOST_MARK e) (allF_nil))), hcls := hcls, nkt := hnt, nkk := hnk, xs := hxs, e0 := fun hh => nomatch hh }) (allF_nil) (allF_nil) (allF_nil) (fun X h1 h2 h3 h4 h5 _ _ => fun y hy => (show ∀ y ns, look y [] = some ns → ns = [] → ExK X y from allF_nil) y [] hy rfl) (fun X h1 h2 h3 h4 h5 _ _ => fun y m ns hy => (show ∀ y ns, look y [] = some ns → ∀ m ms, ns = m :: ms → ExF X ⟨He.ga K "House", e⟩ y (m :: ms) from allF_nil) y _ hy m ns rfl), (He.glo_ok KX G (c.t.d.fact 17 (f := .glo "are_marks") rfl)), FD_are_marks.kp, FunD.bindsN FD_are_marks fun _ _ _ _ _ _ us hl => match us, hl with | [_], _ => rfl⟩
  have F_House_is_tie : ∀ e : Option (Addr × Value × Option Addr), MetFact prog w K mg base ⟨He.ga K "House", e⟩ 1 "is_tie" f_House_is_tie := fun e => ⟨rfl, _, fd_House_is_tie, _, He.meth_ok (c.t.d.fact 67 (f := .meth "House" "is_tie") rfl), def_ok (k := 0) 40 x_House_is_tie FD_House_is_tie sc_House_is_tie rfl (by decide +kernel) ({ blt := hblt, cst := allF_cons (hc_LENGTHS e) (allF_nil), hcls := hcls, nkt := hnt, nkk := hnk, xs := hxs, e0 := fun hh => nomatch hh }) (allF_nil) (allF_nil) (allF_nil) (fun X h1 h2 h3 h4 h5 _ _ => fun y hy => (show ∀ y ns, look y [] = some ns → ns = [] → ExK X y from allF_nil) y [] hy rfl) (fun X h1 h2 h3 h4 h5 _ _ => fun y m ns hy => (show ∀ y ns, look y [] = some ns → ∀ m ms, ns = m :: ms → ExF X ⟨He.ga K "House", e⟩ y (m :: ms) from allF_nil) y _ hy m ns rfl), FunD.bindsN FD_House_is_tie fun _ _ _ _ _ _ us hl => match us, hl with | [_, _], _ => rfl⟩
  have F_House_init : MkFact prog w K mg base ⟨He.ga K "House", none⟩ 2 "House" f_House := ⟨_, fd_House_init, _, He.mkr_ok (c.t.d.fact 68 (f := .mkr "House") rfl), hou_ok (k := 1) 40 (x_House_init f_must f_is_name f_are_marks f_House_is_tie) FD_House_init sc_House_init rfl (by decide +kernel) rfl (by decide +kernel) (fun e => { blt := hblt, cst := allF_cons (hc_MOST_THINGS e) (allF_cons (hc_MOST_TIES e) (allF_nil)), hcls := hcls, nkt := hnt, nkk := hnk, xs := hxs, e0 := fun hh => nomatch hh }) (fun e => allF_cons (FnFact.mono (F_must e) (by decide)) (allF_cons (FnFact.mono (F_is_name e) (by decide)) (allF_cons (FnFact.mono (F_are_marks e) (by decide)) (allF_nil)))) (fun e => allF_nil) (fun e => allF_cons (MetFact.mono (F_House_is_tie e) (by decide)) (allF_nil)) (fun X h1 h2 h3 h4 h5 _ _ => fun y hy => (show ∀ y ns, look y [] = some ns → ns = [] → ExK X y from allF_nil) y [] hy rfl) (fun e => fun X h1 h2 h3 h4 h5 _ _ => fun y m ns hy => (show ∀ y ns, look y [] = some ns → ∀ m ms, ns = m :: ms → ExF X ⟨He.ga K "House", e⟩ y (m :: ms) from allF_nil) y _ hy m ns rfl), (He.glo_ok KX G (c.t.d.fact 18 (f := .glo "House") rfl)), FunD.bindsN FD_House_init fun _ _ _ _ _ _ us hl => match us, hl with | [_, _, _], _ => rfl⟩
  exact def_ok (k := 7) 40 (x_law f_law_things f_law_ties f_law_room f_law_nexts f_nexts f_law_alike f_law_other f_law_refused f_law_odd f_why_not f_law_why f_House) FD_law sc_law rfl (by decide +kernel) ({ blt := hblt, cst := allF_nil, hcls := hcls, nkt := hnt, nkk := hnk, xs := hxs, e0 := fun _ => rfl }) (allF_cons (FnFact.mono (F_law_things none) (by decide)) (allF_cons (FnFact.mono (F_law_ties none) (by decide)) (allF_cons (FnFact.mono (F_law_room none) (by decide)) (allF_cons (FnFact.mono (F_law_nexts none) (by decide)) (allF_cons (FnFact.mono (F_nexts none) (by decide)) (allF_cons (FnFact.mono (F_law_alike none) (by decide)) (allF_cons (FnFact.mono (F_law_other none) (by decide)) (allF_cons (FnFact.mono F_law_refused (by decide)) (allF_cons (FnFact.mono (F_law_odd none) (by decide)) (allF_cons (FnFact.mono (F_why_not none) (by decide)) (allF_cons (FnFact.mono (F_law_why none) (by decide)) (allF_nil)))))))))))) (allF_cons (⟨2, by decide, F_House_init⟩) (allF_nil)) (allF_nil) (fun X h1 h2 h3 h4 h5 _ _ => fun y hy => (show ∀ y ns, look y [] = some ns → ns = [] → ExK X y from allF_nil) y [] hy rfl) (fun X h1 h2 h3 h4 h5 _ _ => fun y m ns hy => (show ∀ y ns, look y [] = some ns → ∀ m ms, ns = m :: ms → ExF X ⟨He.ga K "House", none⟩ y (m :: ms) from allF_nil) y _ hy m ns rfl)
theorem plain (ns : List Int) (h : ns.length ≤ 63) : ∃ r, f_law.run [.scr ns] none = .ok (.bl true) r := by
  rw [e_law]
  exact law_ok ns h
end TH
open PySem PySem.W PySem.Calls PyProof.Rows
theorem PySem.Challenge.cw_trendhouse_k03_what_comes_next_and_why_n_holds : PySem.Challenge.rw_trendhouse_k03_what_comes_next_and_why_n.Holds := by
  w_on; o_law
  refine HandSHeadRun.head_any (r := OpenLaw.row PySem.Challenge.rw_trendhouse_k03_what_comes_next_and_why_n) (q := view (OpenLaw.row PySem.Challenge.rw_trendhouse_k03_what_comes_next_and_why_n).prog [51]) (H := TH.hkL) (ob := TH.obL) (M := 6000) (loose := TH.names) (d := HandSHeadRun.topDef (OpenLaw.row PySem.Challenge.rw_trendhouse_k03_what_comes_next_and_why_n).prog 51) (kwd := []) TH.ob_eqL
    (by kernel_rfl) (fun s => by kernel_rfl) TH.runL (by kernel_rfl) (by kernel_rfl) (by kernel_rfl) (by rfl) (by first | assumption | decide +kernel) (by decide +kernel) ⟨rfl, rfl, rfl, rfl, rfl, by decide +kernel⟩ ?hw ?hc
  case hw => w_witness2
  case hc =>
    refine L2.walk_ofE (l := PySem.Challenge.rw_trendhouse_k03_what_comes_next_and_why_n) (n := 63) (k := 8) (x := "_law_script") (CX := TH.CXany) rfl (by decide) (by kernel_rfl) ⟨rfl, by decide, by decide⟩ ?F (fun _ _ _ _ z => TH.cxany_no z)
    intro w mg fa h Y G hmg0
    obtain ⟨K, KX, c⟩ := Y
    have hmg : mg ("law" : PySem.Str) = some (.ref fa) := by
      have e : (HandSHeadRun.topDef (OpenLaw.row PySem.Challenge.rw_trendhouse_k03_what_comes_next_and_why_n).prog 51).name = ("law" : PySem.Str) := by kernel_rfl
      rw [← e]
      exact hmg0
    obtain ⟨f, fd, h1, h2, h3⟩ := TH.chain (prog := (PySem.Challenge.rw_trendhouse_k03_what_comes_next_and_why_n).prog) (w := w) KX G c
    have e := hmg.symm.trans h1
    cases e
    exact ⟨K, fd, _, KX, h2, fun H a ns hl hO hS => TH.law_sp (prog := (PySem.Challenge.rw_trendhouse_k03_what_comes_next_and_why_n).prog) (w := w) (C := ⟨He.ga K "House", none⟩) rfl hO hS (TH.plain ns hl), fun base _ _ => TH.fnOk_cx (h3 base) fun _ _ _ _ _ _ q => ⟨_, _, q⟩⟩
