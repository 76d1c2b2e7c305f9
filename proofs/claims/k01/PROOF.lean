import PyProof.Rows.All
import Wide.All
import OpenK.AllK
import Wide.FinOn
import PyProof.NeKinds
import KE.KStateDown
import HandS.ForMost
import HandS.ForExc
import HandS.Flow
import HandS.IsInst
import HandS.SortInts
import HandS.Zip
import HandS.TupLe
import HandS.TupAny
import HandS.TupMul
import HandS.CallSlots
import HandS.Wide
import HandS.Lambda
import HandS.ExcInit
import HandS.ExcIs
import HandS.ExcField
import HandS.ExcValue
import HandS.TryMany
import KE.KDictKeyed
import KE.KeyNested
import KE.DataMinMax
import KE.SortData
import KE.KDictCopyH
import HandS.TupLen
import HandS.DictSubView
import HandS.DictComp
import KE.KTupSum
import HandS.Style
import HandS.Defaults
import KE.GoesEnum
import HandS.Ends
import HandS.HeadEnd
import HandS.Head2
import HandS.HeadHook2
import HandS.SetFor
import HandS.Strs
import HandS.Nested
import KE.KExcSuper
import HandS.ExcBuiltin
import KE.KExcIs
import KE.KTryMore
import HandS.HeadHook4
import KE.KDictWalk
import HandS.Deep
import KE.KDictZip
import HandS.Star
import HandS.MakeKw
import KE.KEqDict
import HandS.Text
import HandS.RaiseMore
import HandS.Iter
import PyProof.StrOps2
import PySem.Challenge.RW_bestoflast_k01_errors
set_option Elab.async false
set_option linter.all false
set_option maxRecDepth 100000
set_option maxHeartbeats 4000000
set_option autoImplicit false
namespace DL
open PySem PySem.Spec L2
open PyProof.Rows hiding St
inductive Rs (S α : Type) where
  | ok (a : α) (s : S)
  | ex (c : Nat) (p : PyData) (s : S)
  | no
def Rs.bind {S α β : Type} (x : Rs S α) (f : α → S → Rs S β) : Rs S β :=
  match x with
  | .ok a s => f a s
  | .ex c p s => .ex c p s
  | .no => .no
@[simp] theorem Rs.bind_ok {S α β : Type} (a : α) (s : S) (f : α → S → Rs S β) : (Rs.ok a s).bind f = f a s := rfl
@[simp] theorem Rs.bind_ex {S α β : Type} (c : Nat) (p : PyData) (s : S) (f : α → S → Rs S β) : (Rs.ex c p s : Rs S α).bind f = .ex c p s := rfl
@[simp] theorem Rs.bind_no {S α β : Type} (f : α → S → Rs S β) : (Rs.no : Rs S α).bind f = .no := rfl
def Rs.of {S α : Type} (o : Option α) (s : S) : Rs S α := match o with | some a => .ok a s | none => .no
@[simp] theorem Rs.of_some {S α : Type} (a : α) (s : S) : Rs.of (some a) s = .ok a s := rfl
@[simp] theorem Rs.of_none {S α : Type} (s : S) : (Rs.of none s : Rs S α) = .no := rfl
/-- the draws' state; two: the dict of the second half's laws -/
structure MS where
  cells : List Int
  left : Int
  spot : Int
  seed : Int
  two : Bool
/-- what a slot holds: data, a list that is being made, the draw's dict, the script, a lambda without arguments, an error held as a value, a dict that is being made -/
inductive DV where
  | pu (d : PyData)
  | own (xs : List PyData)
  | m
  | scr (ns : List Int)
  | clo (G : MS → Rs MS PyData)
  | exc (c : Nat) (p : PyData)
  | dic (kvs : List (PyData × PyData))
  | dki (kvs : List (Int × Int))
/-- what is being made by hand: a list, a dict -/
def isOwnV : DV → Bool
  | .own _ => true
  | .dic _ => true
  | .dki _ => true
  | _ => false
structure Sg where
  r : List (Option DV)
  s : MS
def Ext (B F F' : Hp) : Prop := Same F F' ∧ ∀ a o, F' a = some o → F a = none → B a = none
theorem Same.rfl' {F : Hp} : Same F F := fun _ _ e => e
theorem Same.tr {F G H : Hp} (a : Same F G) (b : Same G H) : Same F H := fun _ _ e => b _ _ (a _ _ e)
theorem Ext.refl {B F : Hp} : Ext B F F := ⟨fun _ _ e => e, fun a o e n => by rw [n] at e; cases e⟩
theorem Ext.trans {B F G H : Hp} (a : Ext B F G) (b : Ext B G H) : Ext B F H :=
  ⟨Same.tr a.1 b.1, fun x o e n => by
    cases q : G x with
    | none => exact b.2 x o e q
    | some u => exact a.2 x u q n⟩
theorem Rd.mono {F H : Hp} {a : Addr} {u : HO} (s : Same F H) (h : Rd F a u) : Rd H a u := by
  rcases h with h | ⟨o, h⟩
  · exact .inl (s _ _ h)
  · exact .inr ⟨o, s _ _ h⟩
theorem SqL.mono {K : PySem.W.Frag} {F H : Hp} {a : Addr} {xs : List V} (s : Same F H) (h : SqL K F a xs) : SqL K H a xs := by
  rcases h with h | h
  · exact .inl (Rd.mono s h)
  · exact .inr h
theorem SqT.mono {K : PySem.W.Frag} {F H : Hp} {a : Addr} {xs : List V} (s : Same F H) (h : SqT K F a xs) : SqT K H a xs := by
  rcases h with h | h
  · exact .inl (Rd.mono s h)
  · exact .inr h
mutual
/-- the key that a datum is -/
def keyN : PyData → Option NestedKey
  | .none => some .none
  | .bool b => some (.num (if b = true then 1 else 0))
  | .int i => some (.num i)
  | .str x => some (.text x)
  | .tuple ds => (keysN ds).map .tup
  | _ => none
def keysN : List PyData → Option (List NestedKey)
  | [] => some []
  | d :: ds => match keyN d, keysN ds with
    | some k, some ks => some (k :: ks)
    | _, _ => none
end
/-- at a stands a dict with these entries: key, where its tuple stands, value -/
def NDo (hs : NestedKey → Int) (a : Addr) (es : List (NestedKey × Addr × V)) : HO := .ext fun h =>
  es.length ≤ sizeLine ∧ (a == sysModules) = false ∧ (es.map (·.1)).Nodup ∧ ∃ (ys : List (NestedKey × Addr × Value)) (o : Obj) (ds : Array DictEntry) (ep : Nat),
    Paired (fun (p : NestedKey × Addr × V) (q : NestedKey × Addr × Value) => p.1 = q.1 ∧ p.2.1 = q.2.1 ∧ RelV p.2.2 q.2.2) es ys ∧
    h.get? a = some o ∧ o.ExactDict ∧ o.data = .dict ds ep ∧ ds.toList = ys.map fun x => ⟨hs x.1, .ref x.2.1, x.2.2⟩
/-- which class and field an error's number stands for; the tables of code objects; what a lambda's value keeps -/
structure ET where
  hs : NestedKey → Int
  cls : Nat → Addr
  fld : Nat → Str
  T : List (Addr × Str)
  Φ : (MS → Rs MS PyData) → Addr → Hp → V → Prop
  mono : ∀ G am F F' v, Same F F' → Φ G am F v → Φ G am F' v
/-- an error held as a value: the object at e, of the class C, with its dict at d -/
def XO (e C d : Addr) : HO := .ext fun h => ∃ (oe : Obj) (vs : Array Value), h.get? e = some oe ∧ oe.cls = .ref C ∧ oe.dict = some d ∧ oe.data = .fields vs
/-- an own error as a datum: its class's number, what it keeps -/
@[irreducible] def xMark : Int := 2 ^ 2000
theorem xMark_no : (decide (xMark.natAbs.log2 < 1920)) = false := by unfold xMark; decide +kernel
def errD (c : Nat) (p : PyData) : PyData := .dict [(.int xMark, .int c), (.int xMark, p)]
/-- one without a dict -/
def er0D (c : Nat) : PyData := .dict [(.int xMark, .int c)]
section
variable {et : ET}
mutual
/-- a value stands for a datum in the frozen part F -/
inductive Dn (K : PySem.W.Frag) (et : ET) (F : Hp) : V → PyData → Prop
  | non : Dn K et F .non .none
  | bl (b : Bool) : Dn K et F (.bl b) (.bool b)
  | int (i : Int) : Dn K et F (.int i) (.int i)
  | str (x : Str) : Dn K et F (.str x) (.str x)
  | lst {a : Addr} {xs : List V} {ds : List PyData} : F a = some (.lst xs) → DnAll K et F xs ds → Dn K et F (.ref a) (.list ds)
  | tup {a : Addr} {xs : List V} {ds : List PyData} : SqT K F a xs → DnAll K et F xs ds → Dn K et F (.ref a) (.tuple ds)
  | dcx {a : Addr} {o : Obj} {es : List (NestedKey × Addr × V)} {kvs : List (PyData × PyData)} : F a = some (.frz o (NDo et.hs a es)) → DnKv K et F es kvs → Dn K et F (.ref a) (.dict kvs)
  | dck {a : Addr} {o : Obj} {es : List (Key × V)} {kvs : List (PyData × PyData)} : kvs ≠ [] → F a = some (.frz o (.dK es)) → DnKk K et F es kvs → Dn K et F (.ref a) (.dict kvs)
  | err {e d : Addr} {c : Nat} {u : V} {p : PyData} : F e = some (XO e (et.cls c) d) → F d = some (.xd [(et.fld c, u)]) → Dn K et F u p → Dn K et F (.ref e) (.dict [(.int xMark, .int c), (.int xMark, p)])
  | er0 {e : Addr} {c : Nat} : F e = some (ExO (.ref (et.cls c)) e) → Dn K et F (.ref e) (.dict [(.int xMark, .int c)])
inductive DnAll (K : PySem.W.Frag) (et : ET) (F : Hp) : List V → List PyData → Prop
  | nil : DnAll K et F [] []
  | cons {v : V} {vs : List V} {d : PyData} {ds : List PyData} : Dn K et F v d → DnAll K et F vs ds → DnAll K et F (v :: vs) (d :: ds)
/-- entries with tuples as keys -/
inductive DnKv (K : PySem.W.Frag) (et : ET) (F : Hp) : List (NestedKey × Addr × V) → List (PyData × PyData) → Prop
  | nil : DnKv K et F [] []
  | cons {n : NestedKey} {b : Addr} {v : V} {k d : PyData} {es : List (NestedKey × Addr × V)} {kvs : List (PyData × PyData)} : keyN k = some n → n.depth ≤ 8 → Dn K et F (.ref b) k → Dn K et F v d → DnKv K et F es kvs → DnKv K et F ((n, b, v) :: es) ((k, d) :: kvs)
/-- entries with ints and texts as keys -/
inductive DnKk (K : PySem.W.Frag) (et : ET) (F : Hp) : List (Key × V) → List (PyData × PyData) → Prop
  | nil : DnKk K et F [] []
  | int {i : Int} {v : V} {d : PyData} {es : List (Key × V)} {kvs : List (PyData × PyData)} : i ≠ xMark → Dn K et F v d → DnKk K et F es kvs → DnKk K et F ((.inl i, v) :: es) ((.int i, d) :: kvs)
  | str {x : Str} {v : V} {d : PyData} {es : List (Key × V)} {kvs : List (PyData × PyData)} : Dn K et F v d → DnKk K et F es kvs → DnKk K et F ((.inr x, v) :: es) ((.str x, d) :: kvs)
end
mutual
theorem Dn.mono {K : PySem.W.Frag} {F H : Hp} (s : Same F H) : ∀ {v : V} {d : PyData}, Dn K et F v d → Dn K et H v d
  | _, _, .non => .non
  | _, _, .bl b => .bl b
  | _, _, .int i => .int i
  | _, _, .str x => .str x
  | _, _, .lst a b => .lst (s _ _ a) (DnAll.mono s b)
  | _, _, .tup a b => .tup (SqT.mono s a) (DnAll.mono s b)
  | _, _, .dcx a b => .dcx (s _ _ a) (DnKv.mono s b)
  | _, _, .dck n a b => .dck n (s _ _ a) (DnKk.mono s b)
  | _, _, .err a b c => .err (s _ _ a) (s _ _ b) (Dn.mono s c)
  | _, _, .er0 a => .er0 (s _ _ a)
theorem DnAll.mono {K : PySem.W.Frag} {F H : Hp} (s : Same F H) : ∀ {vs : List V} {ds : List PyData}, DnAll K et F vs ds → DnAll K et H vs ds
  | _, _, .nil => .nil
  | _, _, .cons a b => .cons (Dn.mono s a) (DnAll.mono s b)
theorem DnKv.mono {K : PySem.W.Frag} {F H : Hp} (s : Same F H) : ∀ {es : List (NestedKey × Addr × V)} {kvs : List (PyData × PyData)}, DnKv K et F es kvs → DnKv K et H es kvs
  | _, _, .nil => .nil
  | _, _, .cons a a2 b c r => .cons a a2 (Dn.mono s b) (Dn.mono s c) (DnKv.mono s r)
theorem DnKk.mono {K : PySem.W.Frag} {F H : Hp} (s : Same F H) : ∀ {es : List (Key × V)} {kvs : List (PyData × PyData)}, DnKk K et F es kvs → DnKk K et H es kvs
  | _, _, .nil => .nil
  | _, _, .int n c r => .int n (Dn.mono s c) (DnKk.mono s r)
  | _, _, .str c r => .str (Dn.mono s c) (DnKk.mono s r)
end
mutual
/-- of the class table only the hash matters here -/
theorem Dn.etc {K : PySem.W.Frag} {F : Hp} {et et' : ET} (q : et.hs = et'.hs ∧ et.cls = et'.cls ∧ et.fld = et'.fld) : ∀ {v : V} {d : PyData}, Dn K et F v d → Dn K et' F v d
  | _, _, .non => .non
  | _, _, .bl b => .bl b
  | _, _, .int i => .int i
  | _, _, .str x => .str x
  | _, _, .lst a b => .lst a (DnAll.etc q b)
  | _, _, .tup a b => .tup a (DnAll.etc q b)
  | _, _, .dcx a b => .dcx (by rw [← q.1]; exact a) (DnKv.etc q b)
  | _, _, .dck n a b => .dck n a (DnKk.etc q b)
  | _, _, .err a b c => .err (by rw [← q.2.1]; exact a) (by rw [← q.2.2]; exact b) (Dn.etc q c)
  | _, _, .er0 a => .er0 (by rw [← q.2.1]; exact a)
theorem DnAll.etc {K : PySem.W.Frag} {F : Hp} {et et' : ET} (q : et.hs = et'.hs ∧ et.cls = et'.cls ∧ et.fld = et'.fld) : ∀ {vs : List V} {ds : List PyData}, DnAll K et F vs ds → DnAll K et' F vs ds
  | _, _, .nil => .nil
  | _, _, .cons a b => .cons (Dn.etc q a) (DnAll.etc q b)
theorem DnKv.etc {K : PySem.W.Frag} {F : Hp} {et et' : ET} (q : et.hs = et'.hs ∧ et.cls = et'.cls ∧ et.fld = et'.fld) : ∀ {es : List (NestedKey × Addr × V)} {kvs : List (PyData × PyData)}, DnKv K et F es kvs → DnKv K et' F es kvs
  | _, _, .nil => .nil
  | _, _, .cons a a2 b c r => .cons a a2 (Dn.etc q b) (Dn.etc q c) (DnKv.etc q r)
theorem DnKk.etc {K : PySem.W.Frag} {F : Hp} {et et' : ET} (q : et.hs = et'.hs ∧ et.cls = et'.cls ∧ et.fld = et'.fld) : ∀ {es : List (Key × V)} {kvs : List (PyData × PyData)}, DnKk K et F es kvs → DnKk K et' F es kvs
  | _, _, .nil => .nil
  | _, _, .int n c r => .int n (Dn.etc q c) (DnKk.etc q r)
  | _, _, .str c r => .str (Dn.etc q c) (DnKk.etc q r)
end
theorem Dn.up {K : PySem.W.Frag} {F H : Hp} {v : V} {d : PyData} (h : Dn K et F v d) (s : Same F H) : Dn K et H v d := Dn.mono s h
theorem DnAll.up {K : PySem.W.Frag} {F H : Hp} {v : List V} {d : List PyData} (h : DnAll K et F v d) (s : Same F H) : DnAll K et H v d := DnAll.mono s h
mutual
theorem Dn.dp {K : PySem.W.Frag} {F : Hp} : ∀ (d : PyData) (v : V), Dn K et F v d → d.canLay0 = true → Dp K F v d
  | .none, _, h, _ => by cases h; exact .non
  | .bool b, _, h, _ => by cases h; exact .bl b
  | .int i, _, h, _ => by cases h; exact .int i
  | .str x, _, h, _ => by cases h; exact .str x
  | .list ds, _, h, l => by cases h with | lst a b => exact .lst (SqL.of a) (DnAll.dp ds _ b (by unfold PyData.canLay0 at l; exact l))
  | .tuple ds, _, h, l => by cases h with | tup a b => exact .tup a (DnAll.dp ds _ b (by unfold PyData.canLay0 at l; exact l))
  | .dict _, _, _, l => by unfold PyData.canLay0 at l; cases l
theorem DnAll.dp {K : PySem.W.Frag} {F : Hp} : ∀ (ds : List PyData) (vs : List V), DnAll K et F vs ds → PyData.canLayAll0 ds = true → DpAll K F vs ds
  | [], _, h, _ => by cases h; exact .nil
  | d :: ds, _, h, l => by
    unfold PyData.canLayAll0 at l
    rw [Bool.and_eq_true] at l
    cases h with | cons a b => exact .cons (Dn.dp d _ a l.1) (DnAll.dp ds _ b l.2)
end
theorem DnAll.length {K : PySem.W.Frag} {F : Hp} : ∀ {vs : List V} {ds : List PyData}, DnAll K et F vs ds → vs.length = ds.length
  | _, _, .nil => rfl
  | _, _, .cons _ t => congrArg (· + 1) (DnAll.length t)
theorem DnAll.get {K : PySem.W.Frag} {F : Hp} : ∀ {vs : List V} {ds : List PyData} {i : Nat} {d : PyData}, DnAll K et F vs ds → ds[i]? = some d → ∃ v, vs[i]? = some v ∧ Dn K et F v d
  | _, _, _, _, .nil, e => by simp at e
  | _, _, 0, _, .cons h _, e => by simp at e; subst e; exact ⟨_, rfl, h⟩
  | _, _, i + 1, d, .cons _ t, e => by
    obtain ⟨v, h1, h2⟩ := DnAll.get (i := i) (d := d) t (by simpa using e)
    exact ⟨v, by simpa using h1, h2⟩
theorem DnAll.append {K : PySem.W.Frag} {F : Hp} : ∀ {vs ws : List V} {ds es : List PyData}, DnAll K et F vs ds → DnAll K et F ws es → DnAll K et F (vs ++ ws) (ds ++ es)
  | _, _, _, _, .nil, s => s
  | _, _, _, _, .cons r t, s => .cons r (DnAll.append t s)
theorem DnAll.take {K : PySem.W.Frag} {F : Hp} : ∀ {vs : List V} {ds : List PyData} (n : Nat), DnAll K et F vs ds → DnAll K et F (vs.take n) (ds.take n)
  | _, _, 0, _ => .nil
  | _, _, _ + 1, .nil => .nil
  | _, _, n + 1, .cons r t => .cons r (DnAll.take n t)
theorem DnAll.drop {K : PySem.W.Frag} {F : Hp} : ∀ {vs : List V} {ds : List PyData} (n : Nat), DnAll K et F vs ds → DnAll K et F (vs.drop n) (ds.drop n)
  | _, _, 0, r => r
  | _, _, _ + 1, .nil => .nil
  | _, _, n + 1, .cons _ t => DnAll.drop n t
def ExcV (K : PySem.W.Frag) (et : ET) (F : Hp) (v : V) (c : Nat) (p : PyData) : Prop :=
  ∃ e d u, v = .ref e ∧ F e = some (XO e (et.cls c) d) ∧ F d = some (.xd [(et.fld c, u)]) ∧ Dn K et F u p
/-- a dict of integers by integers -/
def kvsI (kvs : List (Int × Int)) : List (Key × V) := kvs.map fun p => (.inl p.1, .int p.2)
def DenP (K : PySem.W.Frag) (et : ET) (am : Addr) (F : Hp) (v : V) : DV → Prop
  | .pu d => Dn K et F v d
  | .own _ => False
  | .m => v = .ref am
  | .scr ns => ∃ a, v = .ref a ∧ SqL K F a (ns.map V.int)
  | .clo G => et.Φ G am F v
  | .exc c p => ExcV K et F v c p
  | .dic _ => False
  | .dki _ => False
def DenS (K : PySem.W.Frag) (et : ET) (am : Addr) (B F H : Hp) (v : V) : DV → Prop
  | .pu d => Dn K et F v d
  | .own xs => ∃ a vs, v = .ref a ∧ F a = none ∧ B a = none ∧ a ≠ am ∧ H a = some (.lst vs) ∧ DnAll K et F vs xs
  | .m => v = .ref am
  | .scr ns => ∃ a, v = .ref a ∧ SqL K F a (ns.map V.int)
  | .clo G => et.Φ G am F v
  | .exc c p => ExcV K et F v c p
  | .dic kvs => ∃ a es, v = .ref a ∧ F a = none ∧ B a = none ∧ a ≠ am ∧ H a = some (NDo et.hs a es) ∧ DnKv K et F es kvs
  | .dki kvs => ∃ a, v = .ref a ∧ F a = none ∧ B a = none ∧ a ≠ am ∧ H a = some (.dK (kvsI kvs))
def mkvs (ac : Addr) (s : MS) : List (Key × V) :=
  if s.two = true then [(.inr "left", .int s.left), (.inr "seed", .int s.seed), (.inr "cells", .ref ac), (.inr "spot", .int s.spot)]
  else [(.inr "cells", .ref ac), (.inr "left", .int s.left), (.inr "spot", .int s.spot)]
def MRel (K : PySem.W.Frag) (et : ET) (am : Addr) (F H : Hp) (s : MS) : Prop :=
  ∃ ac, H am = some (.dK (mkvs ac s)) ∧ Dn K et F (.ref ac) (.list (s.cells.map .int))
/-- the draws' dict and the tables stand outside of what is frozen -/
structure Fz (et : ET) (am : Addr) (F H : Hp) : Prop where
  am : F am = none
  tabs : LamX.Tabs et.T H
  off : ∀ p ∈ et.T, F p.1 = none
/-- neither the draws' dict nor a table -/
def Fre (et : ET) (am a : Addr) : Prop := a ≠ am ∧ ∀ p ∈ et.T, a ≠ p.1
structure RepF (K : PySem.W.Frag) (et : ET) (am : Addr) (B F : Hp) (g : Sg) (σ : St) (H : Hp) : Prop where
  sub : Same F H
  fam : Fz et am F H
  base : ∀ a o, B a = some o → Fre et am a → H a = some o
  len : σ.length = g.r.length
  slot : ∀ (i : Nat) (x : DV), g.r[i]? = some (some x) → ∃ v, σ[i]? = some (some v) ∧ DenS K et am B F H v x
  inj : ∀ (i j : Nat) (x y : DV) (a : Addr), g.r[i]? = some (some x) → g.r[j]? = some (some y) → isOwnV x = true → isOwnV y = true → σ[i]? = some (some (.ref a)) → σ[j]? = some (some (.ref a)) → i = j
  ms : MRel K et am F H g.s
theorem ExcV.up {K : PySem.W.Frag} {et : ET} {F F' : Hp} {v : V} {c : Nat} {p : PyData} (h : ExcV K et F v c p) (s : Same F F') : ExcV K et F' v c p := by
  obtain ⟨e, d, u, rfl, h1, h2, h3⟩ := h
  exact ⟨e, d, u, rfl, s _ _ h1, s _ _ h2, Dn.up h3 s⟩
theorem DenP.up {K : PySem.W.Frag} {et : ET} {am : Addr} {F F' : Hp} {v : V} {x : DV} (h : DenP K et am F v x) (s : Same F F') : DenP K et am F' v x := by
  cases x with
  | pu d => exact Dn.up h s
  | own _ => exact h
  | m => exact h
  | dic _ => exact h
  | dki _ => exact h
  | scr ns =>
    obtain ⟨a, e, q⟩ := h
    exact ⟨a, e, SqL.mono s q⟩
  | clo G => exact et.mono G am F F' v s h
  | exc c p => exact ExcV.up h s
/-- an own list's neighbours: all but the lists that are being made -/
theorem DenS.of {K : PySem.W.Frag} {et : ET} {am : Addr} {B F H : Hp} {v : V} {x : DV} (h : DenP K et am F v x) : DenS K et am B F H v x := by
  cases x with
  | own _ => exact h.elim
  | dic _ => exact h.elim
  | dki _ => exact h.elim
  | pu d => exact h
  | m => exact h
  | scr ns => exact h
  | clo G => exact h
  | exc c p => exact h
def OwnO (a : Addr) (u : HO) : Prop := (∃ vs, u = .lst vs) ∨ (∃ hs es, u = NDo hs a es) ∨ ∃ kvs, u = .dK kvs
/-- a heap of nothing but code objects of the name q -/
def codeH (c : Addr) (q : Str) : Heap := { objs := Array.replicate (c + 1) { cls := .none, data := .fields #[.none, .str q 0] } }
theorem codeH_get {c a : Addr} {q : Str} {o : Obj} (e : (codeH c q).get? a = some o) : o.data = .fields #[.none, .str q 0] := by
  unfold codeH Heap.get? at e
  simp only [Array.getElem?_replicate] at e
  split at e
  · cases e
  · rename_i hq
    split at e
    · cases e; rfl
    · cases e
theorem nd_code {hs : NestedKey → Int} {a : Addr} {es : List (NestedKey × Addr × V)} (c : Addr) (q : Str) : NDo hs a es ≠ LamX.CodeO c q := fun z => by
  unfold NDo LamX.CodeO at z
  have y := congrFun (HO.ext.inj z) (codeH c q)
  have hc : (codeH c q).get? c = some { cls := .none, data := .fields #[.none, .str q 0] } := by
    unfold codeH Heap.get?
    simp [Array.getElem?_replicate]
  have w : ∃ (oc : Obj) (vs : Array Value) (t : Tok), (codeH c q).get? c = some oc ∧ oc.data = .fields vs ∧ vs[1]? = some (.str q t) := ⟨_, _, 0, hc, rfl, rfl⟩
  rw [← y] at w
  obtain ⟨_, _, _, ys, o', ds, ep, _, ho', _, hd, _⟩ := w
  rw [codeH_get ho'] at hd
  cases hd
theorem OwnO.tbl {a : Addr} {u : HO} (h : OwnO a u) : ∀ ps, u ≠ .tbl ps := fun ps z => by
  rcases h with ⟨vs, e⟩ | ⟨hs, es, e⟩ | ⟨kvs, e⟩
  · rw [e] at z; cases z
  · rw [e] at z; unfold NDo at z; cases z
  · rw [e] at z; cases z
/-- a slot's value, kept: the lists that are being made by hand -/
theorem DenS.keep {K : PySem.W.Frag} {et : ET} {am : Addr} {B B' F F' H H' : Hp} {v : V} {x : DV} (h : DenS K et am B F H v x) (s : Same F F')
    (own : ∀ a u, isOwnV x = true → v = .ref a → F a = none → B a = none → a ≠ am → H a = some u → OwnO a u → F' a = none ∧ B' a = none ∧ H' a = some u) : DenS K et am B' F' H' v x := by
  cases x with
  | own xs =>
    obtain ⟨a, vs, ev, fa, ba, na, ha, dv⟩ := h
    obtain ⟨h1, h2, h3⟩ := own a _ rfl ev fa ba na ha (.inl ⟨vs, rfl⟩)
    exact ⟨a, vs, ev, h1, h2, na, h3, DnAll.up dv s⟩
  | dic kvs =>
    obtain ⟨a, es, ev, fa, ba, na, ha, dv⟩ := h
    obtain ⟨h1, h2, h3⟩ := own a _ rfl ev fa ba na ha (.inr (.inl ⟨_, es, rfl⟩))
    exact ⟨a, es, ev, h1, h2, na, h3, DnKv.mono s dv⟩
  | dki kvs =>
    obtain ⟨a, ev, fa, ba, na, ha⟩ := h
    obtain ⟨h1, h2, h3⟩ := own a _ rfl ev fa ba na ha (.inr (.inr ⟨_, rfl⟩))
    exact ⟨a, ev, h1, h2, na, h3⟩
  | pu d => exact Dn.up h s
  | m => exact h
  | scr ns =>
    obtain ⟨a, e, q⟩ := h
    exact ⟨a, e, SqL.mono s q⟩
  | clo G => exact et.mono G am F F' v s h
  | exc c p => exact ExcV.up h s
theorem MRel.there {K : PySem.W.Frag} {am : Addr} {F H : Hp} {s : MS} (h : MRel K et am F H s) : ∃ o, H am = some o := by
  obtain ⟨ac, e, _⟩ := h
  exact ⟨_, e⟩
theorem RepF.bnone {K : PySem.W.Frag} {et : ET} {am : Addr} {B F : Hp} {g : Sg} {σ : St} {H : Hp} (R : RepF K et am B F g σ H) {p : Addr} (hp : H p = none) : B p = none ∧ F p = none ∧ p ≠ am := by
  obtain ⟨o, e⟩ := R.ms.there
  have np : p ≠ am := fun z => by rw [z, e] at hp; cases hp
  refine ⟨?_, ?_, np⟩
  · cases q : B p with
    | none => rfl
    | some o =>
      rw [R.base p o q ⟨np, fun t ht z => ?_⟩] at hp
      · cases hp
      · obtain ⟨ps, e', _⟩ := R.fam.tabs t ht
        rw [z, e'] at hp; cases hp
  · cases q : F p with
    | none => rfl
    | some o => rw [R.sub p o q] at hp; cases hp
theorem Tabs.new {T : List (Addr × Str)} {H : Hp} {p : Addr} (t : LamX.Tabs T H) (hp : H p = none) (o : HO) : LamX.Tabs T (upd H p o) :=
  t.ext fun b u e => by rw [upd_ne (ne_of_none e hp)]; exact e
/-- what is written is neither a table nor a code object -/
theorem Tabs.put {T : List (Addr × Str)} {H : Hp} {a : Addr} {u : HO} (t : LamX.Tabs T H) (e : H a = some u) (h1 : ∀ ps, u ≠ .tbl ps) (h2 : ∀ c q, u ≠ LamX.CodeO c q) (o : HO) : LamX.Tabs T (upd H a o) := fun p hp => by
  obtain ⟨ps, e1, e2, e3⟩ := t p hp
  refine ⟨ps, ?_, e2, fun pos cv hc => ?_⟩
  · rw [upd_ne (ne_of e1 e (fun z => h1 ps z.symm))]; exact e1
  · obtain ⟨c, ec, hc⟩ := e3 pos cv hc
    exact ⟨c, ec, by rw [upd_ne (ne_of hc e (fun z => h2 _ _ z.symm))]; exact hc⟩
theorem lst_code {vs : List V} (c : Addr) (q : Str) : HO.lst vs ≠ LamX.CodeO c q := fun z => by unfold LamX.CodeO at z; cases z
theorem dK_code {vs : List (Key × V)} (c : Addr) (q : Str) : HO.dK vs ≠ LamX.CodeO c q := fun z => by unfold LamX.CodeO at z; cases z
/-- a list that is being made is no table -/
theorem Fz.fre {et : ET} {am : Addr} {F H : Hp} (f : Fz et am F H) {a : Addr} {u : HO} (na : a ≠ am) (h : H a = some u) (h1 : ∀ ps, u ≠ .tbl ps) : Fre et am a :=
  ⟨na, fun p hp z => by
    obtain ⟨ps, e, _⟩ := f.tabs p hp
    rw [← z, h] at e
    exact h1 ps (Option.some.inj e)⟩
theorem Fz.offT {et : ET} {am : Addr} {F H : Hp} (f : Fz et am F H) {a : Addr} (h : H a = none) : ∀ p ∈ et.T, a ≠ p.1 := fun p hp z => by
  obtain ⟨ps, e, _⟩ := f.tabs p hp
  rw [← z, h] at e; cases e
/-- a new object is laid and frozen -/
theorem RepF.alloc {K : PySem.W.Frag} {et : ET} {am : Addr} {B F : Hp} {g : Sg} {σ : St} {H : Hp} (R : RepF K et am B F g σ H) {p : Addr} (hp : H p = none) (o : HO) : RepF K et am B (upd F p o) g σ (upd H p o) ∧ Ext B F (upd F p o) := by
  obtain ⟨bp, fp, np⟩ := R.bnone hp
  have sm : Same F (upd F p o) := fun a u e => by
    rw [upd_ne (ne_of_none e fp)]
    exact e
  have hne : ∀ {a : Addr} {u : HO}, H a = some u → a ≠ p := fun e => ne_of_none e hp
  refine ⟨⟨fun a u e => ?_, ⟨by rw [upd_ne (Ne.symm np)]; exact R.fam.am, Tabs.new R.fam.tabs hp o, fun t ht => by rw [upd_ne (Ne.symm (R.fam.offT hp t ht))]; exact R.fam.off t ht⟩, fun a u e na => by rw [upd_ne (hne (R.base a u e na))]; exact R.base a u e na, R.len, fun i x e => ?_, R.inj, ?_⟩, sm, fun a u e n => ?_⟩
  · by_cases h : a = p
    · rw [h, upd_same] at e ⊢
      exact e
    · rw [upd_ne h] at e ⊢
      exact R.sub a u e
  · obtain ⟨v, e1, e2⟩ := R.slot i x e
    exact ⟨v, e1, e2.keep sm fun a u _ _ fa ba na ha ow => ⟨by rw [upd_ne (hne ha)]; exact fa, ba, by rw [upd_ne (hne ha)]; exact ha⟩⟩
  · obtain ⟨ac, e1, e2⟩ := R.ms
    exact ⟨ac, by rw [upd_ne (Ne.symm np)]; exact e1, Dn.up e2 sm⟩
  · by_cases h : a = p
    · rw [h]
      exact bp
    · rw [upd_ne h, n] at e
      cases e
def ExRel (K : PySem.W.Frag) (et : ET) (F H : Hp) (c : Nat) (p : PyData) (cls : Value) (d : Option Addr) : Prop :=
  cls = .ref (et.cls c) ∧ ∃ da v, d = some da ∧ F da = some (.xd [(et.fld c, v)]) ∧ Dn K et F v p
structure wE (X : Cx) (e : Expr) (σ : St) (H : Hp) (Q : VK) : Prop where
  run : ∀ (pins : List (Addr × Obj)) (s : Shared), Inv X pins σ H s → wpAny (model X.prog X.w) X.A (eval e X.env) (EP X pins σ Q) X.xe s
structure wA (X : Cx) (es : List Expr) (σ : St) (H : Hp) (Q : List V → Hp → Prop) : Prop where
  run : ∀ (pos : Pos) (pins : List (Addr × Obj)) (s : Shared), Inv X pins σ H s → wpAny (model X.prog X.w) X.A (spliced (backTo pos (starEach es X.env))) (AP X pins σ Q) X.xe s
structure wT (X : Cx) (e : Expr) (σ : St) (H : Hp) (Q : Bool → Hp → Prop) : Prop where
  run : ∀ (pins : List (Addr × Obj)) (s : Shared), Inv X pins σ H s → wpAny (model X.prog X.w) X.A (isTrue e X.env (eval e X.env)) (TP X pins σ Q) X.xe s
structure wS (X : Cx) (st : Stmt) (D : Ends) (σ : St) (H : Hp) : Prop where
  run : ∀ (pins : List (Addr × Obj)) (s : Shared), Inv X pins σ H s → wpAny (model X.prog X.w) X.A (exec st X.env) (SP X pins D) X.xe s
structure wSs (X : Cx) (st : List Stmt) (D : Ends) (σ : St) (H : Hp) : Prop where
  run : ∀ (pins : List (Addr × Obj)) (s : Shared), Inv X pins σ H s → wpAny (model X.prog X.w) X.A (execs st X.env) (SP X pins D) X.xe s
theorem pe_w {X : Cx} {e : Expr} : PE X e (wE X e) := ⟨fun pins s _ _ _ I h => h.run pins s I⟩
theorem pa_w {X : Cx} {e : List Expr} : PA X e (wA X e) := ⟨fun pos pins s _ _ _ I h => h.run pos pins s I⟩
theorem pt_w {X : Cx} {e : Expr} : PT X e (wT X e) := ⟨fun pins s _ _ _ I h => h.run pins s I⟩
theorem ps_w {X : Cx} {e : Stmt} : PS X e (wS X e) := ⟨fun pins s _ _ _ I h => h.run pins s I⟩
theorem pss_w {X : Cx} {e : List Stmt} : PSs X e (wSs X e) := ⟨fun pins s _ _ _ I h => h.run pins s I⟩
theorem w_of {X : Cx} {e : Expr} {t : TE} (h : PE X e t) {σ : St} {H : Hp} {Q : VK} (q : t σ H Q) : wE X e σ H Q := ⟨fun pins s I => h.run pins s σ H Q I q⟩
theorem wa_of {X : Cx} {e : List Expr} {t : TA} (h : PA X e t) {σ : St} {H : Hp} {Q : List V → Hp → Prop} (q : t σ H Q) : wA X e σ H Q := ⟨fun pos pins s I => h.run pos pins s σ H Q I q⟩
theorem ws_of {X : Cx} {e : Stmt} {t : TS} (h : PS X e t) {σ : St} {H : Hp} {D : Ends} (q : t D σ H) : wS X e D σ H := ⟨fun pins s I => h.run pins s σ H D I q⟩
theorem wss_of {X : Cx} {e : List Stmt} {t : TS} (h : PSs X e t) {σ : St} {H : Hp} {D : Ends} (q : t D σ H) : wSs X e D σ H := ⟨fun pins s I => h.run pins s σ H D I q⟩
/-- the exceptions' side of an end -/
def ExE (K : PySem.W.Frag) (et : ET) (W : WX) (am : Addr) (B F : Hp) (σ : St) (c : Nat) (p : PyData) (g : Sg) : Prop :=
  ∀ cls d F' H', Ext B F F' → RepF K et am B F' g σ H' → ExRel K et F' H' c p cls d → W cls d σ H'
def OkV (K : PySem.W.Frag) (et : ET) (W : WX) (am : Addr) (B F : Hp) (σ : St) (Q : VK) : Rs Sg DV → Prop
  | .ok d g => ∀ v F' H', Ext B F F' → RepF K et am B F' g σ H' → DenP K et am F' v d → Q v H'
  | .ex c p g => ExE K et W am B F σ c p g
  | .no => False
inductive DenL (K : PySem.W.Frag) (et : ET) (am : Addr) (F : Hp) : List V → List DV → Prop
  | nil : DenL K et am F [] []
  | cons {v : V} {vs : List V} {d : DV} {ds : List DV} : DenP K et am F v d → DenL K et am F vs ds → DenL K et am F (v :: vs) (d :: ds)
theorem DenL.up {K : PySem.W.Frag} {et : ET} {am : Addr} {F F' : Hp} (s : Same F F') : ∀ {v : List V} {x : List DV}, DenL K et am F v x → DenL K et am F' v x
  | _, _, .nil => .nil
  | _, _, .cons h t => .cons (h.up s) (DenL.up s t)
def OkL (K : PySem.W.Frag) (et : ET) (W : WX) (am : Addr) (B F : Hp) (σ : St) (Q : List V → Hp → Prop) : Rs Sg (List DV) → Prop
  | .ok d g => ∀ v F' H', Ext B F F' → RepF K et am B F' g σ H' → DenL K et am F' v d → Q v H'
  | .ex c p g => ExE K et W am B F σ c p g
  | .no => False
def OkB (K : PySem.W.Frag) (et : ET) (W : WX) (am : Addr) (B F : Hp) (σ : St) (Q : Bool → Hp → Prop) : Rs Sg Bool → Prop
  | .ok b g => ∀ F' H', Ext B F F' → RepF K et am B F' g σ H' → Q b H'
  | .ex c p g => ExE K et W am B F σ c p g
  | .no => False
inductive Fl where
  | nx | rt (d : DV) | bk | ct
def OkF (K : PySem.W.Frag) (et : ET) (W : WX) (am : Addr) (B F : Hp) (D : Ends) : Rs Sg Fl → Prop
  | .ok .nx g => ∀ σ F' H', Ext B F F' → RepF K et am B F' g σ H' → D.nx σ H'
  | .ok (.rt d) g => ∀ v σ F' H', Ext B F F' → RepF K et am B F' g σ H' → DenP K et am F' v d → D.rt v H'
  | .ok .bk g => ∀ σ F' H', Ext B F F' → RepF K et am B F' g σ H' → D.bk σ H'
  | .ok .ct g => ∀ σ F' H', Ext B F F' → RepF K et am B F' g σ H' → D.ct σ H'
  | .ex c p g => ∀ σ, ExE K et W am B F σ c p g
  | .no => False
def DE (X : Cx) (et : ET) (W : WX) (e : Expr) (f : Sg → Rs Sg DV) : Prop :=
  ∀ am B F g σ H Q, RepF X.K et am B F g σ H → OkV X.K et W am B F σ Q (f g) → wE X e σ H Q
def DA (X : Cx) (et : ET) (W : WX) (e : List Expr) (f : Sg → Rs Sg (List DV)) : Prop :=
  ∀ am B F g σ H Q, RepF X.K et am B F g σ H → OkL X.K et W am B F σ Q (f g) → wA X e σ H Q
def DT (X : Cx) (et : ET) (W : WX) (e : Expr) (f : Sg → Rs Sg Bool) : Prop :=
  ∀ am B F g σ H Q, RepF X.K et am B F g σ H → OkB X.K et W am B F σ Q (f g) → wT X e σ H Q
def DS (X : Cx) (et : ET) (W : WX) (e : Stmt) (f : Sg → Rs Sg Fl) : Prop :=
  ∀ am B F g σ H D, RepF X.K et am B F g σ H → OkF X.K et W am B F D (f g) → wS X e D σ H
def DSs (X : Cx) (et : ET) (W : WX) (e : List Stmt) (f : Sg → Rs Sg Fl) : Prop :=
  ∀ am B F g σ H D, RepF X.K et am B F g σ H → OkF X.K et W am B F D (f g) → wSs X e D σ H
def mVar (i : Nat) (g : Sg) : Rs Sg DV :=
  match g.r[i]? with
  | some (some (.pu d)) => .ok (.pu d) g
  | some (some .m) => .ok .m g
  | some (some (.scr ns)) => .ok (.scr ns) g
  | some (some (.clo G)) => .ok (.clo G) g
  | some (some (.exc c p)) => .ok (.exc c p) g
  | some (some (.own xs)) => .ok (.pu (.list xs)) { g with r := g.r.set i (some (.pu (.list xs))) }
  | some (some (.dic kvs)) => .ok (.pu (.dict kvs)) { g with r := g.r.set i (some (.pu (.dict kvs))) }
  | _ => .no
def mC (d : PyData) (g : Sg) : Rs Sg DV := .ok (.pu d) g
end
section
variable {X : Cx} {et : ET} {W : WX}
/-- a list that was being made is frozen -/
theorem RepF.freeze {K : PySem.W.Frag} {et : ET} {am : Addr} {B F : Hp} {g : Sg} {σ : St} {H : Hp} (R : RepF K et am B F g σ H) {i : Nat} {xs : List PyData} (e : g.r[i]? = some (some (.own xs))) :
    ∃ a F', σ[i]? = some (some (.ref a)) ∧ Ext B F F' ∧ RepF K et am B F' { g with r := g.r.set i (some (.pu (.list xs))) } σ H ∧ Dn K et F' (.ref a) (.list xs) := by
  obtain ⟨v, e1, a, vs, rfl, fa, ba, na, ha, dv⟩ := R.slot i _ e
  have sm : Same F (upd F a (.lst vs)) := fun b u q => by
    rw [upd_ne (ne_of_none q fa)]
    exact q
  have hi : i < g.r.length := (List.getElem?_eq_some_iff.mp e).1
  have dl : Dn K et (upd F a (.lst vs)) (.ref a) (.list xs) := .lst upd_same (DnAll.up dv sm)
  refine ⟨a, upd F a (.lst vs), e1, ⟨sm, fun b u q n => ?_⟩, ⟨fun b u q => ?_, ⟨by rw [upd_ne (Ne.symm na)]; exact R.fam.am, R.fam.tabs, fun t ht => by rw [upd_ne (Ne.symm ((R.fam.fre na ha (fun _ z => by cases z)).2 t ht))]; exact R.fam.off t ht⟩, R.base, by rw [List.length_set]; exact R.len, fun j x q => ?_, fun j k x' y' b q1 q2 o1 o2 q3 q4 => ?_, ?_⟩, dl⟩
  · by_cases h : b = a
    · rw [h]; exact ba
    · rw [upd_ne h, n] at q; cases q
  · by_cases h : b = a
    · rw [h, upd_same] at q
      rw [h]
      cases q
      exact ha
    · rw [upd_ne h] at q
      exact R.sub b u q
  · by_cases h : i = j
    · subst h
      rw [List.getElem?_set_self hi] at q
      cases q
      exact ⟨.ref a, e1, dl⟩
    · rw [List.getElem?_set_ne h] at q
      obtain ⟨w, q1, q2⟩ := R.slot j x q
      refine ⟨w, q1, q2.keep sm fun b u ow ew fb bb nb hb db => ?_⟩
      subst ew
      have nab : b ≠ a := fun z => h (R.inj i j _ x a e q rfl ow e1 (by rw [← z]; exact q1))
      exact ⟨by rw [upd_ne nab]; exact fb, bb, hb⟩
  · by_cases h1 : i = j
    · subst h1
      rw [List.getElem?_set_self hi] at q1
      cases q1
      cases o1
    · by_cases h2 : i = k
      · subst h2
        rw [List.getElem?_set_self hi] at q2
        cases q2
        cases o2
      · rw [List.getElem?_set_ne h1] at q1
        rw [List.getElem?_set_ne h2] at q2
        exact R.inj j k x' y' b q1 q2 o1 o2 q3 q4
  · obtain ⟨ac, q1, q2⟩ := R.ms
    exact ⟨ac, q1, Dn.up q2 sm⟩
/-- a dict that was being made is frozen -/
theorem RepF.freezeD {K : PySem.W.Frag} {et : ET} {am : Addr} {B F : Hp} {g : Sg} {σ : St} {H : Hp} (R : RepF K et am B F g σ H) {i : Nat} {kvs : List (PyData × PyData)} {a : Addr} {es : List (NestedKey × Addr × V)} (od : Obj) (e : g.r[i]? = some (some (.dic kvs)))
    (e1 : σ[i]? = some (some (.ref a))) (fa : F a = none) (ba : B a = none) (na : a ≠ am) (ha : H a = some (NDo et.hs a es)) (dv : DnKv K et F es kvs) :
    Ext B F (upd F a (.frz od (NDo et.hs a es))) ∧ RepF K et am B (upd F a (.frz od (NDo et.hs a es))) { g with r := g.r.set i (some (.pu (.dict kvs))) } σ (upd H a (.frz od (NDo et.hs a es))) ∧ Dn K et (upd F a (.frz od (NDo et.hs a es))) (.ref a) (.dict kvs) := by
  have ntb : ∀ ps, NDo et.hs a es ≠ .tbl ps := fun ps z => by unfold NDo at z; cases z
  have sm : Same F (upd F a (.frz od (NDo et.hs a es))) := fun b u q => by
    rw [upd_ne (ne_of_none q fa)]
    exact q
  have hi : i < g.r.length := (List.getElem?_eq_some_iff.mp e).1
  have dl : Dn K et (upd F a (.frz od (NDo et.hs a es))) (.ref a) (.dict kvs) := .dcx upd_same (DnKv.mono sm dv)
  refine ⟨⟨sm, fun b u q n => ?_⟩, ⟨fun b u q => ?_, ⟨by rw [upd_ne (Ne.symm na)]; exact R.fam.am, Tabs.put R.fam.tabs ha ntb nd_code _, fun t ht => by rw [upd_ne (Ne.symm ((R.fam.fre na ha ntb).2 t ht))]; exact R.fam.off t ht⟩, fun b u q fr => by rw [upd_ne (ne_of_none q ba)]; exact R.base b u q fr, by rw [List.length_set]; exact R.len, fun j x q => ?_, fun j k x' y' b q1 q2 o1 o2 q3 q4 => ?_, ?_⟩, dl⟩
  · by_cases h : b = a
    · rw [h]; exact ba
    · rw [upd_ne h, n] at q; cases q
  · by_cases h : b = a
    · rw [h, upd_same] at q
      rw [h, upd_same]
      exact q
    · rw [upd_ne h] at q ⊢
      exact R.sub b u q
  · by_cases h : i = j
    · subst h
      rw [List.getElem?_set_self hi] at q
      cases q
      exact ⟨.ref a, e1, dl⟩
    · rw [List.getElem?_set_ne h] at q
      obtain ⟨w, q1, q2⟩ := R.slot j x q
      refine ⟨w, q1, q2.keep sm fun b u ow ew fb bb nb hb db => ?_⟩
      subst ew
      have nab : b ≠ a := fun z => h (R.inj i j _ x a e q rfl ow e1 (by rw [← z]; exact q1))
      exact ⟨by rw [upd_ne nab]; exact fb, bb, by rw [upd_ne nab]; exact hb⟩
  · by_cases h1 : i = j
    · subst h1
      rw [List.getElem?_set_self hi] at q1
      cases q1
      cases o1
    · by_cases h2 : i = k
      · subst h2
        rw [List.getElem?_set_self hi] at q2
        cases q2
        cases o2
      · rw [List.getElem?_set_ne h1] at q1
        rw [List.getElem?_set_ne h2] at q2
        exact R.inj j k x' y' b q1 q2 o1 o2 q3 q4
  · obtain ⟨ac, q1, q2⟩ := R.ms
    exact ⟨ac, by rw [upd_ne (Ne.symm na)]; exact q1, Dn.up q2 sm⟩
theorem de_var (i : Nat) {x : Str} {pos : Pos} (hN : X.N[i]? = some x := by rfl) (hv : Vis X.env.scope x := by first | exact Or.inl rfl | exact Or.inr (Or.inl rfl) | exact Or.inr (Or.inr rfl)) (hd : (x == ("__debug__" : Str)) = false := by decide)
    (hcd : (x == ("__classdict__" : Str)) = false := by decide) : DE X et W (.Name x pos) (mVar i) := by
  intro am B F g σ H Q R h
  unfold mVar at h
  split at h
  · rename_i d e
    obtain ⟨v, e1, e2⟩ := R.slot i _ e
    exact w_of (pe_var hN hv hd hcd) ⟨v, e1, h v F H Ext.refl R e2⟩
  · rename_i e
    obtain ⟨v, e1, e2⟩ := R.slot i _ e
    exact w_of (pe_var hN hv hd hcd) ⟨v, e1, h v F H Ext.refl R e2⟩
  · rename_i ns e
    obtain ⟨v, e1, e2⟩ := R.slot i _ e
    exact w_of (pe_var hN hv hd hcd) ⟨v, e1, h v F H Ext.refl R e2⟩
  · rename_i G e
    obtain ⟨v, e1, e2⟩ := R.slot i _ e
    exact w_of (pe_var hN hv hd hcd) ⟨v, e1, h v F H Ext.refl R e2⟩
  · rename_i c p e
    obtain ⟨v, e1, e2⟩ := R.slot i _ e
    exact w_of (pe_var hN hv hd hcd) ⟨v, e1, h v F H Ext.refl R e2⟩
  · rename_i xs e
    obtain ⟨a, F', e1, ex, R', dp⟩ := R.freeze e
    exact w_of (pe_var hN hv hd hcd) ⟨_, e1, h _ F' H ex R' dp⟩
  · rename_i kvs e
    obtain ⟨v, e1, a, es, rfl, fa, ba, na, ha, dv⟩ := R.slot i _ e
    refine ⟨fun pins s I => ?_⟩
    obtain ⟨od, I1⟩ := I.lock ha (by trivial)
    obtain ⟨ex, R', dp⟩ := R.freezeD od e e1 fa ba na ha dv
    exact (w_of (pe_var (pos := pos) hN hv hd hcd) ⟨_, e1, h _ _ _ ex R' dp⟩).run pins s I1
  · exact h.elim
theorem de_int {i j pos} : DE X et W (.Constant (.int i) j pos) (mC (.int i)) := fun am B F g σ H Q R h => w_of pe_int (h _ F H Ext.refl R (.int i))
theorem de_bl {b j pos} : DE X et W (.Constant (.bool b) j pos) (mC (.bool b)) := fun am B F g σ H Q R h => w_of pe_bl (h _ F H Ext.refl R (.bl b))
theorem de_non {j pos} : DE X et W (.Constant .none j pos) (mC .none) := fun am B F g σ H Q R h => w_of pe_non (h _ F H Ext.refl R .non)
theorem de_str {x j pos} : DE X et W (.Constant (.str x) j pos) (mC (.str x)) := fun am B F g σ H Q R h => w_of pe_str (h _ F H Ext.refl R (.str x))
def OpS (X : Cx) (et : ET) (f : Value → Value → Sem Value) (h : PyData → PyData → Option PyData) : Prop :=
  ∀ am B F g σ H x y a b d Q, RepF X.K et am B F g σ H → Dn X.K et F x a → Dn X.K et F y b → h a b = some d → (∀ v F' H', Ext B F F' → RepF X.K et am B F' g σ H' → Dn X.K et F' v d → Q v H') → ∃ r : R2, OpR X f r ∧ r x y H Q
def asP : DV → Option PyData
  | .pu d => some d
  | _ => none
def mBin (h : PyData → PyData → Option PyData) (fa fb : Sg → Rs Sg DV) (g : Sg) : Rs Sg DV :=
  (fa g).bind fun x g1 => (fb g1).bind fun y g2 => match x, y with
    | .pu a, .pu b => Rs.of ((h a b).map .pu) g2
    | _, _ => .no
theorem ExE.weak {K : PySem.W.Frag} {et : ET} {am : Addr} {B F F1 : Hp} {σ : St} {c : Nat} {p : PyData} {g : Sg} (x : Ext B F F1) (h : ExE K et W am B F σ c p g) : ExE K et W am B F1 σ c p g :=
  fun cls d F' H' e R r => h cls d F' H' (x.trans e) R r
/-- what may stand behind a part: it can be weakened, lets errors out, and is false where nothing is said -/
structure Good {β : Type} (K : PySem.W.Frag) (et : ET) (W : WX) (am : Addr) (B : Hp) (σ : St) (O : Hp → Rs Sg β → Prop) : Prop where
  weak : ∀ F F1 r, Ext B F F1 → O F r → O F1 r
  ex : ∀ F c p g, O F (.ex c p g) → ExE K et W am B F σ c p g
  no : ∀ F, O F .no → False
theorem goodV {K : PySem.W.Frag} {et : ET} {am : Addr} {B : Hp} {σ : St} {Q : VK} : Good K et W am B σ (fun F r => OkV K et W am B F σ Q r) where
  weak := fun F F1 r x h => by
    cases r with
    | ok d g => exact fun v F' H' e R q => h v F' H' (x.trans e) R q
    | ex c p g => exact ExE.weak x h
    | no => exact h
  ex := fun _ _ _ _ h => h
  no := fun _ h => h
theorem goodL {K : PySem.W.Frag} {et : ET} {am : Addr} {B : Hp} {σ : St} {Q : List V → Hp → Prop} : Good K et W am B σ (fun F r => OkL K et W am B F σ Q r) where
  weak := fun F F1 r x h => by
    cases r with
    | ok d g => exact fun v F' H' e R q => h v F' H' (x.trans e) R q
    | ex c p g => exact ExE.weak x h
    | no => exact h
  ex := fun _ _ _ _ h => h
  no := fun _ h => h
theorem goodB {K : PySem.W.Frag} {et : ET} {am : Addr} {B : Hp} {σ : St} {Q : Bool → Hp → Prop} : Good K et W am B σ (fun F r => OkB K et W am B F σ Q r) where
  weak := fun F F1 r x h => by
    cases r with
    | ok d g => exact fun F' H' e R => h F' H' (x.trans e) R
    | ex c p g => exact ExE.weak x h
    | no => exact h
  ex := fun _ _ _ _ h => h
  no := fun _ h => h
theorem goodF {K : PySem.W.Frag} {et : ET} {am : Addr} {B : Hp} {σ : St} {D : Ends} : Good K et W am B σ (fun F r => OkF K et W am B F D r) where
  weak := fun F F1 r x h => by
    cases r with
    | ok d g =>
      cases d with
      | nx => exact fun σ F' H' e R => h σ F' H' (x.trans e) R
      | bk => exact fun σ F' H' e R => h σ F' H' (x.trans e) R
      | ct => exact fun σ F' H' e R => h σ F' H' (x.trans e) R
      | rt d => exact fun v σ F' H' e R q => h v σ F' H' (x.trans e) R q
    | ex c p g => exact fun σ => ExE.weak x (h σ)
    | no => exact h
  ex := fun _ _ _ _ h => h σ
  no := fun _ h => h
/-- a part, then the rest -/
theorem DE.then {β : Type} {e : Expr} {fa : Sg → Rs Sg DV} {k : DV → Sg → Rs Sg β} {am : Addr} {B F : Hp} {g : Sg} {σ : St} {H : Hp} {O : Hp → Rs Sg β → Prop} {Q : VK} (ha : DE X et W e fa) (G : Good X.K et W am B σ O) (R : RepF X.K et am B F g σ H) (hq : O F ((fa g).bind k))
    (nx : ∀ d g' v F' H', Ext B F F' → RepF X.K et am B F' g' σ H' → DenP X.K et am F' v d → O F' (k d g') → Q v H') : wE X e σ H Q := by
  refine ha am B F g σ H Q R ?_
  cases q : fa g with
  | ok d g' =>
    rw [q] at hq
    exact fun v F' H' ex R' dn => nx d g' v F' H' ex R' dn (G.weak F F' _ ex hq)
  | ex c p g' => rw [q] at hq; exact G.ex F c p g' hq
  | no => rw [q] at hq; exact (G.no F hq).elim
theorem DA.then {β : Type} {e : List Expr} {fa : Sg → Rs Sg (List DV)} {k : List DV → Sg → Rs Sg β} {am : Addr} {B F : Hp} {g : Sg} {σ : St} {H : Hp} {O : Hp → Rs Sg β → Prop} {Q : List V → Hp → Prop} (ha : DA X et W e fa) (G : Good X.K et W am B σ O) (R : RepF X.K et am B F g σ H) (hq : O F ((fa g).bind k))
    (nx : ∀ d g' v F' H', Ext B F F' → RepF X.K et am B F' g' σ H' → DenL X.K et am F' v d → O F' (k d g') → Q v H') : wA X e σ H Q := by
  refine ha am B F g σ H Q R ?_
  cases q : fa g with
  | ok d g' =>
    rw [q] at hq
    exact fun v F' H' ex R' dn => nx d g' v F' H' ex R' dn (G.weak F F' _ ex hq)
  | ex c p g' => rw [q] at hq; exact G.ex F c p g' hq
  | no => rw [q] at hq; exact (G.no F hq).elim
theorem DT.then {β : Type} {e : Expr} {fa : Sg → Rs Sg Bool} {k : Bool → Sg → Rs Sg β} {am : Addr} {B F : Hp} {g : Sg} {σ : St} {H : Hp} {O : Hp → Rs Sg β → Prop} {Q : Bool → Hp → Prop} (ha : DT X et W e fa) (G : Good X.K et W am B σ O) (R : RepF X.K et am B F g σ H) (hq : O F ((fa g).bind k))
    (nx : ∀ d g' F' H', Ext B F F' → RepF X.K et am B F' g' σ H' → O F' (k d g') → Q d H') : wT X e σ H Q := by
  refine ha am B F g σ H Q R ?_
  cases q : fa g with
  | ok d g' =>
    rw [q] at hq
    exact fun F' H' ex R' => nx d g' F' H' ex R' (G.weak F F' _ ex hq)
  | ex c p g' => rw [q] at hq; exact G.ex F c p g' hq
  | no => rw [q] at hq; exact (G.no F hq).elim
theorem de_bin_core {e a b : Expr} {op : Value → Value → Sem Value} {fa fb : Sg → Rs Sg DV} {h : PyData → PyData → Option PyData} (o : OpS X et op h)
    (rule : ∀ (pins : List (Addr × Obj)) (s : Shared) (σ : St) (H : Hp) (Q : VK), Inv X pins σ H s → (wE X a σ H fun x H1 => wE X b σ H1 fun y H2 => ∃ r : R2, OpR X op r ∧ r x y H2 Q) → wpAny (model X.prog X.w) X.A (eval e X.env) (EP X pins σ Q) X.xe s)
    (ha : DE X et W a fa) (hb : DE X et W b fb) : DE X et W e (mBin h fa fb) := by
  intro am B F g σ H Q R hq
  constructor
  intro pins s I
  refine rule pins s σ H Q I (ha.then (goodV (Q := Q)) R hq fun dx g1 x F1 H1 ex1 R1 dn1 hq1 => hb.then (goodV (Q := Q)) R1 hq1 fun dy g2 y F2 H2 ex2 R2 dn2 hq2 => ?_)
  cases dx with
  | own _ => exact hq2.elim
  | m => exact hq2.elim
  | scr _ => exact hq2.elim
  | clo _ => exact hq2.elim
  | exc _ _ => exact hq2.elim
  | dic _ => exact hq2.elim
  | dki _ => exact hq2.elim
  | pu da =>
    cases dy with
    | own _ => exact hq2.elim
    | m => exact hq2.elim
    | scr _ => exact hq2.elim
    | clo _ => exact hq2.elim
    | exc _ _ => exact hq2.elim
    | dic _ => exact hq2.elim
    | dki _ => exact hq2.elim
    | pu db =>
      have hq2 : OkV X.K et W am B F2 σ Q (Rs.of ((h da db).map .pu) g2) := hq2
      cases q3 : h da db with
      | none => rw [q3] at hq2; exact hq2.elim
      | some d =>
        rw [q3] at hq2
        exact o am B F2 g2 σ H2 x y da db d Q R2 (Dn.up dn1 ex2.1) dn2 q3 fun v F' H' ex R' dd => hq2 v F' H' ex R' dd
theorem de_op {op : Operator} {a b : Expr} {pos : Pos} {fa fb : Sg → Rs Sg DV} {h : PyData → PyData → Option PyData} (o : OpS X et (binaryOp op) h) (ha : DE X et W a fa) (hb : DE X et W b fb) : DE X et W (.BinOp a op b pos) (mBin h fa fb) :=
  de_bin_core o (fun pins s σ H Q I q => wpAny_BinOp (binT pe_w pe_w I q fun v u s2 x y H2 I2 rx ry ⟨r, ho, q⟩ => ho pins s2 σ H2 x y v u Q I2 rx ry q)) ha hb
theorem de_cmp {op : CmpOp} {a b : Expr} {pos : Pos} {fa fb : Sg → Rs Sg DV} {h : PyData → PyData → Option PyData} (o : OpS X et (compareOp op) h) (ha : DE X et W a fa) (hb : DE X et W b fb) (hm : behindInMarks op b = false := by exact nomark _) : DE X et W (.Compare a [op] [b] pos) (mBin h fa fb) :=
  de_bin_core o (fun pins s σ H Q I q => wpAny_Compare1 (binT pe_w pe_w I q fun v u s2 x y H2 I2 rx ry ⟨r, ho, q⟩ => ho pins s2 σ H2 x y v u Q I2 rx ry q) hm) ha hb
end
end DL
set_option Elab.async false
set_option linter.all false
set_option maxRecDepth 100000
set_option maxHeartbeats 4000000
set_option autoImplicit false
namespace DL
open PySem PySem.Spec L2
open PyProof.Rows hiding St
theorem tuple_mulS (l : Addr) (items : Array Value) (n : Nat) (dd : Option Addr) (sl : Array (Option Value)) (x : Int) (u : Tok) (c0 : (decide (x < -(2 ^ 63)) || decide (x ≥ 2 ^ 63)) = false) (c1 : (items.isEmpty || x == 1) = true) :
    Meets (Builtin.«tuple.__mul__» ⟨[.ref l, .int x u], []⟩) (fun _ R s => s.heap.get? l = some { cls := .type "tuple", dict := dd, data := .seq items n, slots := sl } ∧
      R (.ok (.ret (Value.ref l))) s) :=
  .of_wp fun prog w A R s h => by
    obtain ⟨hp, g, d, tk, os⟩ := s
    obtain ⟨hl, h⟩ := h
    have f1 := AutoSeq1.idx_int
    wp_walk using wpAny_loadPart' hl
    repeat (first
      | (refine wpAny_ite_false (decide_eq_false (by rw [c0]; exact Bool.false_ne_true)) ?_; wp_walk using wpAny_loadPart' hl)
      | (refine wpAny_ite_true (decide_eq_true c1) ?_; wp_walk using wpAny_loadPart' hl))
    all_goals exact ⟨_, rfl, h⟩
theorem tuple_mul0 (l : Addr) (items : Array Value) (n : Nat) (dd : Option Addr) (sl : Array (Option Value)) (x : Int) (u : Tok) (c0 : (decide (x < -(2 ^ 63)) || decide (x ≥ 2 ^ 63)) = false) (c1 : (items.isEmpty || x == 1) = false) (c2 : (decide (x ≤ 0) || items.isEmpty) = true) :
    Meets (Builtin.«tuple.__mul__» ⟨[.ref l, .int x u], []⟩) (fun _ R s => s.heap.get? l = some { cls := .type "tuple", dict := dd, data := .seq items n, slots := sl } ∧
      R (.ok (.ret (Value.ref s.heap.objs.size))) { s with heap := s.heap.push { cls := Value.type "tuple", data := Data.seq #[] }, toks := s.toks }) :=
  .of_wp fun prog w A R s h => by
    obtain ⟨hp, g, d, tk, os⟩ := s
    obtain ⟨hl, h⟩ := h
    have f1 := AutoSeq1.idx_int
    wp_walk using wpAny_loadPart' hl
    repeat (first
      | (refine wpAny_ite_false (decide_eq_false (by rw [c0]; exact Bool.false_ne_true)) ?_; wp_walk using wpAny_loadPart' hl)
      | (refine wpAny_ite_false (decide_eq_false (by rw [c1]; exact Bool.false_ne_true)) ?_; wp_walk using wpAny_loadPart' hl)
      | (refine wpAny_ite_true (decide_eq_true c2) ?_; wp_walk using wpAny_loadPart' hl))
    all_goals exact ⟨_, rfl, h⟩
def rRepS (K : PySem.W.Frag) : R2 := fun x y H Q => ∃ l k xs, x = .ref l ∧ y = .int k ∧ SqT K H l xs ∧ (xs = [] ∨ k = 1) ∧ -1000 ≤ k ∧ k ≤ 1000 ∧ Q (.ref l) H
def rRep0 (K : PySem.W.Frag) : R2 := fun x y H Q => ∃ l k xs, x = .ref l ∧ y = .int k ∧ SqT K H l xs ∧ xs ≠ [] ∧ -1000 ≤ k ∧ k ≤ 0 ∧ ∀ p, H p = none → Q (.ref p) (upd H p (.tup []))
section
variable {X : Cx}
theorem op_repS : OpR X (binaryOp .Mult) (rRepS X.K) := by
  intro pins s σ H x y v u Q I rx ry h
  obtain ⟨l, k, xs, rfl, rfl, hT, hne, h1, h2, q⟩ := h
  cases rx
  obtain ⟨t, rfl⟩ := ry
  obtain ⟨its, r, ⟨⟨cls, dd, data, sl⟩, ho, hc, n, hd⟩, hs⟩ := I.tuple hT
  simp only at hc hd
  subst hc hd
  have hle : its.length = xs.length := r.length.symm
  have c0 : (decide (k < -(2 ^ 63)) || decide (k ≥ 2 ^ 63)) = false := by
    rw [decide_eq_false (by omega), decide_eq_false (by omega)] <;> rfl
  have c1 : (its.toArray.isEmpty || k == 1) = true := by
    rcases hne with e | e
    · rw [e] at hle
      cases its with
      | nil => rfl
      | cons a b => cases hle
    · rw [e]
      exact Bool.or_true _
  refine wpAny_binaryOp_repeat_ref (T := "tuple") (U := "int") (by decide) ⟨_, ho, rfl⟩ (fun s' => typeIs_int s' k t) noFill_tuple_mul F.fills_int_mul F.slot_int_rmul repeat_tuple F.slot_int_index.lookup
    (call_meets F.slot_int_rmul (typeIs_int s k t) F.entry_int_rmul (F.args_int_rmul_2 _ _) (int_rmul_tuple k t l its.toArray n dd sl)
      ⟨ho, rfl, ⟨_, ho, rfl⟩, call_meets F.slot_tuple_mul ⟨_, ho, rfl⟩ F.entry_tuple_mul (F.args_tuple_mul_2 _ _) (tuple_mulS l its.toArray n dd sl k t c0 c1) ⟨ho, ?_⟩⟩)
  exact ⟨.ref l, _, I, rfl, q⟩
theorem op_rep0 : OpR X (binaryOp .Mult) (rRep0 X.K) := by
  intro pins s σ H x y v u Q I rx ry h
  obtain ⟨l, k, xs, rfl, rfl, hT, hne, h1, h2, q⟩ := h
  cases rx
  obtain ⟨t, rfl⟩ := ry
  obtain ⟨its, r, ⟨⟨cls, dd, data, sl⟩, ho, hc, n, hd⟩, hs⟩ := I.tuple hT
  simp only at hc hd
  subst hc hd
  have hle : its.length = xs.length := r.length.symm
  have hi : its.toArray.isEmpty = false := by
    cases its with
    | nil => exact absurd (List.eq_nil_of_length_eq_zero hle.symm) hne
    | cons a b => rfl
  have c0 : (decide (k < -(2 ^ 63)) || decide (k ≥ 2 ^ 63)) = false := by
    rw [decide_eq_false (by omega), decide_eq_false (by omega)] <;> rfl
  have c1 : (its.toArray.isEmpty || k == 1) = false := by
    rw [hi, Bool.false_or]
    exact beq_eq_false_iff_ne.mpr (by omega)
  have c2 : (decide (k ≤ 0) || its.toArray.isEmpty) = true := by
    rw [decide_eq_true h2]; rfl
  refine wpAny_binaryOp_repeat_ref (T := "tuple") (U := "int") (by decide) ⟨_, ho, rfl⟩ (fun s' => typeIs_int s' k t) noFill_tuple_mul F.fills_int_mul F.slot_int_rmul repeat_tuple F.slot_int_index.lookup
    (call_meets F.slot_int_rmul (typeIs_int s k t) F.entry_int_rmul (F.args_int_rmul_2 _ _) (int_rmul_tuple k t l its.toArray n dd sl)
      ⟨ho, rfl, ⟨_, ho, rfl⟩, call_meets F.slot_tuple_mul ⟨_, ho, rfl⟩ F.entry_tuple_mul (F.args_tuple_mul_2 _ _) (tuple_mul0 l its.toArray n dd sl k t c0 c1 c2) ⟨ho, ?_⟩⟩)
  refine ⟨.ref s.heap.objs.size, _, I.laid (t' := s.toks) (o := .tup []) (fun b ob q => Heap.get?_push_of_some _ q) (Nat.le_refl _) ?_, rfl, q _ (I.hok.fresh (Nat.le_refl _))⟩
  exact ⟨Nat.zero_le _, _, r.rep 0, IsTup.new _ _⟩
end
def rRepW (K : PySem.W.Frag) : R2 := fun x y H Q => ∃ l k xs, x = .ref l ∧ y = .int k ∧ SqT K H l xs ∧ xs ≠ [] ∧ 2 ≤ k ∧ k ≤ 100000 ∧ xs.length * k.toNat ≤ 100000 ∧ ∀ p, H p = none → Q (.ref p) (upd H p (.tup (List.replicate k.toNat xs).flatten))
theorem op_repW {X : Cx} : OpR X (binaryOp .Mult) (rRepW X.K) := by
  intro pins s σ H x y v u Q I rx ry h
  obtain ⟨l, k, xs, rfl, rfl, hT, hne, h1, h2, hz, q⟩ := h
  cases rx
  obtain ⟨t, rfl⟩ := ry
  obtain ⟨its, r, ⟨⟨cls, dd, data, sl⟩, ho, hc, n, hd⟩, hs⟩ := I.tuple hT
  simp only at hc hd
  subst hc hd
  have hle : its.length = xs.length := r.length.symm
  have hn : its ≠ [] := fun e => hne (by
    rw [e] at hle
    exact List.eq_nil_of_length_eq_zero hle.symm)
  have hi : its.toArray.isEmpty = false := by
    cases its with
    | nil => exact absurd rfl hn
    | cons a b => rfl
  have hsz0 : its.toArray.size = xs.length := by rw [List.size_toArray, hle]
  have hm : ((its.toArray.size : Nat) : Int) * k ≤ 100000 := by
    rw [hsz0]
    have ek : k = (k.toNat : Int) := by omega
    rw [ek, ← Int.natCast_mul]
    omega
  have fl0 : k.toNat * xs.length ≤ 100000 := by rw [Nat.mul_comm]; exact hz
  have flen : (List.replicate k.toNat its).flatten.length ≤ sizeLine := by
    rw [PyProof.Rows.lm_len_rep_flat, hle, sizeLine_eq]
    omega
  have c0 : (decide (k < -(2 ^ 63)) || decide (k ≥ 2 ^ 63)) = false := by
    rw [decide_eq_false (by omega), decide_eq_false (by omega)] <;> rfl
  have c1 : (its.toArray.isEmpty || k == 1) = false := by
    rw [hi, Bool.false_or]
    exact beq_eq_false_iff_ne.mpr (by omega)
  have c2 : (decide (k ≤ 0) || its.toArray.isEmpty) = false := by
    rw [hi, Bool.or_false]
    exact decide_eq_false (by omega)
  have c4 : Builtin.Tuple.tupleTooMany (((its.toArray.size : Nat) : Int) * k) = false := by
    unfold Builtin.Tuple.tupleTooMany
    rw [sizeLine_eq]
    exact decide_eq_false (by omega)
  refine wpAny_binaryOp_repeat_ref (T := "tuple") (U := "int") (by decide) ⟨_, ho, rfl⟩ (fun s' => typeIs_int s' k t) noFill_tuple_mul F.fills_int_mul F.slot_int_rmul repeat_tuple F.slot_int_index.lookup
    (call_meets F.slot_int_rmul (typeIs_int s k t) F.entry_int_rmul (F.args_int_rmul_2 _ _) (int_rmul_tuple k t l its.toArray n dd sl)
      ⟨ho, rfl, ⟨_, ho, rfl⟩, call_meets F.slot_tuple_mul ⟨_, ho, rfl⟩ F.entry_tuple_mul (F.args_tuple_mul_2 _ _) (tuple_mulW l its.toArray n dd sl k t c0 c1 c2 (by omega) c4 (by rw [size_rep, List.size_toArray]; exact flen)) ⟨ho, ?_⟩⟩)
  rw [size_rep]
  refine ⟨.ref s.heap.objs.size, _, I.laid (t' := s.toks) (o := .tup (List.replicate k.toNat xs).flatten) (fun b ob q => Heap.get?_push_of_some _ q) (Nat.le_refl _) ?_, rfl, q _ (I.hok.fresh (Nat.le_refl _))⟩
  exact ⟨by rw [PyProof.Rows.lm_len_rep_flat, sizeLine_eq]; omega, _, r.rep k.toNat, IsTup.new _ _⟩
end DL
set_option Elab.async false
set_option linter.all false
set_option maxRecDepth 100000
set_option maxHeartbeats 4000000
set_option autoImplicit false
namespace DL
open PySem PySem.Spec L2
open PyProof.Rows hiding St
section
variable {X : Cx} {et : ET} {W : WX}
def bigN : Nat := 16777216
theorem bigN_eq : sizeLine = bigN := sizeLine_eq
def dAdd : PyData → PyData → Option PyData
  | .int a, .int b => some (.int (a + b))
  | .tuple xs, .tuple ys => if xs.length + ys.length ≤ bigN then some (.tuple (xs ++ ys)) else none
  | .list xs, .list ys => if xs.length + ys.length ≤ bigN then some (.list (xs ++ ys)) else none
  | .str x, .str y => if x.length + y.length ≤ bigN then some (.str (x ++ y)) else none
  | _, _ => none
def dSub : PyData → PyData → Option PyData
  | .int a, .int b => some (.int (a - b))
  | _, _ => none
/-- these stand still at an unknown number, at once (a kernel that looks into them does not count down) -/
def small (a : Int) : Bool := decide (a.natAbs < 2 ^ 64)
def leB : Int → Int → Bool
  | .ofNat m, .ofNat n => Nat.ble m n
  | .ofNat _, .negSucc _ => false
  | .negSucc _, .ofNat _ => true
  | .negSucc m, .negSucc n => Nat.ble n m
def ltB (a b : Int) : Bool := !leB b a
theorem leB_iff {a b : Int} : leB a b = true ↔ a ≤ b := by
  cases a <;> cases b <;> simp only [leB, Nat.ble_eq, Bool.false_eq_true, true_iff, false_iff, Int.ofNat_eq_natCast] <;> omega
theorem leB_eq (a b : Int) : leB a b = decide (a ≤ b) := by rw [Bool.eq_iff_iff, leB_iff, decide_eq_true_eq]
theorem ltB_eq (a b : Int) : ltB a b = decide (a < b) := by
  unfold ltB
  rw [leB_eq, ← decide_not]
  exact decide_eq_decide.mpr Int.not_le
theorem leB_t {a b : Int} (h : a ≤ b) : leB a b = true := leB_iff.mpr h
theorem leB_f {a b : Int} (h : b < a) : leB a b = false := by rw [leB_eq]; exact decide_eq_false (by omega)
theorem ltB_t {a b : Int} (h : a < b) : ltB a b = true := by rw [ltB_eq]; exact decide_eq_true h
theorem ltB_f {a b : Int} (h : b ≤ a) : ltB a b = false := by rw [ltB_eq]; exact decide_eq_false (by omega)
theorem ltB_iff {a b : Int} : ltB a b = true ↔ a < b := by rw [ltB_eq, decide_eq_true_eq]
theorem small_of {a : Int} (h0 : -(2 ^ 64) < a) (h : a < 2 ^ 64) : small a = true := by
  unfold small
  rw [decide_eq_true_eq]
  omega
def dMul : PyData → PyData → Option PyData
  | .int a, .int b => if small a || small b then some (.int (a * b)) else none
  | .list xs, .int k => if decide (k.natAbs < 2 ^ 63) && decide (xs.length * k.toNat ≤ bigN) then some (.list (List.replicate k.toNat xs).flatten) else none
  | .tuple xs, .int k => if leB (-1000) k && leB k 1000 && decide (xs.length ≤ 1000) then some (.tuple (List.replicate k.toNat xs).flatten) else if leB 2 k && leB k 100000 && decide (0 < xs.length) && decide (xs.length * k.toNat ≤ 100000) then some (.tuple (List.replicate k.toNat xs).flatten) else none
  | _, _ => none
def dMod : PyData → PyData → Option PyData
  | .int a, .int b => if ltB 0 b then some (.int (a % b)) else none
  | _, _ => none
def dDiv : PyData → PyData → Option PyData
  | .int a, .int b => if ltB 0 b && ltB b 1073741824 then some (.int (a / b)) else none
  | _, _ => none
def dPow : PyData → PyData → Option PyData
  | .int a, .int b => if leB 0 b && leB b 1000000 && decide (a.natAbs < 2 ^ 64) then some (.int (a ^ b.toNat)) else none
  | _, _ => none
theorem Dn.int_of {K : PySem.W.Frag} {F : Hp} {v : V} {i : Int} (h : Dn K et F v (.int i)) : v = .int i := by cases h; rfl
theorem Dn.bl_of {K : PySem.W.Frag} {F : Hp} {v : V} {i : Bool} (h : Dn K et F v (.bool i)) : v = .bl i := by cases h; rfl
theorem Dn.str_of {K : PySem.W.Frag} {F : Hp} {v : V} {i : Str} (h : Dn K et F v (.str i)) : v = .str i := by cases h; rfl
theorem os_add : OpS X et (binaryOp .Add) dAdd := by
  intro am B F g σ H x y a b d Q R hx hy e q
  unfold dAdd at e
  split at e
  · cases e
    rw [hx.int_of, hy.int_of]
    exact ⟨_, op_add, _, _, rfl, rfl, q _ F H Ext.refl R (.int _)⟩
  · rename_i xs ys
    split at e
    · rename_i hz
      cases e
      cases hx with
      | tup sx dx =>
        cases hy with
        | tup sy dy =>
          refine ⟨_, op_catA, _, _, _, _, rfl, rfl, SqT.mono R.sub sx, SqT.mono R.sub sy, by rw [dx.length, dy.length, bigN_eq]; exact hz, fun e0 => ?_, fun _ e0 => ?_, fun _ _ p hp => ?_⟩
          · subst e0
            cases dx
            exact q _ F H Ext.refl R (.tup sy dy)
          · subst e0
            cases dy
            rw [List.append_nil] at q
            exact q _ F H Ext.refl R (.tup sx dx)
          · obtain ⟨R', ex⟩ := R.alloc hp (.tup (_ ++ _))
            exact q _ _ _ ex R' (.tup (SqT.of upd_same) ((dx.append dy).up ex.1))
    · cases e
  · rename_i xs ys
    split at e
    · rename_i hz
      cases e
      cases hx with
      | lst sx dx =>
        cases hy with
        | lst sy dy =>
          refine ⟨_, op_cat, _, _, _, _, rfl, rfl, R.sub _ _ sx, R.sub _ _ sy, by rw [dx.length, dy.length, bigN_eq]; exact hz, fun p hp => ?_⟩
          obtain ⟨R', ex⟩ := R.alloc hp (.lst (_ ++ _))
          exact q _ _ _ ex R' (.lst upd_same ((dx.append dy).up ex.1))
    · cases e
  · split at e
    · rename_i hz
      cases e
      rw [hx.str_of, hy.str_of]
      exact ⟨_, op_add_str, _, _, rfl, rfl, by rw [bigN_eq]; exact hz, q _ F H Ext.refl R (.str _)⟩
    · cases e
  · cases e
theorem DnAll.rep {K : PySem.W.Frag} {F : Hp} {vs : List V} {ds : List PyData} (h : DnAll K et F vs ds) : ∀ n : Nat, DnAll K et F (List.replicate n vs).flatten (List.replicate n ds).flatten
  | 0 => .nil
  | n + 1 => by
    rw [List.replicate_succ, List.replicate_succ, List.flatten_cons, List.flatten_cons]
    exact h.append (DnAll.rep h n)
theorem os_mul : OpS X et (binaryOp .Mult) dMul := by
  intro am B F g σ H x y a b d Q R hx hy e q
  unfold dMul at e
  split at e
  · rename_i i j
    split at e
    · rename_i hz
      cases e
      rw [hx.int_of, hy.int_of]
      refine ⟨_, op_mul, _, _, rfl, rfl, ?_, q _ F H Ext.refl R (.int _)⟩
      unfold small at hz
      simp only [Bool.or_eq_true, decide_eq_true_eq] at hz
      rcases hz with hz | hz
      · exact Or.inl ⟨by omega, by omega⟩
      · exact Or.inr ⟨by omega, by omega⟩
    · cases e
  · rename_i xs k
    split at e
    · rename_i hz
      cases e
      simp only [Bool.and_eq_true, decide_eq_true_eq] at hz
      rw [hy.int_of]
      cases hx with
      | lst sx dx =>
        refine ⟨_, op_rep, _, _, _, rfl, rfl, R.sub _ _ sx, by omega, by omega, by rw [dx.length, bigN_eq]; exact hz.2, fun p hp => ?_⟩
        obtain ⟨R', ex⟩ := R.alloc hp (.lst (List.replicate k.toNat _).flatten)
        exact q _ _ _ ex R' (.lst upd_same ((dx.rep _).up ex.1))
    · cases e
  · rename_i xs k
    split at e
    · rename_i hz
      cases e
      simp only [Bool.and_eq_true, decide_eq_true_eq, leB_iff] at hz
      rw [hy.int_of]
      cases hx with
      | tup sx dx =>
        by_cases hs : (xs = [] ∨ k = 1)
        · refine ⟨_, op_repS, _, _, _, rfl, rfl, SqT.mono R.sub sx, ?_, hz.1.1, hz.1.2, ?_⟩
          · rcases hs with e | e
            · subst e; cases dx; exact .inl rfl
            · exact .inr e
          · have ed : (List.replicate k.toNat xs).flatten = xs := by
              rcases hs with e | e
              · subst e; simp
              · subst e; simp
            exact q _ F H Ext.refl R (by rw [ed]; exact .tup sx dx)
        · have hx0 : xs ≠ [] := fun z => hs (.inl z)
          have hk1 : k ≠ 1 := fun z => hs (.inr z)
          by_cases h0 : k ≤ 0
          · refine ⟨_, op_rep0, _, _, _, rfl, rfl, SqT.mono R.sub sx, fun z => ?_, hz.1.1, h0, fun p hp => ?_⟩
            · subst z; cases dx; exact hx0 rfl
            · obtain ⟨R', ex⟩ := R.alloc hp (.tup [])
              refine q _ _ _ ex R' ?_
              rw [show k.toNat = 0 by omega]
              exact .tup (SqT.of upd_same) .nil
          · refine ⟨_, op_repT, _, _, _, rfl, rfl, SqT.mono R.sub sx, fun z => ?_, by omega, hz.1.2, by rw [dx.length]; exact hz.2, fun p hp => ?_⟩
            · subst z; cases dx; exact hx0 rfl
            · obtain ⟨R', ex⟩ := R.alloc hp (.tup (List.replicate k.toNat _).flatten)
              exact q _ _ _ ex R' (.tup (SqT.of upd_same) ((dx.rep _).up ex.1))
    · split at e
      · rename_i hz
        cases e
        simp only [Bool.and_eq_true, decide_eq_true_eq, leB_iff] at hz
        rw [hy.int_of]
        cases hx with
        | tup sx dx =>
          refine ⟨_, op_repW, _, _, _, rfl, rfl, SqT.mono R.sub sx, fun z => ?_, hz.1.1.1, hz.1.1.2, by rw [dx.length]; exact hz.2, fun p hp => ?_⟩
          · subst z; cases dx; exact absurd hz.1.2 (Nat.lt_irrefl 0)
          · obtain ⟨R', ex⟩ := R.alloc hp (.tup (List.replicate k.toNat _).flatten)
            exact q _ _ _ ex R' (.tup (SqT.of upd_same) ((dx.rep _).up ex.1))
      · cases e
  · cases e
theorem os_mod : OpS X et (binaryOp .Mod) dMod := by
  intro am B F g σ H x y a b d Q R hx hy e q
  unfold dMod at e
  split at e
  · split at e
    · rename_i hz
      cases e
      rw [hx.int_of, hy.int_of]
      exact ⟨_, op_mod, _, _, rfl, rfl, ltB_iff.mp hz, q _ F H Ext.refl R (.int _)⟩
    · cases e
  · cases e
theorem os_div : OpS X et (binaryOp .FloorDiv) dDiv := by
  intro am B F g σ H x y a b d Q R hx hy e q
  unfold dDiv at e
  split at e
  · split at e
    · rename_i hz
      cases e
      simp only [Bool.and_eq_true, ltB_iff] at hz
      rw [hx.int_of, hy.int_of]
      exact ⟨_, op_fdiv, _, _, rfl, rfl, hz, q _ F H Ext.refl R (.int _)⟩
    · cases e
  · cases e
theorem os_pow : OpS X et (binaryOp .Pow) dPow := by
  intro am B F g σ H x y a b d Q R hx hy e q
  unfold dPow at e
  split at e
  · split at e
    · rename_i hz
      cases e
      simp only [Bool.and_eq_true, decide_eq_true_eq, leB_iff] at hz
      rw [hx.int_of, hy.int_of]
      exact ⟨_, op_pow, _, _, rfl, rfl, ⟨hz.1.1, hz.1.2, hz.2⟩, q _ F H Ext.refl R (.int _)⟩
    · cases e
  · cases e
def dLt : PyData → PyData → Option PyData
  | .int a, .int b => some (.bool (ltB a b))
  | _, _ => none
def dLe : PyData → PyData → Option PyData
  | .int a, .int b => some (.bool (leB a b))
  | _, _ => none
def dGt : PyData → PyData → Option PyData
  | .int a, .int b => some (.bool (ltB b a))
  | _, _ => none
def dGe : PyData → PyData → Option PyData
  | .int a, .int b => some (.bool (leB b a))
  | _, _ => none
/-- lists of other lengths -/
def eqLen (k : Bool) : PyData → PyData → Option PyData
  | .list xs, .list ys => if xs.length = ys.length then none else some (.bool k)
  | _, _ => none
def dEq : PyData → PyData → Option PyData
  | .int a, .int b => some (.bool (decide (a = b)))
  | .str a, .str b => some (.bool (decide (a = b)))
  | a, b => if SeqAt.shaped a && SeqAt.shaped b then some (.bool (PyData.eqv a b)) else eqLen false a b
def dNe : PyData → PyData → Option PyData
  | .int a, .int b => some (.bool (!decide (a = b)))
  | .str a, .str b => some (.bool (!decide (a = b)))
  | a, b => if SeqAt.shaped a && SeqAt.shaped b then some (.bool (!PyData.eqv a b)) else eqLen true a b
def isNon : PyData → Bool
  | .none => true
  | _ => false
def dIs : PyData → PyData → Option PyData
  | a, .none => some (.bool (isNon a))
  | _, _ => none
def dIsNot : PyData → PyData → Option PyData
  | a, .none => some (.bool (!isNon a))
  | _, _ => none
theorem os_lt : OpS X et (compareOp .Lt) dLt := by
  intro am B F g σ H x y a b d Q R hx hy e q
  unfold dLt at e
  split at e
  · cases e
    rw [hx.int_of, hy.int_of]
    exact ⟨_, op_lt, _, _, rfl, rfl, by have := q _ F H Ext.refl R (.bl _); rw [ltB_eq] at this; exact this⟩
  · cases e
theorem os_gt : OpS X et (compareOp .Gt) dGt := by
  intro am B F g σ H x y a b d Q R hx hy e q
  unfold dGt at e
  split at e
  · cases e
    rw [hx.int_of, hy.int_of]
    exact ⟨_, op_gt, _, _, rfl, rfl, by have := q _ F H Ext.refl R (.bl _); rw [ltB_eq] at this; exact this⟩
  · cases e
theorem dec_i {i j : Int} : decide (V.int i = V.int j) = decide (i = j) := by rw [Bool.eq_iff_iff]; simp
theorem dec_s {i j : Str} : decide (V.str i = V.str j) = decide (i = j) := by rw [Bool.eq_iff_iff]; simp
theorem shaped_lay {d : PyData} (h : SeqAt.shaped d = true) : d.canLay0 = true := by
  unfold SeqAt.shaped at h
  rw [Bool.and_eq_true] at h
  exact h.1
theorem op_eqLen (hu : X.A.units < cLine) : OpR X (compareOp .Eq) (fun x y H Q => ∃ a b xs ys, x = .ref a ∧ y = .ref b ∧ SqL X.K H a xs ∧ SqL X.K H b ys ∧ xs.length ≠ ys.length ∧ Q (.bl false) H) := by
  intro pins s σ H x y v u Q I rx ry h
  obtain ⟨a, b, xs, ys, rfl, rfl, ha, hb, hn, q⟩ := h
  cases rx
  cases ry
  obtain ⟨its, rv, ⟨o, n, ho, hc, _, hd⟩, _⟩ := I.list ha
  obtain ⟨its2, rv2, ⟨o2, n2, ho2, hc2, _, hd2⟩, _⟩ := I.list hb
  have l1 := rv.length
  have l2 := rv2.length
  exact SeqAt.eq_list_lengthsAt ⟨o, ho, hc, n, hd⟩ ⟨o2, ho2, hc2, n2, hd2⟩ (by rw [bne_iff_ne]; intro z; rw [List.size_toArray, List.size_toArray] at z; omega) hu ⟨.bl false, H, I, rfl, q⟩
theorem op_neLen (hu : X.A.units < cLine) : OpR X (compareOp .NotEq) (fun x y H Q => ∃ a b xs ys, x = .ref a ∧ y = .ref b ∧ SqL X.K H a xs ∧ SqL X.K H b ys ∧ xs.length ≠ ys.length ∧ Q (.bl true) H) := by
  intro pins s σ H x y v u Q I rx ry h
  obtain ⟨a, b, xs, ys, rfl, rfl, ha, hb, hn, q⟩ := h
  cases rx
  cases ry
  obtain ⟨its, rv, ⟨o, n, ho, hc, _, hd⟩, _⟩ := I.list ha
  obtain ⟨its2, rv2, ⟨o2, n2, ho2, hc2, _, hd2⟩, _⟩ := I.list hb
  have l1 := rv.length
  have l2 := rv2.length
  exact SeqAt.RcNeAt.lists_lengths ⟨o, ho, hc, n, hd⟩ ⟨o2, ho2, hc2, n2, hd2⟩ (by rw [bne_iff_ne]; intro z; rw [List.size_toArray, List.size_toArray] at z; omega) hu _ _ _ _ ⟨.bl true, H, I, rfl, q⟩
theorem eqLen_of {K : PySem.W.Frag} {F H : Hp} {x y : V} {a b d : PyData} {k : Bool} (e : eqLen k a b = some d) (hx : Dn K et F x a) (hy : Dn K et F y b) (s : Same F H) : ∃ p q xs ys, x = .ref p ∧ y = .ref q ∧ SqL K H p xs ∧ SqL K H q ys ∧ xs.length ≠ ys.length ∧ d = .bool k := by
  unfold eqLen at e
  split at e
  · split at e
    · cases e
    · rename_i hn
      cases e
      cases hx with
      | lst h1 h2 =>
        cases hy with
        | lst h3 h4 => exact ⟨_, _, _, _, rfl, rfl, SqL.of (s _ _ h1), SqL.of (s _ _ h3), by rw [h2.length, h4.length]; exact hn, rfl⟩
  · cases e
theorem os_eq (hu : X.A.units + 64 < cLine) : OpS X et (compareOp .Eq) dEq := by
  intro am B F g σ H x y a b d Q R hx hy e q
  unfold dEq at e
  split at e
  · cases hx; cases hy; cases e
    exact ⟨_, op_eq, rfl, by rw [dec_i]; exact q _ F H Ext.refl R (.bl _)⟩
  · cases hx; cases hy; cases e
    exact ⟨_, op_eq, rfl, by rw [dec_s]; exact q _ F H Ext.refl R (.bl _)⟩
  split at e
  · rename_i hz
    cases e
    rw [Bool.and_eq_true] at hz
    exact ⟨_, op_eqD hu, _, _, Dn.dp _ _ (hx.up R.sub) (shaped_lay hz.1), Dn.dp _ _ (hy.up R.sub) (shaped_lay hz.2), hz.1, hz.2, q _ F H Ext.refl R (.bl _)⟩
  · obtain ⟨p1, p2, xs, ys, rfl, rfl, h1, h2, hn, rfl⟩ := eqLen_of e hx hy R.sub
    exact ⟨_, op_eqLen (by omega), p1, p2, xs, ys, rfl, rfl, h1, h2, hn, q _ F H Ext.refl R (.bl _)⟩
theorem os_ne (hu : X.A.units + 64 < cLine) : OpS X et (compareOp .NotEq) dNe := by
  intro am B F g σ H x y a b d Q R hx hy e q
  unfold dNe at e
  split at e
  · cases hx; cases hy; cases e
    exact ⟨_, op_ne, rfl, by rw [dec_i]; exact q _ F H Ext.refl R (.bl _)⟩
  · cases hx; cases hy; cases e
    exact ⟨_, op_ne, rfl, by rw [dec_s]; exact q _ F H Ext.refl R (.bl _)⟩
  split at e
  · rename_i hz
    cases e
    rw [Bool.and_eq_true] at hz
    exact ⟨_, op_neD hu, _, _, Dn.dp _ _ (hx.up R.sub) (shaped_lay hz.1), Dn.dp _ _ (hy.up R.sub) (shaped_lay hz.2), hz.1, hz.2, q _ F H Ext.refl R (.bl _)⟩
  · obtain ⟨p1, p2, xs, ys, rfl, rfl, h1, h2, hn, rfl⟩ := eqLen_of e hx hy R.sub
    exact ⟨_, op_neLen (by omega), p1, p2, xs, ys, rfl, rfl, h1, h2, hn, q _ F H Ext.refl R (.bl _)⟩
def asB : DV → Option Bool
  | .pu (.bool b) => some b
  | _ => none
def mTest (f : Sg → Rs Sg DV) (g : Sg) : Rs Sg Bool := (f g).bind fun x g1 => Rs.of (asB x) g1
theorem DenP.bl_of {K : PySem.W.Frag} {et : ET} {am : Addr} {F : Hp} {v : V} {x : DV} {b : Bool} (h : DenP K et am F v x) (e : asB x = some b) : v = .bl b := by
  unfold asB at e
  split at e
  · cases e
    exact Dn.bl_of h
  · cases e
theorem dt_cmp {op : CmpOp} {a b : Expr} {pos : Pos} {fa fb : Sg → Rs Sg DV} {h : PyData → PyData → Option PyData} (o : OpS X et (compareOp op) h) (ha : DE X et W a fa) (hb : DE X et W b fb) (hm : behindInMarks op b = false := by exact nomark _) : DT X et W (.Compare a [op] [b] pos) (mTest (mBin h fa fb)) := by
  intro am B F g σ H Q R hq
  have hq : OkB X.K et W am B F σ Q ((fa g).bind fun x g1 => (fb g1).bind fun y g2 => (match x, y with | .pu a, .pu b => Rs.of ((h a b).map .pu) g2 | _, _ => .no : Rs Sg DV).bind fun x g3 => Rs.of (asB x) g3) := by
    have w : mTest (mBin h fa fb) g = ((fa g).bind fun x g1 => (fb g1).bind fun y g2 => (match x, y with | .pu a, .pu b => Rs.of ((h a b).map .pu) g2 | _, _ => .no : Rs Sg DV).bind fun x g3 => Rs.of (asB x) g3) := by
      unfold mTest mBin
      cases fa g with
      | ok d g1 =>
        rw [Rs.bind_ok, Rs.bind_ok]
        cases fb g1 <;> rfl
      | ex => rfl
      | no => rfl
    rw [← w]
    exact hq
  refine ⟨fun pins s I => wpAny_isTrue_Compare1 (thn ((ha.then (goodB (Q := Q)) R hq (Q := fun x H1 => wE X b σ H1 fun y H2 => ∃ r : R2, OpR X (compareOp op) r ∧ r x y H2 fun z H3 => ∃ k, z = .bl k ∧ Q k H3) (fun dx g1 x F1 H1 ex1 R1 dn1 hq1 => hb.then (goodB (Q := Q)) R1 hq1 fun dy g2 y F2 H2 ex2 R2 dn2 hq2 => ?_)).run pins s I)
    fun v s1 ⟨x, H1, I1, r1, q1⟩ => thn (q1.run pins s1 I1) fun u s2 ⟨y, H2, I2, r2, r, ho, q2⟩ => thn (ho pins s2 σ H2 x y v u _ I2 r1 r2 q2) fun c s3 ⟨z, H3, I3, r3, k, e, q3⟩ => ?_) hm⟩
  · cases dx with
    | own _ => exact hq2.elim
    | m => exact hq2.elim
    | scr _ => exact hq2.elim
    | clo _ => exact hq2.elim
    | exc _ _ => exact hq2.elim
    | dic _ => exact hq2.elim
    | dki _ => exact hq2.elim
    | pu da =>
      cases dy with
      | own _ => exact hq2.elim
      | m => exact hq2.elim
      | scr _ => exact hq2.elim
      | clo _ => exact hq2.elim
      | exc _ _ => exact hq2.elim
      | dic _ => exact hq2.elim
      | dki _ => exact hq2.elim
      | pu db =>
        have hq2 : OkB X.K et W am B F2 σ Q ((Rs.of ((h da db).map .pu) g2).bind fun x g3 => Rs.of (asB x) g3) := hq2
        cases q3 : h da db with
        | none => rw [q3] at hq2; exact hq2.elim
        | some d =>
          rw [q3] at hq2
          have hq2 : OkB X.K et W am B F2 σ Q (Rs.of (asB (.pu d)) g2) := hq2
          refine o am B F2 g2 σ H2 x y da db d _ R2 (Dn.up dn1 ex2.1) dn2 q3 fun v F' H' ex R' dd => ?_
          cases q4 : asB (.pu d) with
          | none => rw [q4] at hq2; exact hq2.elim
          | some k =>
            rw [q4] at hq2
            exact ⟨k, DenP.bl_of (am := am) (show DenP X.K et am F' v (.pu d) from dd) q4, hq2 F' H' ex R'⟩
  · subst e
    cases r3
    exact wpAny_truthy_bool ⟨H3, I3, q3⟩
def mNotB (f : Sg → Rs Sg Bool) (g : Sg) : Rs Sg Bool := (f g).bind fun b g1 => .ok (!b) g1
/-- and, or: tests whatever the whole is -/
structure wW (X : Cx) (e : Expr) (σ : St) (H : Hp) (Q : Bool → Hp → Prop) : Prop where
  run : ∀ (whole : Sem Value) (pins : List (Addr × Obj)) (s : Shared), Inv X pins σ H s → wpAny (model X.prog X.w) X.A (isTrue e X.env whole) (TP X pins σ Q) X.xe s
def DW (X : Cx) (et : ET) (W : WX) (e : Expr) (f : Sg → Rs Sg Bool) : Prop :=
  ∀ am B F g σ H Q, RepF X.K et am B F g σ H → OkB X.K et W am B F σ Q (f g) → wW X e σ H Q
theorem pw_w {e : Expr} : PW X e (wW X e) := ⟨fun whole pins s _ _ _ I h => h.run whole pins s I⟩
theorem ww_of {e : Expr} {t : TT} (h : PW X e t) {σ : St} {H : Hp} {Q : Bool → Hp → Prop} (q : t σ H Q) : wW X e σ H Q := ⟨fun whole pins s I => h.run whole pins s σ H Q I q⟩
theorem DW.dt {e : Expr} {f : Sg → Rs Sg Bool} (h : DW X et W e f) : DT X et W e f := fun am B F g σ H Q R hq => ⟨fun pins s I => (h am B F g σ H Q R hq).run _ pins s I⟩
def mAndB (fa fb : Sg → Rs Sg Bool) (g : Sg) : Rs Sg Bool := (fa g).bind fun a g1 => if a = true then fb g1 else .ok false g1
def mOrB (fa fb : Sg → Rs Sg Bool) (g : Sg) : Rs Sg Bool := (fa g).bind fun a g1 => if a = true then .ok true g1 else fb g1
theorem dw_or1 {a : Expr} {pos : Pos} {f : Sg → Rs Sg Bool} (h : DT X et W a f) : DW X et W (.BoolOp .Or [a] pos) f := fun am B F g σ H Q R hq => ww_of (pw_or1 pt_w) (h am B F g σ H Q R hq)
theorem dw_or {a b : Expr} {rest : List Expr} {pos : Pos} {fa fb : Sg → Rs Sg Bool} (ha : DT X et W a fa) (hb : DW X et W (.BoolOp .Or (b :: rest) pos) fb) : DW X et W (.BoolOp .Or (a :: b :: rest) pos) (mOrB fa fb) := fun am B F g σ H Q R hq => by
  refine ww_of (pw_or pt_w pw_w) (ha.then (goodB (Q := Q)) R hq fun d g1 F1 H1 ex1 R1 hq1 => ?_)
  cases d with
  | true => exact iteT (hq1 F1 H1 Ext.refl R1)
  | false => exact iteF (hb am B F1 g1 σ H1 Q R1 hq1)
def mAndV (fa fb : Sg → Rs Sg DV) (g : Sg) : Rs Sg DV := (fa g).bind fun x g1 => (Rs.of (asB x) g1).bind fun a g2 => if a = true then fb g2 else .ok (.pu (.bool false)) g2
def mOrV (fa fb : Sg → Rs Sg DV) (g : Sg) : Rs Sg DV := (fa g).bind fun x g1 => (Rs.of (asB x) g1).bind fun a g2 => if a = true then .ok (.pu (.bool true)) g2 else fb g2
def mNotV (f : Sg → Rs Sg DV) (g : Sg) : Rs Sg DV := (f g).bind fun x g1 => (Rs.of (asB x) g1).bind fun a g2 => .ok (.pu (.bool (!a))) g2
def mIf {β : Type} (c : Sg → Rs Sg Bool) (fa fb : Sg → Rs Sg β) (g : Sg) : Rs Sg β := (c g).bind fun b g1 => if b = true then fa g1 else fb g1
theorem de_if {c a b : Expr} {pos : Pos} {fc : Sg → Rs Sg Bool} {fa fb : Sg → Rs Sg DV} (hc : DT X et W c fc) (ha : DE X et W a fa) (hb : DE X et W b fb) : DE X et W (.IfExp c a b pos) (mIf fc fa fb) := fun am B F g σ H Q R hq => by
  refine w_of (pe_ifExp pt_w pe_w pe_w) (hc.then (goodV (Q := Q)) R hq fun d g1 F1 H1 ex1 R1 hq1 => ?_)
  cases d with
  | true => exact iteT (ha am B F1 g1 σ H1 Q R1 hq1)
  | false => exact iteF (hb am B F1 g1 σ H1 Q R1 hq1)
def mNeg (f : Sg → Rs Sg DV) (g : Sg) : Rs Sg DV := (f g).bind fun x g1 => match x with | .pu (.int i) => .ok (.pu (.int (-i))) g1 | _ => .no
theorem de_neg {a : Expr} {pos : Pos} {fa : Sg → Rs Sg DV} (ha : DE X et W a fa) : DE X et W (.UnaryOp .USub a pos) (mNeg fa) := fun am B F g σ H Q R hq => by
  refine w_of (pe_un un_neg pe_w) (ha.then (goodV (Q := Q)) R hq fun d g1 v F1 H1 ex1 R1 dn1 hq1 => ?_)
  split at hq1
  · rename_i i
    exact ⟨i, Dn.int_of dn1, hq1 _ F1 H1 Ext.refl R1 (.int _)⟩
  · exact hq1.elim
/-- a chain of two comparisons -/
def mChain (h h' : PyData → PyData → Option PyData) (fa fb fc : Sg → Rs Sg DV) (g : Sg) : Rs Sg DV :=
  (fa g).bind fun x g1 => (fb g1).bind fun y g2 => match x, y with
    | .pu a, .pu b => (Rs.of ((h a b).bind fun d => asB (.pu d)) g2).bind fun k g3 => if k = true then (fc g3).bind fun z g4 => (match z with | .pu c => Rs.of ((h' b c).map .pu) g4 | _ => .no) else .ok (.pu (.bool false)) g3
    | _, _ => .no
end
end DL
set_option Elab.async false
set_option linter.all false
set_option maxRecDepth 100000
set_option maxHeartbeats 4000000
set_option autoImplicit false
namespace DL
open PySem PySem.Spec L2
open PyProof.Rows hiding St
section
variable {X : Cx} {et : ET} {W : WX}
theorem rs_bind_ok {x : Rs Sg DV} : x.bind (fun d g => .ok d g) = x := by cases x <;> rfl
def isStar : Expr → Bool
  | .Starred _ _ => true
  | _ => false
theorem star_ok {e : Expr} {es : List Expr} {env : Env} (h : isStar e = false) : starEach (e :: es) env = (false, eval e env) :: starEach es env := by
  cases e <;> first | rfl | cases h
theorem star1_ok {e : Expr} {env : Env} (h : isStar e = false) : starEach [e] env = [(false, eval e env)] := (star_ok h).trans (by rfl)
theorem plain_ok {pos : Pos} {env : Env} : ∀ {es : List Expr}, (es.all fun e => !isStar e) = true → (backTo pos (starEach es env)).any (·.1) = false
  | [], _ => rfl
  | e :: es, h => by
    rw [List.all_cons, Bool.and_eq_true] at h
    have h1 : isStar e = false := by simpa using h.1
    rw [star_ok h1]
    show (false || (backTo pos (starEach es env)).any (·.1)) = false
    rw [plain_ok h.2]
    rfl
def mNil (g : Sg) : Rs Sg (List DV) := .ok [] g
def mCons (fa : Sg → Rs Sg DV) (fr : Sg → Rs Sg (List DV)) (g : Sg) : Rs Sg (List DV) := (fa g).bind fun x g1 => (fr g1).bind fun xs g2 => .ok (x :: xs) g2
theorem da_nil : DA X et W [] mNil := fun am B F g σ H Q R hq => wa_of pa_nil (hq [] F H Ext.refl R .nil)
theorem da_cons {e : Expr} {es : List Expr} {fa : Sg → Rs Sg DV} {fr : Sg → Rs Sg (List DV)} (ha : DE X et W e fa) (hr : DA X et W es fr) (hs : starEach (e :: es) X.env = (false, eval e X.env) :: starEach es X.env := by exact star_ok rfl) : DA X et W (e :: es) (mCons fa fr) := fun am B F g σ H Q R hq =>
  wa_of (pa_cons pe_w pa_w hs) (ha.then (goodL (Q := Q)) R hq fun d g1 v F1 H1 ex1 R1 dn1 hq1 => hr.then (goodL (Q := Q)) R1 hq1 fun ds g2 vs F2 H2 ex2 R2 dn2 hq2 => hq2 (v :: vs) F2 H2 Ext.refl R2 (.cons (dn1.up ex2.1) dn2))
def allP : List DV → Option (List PyData)
  | [] => some []
  | .pu d :: r => (allP r).map (d :: ·)
  | _ :: _ => none
theorem DenL.all {K : PySem.W.Frag} {et : ET} {am : Addr} {F : Hp} : ∀ {vs : List V} {ds : List DV} {ps : List PyData}, DenL K et am F vs ds → allP ds = some ps → DnAll K et F vs ps
  | _, _, _, .nil, e => by cases e; exact .nil
  | _, .pu d :: r, ps, .cons h t, e => by
    have e : (allP r).map (d :: ·) = some ps := e
    cases q : allP r with
    | none => rw [q] at e; cases e
    | some ps' =>
      rw [q] at e
      cases e
      exact .cons h (DenL.all t q)
  | _, .own _ :: _, _, .cons _ _, e => by cases e
  | _, .m :: _, _, .cons _ _, e => by cases e
  | _, .scr _ :: _, _, .cons _ _, e => by cases e
def mSeq (mk : List PyData → PyData) (fs : Sg → Rs Sg (List DV)) (g : Sg) : Rs Sg DV := (fs g).bind fun xs g1 => match allP xs with
  | some ps => if ps.length ≤ bigN then .ok (.pu (mk ps)) g1 else .no
  | none => .no
theorem de_tup {es : List Expr} {n : Nat} {pos : Pos} {fs : Sg → Rs Sg (List DV)} (h : DA X et W es fs) : DE X et W (.Tuple es n pos) (mSeq .tuple fs) := fun am B F g σ H Q R hq => by
  refine w_of (pe_tup pa_w) (h.then (goodV (Q := Q)) R hq fun ds g1 vs F1 H1 ex1 R1 dn1 hq1 => ?_)
  cases q : allP ds with
  | none => simp only [q] at hq1; exact hq1.elim
  | some ps =>
    simp only [q] at hq1
    have da := dn1.all q
    split at hq1
    · rename_i hz
      refine ⟨by rw [da.length, bigN_eq]; exact hz, fun p hp => ?_⟩
      obtain ⟨R', ex⟩ := R1.alloc hp (.tup vs)
      exact hq1 _ _ _ ex R' (.tup (SqT.of upd_same) (da.up ex.1))
    · exact hq1.elim
theorem de_lst {es : List Expr} {pos : Pos} {fs : Sg → Rs Sg (List DV)} (h : DA X et W es fs) : DE X et W (.List es pos) (mSeq .list fs) := fun am B F g σ H Q R hq => by
  refine w_of (pe_lst pa_w) (h.then (goodV (Q := Q)) R hq fun ds g1 vs F1 H1 ex1 R1 dn1 hq1 => ?_)
  cases q : allP ds with
  | none => simp only [q] at hq1; exact hq1.elim
  | some ps =>
    simp only [q] at hq1
    have da := dn1.all q
    split at hq1
    · rename_i hz
      refine ⟨by rw [da.length, bigN_eq]; exact hz, fun p hp => ?_⟩
      obtain ⟨R', ex⟩ := R1.alloc hp (.lst vs)
      exact hq1 _ _ _ ex R' (.lst upd_same (da.up ex.1))
    · exact hq1.elim
def dIxS : PyData → PyData → Option PyData
  | .list xs, .int i => atI xs i
  | .tuple xs, .int i => atI xs i
  | _, _ => none
theorem DnAll.at {K : PySem.W.Frag} {F : Hp} {vs : List V} {ds : List PyData} {i : Int} {d : PyData} (h : DnAll K et F vs ds) (e : atI ds i = some d) : ∃ v, atI vs i = some v ∧ Dn K et F v d := by
  unfold atI at e ⊢
  rw [h.length]
  cases q : ixN ds.length i with
  | none => rw [q] at e; cases e
  | some j =>
    rw [q, Option.bind_some] at e
    exact h.get e
def mNoPart (g : Sg) : Rs Sg (Option Int) := .ok none g
def mPart (f : Sg → Rs Sg DV) (g : Sg) : Rs Sg (Option Int) := (f g).bind fun x g1 => match x with | .pu (.int i) => .ok (some i) g1 | _ => .no
def cutL {α : Type} (xs : List α) (lo hi : Option Int) : List α := (xs.drop (HT.sIx xs.length 0 lo)).take (HT.sIx xs.length xs.length hi - HT.sIx xs.length 0 lo)
def dCut : PyData → Option Int → Option Int → Option PyData
  | .list xs, lo, hi => some (.list (cutL xs lo hi))
  | .tuple xs, lo, hi => some (.tuple (cutL xs lo hi))
  | _, _, _ => none
def mCut (fa : Sg → Rs Sg DV) (fl fh : Sg → Rs Sg (Option Int)) (g : Sg) : Rs Sg DV := (fa g).bind fun x g1 => (fl g1).bind fun lo g2 => (fh g2).bind fun hi g3 => match x with
  | .pu a => Rs.of ((dCut a lo hi).map .pu) g3
  | _ => .no
end
end DL
set_option Elab.async false
set_option linter.all false
set_option maxRecDepth 100000
set_option maxHeartbeats 4000000
set_option autoImplicit false
namespace DL
open PySem PySem.Spec L2
open PyProof.Rows hiding St
theorem Inv.frzN {X : Cx} {pins : List (Addr × Obj)} {σ : L2.St} {H : Hp} {s : Shared} {hs : NestedKey → Int} {d : Addr} {o : Obj} {es : List (NestedKey × Addr × V)} (I : Inv X pins σ H s) (h : H d = some (.frz o (NDo hs d es))) :
    (d == sysModules) = false ∧ s.heap.get? d = some o ∧ o.ExactDict ∧ ∃ (ds : Array DictEntry) (ep : Nat), o.data = .dict ds ep ∧ ds.size = es.length ∧ es.length ≤ sizeLine ∧
      ∀ (i : Nat) (n : NestedKey) (b : Addr) (v : V), es[i]? = some (n, b, v) → ∃ (en : DictEntry), ds[i]? = some en ∧ en.key = .ref b ∧ RelV v en.val := by
  obtain ⟨hd, ⟨hz, hy, hn, ys, o', ds, ep, pr, ho, hx, hdt, hl⟩, _⟩ := I.hok d _ h
  rw [hd] at ho
  cases ho
  have l2 : es.length = ys.length := Paired.length pr
  have l1 : ds.size = ys.length := by
    have := congrArg List.length hl
    rw [Array.length_toList, List.length_map] at this
    exact this
  refine ⟨hy, hd, hx, ds, ep, hdt, by omega, hz, fun i n b v e => ?_⟩
  obtain ⟨y, hb, e1, e2, e3⟩ := paired_get pr e
  have q : ds.toList[i]? = some ⟨hs y.1, .ref y.2.1, y.2.2⟩ := by rw [hl, List.getElem?_map, hb]; rfl
  rw [Array.getElem?_toList] at q
  exact ⟨_, q, congrArg Value.ref e2.symm, e3⟩
section
variable {X : Cx} {hs : NestedKey → Int}
def rLenN (hs : NestedKey → Int) : List V → Hp → VK → Prop := fun xs H Q => ∃ (d : Addr) (o : Obj) (es : List (NestedKey × Addr × V)), xs = [.ref d] ∧ H d = some (.frz o (NDo hs d es)) ∧ Q (.int ((es.length : Nat) : Int)) H
theorem call_lenN : CallR X (.builtin "len") (rLenN hs) := by
  intro pins s σ H xs us Q I r h
  obtain ⟨d, o, es, rfl, hd, q⟩ := h
  obtain ⟨u, rfl, rx⟩ := vals1 r
  obtain rfl : u = .ref d := rx
  obtain ⟨hy, hgd, hx, ds, ep, hdt, hsz, hz, ent⟩ := DL.Inv.frzN I hd
  have hm : s.heap.DictRaw d ds ep := ⟨o, hgd, hx, hdt⟩
  have hf : es.length < 2 ^ 62 := by rw [sizeLine_eq] at hz; omega
  refine Calls.call_function_entry kind_len plain_len entry_len (args_len1 _) ?_
  unfold Builtin.«len»
  refine wpAny_bind (m := oneArg "len" _) (wpAny_pure ?_)
  refine wpAny_bind (m := callSpecial? (.ref d) (Str.ofString "__len__")) (wpAny_callSpecial?_slot (name := Str.ofString "__len__") hm.typeIs F.slot_dict_len
    (call_meetsIn F.slot_dict_len hm.typeIs F.entry_dict_len (F.args_dict_len_1 _) (meets_dict_len_raw d hy) ⟨ds, ep, hm, ?_⟩))
  rw [hsz]
  refine wpAny_bind (wpAny_holding (wpAny_pure ?_))
  refine wpAny_bind (wpAny_letGo ?_)
  show wpAny _ _ (if ((es.length : Nat) : Int) < 0 then _ else _) _ _ _
  rw [if_neg (by omega)]
  show wpAny _ _ (if ((es.length : Nat) : Int) ≥ 2 ^ 63 then _ else _) _ _ _
  rw [if_neg (by omega)]
  exact wpAny_bind (wpAny_mkInt (wpAny_pure ⟨_, rfl, ⟨.int ((es.length : Nat) : Int), H, I.tok _, ⟨_, rfl⟩, q⟩⟩))
end
def alikeB (xs : List PyData) : Bool := xs.all fun x => (xs.all fun y => PySem.W.alike x y) && x.canLay0 && (match x with | .none => false | _ => true)
theorem alikeB_alike {xs : List PyData} (h : alikeB xs = true) : PySem.W.AlikeAll xs := by
  unfold alikeB at h
  rw [List.all_eq_true] at h
  refine ⟨fun x hx y hy => ?_, fun x hx z => ?_⟩
  · have := h x hx
    rw [Bool.and_eq_true, Bool.and_eq_true, List.all_eq_true] at this
    exact this.1.1 y hy
  · have := h x hx
    rw [Bool.and_eq_true] at this
    subst z
    cases this.2
theorem alikeB_lay {xs : List PyData} (h : alikeB xs = true) {x : PyData} (hx : x ∈ xs) : x.canLay0 = true := by
  unfold alikeB at h
  rw [List.all_eq_true] at h
  have := h x hx
  rw [Bool.and_eq_true, Bool.and_eq_true] at this
  exact this.1.2
theorem layAll_of : ∀ {xs : List PyData}, (∀ x ∈ xs, x.canLay0 = true) → PyData.canLayAll0 xs = true
  | [], _ => rfl
  | x :: r, h => by
    unfold PyData.canLayAll0
    rw [h x List.mem_cons_self, layAll_of fun y hy => h y (List.mem_cons_of_mem _ hy)]
    rfl
section
variable {X : Cx} {et : ET}
def rMinMax (X : Cx) (et : ET) (b : Bool) (pick : PyData → List PyData → PyData) : List V → Hp → VK → Prop := fun as H Q => ∃ (l : Addr) (vs : List V) (F : Hp) (x : PyData) (xs : List PyData), as = [.ref l] ∧ (if b = true then SqT X.K H l vs else SqL X.K H l vs) ∧ Same F H ∧ DnAll X.K et F vs (x :: xs) ∧ alikeB (x :: xs) = true ∧ PyData.depthAll (x :: xs) ≤ 64 ∧
  ∀ v, Dn X.K et F v (pick x xs) → Q v H
theorem pick_read {F : Hp} {s : Shared} {vs : List V} {its : List Value} {x d : PyData} {xs : List PyData} {i : Nat} {v : Value} {h' : Heap} {bs as : List Addr} (rv : Vals vs its) (dn : DnAll X.K et F vs (x :: xs)) (al : alikeB (x :: xs) = true) (e : its[i]? = some v) (r : Reads h' v d bs) (k : ∀ b o, s.heap.get? b = some o → h'.get? b = some o)
    (ra : ReadsAll s.heap its (x :: xs) as) : ∃ w, RelV w v ∧ Dn X.K et F w d := by
  obtain ⟨w, hw, rw'⟩ : ∃ w, vs[i]? = some w ∧ RelV w v := by
    have hi : i < vs.length := by rw [rv.length]; exact (List.getElem?_eq_some_iff.mp e).1
    obtain ⟨u, hu, ru⟩ := rv.get (List.getElem?_eq_getElem hi)
    rw [e] at hu
    cases hu
    exact ⟨_, List.getElem?_eq_getElem hi, ru⟩
  have hi : i < (x :: xs).length := by rw [← dn.length]; exact (List.getElem?_eq_some_iff.mp hw).1
  obtain ⟨w', hw', dw⟩ := dn.get (List.getElem?_eq_getElem hi)
  rw [hw] at hw'
  cases hw'
  obtain ⟨cs, rx, _⟩ := PySem.W.readsAll_at ra i v e
  have ex : (x :: xs).getD i .none = (x :: xs)[i] := by rw [List.getD_eq_getElem?_getD, List.getElem?_eq_getElem hi]; rfl
  rw [ex] at rx
  have := PySem.SeqAt.Reads.unique _ _ _ _ _ (alikeB_lay al (List.getElem_mem hi)) (PySem.W.reads_keeps k rx) r
  rw [← this]
  exact ⟨w, rw', dw⟩
theorem call_mm {id : String} {b : Bool} {pick : PyData → List PyData → PyData} (hc : X.calm = true) (hu : X.A.units + 100 < cLine)
    (HL : ∀ {s : Shared} {l : Addr} {vs : Array Value} {x : PyData} {xs : List PyData} {as : List Addr} {Q : Value → Shared → Prop}, X.A.handled = none → s.heap.IsList l vs → ReadsAll s.heap vs.toList (x :: xs) as → PySem.W.AlikeAll (x :: xs) → X.A.units + 1 + PyData.depthAll (x :: xs) < cLine →
      (∀ (i : Nat) v h' tk bs, vs[i]? = some v → Reads h' v (pick x xs) bs → (∀ b o, s.heap.get? b = some o → h'.get? b = some o) → Q v { s with heap := h', toks := tk }) → wpAny (model X.prog X.w) X.A (call (.builtin id) [.ref l]) Q X.xe s)
    (HT : ∀ {s : Shared} {l : Addr} {vs : Array Value} {x : PyData} {xs : List PyData} {as : List Addr} {Q : Value → Shared → Prop}, X.A.handled = none → s.heap.IsTuple l vs → ReadsAll s.heap vs.toList (x :: xs) as → PySem.W.AlikeAll (x :: xs) → X.A.units + 1 + PyData.depthAll (x :: xs) < cLine →
      (∀ (i : Nat) v h' tk bs, vs[i]? = some v → Reads h' v (pick x xs) bs → (∀ b o, s.heap.get? b = some o → h'.get? b = some o) → Q v { s with heap := h', toks := tk }) → wpAny (model X.prog X.w) X.A (call (.builtin id) [.ref l]) Q X.xe s) : CallR X (.builtin id) (rMinMax X et b pick) := by
  intro pins s σ H vs us Q I r h
  obtain ⟨a, ws, F, x, xs, rfl, hs, sub, dn, al, dp, q⟩ := h
  rw [Vals.ref1 r]
  have hal := alikeB_alike al
  have hu2 : X.A.units + 1 + PyData.depthAll (x :: xs) < cLine := by omega
  have lay : PyData.canLayAll0 (x :: xs) = true := layAll_of fun y hy => alikeB_lay al hy
  cases b with
  | false =>
    have hs : SqL X.K H a ws := hs
    obtain ⟨its, rv, hl, hz⟩ := I.list hs
    obtain ⟨as, ra⟩ := Dp.readsAll I _ _ _ (DnAll.dp _ _ (dn.up sub) lay) rv
    refine HL (I.ok.hd hc) hl.isList ra hal hu2 fun i v h' tk bs e rd k => ?_
    obtain ⟨w, rw', dw⟩ := pick_read rv dn al (by simpa using e) rd k ra
    exact ⟨w, H, I.kept (t' := tk) k, rw', q w dw⟩
  | true =>
    have hs : SqT X.K H a ws := hs
    obtain ⟨its, rv, hl, hz⟩ := I.tuple hs
    obtain ⟨as, ra⟩ := Dp.readsAll I _ _ _ (DnAll.dp _ _ (dn.up sub) lay) rv
    refine HT (I.ok.hd hc) hl ra hal hu2 fun i v h' tk bs e rd k => ?_
    obtain ⟨w, rw', dw⟩ := pick_read rv dn al (by simpa using e) rd k ra
    exact ⟨w, H, I.kept (t' := tk) k, rw', q w dw⟩
theorem call_minDt (b : Bool) (hc : X.calm = true) (hu : X.A.units + 100 < cLine) : CallR X (.builtin "min") (rMinMax X et b PySem.W.minD) := call_mm hc hu PySem.W.min_list_data PySem.W.min_tuple_data
end
def dKey : PyData → Bool
  | .tuple _ => true
  | _ => false
def tupKeys (kvs : List (PyData × PyData)) : Bool := kvs.all fun p => dKey p.1
theorem Dn.dict_nd {K : PySem.W.Frag} {et : ET} {F : Hp} {v : V} {kvs : List (PyData × PyData)} (h : Dn K et F v (.dict kvs)) (t : tupKeys kvs = true) : ∃ a o es, v = .ref a ∧ F a = some (.frz o (NDo et.hs a es)) ∧ DnKv K et F es kvs := by
  cases h with
  | dcx hf kv => exact ⟨_, _, _, rfl, hf, kv⟩
  | dck hne hf kv =>
    exfalso
    cases kv with
    | nil => exact hne rfl
    | int _ _ => exact absurd t (by unfold tupKeys; rw [List.all_cons]; simp [dKey])
    | str _ _ => exact absurd t (by unfold tupKeys; rw [List.all_cons]; simp [dKey])
  | err _ _ _ => exact absurd t (by unfold tupKeys; rw [List.all_cons]; simp [dKey])
  | er0 _ => exact absurd t (by unfold tupKeys; rw [List.all_cons]; simp [dKey])
theorem DnKv.length {K : PySem.W.Frag} {et : ET} {F : Hp} : ∀ {es : List (NestedKey × Addr × V)} {kvs : List (PyData × PyData)}, DnKv K et F es kvs → es.length = kvs.length
  | _, _, .nil => rfl
  | _, _, .cons _ _ _ _ r => congrArg (· + 1) (DnKv.length r)
end DL
set_option Elab.async false
set_option linter.all false
set_option maxRecDepth 100000
set_option maxHeartbeats 4000000
set_option autoImplicit false
namespace L2
open PySem PySem.Spec PyProof.Rows
end L2
namespace DL
open PySem PySem.Spec L2
open PyProof.Rows hiding St
section
variable {X : Cx} {et : ET} {W : WX}
def CallS (X : Cx) (et : ET) (f : Value) (h : List DV → Option PyData) : Prop :=
  ∀ am B F g σ H vs ds d Q, RepF X.K et am B F g σ H → DenL X.K et am F vs ds → h ds = some d → (∀ v F' H', Ext B F F' → RepF X.K et am B F' g σ H' → Dn X.K et F' v d → Q v H') → ∃ r : List V → Hp → VK → Prop, CallR X f r ∧ r vs H Q
theorem CallR.exs {f : Value} : CallR X f (fun vs H Q => ∃ r : List V → Hp → VK → Prop, CallR X f r ∧ r vs H Q) := fun pins s σ H vs us Q I r ⟨q, hq, h⟩ => hq pins s σ H vs us Q I r h
def mCallB (h : List DV → Option PyData) (fs : Sg → Rs Sg (List DV)) (g : Sg) : Rs Sg DV := (fs g).bind fun xs g1 => Rs.of ((h xs).map .pu) g1
theorem callB_read {es : List Expr} {f : Value} {h : List DV → Option PyData} {fs : Sg → Rs Sg (List DV)} (cs : CallS X et f h) (ha : DA X et W es fs) {am : Addr} {B F : Hp} {g : Sg} {σ : St} {H : Hp} {Q : VK} (R : RepF X.K et am B F g σ H) (hq : OkV X.K et W am B F σ Q (mCallB h fs g)) :
    tCB (fun vs H Q => ∃ r : List V → Hp → VK → Prop, CallR X f r ∧ r vs H Q) (wA X es) σ H Q := by
  refine ha.then (goodV (Q := Q)) R hq fun ds g1 vs F1 H1 ex1 R1 dn1 hq1 => ?_
  cases q : h ds with
  | none => rw [q] at hq1; exact hq1.elim
  | some d =>
    rw [q] at hq1
    exact cs am B F1 g1 σ H1 vs ds d Q R1 dn1 q fun v F' H' ex R' dd => hq1 v F' H' ex R' dd
theorem de_callB {x : Str} {id : String} {p pos : Pos} {e : Expr} {es : List Expr} {h : List DV → Option PyData} {fs : Sg → Rs Sg (List DV)} (cs : CallS X et (.builtin id) h) (hm : X.mg x = none) (ha : DA X et W (e :: es) fs) (hg : Gl X x := by rfl) (hv : bootBuiltins x = some (.builtin id) := by decide +kernel) (hn : x ≠ "__name__" := by decide) (hdb : (x == ("__debug__" : Str)) = false := by decide)
    (he : starEach (e :: es) X.env = (false, eval e X.env) :: starEach es X.env := by exact star_ok rfl) (hpl : (backTo pos (starEach es X.env)).any (·.1) = false := by exact plain_ok rfl) : DE X et W (.Call (.Name x p) (e :: es) [] pos) (mCallB h fs) := fun am B F g σ H Q R hq =>
  w_of (pe_callB CallR.exs hg hm hv pa_w hn hdb he hpl) (callB_read cs ha R hq)
theorem de_callTy {x : Str} {T : String} {p pos : Pos} {e : Expr} {es : List Expr} {h : List DV → Option PyData} {fs : Sg → Rs Sg (List DV)} (cs : CallS X et (.type T) h) (hm : X.mg x = none) (ha : DA X et W (e :: es) fs) (hg : Gl X x := by rfl) (hv : bootBuiltins x = some (.type T) := by decide +kernel) (hn : x ≠ "__name__" := by decide) (hdb : (x == ("__debug__" : Str)) = false := by decide)
    (he : starEach (e :: es) X.env = (false, eval e X.env) :: starEach es X.env := by exact star_ok rfl) (hpl : (backTo pos (starEach es X.env)).any (·.1) = false := by exact plain_ok rfl) : DE X et W (.Call (.Name x p) (e :: es) [] pos) (mCallB h fs) := fun am B F g σ H Q R hq =>
  w_of (pe_callTy CallR.exs hg hm hv pa_w hn hdb he hpl) (callB_read cs ha R hq)
def allI : List PyData → Option (List Int)
  | [] => some []
  | .int i :: r => (allI r).map (i :: ·)
  | _ :: _ => none
theorem DnAll.ints {K : PySem.W.Frag} {F : Hp} : ∀ {vs : List V} {ds : List PyData} {ns : List Int}, DnAll K et F vs ds → allI ds = some ns → vs = ns.map V.int
  | _, _, _, .nil, e => by cases e; rfl
  | _, .int i :: r, ns, .cons h t, e => by
    have e : (allI r).map (i :: ·) = some ns := e
    cases q : allI r with
    | none => rw [q] at e; cases e
    | some ps' =>
      rw [q] at e
      cases e
      rw [h.int_of, DnAll.ints t q]
      rfl
  | _, .none :: _, _, .cons _ _, e => by cases e
  | _, .bool _ :: _, _, .cons _ _, e => by cases e
  | _, .str _ :: _, _, .cons _ _, e => by cases e
  | _, .list _ :: _, _, .cons _ _, e => by cases e
  | _, .tuple _ :: _, _, .cons _ _, e => by cases e
  | _, .dict _ :: _, _, .cons _ _, e => by cases e
theorem DnAll.ofInts {K : PySem.W.Frag} {F : Hp} : ∀ (ns : List Int), DnAll K et F (ns.map V.int) (ns.map PyData.int)
  | [] => .nil
  | i :: r => .cons (.int i) (DnAll.ofInts r)
/-- one argument -/
theorem DenL.one {K : PySem.W.Frag} {et : ET} {am : Addr} {F : Hp} {vs : List V} {x : DV} (h : DenL K et am F vs [x]) : ∃ v, vs = [v] ∧ DenP K et am F v x := by
  cases h with
  | cons h t => cases t; exact ⟨_, rfl, h⟩
theorem DenL.two {K : PySem.W.Frag} {et : ET} {am : Addr} {F : Hp} {vs : List V} {x y : DV} (h : DenL K et am F vs [x, y]) : ∃ v w, vs = [v, w] ∧ DenP K et am F v x ∧ DenP K et am F w y := by
  cases h with
  | cons h t =>
    cases t with
    | cons h2 t2 => cases t2; exact ⟨_, _, rfl, h, h2⟩
def bLen : List DV → Option PyData
  | [.pu (.list xs)] => some (.int xs.length)
  | [.pu (.tuple xs)] => some (.int xs.length)
  | [.pu (.str x)] => if x.length ≤ bigN then some (.int x.length) else none
  | [.scr ns] => some (.int ns.length)
  | [.pu (.dict kvs)] => if tupKeys kvs = true then some (.int kvs.length) else none
  | _ => none
theorem cs_len : CallS X et (.builtin "len") bLen := by
  intro am B F g σ H vs ds d Q R hd e q
  unfold bLen at e
  split at e
  · cases e
    obtain ⟨v, rfl, dn⟩ := hd.one
    have dn : Dn X.K et F v (.list _) := dn
    cases dn with
    | lst sx dx => exact ⟨_, call_len, _, _, rfl, .inl ⟨_, SqL.of (R.sub _ _ sx), rfl⟩, by rw [dx.length]; exact q _ F H Ext.refl R (.int _)⟩
  · cases e
    obtain ⟨v, rfl, dn⟩ := hd.one
    have dn : Dn X.K et F v (.tuple _) := dn
    cases dn with
    | tup sx dx => exact ⟨_, call_len, _, _, rfl, .inr ⟨_, SqT.mono R.sub sx, rfl⟩, by rw [dx.length]; exact q _ F H Ext.refl R (.int _)⟩
  · split at e
    · rename_i hz
      cases e
      obtain ⟨v, rfl, dn⟩ := hd.one
      have dn : Dn X.K et F v (.str _) := dn
      rw [dn.str_of]
      exact ⟨_, call_len, _, _, rfl, ⟨by rw [bigN_eq]; exact hz, rfl⟩, q _ F H Ext.refl R (.int _)⟩
    · cases e
  · cases e
    obtain ⟨v, rfl, a, rfl, sx⟩ := hd.one
    exact ⟨_, call_len, _, _, rfl, .inl ⟨_, SqL.mono R.sub sx, rfl⟩, by rw [List.length_map]; exact q _ F H Ext.refl R (.int _)⟩
  · split at e
    · rename_i kvs hz
      cases e
      obtain ⟨v, rfl, dn⟩ := hd.one
      obtain ⟨a, o, es, rfl, hf, kv⟩ := Dn.dict_nd (show Dn X.K et F v (.dict kvs) from dn) hz
      exact ⟨_, call_lenN (hs := et.hs), _, _, _, rfl, R.sub _ _ hf, by rw [kv.length]; exact q _ F H Ext.refl R (.int _)⟩
    · cases e
  · cases e
def bInt : List DV → Option PyData
  | [.pu (.int i)] => some (.int i)
  | [.pu (.bool b)] => some (.int (if b then 1 else 0))
  | _ => none
theorem cs_int : CallS X et (.type "int") bInt := by
  intro am B F g σ H vs ds d Q R hd e q
  unfold bInt at e
  split at e
  · cases e
    obtain ⟨v, rfl, dn⟩ := hd.one
    rw [Dn.int_of dn]
    exact ⟨_, call_int1, .inl ⟨_, rfl, q _ F H Ext.refl R (.int _)⟩⟩
  · cases e
    obtain ⟨v, rfl, dn⟩ := hd.one
    rw [Dn.bl_of dn]
    exact ⟨_, call_int1, .inr ⟨_, rfl, q _ F H Ext.refl R (.int _)⟩⟩
  · cases e
def bTuple : List DV → Option PyData
  | [.pu (.list xs)] => some (.tuple xs)
  | [.pu (.tuple xs)] => some (.tuple xs)
  | _ => none
def bList : List DV → Option PyData
  | [.pu (.list xs)] => some (.list xs)
  | [.pu (.tuple xs)] => some (.list xs)
  | [.scr ns] => some (.list (ns.map .int))
  | [.pu (.dict kvs)] => if tupKeys kvs = true then some (.list (kvs.map (·.1))) else none
  | _ => none
def minI : List Int → Option Int
  | [] => none
  | a :: r => some (r.foldl min a)
theorem foldl_min_mem : ∀ (l : List Int) (a : Int), l.foldl min a ∈ a :: l ∧ ∀ y ∈ a :: l, l.foldl min a ≤ y
  | [], a => ⟨List.mem_cons_self, fun y h => by simp at h; simp [h]⟩
  | b :: l, a => by
    obtain ⟨h1, h2⟩ := foldl_min_mem l (min a b)
    refine ⟨?_, fun y hy => ?_⟩
    · show l.foldl min (min a b) ∈ _
      rcases List.mem_cons.mp h1 with z | z
      · rw [z]
        rcases Int.le_total a b with c | c
        · rw [Int.min_eq_left c]; simp
        · rw [Int.min_eq_right c]; simp
      · exact List.mem_cons_of_mem _ (List.mem_cons_of_mem _ z)
    · show l.foldl min (min a b) ≤ y
      have hm := h2 (min a b) List.mem_cons_self
      rcases List.mem_cons.mp hy with z | z
      · rw [z]; exact Int.le_trans hm (Int.min_le_left a b)
      · rcases List.mem_cons.mp z with z | z
        · rw [z]; exact Int.le_trans hm (Int.min_le_right a b)
        · exact h2 y (List.mem_cons_of_mem _ z)
theorem minI_is {ns : List Int} {M m : Int} (e : minI ns = some M) (h1 : m ∈ ns) (h2 : ∀ y ∈ ns, m ≤ y) : m = M := by
  cases ns with
  | nil => cases e
  | cons a r =>
    cases e
    obtain ⟨k1, k2⟩ := foldl_min_mem r a
    exact Int.le_antisymm (h2 _ k1) (k2 m h1)
theorem minI_pos {ns : List Int} {M : Int} (e : minI ns = some M) : 0 < ns.length := by
  cases ns with
  | nil => cases e
  | cons a r => simp
def pickMin : List PyData → Option PyData
  | [] => none
  | x :: r => if (alikeB (x :: r) && decide (PyData.depthAll (x :: r) ≤ 64)) = true then some (PySem.W.minD x r) else none
theorem pickMin_of {xs : List PyData} {d : PyData} (e : pickMin xs = some d) : ∃ x r, xs = x :: r ∧ alikeB (x :: r) = true ∧ PyData.depthAll (x :: r) ≤ 64 ∧ d = PySem.W.minD x r := by
  unfold pickMin at e
  split at e
  · cases e
  · split at e
    · rename_i h
      rw [Bool.and_eq_true, decide_eq_true_eq] at h
      cases e
      exact ⟨_, _, rfl, h.1, h.2, rfl⟩
    · cases e
def bMin : List DV → Option PyData
  | [.pu (.int a), .pu (.int b)] => some (.int (if b < a then b else a))
  | [.pu (.list xs)] => match allI xs with
    | some ns => (minI ns).map .int
    | none => pickMin xs
  | [.pu (.tuple xs)] => pickMin xs
  | _ => none
theorem cs_min (hc : X.calm = true) (hu : X.A.units + 100 < cLine) : CallS X et (.builtin "min") bMin := by
  intro am B F g σ H vs ds d Q R hd e q
  unfold bMin at e
  split at e
  · cases e
    obtain ⟨v, w', rfl, d1, d2⟩ := hd.two
    rw [Dn.int_of d1, Dn.int_of d2]
    exact ⟨_, call_min2 hc, _, _, rfl, q _ F H Ext.refl R (.int _)⟩
  · rename_i xs
    obtain ⟨v, rfl, dn⟩ := hd.one
    cases qi : allI xs with
    | none =>
      rw [qi] at e
      have e : pickMin xs = some d := e
      obtain ⟨x, r, rfl, h1, h2, rfl⟩ := pickMin_of e
      have dn : Dn X.K et F v (.list _) := dn
      cases dn with
      | lst sx dx => exact ⟨_, call_minDt (et := et) false hc hu, _, _, F, x, r, rfl, SqL.of (R.sub _ _ sx), R.sub, dx, h1, h2, fun w dw => q w F H Ext.refl R dw⟩
    | some ns =>
      rw [qi] at e
      have e : (minI ns).map PyData.int = some d := e
      cases qm : minI ns with
      | none => rw [qm] at e; cases e
      | some M =>
        rw [qm] at e
        cases e
        have dn : Dn X.K et F v (.list _) := dn
        cases dn with
        | lst sx dx =>
          have ei := dx.ints qi
          subst ei
          exact ⟨_, cr_min hc, _, _, rfl, SqL.of (R.sub _ _ sx), minI_pos qm, fun m h1 h2 => by rw [minI_is qm h1 h2]; exact q _ F H Ext.refl R (.int _)⟩
  · rename_i xs
    obtain ⟨v, rfl, dn⟩ := hd.one
    obtain ⟨x, r, rfl, h1, h2, rfl⟩ := pickMin_of e
    have dn : Dn X.K et F v (.tuple _) := dn
    cases dn with
    | tup sx dx => exact ⟨_, call_minDt (et := et) true hc hu, _, _, F, x, r, rfl, SqT.mono R.sub sx, R.sub, dx, h1, h2, fun w dw => q w F H Ext.refl R dw⟩
  · cases e
/-- sys.modules stands in what is fixed, and is no list -/
def SysOk (K : PySem.W.Frag) : Prop := ∃ o, K.lookup sysModules = some o ∧ o.cls ≠ .type "list"
theorem sys_not {a : Addr} {as : List Addr} (h : (a == sysModules) = false) (n : sysModules ∉ as) : sysModules ∉ a :: as := fun z => by
  rcases List.mem_cons.mp z with z | z
  · rw [← z] at h; simp at h
  · exact n z
mutual
theorem Dn.reads {pins : List (Addr × Obj)} {σ : L2.St} {F H : Hp} {s : Shared} (hy : SysOk X.K) (I : Inv X pins σ H s) (sub : Same F H) : ∀ {v : V} {d : PyData}, Dn X.K et F v d → ∀ {u : Value}, RelV v u → d.showable = true → ∃ as, Reads s.heap u d as ∧ sysModules ∉ as
  | _, _, .non, _, r, _ => by
    cases r
    exact ⟨_, Reads.none, by simp⟩
  | _, _, .bl b, _, r, _ => by
    cases r
    exact ⟨_, Reads.bool b, by simp⟩
  | _, _, .int i, _, r, _ => by
    obtain ⟨t, rfl⟩ := r
    exact ⟨_, Reads.int i t, by simp⟩
  | _, _, .str x, _, r, _ => by
    obtain ⟨t, rfl⟩ := r
    exact ⟨_, Reads.str x t, by simp⟩
  | _, _, .lst hs ha, _, r, sh => by
    unfold PyData.showable at sh
    cases r
    obtain ⟨its, rv, ⟨o, n, ho, hc, _, hd⟩, _⟩ := I.list (SqL.of (sub _ _ hs))
    obtain ⟨as, hr, ns⟩ := DnAll.reads hy I sub ha rv sh
    refine ⟨_, Reads.list ho hc hd hr, fun z => ?_⟩
    rcases List.mem_cons.mp z with z | z
    · obtain ⟨om, k1, k2⟩ := hy
      have e := I.kIn _ _ k1
      rw [z, ho] at e
      cases e
      exact k2 hc
    · exact ns z
  | _, _, .tup hs ha, _, r, sh => by
    unfold PyData.showable at sh
    cases r
    obtain ⟨its, rv, ⟨o, ho, hc, n, hd⟩, _⟩ := I.tuple (SqT.mono sub hs)
    obtain ⟨as, hr, ns⟩ := DnAll.reads hy I sub ha rv sh
    exact ⟨_, Reads.tuple ho hc hd hr, ns⟩
  | _, _, .dcx hs kv, _, r, sh => by
    unfold PyData.showable at sh
    cases r
    obtain ⟨_, ⟨_, hn, _, ys, o, ds, ep, pr, ho, hx, hd, hl⟩, _⟩ := I.hok _ _ (sub _ _ hs)
    obtain ⟨as, bs, h1, h2, n1, n2⟩ := DnKv.reads hy I sub kv pr sh
    exact ⟨_, Reads.dict ho hx.1 hd (by rw [hl, List.map_map]; exact h1) (by rw [hl, List.map_map]; exact h2), sys_not hn (fun z => (List.mem_append.mp z).elim n1 n2)⟩
  | _, _, .dck _ hs kv, _, r, sh => by
    unfold PyData.showable at sh
    cases r
    obtain ⟨_, _, hn, vs, kr, o, ds, ep, ho, hx, hd, _, hp, _⟩ := I.hok _ _ (sub _ _ hs)
    obtain ⟨as, bs, h1, h2, n1, n2⟩ := DnKk.reads hy I sub kv kr hp sh
    exact ⟨_, Reads.dict ho hx.1 hd h1 h2, sys_not hn (fun z => (List.mem_append.mp z).elim n1 n2)⟩
  | _, _, .err _ _ _, _, r, sh => by
    exfalso
    unfold PyData.showable PyData.showableKv PyData.showable at sh
    rw [xMark_no] at sh
    cases sh
  | _, _, .er0 _, _, r, sh => by
    exfalso
    unfold PyData.showable PyData.showableKv PyData.showable at sh
    rw [xMark_no] at sh
    cases sh
theorem DnAll.reads {pins : List (Addr × Obj)} {σ : L2.St} {F H : Hp} {s : Shared} (hy : SysOk X.K) (I : Inv X pins σ H s) (sub : Same F H) : ∀ {vs : List V} {ds : List PyData}, DnAll X.K et F vs ds → ∀ {us : List Value}, Vals vs us → PyData.showableAll ds = true → ∃ as, ReadsAll s.heap us ds as ∧ sysModules ∉ as
  | _, _, .nil, _, r, _ => by
    cases r
    exact ⟨_, ReadsAll.nil, by simp⟩
  | _, _, .cons h1 h2, _, r, sh => by
    unfold PyData.showableAll at sh
    rw [Bool.and_eq_true] at sh
    cases r with
    | cons r1 r2 =>
      obtain ⟨as, q1, n1⟩ := Dn.reads hy I sub h1 r1 sh.1
      obtain ⟨bs, q2, n2⟩ := DnAll.reads hy I sub h2 r2 sh.2
      exact ⟨_, ReadsAll.cons q1 q2, fun z => (List.mem_append.mp z).elim n1 n2⟩
theorem DnKv.reads {pins : List (Addr × Obj)} {σ : L2.St} {F H : Hp} {s : Shared} (hy : SysOk X.K) (I : Inv X pins σ H s) (sub : Same F H) : ∀ {es : List (NestedKey × Addr × V)} {kvs : List (PyData × PyData)}, DnKv X.K et F es kvs →
    ∀ {ys : List (NestedKey × Addr × Value)}, Paired (fun (p : NestedKey × Addr × V) (q : NestedKey × Addr × Value) => p.1 = q.1 ∧ p.2.1 = q.2.1 ∧ RelV p.2.2 q.2.2) es ys → PyData.showableKv kvs = true →
    ∃ as bs, ReadsAll s.heap (ys.map ((·.key) ∘ fun x => (⟨et.hs x.1, .ref x.2.1, x.2.2⟩ : DictEntry))) (kvs.map (·.1)) as ∧ ReadsAll s.heap (ys.map ((·.val) ∘ fun x => (⟨et.hs x.1, .ref x.2.1, x.2.2⟩ : DictEntry))) (kvs.map (·.2)) bs ∧ sysModules ∉ as ∧ sysModules ∉ bs
  | _, _, .nil, _, r, _ => by
    cases r
    exact ⟨_, _, ReadsAll.nil, ReadsAll.nil, by simp, by simp⟩
  | _, _, .cons _ _ hk hv h2, _, r, sh => by
    unfold PyData.showableKv at sh
    rw [Bool.and_eq_true, Bool.and_eq_true] at sh
    cases r with
    | cons r1 r2 =>
      obtain ⟨e1, e2, e3⟩ := r1
      obtain ⟨as, q1, n1⟩ := Dn.reads hy I sub hk (u := .ref _) rfl sh.1.1
      obtain ⟨cs, q3, n3⟩ := Dn.reads hy I sub hv e3 sh.1.2
      obtain ⟨bs, ds, q2, q4, n2, n4⟩ := DnKv.reads hy I sub h2 r2 sh.2
      refine ⟨_, _, ReadsAll.cons ?_ q2, ReadsAll.cons q3 q4, fun z => (List.mem_append.mp z).elim n1 n2, fun z => (List.mem_append.mp z).elim n3 n4⟩
      show Reads s.heap (Value.ref _) _ _
      rw [← e2]
      exact q1
theorem DnKk.reads {pins : List (Addr × Obj)} {σ : L2.St} {F H : Hp} {s : Shared} (hy : SysOk X.K) (I : Inv X pins σ H s) (sub : Same F H) : ∀ {es : List (Key × V)} {kvs : List (PyData × PyData)}, DnKk X.K et F es kvs →
    ∀ {vs : List (Key × Value)}, KV es vs → ∀ {ds : List DictEntry}, Pairs (mixKind X.prog X.w) ds vs → PyData.showableKv kvs = true →
    ∃ as bs, ReadsAll s.heap (ds.map (·.key)) (kvs.map (·.1)) as ∧ ReadsAll s.heap (ds.map (·.val)) (kvs.map (·.2)) bs ∧ sysModules ∉ as ∧ sysModules ∉ bs
  | _, _, .nil, _, r, _, p, _ => by
    cases r
    cases p
    exact ⟨_, _, ReadsAll.nil, ReadsAll.nil, by simp, by simp⟩
  | _, _, .int _ hv h2, _, r, _, p, sh => by
    unfold PyData.showableKv at sh
    rw [Bool.and_eq_true, Bool.and_eq_true] at sh
    cases r with
    | cons r1 r2 =>
      cases p with
      | cons k1 k2 k3 =>
        obtain ⟨e1, e2⟩ := r1
        obtain ⟨cs, q3, n3⟩ := Dn.reads hy I sub hv e2 sh.1.2
        obtain ⟨bs, ds, q2, q4, n2, n4⟩ := DnKk.reads hy I sub h2 r2 k3 sh.2
        rw [← k2] at q3
        have k1 : keyIs _ _ = true := k1
        rw [← e1] at k1
        rcases keyIs_shape k1 with ⟨i, t, x1, x2⟩ | ⟨x, t, x1, x2⟩
        · cases x1
          refine ⟨_, _, ReadsAll.cons (as := []) ?_ q2, ReadsAll.cons q3 q4, n2, fun z => (List.mem_append.mp z).elim n3 n4⟩
          show Reads s.heap (DictEntry.key _) (.int _) []
          rw [x2]
          exact Reads.int _ t
        · cases x1
  | _, _, .str hv h2, _, r, _, p, sh => by
    unfold PyData.showableKv at sh
    rw [Bool.and_eq_true, Bool.and_eq_true] at sh
    cases r with
    | cons r1 r2 =>
      cases p with
      | cons k1 k2 k3 =>
        obtain ⟨e1, e2⟩ := r1
        obtain ⟨cs, q3, n3⟩ := Dn.reads hy I sub hv e2 sh.1.2
        obtain ⟨bs, ds, q2, q4, n2, n4⟩ := DnKk.reads hy I sub h2 r2 k3 sh.2
        rw [← k2] at q3
        have k1 : keyIs _ _ = true := k1
        rw [← e1] at k1
        rcases keyIs_shape k1 with ⟨i, t, x1, x2⟩ | ⟨x, t, x1, x2⟩
        · cases x1
        · cases x1
          refine ⟨_, _, ReadsAll.cons (as := []) ?_ q2, ReadsAll.cons q3 q4, n2, fun z => (List.mem_append.mp z).elim n3 n4⟩
          show Reads s.heap (DictEntry.key _) (.str _) []
          rw [x2]
          exact Reads.str _ t
end
theorem dl_cr_repr (hy : SysOk X.K) (hg : X.A.guards = some []) (hu : X.A.units + 100 < cLine) : CallR X (.builtin "repr") (fun vs H Q => ∃ v d F, vs = [v] ∧ Same F H ∧ Dn X.K et F v d ∧ d.showable = true ∧ d.depth ≤ 64 ∧ d.shown.length ≤ sizeLine ∧ Q (.str d.shown) H) := by
  intro pins s σ H vs us Q I r h
  obtain ⟨v, d, F, rfl, sub, hd, hs, hdp, hz, q⟩ := h
  obtain ⟨u, rfl, ru⟩ := vals1 r
  obtain ⟨as, rd, ns⟩ := Dn.reads hy I sub hd ru hs
  cases u with
  | ref a => exact repr_of_reads' rd hs (fun _ => ns) hg (by omega) (fun _ _ e => e) (fun h' u tk hk => ⟨.str _, H, I.kept hk, ⟨_, rfl⟩, q⟩) hz
  | none =>
    cases rd
    exact PySem.P.repr_of_none ⟨.str _, H, I.tok _, ⟨_, rfl⟩, q⟩
  | bool b =>
    cases rd
    exact PySem.P.repr_of_bool ⟨.str _, H, I.tok _, ⟨_, rfl⟩, q⟩
  | int i t =>
    cases rd
    exact PySem.P.repr_of_int (of_decide_eq_true hs) ⟨.str _, H, I.tok _, ⟨_, rfl⟩, q⟩
  | str x t =>
    cases rd
    exact PySem.P.repr_of_str ⟨.str _, H, I.tok _, ⟨_, rfl⟩, q⟩ hz
  | _ => cases rd
theorem nd_stay {hs : NestedKey → Int} {a : Addr} {es : List (NestedKey × Addr × V)} {P : Program} {w : World} {H : Hp} {h : Heap} (x : es.length ≤ sizeLine) (y : (a == sysModules) = false) (n : (es.map (·.1)).Nodup)
    (z : ∃ (ys : List (NestedKey × Addr × Value)) (o : Obj) (ds : Array DictEntry) (ep : Nat), Paired (fun (p : NestedKey × Addr × V) (q : NestedKey × Addr × Value) => p.1 = q.1 ∧ p.2.1 = q.2.1 ∧ RelV p.2.2 q.2.2) es ys ∧
      h.get? a = some o ∧ o.ExactDict ∧ o.data = .dict ds ep ∧ ds.toList = ys.map fun x => ⟨hs x.1, .ref x.2.1, x.2.2⟩) : ObjOk P w H h a (NDo hs a es) := by
  refine ⟨⟨x, y, n, z⟩, ?_, fun h1 h2 q k => ?_⟩
  · obtain ⟨ys, o, ds, ep, _, e, _⟩ := z
    exact ⟨o, e⟩
  · obtain ⟨x, y, n, ys, o, ds, ep, p, e, r⟩ := q
    exact ⟨x, y, n, ys, o, ds, ep, p, k _ e, r⟩
theorem nd_empty {hs : NestedKey → Int} {P : Program} {w : World} {H : Hp} (h : Heap) (hb : sysModules < h.objs.size) : ObjOk P w H (h.push { cls := .type "dict", data := .dict #[] }) h.objs.size (NDo hs h.objs.size []) :=
  nd_stay (Nat.zero_le _) (beq_eq_false_iff_ne.mpr (Ne.symm (Nat.ne_of_lt hb))) List.nodup_nil ⟨[], _, #[], 0, .nil, Heap.get?_push_size _ rfl, ⟨rfl, rfl, rfl⟩, rfl, rfl⟩
theorem pe_dnewF {hs : NestedKey → Int} {pos : Pos} : PE X (.Dict [] [] pos) (fun _ H Q => ∀ p o, H p = none → Q (.ref p) (upd H p (.frz o (NDo hs p [])))) := ⟨fun pins s σ H Q I h =>
  wpAny_Dict_empty ⟨.ref s.heap.objs.size, _, I.laid (o := .frz { cls := .type "dict", data := .dict #[] } (NDo hs s.heap.objs.size [])) (t' := s.toks) (fun _ _ q => Heap.get?_push_of_some _ q) (Nat.le_refl _) ⟨Heap.get?_push_size _ rfl, nd_empty s.heap I.big⟩, rfl, h _ _ (I.hok.fresh (Nat.le_refl _))⟩⟩
/-- {} -/
theorem de_dict0 {et : ET} {W : WX} {pos : Pos} : DE X et W (.Dict [] [] pos) (mC (.dict [])) := fun am B F g σ H Q R hq => by
  refine w_of (pe_dnewF (hs := et.hs)) fun p o hp => ?_
  obtain ⟨R', ex⟩ := R.alloc hp (.frz o (NDo et.hs p []))
  exact hq _ _ _ ex R' (.dcx upd_same .nil)
def okShow (d : PyData) : Bool := d.showable && decide (d.depth ≤ 64) && decide (d.shown.length ≤ bigN)
def bRepr : List DV → Option PyData
  | [.pu d] => if okShow d then some (.str d.shown) else none
  | _ => none
theorem cs_repr (hy : SysOk X.K) (hg : X.A.guards = some []) (hu : X.A.units + 100 < cLine) : CallS X et (.builtin "repr") bRepr := by
  intro am B F g σ H vs ds d Q R hd e q
  unfold bRepr at e
  split at e
  · rename_i d0
    split at e
    · rename_i hz
      cases e
      obtain ⟨v, rfl, dn⟩ := hd.one
      unfold okShow at hz
      simp only [Bool.and_eq_true, decide_eq_true_eq, Bool.not_eq_true'] at hz
      exact ⟨_, dl_cr_repr hy hg hu, _, d0, F, rfl, R.sub, dn, hz.1.1, hz.1.2, by rw [bigN_eq]; exact hz.2, q _ F H Ext.refl R (.str _)⟩
    · cases e
  · cases e
/-- isinstance(e, T) of a built-in type -/
def tyN : PyData → String
  | .none => "NoneType"
  | .bool _ => "bool"
  | .int _ => "int"
  | .str _ => "str"
  | .list _ => "list"
  | .tuple _ => "tuple"
  | .dict _ => "dict"
def isiT (T : String) (d : PyData) : Bool := decide (tyN d = T) || (decide (tyN d = "bool") && decide (T = "int"))
def isDct : PyData → Bool
  | .dict _ => true
  | _ => false
def mIsi (T : String) (f : Sg → Rs Sg DV) (g : Sg) : Rs Sg DV := (f g).bind fun x g1 => match x with | .pu d => if isDct d = true then .no else .ok (.pu (.bool (isiT T d))) g1 | _ => .no
theorem Dn.ty {K : PySem.W.Frag} {F H : Hp} {v : V} {d : PyData} (h : Dn K et F v d) (nd : isDct d = false) (s : Same F H) : TyX K H v (.type (tyN d)) ∨ ∃ a o es, v = .ref a ∧ tyN d = "dict" ∧ H a = some (.frz o (NDo et.hs a es)) := by
  cases h with
  | non => exact .inl (.base .non)
  | bl b => exact .inl (.base (.bl b))
  | int i => exact .inl (.base (.int i))
  | str x => exact .inl (.base (.str x))
  | lst a b => exact .inl (.base (.lst (s _ _ a)))
  | tup a b =>
    rcases SqT.mono s a with (a | ⟨o, a⟩) | ⟨o, its, n, a, c, _⟩
    · exact .inl (.base (.tup a))
    · exact .inl (.fTuple a)
    · exact .inl (.kTuple a c)
  | dcx a _ => exact .inr ⟨_, _, _, rfl, rfl, s _ _ a⟩
  | dck _ a _ => exact .inl (.fDict (s _ _ a))
  | err _ _ _ => cases nd
  | er0 _ => cases nd
end
end DL
set_option Elab.async false
set_option linter.all false
set_option maxRecDepth 100000
set_option maxHeartbeats 4000000
set_option autoImplicit false
namespace DL
open PySem PySem.Spec L2
open PyProof.Rows hiding St
section
variable {X : Cx} {et : ET} {W : WX}
def Sg.put (g : Sg) (i : Nat) (x : DV) : Sg := { g with r := g.r.set i (some x) }
/-- a slot is given a value that is no list in the making -/
theorem RepF.put {K : PySem.W.Frag} {et : ET} {am : Addr} {B F : Hp} {g : Sg} {σ : St} {H : Hp} (R : RepF K et am B F g σ H) (i : Nat) {v : V} {x : DV} (h : DenP K et am F v x) : RepF K et am B F (g.put i x) (σ.set i (some v)) H := by
  have nown : isOwnV x = false := by
    cases x with
    | own _ => exact h.elim
    | dic _ => exact h.elim
    | dki _ => exact h.elim
    | _ => rfl
  refine ⟨R.sub, R.fam, R.base, by show _ = (g.r.set i _).length; rw [List.length_set, List.length_set]; exact R.len, fun j y e => ?_, fun j k x1 x2 a e1 e2 o1 o2 e3 e4 => ?_, R.ms⟩
  · have e : (g.r.set i (some x))[j]? = some (some y) := e
    by_cases hij : i = j
    · subst hij
      by_cases hl : i < g.r.length
      · rw [List.getElem?_set_self hl] at e
        cases e
        refine ⟨v, by rw [List.getElem?_set_self (by rw [R.len]; exact hl)], ?_⟩
        cases x with
        | pu d => exact h
        | own _ => exact h.elim
        | dic _ => exact h.elim
        | dki _ => exact h.elim
        | m => exact h
        | scr _ => exact h
        | clo _ => exact h
        | exc _ _ => exact h
      · rw [List.getElem?_eq_none (by rw [List.length_set]; omega)] at e
        cases e
    · rw [List.getElem?_set_ne hij] at e ⊢
      exact R.slot j y e
  · have e1 : (g.r.set i (some x))[j]? = some (some x1) := e1
    have e2 : (g.r.set i (some x))[k]? = some (some x2) := e2
    have hi : ∀ {j : Nat} {y : DV}, (g.r.set i (some x))[j]? = some (some y) → isOwnV y = true → i ≠ j := fun {j y} e oy z => by
      subst z
      by_cases hl : i < g.r.length
      · rw [List.getElem?_set_self hl] at e
        cases e
        rw [nown] at oy; cases oy
      · rw [List.getElem?_eq_none (by rw [List.length_set]; omega)] at e
        cases e
    have h1 := hi e1 o1
    have h2 := hi e2 o2
    rw [List.getElem?_set_ne h1] at e1 e3
    rw [List.getElem?_set_ne h2] at e2 e4
    exact R.inj j k x1 x2 a e1 e2 o1 o2 e3 e4
theorem dss_nil : DSs X et W [] (fun g => .ok .nx g) := fun am B F g σ H D R hq => wss_of pss_nil (hq σ F H Ext.refl R)
def mSeqS (f h : Sg → Rs Sg Fl) (g : Sg) : Rs Sg Fl := (f g).bind fun x g1 => match x with | .nx => h g1 | y => .ok y g1
theorem dss_cons {st : Stmt} {rest : List Stmt} {f h : Sg → Rs Sg Fl} (h1 : DS X et W st f) (h2 : DSs X et W rest h) : DSs X et W (st :: rest) (mSeqS f h) := fun am B F g σ H D R hq => by
  refine wss_of (pss_cons ps_w pss_w) (h1 am B F g σ H _ R ?_)
  unfold mSeqS at hq
  cases q : f g with
  | ok x g1 =>
    rw [q] at hq
    cases x with
    | nx => exact fun σ1 F1 H1 ex1 R1 => h2 am B F1 g1 σ1 H1 D R1 (goodF (σ := σ).weak F F1 _ ex1 hq)
    | rt d => exact hq
    | bk => exact hq
    | ct => exact hq
  | ex c p g1 => rw [q] at hq; exact hq
  | no => rw [q] at hq; exact hq
theorem dss_one {st : Stmt} {f : Sg → Rs Sg Fl} (h1 : DS X et W st f) : DSs X et W [st] f := fun am B F g σ H D R hq => wss_of (pss_one ps_w) (h1 am B F g σ H D R hq)
def mRet (f : Sg → Rs Sg DV) (g : Sg) : Rs Sg Fl := (f g).bind fun d g1 => .ok (.rt d) g1
theorem ds_ret {e : Expr} {pos : Pos} {f : Sg → Rs Sg DV} (h : DE X et W e f) : DS X et W (.Return (some e) pos) (mRet f) := fun am B F g σ H D R hq =>
  ws_of (ps_ret pe_w) (h.then (goodF (D := D)) R hq fun d g1 v F1 H1 ex1 R1 dn1 hq1 => hq1 v σ F1 H1 Ext.refl R1 dn1)
def mDrop (f : Sg → Rs Sg DV) (g : Sg) : Rs Sg Fl := (f g).bind fun _ g1 => .ok .nx g1
def mSet (i : Nat) (f : Sg → Rs Sg DV) (g : Sg) : Rs Sg Fl := (f g).bind fun d g1 => .ok .nx (g1.put i d)
theorem ds_set {i : Nat} {x : Str} {e : Expr} {pos' pos : Pos} {f : Sg → Rs Sg DV} (hN : X.N.Nodup) (h : DE X et W e f) (hi : X.N[i]? = some x := by rfl) (hx : Loc X.env.scope x := by first | exact Or.inl rfl | exact Or.inr rfl) (hs : swapsWith e (some (.Name x pos')) pos.line X.env = pure false := by rfl)
    (hf : X.fn x = true ∨ X.env.scope.names.lookup x = some .local := by first | exact .inl rfl | exact .inr rfl | assumption) : DS X et W (.Assign [.Name x pos'] e pos) (mSet i f) := fun am B F g σ H D R hq =>
  ws_of (ps_set hN hi hx pe_w hs hf) (h.then (goodF (D := D)) R hq fun d g1 v F1 H1 ex1 R1 dn1 hq1 => hq1 _ F1 H1 Ext.refl (R1.put i dn1))
/-- x = [] for a list that will grow -/
def mNew (i : Nat) (g : Sg) : Rs Sg Fl := .ok .nx (g.put i (.own []))
/-- a new object is laid that some slot is to own -/
theorem RepF.fresh {K : PySem.W.Frag} {et : ET} {am : Addr} {B F : Hp} {g : Sg} {σ : St} {H : Hp} (R : RepF K et am B F g σ H) {p : Addr} (hp : H p = none) (o : HO) : RepF K et am B F g σ (upd H p o) := by
  obtain ⟨bp, fp, np⟩ := R.bnone hp
  have hne : ∀ {a : Addr} {u : HO}, H a = some u → a ≠ p := fun e => ne_of_none e hp
  refine ⟨fun a u e => ?_, ⟨R.fam.am, Tabs.new R.fam.tabs hp _, R.fam.off⟩, fun a u e na => by rw [upd_ne (hne (R.base a u e na))]; exact R.base a u e na, R.len, fun j x e => ?_, R.inj, ?_⟩
  · rw [upd_ne (ne_of_none e fp)]
    exact R.sub a u e
  · obtain ⟨v, e1, e2⟩ := R.slot j x e
    exact ⟨v, e1, e2.keep Same.rfl' fun a u _ _ fa ba na ha ow => ⟨fa, ba, by rw [upd_ne (hne ha)]; exact ha⟩⟩
  · obtain ⟨ac, e1, e2⟩ := R.ms
    exact ⟨ac, by rw [upd_ne (Ne.symm np)]; exact e1, e2⟩
/-- x.append(e), x a list in the making -/
def isOwn (g : Sg) (i : Nat) : Bool := match g.r[i]? with
  | some (some (.own _)) => true
  | _ => false
def mApp (i : Nat) (f : Sg → Rs Sg DV) (g : Sg) : Rs Sg Fl := if isOwn g i then (f g).bind fun d g1 => match d, g1.r[i]? with
    | .pu a, some (some (.own xs)) => if xs.length < bigN then .ok .nx (g1.put i (.own (xs ++ [a]))) else .no
    | _, _ => .no
  else .no
theorem ds_if {c : Expr} {a b : List Stmt} {pos : Pos} {fc : Sg → Rs Sg Bool} {fa fb : Sg → Rs Sg Fl} (hc : DT X et W c fc) (ha : DSs X et W a fa) (hb : DSs X et W b fb) : DS X et W (.If c a b pos) (mIf fc fa fb) := fun am B F g σ H D R hq => by
  refine ws_of (ps_if pt_w pss_w pss_w) (hc.then (goodF (D := D)) R hq fun d g1 F1 H1 ex1 R1 hq1 => ?_)
  cases d with
  | true => exact iteT (ha am B F1 g1 σ H1 D R1 hq1)
  | false => exact iteF (hb am B F1 g1 σ H1 D R1 hq1)
def mAug (i : Nat) (h : PyData → PyData → Option PyData) (f : Sg → Rs Sg DV) (g : Sg) : Rs Sg Fl := match g.r[i]? with
  | some (some (.pu a)) => (f g).bind fun d g1 => match d with
    | .pu b => (Rs.of (h a b) g1).bind fun c g2 => .ok .nx (g2.put i (.pu c))
    | _ => .no
  | _ => .no
def dAddI : PyData → PyData → Option PyData
  | .int a, .int b => some (.int (a + b))
  | _, _ => none
def mPar2 (i j : Nat) (fs : Sg → Rs Sg (List DV)) (g : Sg) : Rs Sg Fl := (fs g).bind fun ds g1 => match ds with
  | [x, y] => .ok .nx ((g1.put i x).put j y)
  | _ => .no
/-- a, b = ([], e): a is to grow -/
def mParNE (i j : Nat) (f : Sg → Rs Sg DV) (g : Sg) : Rs Sg Fl := (f g).bind fun y g1 => .ok .nx ((g1.put i (.own [])).put j y)
theorem RepF.wide {K : PySem.W.Frag} {et : ET} {am : Addr} {B F : Hp} {g : Sg} {σ : St} {H : Hp} (R : RepF K et am B F g σ H) {p : Addr} (hp : H p = none) (o : HO) : RepF K et am (upd B p o) F g σ (upd H p o) := by
  obtain ⟨bp, fp, np⟩ := R.bnone hp
  have hne : ∀ {a : Addr} {u : HO}, H a = some u → a ≠ p := fun e => ne_of_none e hp
  refine ⟨fun a u e => ?_, ⟨R.fam.am, Tabs.new R.fam.tabs hp _, R.fam.off⟩, fun a u e na => ?_, R.len, fun j x e => ?_, R.inj, ?_⟩
  · rw [upd_ne (ne_of_none e fp)]
    exact R.sub a u e
  · by_cases h : a = p
    · rw [h, upd_same] at e ⊢
      exact e
    · rw [upd_ne h] at e ⊢
      exact R.base a u e na
  · obtain ⟨v, e1, e2⟩ := R.slot j x e
    exact ⟨v, e1, e2.keep Same.rfl' fun a u _ _ fa ba na ha ow => ⟨fa, by rw [upd_ne (hne ha)]; exact ba, by rw [upd_ne (hne ha)]; exact ha⟩⟩
  · obtain ⟨ac, e1, e2⟩ := R.ms
    exact ⟨ac, by rw [upd_ne (Ne.symm np)]; exact e1, e2⟩
/-- back to the base without p -/
theorem RepF.narrow {K : PySem.W.Frag} {et : ET} {am : Addr} {B F : Hp} {g : Sg} {σ : St} {H : Hp} {p : Addr} {o : HO} (R : RepF K et am (upd B p o) F g σ H) (bp : B p = none) : RepF K et am B F g σ H := by
  have nb : ∀ {a : Addr}, upd B p o a = none → B a = none := fun {a} e => by
    by_cases h : a = p
    · rw [h]; exact bp
    · rw [upd_ne h] at e; exact e
  refine ⟨R.sub, R.fam, fun a u e na => R.base a u (by rw [upd_ne (ne_of_none e bp)]; exact e) na, R.len, fun j x e => ?_, R.inj, R.ms⟩
  obtain ⟨v, e1, e2⟩ := R.slot j x e
  exact ⟨v, e1, e2.keep Same.rfl' fun a u _ _ fa ba na ha ow => ⟨fa, nb ba, ha⟩⟩
theorem Ext.narrow {B F F' : Hp} {p : Addr} {o : HO} (x : Ext (upd B p o) F F') (bp : B p = none) : Ext B F F' := ⟨x.1, fun a u e n => by
  have := x.2 a u e n
  by_cases h : a = p
  · rw [h]; exact bp
  · rw [upd_ne h] at this; exact this⟩
theorem Ext.off {B F F' : Hp} {p : Addr} {o : HO} (x : Ext (upd B p o) F F') (fp : F p = none) : F' p = none := by
  cases q : F' p with
  | none => rfl
  | some u =>
    have := x.2 p u q fp
    rw [upd_same] at this
    cases this
theorem Good.wide {K : PySem.W.Frag} {et : ET} {am : Addr} {B : Hp} {D : Ends} {p : Addr} {o : HO} {σ : St} (bp : B p = none) : Good K et W am (upd B p o) σ (fun F r => F p = none ∧ OkF K et W am B F D r) where
  weak := fun F F1 r x h => ⟨x.off h.1, goodF (σ := σ).weak F F1 r (x.narrow bp) h.2⟩
  ex := fun F c q g h => fun cls d F' H' e R r => h.2 σ cls d F' H' (e.narrow bp) (R.narrow bp) r
  no := fun F h => h.2
/-- a, b = (e, []): b is to grow -/
def mParEN (i j : Nat) (f : Sg → Rs Sg DV) (g : Sg) : Rs Sg Fl := (f g).bind fun y g1 => .ok .nx ((g1.put i y).put j (.own []))
end
end DL
set_option Elab.async false
set_option linter.all false
set_option maxRecDepth 100000
set_option maxHeartbeats 4000000
set_option autoImplicit false
namespace DL
open PySem PySem.Spec L2
open PyProof.Rows hiding St
structure FnG (P : Program) (w : World) (K : PySem.W.Frag) (mg : Str → Option Value) (base : Heap) (k : Nat) (f : Addr) (fd : FuncData) (ps : List Str) (sp : Sp) : Prop where
  len : ∀ vs H Q E, sp vs H Q E → vs.length = ps.length
  run : ∀ (A : Around) (outer : List Env) (s : Shared) (H : Hp) (args : Args) (us : List Value) (vs : List V) (Q : VK) (E : XK), Room k A → A.guards = some [] → Env0 P w K mg base A outer s H →
    BindsTo s fd args (ps.zip us) → Vals vs us → sp vs H Q E → codeAny (model P w) A (.call (.ref f) args) (CR (L2.CX P w) outer P w H s Q E) s
/-- the code object's value of a def -/
def CodeOf (K : PySem.W.Frag) (f : Addr) (cdv : Value) : Prop := ∃ oc od fd osl, K.lookup f = some ⟨oc, od, .func fd, osl⟩ ∧ fd.code = cdv
theorem fnG_ofK {P : Program} {w : World} {K : PySem.W.Frag} {mg : Str → Option Value} {base : Heap} {k : Nat} {x qual : Str} {params : Arguments} {body : List Stmt} {scope : Scope} {dvs : List V} {kws : List (Str × V)} {f : Addr} {fd : FuncData} {N ps : List Str} {sp : Sp}
    (F : FunD K x qual params body scope dvs kws f fd) (S : FnScope N ps scope) (len : ∀ vs H Q E, sp vs H Q E → vs.length = ps.length)
    (hbody : ∀ (cdv : Value), CodeOf K f cdv → ∀ (A : Around) (outer : List Env) (s : Shared) (H : Hp) (vs : List V) (Q : VK) (E : XK), Room k (A.deeper (envOfC qual scope s.heap.objs.size f cdv)) → A.guards = some [] → sp vs H Q E →
      wSs (cxOf (L2.CX P w) P w K mg base N qual scope f cdv A outer s H E) body { nx := fun _ H' => Q .non H', rt := Q } (start N vs) H) : FnG P w K mg base (k + 1) f fd ps sp := by
  obtain ⟨oc, od, dV, kV, doc, pm, an, cdv, ct, osl, rfl, lk, hcd, _, _⟩ := F.ex
  refine ⟨len, fun A outer s H args us vs Q E hr hgd e0 hb r hsp => ?_⟩
  have hl := len _ _ _ _ hsp
  have inK : K.In s.heap := e0.mod.kin.keeps
    fun b o e => (e0.bs b o e).1
  have noLim : s.heap.NoLimit := e0.mod.nolimit.keeps
    fun b o e => (e0.bs b o e).1
  have kinds : ∀ y ∈ ps.zip us, scope.names.lookup y.1 = some .local ∨ (scope.names.lookup y.1 = some .cell ∧
      ((cellsFrom (s.heap.objs.size + 1) scope.names []).lookup y.1).isSome = true) := fun ⟨n, v⟩ hy => by
    rcases S.par n (List.of_mem_zip hy).1 with q | q
    · exact .inl q
    · exact .inr ⟨q, PySem.W.cellsFrom_some _ _ _ (.inl q)⟩
  refine codeAny_call_function hr.depth (inK _ _ lk) rfl S.co S.gen rfl
    (PySem.W.codeRec_of inK hcd) (hb _ _ _ _ ?_)
  refine wpAny_newFunctionEnv_cells S.kind kinds
    fun env he s1 z => ?_
  subst he
  refine ⟨noLim.keeps z.toInCall.keep, codeAny_func ?_⟩
  have I : Inv (cxOf (L2.CX P w) P w K mg base N qual scope f cdv A outer s H E) [] (start N vs) H s1 := inv_start S hr.hd e0 hl r z
  refine wpAny_mono ((hbody cdv ⟨_, _, _, _, lk, rfl⟩ A outer s H vs Q E (hr.deeper _) hgd hsp).run [] s1 I) (fun fl s' hs => ?_) fun e s' hs => hs
  have done : ∀ {σ' : St} {H' : Hp} {v : V} {u : Value}, Inv (cxOf (L2.CX P w) P w K mg base N qual scope f cdv A outer s H E) [] σ' H' s' → RelV v u → Q v H' → CE outer P w H s Q u s' :=
    fun {σ' H' v u} J rv q => ⟨v, H', J.os, J.bare, J.base, J.hok, rv, q⟩
  cases fl with
  | next =>
    obtain ⟨σ', H', J, q⟩ := hs
    exact done (v := .non) (u := .none) J rfl q
  | ret u =>
    obtain ⟨v, σ', H', J, rv, q⟩ := hs
    exact done J rv q
  | cont =>
    obtain ⟨_, _, _, q⟩ := hs
    exact q.elim
  | brk =>
    obtain ⟨_, _, _, q⟩ := hs
    exact q.elim
theorem fnG_of {P : Program} {w : World} {K : PySem.W.Frag} {mg : Str → Option Value} {base : Heap} {k : Nat} {x qual : Str} {params : Arguments} {body : List Stmt} {scope : Scope} {dvs : List V} {kws : List (Str × V)} {f : Addr} {fd : FuncData} {N ps : List Str} {sp : Sp}
    (F : FunD K x qual params body scope dvs kws f fd) (S : FnScope N ps scope) (len : ∀ vs H Q E, sp vs H Q E → vs.length = ps.length)
    (hbody : ∀ (cdv : Value) (A : Around) (outer : List Env) (s : Shared) (H : Hp) (vs : List V) (Q : VK) (E : XK), Room k (A.deeper (envOfC qual scope s.heap.objs.size f cdv)) → A.guards = some [] → sp vs H Q E →
      wSs (cxOf (L2.CX P w) P w K mg base N qual scope f cdv A outer s H E) body { nx := fun _ H' => Q .non H', rt := Q } (start N vs) H) : FnG P w K mg base (k + 1) f fd ps sp :=
  fnG_ofK F S len fun cdv _ => hbody cdv
def OkC (K : PySem.W.Frag) (et : ET) (am : Addr) (F H : Hp) (Q : VK) (E : XK) : Rs MS DV → Prop
  | .ok d s' => ∀ v F' H', Ext H F F' → Same F' H' → Fz et am F' H' → (∀ a o, H a = some o → Fre et am a → H' a = some o) → MRel K et am F' H' s' → DenP K et am F' v d → Q v H'
  | .ex c p s' => ∀ cls dx F' H', Ext H F F' → Same F' H' → Fz et am F' H' → (∀ a o, H a = some o → Fre et am a → H' a = some o) → MRel K et am F' H' s' → ExRel K et F' H' c p cls dx → E cls dx H'
  | .no => False
def spD (K : PySem.W.Frag) (et : ET) (n : Nat) (fn : List DV → MS → Rs MS DV) : Sp := fun vs H Q E =>
  ∃ am F ds s, vs.length = n ∧ Same F H ∧ Fz et am F H ∧ MRel K et am F H s ∧ DenL K et am F vs ds ∧ OkC K et am F H Q E (fn ds s)
def startD (n : Nat) (ds : List DV) : List (Option DV) := ds.map some ++ List.replicate (n - ds.length) none
def endB : Rs Sg Fl → Rs MS DV
  | .ok (.rt d) g => .ok d g.s
  | .ok .nx g => .ok (.pu .none) g.s
  | .ok _ _ => .no
  | .ex c p g => .ex c p g.s
  | .no => .no
def fnB (np n : Nat) (f : Sg → Rs Sg Fl) (ds : List DV) (s : MS) : Rs MS DV := if ds.length = np then endB (f ⟨startD n ds, s⟩) else .no
theorem DenL.length {K : PySem.W.Frag} {et : ET} {am : Addr} {F : Hp} : ∀ {vs : List V} {ds : List DV}, DenL K et am F vs ds → vs.length = ds.length
  | _, _, .nil => rfl
  | _, _, .cons _ t => congrArg (· + 1) (DenL.length t)
theorem DenL.get {K : PySem.W.Frag} {et : ET} {am : Addr} {F : Hp} : ∀ {vs : List V} {ds : List DV} {i : Nat} {d : DV}, DenL K et am F vs ds → ds[i]? = some d → ∃ v, vs[i]? = some v ∧ DenP K et am F v d
  | _, _, _, _, .nil, e => by simp at e
  | _, _, 0, _, .cons h _, e => by simp at e; subst e; exact ⟨_, rfl, h⟩
  | _, _, i + 1, d, .cons _ t, e => by
    obtain ⟨v, h1, h2⟩ := DenL.get (i := i) (d := d) t (by simpa using e)
    exact ⟨v, by simpa using h1, h2⟩
theorem startD_get {n : Nat} {ds : List DV} {i : Nat} {x : DV} (e : (startD n ds)[i]? = some (some x)) : ds[i]? = some x := by
  unfold startD at e
  by_cases hi : i < ds.length
  · rw [List.getElem?_append_left (by simpa using hi), List.getElem?_map] at e
    cases q : ds[i]? with
    | none => rw [q] at e; cases e
    | some a => rw [q] at e; cases e; rfl
  · rw [List.getElem?_append_right (by simpa using hi), List.getElem?_replicate] at e
    split at e <;> cases e
theorem start_get {N : List Str} {vs : List V} {i : Nat} {v : V} (e : vs[i]? = some v) : (start N vs)[i]? = some (some v) := by
  have hi : i < vs.length := (List.getElem?_eq_some_iff.mp e).1
  unfold L2.start
  rw [List.getElem?_append_left (by simpa using hi), List.getElem?_map, e]
  rfl
/-- what a derivation needs of the place where it stands -/
structure Here (X : Cx) (k : Nat) (W : WX) : Prop where
  hr : Room k X.A
  hg : X.A.guards = some []
  tk : Takes X W
  hp : PassesOwn (model X.prog X.w) X.A X.env X.xe
  nd : X.N.Nodup
theorem Here.u64 {X : Cx} {k : Nat} {W : WX} (h : Here X k W) : X.A.units + 64 < cLine := h.hr.units
theorem Here.u100 {X : Cx} {k : Nat} {W : WX} (h : Here X k W) : X.A.units + 100 < cLine := by have := h.hr.un; omega
theorem fnD_ofK {P : Program} {w : World} {K : PySem.W.Frag} {mg : Str → Option Value} {base : Heap} {k : Nat} {x qual : Str} {params : Arguments} {body : List Stmt} {scope : Scope} {dvs : List V} {kws : List (Str × V)} {f : Addr} {fd : FuncData} {N ps : List Str} {et : ET} {fb : Sg → Rs Sg Fl}
    (F : FunD K x qual params body scope dvs kws f fd) (S : FnScope N ps scope) 
    (hbody : ∀ (cdv : Value), CodeOf K f cdv → ∀ (A : Around) (outer : List Env) (s : Shared) (H : Hp) (E : XK), Here (cxOf (L2.CX P w) P w K mg base N qual scope f cdv A outer s H E) k (fun cls d _ H => E cls d H) →
      DSs (cxOf (L2.CX P w) P w K mg base N qual scope f cdv A outer s H E) et (fun cls d _ H => E cls d H) body fb) : FnG P w K mg base (k + 1) f fd ps (spD K et ps.length (fnB ps.length N.length fb)) := by
  refine fnG_ofK F S (fun vs H Q E ⟨_, _, _, _, h, _⟩ => h) fun cdv hcv A outer s H vs Q E hr hgd hsp => ?_
  obtain ⟨am, Fz, ds, ms, hl, sub, fam, mr, dl, ok⟩ := hsp
  have hN : ps.length ≤ N.length := by have := congrArg List.length S.pre; rw [List.length_take] at this; omega
  have here : Here (cxOf (L2.CX P w) P w K mg base N qual scope f cdv A outer s H E) k (fun cls d _ H => E cls d H) :=
    ⟨hr, hgd, takes_of rfl rfl rfl rfl, passes_of rfl, S.nd⟩
  have R : RepF K et am H Fz ⟨startD N.length ds, ms⟩ (start N vs) H := by
    refine ⟨sub, fam, fun _ _ e _ => e, ?_, fun i y e => ?_, fun i j x1 x2 a e1 e2 o1 _ _ _ => ?_, mr⟩
    · show (start N vs).length = (startD N.length ds).length
      unfold L2.start startD
      rw [List.length_append, List.length_append, List.length_map, List.length_map, List.length_replicate, List.length_replicate, dl.length]
    · obtain ⟨v, e1, e2⟩ := dl.get (startD_get e)
      refine ⟨v, start_get e1, ?_⟩
      cases y with
      | pu d => exact e2
      | own _ => exact e2.elim
      | m => exact e2
      | scr _ => exact e2
      | clo _ => exact e2
      | exc _ _ => exact e2
      | dic _ => exact e2.elim
      | dki _ => exact e2.elim
    · obtain ⟨v, _, e2⟩ := dl.get (startD_get e1)
      cases x1 with
      | own _ => exact e2.elim
      | dic _ => exact e2.elim
      | dki _ => exact e2.elim
      | _ => cases o1
  refine hbody cdv hcv A outer s H E here am H Fz ⟨startD N.length ds, ms⟩ (start N vs) H _ R ?_
  have hds : ds.length = ps.length := by rw [← dl.length]; exact hl
  unfold fnB at ok
  rw [if_pos hds] at ok
  cases q : fb ⟨startD N.length ds, ms⟩ with
  | no => rw [q] at ok; exact ok.elim
  | ex c p g =>
    rw [q] at ok
    exact fun σ cls d F' H' ex R' r => ok cls d F' H' ex R'.sub R'.fam R'.base R'.ms r
  | ok fl g =>
    rw [q] at ok
    cases fl with
    | nx => exact fun σ F' H' ex R' => ok _ F' H' ex R'.sub R'.fam R'.base R'.ms .non
    | rt d => exact fun v σ F' H' ex R' dn => ok v F' H' ex R'.sub R'.fam R'.base R'.ms dn
    | bk => exact ok.elim
    | ct => exact ok.elim
/-- a def by its name -/
structure FnC (P : Program) (w : World) (K : PySem.W.Frag) (mg : Str → Option Value) (base : Heap) (et : ET) (k : Nat) (x : Str) (fn : List DV → MS → Rs MS DV) : Prop where
  ex : ∃ (f : Addr) (fd : FuncData) (ps : List Str), (∀ ds s, ds.length ≠ ps.length → fn ds s = .no) ∧ mg x = some (.ref f) ∧ PySem.W.keepIn K (.ref f) = true ∧ Binds K fd ps [] ∧ FnG P w K mg base k f fd ps (spD K et ps.length fn)
/-- the def x of the text stands in the module -/
def DefAt (K : PySem.W.Frag) (mg : Str → Option Value) (x : Str) (st : Stmt) : Prop := ∃ f fd, FunD K x x (defArgs st) (defBody st) (defScope st) [] [] f fd ∧ mg x = some (.ref f)
theorem fnC_ofK {P : Program} {w : World} {K : PySem.W.Frag} {mg : Str → Option Value} {base : Heap} {k : Nat} {x : Str} {st : Stmt} {N ps : List Str} {et : ET} {fb : Sg → Rs Sg Fl}
    (T : DefAt K mg x st) (S : FnScope N ps (defScope st))
    (hb : ∀ (kV doc pm : Value) (an : Option Addr) (cdv ct : Value) (us : List Value), us.length = ps.length → bindArgs (PySem.W.fnOf x x (defArgs st) (defBody st) (defScope st) .none kV doc pm an cdv ct) ⟨us, []⟩ = pure (ps.zip us))
    (hbody : ∀ (f : Addr) (cdv : Value), mg x = some (.ref f) → CodeOf K f cdv → ∀ (A : Around) (outer : List Env) (s : Shared) (H : Hp) (E : XK), Here (cxOf (L2.CX P w) P w K mg base N x (defScope st) f cdv A outer s H E) k (fun cls d _ H => E cls d H) →
      DSs (cxOf (L2.CX P w) P w K mg base N x (defScope st) f cdv A outer s H E) et (fun cls d _ H => E cls d H) (defBody st) fb) : FnC P w K mg base et (k + 1) x (fnB ps.length N.length fb) := by
  obtain ⟨f, fd, F, hm⟩ := T
  exact ⟨f, fd, ps, fun ds s h => if_neg h, hm, F.kp, F.bindsN hb, fnD_ofK F S fun cdv hcv A outer s H E here => hbody f cdv hm hcv A outer s H E here⟩
theorem fnC_of {P : Program} {w : World} {K : PySem.W.Frag} {mg : Str → Option Value} {base : Heap} {k : Nat} {x : Str} {st : Stmt} {N ps : List Str} {et : ET} {fb : Sg → Rs Sg Fl}
    (T : DefAt K mg x st) (S : FnScope N ps (defScope st))
    (hb : ∀ (kV doc pm : Value) (an : Option Addr) (cdv ct : Value) (us : List Value), us.length = ps.length → bindArgs (PySem.W.fnOf x x (defArgs st) (defBody st) (defScope st) .none kV doc pm an cdv ct) ⟨us, []⟩ = pure (ps.zip us))
    (hbody : ∀ (f : Addr) (cdv : Value) (A : Around) (outer : List Env) (s : Shared) (H : Hp) (E : XK), Here (cxOf (L2.CX P w) P w K mg base N x (defScope st) f cdv A outer s H E) k (fun cls d _ H => E cls d H) →
      DSs (cxOf (L2.CX P w) P w K mg base N x (defScope st) f cdv A outer s H E) et (fun cls d _ H => E cls d H) (defBody st) fb) : FnC P w K mg base et (k + 1) x (fnB ps.length N.length fb) :=
  fnC_ofK T S hb fun f cdv _ _ => hbody f cdv
section
variable {X : Cx} {et : ET} {W : WX}
def mCallF (fn : List DV → MS → Rs MS DV) (fs : Sg → Rs Sg (List DV)) (g : Sg) : Rs Sg DV := (fs g).bind fun ds g1 => match fn ds g1.s with
  | .ok d s => .ok d { g1 with s := s }
  | .ex c p s => .ex c p { g1 with s := s }
  | .no => .no
theorem RepF.after {K : PySem.W.Frag} {et : ET} {am : Addr} {B F : Hp} {g : Sg} {σ : St} {H : Hp} (R : RepF K et am B F g σ H) {F' H' : Hp} {s' : MS} (ex : Ext H F F') (sub : Same F' H') (fam : Fz et am F' H') (fr : ∀ a o, H a = some o → Fre et am a → H' a = some o) (mr : MRel K et am F' H' s') :
    RepF K et am B F' { g with s := s' } σ H' ∧ Ext B F F' := by
  refine ⟨⟨sub, fam, fun a o e na => fr a o (R.base a o e na) na, R.len, fun i x e => ?_, R.inj, mr⟩, ex.1, fun a o e n => (R.bnone (ex.2 a o e n)).1⟩
  obtain ⟨v, e1, e2⟩ := R.slot i x e
  refine ⟨v, e1, e2.keep ex.1 fun a u _ _ fa ba na ha ow => ⟨?_, ba, fr a _ ha (R.fam.fre na ha ow.tbl)⟩⟩
  cases q : F' a with
  | none => rfl
  | some o =>
    have := ex.2 a o q fa
    rw [ha] at this
    cases this
theorem de_call {k j : Nat} {x : Str} {fn : List DV → MS → Rs MS DV} {p pos : Pos} {e : Expr} {es : List Expr} {fs : Sg → Rs Sg (List DV)} (C : Here X k W) (G : FnC X.prog X.w X.K X.mg X.base et j x fn) (hj : j ≤ k) (ha : DA X et W (e :: es) fs)
    (hg : Gl X x := by rfl) (hdb : (x == ("__debug__" : Str)) = false := by decide) (he : starEach (e :: es) X.env = (false, eval e X.env) :: starEach es X.env := by exact star_ok rfl) (hpl : (backTo pos (starEach es X.env)).any (·.1) = false := by exact plain_ok rfl) :
    DE X et W (.Call (.Name x p) (e :: es) [] pos) (mCallF fn fs) := fun am B F g σ H Q R hq => by
  refine ⟨fun pins s I => ?_⟩
  obtain ⟨f, fd, ps, hlen, hm, kp, hb, G⟩ := G.ex
  refine wpAny_Call_Name_kw (ld_glob I hg hm ?_ hdb)
  refine PySem.W.callWith_K (h₀ := X.base) I.ok.mod.kin kp (thn ((ha.then (goodV (Q := Q)) R hq (Q := fun vs H1 => spD X.K et ps.length fn vs H1 Q (WE W σ)) (fun ds g1 vs F1 H1 ex1 R1 dn1 hq1 => ?_)).run pos pins s I) fun us s1 ⟨vs, H1, I1, r, q⟩ => ⟨I1.kIn, ?_⟩) he hpl
  · by_cases hl : ds.length = ps.length
    · refine ⟨am, F1, ds, g1.s, by rw [dn1.length]; exact hl, R1.sub, R1.fam, R1.ms, dn1, ?_⟩
      cases q : fn ds g1.s with
      | no => simp only [q] at hq1; exact hq1.elim
      | ok d s' =>
        simp only [q] at hq1
        intro v F' H' ex sub fam fr mr dn
        obtain ⟨R', ex'⟩ := R1.after ex sub fam fr mr
        exact hq1 v F' H' ex' R' dn
      | ex c p s' =>
        simp only [q] at hq1
        intro cls dx F' H' ex sub fam fr mr r
        obtain ⟨R', ex'⟩ := R1.after ex sub fam fr mr
        exact hq1 cls dx F' H' ex' R' r
    · rw [hlen ds g1.s hl] at hq1
      exact hq1.elim
  · have hl : us.length = ps.length := by rw [← r.length]; exact G.len _ _ _ _ q
    have b := hb s1 us I1.kIn (by rw [List.append_nil]; exact hl)
    rw [List.append_nil] at b
    refine wpAny_call (codeAny_mono (G.run X.A X.stack s1 H1 ⟨us, []⟩ us vs Q (WE W σ) (C.hr.mono hj) C.hg I1.env0 b r q) fun rr s' hq => ?_)
    cases rr with
    | error e => exact passAt C.tk σ pins H1 s1 e s' I1 hq
    | ok fl =>
      cases fl with
      | ret u => exact I1.after hq
      | next => exact hq.elim
      | brk => exact hq.elim
      | cont => exact hq.elim
end
end DL
set_option Elab.async false
set_option linter.all false
set_option maxRecDepth 100000
set_option maxHeartbeats 4000000
set_option autoImplicit false
namespace PySem
open Sem (wp)
end PySem
namespace L2
open PySem PySem.Spec PyProof.Rows
def SqX (b : Bool) (K : PySem.W.Frag) (H : Hp) (a : Addr) (xs : List V) : Prop := if b = true then SqT K H a xs else SqL K H a xs
def ItX (b : Bool) (h : Heap) (it a : Addr) (i : Nat) : Prop := if b = true then h.IsTupleIter it a i else h.IsListIter it a i
def HasX (b : Bool) (h : Heap) (a : Addr) (its : Array Value) : Prop := if b = true then h.IsTuple a its else h.IsList a its
section
variable {X : Cx} {pins : List (Addr × Obj)} {σ : St} {H : Hp} {s : Shared} {a : Addr} {xs ys : List V} {b : Bool}
theorem Inv.seqX (I : Inv X pins σ H s) (h : SqX b X.K H a xs) : ∃ its : List Value, Vals xs its ∧ HasX b s.heap a its.toArray := by
  cases b with
  | true =>
    obtain ⟨its, r, p, _⟩ := I.tuple (show SqT X.K H a xs from h)
    exact ⟨its, r, p⟩
  | false =>
    obtain ⟨its, r, p, _⟩ := I.list (show SqL X.K H a xs from h)
    exact ⟨its, r, p.isList⟩
theorem ItX.at {h h' : Heap} {it : Addr} {i : Nat} (q : ItX b h it a i) (k : ∀ o, h.get? it = some o → h'.get? it = some o) : ItX b h' it a i := by
  cases b with
  | true => exact Heap.IsTupleIter.at (show h.IsTupleIter it a i from q) k
  | false => exact Heap.IsListIter.at (show h.IsListIter it a i from q) k
def objX (b : Bool) (a : Addr) : Obj := if b = true then { cls := .type "tuple_iterator", data := .fields #[.ref a, .int 0 0] } else { cls := .type "list_iterator", data := .fields #[.ref a, .int 0 0] }
theorem ItX.new {h : Heap} {it : Addr} (e : h.get? it = some (objX b a)) : ItX b h it a 0 := by
  cases b with
  | true => exact ⟨_, e, rfl, rfl⟩
  | false => exact ⟨_, e, rfl, rfl⟩
end
end L2
set_option Elab.async false
set_option linter.all false
set_option maxRecDepth 100000
set_option maxHeartbeats 4000000
set_option autoImplicit false
namespace DL
open PySem PySem.Spec L2
open PyProof.Rows hiding St
def ItkN (hs : NestedKey → Int) (d : Addr) (o : Obj) (es : List (NestedKey × Addr × V)) : It :=
  ⟨fun i H => H d = some (.frz o (NDo hs d es)) ∧ i < es.length, fun i H x H' => H' = H ∧ ∃ (n : NestedKey) (b : Addr) (v : V), es[i]? = some (n, b, v) ∧ x = .ref b, fun i H => H d = some (.frz o (NDo hs d es)) ∧ es.length ≤ i⟩
section
variable {P : Program} {w : World} {K : PySem.W.Frag} {tg : Expr} {d : Addr} {o : Obj} {ds : Array DictEntry} {ep : Nat}
theorem turn_keysN {hs : NestedKey → Int} {es : List (NestedKey × Addr × V)} (it : Addr) (hod : o.data = .dict ds ep) : Turn P w K tg (ItkN hs d o es) [it] it (fun i h => h.IsKeyIter it d i es.length ep) where
  mem := by simp
  obj := fun i h st b hb => by
    have e : b = it := by simpa using hb
    subst e
    obtain ⟨oi, e, c, dd⟩ := st
    exact ⟨oi, e, fun v z => by rw [dd] at z; cases z⟩
  keep := fun i h h' st k => st.at fun oi e => k it (by simp) oi e
  item := by
    intro X hP hw hK hc i pins s σ H E I hf st hg
    subst hP hw hK
    obtain ⟨hd, hi⟩ := hg
    obtain ⟨f0, f1, f2, f3, f4, f5⟩ := hf it (by simp)
    obtain ⟨hs', hgd, hx, es', ep', hdt, hsz, _, ent⟩ := DL.Inv.frzN I hd
    obtain ⟨rfl, rfl⟩ := dict_ep hod hdt
    obtain ⟨⟨n, b, v⟩, hkv⟩ : ∃ p, es[i]? = some p := ⟨es[i], List.getElem?_eq_getElem hi⟩
    obtain ⟨en, hen, hkey, _⟩ := ent i n b v hkv
    refine next_key_item st hgd hdt hsz hen fun h' st' sb => ?_
    have I1 : Inv X pins σ H { s with heap := h' } := I.turned (t' := s.toks) (fun b ob hb e => (sb.2 b hb).trans e) f0 f1 f3 f4 f5
    obtain ⟨oi, e, c, dd⟩ := id st'
    exact ⟨en.key, rfl, go_of (s := { s with heap := h' }) e c dd (by decide) ⟨.ref b, H, I1, hkey, ⟨rfl, n, b, v, hkv, rfl⟩, st', fun b hb => (hf b hb).1⟩⟩
  done := by
    intro X hP hw hK hc i pins s σ H E I hf st hg
    subst hP hw hK
    obtain ⟨hd, hi⟩ := hg
    obtain ⟨f0, f1, f2, f3, f4, f5⟩ := hf it (by simp)
    obtain ⟨hs', hgd, hx, es', ep', hdt, hsz, _, ent⟩ := DL.Inv.frzN I hd
    obtain ⟨rfl, rfl⟩ := dict_ep hod hdt
    exact next_key_end (I.ok.hd hc) st hgd hdt hsz hi fun h' eb => ⟨rfl, I.turned (t' := s.toks) (fun b ob hb e => eb b ob hb e) f0 f1 f3 f4 f5⟩
  self := fun A i s Q E st h => by
    refine wpAny_pyIter_slot st.typeIs F.slot_dict_keyiterator_iter (wpAny_call_entry F.slot_dict_keyiterator_iter st.typeIs F.entry_dict_keyiterator_iter ?_ (F.args_dict_keyiterator_iter_1 _))
    show wpAny _ _ (ret (.ref it)) _ _ s
    exact wpAny_pure ⟨_, rfl, "dict_keyiterator", _, st.typeIs, F.slot_dict_keyiterator_next.lookup, h⟩
end
theorem iter_keysN {X : Cx} {tg : Expr} {pins : List (Addr × Obj)} {s : Shared} {σ : L2.St} {H : Hp} {R : It → Hp → Prop} {hs : NestedKey → Int} {d : Addr} {o : Obj} {es : List (NestedKey × Addr × V)} (I : Inv X pins σ H s) (hd : H d = some (.frz o (NDo hs d es))) (q : R (ItkN hs d o es) H) :
    wpAny (model X.prog X.w) X.A (pyIter (.ref d)) (PIE X pins σ tg R) X.xe s := by
  obtain ⟨hs', hgd, hx, ds, ep, hdt, hsz, _, ent⟩ := DL.Inv.frzN I hd
  refine iter_keys hs' hgd hx hdt (pi_one (tk := s.toks) I _ (turn_keysN _ hdt) ⟨_, Heap.get?_push_size _ rfl, rfl, ?_⟩ q)
  rw [hsz]; rfl
end DL
set_option Elab.async false
set_option linter.all false
set_option maxRecDepth 100000
set_option maxHeartbeats 4000000
set_option autoImplicit false
namespace DL
open PySem PySem.Spec L2
open PyProof.Rows hiding St
structure WalkD (K : PySem.W.Frag) (et : ET) (F : Hp) (J : It) (ds : List PyData) : Prop where
  go : ∀ i H, Same F H → i < ds.length → J.go i H
  yld : ∀ i H x H', Same F H → i < ds.length → J.yld i H x H' → ∃ d, ds[i]? = some d ∧ ((H' = H ∧ Dn K et F x d) ∨ ∃ p vs es, H p = none ∧ H' = upd H p (.tup vs) ∧ x = .ref p ∧ d = .tuple es ∧ DnAll K et F vs es)
  stop : ∀ H, Same F H → J.stop ds.length H
structure wI (X : Cx) (tg iter : Expr) (σ : St) (H : Hp) (R : It → Hp → Prop) : Prop where
  run : ∀ (pins : List (Addr × Obj)) (s : Shared), Inv X pins σ H s →
  wpAny (model X.prog X.w) X.A (eval iter X.env) (fun v s1 => wpAny (model X.prog X.w) X.A (pyIter v) (PIE X pins σ tg R) X.xe s1) X.xe s
theorem pi_w {X : Cx} {tg iter : Expr} : PI X tg iter (wI X tg iter) := ⟨fun pins s _ _ _ I h => h.run pins s I⟩
def DI (X : Cx) (et : ET) (W : WX) (tg iter : Expr) (f : Sg → Rs Sg (List PyData)) : Prop :=
  ∀ (β : Type) (am : Addr) (B F : Hp) (g : Sg) (σ : St) (H : Hp) (O : Hp → Rs Sg β → Prop) (k : List PyData → Sg → Rs Sg β) (R : It → Hp → Prop), Good X.K et W am B σ O → RepF X.K et am B F g σ H → O F ((f g).bind k) →
    (∀ ds g' F' H' J, Ext B F F' → RepF X.K et am B F' g' σ H' → WalkD X.K et F' J ds → O F' (k ds g') → R J H') → wI X tg iter σ H R
structure wG (X : Cx) (tg : Expr) (v : V) (σ : St) (H : Hp) (Q : St → Hp → Prop) : Prop where
  run : ∀ (pins : List (Addr × Obj)) (s : Shared) (u : Value), Inv X pins σ H s → RelV v u →
  wpAny (model X.prog X.w) X.A (assign tg X.env u) (fun _ s' => ∃ σ' H', Inv X pins σ' H' s' ∧ Q σ' H') X.xe s
theorem pg_w {X : Cx} {tg : Expr} : PG X tg (wG X tg) := ⟨fun pins s _ _ _ u _ I r h => h.run pins s u I r⟩
theorem wg_of {X : Cx} {tg : Expr} {t : TG} (h : PG X tg t) {v : V} {σ : St} {H : Hp} {Q : St → Hp → Prop} (q : t v σ H Q) : wG X tg v σ H Q := ⟨fun pins s u I r => h.run pins s σ H v u Q I r q⟩
/-- outside of the slots is nothing changed -/
def Off (is : List Nat) (σ σ' : St) : Prop := σ'.length = σ.length ∧ ∀ j, j ∉ is → σ'[j]? = σ[j]?
theorem Off.refl {is : List Nat} {σ : St} : Off is σ σ := ⟨rfl, fun _ _ => rfl⟩
theorem Off.trans {is : List Nat} {σ σ1 σ2 : St} (a : Off is σ σ1) (b : Off is σ1 σ2) : Off is σ σ2 := ⟨b.1.trans a.1, fun j h => (b.2 j h).trans (a.2 j h)⟩
def DG (X : Cx) (is : List Nat) (tg : Expr) (t : PyData → Sg → Option Sg) : Prop :=
  ∀ (et : ET) am B F g σ H v d g' Q, RepF X.K et am B F g σ H → Dn X.K et F v d → t d g = some g' → (∀ σ', Off is σ σ' → RepF X.K et am B F g' σ' H → Q σ' H) → wG X tg v σ H Q
section
variable {X : Cx} {et : ET} {W : WX}
def gtName (i : Nat) (d : PyData) (g : Sg) : Option Sg := some (g.put i (.pu d))
theorem dg_name {i : Nat} {is : List Nat} {x : Str} {pos : Pos} (hN : X.N.Nodup) (hm : i ∈ is := by decide) (hi : X.N[i]? = some x := by rfl) (hx : Loc X.env.scope x := by first | exact Or.inl rfl | exact Or.inr rfl)
    (hf : X.fn x = true ∨ X.env.scope.names.lookup x = some .local := by first | exact .inl rfl | exact .inr rfl | assumption) : DG X is (.Name x pos) (gtName i) := fun et am B F g σ H v d g' Q R dn e nx => by
  cases e
  refine wg_of (pg_name hN hi hx hf) (nx _ ⟨List.length_set, fun j hj => ?_⟩ (R.put i dn))
  exact List.getElem?_set_ne fun z => hj (by rw [← z]; exact hm)
/-- several targets -/
structure wGs (X : Cx) (ts : List Expr) (vs : List V) (σ : St) (H : Hp) (Q : St → Hp → Prop) : Prop where
  run : ∀ (pins : List (Addr × Obj)) (s : Shared) (us : List Value), Inv X pins σ H s → Vals vs us →
  wpAny (model X.prog X.w) X.A (assignInOrder ((assignEach ts X.env).map (·.2)) us) (fun _ s' => ∃ σ' H', Inv X pins σ' H' s' ∧ Q σ' H') X.xe s
theorem pgs_w {ts : List Expr} : PGs X ts (wGs X ts) := ⟨fun pins s _ _ _ us _ I r h => h.run pins s us I r⟩
theorem wgs_of {ts : List Expr} {t : TGs} (h : PGs X ts t) {vs : List V} {σ : St} {H : Hp} {Q : St → Hp → Prop} (q : t vs σ H Q) : wGs X ts vs σ H Q := ⟨fun pins s us I r => h.run pins s σ H vs us Q I r q⟩
def DGs (X : Cx) (is : List Nat) (ts : List Expr) (t : List PyData → Sg → Option Sg) : Prop :=
  ∀ (et : ET) am B F g σ H vs ds g' Q, RepF X.K et am B F g σ H → DnAll X.K et F vs ds → t ds g = some g' → (∀ σ', Off is σ σ' → RepF X.K et am B F g' σ' H → Q σ' H) → wGs X ts vs σ H Q
def gtNil : List PyData → Sg → Option Sg
  | [], g => some g
  | _, _ => none
def gtCons (t : PyData → Sg → Option Sg) (r : List PyData → Sg → Option Sg) : List PyData → Sg → Option Sg
  | d :: ds, g => (t d g).bind fun g1 => r ds g1
  | [], _ => none
theorem dgs_nil {is : List Nat} : DGs X is [] gtNil := fun et am B F g σ H vs ds g' Q R dn e nx => by
  cases dn with
  | nil =>
    cases e
    exact wgs_of pgs_nil ⟨rfl, nx σ Off.refl R⟩
  | cons _ _ => cases e
theorem dgs_cons {is : List Nat} {e : Expr} {es : List Expr} {t : PyData → Sg → Option Sg} {r : List PyData → Sg → Option Sg} (h1 : DG X is e t) (h2 : DGs X is es r)
    (hs : (assignEach (e :: es) X.env).map (·.2) = assign e X.env :: (assignEach es X.env).map (·.2) := by rfl) : DGs X is (e :: es) (gtCons t r) := fun et am B F g σ H vs ds g' Q R dn eq nx => by
  cases dn with
  | nil => cases eq
  | @cons v vs d ds h1' h2' =>
    have eq : (t d g).bind (fun g1 => r ds g1) = some g' := eq
    cases q : t d g with
    | none => rw [q] at eq; cases eq
    | some g1 =>
      rw [q, Option.bind_some] at eq
      refine wgs_of (pgs_cons pg_w pgs_w hs) ⟨v, vs, rfl, h1 et am B F g σ H v d g1 _ R h1' q fun σ1 o1 R1 => h2 et am B F g1 σ1 H vs ds g' Q R1 h2' eq fun σ2 o2 R2 => nx σ2 (o1.trans o2) R2⟩
def gtTup (n : Nat) (t : List PyData → Sg → Option Sg) : PyData → Sg → Option Sg
  | .tuple ds, g => if ds.length = n then t ds g else none
  | _, _ => none
theorem dg_tup {is : List Nat} {es : List Expr} {k n : Nat} {pos : Pos} {t : List PyData → Sg → Option Sg} (h : DGs X is es t) (hc : X.calm = true := by rfl) (hn : (assignEach es X.env).length = n := by rfl) (hst : (assignEach es X.env).findIdx? (·.1) = none := by rfl) : DG X is (.Tuple es k pos) (gtTup n t) := fun et am B F g σ H v d g' Q R dn e nx => by
  unfold gtTup at e
  split at e
  · rename_i ds
    split at e
    · rename_i hl
      cases dn with
      | tup sx dx => exact wg_of (pg_tup hc pgs_w hn hst) ⟨_, _, rfl, SqT.mono R.sub sx, by rw [dx.length]; exact hl, h et am B F g σ H _ ds g' Q R dx e nx⟩
    · cases e
  · cases e
def mForL (t : PyData → Sg → Option Sg) (body : Sg → Rs Sg Fl) : List PyData → Sg → Rs Sg Fl
  | [], g => .ok .nx g
  | d :: ds, g => match t d g with
    | none => .no
    | some g1 => match body g1 with
      | .ok .nx g2 => mForL t body ds g2
      | .ok .ct g2 => mForL t body ds g2
      | .ok .bk g2 => .ok .nx g2
      | .ok (.rt d) g2 => .ok (.rt d) g2
      | .ex c p g2 => .ex c p g2
      | .no => .no
def mFor (fi : Sg → Rs Sg (List PyData)) (t : PyData → Sg → Option Sg) (body : Sg → Rs Sg Fl) (g : Sg) : Rs Sg Fl := (fi g).bind fun ds g1 => mForL t body ds g1
/-- what the walk yields, held -/
theorem WalkD.take {K : PySem.W.Frag} {et : ET} {am : Addr} {B F F0 : Hp} {g : Sg} {σ : St} {H H' : Hp} {J : It} {ds : List PyData} {i : Nat} {x : V} (w : WalkD K et F0 J ds) (s0 : Same F0 F) (R : RepF K et am B F g σ H) (hi : i < ds.length) (y : J.yld i H x H') :
    ∃ d F', ds[i]? = some d ∧ Ext B F F' ∧ RepF K et am B F' g σ H' ∧ Dn K et F' x d := by
  obtain ⟨d, e, z⟩ := w.yld i H x H' (Same.tr s0 R.sub) hi y
  rcases z with ⟨rfl, dn⟩ | ⟨p, vs, es, hp, rfl, rfl, rfl, dn⟩
  · exact ⟨d, F, e, Ext.refl, R, dn.up s0⟩
  · obtain ⟨R', ex⟩ := R.alloc hp (.tup vs)
    exact ⟨_, _, e, ex, R', .tup (SqT.of upd_same) (dn.up (Same.tr s0 ex.1))⟩
theorem ds_for {k : Nat} {tg iter : Expr} {body : List Stmt} {pos : Pos} {is : List Nat} {fi : Sg → Rs Sg (List PyData)} {t : PyData → Sg → Option Sg} {fb : Sg → Rs Sg Fl} (C : Here X k W) (hi : DI X et W tg iter fi) (hg : DG X is tg t) (hb : DSs X et W body fb)
    (hc : X.calm = true := by rfl) (hs : ∀ x, foldedSetIterable iter X.env x = pure x := by intro _; rfl) : DS X et W (.For tg iter body [] pos) (mFor fi t fb) := fun am B F g σ H D R hq => by
  refine ws_of (ps_for C.hp hc pi_w pg_w pss_w hs) (hi _ am B F g σ H _ _ _ (goodF (D := D)) R hq fun ds g1 F1 H1 J ex1 R1 wd hq1 => ?_)
  refine ⟨fun i m σ' H' => m = ds.length - i ∧ i ≤ ds.length ∧ ∃ g' F', Ext B F1 F' ∧ RepF X.K et am B F' g' σ' H' ∧ OkF X.K et W am B F' D (mForL t fb (ds.drop i) g'),
    ⟨ds.length, rfl, Nat.zero_le _, g1, F1, Ext.refl, R1, hq1⟩, ?_⟩
  rintro i m σ' H' ⟨rfl, hle, g', F', ex', R', ok⟩
  by_cases hlt : i < ds.length
  · refine .inr ⟨wd.go i H' (Same.tr ex'.1 R'.sub) hlt, fun σ2 H2 => ∃ g2 F2, Ext B F1 F2 ∧ RepF X.K et am B F2 g2 σ2 H2 ∧ OkF X.K et W am B F2 D (mForL t fb (ds.drop (i + 1)) g2), fun σ2 H2 ⟨g2, F2, e2, R2, o2⟩ => ⟨ds.length - (i + 1), by omega, rfl, hlt, g2, F2, e2, R2, o2⟩, fun x H2 y => ?_⟩
    obtain ⟨d, F2, ed, ex2, R2, dn2⟩ := wd.take ex'.1 R' hlt y
    have edrop : ds.drop i = d :: ds.drop (i + 1) := by
      rw [List.drop_eq_getElem_cons hlt]
      have := (List.getElem?_eq_some_iff.mp ed).2
      rw [this]
    rw [edrop] at ok
    have ok := (goodF (σ := σ') (D := D)).weak F' F2 _ ex2 ok
    unfold mForL at ok
    cases qt : t d g' with
    | none => simp only [qt] at ok; exact ok.elim
    | some g3 =>
      simp only [qt] at ok
      refine hg et am B F2 g' σ' H2 x d g3 _ R2 dn2 qt fun σ3 _ R3 => hb am B F2 g3 σ3 H2 _ R3 ?_
      cases qb : fb g3 with
      | no => simp only [qb] at ok; exact ok.elim
      | ex c p g4 => simp only [qb] at ok; exact ok
      | ok fl g4 =>
        simp only [qb] at ok
        cases fl with
        | nx => exact fun σ4 F4 H4 ex4 R4 => ⟨g4, F4, ex'.trans (ex2.trans ex4), R4, (goodF (σ := σ') (D := D)).weak F2 F4 _ ex4 ok⟩
        | ct => exact fun σ4 F4 H4 ex4 R4 => ⟨g4, F4, ex'.trans (ex2.trans ex4), R4, (goodF (σ := σ') (D := D)).weak F2 F4 _ ex4 ok⟩
        | bk => exact fun σ4 F4 H4 ex4 R4 => ok σ4 F4 H4 ex4 R4
        | rt d => exact fun v σ4 F4 H4 ex4 R4 dn4 => ok v σ4 F4 H4 ex4 R4 dn4
  · have e : i = ds.length := by omega
    subst e
    rw [List.drop_length] at ok
    exact .inl ⟨wd.stop H' (Same.tr ex'.1 R'.sub), ok σ' F' H' Ext.refl R'⟩
def seqOf : DV → Option (List PyData)
  | .pu (.list xs) => some xs
  | .pu (.tuple xs) => some xs
  | .scr ns => some (ns.map .int)
  | _ => none
def mSeqI (f : Sg → Rs Sg DV) (g : Sg) : Rs Sg (List PyData) := (f g).bind fun x g1 => match x with
  | .pu (.dict _) => .no
  | y => Rs.of (seqOf y) g1
theorem rs_assoc {S α β γ : Type} (x : Rs S α) (f : α → S → Rs S β) (h : β → S → Rs S γ) : (x.bind f).bind h = x.bind fun a s => (f a s).bind h := by cases x <;> rfl
/-- a list or a tuple, as it is seen -/
theorem DenP.seqX {K : PySem.W.Frag} {et : ET} {am : Addr} {F : Hp} {v : V} {x : DV} {ds : List PyData} (h : DenP K et am F v x) (e : seqOf x = some ds) : ∃ b a vs, v = .ref a ∧ SqX b K F a vs ∧ DnAll K et F vs ds := by
  unfold seqOf at e
  split at e
  · cases e
    have h : Dn K et F v (.list _) := h
    cases h with
    | lst sx dx => exact ⟨false, _, _, rfl, SqL.of sx, dx⟩
  · cases e
    have h : Dn K et F v (.tuple _) := h
    cases h with
    | tup sx dx => exact ⟨true, _, _, rfl, sx, dx⟩
  · cases e
    obtain ⟨a, ea, sq⟩ := h
    exact ⟨false, a, _, ea, sq, DnAll.ofInts _⟩
  · cases e
theorem SqX.mono {b : Bool} {K : PySem.W.Frag} {F H : Hp} {a : Addr} {xs : List V} (s : Same F H) (h : SqX b K F a xs) : SqX b K H a xs := by
  cases b with
  | true => exact SqT.mono s h
  | false => exact SqL.mono s h
def ItS (b : Bool) (K : PySem.W.Frag) (a : Addr) : It := if b = true then Itt K a else Itl K a
theorem walk_seq {b : Bool} {K : PySem.W.Frag} {F : Hp} {a : Addr} {vs : List V} {ds : List PyData} (sq : SqX b K F a vs) (dn : DnAll K et F vs ds) : WalkD K et F (ItS b K a) ds := by
  have get : ∀ {i : Nat}, i < ds.length → ∃ x d, vs[i]? = some x ∧ ds[i]? = some d ∧ Dn K et F x d := fun {i} hi => by
    obtain ⟨x, e1, e2⟩ := dn.get (i := i) (d := ds[i]) (by simp [hi])
    exact ⟨x, _, e1, by simp [hi], e2⟩
  cases b with
  | true =>
    refine ⟨fun i H s hi => ?_, fun i H x H' s hi y => ?_, fun H s => ?_⟩
    · obtain ⟨x, d, e1, _⟩ := get hi
      exact ⟨vs, x, SqT.mono s sq, e1⟩
    · obtain ⟨x', d, e1, e2, e3⟩ := get hi
      have y : H' = H ∧ ∀ xs, SqT K H a xs → xs[i]? = some x := y
      have := y.2 vs (SqT.mono s sq)
      rw [e1] at this
      cases this
      exact ⟨d, e2, .inl ⟨y.1, e3⟩⟩
    · exact ⟨vs, SqT.mono s sq, by rw [dn.length]; exact Nat.le_refl _⟩
  | false =>
    refine ⟨fun i H s hi => ?_, fun i H x H' s hi y => ?_, fun H s => ?_⟩
    · obtain ⟨x, d, e1, _⟩ := get hi
      exact ⟨vs, x, SqL.mono s sq, e1⟩
    · obtain ⟨x', d, e1, e2, e3⟩ := get hi
      have y : H' = H ∧ ∀ xs, SqL K H a xs → xs[i]? = some x := y
      have := y.2 vs (SqL.mono s sq)
      rw [e1] at this
      cases this
      exact ⟨d, e2, .inl ⟨y.1, e3⟩⟩
    · exact ⟨vs, SqL.mono s sq, by rw [dn.length]; exact Nat.le_refl _⟩
theorem iter_seq {b : Bool} {tg : Expr} {pins : List (Addr × Obj)} {s : Shared} {σ : St} {H : Hp} {R : It → Hp → Prop} {a : Addr} {vs : List V} (I : Inv X pins σ H s) (sq : SqX b X.K H a vs) (q : R (ItS b X.K a) H) :
    wpAny (model X.prog X.w) X.A (pyIter (.ref a)) (PIE X pins σ tg R) X.xe s := by
  have fp : ∀ c ∈ [s.heap.objs.size], FpOk X pins H c := fun c hc => by
    have e : c = s.heap.objs.size := by simpa using hc
    subst e
    exact I.fpOk (Nat.le_refl _) (I.hok.fresh (Nat.le_refl _))
  cases b with
  | true =>
    obtain ⟨its, rv, p, hz⟩ := I.tuple (show SqT X.K H a vs from sq)
    refine wpAny_pyIter_tuple (show s.heap.IsTuple a its.toArray from p) ?_
    exact ⟨s.heap.objs.size, [s.heap.objs.size], _, _, H, rfl, I.kept (t' := s.toks) fun b o e => Heap.get?_push_of_some _ e,
      turn_tuple a _, ⟨_, Heap.get?_push_size _ rfl, rfl, rfl⟩, fp, q⟩
  | false =>
    obtain ⟨its, rv, p, hz⟩ := I.list (show SqL X.K H a vs from sq)
    refine wpAny_pyIter_list p.isList ?_
    exact ⟨s.heap.objs.size, [s.heap.objs.size], _, _, H, rfl, I.kept (t' := s.toks) fun b o e => Heap.get?_push_of_some _ e,
      turn_list a _, ⟨_, Heap.get?_push_size _ rfl, rfl, rfl⟩, fp, q⟩
theorem DnKv.get {K : PySem.W.Frag} {F : Hp} : ∀ {es : List (NestedKey × Addr × V)} {kvs : List (PyData × PyData)} {i : Nat} {k d : PyData}, DnKv K et F es kvs → kvs[i]? = some (k, d) → ∃ n b v, es[i]? = some (n, b, v) ∧ keyN k = some n ∧ Dn K et F (.ref b) k ∧ Dn K et F v d
  | _, _, _, _, _, .nil, e => by simp at e
  | _, _, 0, _, _, .cons a _ b c _, e => by
    simp only [List.getElem?_cons_zero, Option.some.injEq, Prod.mk.injEq] at e
    obtain ⟨rfl, rfl⟩ := e
    exact ⟨_, _, _, rfl, a, b, c⟩
  | _, _, i + 1, k, d, .cons _ _ _ _ r, e => by
    obtain ⟨n, b, v, h1, h2⟩ := DnKv.get (i := i) (k := k) (d := d) r (by simpa using e)
    exact ⟨n, b, v, by simpa using h1, h2⟩
theorem DnKk.get {K : PySem.W.Frag} {F : Hp} : ∀ {es : List (Key × V)} {kvs : List (PyData × PyData)} {i : Nat} {k d : PyData}, DnKk K et F es kvs → kvs[i]? = some (k, d) → ∃ n v, es[i]? = some (n, v) ∧ Dn K et F (kV n) k ∧ Dn K et F v d
  | _, _, _, _, _, .nil, e => by simp at e
  | _, _, 0, _, _, .int _ c _, e => by
    simp only [List.getElem?_cons_zero, Option.some.injEq, Prod.mk.injEq] at e
    obtain ⟨rfl, rfl⟩ := e
    exact ⟨_, _, rfl, .int _, c⟩
  | _, _, 0, _, _, .str c _, e => by
    simp only [List.getElem?_cons_zero, Option.some.injEq, Prod.mk.injEq] at e
    obtain ⟨rfl, rfl⟩ := e
    exact ⟨_, _, rfl, .str _, c⟩
  | _, _, i + 1, k, d, .int _ _ r, e => by
    obtain ⟨n, v, h1, h2⟩ := DnKk.get (i := i) (k := k) (d := d) r (by simpa using e)
    exact ⟨n, v, by simpa using h1, h2⟩
  | _, _, i + 1, k, d, .str _ r, e => by
    obtain ⟨n, v, h1, h2⟩ := DnKk.get (i := i) (k := k) (d := d) r (by simpa using e)
    exact ⟨n, v, by simpa using h1, h2⟩
theorem DnKk.length {K : PySem.W.Frag} {F : Hp} : ∀ {es : List (Key × V)} {kvs : List (PyData × PyData)}, DnKk K et F es kvs → es.length = kvs.length
  | _, _, .nil => rfl
  | _, _, .int _ _ r => congrArg (· + 1) (DnKk.length r)
  | _, _, .str _ r => congrArg (· + 1) (DnKk.length r)
theorem iter_keysK {tg : Expr} {pins : List (Addr × Obj)} {s : Shared} {σ : L2.St} {H : Hp} {R : It → Hp → Prop} {d : Addr} {o : Obj} {es : List (Key × V)} (I : Inv X pins σ H s) (hd : H d = some (.frz o (.dK es))) (q : R (Itk d o es) H) :
    wpAny (model X.prog X.w) X.A (pyIter (.ref d)) (PIE X pins σ tg R) X.xe s := by
  obtain ⟨hs, hgd, hx, es', ep, vs, hdt, hsz, kv, hm⟩ := I.frzK hd
  refine iter_keys hs hgd hx hdt (pi_one (tk := s.toks) I _ (turn_keys _ hdt) ⟨_, Heap.get?_push_size _ rfl, rfl, ?_⟩ q)
  rw [hsz] <;> rfl
theorem di_seq {tg e : Expr} {f : Sg → Rs Sg DV} (h : DE X et W e f) : DI X et W tg e (mSeqI f) := fun β am B F g σ H O k R G Rp hq nx => by
  refine ⟨fun pins s I => ?_⟩
  unfold mSeqI at hq
  rw [rs_assoc] at hq
  refine thn ((h.then G Rp hq (Q := fun v H1 => ∃ a, v = .ref a ∧ ((∃ b vs, SqX b X.K H1 a vs ∧ R (ItS b X.K a) H1) ∨ (∃ o es, H1 a = some (.frz o (NDo et.hs a es)) ∧ R (ItkN et.hs a o es) H1) ∨ (∃ o es, H1 a = some (.frz o (.dK es)) ∧ R (Itk a o es) H1))) (fun d g1 v F1 H1 ex1 R1 dn1 hq1 => ?_)).run pins s I) fun u s1 ⟨x, H1, I1, r1, a, e, q⟩ => ?_
  · split at hq1
    · exact (G.no _ hq1).elim
    · cases q : seqOf d with
      | none => rw [q] at hq1; exact (G.no _ hq1).elim
      | some ds =>
        rw [q] at hq1
        obtain ⟨b, a, vs, ev, sq, dn⟩ := dn1.seqX q
        exact ⟨a, ev, .inl ⟨b, vs, SqX.mono R1.sub sq, nx ds g1 F1 H1 _ ex1 R1 (walk_seq sq dn) hq1⟩⟩
  · subst e
    cases r1
    rcases q with ⟨b, vs, sq, q⟩ | ⟨o, es, hd, q⟩ | ⟨o, es, hd, q⟩
    · exact iter_seq I1 sq q
    · exact iter_keysN I1 hd q
    · exact iter_keysK I1 hd q
def okRng (j : Int) : Bool := decide (j.natAbs < 2 ^ 62)
def rangeD (lo : Int) (n : Nat) : List PyData := (List.range n).map fun i => .int (lo + (i : Nat))
theorem walk_range {K : PySem.W.Frag} {F : Hp} (lo : Int) (n : Nat) : WalkD K et F (Itr lo n) (rangeD lo n) := by
  have hl : (rangeD lo n).length = n := by unfold rangeD; simp
  refine ⟨fun i H s hi => by rw [hl] at hi; exact hi, fun i H x H' s hi y => ?_, fun H s => by rw [hl]; exact Nat.le_refl n⟩
  obtain ⟨e, ex⟩ := (show H' = H ∧ x = .int (lo + i) from y)
  refine ⟨.int (lo + (i : Nat)), ?_, .inl ⟨e, by rw [ex]; exact .int _⟩⟩
  rw [hl] at hi
  unfold rangeD
  simp [hi]
def rng1 : List DV → Option (Int × Nat)
  | [.pu (.int j)] => if okRng j then some (0, j.toNat) else none
  | _ => none
def mRange1 (fs : Sg → Rs Sg (List DV)) (g : Sg) : Rs Sg (List PyData) := (fs g).bind fun ds g1 => Rs.of ((rng1 ds).map fun r => rangeD r.1 r.2) g1
theorem di_range1 {tg a : Expr} {p pos : Pos} {fs : Sg → Rs Sg (List DV)} (hm : X.mg "range" = none) (h : DA X et W [a] fs) (hg : Gl X "range" := by rfl) (hs : starEach [a] X.env = [(false, eval a X.env)] := by exact star1_ok rfl) :
    DI X et W tg (.Call (.Name "range" p) [a] [] pos) (mRange1 fs) := fun β am B F g σ H O k R G Rp hq nx => by
  refine ⟨fun pins s I => ?_⟩
  unfold mRange1 at hq
  rw [rs_assoc] at hq
  refine (pi_range1 hg hm pa_w hs).run pins s σ H R I (h.then G Rp hq fun ds g1 vs F1 H1 ex1 R1 dn1 hq1 => ?_)
  cases q : rng1 ds with
  | none => rw [q] at hq1; exact (G.no _ hq1).elim
  | some r =>
    rw [q] at hq1
    unfold rng1 at q
    split at q
    · rename_i j
      split at q
      · rename_i hz
        cases q
        unfold okRng at hz
        simp only [Bool.and_eq_true, decide_eq_true_eq] at hz
        obtain ⟨v, rfl, d1⟩ := dn1.one
        rw [Dn.int_of d1]
        exact ⟨j, rfl, by omega, by omega, nx _ g1 F1 H1 _ ex1 R1 (walk_range 0 j.toNat) hq1⟩
      · cases q
    · cases q
def rng2 : List DV → Option (Int × Nat)
  | [.pu (.int i), .pu (.int j)] => if okRng i && okRng j then some (i, (j - i).toNat) else none
  | _ => none
def mRange2 (fs : Sg → Rs Sg (List DV)) (g : Sg) : Rs Sg (List PyData) := (fs g).bind fun ds g1 => Rs.of ((rng2 ds).map fun r => rangeD r.1 r.2) g1
def enumFrom (k : Nat) : List PyData → List PyData
  | [] => []
  | d :: r => .tuple [.int (k : Nat), d] :: enumFrom (k + 1) r
def mEnum (fs : Sg → Rs Sg DV) (g : Sg) : Rs Sg (List PyData) := (fs g).bind fun x g1 => Rs.of ((seqOf x).map (enumFrom 0)) g1
def zipD (xs ys : List PyData) : List PyData := List.zipWith (fun a b => .tuple [a, b]) xs ys
def zip2 : List DV → Option (List PyData)
  | [x, y] => (seqOf x).bind fun a => (seqOf y).map fun b => zipD a b
  | _ => none
def mZip (fs : Sg → Rs Sg (List DV)) (g : Sg) : Rs Sg (List PyData) := (fs g).bind fun ds g1 => Rs.of (zip2 ds) g1
end
end DL
set_option Elab.async false
set_option linter.all false
set_option maxRecDepth 100000
set_option maxHeartbeats 4000000
set_option autoImplicit false
namespace DL
open PySem PySem.Spec L2
open PyProof.Rows hiding St
def W0 : WX := fun _ _ _ _ => False
def Rs.nox {S α : Type} : Rs S α → Rs S α
  | .ex _ _ _ => .no
  | r => r
def wipeR : List Nat → List (Option DV) → List (Option DV)
  | [], r => r
  | v :: vs, r => (wipeR vs r).set v none
def keepP : Option (Option DV) → Option DV
  | some (some (.pu d)) => some (.pu d)
  | some (some .m) => some .m
  | some (some (.scr ns)) => some (.scr ns)
  | some (some (.clo G)) => some (.clo G)
  | some (some (.exc c p)) => some (.exc c p)
  | _ => none
def restR (r0 : List (Option DV)) : List Nat → List (Option DV) → List (Option DV)
  | [], r => r
  | v :: vs, r => (restR r0 vs r).set v (keepP r0[v]?)
theorem wipeR_length : ∀ (vs : List Nat) (r : List (Option DV)), (wipeR vs r).length = r.length
  | [], _ => rfl
  | v :: vs, r => by unfold wipeR; rw [List.length_set, wipeR_length vs r]
theorem restR_length (r0 : List (Option DV)) : ∀ (vs : List Nat) (r : List (Option DV)), (restR r0 vs r).length = r.length
  | [], _ => rfl
  | v :: vs, r => by unfold restR; rw [List.length_set, restR_length r0 vs r]
theorem wipeR_get {vs : List Nat} {r : List (Option DV)} {i : Nat} {x : DV} (e : (wipeR vs r)[i]? = some (some x)) : r[i]? = some (some x) ∧ i ∉ vs := by
  induction vs with
  | nil => exact ⟨e, by simp⟩
  | cons v vs ih =>
    unfold wipeR at e
    by_cases h : v = i
    · subst h
      by_cases hl : v < (wipeR vs r).length
      · rw [List.getElem?_set_self hl] at e; cases e
      · rw [List.getElem?_eq_none (by rw [List.length_set]; omega)] at e; cases e
    · rw [List.getElem?_set_ne h] at e
      obtain ⟨a, b⟩ := ih e
      exact ⟨a, by simp [b, Ne.symm h]⟩
theorem restR_get {r0 r : List (Option DV)} {vs : List Nat} {i : Nat} {x : DV} (e : (restR r0 vs r)[i]? = some (some x)) : (i ∉ vs ∧ r[i]? = some (some x)) ∨ (r0[i]? = some (some x) ∧ isOwnV x = false) := by
  induction vs with
  | nil => exact .inl ⟨by simp, e⟩
  | cons v vs ih =>
    unfold restR at e
    by_cases h : v = i
    · subst h
      by_cases hl : v < (restR r0 vs r).length
      · rw [List.getElem?_set_self hl] at e
        refine .inr ?_
        have e : keepP r0[v]? = some x := Option.some.inj e
        unfold keepP at e
        split at e
        · rename_i q; cases e; exact ⟨q, rfl⟩
        · rename_i q; cases e; exact ⟨q, rfl⟩
        · rename_i q; cases e; exact ⟨q, rfl⟩
        · rename_i q; cases e; exact ⟨q, rfl⟩
        · rename_i q; cases e; exact ⟨q, rfl⟩
        · cases e
      · rw [List.getElem?_eq_none (by rw [List.length_set]; omega)] at e; cases e
    · rw [List.getElem?_set_ne h] at e
      rcases ih e with ⟨a, b⟩ | z
      · exact .inl ⟨by simp [a, Ne.symm h], b⟩
      · exact .inr z
theorem wipe_at {σ : St} {i : Nat} : ∀ {vs : List Nat}, i ∉ vs → (wipe σ vs)[i]? = σ[i]?
  | [], _ => rfl
  | v :: vs, h => by
    unfold wipe
    rw [List.getElem?_set_ne (fun z => h (by simp [z]))]
    exact wipe_at fun z => h (List.mem_cons_of_mem _ z)
theorem wipe_in {σ : St} {i : Nat} (hl : i < σ.length) : ∀ {vs : List Nat}, i ∈ vs → (wipe σ vs)[i]? = some none
  | [], h => by simp at h
  | v :: vs, h => by
    unfold wipe
    by_cases e : v = i
    · subst e
      rw [List.getElem?_set_self (by rw [wipe_length]; exact hl)]
    · rw [List.getElem?_set_ne e]
      exact wipe_in hl (by
        rcases List.mem_cons.mp h with z | z
        · exact absurd z.symm e
        · exact z)
theorem wipe_off {σ σ2 : St} {is vs : List Nat} (o : Off is (wipe σ vs) σ2) (hs : ∀ i ∈ is, i ∈ vs) : wipe σ2 vs = wipe σ vs := by
  refine List.ext_getElem? fun i => ?_
  have hl : σ2.length = σ.length := by rw [o.1, wipe_length]
  by_cases hi : i ∈ vs
  · by_cases hlt : i < σ.length
    · rw [wipe_in hlt hi, wipe_in (by rw [hl]; exact hlt) hi]
    · rw [List.getElem?_eq_none (by rw [wipe_length]; omega), List.getElem?_eq_none (by rw [wipe_length]; omega)]
  · rw [wipe_at hi, o.2 i (fun z => hi (hs i z))]
def Sg.wipe (g : Sg) (vs : List Nat) : Sg := { g with r := wipeR vs g.r }
theorem RepF.wipe {K : PySem.W.Frag} {et : ET} {am : Addr} {B F : Hp} {g : Sg} {σ : St} {H : Hp} (R : RepF K et am B F g σ H) (vs : List Nat) : RepF K et am B F (g.wipe vs) (L2.wipe σ vs) H := by
  refine ⟨R.sub, R.fam, R.base, by show _ = (wipeR vs g.r).length; rw [wipe_length, wipeR_length]; exact R.len, fun i x e => ?_, fun i j x y a e1 e2 o1 o2 e3 e4 => ?_, R.ms⟩
  · obtain ⟨a, b⟩ := wipeR_get e
    obtain ⟨v, e1, e2⟩ := R.slot i x a
    exact ⟨v, by rw [wipe_at b]; exact e1, e2⟩
  · obtain ⟨a1, b1⟩ := wipeR_get e1
    obtain ⟨a2, b2⟩ := wipeR_get e2
    rw [wipe_at b1] at e3
    rw [wipe_at b2] at e4
    exact R.inj i j x y a a1 a2 o1 o2 e3 e4
/-- what may stand behind a part of a block -/
structure Good0 {β : Type} (B : Hp) (O : Hp → Rs Sg β → Prop) : Prop where
  weak : ∀ F F1 r, Ext B F F1 → O F r → O F1 r
  no : ∀ F, O F .no → False
section
variable {X : Cx} {et : ET} {W : WX}
theorem DE.then0 {β : Type} {e : Expr} {fa : Sg → Rs Sg DV} {k : DV → Sg → Rs Sg β} {am : Addr} {B F : Hp} {g : Sg} {σ : St} {H : Hp} {O : Hp → Rs Sg β → Prop} {Q : VK} (ha : DE X et W e fa) (G : Good0 B O) (R : RepF X.K et am B F g σ H) (hq : O F ((fa g).nox.bind k))
    (nx : ∀ d g' v F' H', Ext B F F' → RepF X.K et am B F' g' σ H' → DenP X.K et am F' v d → O F' (k d g') → Q v H') : wE X e σ H Q := by
  refine ha am B F g σ H Q R ?_
  cases q : fa g with
  | ok d g' =>
    rw [q] at hq
    exact fun v F' H' ex R' dn => nx d g' v F' H' ex R' dn (G.weak F F' _ ex hq)
  | ex c p g' => rw [q] at hq; exact (G.no F hq).elim
  | no => rw [q] at hq; exact (G.no F hq).elim
theorem DT.then0 {β : Type} {e : Expr} {fa : Sg → Rs Sg Bool} {k : Bool → Sg → Rs Sg β} {am : Addr} {B F : Hp} {g : Sg} {σ : St} {H : Hp} {O : Hp → Rs Sg β → Prop} {Q : Bool → Hp → Prop} (ha : DT X et W e fa) (G : Good0 B O) (R : RepF X.K et am B F g σ H) (hq : O F ((fa g).nox.bind k))
    (nx : ∀ d g' F' H', Ext B F F' → RepF X.K et am B F' g' σ H' → O F' (k d g') → Q d H') : wT X e σ H Q := by
  refine ha am B F g σ H Q R ?_
  cases q : fa g with
  | ok d g' =>
    rw [q] at hq
    exact fun F' H' ex R' => nx d g' F' H' ex R' (G.weak F F' _ ex hq)
  | ex c p g' => rw [q] at hq; exact (G.no F hq).elim
  | no => rw [q] at hq; exact (G.no F hq).elim
/-- the ifs of a comprehension -/
def DTs (X : Cx) (et : ET) (W : WX) (ifs : List Expr) (f : Sg → Rs Sg Bool) : Prop :=
  ∀ (β : Type) (am : Addr) (B F : Hp) (g : Sg) (σ : St) (H : Hp) (O : Hp → Rs Sg β → Prop) (k : Bool → Sg → Rs Sg β) (Q : Bool → Hp → Prop), Good0 B O → RepF X.K et am B F g σ H → O F ((f g).nox.bind k) →
    (∀ d g' F' H', Ext B F F' → RepF X.K et am B F' g' σ H' → O F' (k d g') → Q d H') →
    ∃ t : TT, PTs X ifs t ∧ t σ H Q
def mYes (g : Sg) : Rs Sg Bool := .ok true g
theorem dts_nil : DTs X et W [] mYes := fun β am B F g σ H O k Q G R hq nx => ⟨_, pts_nil, nx true g F H Ext.refl R hq⟩
def lcLoop (vs : List Nat) (t : PyData → Sg → Option Sg) (test : Sg → Rs Sg Bool) (elt : Sg → Rs Sg DV) : List PyData → List PyData → Sg → Rs Sg (List PyData)
  | [], acc, g => .ok acc g
  | d :: ds, acc, g => match t d g with
    | none => .no
    | some g1 => (test g1).nox.bind fun b g2 => if b = true then (elt g2).nox.bind fun x g3 => (match x with
        | .pu y => if acc.length < bigN then lcLoop vs t test elt ds (acc ++ [y]) (g3.wipe vs) else .no
        | _ => .no)
      else lcLoop vs t test elt ds acc (g2.wipe vs)
def mLc (vs : List Nat) (fi : Sg → Rs Sg (List PyData)) (t : PyData → Sg → Option Sg) (test : Sg → Rs Sg Bool) (elt : Sg → Rs Sg DV) (g : Sg) : Rs Sg DV :=
  (fi g).bind fun ds g1 => (lcLoop vs t test elt ds [] (g1.wipe vs)).bind fun acc g2 => .ok (.pu (.list acc)) { g2 with r := restR g1.r vs g2.r }
/-- the readings of a block, whatever its frame -/
def tAllG (X : Cx) (scope : Scope) (tg : Expr) : TG := fun v σ H Q => ∀ (s : Shared) (H0 : Hp) (C : Addr) (cl : List (Str × Addr)) (fp : List Addr), wG (X.blk s H0 scope (compEnvC scope cl C X.env) fp) tg v σ H Q
def tAllT (X : Cx) (scope : Scope) (ifs : List Expr) : TT := fun σ H Q => ∀ (s : Shared) (H0 : Hp) (C : Addr) (cl : List (Str × Addr)) (fp : List Addr), ∃ t : TT, PTs (X.blk s H0 scope (compEnvC scope cl C X.env) fp) ifs t ∧ t σ H Q
def tAllE (X : Cx) (scope : Scope) (e : Expr) : TE := fun σ H Q => ∀ (s : Shared) (H0 : Hp) (C : Addr) (cl : List (Str × Addr)) (fp : List Addr), wE (X.blk s H0 scope (compEnvC scope cl C X.env) fp) e σ H Q
structure Blk (X : Cx) (et : ET) (scope : Scope) (is : List Nat) (tg elt : Expr) (ifs : List Expr) (t : PyData → Sg → Option Sg) (test : Sg → Rs Sg Bool) (fe : Sg → Rs Sg DV) : Prop where
  g : ∀ (s : Shared) (H0 : Hp) (C : Addr) (cl : List (Str × Addr)) (fp : List Addr), DG (X.blk s H0 scope (compEnvC scope cl C X.env) fp) is tg t
  t : ∀ (s : Shared) (H0 : Hp) (C : Addr) (cl : List (Str × Addr)) (fp : List Addr), DTs (X.blk s H0 scope (compEnvC scope cl C X.env) fp) et W0 ifs test
  e : ∀ (s : Shared) (H0 : Hp) (C : Addr) (cl : List (Str × Addr)) (fp : List Addr), DE (X.blk s H0 scope (compEnvC scope cl C X.env) fp) et W0 elt fe
theorem RepF.fin {K : PySem.W.Frag} {et : ET} {am : Addr} {B F F1 : Hp} {g g1 : Sg} {σ : St} {H H1 : Hp} {D : Addr} {acc : List V} {vs : List Nat} (bp : B D = none) (np : Fre et am D) (fD : F D = none) (R : RepF K et am (upd B D (.lst acc)) F g (L2.wipe σ vs) H) (R1 : RepF K et am B F1 g1 σ H1) (s1 : Same F1 F) :
    RepF K et am B (upd F D (.lst acc)) { g with r := restR g1.r vs g.r } σ H ∧ Ext B F (upd F D (.lst acc)) := by
  have hD : H D = some (.lst acc) := R.base D _ upd_same np
  have sm : Same F (upd F D (.lst acc)) := fun a u e => by
    rw [upd_ne (ne_of_none e fD)]
    exact e
  have nb : ∀ {a : Addr}, upd B D (.lst acc) a = none → a ≠ D ∧ B a = none := fun {a} e => by
    have h : a ≠ D := fun z => by rw [z, upd_same] at e; cases e
    rw [upd_ne h] at e
    exact ⟨h, e⟩
  refine ⟨⟨fun a u e => ?_, ⟨by rw [upd_ne (Ne.symm np.1)]; exact R.fam.am, R.fam.tabs, fun t ht => by rw [upd_ne (Ne.symm (np.2 t ht))]; exact R.fam.off t ht⟩, fun a u e na => R.base a u (by rw [upd_ne (ne_of_none e bp)]; exact e) na, ?_, fun i x e => ?_, fun i j x y a e1 e2 o1 o2 e3 e4 => ?_, ?_⟩, sm, fun a u e n => ?_⟩
  · by_cases h : a = D
    · rw [h, upd_same] at e
      rw [h]
      cases e
      exact hD
    · rw [upd_ne h] at e
      exact R.sub a u e
  · show σ.length = (restR g1.r vs g.r).length
    rw [restR_length]
    have := R.len
    rw [wipe_length] at this
    exact this
  · have e : (restR g1.r vs g.r)[i]? = some (some x) := e
    rcases restR_get e with ⟨hi, e⟩ | ⟨e, hx⟩
    · obtain ⟨v, e1, e2⟩ := R.slot i x e
      rw [wipe_at hi] at e1
      refine ⟨v, e1, e2.keep sm fun a u _ _ fa ba na ha ow => ?_⟩
      obtain ⟨n1, n2⟩ := nb ba
      exact ⟨by rw [upd_ne n1]; exact fa, n2, ha⟩
    · obtain ⟨v, e1, e2⟩ := R1.slot i x e
      exact ⟨v, e1, e2.keep (Same.tr s1 sm) fun a u ow _ _ _ _ _ _ => (by rw [hx] at ow; cases ow)⟩
  · have e1 : (restR g1.r vs g.r)[i]? = some (some x) := e1
    have e2 : (restR g1.r vs g.r)[j]? = some (some y) := e2
    rcases restR_get e1 with ⟨hi, e1⟩ | ⟨_, hx⟩
    · rcases restR_get e2 with ⟨hj, e2⟩ | ⟨_, hx⟩
      · exact R.inj i j x y a e1 e2 o1 o2 (by rw [wipe_at hi]; exact e3) (by rw [wipe_at hj]; exact e4)
      · rw [hx] at o2; cases o2
    · rw [hx] at o1; cases o1
  · obtain ⟨ac, e1, e2⟩ := R.ms
    exact ⟨ac, e1, Dn.up e2 sm⟩
  · by_cases h : a = D
    · rw [h]; exact bp
    · rw [upd_ne h, n] at e; cases e
/-- the block's list grows -/
theorem RepF.push {K : PySem.W.Frag} {et : ET} {am : Addr} {B F : Hp} {g : Sg} {σ : St} {H : Hp} {D : Addr} {acc acc' : List V} (fD : F D = none) (np : Fre et am D) (R : RepF K et am (upd B D (.lst acc)) F g σ H) : RepF K et am (upd B D (.lst acc')) F g σ (upd H D (.lst acc')) := by
  have nb : ∀ {a : Addr}, upd B D (.lst acc) a = none → a ≠ D ∧ B a = none := fun {a} e => by
    have h : a ≠ D := fun z => by rw [z, upd_same] at e; cases e
    rw [upd_ne h] at e
    exact ⟨h, e⟩
  refine ⟨fun a u e => ?_, ⟨R.fam.am, Tabs.put R.fam.tabs (R.base D _ upd_same np) (fun _ z => by cases z) lst_code _, R.fam.off⟩, fun a u e na => ?_, R.len, fun i x e => ?_, R.inj, ?_⟩
  · rw [upd_ne (ne_of_none e fD)]
    exact R.sub a u e
  · by_cases h : a = D
    · rw [h, upd_same] at e ⊢
      exact e
    · rw [upd_ne h] at e ⊢
      exact R.base a u (by rw [upd_ne h]; exact e) na
  · obtain ⟨v, e1, e2⟩ := R.slot i x e
    refine ⟨v, e1, e2.keep Same.rfl' fun a u _ _ fa ba na ha ow => ?_⟩
    obtain ⟨n1, n2⟩ := nb ba
    exact ⟨fa, by rw [upd_ne n1]; exact n2, by rw [upd_ne n1]; exact ha⟩
  · obtain ⟨ac, e1, e2⟩ := R.ms
    exact ⟨ac, by rw [upd_ne (Ne.symm np.1)]; exact e1, e2⟩
theorem lc_read {β : Type} {tg iter elt : Expr} {ifs : List Expr} {scope : Scope} {vs is : List Nat} {fi : Sg → Rs Sg (List PyData)} {t : PyData → Sg → Option Sg} {test : Sg → Rs Sg Bool} {fe : Sg → Rs Sg DV} (hi : DI X et W tg iter fi) (K : Blk X et scope is tg elt ifs t test fe) (hs : ∀ i ∈ is, i ∈ vs)
    {am : Addr} {B F : Hp} {g : Sg} {σ : St} {H : Hp} {O : Hp → Rs Sg β → Prop} {k : DV → Sg → Rs Sg β} {Q : VK} (G : Good X.K et W am B σ O) (R : RepF X.K et am B F g σ H) (hq : O F ((mLc vs fi t test fe g).bind k))
    (nx : ∀ d g' v F' H', Ext B F F' → RepF X.K et am B F' g' σ H' → DenP X.K et am F' v d → O F' (k d g') → Q v H') :
    tLc (wI X tg iter) (tAllG X scope tg) (tAllT X scope ifs) (tAllE X scope elt) vs σ H Q := by
  unfold mLc at hq
  rw [rs_assoc] at hq
  refine hi _ am B F g σ H O _ _ G R hq fun ds g1 F1 H1 J ex1 R1 wd hq1 D hD => ?_
  obtain ⟨bp, fp, np1⟩ := R1.bnone hD
  have np : Fre et am D := ⟨np1, R1.fam.offT hD⟩
  have G0 : ∀ acc : List V, Good0 (upd B D (.lst acc)) (fun F r => F D = none ∧ O F r) := fun acc =>
    ⟨fun F F1 r x h => ⟨x.off h.1, G.weak F F1 r (x.narrow bp) h.2⟩, fun F h => G.no F h.2⟩
  rw [rs_assoc] at hq1
  refine ⟨fun i m H' => m = ds.length - i ∧ i ≤ ds.length ∧ ∃ g' F' acc dacc, Ext B F1 F' ∧ RepF X.K et am (upd B D (.lst acc)) F' g' (L2.wipe σ vs) H' ∧ F' D = none ∧ DnAll X.K et F' acc dacc ∧
      O F' ((lcLoop vs t test fe (ds.drop i) dacc g').bind fun acc g2 => (Rs.ok (.pu (.list acc)) { g2 with r := restR g1.r vs g2.r } : Rs Sg DV).bind k),
    ⟨ds.length, rfl, Nat.zero_le _, g1.wipe vs, F1, [], [], Ext.refl, (R1.wide hD (.lst [])).wipe vs, fp, .nil, hq1⟩, ?_⟩
  rintro i m H' ⟨rfl, hle, g', F', acc, dacc, ex', R', fD, dacc', ok⟩
  by_cases hlt : i < ds.length
  · refine .inr ⟨wd.go i H' (Same.tr ex'.1 R'.sub) hlt, fun H2 => ∃ g2 F2 acc2 dacc2, Ext B F1 F2 ∧ RepF X.K et am (upd B D (.lst acc2)) F2 g2 (L2.wipe σ vs) H2 ∧ F2 D = none ∧ DnAll X.K et F2 acc2 dacc2 ∧
        O F2 ((lcLoop vs t test fe (ds.drop (i + 1)) dacc2 g2).bind fun acc g2 => (Rs.ok (.pu (.list acc)) { g2 with r := restR g1.r vs g2.r } : Rs Sg DV).bind k), fun H2 z => ⟨ds.length - (i + 1), by omega, rfl, hlt, z⟩, fun x H2 y => ?_⟩
    obtain ⟨d, F2, ed, ex2, R2, dn2⟩ := wd.take ex'.1 R' hlt y
    have f2D : F2 D = none := ex2.off fD
    have edrop : ds.drop i = d :: ds.drop (i + 1) := by
      rw [List.drop_eq_getElem_cons hlt]
      have := (List.getElem?_eq_some_iff.mp ed).2
      rw [this]
    rw [edrop] at ok
    have ok := G.weak F' F2 _ (ex2.narrow bp) ok
    unfold lcLoop at ok
    cases qt : t d g' with
    | none => simp only [qt] at ok; exact (G.no _ ok).elim
    | some g3 =>
      simp only [qt] at ok
      rw [rs_assoc] at ok
      intro s0 H0 C cl fp'
      refine K.g s0 H0 C cl fp' et am _ F2 g' _ H2 x d g3 _ R2 dn2 qt fun σ3 o3 R3 => ⟨wipe_off o3 hs, fun s1 H1' C1 cl1 fp1 => ?_⟩
      refine K.t s1 H1' C1 cl1 fp1 _ am _ F2 g3 σ3 H2 _ _ _ (G0 acc) R3 ⟨f2D, ok⟩ fun b g4 F4 H4 ex4 R4 ok4 => ?_
      have back : ∀ {g5 : Sg} {F5 : Hp} {H5 : Hp} {a5 : List V}, RepF X.K et am (upd B D (.lst a5)) F5 g5 σ3 H5 → RepF X.K et am (upd B D (.lst a5)) F5 (g5.wipe vs) (L2.wipe σ vs) H5 := fun {g5 F5 H5 a5} R5 => by
        have z := R5.wipe vs
        rw [wipe_off o3 hs] at z
        exact z
      cases b with
      | false =>
        refine iteF ⟨g4.wipe vs, F4, acc, dacc, ex'.trans ((ex2.narrow bp).trans (ex4.narrow bp)), back R4, ok4.1, dacc'.up (Same.tr ex2.1 ex4.1), ok4.2⟩
      | true =>
        refine iteT fun s2 H2' C2 cl2 fp2 => ?_
        have okE : F4 D = none ∧ O F4 (((fe g4).nox.bind fun x g3 => (match x with
            | .pu y => if dacc.length < bigN then lcLoop vs t test fe (ds.drop (i + 1)) (dacc ++ [y]) (g3.wipe vs) else .no
            | _ => .no : Rs Sg (List PyData))).bind fun acc g2 => (Rs.ok (.pu (.list acc)) { g2 with r := restR g1.r vs g2.r } : Rs Sg DV).bind k) := ok4
        rw [rs_assoc] at okE
        refine (K.e s2 H2' C2 cl2 fp2).then0 (G0 acc) R4 okE fun dv g5 v F5 H5 ex5 R5 dn5 ok5 => ?_
        obtain ⟨f5D, ok5⟩ := ok5
        cases dv with
        | own _ => exact (G.no _ ok5).elim
        | m => exact (G.no _ ok5).elim
        | scr _ => exact (G.no _ ok5).elim
        | clo _ => exact (G.no _ ok5).elim
        | exc _ _ => exact (G.no _ ok5).elim
        | dic _ => exact (G.no _ ok5).elim
        | dki _ => exact (G.no _ ok5).elim
        | pu y =>
          have ok5 : O F5 ((if dacc.length < bigN then lcLoop vs t test fe (ds.drop (i + 1)) (dacc ++ [y]) (g5.wipe vs) else .no).bind fun acc g2 => (Rs.ok (.pu (.list acc)) { g2 with r := restR g1.r vs g2.r } : Rs Sg DV).bind k) := ok5
          split at ok5
          · rename_i hz
            have h5 : H5 D = some (.lst acc) := R5.base D _ upd_same np
            have sm : Same F' F5 := Same.tr ex2.1 (Same.tr ex4.1 ex5.1)
            refine ⟨acc, h5, by rw [dacc'.length, bigN_eq]; exact hz, g5.wipe vs, F5, acc ++ [v], dacc ++ [y], ex'.trans ((ex2.narrow bp).trans ((ex4.narrow bp).trans (ex5.narrow bp))), ?_, f5D, (dacc'.up sm).append (.cons dn5 .nil), ok5⟩
            exact (back R5).push f5D np
          · exact (G.no _ ok5).elim
  · have e : i = ds.length := by omega
    subst e
    rw [List.drop_length] at ok
    obtain ⟨Rf, exf⟩ := R'.fin bp np fD R1 ex'.1
    exact .inl ⟨wd.stop H' (Same.tr ex'.1 R'.sub), nx (.pu (.list dacc)) _ _ _ H' (ex1.trans (ex'.trans exf)) Rf (show Dn X.K et _ _ (.list dacc) from .lst upd_same (dacc'.up exf.1)) (G.weak F' _ _ exf ok)⟩
theorem de_lc {k : Nat} {tg iter elt : Expr} {ifs : List Expr} {scope : Scope} {pos : Pos} {own : List (Str × Nat)} {is : List Nat} {fi : Sg → Rs Sg (List PyData)} {t : PyData → Sg → Option Sg} {test : Sg → Rs Sg Bool} {fe : Sg → Rs Sg DV} (C : Here X k W) (ok : BlkOk X.N X.env.scope scope own) (hi : DI X et W tg iter fi) (K : Blk X et scope is tg elt ifs t test fe)
    (hs : ∀ i ∈ is, i ∈ own.map (·.2) := by decide) (hc : X.calm = true := by rfl) (hf : ∀ x, foldedSetIterable iter X.env x = pure x := by intro _; rfl) : DE X et W (.ListComp elt [⟨tg, iter, ifs, 0⟩] scope pos) (mLc (own.map (·.2)) fi t test fe) := fun am B F g σ H Q R hq => by
  rw [← rs_bind_ok (x := mLc (own.map (·.2)) fi t test fe g)] at hq
  exact w_of (pe_lc hc C.nd pi_w ok (fun s H0 C cl fp => ⟨fun pins s' σ' H' v u Q' I r h => (h s H0 C cl fp).run pins s' u I r⟩)
    (fun s H0 C cl fp => ⟨fun pins s' σ' H' Q' I h => by obtain ⟨t, p, q⟩ := h s H0 C cl fp; exact p.run pins s' σ' H' Q' I q⟩)
    (fun s H0 C cl fp => ⟨fun pins s' σ' H' Q' I h => (h s H0 C cl fp).run pins s' I⟩) hf)
    (lc_read hi K hs (goodV (Q := Q)) R hq fun d g' v F' H' ex R' dn hq' => hq' v F' H' Ext.refl R' dn)
/-- within a block -/
theorem Here.blk {k : Nat} (C : Here X k W) (s : Shared) (H0 : Hp) (scope : Scope) (ce : Env) (fp : List Addr) : Here (X.blk s H0 scope ce fp) k W0 := ⟨C.hr, C.hg, takes0, PassesOwn.never, C.nd⟩
end
end DL
set_option Elab.async false
set_option linter.all false
set_option maxRecDepth 100000
set_option maxHeartbeats 4000000
set_option autoImplicit false
namespace DL
open PySem PySem.Spec L2
open PyProof.Rows hiding St
section
variable {X : Cx} {et : ET} {W : WX}
theorem k_lc : ¬ ((Sum.inr ("cells" : Str) : Key) = Sum.inr ("left" : Str)) := fun z => absurd (Sum.inr.inj z) (by decide +kernel)
theorem k_sc : ¬ ((Sum.inr ("cells" : Str) : Key) = Sum.inr ("spot" : Str)) := fun z => absurd (Sum.inr.inj z) (by decide +kernel)
theorem k_sl : ¬ ((Sum.inr ("left" : Str) : Key) = Sum.inr ("spot" : Str)) := fun z => absurd (Sum.inr.inj z) (by decide +kernel)
theorem k_ls : ¬ ((Sum.inr ("spot" : Str) : Key) = Sum.inr ("left" : Str)) := fun z => absurd (Sum.inr.inj z) (by decide +kernel)
theorem k_zl : ¬ ((Sum.inr ("seed" : Str) : Key) = Sum.inr ("left" : Str)) := fun z => absurd (Sum.inr.inj z) (by decide +kernel)
theorem k_lcl : ¬ ((Sum.inr ("left" : Str) : Key) = Sum.inr ("cells" : Str)) := fun z => absurd (Sum.inr.inj z) (by decide +kernel)
theorem k_zc : ¬ ((Sum.inr ("seed" : Str) : Key) = Sum.inr ("cells" : Str)) := fun z => absurd (Sum.inr.inj z) (by decide +kernel)
theorem k_zs : ¬ ((Sum.inr ("seed" : Str) : Key) = Sum.inr ("spot" : Str)) := fun z => absurd (Sum.inr.inj z) (by decide +kernel)
theorem mkvs_t {ac : Addr} {s : MS} (h : s.two = true) : mkvs ac s = [(.inr "left", .int s.left), (.inr "seed", .int s.seed), (.inr "cells", .ref ac), (.inr "spot", .int s.spot)] := if_pos h
theorem mkvs_f {ac : Addr} {s : MS} (h : s.two = false) : mkvs ac s = [(.inr "cells", .ref ac), (.inr "left", .int s.left), (.inr "spot", .int s.spot)] := if_neg (by rw [h]; exact Bool.false_ne_true)
theorem mkvs_len (ac : Addr) (s : MS) : (mkvs ac s).length < sizeLine := by
  rw [sizeLine_eq]
  cases h : s.two with
  | true => rw [mkvs_t h]; show 4 < 16777216; decide
  | false => rw [mkvs_f h]; show 3 < 16777216; decide
theorem v_cells (ac : Addr) (s : MS) : valV (mkvs ac s) (.inr "cells") = some (.ref ac) := by
  cases h : s.two with
  | true => rw [mkvs_t h]; exact (valV_neg k_lcl).trans ((valV_neg k_zc).trans (valV_pos rfl))
  | false => rw [mkvs_f h]; exact valV_pos rfl
theorem v_left (ac : Addr) (s : MS) : valV (mkvs ac s) (.inr "left") = some (.int s.left) := by
  cases h : s.two with
  | true => rw [mkvs_t h]; exact valV_pos rfl
  | false => rw [mkvs_f h]; exact (valV_neg k_lc).trans (valV_pos rfl)
theorem v_spot (ac : Addr) (s : MS) : valV (mkvs ac s) (.inr "spot") = some (.int s.spot) := by
  cases h : s.two with
  | true => rw [mkvs_t h]; exact (valV_neg k_sl).trans ((valV_neg k_zs).trans ((valV_neg k_sc).trans (valV_pos rfl)))
  | false => rw [mkvs_f h]; exact (valV_neg k_sc).trans ((valV_neg k_sl).trans (valV_pos rfl))
theorem p_left (ac : Addr) (s : MS) (i : Int) : putK (mkvs ac s) (.inr "left") (.int i) = mkvs ac { s with left := i } := by
  unfold putK
  rw [valV_any, v_left, Option.isSome_some, if_pos rfl]
  cases h : s.two with
  | true =>
    rw [mkvs_t h, mkvs_t (s := { cells := s.cells, left := i, spot := s.spot, seed := s.seed, two := true }) rfl]
    simp only [List.map_cons, List.map_nil, if_neg k_lc, if_neg k_ls, if_neg k_zl, if_true]
  | false =>
    rw [mkvs_f h, mkvs_f (s := { cells := s.cells, left := i, spot := s.spot, seed := s.seed, two := false }) rfl]
    simp only [List.map_cons, List.map_nil, if_neg k_lc, if_neg k_ls, if_true]
theorem p_spot (ac : Addr) (s : MS) (i : Int) : putK (mkvs ac s) (.inr "spot") (.int i) = mkvs ac { s with spot := i } := by
  unfold putK
  rw [valV_any, v_spot, Option.isSome_some, if_pos rfl]
  cases h : s.two with
  | true =>
    rw [mkvs_t h, mkvs_t (s := { cells := s.cells, left := s.left, spot := i, seed := s.seed, two := true }) rfl]
    simp only [List.map_cons, List.map_nil, if_neg k_sc, if_neg k_sl, if_neg k_zs, if_true]
  | false =>
    rw [mkvs_f h, mkvs_f (s := { cells := s.cells, left := s.left, spot := i, seed := s.seed, two := false }) rfl]
    simp only [List.map_cons, List.map_nil, if_neg k_sc, if_neg k_sl, if_true]
def isM (g : Sg) (i : Nat) : Bool := match g.r[i]? with
  | some (some .m) => true
  | _ => false
def mMget (i : Nat) (f : MS → PyData) (g : Sg) : Rs Sg DV := if isM g i then .ok (.pu (f g.s)) g else .no
theorem isM_of {g : Sg} {i : Nat} (h : isM g i = true) : g.r[i]? = some (some .m) := by
  unfold isM at h
  split at h
  · assumption
  · cases h
theorem de_mget {k : Nat} (i : Nat) (key : Str) (f : MS → PyData) {x : Str} {np kp pos : Pos} {kj : Nat} (C : Here X k W) (hk : ∀ (K : PySem.W.Frag) (am : Addr) (F H : Hp) (s : MS), MRel K et am F H s → ∃ v, DGet H am (.str key) (some v) ∧ Dn K et F v (f s))
    (hN : X.N[i]? = some x := by rfl) (hv : Vis X.env.scope x := by first | exact Or.inl rfl | exact Or.inr (Or.inl rfl) | exact Or.inr (Or.inr rfl)) (hd : (x == ("__debug__" : Str)) = false := by decide) (hcd : (x == ("__classdict__" : Str)) = false := by decide) :
    DE X et W (.Subscript (.Name x np) (.Constant (.str key) kj kp) pos) (mMget i f) := fun am B F g σ H Q R hq => by
  unfold mMget at hq
  split at hq
  · rename_i h
    obtain ⟨v, e1, e2⟩ := R.slot i _ (isM_of h)
    obtain ⟨w, hw, dw⟩ := hk X.K am F H g.s R.ms
    exact w_of (pe_dget (hu_of C.hr) (pe_var hN hv hd hcd) pe_str (fun _ _ => rfl)) ⟨v, e1, am, w, e2, hw, hq w F H Ext.refl R dw⟩
  · exact hq.elim
def dCells (s : MS) : PyData := .list (s.cells.map .int)
def dLeft (s : MS) : PyData := .int s.left
def dSpot (s : MS) : PyData := .int s.spot
theorem hk_cells : ∀ (K : PySem.W.Frag) (am : Addr) (F H : Hp) (s : MS), MRel K et am F H s → ∃ v, DGet H am (.str "cells") (some v) ∧ Dn K et F v (dCells s) := fun K am F H s ⟨ac, e, d⟩ =>
  ⟨.ref ac, by rw [← v_cells ac s]; exact DGet.k (k := .inr "cells") e, d⟩
theorem hk_left : ∀ (K : PySem.W.Frag) (am : Addr) (F H : Hp) (s : MS), MRel K et am F H s → ∃ v, DGet H am (.str "left") (some v) ∧ Dn K et F v (dLeft s) := fun K am F H s ⟨ac, e, d⟩ =>
  ⟨.int s.left, by rw [← v_left ac s]; exact DGet.k (k := .inr "left") e, .int _⟩
theorem hk_spot : ∀ (K : PySem.W.Frag) (am : Addr) (F H : Hp) (s : MS), MRel K et am F H s → ∃ v, DGet H am (.str "spot") (some v) ∧ Dn K et F v (dSpot s) := fun K am F H s ⟨ac, e, d⟩ =>
  ⟨.int s.spot, by rw [← v_spot ac s]; exact DGet.k (k := .inr "spot") e, .int _⟩
def mMset (i : Nat) (f : MS → Int → MS) (fe : Sg → Rs Sg DV) (g : Sg) : Rs Sg Fl := (fe g).bind fun d g1 => match d with
  | .pu (.int n) => if isM g1 i then .ok .nx { g1 with s := f g1.s n } else .no
  | _ => .no
theorem RepF.setM {K : PySem.W.Frag} {et : ET} {am : Addr} {B F : Hp} {g : Sg} {σ : St} {H : Hp} (R : RepF K et am B F g σ H) {o : HO} {s' : MS} (ms : MRel K et am F (upd H am o) s') : RepF K et am B F { g with s := s' } σ (upd H am o) := by
  obtain ⟨ac, em, _⟩ := R.ms
  refine ⟨fun a u e => by rw [upd_ne (ne_of_none e R.fam.am)]; exact R.sub a u e, ⟨R.fam.am, Tabs.put R.fam.tabs em (fun _ z => by cases z) dK_code _, R.fam.off⟩, fun a u e na => by rw [upd_ne na.1]; exact R.base a u e na, R.len, fun i x e => ?_, R.inj, ms⟩
  obtain ⟨v, e1, e2⟩ := R.slot i x e
  exact ⟨v, e1, e2.keep Same.rfl' fun a u _ _ fa ba na ha ow => ⟨fa, ba, by rw [upd_ne na]; exact ha⟩⟩
theorem ds_mset {k : Nat} (i : Nat) (key : Str) (f : MS → Int → MS) {e : Expr} {x : Str} {np kp pos' pos : Pos} {kj : Nat} {fe : Sg → Rs Sg DV} (C : Here X k W) (hk : ∀ (K : PySem.W.Frag) (am : Addr) (F H : Hp) (s : MS) (n : Int), MRel K et am F H s → ∃ o, DPut H am (.str key) (.int n) (upd H am o) ∧ MRel K et am F (upd H am o) (f s n))
    (h : DE X et W e fe) (hN : X.N[i]? = some x := by rfl) (hv : Vis X.env.scope x := by first | exact Or.inl rfl | exact Or.inr (Or.inl rfl) | exact Or.inr (Or.inr rfl)) (hd : (x == ("__debug__" : Str)) = false := by decide) (hcd : (x == ("__classdict__" : Str)) = false := by decide)
    (hs : swapsWith e (some (.Subscript (.Name x np) (.Constant (.str key) kj kp) pos')) pos.line X.env = pure false := by rfl) :
    DS X et W (.Assign [.Subscript (.Name x np) (.Constant (.str key) kj kp) pos'] e pos) (mMset i f fe) := fun am B F g σ H D R hq => by
  refine ws_of (ps_dput (hu_of C.hr) (pe_var hN hv hd hcd) pe_str pe_w hs) (h.then (goodF (D := D)) R hq fun d g1 v F1 H1 ex1 R1 dn1 hq1 => ?_)
  split at hq1
  · rename_i n
    split at hq1
    · rename_i hm
      obtain ⟨w, e1, e2⟩ := R1.slot i _ (isM_of hm)
      obtain ⟨o, hp, mr⟩ := hk X.K am F1 H1 g1.s n R1.ms
      rw [Dn.int_of dn1]
      exact ⟨w, e1, am, _, e2, hp, hq1 σ F1 _ Ext.refl (R1.setM mr)⟩
    · exact hq1.elim
  · exact hq1.elim
theorem hs_left : ∀ (K : PySem.W.Frag) (am : Addr) (F H : Hp) (s : MS) (n : Int), MRel K et am F H s → ∃ o, DPut H am (.str "left") (.int n) (upd H am o) ∧ MRel K et am F (upd H am o) { s with left := n } := fun K am F H s n ⟨ac, e, d⟩ =>
  ⟨.dK (mkvs ac { s with left := n }), by rw [← p_left ac s n]; exact DPut.k (k := .inr "left") e (mkvs_len ac s), ac, upd_same, d⟩
theorem hs_spot : ∀ (K : PySem.W.Frag) (am : Addr) (F H : Hp) (s : MS) (n : Int), MRel K et am F H s → ∃ o, DPut H am (.str "spot") (.int n) (upd H am o) ∧ MRel K et am F (upd H am o) { s with spot := n } := fun K am F H s n ⟨ac, e, d⟩ =>
  ⟨.dK (mkvs ac { s with spot := n }), by rw [← p_spot ac s n]; exact DPut.k (k := .inr "spot") e (mkvs_len ac s), ac, upd_same, d⟩
def mAsg (f : Sg → Rs Sg DV) (t : PyData → Sg → Option Sg) (g : Sg) : Rs Sg Fl := (f g).bind fun d g1 => match d with
  | .pu a => (Rs.of (t a g1) g1).bind fun g2 _ => .ok .nx g2
  | _ => .no
end
end DL
set_option Elab.async false
set_option linter.all false
set_option maxRecDepth 100000
set_option maxHeartbeats 4000000
set_option autoImplicit false
namespace DL
open PySem PySem.Spec L2
open PyProof.Rows hiding St
def bigs (ns : List Int) : List Int := ns.filter fun n => decide (1000000000000000000 ≤ n)
def leftOf (ns : List Int) : Int := (bigs ns).headD 0
def cellsOf (ns : List Int) : List Int := ns ++ [(ns.length : Int)]
def ms0 (ns : List Int) : MS := ⟨cellsOf ns, leftOf ns, 0, 0, false⟩
def spBegun (K : PySem.W.Frag) : Sp := fun vs H Q _ => ∃ (a : Addr) (ns : List Int), vs = [.ref a] ∧ SqL K H a (ns.map V.int) ∧ ns.length ≤ 63 ∧
  ∀ (p ac : Addr) (H' : Hp), Same H H' → H p = none → p ≠ ac → H' p = some (.dK (mkvs ac (ms0 ns))) → H' ac = some (.lst ((cellsOf ns).map V.int)) → Q (.ref p) H'
theorem merge3 (ac : Addr) (s : MS) (h0 : s.two = false) : mergeK [] [((.inr "cells" : Key), V.ref ac), (.inr "left", .int s.left), (.inr "spot", .int s.spot)] = mkvs ac s := by
  have h1 : putK [] (.inr "cells" : Key) (V.ref ac) = [((.inr "cells" : Key), V.ref ac)] := by
    unfold putK
    rw [valV_any, valV_nil]
    rfl
  have h2 : putK [((.inr "cells" : Key), V.ref ac)] (.inr "left") (.int s.left) = [((.inr "cells" : Key), V.ref ac), (.inr "left", .int s.left)] := by
    unfold putK
    rw [valV_any, valV_neg k_lc, valV_nil]
    rfl
  have h3 : putK [((.inr "cells" : Key), V.ref ac), (.inr "left", .int s.left)] (.inr "spot") (.int s.spot) = mkvs ac s := by
    unfold putK
    rw [valV_any, valV_neg k_sc, valV_neg k_sl, valV_nil, mkvs_f h0]
    rfl
  show putK (putK (putK [] (.inr "cells" : Key) (V.ref ac)) (.inr "left") (.int s.left)) (.inr "spot") (.int s.spot) = _
  rw [h1, h2, h3]
theorem bigs_snoc {ns : List Int} {i : Nat} {z : Int} (h : ns[i]? = some z) : bigs (ns.take (i + 1)) = bigs (ns.take i) ++ (if 1000000000000000000 ≤ z then [z] else []) := by
  have hi := (List.getElem?_eq_some_iff.mp h).1
  have e := (List.getElem?_eq_some_iff.mp h).2
  unfold bigs
  rw [List.take_succ, h, List.filter_append]
  congr 1
  by_cases c : (1000000000000000000 : Int) ≤ z
  · simp [c]
  · simp [c]
theorem eqv_ints_nil (l : List Int) : PyData.eqv (.list (l.map .int)) (.list []) = l.isEmpty := by cases l <;> simp [PyData.eqv, PyData.eqvAll]
theorem dpAll_ints {K : PySem.W.Frag} {H : Hp} : ∀ l : List Int, DpAll K H (l.map V.int) (l.map .int)
  | [] => .nil
  | i :: r => .cons (.int i) (dpAll_ints r)
theorem canLay_ints : ∀ l : List Int, PyData.canLayAll0 (l.map .int) = true
  | [] => rfl
  | i :: r => by simp [PyData.canLayAll0, PyData.canLay0, canLay_ints r]
theorem depth_ints : ∀ l : List Int, PyData.depthAll (l.map .int) = 0
  | [] => rfl
  | i :: r => by simp [PyData.depthAll, PyData.depth, depth_ints r]
theorem shaped_ints (l : List Int) : SeqAt.shaped (.list (l.map .int)) = true := by
  unfold SeqAt.shaped
  simp [PyData.canLay0, canLay_ints, PyData.depth, depth_ints]
/-- what the two statements of _law_begun read as -/
theorem begun_read {K : PySem.W.Frag} {H : Hp} {Q : VK} {a : Addr} {ns : List Int} (hS : SqL K H a (ns.map V.int)) (hl : ns.length ≤ 63)
    (k : ∀ (p ac : Addr) (H' : Hp), Same H H' → H p = none → p ≠ ac → H' p = some (.dK (mkvs ac (ms0 ns))) → H' ac = some (.lst ((cellsOf ns).map V.int)) → Q (.ref p) H') :
    tSeq (tAsg (tLc (iList K (tVar 0)) (gName 2) (tTest (tOp (rI0 fun i j => .bl (decide (j ≤ i))) (tVar 2) (tOp (rI CPow fun i j => .int (i ^ j.toNat)) (tC (.int 10)) (tC (.int 18))))) (tVar 2) [2]) (gName 1))
      (tRet (tDisp [(tC (.str "cells"), tOp rCat (tCB (fun xs H Q => ∃ p ys, xs = [.ref p] ∧ (SqL K H p ys ∨ SqT K H p ys) ∧ ∀ l, H l = none → Q (.ref l) (upd H l (.lst ys))) (tCons (tVar 0) tNil)) (tLst (tCons (tCB (fun xs H Q => ∃ x n, xs = [x] ∧ LenV K x H n ∧ Q (.int n) H) (tCons (tVar 0) tNil)) tNil))),
        (tC (.str "left"), tIf (tTest (tOp (rNeD K) (tVar 1) (tLst tNil))) (tOp (rIxL K) (tVar 1) (tC (.int 0))) (tC (.int 0))), (tC (.str "spot"), tC (.int 0))]))
      { nx := fun _ H' => Q .non H', rt := Q } [some (.ref a), none, none] H := by
  refine ⟨_, rfl, a, rfl, ⟨_, hS⟩, fun D hD => lc_list (K := K) (a := a) (xs := ns.map V.int) (fun i H' => Same H H' ∧ H' D = some (.lst ((bigs (ns.take i)).map V.int))) ⟨fun b o e => by rw [upd_ne (ne_of_none e hD)]; exact e, upd_same⟩
    (fun i H' _ ⟨s, _⟩ => SqL.mono s hS) ?_ ?_⟩
  · rintro i x H' hi ⟨s, e⟩
    obtain ⟨z, hz, rfl⟩ : ∃ z, ns[i]? = some z ∧ x = V.int z := by
      rw [List.getElem?_map] at hi
      cases q : ns[i]? with
      | none => rw [q] at hi; cases hi
      | some z => rw [q] at hi; exact ⟨z, rfl, (Option.some.inj hi).symm⟩
    have lt : (bigs (ns.take i)).length ≤ 63 := Nat.le_trans (List.length_filter_le _ _) (Nat.le_trans (List.length_take_le _ _) (by
      have := (List.getElem?_eq_some_iff.mp hz).1
      omega))
    refine ⟨rfl, _, rfl, 10, 18, rfl, rfl, ⟨by decide, by decide, by decide⟩, z, _, rfl, rfl, _, rfl, ?_⟩
    by_cases c : (10 : Int) ^ (18 : Int).toNat ≤ z
    · have c' : (1000000000000000000 : Int) ≤ z := c
      refine (show (if decide ((10 : Int) ^ (18 : Int).toNat ≤ z) = true then _ else _) from ?_)
      rw [if_pos (decide_eq_true c)]
      refine ⟨_, rfl, _, e, by rw [List.length_map, sizeLine_eq]; omega, fun b o q => ?_, ?_⟩
      · rw [upd_ne (ne_of_none q hD)]
        exact s b o q
      · rw [upd_same, bigs_snoc hz, if_pos c', List.map_append]
        rfl
    · have c' : ¬ (1000000000000000000 : Int) ≤ z := c
      refine (show (if decide ((10 : Int) ^ (18 : Int).toNat ≤ z) = true then _ else _) from ?_)
      rw [if_neg (by simpa using c)]
      refine ⟨s, ?_⟩
      rw [e, bigs_snoc hz, if_neg c', List.append_nil]
  · rintro H1 ⟨s1, e1⟩
    rw [List.length_map, List.take_length] at e1
    intro p hp
    have hDp : D ≠ p := ne_of_none e1 hp
    refine ⟨_, rfl, a, _, rfl, .inl (SqL.mono (fun b o e => by rw [upd_ne (ne_of_none (s1 b o e) hp)]; exact s1 b o e) hS), fun l hl' => ?_⟩
    have hl1 : H1 l = none ∧ l ≠ p := by
      by_cases q : l = p
      · rw [q, upd_same] at hl'; cases hl'
      · rw [upd_ne q] at hl'; exact ⟨hl', q⟩
    refine ⟨_, rfl, _, (ns.map V.int).length, rfl, .inl ⟨_, SqL.mono (fun b o e => ?_) hS, rfl⟩, ?_⟩
    · rw [upd_ne (ne_of_none (s1 b o e) hl1.1), upd_ne (ne_of_none (s1 b o e) hp)]
      exact s1 b o e
    refine ⟨by show 1 ≤ sizeLine; rw [sizeLine_eq]; decide, fun r hr => ?_⟩
    have hr1 : H1 r = none ∧ r ≠ p ∧ r ≠ l := by
      by_cases q : r = l
      · rw [q, upd_same] at hr; cases hr
      · rw [upd_ne q] at hr
        by_cases q2 : r = p
        · rw [q2, upd_same] at hr; cases hr
        · rw [upd_ne q2] at hr; exact ⟨hr, q2, q⟩
    refine ⟨l, r, _, _, rfl, rfl, by rw [upd_ne (Ne.symm hr1.2.2), upd_same], upd_same, by rw [List.length_map, sizeLine_eq]; show ns.length + 1 ≤ _; omega, fun ac hac => ?_⟩
    have hac1 : H1 ac = none ∧ ac ≠ p := by
      by_cases q : ac = r
      · rw [q, upd_same] at hac; cases hac
      · rw [upd_ne q] at hac
        by_cases q2 : ac = l
        · rw [q2, upd_same] at hac; cases hac
        · rw [upd_ne q2] at hac
          by_cases q3 : ac = p
          · rw [q3, upd_same] at hac; cases hac
          · rw [upd_ne q3] at hac; exact ⟨hac, q3⟩
    -- the left part
    have fin : ∀ (H2 : Hp), Same H1 H2 → H2 p = some (.dK []) → H2 ac = some (.lst ((cellsOf ns).map V.int)) → (H2 p = some (.dK []) ∧ ∃ kvs : List (Key × V), ([(V.str "cells", V.ref ac), (V.str "left", V.int (leftOf ns)), (V.str "spot", V.int 0)] : List (V × V)) = kvs.map (fun kv => (kV kv.1, kv.2)) ∧ kvs.length ≤ 15 ∧ Q (.ref p) (upd H2 p (.dK (mergeK [] kvs)))) := fun H2 s2 e2 e3 => by
      refine ⟨e2, [((.inr "cells" : Key), V.ref ac), (.inr "left", .int (leftOf ns)), (.inr "spot", .int 0)], rfl, by show 3 ≤ 15; decide, ?_⟩
      have em : mergeK [] [((.inr "cells" : Key), V.ref ac), (.inr "left", .int (leftOf ns)), (.inr "spot", .int 0)] = mkvs ac (ms0 ns) := merge3 ac (ms0 ns) rfl
      rw [em]
      refine k p ac _ (fun b o e => ?_) ?_ (Ne.symm hac1.2) upd_same (by rw [upd_ne hac1.2]; exact e3)
      · rw [upd_ne (ne_of_none (s1 b o e) hp)]
        exact s2 _ _ (s1 b o e)
      · cases q : H p with
        | none => rfl
        | some u => rw [s1 p u q] at hp; cases hp
    have sm : Same H1 (upd (upd (upd (upd H1 p (.dK [])) l (.lst (ns.map V.int))) r (.lst [V.int ((ns.map V.int).length : Nat)])) ac (.lst (ns.map V.int ++ [V.int ((ns.map V.int).length : Nat)]))) := fun b o e => by
      rw [upd_ne (ne_of_none e hac1.1), upd_ne (ne_of_none e hr1.1), upd_ne (ne_of_none e hl1.1), upd_ne (ne_of_none e hp)]
      exact e
    have ec : (ns.map V.int ++ [V.int ((ns.map V.int).length : Nat)]) = (cellsOf ns).map V.int := by
      unfold cellsOf
      rw [List.map_append, List.length_map]
      rfl
    refine ⟨_, rfl, Nat.zero_le _, fun t ht => ?_⟩
    have ht1 : Same (upd (upd (upd (upd H1 p (.dK [])) l (.lst (ns.map V.int))) r (.lst [V.int ((ns.map V.int).length : Nat)])) ac (.lst (ns.map V.int ++ [V.int ((ns.map V.int).length : Nat)]))) (upd (upd (upd (upd (upd H1 p (.dK [])) l (.lst (ns.map V.int))) r (.lst [V.int ((ns.map V.int).length : Nat)])) ac (.lst (ns.map V.int ++ [V.int ((ns.map V.int).length : Nat)]))) t (.lst [])) := fun b o e => by
      rw [upd_ne (ne_of_none e ht)]
      exact e
    have hD2 := ht1 _ _ (sm _ _ e1)
    have hp2 : (upd (upd (upd (upd (upd H1 p (.dK [])) l (.lst (ns.map V.int))) r (.lst [V.int ((ns.map V.int).length : Nat)])) ac (.lst (ns.map V.int ++ [V.int ((ns.map V.int).length : Nat)]))) t (.lst [])) p = some (.dK []) := ht1 _ _ (by rw [upd_ne (Ne.symm hac1.2), upd_ne (Ne.symm hr1.2.1), upd_ne (Ne.symm hl1.2), upd_same])
    have hac2 : (upd (upd (upd (upd (upd H1 p (.dK [])) l (.lst (ns.map V.int))) r (.lst [V.int ((ns.map V.int).length : Nat)])) ac (.lst (ns.map V.int ++ [V.int ((ns.map V.int).length : Nat)]))) t (.lst [])) ac = some (.lst ((cellsOf ns).map V.int)) := ht1 _ _ (by rw [upd_same, ec])
    refine ⟨.list ((bigs ns).map .int), .list [], .lst (SqL.of hD2) (dpAll_ints _), .lst (SqL.of upd_same) .nil, shaped_ints _, rfl, _, rfl, ?_⟩
    refine (show (if (!PyData.eqv (.list ((bigs ns).map .int)) (.list [])) = true then _ else _) from ?_)
    rw [eqv_ints_nil]
    cases qb : bigs ns with
    | nil =>
      refine (show (if (!([] : List Int).isEmpty) = true then _ else _) from ?_)
      rw [if_neg (by decide)]
      have el : leftOf ns = 0 := by unfold leftOf; rw [qb]; rfl
      have := fin _ (Same.tr sm ht1) hp2 hac2
      rw [el] at this
      exact this
    | cons z zs =>
      refine (show (if (!(z :: zs : List Int).isEmpty) = true then _ else _) from ?_)
      rw [if_pos (show (!(z :: zs : List Int).isEmpty) = true from rfl)]
      have el : leftOf ns = z := by unfold leftOf; rw [qb]; rfl
      rw [qb] at hD2
      refine ⟨_, rfl, D, _, 0, .int z, rfl, rfl, SqL.of hD2, atI_nat (j := 0) rfl, ?_⟩
      have := fin _ (Same.tr sm ht1) hp2 hac2
      rw [el] at this
      exact this
theorem pe_callG {X : Cx} {W : WX} {k j : Nat} {x : Str} {f : Addr} {fd : FuncData} {ps : List Str} {sp : Sp} {p pos : Pos} {e : Expr} {es : List Expr} {t : TA} (C : Here X k W) (G : FnG X.prog X.w X.K X.mg X.base j f fd ps sp) (hj : j ≤ k) (hm : X.mg x = some (.ref f)) (kp : PySem.W.keepIn X.K (.ref f) = true) (hb : Binds X.K fd ps []) (ha : PA X (e :: es) t)
    (hg : Gl X x := by rfl) (hdb : (x == ("__debug__" : Str)) = false := by decide) (he : starEach (e :: es) X.env = (false, eval e X.env) :: starEach es X.env := by exact star_ok rfl) (hpl : (backTo pos (starEach es X.env)).any (·.1) = false := by exact plain_ok rfl) :
    PE X (.Call (.Name x p) (e :: es) [] pos) (tCallS sp (WE W) t) := by
  refine ⟨fun pins s σ H Q I h => wpAny_Call_Name_kw (ld_glob I hg hm ?_ hdb)⟩
  refine PySem.W.callWith_K (h₀ := X.base) I.ok.mod.kin kp (thn (ha.run pos pins s σ H _ I h) fun us s1 hh => ?_) he hpl
  obtain ⟨vs, H1, I1, r, q⟩ := hh
  refine ⟨I1.kIn, ?_⟩
  have hl : us.length = ps.length := by rw [← r.length]; exact G.len _ _ _ _ q
  have b := hb s1 us I1.kIn (by rw [List.append_nil]; exact hl)
  rw [List.append_nil] at b
  refine wpAny_call (codeAny_mono (G.run X.A X.stack s1 H1 ⟨us, []⟩ us vs Q (WE W σ) (C.hr.mono hj) C.hg I1.env0 b r q) fun rr s' hq => ?_)
  match rr, hq with
  | .error e, hq => exact passAt C.tk σ pins H1 s1 e s' I1 hq
  | .ok (.ret u), hq => exact I1.after hq
  | .ok .next, hq => exact hq.elim
  | .ok .brk, hq => exact hq.elim
  | .ok .cont, hq => exact hq.elim
def cutH (T : List (Addr × Str)) (H : Hp) (p : Addr) : Hp := fun b => if b = p ∨ b ∈ T.map (·.1) then none else H b
theorem cutH_ne {T : List (Addr × Str)} {H : Hp} {p b : Addr} (h : b ≠ p) (h2 : ∀ t ∈ T, b ≠ t.1) : cutH T H p b = H b := if_neg fun z => by
  rcases z with z | z
  · exact h z
  · obtain ⟨t, ht, e⟩ := List.mem_map.mp z
    exact h2 t ht e.symm
theorem cutH_self {T : List (Addr × Str)} {H : Hp} {p : Addr} : cutH T H p p = none := if_pos (.inl rfl)
theorem cutH_tab {T : List (Addr × Str)} {H : Hp} {p : Addr} {t : Addr × Str} (h : t ∈ T) : cutH T H p t.1 = none := if_pos (.inr (List.mem_map.mpr ⟨t, h, rfl⟩))
theorem cutH_of {T : List (Addr × Str)} {H : Hp} {p b : Addr} {u : HO} (e : cutH T H p b = some u) : H b = some u := by
  unfold cutH at e
  split at e
  · cases e
  · exact e
def spLaw (K : PySem.W.Frag) (T : List (Addr × Str)) : Sp := fun vs H Q _ => ∃ (a : Addr) (ns : List Int), vs = [.ref a] ∧ SqL K H a (ns.map V.int) ∧ ns.length ≤ 63 ∧ (∀ p ∈ T, H p.1 = some (.tbl #[])) ∧ ∀ H', Q (.bl true) H'
theorem law_of {P : Program} {w : World} {K : PySem.W.Frag} {mg : Str → Option Value} {base : Heap} {k : Nat} {st : Stmt} {N : List Str} {et : ET} {fb : Sg → Rs Sg Fl} {f : Addr} {fd : FuncData} (im : Nat) (h0 : 0 < im) (hlt : im < N.length)
    (F : FunD K "law" "law" (defArgs st) (defBody st) (defScope st) [] [] f fd) (S : FnScope N ["script"] (defScope st))
    (pure : ∀ ns : List Int, ns.length ≤ 63 → ∃ g, fb ⟨(startD N.length [.scr ns]).set im (some .m), ms0 ns⟩ = .ok (.rt (.pu (.bool true))) g)
    (hbody : ∀ (cdv : Value) (A : Around) (outer : List Env) (s : Shared) (H : Hp) (E : XK), Here (cxOf (L2.CX P w) P w K mg base N "law" (defScope st) f cdv A outer s H E) k (fun cls d _ H => E cls d H) →
      ∃ s1 rest, defBody st = s1 :: rest ∧ PS (cxOf (L2.CX P w) P w K mg base N "law" (defScope st) f cdv A outer s H E) s1 (tAsg (tCallS (spBegun K) (WE fun cls d _ H => E cls d H) (tCons (tVar 0) tNil)) (gName im)) ∧
        DSs (cxOf (L2.CX P w) P w K mg base N "law" (defScope st) f cdv A outer s H E) et (fun cls d _ H => E cls d H) rest fb) : FnG P w K mg base (k + 1) f fd ["script"] (spLaw K et.T) := by
  refine fnG_of F S (fun vs H Q E ⟨_, _, h, _⟩ => by rw [h]; rfl) fun cdv A outer s H vs Q E hr hgd hsp => ?_
  obtain ⟨a, ns, rfl, hS, hl, hT, hQ⟩ := hsp
  have here : Here (cxOf (L2.CX P w) P w K mg base N "law" (defScope st) f cdv A outer s H E) k (fun cls d _ H => E cls d H) := ⟨hr, hgd, takes_of rfl rfl rfl rfl, passes_of rfl, S.nd⟩
  obtain ⟨s1, rest, eb, h1, h2⟩ := hbody cdv A outer s H E here
  rw [eb]
  obtain ⟨g, pg⟩ := pure ns hl
  refine wss_of (pss_cons h1 pss_w) ⟨.ref a, start_get rfl, a, ns, rfl, hS, hl, fun p ac H' sm hp npac e1 e2 => ?_⟩
  have hap : ∀ {b : Addr} {u : HO}, H b = some u → b ≠ p := fun e => ne_of_none e hp
  have ntb : ∀ {b : Addr} {u : HO}, H' b = some u → (∀ ps, u ≠ .tbl ps) → ∀ t ∈ et.T, b ≠ t.1 := fun e n t ht z => by
    have := sm _ _ (hT t ht)
    rw [← z, e] at this
    exact n _ (Option.some.inj this)
  have sq : SqL K (cutH et.T H' p) a (ns.map V.int) := by
    rcases hS with h | h
    · refine .inl ?_
      rcases h with h | ⟨o, h⟩
      · exact .inl (by rw [cutH_ne (hap h) (ntb (sm _ _ h) (fun _ z => by cases z))]; exact sm _ _ h)
      · exact .inr ⟨o, by rw [cutH_ne (hap h) (ntb (sm _ _ h) (fun _ z => by cases z))]; exact sm _ _ h⟩
    · exact .inr h
  have hlN : ((startD N.length [DV.scr ns]).set im (some .m)).length = N.length := by
    rw [List.length_set]
    unfold startD
    rw [List.length_append, List.length_map, List.length_replicate]
    show 1 + (N.length - 1) = N.length
    omega
  have R : RepF K et p (cutH et.T H' p) (cutH et.T H' p) ⟨(startD N.length [DV.scr ns]).set im (some .m), ms0 ns⟩ ((L2.start N [.ref a]).set im (some (.ref p))) H' := by
    refine ⟨fun b u e => cutH_of e, ⟨cutH_self, fun t ht => LamX.TabS.nil (sm _ _ (hT t ht)), fun t ht => cutH_tab ht⟩, fun b u e nb => cutH_of e, ?_, fun i x e => ?_, fun i j x1 x2 b q1 q2 o1 o2 _ _ => ?_, ac, e1, .lst (by rw [cutH_ne (Ne.symm npac) (ntb e2 (fun _ z => by cases z))]; exact e2) (DnAll.ofInts _)⟩
    · rw [hlN, List.length_set]
      unfold L2.start
      rw [List.length_append, List.length_map, List.length_replicate]
      show 1 + (N.length - 1) = N.length
      omega
    · have e : ((startD N.length [DV.scr ns]).set im (some .m))[i]? = some (some x) := e
      by_cases hi : im = i
      · subst hi
        rw [List.getElem?_set_self (by rw [List.length_set] at hlN; omega)] at e
        cases e
        refine ⟨.ref p, ?_, rfl⟩
        rw [List.getElem?_set_self]
        unfold L2.start
        rw [List.length_append, List.length_map, List.length_replicate]
        show im < 1 + (N.length - 1)
        omega
      · rw [List.getElem?_set_ne hi] at e
        have q := startD_get e
        have i0 : i = 0 := by
          cases i with
          | zero => rfl
          | succ n => simp at q
        subst i0
        simp at q
        subst q
        refine ⟨.ref a, ?_, a, rfl, sq⟩
        rw [List.getElem?_set_ne hi]
        exact start_get rfl
    · exfalso
      have e : ((startD N.length [DV.scr ns]).set im (some .m))[i]? = some (some x1) := q1
      by_cases hi : im = i
      · subst hi
        rw [List.getElem?_set_self (by rw [List.length_set] at hlN; omega)] at e
        cases e
        cases o1
      · rw [List.getElem?_set_ne hi] at e
        have q := startD_get e
        cases i with
        | zero =>
          simp at q
          subst q
          cases o1
        | succ n => simp at q
  refine h2 p _ _ _ _ H' _ R ?_
  rw [pg]
  intro v σ F' H2 _ _ dn
  have dn : Dn K et F' v (.bool true) := dn
  rw [dn.bl_of]
  exact hQ H2
end DL
set_option Elab.async false
set_option linter.all false
set_option maxRecDepth 100000
set_option maxHeartbeats 4000000
set_option autoImplicit false
namespace DL
open PySem PySem.Spec L2
open PyProof.Rows hiding St
abbrev TabL := List (Addr × Addr × Str)
def TabL.T (cs : TabL) : List (Addr × Str) := cs.map fun p => (p.2.1, p.2.2)
def tab0 : Obj := { cls := .none, data := .fields #[] }
/-- at most the script and the empty tables are tracked -/
structure OnlyA (K : PySem.W.Frag) (a : Addr) (cs : TabL) (H : Hp) : Prop where
  frz : ∀ b u, H b = some u → (b = a ∧ K.lookup a = none ∧ ∃ o xs, u = .frz o (.lst xs)) ∨ ∃ p ∈ cs, b = p.2.1 ∧ u = .tbl #[]
/-- what is known of the tables ahead of the law's call -/
structure TabF (K : PySem.W.Frag) (h : Heap) (cs : TabL) : Prop where
  tab : ∀ p ∈ cs, h.get? p.2.1 = some tab0
  off : ∀ p ∈ cs, K.lookup p.2.1 = none
  code : ∀ p ∈ cs, PySem.W.CodeHd h p.1 p.2.1
theorem OnlyA.unseen {K : PySem.W.Frag} {a b : Addr} {cs : TabL} {H : Hp} {h : Heap} {lo : Obj} {vs : Array Value} {o : Obj} (oa : OnlyA K a cs H) (tf : TabF K h cs) (ha : h.get? a = some lo) (hl : lo.data = .seq vs) (e : h.get? b = some o)
    (h1 : ∀ us n, o.data ≠ .seq us n) (h2 : o.data ≠ .fields #[]) : H b = none := by
  cases q : H b with
  | none => rfl
  | some u =>
    rcases oa.frz b u q with ⟨z, _⟩ | ⟨p, hp, z, _⟩
    · rw [z, ha] at e
      cases e
      exact absurd hl (h1 _ _)
    · rw [z, tf.tab p hp] at e
      cases e
      exact absurd rfl h2
theorem OnlyA.notK {K : PySem.W.Frag} {a b : Addr} {cs : TabL} {H : Hp} {h : Heap} (oa : OnlyA K a cs H) (tf : TabF K h cs) {o : Obj} (k : K.lookup b = some o) : H b = none := by
  cases q : H b with
  | none => rfl
  | some u =>
    rcases oa.frz b u q with ⟨z, n, _⟩ | ⟨p, hp, z, _⟩
    · rw [z, n] at k
      cases k
    · rw [z, tf.off p hp] at k
      cases k
/-- the ground under the law's call -/
theorem dl_env {P : Program} {w : World} {K : PySem.W.Frag} {mg mb : Str → Option Value} {a : Addr} {cs : TabL} {s : Shared} {vs : List Value} {H : Hp} (KX : K.In s.heap) (hns : s.heap.Ns mainGlobals mg) (hb : s.heap.Ns builtinsNs mb) (hbb : ∀ x : Str, x ≠ "__name__" → mb x = bootBuiltins x) (hlim : s.heap.NoLimit) (hg : s.gens = #[])
    (tf : TabF K s.heap cs) (bm : ∃ (m : Addr) (ob : Obj), mg "__builtins__" = some (.ref m) ∧ m ≠ builtinsNs ∧ s.heap.get? m = some ob ∧ ob.cls = .type "module" ∧ ob.dict = some builtinsNs ∧ ob.data = .plain)
    (ha : s.heap.get? a = some { cls := .type "list", data := .seq vs.toArray }) (oa : OnlyA K a cs H) (hok : HOk P w H s.heap) : Env0 P w K mg (hidT s.heap H) callerA [] s H ∧ K.In (hidT s.heap H) ∧ (hidT s.heap H).Ns mainGlobals mg ∧ ∀ p ∈ cs, LamX.TabB (hidT s.heap H) mg p.1 p.2.1 := by
  have inK : K.In (hidT s.heap H) := fun b o e => hidT_get (KX b o e) (oa.notK tf e)
  have dic : ∀ {b : Addr} {m : Str → Option Value}, s.heap.Ns b m → (hidT s.heap H).Ns b m := fun {b m} ⟨o, es, ep, e, d, r⟩ =>
    ⟨o, es, ep, hidT_get e (oa.unseen tf ha rfl e (fun us n z => by rw [d] at z; cases z) (fun z => by rw [d] at z; cases z)), d, r⟩
  have hlim' : (hidT s.heap H).NoLimit := by
    obtain ⟨mc, g1, g2⟩ := hlim
    exact ⟨mc, dic g1, g2⟩
  refine ⟨⟨rfl, ⟨inK, dic hns, ⟨mb, dic hb, hbb⟩, hlim'⟩, fun _ _ e => of_hidT e, Nat.le_of_eq (hidT_size _ _), True.intro, fun b z => (by cases z), hok, AllBare.of_eq hg⟩, inK, dic hns, fun p hp => ⟨?_, ?_, fun z => ?_⟩⟩
  · obtain ⟨o, us, file, tfl, fl, tg, inF, tx, tt, c1, c2, c3, c4, rest⟩ := tf.code p hp
    refine ⟨o, us, file, tfl, fl, tg, inF, tx, tt, hidT_get c1 (oa.unseen tf ha rfl c1 (fun x n z => by rw [c3] at z; cases z) (fun z => ?_)), c2, c3, c4, rest⟩
    rw [c3] at z
    cases z
    simp at c4
  · obtain ⟨m, ob, b1, b2, b3, b4, b5, b6⟩ := bm
    refine ⟨m, ob, b1, b2, fun z => ?_, fun z => ?_, hidT_get b3 (oa.unseen tf ha rfl b3 (fun x n z => by rw [b6] at z; cases z) (fun z => by rw [b6] at z; cases z)), b4, b5, b6⟩
    · obtain ⟨o, es, ep, q1, q2, _⟩ := hns
      rw [z, q1] at b3
      cases b3
      rw [q2] at b6
      cases b6
    · rw [z, tf.tab p hp] at b3
      cases b3
      cases b6
  · obtain ⟨o, es, ep, q1, q2, _⟩ := hns
    rw [z, tf.tab p hp] at q1
    cases q1
    cases q2
theorem dl_old {P : Program} {w : World} {K : PySem.W.Frag} {a : Addr} {cs : TabL} {s s' : Shared} {H H' : Hp} (oa : OnlyA K a cs H) (tf : TabF K s.heap cs) (ht : ∀ p ∈ cs, H p.2.1 = some (.tbl #[])) (hok : HOk P w H s.heap) (hok' : HOk P w H' s'.heap) (un : Un (frs []) [] H H' s.heap s'.heap) : OldK s.heap s'.heap := by
  have more : ∀ p ∈ cs, ∃ xs : Array Value, s'.heap.get? p.2.1 = some { cls := .none, data := .fields xs } := fun p hp => by
    obtain ⟨xs, z⟩ := un.tbls _ #[] (ht p hp)
    exact ⟨_, hok' _ _ z⟩
  have stay : ∀ b o, s.heap.get? b = some o → s'.heap.get? b = some o ∨ ∃ p ∈ cs, b = p.2.1 := fun b o e => by
    cases q : H b with
    | none => exact .inl (un.keep b o e q (fun z => (by cases z)) (fun z => (by cases z)))
    | some u =>
      rcases oa.frz b u q with ⟨_, _, ob, xs, rfl⟩ | ⟨p, hp, z, _⟩
      · have k1 := (hok b _ q).1
        have k2 := (hok' b _ (un.frzs b ob _ q)).1
        rw [e] at k1
        cases k1
        exact .inl k2
      · exact .inr ⟨p, hp, z⟩
  refine ⟨fun b o e => ?_, fun b o e => ?_⟩
  · rcases stay b o e with z | ⟨p, hp, rfl⟩
    · exact .inl z
    · obtain ⟨xs, hx⟩ := more p hp
      rw [tf.tab p hp] at e
      cases e
      exact .inr (.inl ⟨((tf.code p hp).tab (tf.tab p hp)).isCodeTable, rfl, #[], xs, rfl, by rw [Array.empty_append]; exact hx⟩)
  · rcases stay b o e with z | ⟨p, hp, rfl⟩
    · exact ⟨_, z⟩
    · obtain ⟨xs, hx⟩ := more p hp
      exact ⟨_, hx⟩
def atH (f : Option HO) (a : Addr) (ts : List Addr) : Hp := fun b => if b = a then f else if b ∈ ts then some (.tbl #[]) else none
theorem dl_law_run {P : Program} {w : World} {K : PySem.W.Frag} {mg mb : Str → Option Value} {k : Nat} {fa a : Addr} {cs : TabL} {fd : FuncData} {x : Str} {s : Shared} {vs : List Value} {ns : List Int}
    (KX : K.In s.heap) (hns : s.heap.Ns mainGlobals mg) (hb : s.heap.Ns builtinsNs mb) (hbb : ∀ x : Str, x ≠ "__name__" → mb x = bootBuiltins x) (hlim : s.heap.NoLimit) (hg : s.gens = #[])
    (tf : TabF K s.heap cs) (bm : ∃ (m : Addr) (ob : Obj), mg "__builtins__" = some (.ref m) ∧ m ≠ builtinsNs ∧ s.heap.get? m = some ob ∧ ob.cls = .type "module" ∧ ob.dict = some builtinsNs ∧ ob.data = .plain)
    (ha : s.heap.get? a = some { cls := .type "list", data := .seq vs.toArray }) (hi : IntsAre vs ns) (hl : ns.length ≤ 63) (hr : Room k callerA)
    (F : ∀ base : Heap, K.In base → base.Ns mainGlobals mg → (∀ p ∈ cs, LamX.TabB base mg p.1 p.2.1) → FnG P w K mg base k fa fd [x] (spLaw K cs.T)) (hbind : ∀ (s : Shared) (u : Value), BindsTo s fd ⟨[u], []⟩ [(x, u)]) :
    codeAny (model P w) callerA (.call (.ref fa) ⟨[.ref a], []⟩) (fun r s' => r = .ok (.ret (.bool true)) ∧ OldK s.heap s'.heap ∧ s'.os = s.os ∧ AllBare s'.gens) s := by
  have rv : Vals (ns.map V.int) vs := vals_ints hi
  have hz : ns.length ≤ sizeLine := by rw [sizeLine_eq]; omega
  have nat_ : a ∉ cs.map (·.2.1) := fun z => by
    obtain ⟨p, hp, e⟩ := List.mem_map.mp z
    have := tf.tab p hp
    rw [e, ha] at this
    cases this
  have key : ∀ f : Option HO, (∀ u, f = some u → K.lookup a = none ∧ ∃ xs, u = .frz { cls := .type "list", data := .seq vs.toArray } (.lst xs) ∧ ObjOk P w (atH f a (cs.map (·.2.1))) s.heap a u) →
      OnlyA K a cs (atH f a (cs.map (·.2.1))) ∧ HOk P w (atH f a (cs.map (·.2.1))) s.heap ∧ ∀ p ∈ cs, atH f a (cs.map (·.2.1)) p.2.1 = some (.tbl #[]) := fun f hf => by
    have at1 : ∀ p ∈ cs, atH f a (cs.map (·.2.1)) p.2.1 = some (.tbl #[]) := fun p hp => by
      have n : p.2.1 ≠ a := fun z => nat_ (List.mem_map.mpr ⟨p, hp, z⟩)
      unfold atH
      rw [if_neg n, if_pos (List.mem_map.mpr ⟨p, hp, rfl⟩)]
    refine ⟨⟨fun b u z => ?_⟩, fun b u z => ?_, at1⟩
    · unfold atH at z
      split at z
      · rename_i e
        obtain ⟨q1, xs, q2, _⟩ := hf u z
        exact .inl ⟨e, q1, _, _, q2⟩
      · split at z
        · rename_i hm
          obtain ⟨p, hp, e⟩ := List.mem_map.mp hm
          cases z
          exact .inr ⟨p, hp, e.symm, rfl⟩
        · cases z
    · by_cases hba : b = a
      · subst hba
        have z' : f = some u := by
          unfold atH at z
          rw [if_pos rfl] at z
          exact z
        exact (hf u z').2.choose_spec.2
      · unfold atH at z
        rw [if_neg hba] at z
        split at z
        · rename_i hm
          obtain ⟨p, hp, e⟩ := List.mem_map.mp hm
          cases z
          rw [← e]
          exact tf.tab p hp
        · cases z
  obtain ⟨H, oa, hok, at1, sq⟩ : ∃ H : Hp, OnlyA K a cs H ∧ HOk P w H s.heap ∧ (∀ p ∈ cs, H p.2.1 = some (.tbl #[])) ∧ SqL K H a (ns.map V.int) := by
    cases hk : K.lookup a with
    | some o =>
      have e := KX a o hk
      rw [ha] at e
      cases e
      obtain ⟨o1, o2, o3⟩ := key none (fun u z => by cases z)
      exact ⟨_, o1, o2, o3, .inr ⟨_, vs.toArray, _, hk, rfl, rfl, rfl, by rw [List.size_toArray, hi.length]; exact hz, by simpa using rv⟩⟩
    | none =>
      obtain ⟨o1, o2, o3⟩ := key (some (.frz { cls := .type "list", data := .seq vs.toArray } (.lst (ns.map V.int)))) (fun u z => by
        cases z
        exact ⟨hk, _, rfl, ha, by rw [List.length_map]; exact hz, vs, _, rv, ha⟩)
      exact ⟨_, o1, o2, o3, .inl (.inr ⟨_, if_pos rfl⟩)⟩
  obtain ⟨en, inK, gl, tb⟩ := dl_env (P := P) (w := w) KX hns hb hbb hlim hg tf bm ha oa hok
  refine codeAny_mono ((F _ inK gl tb).run callerA [] s H ⟨[.ref a], []⟩ [.ref a] [.ref a] (fun v _ => v = .bl true) (fun _ _ _ => False) hr rfl en (hbind s (.ref a)) (.cons rfl .nil) ⟨a, ns, rfl, sq, hl, fun t ht => ?_, fun _ => rfl⟩) fun r s' h => ?_
  · obtain ⟨p, hp, e⟩ := List.mem_map.mp ht
    rw [← e]
    exact at1 p hp
  match r, h with
  | .error e, h =>
    obtain ⟨_, _, _, _, _, _, _, _, _, _, _, _, z⟩ := h
    exact z.elim
  | .ok .next, h => exact h.elim
  | .ok .brk, h => exact h.elim
  | .ok .cont, h => exact h.elim
  | .ok (.ret u), h =>
    obtain ⟨v, H', os, bare, un, hok', rel, q⟩ := h
    have q : v = .bl true := q
    subst q
    obtain rfl : u = Value.bool true := rel
    exact ⟨rfl, dl_old oa tf at1 hok hok' un, os, bare⟩
/-- the end; the tables are those that the text's facts tell -/
theorem dl_walkT {l : PySem.W.OpenLaw} {k : Nat} {q : Program} {loose : List Str} {XP : (Str → Option Value) → Heap → Prop} {YP : World → Heap → Prop} {d : DefRec} {x : Str} (hn : l.most = some 63) (hdf : d.params.defaults = []) (hr : Room k callerA)
    (F : ∀ (w : World) (mg mb : Str → Option Value) (fa : Addr) (h : Heap) (lo : List Str) (mean : ExcName → Option Value), YP w h → Top q lo mean mg mb h → mg d.name = some (.ref fa) →
      ∃ (K : PySem.W.Frag) (fd : FuncData) (cs : TabL), K.In h ∧ TabF K h cs ∧ (∀ (s : Shared) (u : Value), BindsTo s fd ⟨[u], []⟩ [(x, u)]) ∧ ∀ base : Heap, K.In base → base.Ns mainGlobals mg → (∀ p ∈ cs, LamX.TabB base mg p.1 p.2.1) → FnG l.prog w K mg base k fa fd [x] (spLaw K cs.T)) :
    PySem.W.WalkO q loose XP YP l.row.toRowW d [] (fun f vs => PySem.call f vs) := by
  refine Att.attach_call hn hdf fun w s₀ s mg mb fa o pm cd doc a vs ns G Y _ _ _ hmg hobj hints hlen hg => ?_
  obtain ⟨K, fd, cs, KX, tf, hb, hF⟩ := F w mg mb fa _ _ _ Y G.T hmg
  exact dl_law_run KX G.T.g G.T.b G.T.builtins G.T.nolimit hg tf G.T.bmain hobj hints hlen hr hF hb
end DL
set_option Elab.async false
set_option linter.all false
set_option maxRecDepth 100000
set_option maxHeartbeats 4000000
set_option autoImplicit false
set_option Elab.async false
set_option linter.all false
set_option maxRecDepth 100000
set_option maxHeartbeats 4000000
set_option autoImplicit false
namespace DL
open PySem PySem.Spec L2
open PyProof.Rows hiding St
/-- the statement super().__init__("refused"), and the one that keeps the thing -/
def xBody (fld x : Str) (msg : Str) (p0 p1 p2 p3 p4 p5 q0 q1 q2 q3 : Pos) (j : Nat) : List Stmt :=
  [.Expr (.Call (.Attribute (.Call (.Name "super" p0) [] [] p1) "__init__" p2) [.Constant (.str msg) j p3] [] p4) p5, .Assign [.Attribute (.Name "self" q0) fld q1] (.Name x q2) q3]
/-- what the written part says of an own error class at C, its __init__ at fI: F; its cell; the built-in error i of the class B below it -/
structure XF (P : Program) (K : PySem.W.Frag) (C fI cc : Addr) (F : NdefX.NF) (fld x msg : Str) : Prop where
  T : OexC K C
  cl : F.cl = [(("__class__" : Str), cc)]
  scope : NdefX.NScope ["self", x, "__class__"] ["self", x] ["__class__"] F.scope
  sup : F.scope.names.lookup ("super" : Str) = some .globalImplicit
  head : ∃ ar, (F.params.posonlyargs ++ F.params.args).head? = some ar ∧ ar.arg = ("self" : Str)
  fn : ∃ oc od doc pm ctv osl, K.lookup fI = some ⟨oc, od, .func (F.fd doc pm ctv), osl⟩
  code : PySem.W.codeIn K (.ref F.c) F.qual = true
  file : ∃ a b vs d f t, K.lookup F.c = some ⟨a, b, .fields vs, d⟩ ∧ vs[2]? = some (.str f t) ∧ ((P.main.file : Str) == f) = true
  cell : ∃ a b d, K.lookup cc = some ⟨a, b, .cell (some (.ref C)), d⟩
  body : ∃ p0 p1 p2 p3 p4 p5 q0 q1 q2 q3 j, F.body = xBody fld x msg p0 p1 p2 p3 p4 p5 q0 q1 q2 q3 j ∧ ∀ L, ∃ pl, eval (.Call (.Attribute (.Call (.Name "super" p0) [] [] p1) "__init__" p2) [.Constant (.str msg) j p3] [] p4) (NdefX.envF F fI L) = (do
      let ov ← attributeBase (.Call (.Name "super" p0) [] [] p1) "__init__" (NdefX.envF F fI L) (eval (.Call (.Name "super" p0) [] [] p1) (NdefX.envF F fI L))
      standAt p2.atName
      let (f, first) ← holding [ov] (getMethod ov "__init__" pl)
      callWith p4 f first (backTo p4 (starEach [.Constant (.str msg) j p3] (NdefX.envF F fI L))) [])
  top : (P.main.scope.names.lookup ("super" : Str)).isSome = false
  opq : PySem.W.nsIn K cStatics "thirdparty.any" = some none
  sub : PySem.W.mroIn K C (.ref C) = some true
  sve : PySem.W.subIn K (.ref C) (.type "ValueError") = some true
  find : PySem.W.ks_superIn K C C "__init__" = some (some (.builtin "ValueError.__init__"))
  noF : PySem.W.findIn K (.ref C) fld = some none
  nx : x ≠ "self" ∧ (x == ("__debug__" : Str)) = false ∧ (x == ("__classdict__" : Str)) = false
def spXI (C : Addr) (fld : Str) : Sp := fun vs H Q _ => ∃ a v, vs = [.ref a, v] ∧ H a = some (exo a C none) ∧ ∀ dx, H dx = none → dx ≠ a → Q .non (upd (upd H dx (exd dx [(fld, v)])) a (exo a C (some dx)))
section
variable {P : Program} {w : World} {K : PySem.W.Frag} {mg : Str → Option Value} {base : Heap} {CX : CXT} {C fI cc : Addr} {F : NdefX.NF} {fld x msg : Str}
theorem clsObj {h : Heap} {D : Addr} (X : K.In h) {cd : ClassData} (hD : PySem.W.clsIn K D = some cd) : ∃ o, h.get? D = some o ∧ o.data = .cls cd := by
  unfold PySem.W.clsIn at hD
  split at hD
  · rename_i c d cd' sl ho
    cases hD
    exact ⟨_, X _ _ ho, rfl⟩
  · cases hD
theorem call_mw {prog : Program} {w : World} {A : Around} {E : Value → Shared → Prop} {h : Heap} {g : Array GenState} {d : Drawn} {t : Nat} {os : OsState} {nm q : Str} {C N u e t0 : Addr} {bs bm : List Value} {hdct : Bool} {sn : List Str} {sub : List Value} {ab : Bool} {col : Option Bool} {dd : Option Addr} {k0 k1 k2 k3 k5 : Option Value} {rest : List Value} {Q : Value → Shared → Prop}
    (hu : h.get? u = some (PySem.W.kxs_mw "ValueError.__init__" e)) (hC : h.get? C = some (excClassObj nm q C N bs bm hdct sn sub ab col dd k0 k1 k2 k3 k5 "ValueError.__new__")) (he : h.get? e = some ({ cls := .ref C, dict := none, data := .fields #[.ref t0, .none, .none, .none, .bool false, .none] } : Obj)) (hz : rest.length ≤ sizeLine)
    (hq : ∀ h', (∀ b o, b ≠ e → h.get? b = some o → h'.get? b = some o) → h'.get? e = some ({ cls := .ref C, dict := none, data := .fields #[.ref h.objs.size, .none, .none, .none, .bool false, .none] } : Obj) → Q .none ⟨h', g, d, t, os⟩) :
    wpAny (model prog w) A (call (.ref u) rest) Q E ⟨h, g, d, t, os⟩ := by
  refine wpAny_call (codeAny_of_tree ?_)
  show wpAny _ A.in1 (callAny (.ref u) ⟨rest, []⟩) _ _ _
  unfold callAny
  refine wpAny_bind (wpAny_load hu ?_)
  simp only [PySem.W.kxs_mw, show (Value.type "method-wrapper" == Value.type "method" || Value.type "method-wrapper" == Value.type "builtin_function_or_method" || Value.type "method-wrapper" == Value.type "method-wrapper") = true from by decide, if_true]
  refine PySem.W.KFB.if_so (by decide) ?_
  refine wpAny_bind (PySem.W.check_bound_init PySem.F.excBase_ValueError.toExcCallFacts hC he rfl ?_)
  refine wpAny_bind (wpAny_pure (wpAny_pure ?_))
  refine ⟨plainId_quiet PySem.F.excBase_ValueError.init.plain _, codeAny_builtin PySem.F.excBase_ValueError.initEntry ?_⟩
  exact PySem.W.exc_init_tree (cls := .ref C) (t0 := t0) (dv := none) (c2 := .none) (c3 := .none) (b4 := .bool false) he hz fun h' k x _ => hq h' k x
theorem xinit (XC : XF P K C fI cc F fld x msg) (hs : mg "super" = none) (doc pm ctv : Value) (hfn : ∃ oc od osl, K.lookup fI = some ⟨oc, od, .func (F.fd doc pm ctv), osl⟩) :
    FnOk P w K mg base CX 2 fI (F.fd doc pm ctv) ["self", x] (spXI C fld) := by
  refine ⟨fun vs H Q E ⟨_, _, e, _⟩ => by rw [e]; rfl, fun A outer s H args us vs Q E hr e0 hb r hsp => ?_⟩
  obtain ⟨a, v, rfl, ha, hQ⟩ := hsp
  obtain ⟨oc, od, osl, lk⟩ := hfn
  have bk : ∀ b o, base.get? b = some o → s.heap.get? b = some o := fun b o e => (e0.bs b o e).1
  have KX : K.In s.heap := e0.mod.kin.keeps bk
  cases r with
  | @cons _ u0 _ ur ra rr =>
  cases rr with
  | @cons _ u1 _ ur2 rv rn =>
  cases rn
  obtain rfl : u0 = Value.ref a := ra
  obtain ⟨p0, p1, p2, p3, p4, p5, q0, q1, q2, q3, j, eb, hev⟩ := XC.body
  obtain ⟨ca, cb, cd, hcell⟩ := XC.cell
  refine PySem.ks_codeAny_call_defAt (fd := F.fd doc pm ctv) (body := F.body) (binds := ([("self" : Str), x]).zip [Value.ref a, u1]) hr.depth (KX _ _ lk) rfl (e0.mod.nolimit.keeps bk) (PySem.W.codeRec_of KX XC.code) rfl hb XC.scope.nocell (fun ⟨n, _⟩ hy => XC.scope.par n (List.of_mem_zip hy).1) (fun h₁ hns kp => ?_) XC.scope.co XC.scope.gen XC.scope.kind
  have cells : NdefX.CellsAt F.cl ["__class__"] [some (.ref C)] s.heap H := by
    have hl : ∀ y c, F.cl.lookup y = some c → c = cc ∧ y = ("__class__" : Str) := fun y c e => by
      rw [XC.cl] at e
      by_cases z : y = ("__class__" : Str)
      · rw [z] at e
        exact ⟨(Option.some.inj e).symm, z⟩
      · have : ([(("__class__" : Str), cc)] : List (Str × Addr)).lookup y = none := by
          show (match y == ("__class__" : Str) with | true => some cc | false => none) = none
          rw [beq_eq_false_iff_ne.mpr z]
        rw [this] at e
        cases e
    have hc : H cc = none := (e0.bs cc _ (e0.mod.kin _ _ hcell)).2
    refine ⟨rfl, fun y c e => ?_, fun y z c e1 e2 => ?_, fun i y e => ?_⟩
    · rw [(hl y c e).1]
      exact ⟨hc, _, _, KX _ _ hcell, rfl⟩
    · rw [(hl y c e1).2, (hl z c e2).2]
    · match i, e with
      | 0, e =>
        cases e
        refine ⟨cc, by rw [XC.cl]; rfl, fun v' e' => ?_⟩
        cases e'
        exact ⟨.ref C, rfl, _, KX _ _ hcell, rfl⟩
      | i + 1, e => simp at e
  have J := NdefX.inv_startN (CX := CX) (f := fI) (E := E) (tk := s.toks + (([("self" : Str), x]).zip [Value.ref a, u1]).length) XC.scope hr.hd e0 (vs := [V.ref a, v]) (us := [Value.ref a, u1]) rfl (show L2.Vals [V.ref a, v] [Value.ref a, u1] from .cons rfl (.cons rv .nil)) cells hns kp
  show PySem.wpAt _ (A.deeper (NdefX.envF F fI s.heap.objs.size)) (.func F.body (NdefX.envF F fI s.heap.objs.size)) (execs F.body (NdefX.envF F fI s.heap.objs.size)) _ _ _
  rw [eb]
  unfold xBody
  have KX1 : K.In h₁ := KX.keeps kp
  obtain ⟨t1, hoe⟩ := exo_at J.hok ha
  obtain ⟨ar, har, hself⟩ := XC.head
  obtain ⟨fa, fb, fvs, fd', ff, ft, hcode, hvs, hfile⟩ := XC.file
  have hfindc := XC.find
  unfold PySem.W.ks_superIn at hfindc
  obtain ⟨cdC, hcl, hal⟩ := Option.bind_eq_some_iff.mp hfindc
  obtain ⟨oC, hC1, hC2⟩ := clsObj KX1 hcl
  obtain ⟨mb, hmb, hbb⟩ := e0.mod.blt
  have k1 : ∀ b o, base.get? b = some o → h₁.get? b = some o := fun b o e => kp b o (bk b o e)
  obtain ⟨pl, hpl⟩ := hev s.heap.objs.size
  refine PySem.ks_wpAt_execs_cons (PySem.ks_wpAt_Expr_any (PySem.ks_wpAt_MethodCall (pl := pl) ?_ hpl) (by show (F.scope.kind == .module && _) = false; rw [XC.scope.kind]; rfl))
  refine PySem.ks_wpAt_super_base (f := fI) (cc := F.c) (ar := ar) XC.sup (XC.scope.frk _ (by simp)) (by decide) rfl (KX1 _ _ lk) rfl har rfl (KX1 _ _ hcode) rfl hvs hfile XC.top ?_
  refine PySem.W.ks_loadName_global XC.scope.kind XC.sup (Calls.loadGlobal_builtin (e0.mod.glob.keeps k1) hs (hmb.keeps k1) ((hbb _ (by decide +kernel)).trans PyProof.Rows.Boot.super) ⟨rfl, ?_⟩)
  refine wpAny_loadName_free XC.scope.kind (XC.scope.frk _ (by simp)) (by show F.cl.lookup _ = _; rw [XC.cl]; rfl) ⟨_, KX1 _ _ hcell, rfl⟩ ?_
  rw [hself]
  refine wpAny_loadName_local XC.scope.kind (XC.scope.par _ (by simp)) hns (by
    show (match ("self" : Str) == x with | true => some u1 | false => (match ("self" : Str) == ("self" : Str) with | true => some (Value.ref a) | false => none)) = some (Value.ref a)
    rw [beq_eq_false_iff_ne.mpr (Ne.symm XC.nx.1), beq_self_eq_true]) ?_
  refine PySem.ks_wpAny_isType_cls hC1 hC2 ⟨rfl, ?_⟩
  refine PySem.ks_wpAny_call_super hC1 hC2 hoe rfl (fun c e => by cases e) (PySem.W.looks_mroIn KX1 XC.sub) (fun h2 hso k2 => ?_)
  have KX2 : K.In h2 := KX1.keeps k2
  have I2 : PySem.W.InstAt h2 a { cls := .ref C, dict := none, data := .fields #[.ref t1, .none, .none, .none, .bool false, .none] } C none := ⟨k2 _ _ hoe, rfl, rfl, trivial⟩
  have hne : a ≠ C := fun z => by
    rw [z, hC1] at hoe
    cases hoe
    cases hC2
  refine PySem.W.kxs_getMethod PySem.W.kxs_ValueError hso (PySem.W.looks_opaque KX2 XC.opq) (l₀ := cdC.mro) (fun A' Q' E' s' k q => wpAny_bind ((PySem.W.looks_clsIn KX2 hcl) A' _ E' s' k (wpAny_pure q))) rfl KX2 hal (I2.type.andThen (PySem.W.looks_subIn KX2 XC.sve)) hne (by decide) ?_
  show wpAny _ _ (callWith p4 (.ref h2.objs.size) [] ((false, eval (.Constant (.str msg) j p3) (NdefX.envF F fI s.heap.objs.size)) :: []) []) _ _ _
  refine PySem.W.kxs_callWith (i := "ValueError.__init__") (x := a) rfl (Calls.evalArgs_plain (Calls.spliced_cons (Calls.Constant_str (Calls.spliced_nil ⟨Heap.get?_push_size _ rfl, ?_⟩))))
  obtain ⟨nm, q, N', bs, bm, sn, sub, ab, col, dd, k0, k1', k2', k3, k5, hCo, hbm⟩ := XC.T.cls
  have up3 : ∀ b o, h2.get? b = some o → (h2.push (PySem.W.kxs_mw "ValueError.__init__" a)).get? b = some o := fun b o e => Heap.get?_push_of_some _ e
  refine call_mw (rest := [.str msg _]) (Heap.get?_push_size _ rfl) (up3 _ _ (KX2 _ _ hCo)) (up3 _ _ (k2 _ _ hoe)) (by show 1 ≤ sizeLine; decide) (fun h' kh hx' => ?_)
  have k' : ∀ b o, b ≠ a → h₁.get? b = some o → h'.get? b = some o := fun b o n e => kh b o n (up3 _ _ (k2 _ _ e))
  have J5 : ∀ tk', Inv (NdefX.ncx CX P w K mg base ["self", x, "__class__"] F fI A outer s H E) [] (NdefX.startF ["self", x, "__class__"] [V.ref a, v] [some (.ref C)]) H { s with heap := h', toks := tk' } := fun tk' => by
    have W := J.write (t' := tk') (x := a) (e := a) (o := exo a C none) (by rw [ha]; exact True.intro) (.inl rfl) k' ⟨_, hx'⟩ (exo_ok hx')
    have eu : upd H a (exo a C none) = H := by
      funext b
      by_cases hb' : b = a
      · rw [hb', upd_same, ha]
      · rw [upd_ne hb']
    rw [eu] at W
    exact W
  refine wpAt_of_wpAny (wpAny_mono ((pss_one (ps_ost (X := NdefX.ncx CX P w K mg base ["self", x, "__class__"] F fI A outer s H E) (pe_var (i := 0) rfl (.inl (XC.scope.par _ (by simp))) (by decide) (by decide)) (pe_var (i := 1) rfl (.inl (XC.scope.par _ (by simp))) XC.nx.2.1 XC.nx.2.2))).run [] _ _ H { nx := fun _ H' => Q .non H', rt := Q } (J5 _) ?_) (fun fl s' hs' => ?_) fun e s' z => z)
  · exact ⟨v, rfl, .ref a, rfl, a, C, rfl, XC.T, XC.noF, .inl ⟨ha, fun dx hd hn => hQ dx hd hn⟩⟩
  · cases fl with
    | next =>
      obtain ⟨σ', H', J', q'⟩ := hs'
      exact ⟨V.non, H', J'.os, J'.bare, J'.base, J'.hok, rfl, q'⟩
    | ret u' =>
      obtain ⟨v', σ', H', J', rv', q'⟩ := hs'
      exact ⟨v', H', J'.os, J'.bare, J'.base, J'.hok, rv', q'⟩
    | brk =>
      obtain ⟨_, _, _, q'⟩ := hs'
      exact q'.elim
    | cont =>
      obtain ⟨_, _, _, q'⟩ := hs'
      exact q'.elim
end
end DL
set_option Elab.async false
set_option linter.all false
set_option maxRecDepth 100000
set_option maxHeartbeats 4000000
set_option autoImplicit false
namespace DL
open PySem PySem.Spec L2
open PyProof.Rows hiding St
def leT : List Value := [.type "LookupError", .type "Exception", .type "BaseException", .type "object"]
theorem le_pass (self : Value) (C : Addr) : refuseLoop self "__setattr__" (.ref C :: leT) = pure () := by rfl
/-- what the written part says of the class -/
structure OexL (K : PySem.W.Frag) (C : Addr) : Prop where
  cls : ∃ nm q N bs sn sub ab col dd k0 k1 k2 k3 k5, K.lookup C = some (excClassObj nm q C N bs leT true sn sub ab col dd k0 k1 k2 k3 k5 "LookupError.__new__")
  sa : PySem.W.findIn K (.ref C) "__setattr__" = some (some (.builtin "object.__setattr__"))
  exC : PySem.W.subIn K (.ref C) (.type "BaseException") = some true
  tyC : PySem.W.typeIn K (.ref C) = some (.type "type")
  kC : PySem.W.keepIn K (.ref C) = true
namespace LEX
open PySem.W PySem.Calls PySem.HandSPX
open Builtin Builtin.ObjectAttr
section
variable {prog : Program} {w : World} {A : Around} {R : Result → Shared → Prop} {hp : Heap} {gs : Array GenState} {dr : Drawn} {tt : Nat} {os : OsState}
/-- the first field of such an error: object.__setattr__ -/
theorem osaL {K : W.Frag} {nm : Str} {tk : Tok} {u : Value} {e C : Addr} {fv : Array Value} {cd : ClassData} (KX : K.In hp) (he : hp.get? e = some { cls := .ref C, data := .fields fv }) (hc : W.clsIn K C = some cd) (hm : cd.mro = .ref C :: leT) (hd : cd.hasDict = true) (hf : W.findIn K (.ref C) nm = some none)
    (go : ∀ h' tk' dx, (∀ b o, b ≠ e → hp.get? b = some o → h'.get? b = some o) → hp.objs.size ≤ dx → dx ≠ e → h'.get? e = some { cls := .ref C, dict := some dx, data := .fields fv } → h'.Ns1 dx (fun y => if y = nm then some u else none) → R (.ok (.ret .none)) ⟨h', gs, dr, tk', os⟩) :
    codeAny (model prog w) A (.call (.builtin "object.__setattr__") ⟨[.ref e, .str nm tk, u], []⟩) R ⟨hp, gs, dr, tt, os⟩ := by
  have at0 : W.InstAt hp e { cls := .ref C, data := .fields fv } C none := ⟨he, rfl, rfl, trivial⟩
  have nq : e ≠ hp.objs.size := Nat.ne_of_lt (Heap.lt_size he)
  have isO : W.Looks (model prog w) hp (isInstance (.ref e) (.type "object")) true := at0.type.andThen (W.looks_mroIn KX (by
    unfold W.mroIn
    rw [hc, Option.bind_some, hm]
    rfl))
  have SO := F.store_object
  refine codeAny_call_builtin SO.slot.plain SO.entry (@W.check_slot (model prog w) _ _ ⟨hp, gs, dr, tt, os⟩ "object.__setattr__" "object" "__setattr__" (.ref e) [.str nm tk, u] [] _ SO.kind SO.split isO (SO.args (.ref e) (.str nm tk) u) ?_)
  have l1 : W.Looks (model prog w) hp (mroOf (.ref C)) (.ref C :: leT) := by
    rw [← hm]
    exact (W.looks_clsIn KX hc).andThen .now
  have l2 : W.Looks (model prog w) hp (storeTaker? none) none := .now
  have l3 : W.Looks (model prog w) hp (classData C) cd := W.looks_clsIn KX hc
  rw [W.osa_eq, refuse_eq]
  refine wpAny_bind (wpAny_bind (at0.type.at (wpAny_bind (l1.at ?_))))
  rw [le_pass]
  refine wpAny_pure (wpAny_bind (at0.type.at (wpAny_bind ((W.looks_findIn KX hf).at (wpAny_bind (l2.at ?_))))))
  show wpAny _ _ (storeInOwnDict (.ref e) (.ref C) (.str nm tk) nm u false) _ _ _
  obtain ⟨c1, c2, c3, c4, c5, c6, c7, c8, c9, c10, c11⟩ := cd
  dsimp only at hd
  subst hd
  unfold storeInOwnDict ownDictForStores
  repeat (first | with_reducible refine store_in_new ?_ ?_ | with_reducible refine wpAny_loadPart_at he ?_ | with_reducible refine l3.at ?_ | wp_step)
  · exact ⟨_, #[], _, (Heap.get?_update_ne _ _ _ _ nq.symm).trans (Heap.get?_push_at rfl rfl), rfl, fun z hz => absurd hz (by simp), fun _ => rfl⟩
  · intro h' tk' ns same
    have e1 : (hp.push { cls := .type "dict", data := .dict #[] }).get? e = some { cls := .ref C, data := .fields fv } := Heap.get?_push_of_some _ he
    exact go h' tk' hp.objs.size (fun b o nb ho => (same.2 b (Nat.ne_of_lt (Heap.lt_size ho))).trans ((Heap.get?_update_ne _ _ _ _ nb).trans (Heap.get?_push_of_some _ ho))) (Nat.le_refl _) nq.symm ((same.2 e nq).trans (Heap.get?_update_self _ e1 rfl)) ns
end
end LEX
section
variable {X : L2.Cx} {pins : List (Addr × Obj)} {σ : L2.St} {H : Hp} {s : Shared} {a C : Addr} {f : Str} {y : V} {u : Value} {Q : Unit → Shared → Prop} {E : Value → Shared → Prop} {A : Around}
theorem ost_newL (T : OexL X.K C) (I : Inv X pins σ H s) (ea : H a = some (exo a C none)) (hno : PySem.W.findIn X.K (.ref C) f = some none) (ry : RelV y u)
    (go : ∀ dx s', H dx = none → dx ≠ a → Inv X pins σ (upd (upd H dx (exd dx [(f, y)])) a (exo a C (some dx))) s' → Q () s') : wpAny (model X.prog X.w) A (setAttr (.ref a) f u) Q E s := by
  obtain ⟨n0, q0, N0, bs, sn, sb, ab, col, dd, k0, k1, k2, k3, k5, lk⟩ := T.cls
  obtain ⟨t1, ho⟩ := exo_at I.hok ea
  obtain ⟨hp, gs, dr, tk, os⟩ := s
  refine PySem.W.set_plain I.kIn (ox := { cls := .ref C, dict := none, data := .fields #[.ref t1, .none, .none, .none, .bool false, .none] }) (od := none) ⟨ho, rfl, rfl, trivial⟩ T.sa (LEX.osaL I.kIn ho (cd := { name := n0, bases := bs, mro := .ref C :: leT, ns := N0, qualname := q0, hasDict := true, slotNames := sn, subclasses := sb, abstract := ab, collection := col, hasDel := false }) (by unfold PySem.W.clsIn; rw [lk] <;> rfl) rfl rfl hno fun h' tk' dx kp fresh ne hx ns => ?_)
  have hnd : H dx = none := I.hok.fresh fresh
  have off : ∀ {b : Addr} {o : Obj}, hp.get? b = some o → b ≠ dx := fun {b o} z => Nat.ne_of_lt (Nat.lt_of_lt_of_le (Heap.lt_size z) fresh)
  have offa : ∀ {b : Addr}, H b = none → b ≠ a := fun {b} z z2 => by
    rw [z2, ea] at z
    cases z
  have U : Un X.fs [] H (upd (upd H dx (exd dx [(f, y)])) a (exo a C (some dx))) hp h' := by
    refine ⟨fun b o z n _ _ => kp b o (offa n) z, fun b o z n _ _ => ⟨o.slots, kp b o (offa n) z⟩, fun b o z n _ => ?_, fun b o z _ => ?_, fun b xs z => ?_, fun b o v z => ?_, fun b ps z => ⟨#[], ?_⟩⟩
    · rw [upd_ne (offa n), upd_ne (off z)]; exact n
    · by_cases h : b = a
      · exact ⟨_, by rw [h]; exact hx⟩
      · exact ⟨o, kp b o h z⟩
    · rw [upd_ne (at_ne ea z exo_tup), upd_ne (ne_of_none z hnd)]; exact z
    · rw [upd_ne (at_ne ea z exo_frz), upd_ne (ne_of_none z hnd)]; exact z
    · rw [upd_ne (at_ne ea z exo_tbl), upd_ne (ne_of_none z hnd), z]; simp
  refine go dx _ hnd ne (I.un (t' := tk') U fun b o z => ?_)
  by_cases h1 : b = a
  · rw [h1, upd_same] at z
    cases z
    rw [h1]
    exact exo_ok hx
  · rw [upd_ne h1] at z
    by_cases h2 : b = dx
    · rw [h2, upd_same] at z
      cases z
      rw [h2]
      exact exd_ok ns (relO_put (fs := []) ry fun _ => True.intro)
    · rw [upd_ne h2] at z
      refine (I.hok b o z).stay (fun c v hc g => kp c v ?_ g) (fun c hc => ?_) (fun c xs hc => ?_)
      · rcases hc with hc | hc
        · rw [hc]; exact h1
        · exact at_ne ea hc exo_own
      · rw [upd_ne (at_ne ea hc exo_own), upd_ne (ne_of_none hc hnd)]; exact hc
      · rw [upd_ne (at_ne ea hc exo_tup), upd_ne (ne_of_none hc hnd)]; exact hc
/-- self.f = e of such an error -/
def tOstL (K : PySem.W.Frag) (f : Str) (to te : TE) : TS := fun D σ H => te σ H fun y H1 => to σ H1 fun x H2 => ∃ a C : Addr, x = .ref a ∧ OexL K C ∧ PySem.W.findIn K (.ref C) f = some none ∧
  H2 a = some (exo a C none) ∧ ∀ dx, H2 dx = none → dx ≠ a → D.nx σ (upd (upd H2 dx (exd dx [(f, y)])) a (exo a C (some dx)))
theorem ps_ostL {o e : Expr} {to te : TE} {p' pos : Pos} (ho : PE X o to) (he : PE X e te) (hs : swapsWith e (some (.Attribute o f p')) pos.line X.env = pure false := by rfl) : PS X (.Assign [.Attribute o f p'] e pos) (tOstL X.K f to te) :=
  ⟨fun ps s0 τ G D J hyp => plainObj_wpAny_Assign_Attribute (thn (he.run ps s0 τ G _ J hyp) fun v s1 ⟨y, G1, J1, r1, q1⟩ => thn (ho.run ps s1 τ G1 _ J1 q1) fun u s2 ⟨x, G2, J2, r2, a, C, ex, T, hno, ea, q⟩ => by
    subst ex
    obtain rfl : u = Value.ref a := r2
    exact ost_newL T J2 ea hno r1 fun dx s' n ne Z => ⟨τ, _, Z, q dx n ne⟩) hs⟩
end
end DL
set_option Elab.async false
set_option linter.all false
set_option maxRecDepth 100000
set_option maxHeartbeats 4000000
set_option autoImplicit false
namespace DL
open PySem PySem.Spec L2
open PyProof.Rows hiding St
/-- what the written part says of an own error class at C, its __init__ at fI: F; its cell; the built-in error i of the class B below it -/
structure XFL (P : Program) (K : PySem.W.Frag) (C fI cc : Addr) (F : NdefX.NF) (fld x msg : Str) : Prop where
  T : OexL K C
  cl : F.cl = [(("__class__" : Str), cc)]
  scope : NdefX.NScope ["self", x, "__class__"] ["self", x] ["__class__"] F.scope
  sup : F.scope.names.lookup ("super" : Str) = some .globalImplicit
  head : ∃ ar, (F.params.posonlyargs ++ F.params.args).head? = some ar ∧ ar.arg = ("self" : Str)
  fn : ∃ oc od doc pm ctv osl, K.lookup fI = some ⟨oc, od, .func (F.fd doc pm ctv), osl⟩
  code : PySem.W.codeIn K (.ref F.c) F.qual = true
  file : ∃ a b vs d f t, K.lookup F.c = some ⟨a, b, .fields vs, d⟩ ∧ vs[2]? = some (.str f t) ∧ ((P.main.file : Str) == f) = true
  cell : ∃ a b d, K.lookup cc = some ⟨a, b, .cell (some (.ref C)), d⟩
  body : ∃ p0 p1 p2 p3 p4 p5 q0 q1 q2 q3 j, F.body = xBody fld x msg p0 p1 p2 p3 p4 p5 q0 q1 q2 q3 j ∧ ∀ L, ∃ pl, eval (.Call (.Attribute (.Call (.Name "super" p0) [] [] p1) "__init__" p2) [.Constant (.str msg) j p3] [] p4) (NdefX.envF F fI L) = (do
      let ov ← attributeBase (.Call (.Name "super" p0) [] [] p1) "__init__" (NdefX.envF F fI L) (eval (.Call (.Name "super" p0) [] [] p1) (NdefX.envF F fI L))
      standAt p2.atName
      let (f, first) ← holding [ov] (getMethod ov "__init__" pl)
      callWith p4 f first (backTo p4 (starEach [.Constant (.str msg) j p3] (NdefX.envF F fI L))) [])
  top : (P.main.scope.names.lookup ("super" : Str)).isSome = false
  opq : PySem.W.nsIn K cStatics "thirdparty.any" = some none
  sub : PySem.W.mroIn K C (.ref C) = some true
  sve : PySem.W.subIn K (.ref C) (.type "LookupError") = some true
  find : PySem.W.ks_superIn K C C "__init__" = some (some (.builtin "LookupError.__init__"))
  noF : PySem.W.findIn K (.ref C) fld = some none
  nx : x ≠ "self" ∧ (x == ("__debug__" : Str)) = false ∧ (x == ("__classdict__" : Str)) = false
section
variable {P : Program} {w : World} {K : PySem.W.Frag} {mg : Str → Option Value} {base : Heap} {CX : CXT} {C fI cc : Addr} {F : NdefX.NF} {fld x msg : Str}
theorem call_mwL {prog : Program} {w : World} {A : Around} {E : Value → Shared → Prop} {h : Heap} {g : Array GenState} {d : Drawn} {t : Nat} {os : OsState} {nm q : Str} {C N u e t0 : Addr} {bs bm : List Value} {hdct : Bool} {sn : List Str} {sub : List Value} {ab : Bool} {col : Option Bool} {dd : Option Addr} {k0 k1 k2 k3 k5 : Option Value} {rest : List Value} {Q : Value → Shared → Prop}
    (hu : h.get? u = some (PySem.W.kxs_mw "LookupError.__init__" e)) (hC : h.get? C = some (excClassObj nm q C N bs bm hdct sn sub ab col dd k0 k1 k2 k3 k5 "LookupError.__new__")) (he : h.get? e = some ({ cls := .ref C, dict := none, data := .fields #[.ref t0, .none, .none, .none, .bool false, .none] } : Obj)) (hz : rest.length ≤ sizeLine)
    (hq : ∀ h', (∀ b o, b ≠ e → h.get? b = some o → h'.get? b = some o) → h'.get? e = some ({ cls := .ref C, dict := none, data := .fields #[.ref h.objs.size, .none, .none, .none, .bool false, .none] } : Obj) → Q .none ⟨h', g, d, t, os⟩) :
    wpAny (model prog w) A (call (.ref u) rest) Q E ⟨h, g, d, t, os⟩ := by
  refine wpAny_call (codeAny_of_tree ?_)
  show wpAny _ A.in1 (callAny (.ref u) ⟨rest, []⟩) _ _ _
  unfold callAny
  refine wpAny_bind (wpAny_load hu ?_)
  simp only [PySem.W.kxs_mw, show (Value.type "method-wrapper" == Value.type "method" || Value.type "method-wrapper" == Value.type "builtin_function_or_method" || Value.type "method-wrapper" == Value.type "method-wrapper") = true from by decide, if_true]
  refine PySem.W.KFB.if_so (by decide) ?_
  refine wpAny_bind (PySem.W.check_bound_init PySem.F.excBase_LookupError.toExcCallFacts hC he rfl ?_)
  refine wpAny_bind (wpAny_pure (wpAny_pure ?_))
  refine ⟨plainId_quiet PySem.F.excBase_LookupError.init.plain _, codeAny_builtin PySem.F.excBase_LookupError.initEntry ?_⟩
  exact PySem.W.exc_init_tree (cls := .ref C) (t0 := t0) (dv := none) (c2 := .none) (c3 := .none) (b4 := .bool false) he hz fun h' k x _ => hq h' k x
theorem xinitL (XC : XFL P K C fI cc F fld x msg) (hs : mg "super" = none) (doc pm ctv : Value) (hfn : ∃ oc od osl, K.lookup fI = some ⟨oc, od, .func (F.fd doc pm ctv), osl⟩) :
    FnOk P w K mg base CX 2 fI (F.fd doc pm ctv) ["self", x] (spXI C fld) := by
  refine ⟨fun vs H Q E ⟨_, _, e, _⟩ => by rw [e]; rfl, fun A outer s H args us vs Q E hr e0 hb r hsp => ?_⟩
  obtain ⟨a, v, rfl, ha, hQ⟩ := hsp
  obtain ⟨oc, od, osl, lk⟩ := hfn
  have bk : ∀ b o, base.get? b = some o → s.heap.get? b = some o := fun b o e => (e0.bs b o e).1
  have KX : K.In s.heap := e0.mod.kin.keeps bk
  cases r with
  | @cons _ u0 _ ur ra rr =>
  cases rr with
  | @cons _ u1 _ ur2 rv rn =>
  cases rn
  obtain rfl : u0 = Value.ref a := ra
  obtain ⟨p0, p1, p2, p3, p4, p5, q0, q1, q2, q3, j, eb, hev⟩ := XC.body
  obtain ⟨ca, cb, cd, hcell⟩ := XC.cell
  refine PySem.ks_codeAny_call_defAt (fd := F.fd doc pm ctv) (body := F.body) (binds := ([("self" : Str), x]).zip [Value.ref a, u1]) hr.depth (KX _ _ lk) rfl (e0.mod.nolimit.keeps bk) (PySem.W.codeRec_of KX XC.code) rfl hb XC.scope.nocell (fun ⟨n, _⟩ hy => XC.scope.par n (List.of_mem_zip hy).1) (fun h₁ hns kp => ?_) XC.scope.co XC.scope.gen XC.scope.kind
  have cells : NdefX.CellsAt F.cl ["__class__"] [some (.ref C)] s.heap H := by
    have hl : ∀ y c, F.cl.lookup y = some c → c = cc ∧ y = ("__class__" : Str) := fun y c e => by
      rw [XC.cl] at e
      by_cases z : y = ("__class__" : Str)
      · rw [z] at e
        exact ⟨(Option.some.inj e).symm, z⟩
      · have : ([(("__class__" : Str), cc)] : List (Str × Addr)).lookup y = none := by
          show (match y == ("__class__" : Str) with | true => some cc | false => none) = none
          rw [beq_eq_false_iff_ne.mpr z]
        rw [this] at e
        cases e
    have hc : H cc = none := (e0.bs cc _ (e0.mod.kin _ _ hcell)).2
    refine ⟨rfl, fun y c e => ?_, fun y z c e1 e2 => ?_, fun i y e => ?_⟩
    · rw [(hl y c e).1]
      exact ⟨hc, _, _, KX _ _ hcell, rfl⟩
    · rw [(hl y c e1).2, (hl z c e2).2]
    · match i, e with
      | 0, e =>
        cases e
        refine ⟨cc, by rw [XC.cl]; rfl, fun v' e' => ?_⟩
        cases e'
        exact ⟨.ref C, rfl, _, KX _ _ hcell, rfl⟩
      | i + 1, e => simp at e
  have J := NdefX.inv_startN (CX := CX) (f := fI) (E := E) (tk := s.toks + (([("self" : Str), x]).zip [Value.ref a, u1]).length) XC.scope hr.hd e0 (vs := [V.ref a, v]) (us := [Value.ref a, u1]) rfl (show L2.Vals [V.ref a, v] [Value.ref a, u1] from .cons rfl (.cons rv .nil)) cells hns kp
  show PySem.wpAt _ (A.deeper (NdefX.envF F fI s.heap.objs.size)) (.func F.body (NdefX.envF F fI s.heap.objs.size)) (execs F.body (NdefX.envF F fI s.heap.objs.size)) _ _ _
  rw [eb]
  unfold xBody
  have KX1 : K.In h₁ := KX.keeps kp
  obtain ⟨t1, hoe⟩ := exo_at J.hok ha
  obtain ⟨ar, har, hself⟩ := XC.head
  obtain ⟨fa, fb, fvs, fd', ff, ft, hcode, hvs, hfile⟩ := XC.file
  have hfindc := XC.find
  unfold PySem.W.ks_superIn at hfindc
  obtain ⟨cdC, hcl, hal⟩ := Option.bind_eq_some_iff.mp hfindc
  obtain ⟨oC, hC1, hC2⟩ := clsObj KX1 hcl
  obtain ⟨mb, hmb, hbb⟩ := e0.mod.blt
  have k1 : ∀ b o, base.get? b = some o → h₁.get? b = some o := fun b o e => kp b o (bk b o e)
  obtain ⟨pl, hpl⟩ := hev s.heap.objs.size
  refine PySem.ks_wpAt_execs_cons (PySem.ks_wpAt_Expr_any (PySem.ks_wpAt_MethodCall (pl := pl) ?_ hpl) (by show (F.scope.kind == .module && _) = false; rw [XC.scope.kind]; rfl))
  refine PySem.ks_wpAt_super_base (f := fI) (cc := F.c) (ar := ar) XC.sup (XC.scope.frk _ (by simp)) (by decide) rfl (KX1 _ _ lk) rfl har rfl (KX1 _ _ hcode) rfl hvs hfile XC.top ?_
  refine PySem.W.ks_loadName_global XC.scope.kind XC.sup (Calls.loadGlobal_builtin (e0.mod.glob.keeps k1) hs (hmb.keeps k1) ((hbb _ (by decide +kernel)).trans PyProof.Rows.Boot.super) ⟨rfl, ?_⟩)
  refine wpAny_loadName_free XC.scope.kind (XC.scope.frk _ (by simp)) (by show F.cl.lookup _ = _; rw [XC.cl]; rfl) ⟨_, KX1 _ _ hcell, rfl⟩ ?_
  rw [hself]
  refine wpAny_loadName_local XC.scope.kind (XC.scope.par _ (by simp)) hns (by
    show (match ("self" : Str) == x with | true => some u1 | false => (match ("self" : Str) == ("self" : Str) with | true => some (Value.ref a) | false => none)) = some (Value.ref a)
    rw [beq_eq_false_iff_ne.mpr (Ne.symm XC.nx.1), beq_self_eq_true]) ?_
  refine PySem.ks_wpAny_isType_cls hC1 hC2 ⟨rfl, ?_⟩
  refine PySem.ks_wpAny_call_super hC1 hC2 hoe rfl (fun c e => by cases e) (PySem.W.looks_mroIn KX1 XC.sub) (fun h2 hso k2 => ?_)
  have KX2 : K.In h2 := KX1.keeps k2
  have I2 : PySem.W.InstAt h2 a { cls := .ref C, dict := none, data := .fields #[.ref t1, .none, .none, .none, .bool false, .none] } C none := ⟨k2 _ _ hoe, rfl, rfl, trivial⟩
  have hne : a ≠ C := fun z => by
    rw [z, hC1] at hoe
    cases hoe
    cases hC2
  refine PySem.W.kxs_getMethod PySem.W.kxs_LookupError hso (PySem.W.looks_opaque KX2 XC.opq) (l₀ := cdC.mro) (fun A' Q' E' s' k q => wpAny_bind ((PySem.W.looks_clsIn KX2 hcl) A' _ E' s' k (wpAny_pure q))) rfl KX2 hal (I2.type.andThen (PySem.W.looks_subIn KX2 XC.sve)) hne (by decide) ?_
  show wpAny _ _ (callWith p4 (.ref h2.objs.size) [] ((false, eval (.Constant (.str msg) j p3) (NdefX.envF F fI s.heap.objs.size)) :: []) []) _ _ _
  refine PySem.W.kxs_callWith (i := "LookupError.__init__") (x := a) rfl (Calls.evalArgs_plain (Calls.spliced_cons (Calls.Constant_str (Calls.spliced_nil ⟨Heap.get?_push_size _ rfl, ?_⟩))))
  obtain ⟨nm, q, N', bs, sn, sub, ab, col, dd, k0, k1', k2', k3, k5, hCo⟩ := XC.T.cls
  have up3 : ∀ b o, h2.get? b = some o → (h2.push (PySem.W.kxs_mw "LookupError.__init__" a)).get? b = some o := fun b o e => Heap.get?_push_of_some _ e
  refine call_mwL (rest := [.str msg _]) (Heap.get?_push_size _ rfl) (up3 _ _ (KX2 _ _ hCo)) (up3 _ _ (k2 _ _ hoe)) (by show 1 ≤ sizeLine; decide) (fun h' kh hx' => ?_)
  have k' : ∀ b o, b ≠ a → h₁.get? b = some o → h'.get? b = some o := fun b o n e => kh b o n (up3 _ _ (k2 _ _ e))
  have J5 : ∀ tk', Inv (NdefX.ncx CX P w K mg base ["self", x, "__class__"] F fI A outer s H E) [] (NdefX.startF ["self", x, "__class__"] [V.ref a, v] [some (.ref C)]) H { s with heap := h', toks := tk' } := fun tk' => by
    have W := J.write (t' := tk') (x := a) (e := a) (o := exo a C none) (by rw [ha]; exact True.intro) (.inl rfl) k' ⟨_, hx'⟩ (exo_ok hx')
    have eu : upd H a (exo a C none) = H := by
      funext b
      by_cases hb' : b = a
      · rw [hb', upd_same, ha]
      · rw [upd_ne hb']
    rw [eu] at W
    exact W
  refine wpAt_of_wpAny (wpAny_mono ((pss_one (ps_ostL (X := NdefX.ncx CX P w K mg base ["self", x, "__class__"] F fI A outer s H E) (pe_var (i := 0) rfl (.inl (XC.scope.par _ (by simp))) (by decide) (by decide)) (pe_var (i := 1) rfl (.inl (XC.scope.par _ (by simp))) XC.nx.2.1 XC.nx.2.2))).run [] _ _ H { nx := fun _ H' => Q .non H', rt := Q } (J5 _) ?_) (fun fl s' hs' => ?_) fun e s' z => z)
  · exact ⟨v, rfl, .ref a, rfl, a, C, rfl, XC.T, XC.noF, ha, fun dx hd hn => hQ dx hd hn⟩
  · cases fl with
    | next =>
      obtain ⟨σ', H', J', q'⟩ := hs'
      exact ⟨V.non, H', J'.os, J'.bare, J'.base, J'.hok, rfl, q'⟩
    | ret u' =>
      obtain ⟨v', σ', H', J', rv', q'⟩ := hs'
      exact ⟨v', H', J'.os, J'.bare, J'.base, J'.hok, rv', q'⟩
    | brk =>
      obtain ⟨_, _, _, q'⟩ := hs'
      exact q'.elim
    | cont =>
      obtain ⟨_, _, _, q'⟩ := hs'
      exact q'.elim
end
end DL
set_option Elab.async false
set_option linter.all false
set_option maxRecDepth 100000
set_option maxHeartbeats 4000000
set_option autoImplicit false
namespace DL
open PySem PySem.Spec L2
open PyProof.Rows hiding St
/-- the class named x is an error of the package: its number is c -/
structure XCls (P : Program) (K : PySem.W.Frag) (mg : Str → Option Value) (et : ET) (c : Nat) (x : Str) : Prop where
  ex : ∃ fI cc F a msg, mg x = some (.ref (et.cls c)) ∧ PySem.W.findIn K (.ref (et.cls c)) "__init__" = some (some (.ref fI)) ∧ PySem.W.typeIn K (.ref fI) = some (.type "function") ∧ (XF P K (et.cls c) fI cc F (et.fld c) a msg ∨ XFL P K (et.cls c) fI cc F (et.fld c) a msg) ∧
    (∀ (doc pm ctv : Value) (us : List Value), us.length = 2 → bindArgs (F.fd doc pm ctv) ⟨us, []⟩ = pure ([("self" : Str), a].zip us)) ∧
    (∀ (doc pm ctv s v : Value), bindArgs (F.fd doc pm ctv) ⟨[s], [(a, v)]⟩ = pure ([("self" : Str), a].zip [s, v])) ∧ a = et.fld c
def mRaise (c : Nat) (f : Sg → Rs Sg DV) (g : Sg) : Rs Sg Fl := (f g).bind fun d g1 => match d with
  | .pu p => .ex c p g1
  | _ => .no
end DL
set_option Elab.async false
set_option linter.all false
set_option maxRecDepth 100000
set_option maxHeartbeats 4000000
set_option autoImplicit false
namespace DL
open PySem PySem.Spec L2
open PyProof.Rows hiding St
def ExO (a : Addr) (o : Obj) : HO := .ext fun h => h.get? a = some o
abbrev Obs := List (Addr × Obj)
/-- untracked so far, and in the heap -/
def Cs (H : Hp) (h : Heap) (L : Obs) : Prop := ∀ b o, L.lookup b = some o → H b = none ∧ h.get? b = some o
/-- tracked -/
def Ct (H : Hp) (L : Obs) : Prop := ∀ b o, L.lookup b = some o → H b = some (ExO b o)
theorem Cs.out {H : Hp} {h : Heap} {L : Obs} (c : Cs H h L) {b : Addr} {u : HO} (e : H b = some u) : L.lookup b = none := by
  cases q : L.lookup b with
  | none => rfl
  | some o => rw [(c b o q).1] at e; cases e
theorem Ct.out {H : Hp} {L : Obs} (c : Ct H L) {b : Addr} {u : HO} (e : H b = some u) (n : ∀ o, u ≠ ExO b o) : L.lookup b = none := by
  cases q : L.lookup b with
  | none => rfl
  | some o => rw [c b o q] at e; exact absurd (Option.some.inj e).symm (n o)
/-- the errors and tables alone -/
def etB (et : ET) : ET := ⟨et.hs, et.cls, et.fld, et.T, fun _ _ _ _ => False, fun _ _ _ _ _ _ h => h⟩
def upR : Rs MS PyData → Rs MS DV
  | .ok d s => .ok (.pu d) s
  | .ex c p s => .ex c p s
  | .no => .no
def CloOk (P : Program) (w : World) (K : PySem.W.Frag) (mg : Str → Option Value) (base : Heap) (eb : ET) (k : Nat) (G : MS → Rs MS PyData) (am : Addr) (F : Hp) (v : V) : Prop :=
  ∃ f o, v = .ref f ∧ F f = some (ExO f o) ∧ (∀ h : Heap, h.get? f = some o → PySem.W.FnAt f h) ∧ ∀ (A : Around) (outer : List Env) (s : Shared) (H F' : Hp) (ms : MS) (Q : VK) (E : XK), Room k A → A.guards = some [] → Env0 P w K mg base A outer s H → Same F F' → Same F' H → Fz eb am F' H → MRel K eb am F' H ms →
    OkC K eb am F' H Q E (upR (G ms)) → codeAny (model P w) A (.call (.ref f) ⟨[], []⟩) (CR (L2.CX P w) outer P w H s Q E) s
theorem CloOk.mono {P : Program} {w : World} {K : PySem.W.Frag} {mg : Str → Option Value} {base : Heap} {eb : ET} {k : Nat} (G : MS → Rs MS PyData) (am : Addr) (F F' : Hp) (v : V) (s : Same F F') (h : CloOk P w K mg base eb k G am F v) : CloOk P w K mg base eb k G am F' v := by
  obtain ⟨f, o, e, e2, e3, r⟩ := h
  exact ⟨f, o, e, s _ _ e2, e3, fun A outer st H F2 ms Q E hr hg e0 s2 => r A outer st H F2 ms Q E hr hg e0 (Same.tr s s2)⟩
theorem Fz.b {et : ET} {am : Addr} {F H : Hp} (f : Fz et am F H) : Fz (etB et) am F H := ⟨f.am, f.tabs, f.off⟩
theorem Fz.ub {et : ET} {am : Addr} {F H : Hp} (f : Fz (etB et) am F H) : Fz et am F H := ⟨f.am, f.tabs, f.off⟩
theorem MRel.etc {K : PySem.W.Frag} {et et' : ET} {am : Addr} {F H : Hp} {s : MS} (q : et.hs = et'.hs ∧ et.cls = et'.cls ∧ et.fld = et'.fld) (h : MRel K et am F H s) : MRel K et' am F H s := by
  obtain ⟨ac, e, d⟩ := h
  exact ⟨ac, e, Dn.etc q d⟩
theorem ExRel.ub {K : PySem.W.Frag} {et : ET} {F H : Hp} {c : Nat} {p : PyData} {cls : Value} {d : Option Addr} (h : ExRel K (etB et) F H c p cls d) : ExRel K et F H c p cls d := by
  obtain ⟨e, da, v, h1, h2, h3⟩ := h
  exact ⟨e, da, v, h1, h2, Dn.etc (et := etB et) (et' := et) ⟨rfl, rfl, rfl⟩ h3⟩
theorem OkC.b {K : PySem.W.Frag} {et : ET} {am : Addr} {F H : Hp} {Q : VK} {E : XK} {r : Rs MS PyData} (h : OkC K et am F H Q E (upR r)) : OkC K (etB et) am F H Q E (upR r) := by
  cases r with
  | ok d s => exact fun v F' H' x1 x2 x3 x4 x5 x6 => h v F' H' x1 x2 x3.ub x4 (MRel.etc (et := etB et) (et' := et) ⟨rfl, rfl, rfl⟩ x5) (Dn.etc (et := etB et) (et' := et) ⟨rfl, rfl, rfl⟩ x6)
  | ex c p s => exact fun cls dx F' H' x1 x2 x3 x4 x5 x6 => h cls dx F' H' x1 x2 x3.ub x4 (MRel.etc (et := etB et) (et' := et) ⟨rfl, rfl, rfl⟩ x5) x6.ub
  | no => exact h
end DL
set_option Elab.async false
set_option linter.all false
set_option maxRecDepth 100000
set_option maxHeartbeats 4000000
set_option autoImplicit false
set_option Elab.async false
set_option linter.all false
set_option maxRecDepth 100000
set_option maxHeartbeats 4000000
set_option autoImplicit false
namespace DL
open PySem PySem.Spec L2
open PyProof.Rows hiding St
/-- a heap of one kind of objects -/
def heapOf (c : Addr) (cl : Value) (d : Option Addr) (vs : Array Value) : Heap := { objs := Array.replicate (c + 1) { cls := cl, dict := d, data := .fields vs } }
theorem heapOf_get {c : Addr} {cl : Value} {d : Option Addr} {vs : Array Value} : (heapOf c cl d vs).get? c = some { cls := cl, dict := d, data := .fields vs } := by
  unfold heapOf Heap.get?
  simp [Array.getElem?_replicate]
theorem heapOf_any {c a : Addr} {cl : Value} {d : Option Addr} {vs : Array Value} {u : Obj} (e : (heapOf c cl d vs).get? a = some u) : u = { cls := cl, dict := d, data := .fields vs } := by
  unfold heapOf Heap.get? at e
  simp only [Array.getElem?_replicate] at e
  split at e
  · cases e
  · rename_i hq
    split at e
    · cases e; rfl
    · cases e
theorem Ct.up {F F' : Hp} {L : Obs} (c : Ct F L) (s : Same F F') : Ct F' L := fun b o e => s _ _ (c b o e)
end DL
set_option Elab.async false
set_option linter.all false
set_option maxRecDepth 100000
set_option maxHeartbeats 4000000
set_option autoImplicit false
namespace DL
open PySem PySem.Spec L2
open PyProof.Rows hiding St
def ov (B H : Hp) (M : List Addr) : Hp := fun b => if b ∈ M then H b else B b
/-- the tables' change is no change of what is told here -/
theorem RepF.tab {K : PySem.W.Frag} {et : ET} {am : Addr} {B F H H1 : Hp} {g : Sg} {σ : St} {P : Addr} {q : Str} (R : RepF K et am B F g σ H) (hm : (P, q) ∈ et.T) (eN : ∀ b o, H b = some o → b ≠ P → H1 b = some o) (T1 : LamX.Tabs et.T H1) : RepF K et am B F g σ H1 := by
  obtain ⟨ps, hP, _⟩ := R.fam.tabs _ hm
  have nP : ∀ {b : Addr} {u : HO}, H b = some u → (∀ ps, u ≠ .tbl ps) → b ≠ P := fun e n z => by
    rw [z] at e
    rw [show H P = some (.tbl ps) from hP] at e
    exact n ps (Option.some.inj e).symm
  have nF : ∀ {b : Addr} {u : HO}, F b = some u → b ≠ P := fun e z => by
    rw [z, R.fam.off _ hm] at e
    cases e
  refine ⟨fun b u e => eN b u (R.sub b u e) (nF e), ⟨R.fam.am, T1, R.fam.off⟩, fun a u e fr => eN a u (R.base a u e fr) (fr.2 _ hm), R.len, fun i x e => ?_, R.inj, ?_⟩
  · obtain ⟨v, e1, e2⟩ := R.slot i x e
    exact ⟨v, e1, e2.keep Same.rfl' fun a u _ _ fa ba na ha ow => ⟨fa, ba, eN a _ ha (nP ha ow.tbl)⟩⟩
  · obtain ⟨ac, e1, e2⟩ := R.ms
    exact ⟨ac, eN am _ e1 (nP e1 fun _ z => by cases z), e2⟩
end DL
set_option Elab.async false
set_option linter.all false
set_option maxRecDepth 100000
set_option maxHeartbeats 4000000
set_option autoImplicit false
namespace DL
open PySem PySem.Spec L2
open PyProof.Rows hiding St
/-- what a class of errors must say, so that isinstance asks its instances rightly, and fields can be read -/
structure XC (K : PySem.W.Frag) (D : Addr) : Prop where
  cl : (PySem.W.clsIn K D).isSome = true
  ga : PySem.W.findIn K (.ref D) "__getattribute__" = some (some (.builtin "BaseException.__getattribute__"))
  gg : PySem.W.findIn K (.ref D) "__getattr__" = some none
  sb : PySem.W.subIn K (.ref D) (.type "BaseException") = some true
  hd : PySem.W.hasDictIn K D = true
  ca : PySem.W.findIn K (.ref D) "__class__" = some (some (.builtin "object.__class__"))
  cg : PySem.W.specialIn K (.builtin "object.__class__") "__get__" = some (some (.builtin "getset_descriptor.__get__"))
  ct : PySem.W.takesIn K (.builtin "object.__class__") = some true
  ob : PySem.W.mroIn K D (.type "object") = some true
/-- the object of an error held as a value -/
theorem excV_at {P : Program} {w : World} {K : PySem.W.Frag} {et : ET} {F H : Hp} {h : Heap} {c : Nat} {p : PyData} {v : V} (x : ExcV K et F v c p) (sub : Same F H) (hok : HOk P w H h) :
    ∃ (e d : Addr) (u : V) (oe od : Obj) (mA : Str → Option Value), v = .ref e ∧ PySem.W.InstAt h e oe (et.cls c) (some od) ∧ PySem.W.lookIn (et.fld c) od = some (mA (et.fld c)) ∧ (∃ uv, mA (et.fld c) = some uv ∧ L2.RelV u uv) ∧ Dn K et F u p := by
  obtain ⟨e, d, u, rfl, h1, h2, h3⟩ := x
  obtain ⟨⟨oe, vs, a1, a2, a3, a4⟩, _, _⟩ := hok e _ (sub _ _ h1)
  obtain ⟨mA, hns, hr⟩ := hok d _ (sub _ _ h2)
  obtain ⟨od, ho, hl⟩ := lookIn_ns hns
  obtain ⟨uv, hu, ru⟩ := RelO.some_of (v := u) (o := mA (et.fld c)) (by
    have := hr (et.fld c)
    rw [show ([(et.fld c, u)] : List (Str × V)).lookup (et.fld c) = some u from by simp [List.lookup]] at this
    exact this)
  exact ⟨e, d, u, oe, od, mA, rfl, ⟨a1, a2, by unfold PySem.W.notCls; rw [a4], by rw [a3]; exact ho⟩, hl _, ⟨uv, hu, ru⟩, h3⟩
end DL
set_option Elab.async false
set_option linter.all false
set_option maxRecDepth 100000
set_option maxHeartbeats 4000000
set_option autoImplicit false
namespace DL
open PySem PySem.Spec L2
open PyProof.Rows hiding St
theorem XO_ok {P : Program} {w : World} {H : Hp} {h : Heap} {a C d : Addr} {oe : Obj} {vs : Array Value} (e : h.get? a = some oe) (h1 : oe.cls = .ref C) (h2 : oe.dict = some d) (h3 : oe.data = .fields vs) : ObjOk P w H h a (XO a C d) :=
  ⟨⟨oe, vs, e, h1, h2, h3⟩, ⟨oe, e⟩, fun _ _ ⟨o, vs', e1, e2, e3, e4⟩ k => ⟨o, vs', k o e1, e2, e3, e4⟩⟩
theorem RepF.drop {K : PySem.W.Frag} {et : ET} {am : Addr} {B F : Hp} {g : Sg} {σ σ' : L2.St} {H : Hp} (R : RepF K et am B F g σ H) (i : Nat) (hl : σ'.length = σ.length) (h : ∀ k, k ≠ i → σ'[k]? = σ[k]?) : RepF K et am B F { g with r := g.r.set i none } σ' H := by
  have key : ∀ {k : Nat} {x : DV}, (g.r.set i none)[k]? = some (some x) → k ≠ i ∧ g.r[k]? = some (some x) := fun {k x} e => by
    by_cases z : i = k
    · subst z
      by_cases hl : i < g.r.length
      · rw [List.getElem?_set_self hl] at e; cases e
      · rw [List.getElem?_eq_none (by rw [List.length_set]; omega)] at e; cases e
    · rw [List.getElem?_set_ne z] at e
      exact ⟨Ne.symm z, e⟩
  refine ⟨R.sub, R.fam, R.base, by show σ'.length = (g.r.set i none).length; rw [List.length_set, hl]; exact R.len, fun k x e => ?_, fun k l x1 x2 a e1 e2 o1 o2 e3 e4 => ?_, R.ms⟩
  · obtain ⟨n, e'⟩ := key e
    obtain ⟨v, h1, h2⟩ := R.slot k x e'
    exact ⟨v, by rw [h k n]; exact h1, h2⟩
  · obtain ⟨n1, e1'⟩ := key e1
    obtain ⟨n2, e2'⟩ := key e2
    rw [h k n1] at e3
    rw [h l n2] at e4
    exact R.inj k l x1 x2 a e1' e2' o1 o2 e3 e4
end DL
set_option Elab.async false
set_option linter.all false
set_option maxRecDepth 100000
set_option maxHeartbeats 4000000
set_option autoImplicit false
namespace DL
open PySem PySem.Spec L2
open PyProof.Rows hiding St
abbrev FnI : Type := Option (Str × Str × Arguments × FuncBody × Scope × Addr × List Str × Value × Value × Option Addr × Addr)
def iniObs (K : PySem.W.Frag) (x : Str) : FnI := match K.lookup (He.ma K (He.ga K x) "__init__") with
  | some ⟨_, _, .func fd, _⟩ => some (fd.name, fd.qualname, fd.params, fd.body, fd.scope, fd.globals, fd.closure.map (·.1), fd.defaults, fd.kwdefaults, fd.annotations, fd.builtins)
  | _ => none
/-- a class with its one def, its field, the parameter -/
structure IniD where
  x : Str
  st : Stmt
  fld : Str
  par : Str
  msg : Str
def iFun : Stmt → Stmt
  | .ClassDef _ _ _ (b :: _) _ _ _ _ _ _ _ => b
  | s => s
abbrev IniD.q (d : IniD) : Str := d.x ++ ".__init__"
def IniD.val (d : IniD) : FnI := some ("__init__", d.q, defArgs (iFun d.st), .stmts (defBody (iFun d.st)), defScope (iFun d.st), mainGlobals, ["__class__"], .none, .none, none, builtinsNs)
abbrev IniD.nf (d : IniD) (cl : List (Str × Addr)) (c : Addr) : NdefX.NF := ⟨"__init__", d.q, defArgs (iFun d.st), defBody (iFun d.st), defScope (iFun d.st), cl, c⟩
def oexB (K : PySem.W.Frag) (C : Addr) : Bool := match K.lookup C with
  | some ⟨.type t, _, .cls cd, sl⟩ => (match cd.mro, sl.toList with
    | .ref C' :: bm, [_, _, _, _, some (.builtin n), _] => decide (t = "type") && (decide (C' = C) && (decide (n = "ValueError.__new__") && (!cd.hasDel && (cd.hasDict && PySem.HandSPX.refsVE bm))))
    | _, _ => false)
  | _ => false
def oexBL (K : PySem.W.Frag) (C : Addr) : Bool := match K.lookup C with
  | some ⟨.type t, _, .cls cd, sl⟩ => (match cd.mro, sl.toList with
    | [.ref C', .type m1, .type m2, .type m3, .type m4], [_, _, _, _, some (.builtin n), _] => decide (t = "type") && (decide (C' = C) && (decide (n = "LookupError.__new__") && (!cd.hasDel && (cd.hasDict && (decide (m1 = "LookupError") && (decide (m2 = "Exception") && (decide (m3 = "BaseException") && decide (m4 = "object"))))))))
    | _, _ => false)
  | _ => false
def xcB (K : PySem.W.Frag) (D : Addr) : Bool := (PySem.W.clsIn K D).isSome && (He.eqO (PySem.W.findIn K (.ref D) "__getattribute__") (some (some (.builtin "BaseException.__getattribute__"))) && (He.eqO (PySem.W.findIn K (.ref D) "__getattr__") (some none) &&
  (decide (PySem.W.subIn K (.ref D) (.type "BaseException") = some true) && (PySem.W.hasDictIn K D && (He.eqO (PySem.W.findIn K (.ref D) "__class__") (some (some (.builtin "object.__class__"))) &&
  (He.eqO (PySem.W.specialIn K (.builtin "object.__class__") "__get__") (some (some (.builtin "getset_descriptor.__get__"))) && (decide (PySem.W.takesIn K (.builtin "object.__class__") = some true) && decide (PySem.W.mroIn K D (.type "object") = some true))))))))
def cellB (K : PySem.W.Frag) (C : Addr) (file : Str) (fI : Addr) : Bool := match K.lookup fI with
  | some ⟨_, _, .func fd, _⟩ => (match fd.closure, fd.code with
    | [(_, cc)], .ref c => (match K.lookup cc, K.lookup c with
      | some ⟨_, _, .cell (some (.ref C')), _⟩, some ⟨_, _, .fields vs, _⟩ => decide (C' = C) && (PySem.W.codeIn K (.ref c) fd.qualname && (match (vs[2]? : Option Value) with
        | some (.str f _) => file == f
        | _ => false))
      | _, _ => false)
    | _, _ => false)
  | _ => false
def iniB (file : Str) (K : PySem.W.Frag) (d : IniD) : Bool := He.eqO (PySem.W.nsIn K mainGlobals d.x) (some (some (.ref (He.ga K d.x)))) && (oexB K (He.ga K d.x) && (He.eqO (PySem.W.findIn K (.ref (He.ga K d.x)) "__setattr__") (some (some (.builtin "object.__setattr__"))) &&
  (decide (PySem.W.subIn K (.ref (He.ga K d.x)) (.type "BaseException") = some true) && (decide (PySem.W.typeIn K (.ref (He.ga K d.x)) = some (.type "type")) && (PySem.W.keepIn K (.ref (He.ga K d.x)) && (cellB K (He.ga K d.x) file (He.ma K (He.ga K d.x) "__init__") &&
  (He.eqO (PySem.W.findIn K (.ref (He.ga K d.x)) "__init__") (some (some (.ref (He.ma K (He.ga K d.x) "__init__")))) && (decide (PySem.W.typeIn K (.ref (He.ma K (He.ga K d.x) "__init__")) = some (.type "function")) && (He.eqO (PySem.W.nsIn K cStatics "thirdparty.any") (some none) &&
  (decide (PySem.W.mroIn K (He.ga K d.x) (.ref (He.ga K d.x)) = some true) && (decide (PySem.W.subIn K (.ref (He.ga K d.x)) (.type "ValueError") = some true) && (He.eqO (PySem.W.ks_superIn K (He.ga K d.x) (He.ga K d.x) "__init__") (some (some (.builtin "ValueError.__init__"))) &&
  He.eqO (PySem.W.findIn K (.ref (He.ga K d.x)) d.fld) (some none)))))))))))))
def iniBL (file : Str) (K : PySem.W.Frag) (d : IniD) : Bool := He.eqO (PySem.W.nsIn K mainGlobals d.x) (some (some (.ref (He.ga K d.x)))) && (oexBL K (He.ga K d.x) && (He.eqO (PySem.W.findIn K (.ref (He.ga K d.x)) "__setattr__") (some (some (.builtin "object.__setattr__"))) &&
  (decide (PySem.W.subIn K (.ref (He.ga K d.x)) (.type "BaseException") = some true) && (decide (PySem.W.typeIn K (.ref (He.ga K d.x)) = some (.type "type")) && (PySem.W.keepIn K (.ref (He.ga K d.x)) && (cellB K (He.ga K d.x) file (He.ma K (He.ga K d.x) "__init__") &&
  (He.eqO (PySem.W.findIn K (.ref (He.ga K d.x)) "__init__") (some (some (.ref (He.ma K (He.ga K d.x) "__init__")))) && (decide (PySem.W.typeIn K (.ref (He.ma K (He.ga K d.x) "__init__")) = some (.type "function")) && (He.eqO (PySem.W.nsIn K cStatics "thirdparty.any") (some none) &&
  (decide (PySem.W.mroIn K (He.ga K d.x) (.ref (He.ga K d.x)) = some true) && (decide (PySem.W.subIn K (.ref (He.ga K d.x)) (.type "LookupError") = some true) && (He.eqO (PySem.W.ks_superIn K (He.ga K d.x) (He.ga K d.x) "__init__") (some (some (.builtin "LookupError.__init__"))) &&
  He.eqO (PySem.W.findIn K (.ref (He.ga K d.x)) d.fld) (some none)))))))))))))
/-- by its base -/
def iniX (file : Str) (K : PySem.W.Frag) (d : IniD) : Bool := if decide (d.x = "Nothing") = true then iniBL file K d else iniB file K d
theorem oexB_ok {K : PySem.W.Frag} {C : Addr} (h : oexB K C = true) : ∃ nm q N bs bm sn sub ab col dd k0 k1 k2 k3 k5, K.lookup C = some (excClassObj nm q C N bs bm true sn sub ab col dd k0 k1 k2 k3 k5 "ValueError.__new__") ∧ PySem.HandSPX.refsVE bm = true := by
  unfold oexB at h
  split at h
  · rename_i t dd cd sl ho
    split at h
    · rename_i C' bm k0 k1 k2 k3 n k5 hm hs
      simp only [Bool.and_eq_true, decide_eq_true_eq, Bool.not_eq_true'] at h
      obtain ⟨rfl, rfl, rfl, hdel, hdct, hr⟩ := h
      obtain ⟨nm, bs, mro, ns, qn, hd, sn, sub, ab, col, del⟩ := cd
      dsimp only at hm hdel hdct
      subst hm hdel hdct
      have hsl : sl = #[k0, k1, k2, k3, some (.builtin "ValueError.__new__"), k5] := by
        obtain ⟨l⟩ := sl
        simp only at hs
        rw [hs]
      subst hsl
      exact ⟨nm, qn, ns, bs, bm, sn, sub, ab, col, dd, k0, k1, k2, k3, k5, ho, hr⟩
    · cases h
  · cases h
theorem oexBL_ok {K : PySem.W.Frag} {C : Addr} (h : oexBL K C = true) : ∃ nm q N bs sn sub ab col dd k0 k1 k2 k3 k5, K.lookup C = some (excClassObj nm q C N bs leT true sn sub ab col dd k0 k1 k2 k3 k5 "LookupError.__new__") := by
  unfold oexBL at h
  split at h
  · rename_i t dd cd sl ho
    split at h
    · rename_i C' m1 m2 m3 m4 k0 k1 k2 k3 n k5 hm hs
      simp only [Bool.and_eq_true, decide_eq_true_eq, Bool.not_eq_true'] at h
      obtain ⟨rfl, rfl, rfl, hdel, hdct, rfl, rfl, rfl, rfl⟩ := h
      obtain ⟨nm, bs, mro, ns, qn, hd, sn, sub, ab, col, del⟩ := cd
      dsimp only at hm hdel hdct
      subst hm hdel hdct
      have hsl : sl = #[k0, k1, k2, k3, some (.builtin "LookupError.__new__"), k5] := by
        obtain ⟨l⟩ := sl
        simp only at hs
        rw [hs]
      subst hsl
      exact ⟨nm, qn, ns, bs, sn, sub, ab, col, dd, k0, k1, k2, k3, k5, ho⟩
    · cases h
  · cases h
theorem xcB_ok {K : PySem.W.Frag} {D : Addr} (h : xcB K D = true) : XC K D := by
  unfold xcB at h
  simp only [Bool.and_eq_true, decide_eq_true_eq, He.eqO] at h
  obtain ⟨h1, h2, h3, h4, h5, h6, h7, h8, h9⟩ := h
  exact ⟨h1, h2, h3, h4, h5, h6, h7, h8, h9⟩
theorem cellB_ok {K : PySem.W.Frag} {C : Addr} {file : Str} {fI : Addr} (h : cellB K C file fI = true) : ∃ oc od fd osl y cc c, K.lookup fI = some ⟨oc, od, .func fd, osl⟩ ∧ fd.closure = [(y, cc)] ∧ fd.code = .ref c ∧ (∃ a b d, K.lookup cc = some ⟨a, b, .cell (some (.ref C)), d⟩) ∧ PySem.W.codeIn K (.ref c) fd.qualname = true ∧
    ∃ a b vs d f t, K.lookup c = some ⟨a, b, .fields vs, d⟩ ∧ vs[2]? = some (.str f t) ∧ (file == f) = true := by
  unfold cellB at h
  split at h
  · rename_i oc od fd osl ho
    split at h
    · rename_i y cc c hcl hcd
      split at h
      · rename_i a1 b1 C' d1 a2 b2 vs d2 e1 e2
        rw [Bool.and_eq_true, Bool.and_eq_true, decide_eq_true_eq] at h
        obtain ⟨rfl, hc, hf⟩ := h
        split at hf
        · rename_i f t e3
          exact ⟨oc, od, fd, osl, y, cc, c, ho, hcl, hcd, ⟨_, _, _, e1⟩, hc, _, _, _, _, _, _, e2, e3, hf⟩
        · cases hf
      · cases h
    · cases h
  · cases h
theorem IniD.fn {K : PySem.W.Frag} {d : IniD} {oc : Value} {od : Option Addr} {fd : FuncData} {osl : Array (Option Value)} {y : Str} {cc c : Addr} (e : iniObs K d.x = d.val) (lk : K.lookup (He.ma K (He.ga K d.x) "__init__") = some ⟨oc, od, .func fd, osl⟩) (hcl : fd.closure = [(y, cc)]) (hcd : fd.code = .ref c) :
    ∃ doc pm ctv, fd = (d.nf [("__class__", cc)] c).fd doc pm ctv := by
  unfold iniObs at e
  rw [lk] at e
  obtain ⟨n1, n2, n3, n4, n5, n6, n7, n8, n9, n10, n11, n12, n13, n14, n15⟩ := fd
  have e2 : (some (n1, n2, n3, n4, n5, n6, n7.map (·.1), n8, n9, n12, n15) : FnI) = (some ("__init__", d.q, defArgs (iFun d.st), .stmts (defBody (iFun d.st)), defScope (iFun d.st), mainGlobals, ["__class__"], .none, .none, none, builtinsNs) : FnI) := e
  dsimp only at hcl hcd
  subst hcl hcd
  simp only [Option.some.injEq, Prod.mk.injEq, List.map_cons, List.map_nil, List.cons.injEq, and_true] at e2
  obtain ⟨h1, h2, h3, h4, h5, h6, h7, h8, h9, h10, h11⟩ := e2
  subst h1 h2 h3 h4 h5 h6 h7 h8 h9 h10 h11
  exact ⟨n10, n11, n14, rfl⟩
/-- the text's own facts of such a class -/
structure IniT (P : Program) (d : IniD) : Prop where
  scope : NdefX.NScope ["self", d.par, "__class__"] ["self", d.par] ["__class__"] (defScope (iFun d.st))
  sup : (defScope (iFun d.st)).names.lookup ("super" : Str) = some .globalImplicit
  head : ∃ ar, ((defArgs (iFun d.st)).posonlyargs ++ (defArgs (iFun d.st)).args).head? = some ar ∧ ar.arg = ("self" : Str)
  body : ∃ p0 p1 p2 p3 p4 p5 q0 q1 q2 q3 j, defBody (iFun d.st) = xBody d.fld d.par d.msg p0 p1 p2 p3 p4 p5 q0 q1 q2 q3 j ∧ ∀ (cl : List (Str × Addr)) (c fI L : Addr), ∃ pl, eval (.Call (.Attribute (.Call (.Name "super" p0) [] [] p1) "__init__" p2) [.Constant (.str d.msg) j p3] [] p4) (NdefX.envF (d.nf cl c) fI L) = (do
      let ov ← attributeBase (.Call (.Name "super" p0) [] [] p1) "__init__" (NdefX.envF (d.nf cl c) fI L) (eval (.Call (.Name "super" p0) [] [] p1) (NdefX.envF (d.nf cl c) fI L))
      standAt p2.atName
      let (f, first) ← holding [ov] (getMethod ov "__init__" pl)
      callWith p4 f first (backTo p4 (starEach [.Constant (.str d.msg) j p3] (NdefX.envF (d.nf cl c) fI L))) [])
  top : (P.main.scope.names.lookup ("super" : Str)).isSome = false
  nx : d.par ≠ "self" ∧ (d.par == ("__debug__" : Str)) = false ∧ (d.par == ("__classdict__" : Str)) = false
  bind : ∀ (cl : List (Str × Addr)) (c : Addr) (doc pm ctv : Value) (us : List Value), us.length = 2 → bindArgs ((d.nf cl c).fd doc pm ctv) ⟨us, []⟩ = pure ([("self" : Str), d.par].zip us)
  bindK : ∀ (cl : List (Str × Addr)) (c : Addr) (doc pm ctv s v : Value), bindArgs ((d.nf cl c).fd doc pm ctv) ⟨[s], [(d.par, v)]⟩ = pure ([("self" : Str), d.par].zip [s, v])
  pf : d.par = d.fld
theorem IniD.xclsV {P : Program} {K : PySem.W.Frag} {h : Heap} {mg : Str → Option Value} {et : ET} {c : Nat} {d : IniD} (X : K.In h) (G : h.Ns mainGlobals mg) (T : IniT P d) (e : iniObs K d.x = d.val) (b : iniB P.main.file K d = true) (hc : et.cls c = He.ga K d.x) (hf : et.fld c = d.fld) : XCls P K mg et c d.x := by
  unfold iniB at b
  simp only [Bool.and_eq_true, decide_eq_true_eq, He.eqO] at b
  obtain ⟨b1, b2, b3, b4, b5, b6, b7, b8, b9, b10, b11, b12, b13, b14⟩ := b
  obtain ⟨oc, od, fd, osl, y, cc, co, lk, hcl, hcd, hcell, hcode, hfile⟩ := cellB_ok b7
  obtain ⟨doc, pm, ctv, rfl⟩ := IniD.fn e lk hcl hcd
  refine ⟨⟨He.ma K (He.ga K d.x) "__init__", cc, d.nf [("__class__", cc)] co, d.par, d.msg, ?_, ?_, b9, ?_, fun doc pm ctv us hl => T.bind _ _ doc pm ctv us hl, fun doc pm ctv s v => T.bindK _ _ doc pm ctv s v, T.pf.trans hf.symm⟩⟩
  · rw [hc]; exact PySem.W.mg_of X G b1
  · rw [hc]; exact b8
  · rw [hc, hf]
    obtain ⟨p0, p1, p2, p3, p4, p5, q0, q1, q2, q3, j, hb, hev⟩ := T.body
    exact .inl ⟨⟨oexB_ok b2, b3, b4, b5, b6⟩, rfl, T.scope, T.sup, T.head, ⟨oc, od, doc, pm, ctv, osl, lk⟩, hcode, hfile, hcell, ⟨p0, p1, p2, p3, p4, p5, q0, q1, q2, q3, j, hb, fun L => hev _ _ _ L⟩, T.top, b10, b11, b12, b13, b14, T.nx⟩
theorem IniD.xclsL {P : Program} {K : PySem.W.Frag} {h : Heap} {mg : Str → Option Value} {et : ET} {c : Nat} {d : IniD} (X : K.In h) (G : h.Ns mainGlobals mg) (T : IniT P d) (e : iniObs K d.x = d.val) (b : iniBL P.main.file K d = true) (hc : et.cls c = He.ga K d.x) (hf : et.fld c = d.fld) : XCls P K mg et c d.x := by
  unfold iniBL at b
  simp only [Bool.and_eq_true, decide_eq_true_eq, He.eqO] at b
  obtain ⟨b1, b2, b3, b4, b5, b6, b7, b8, b9, b10, b11, b12, b13, b14⟩ := b
  obtain ⟨oc, od, fd, osl, y, cc, co, lk, hcl, hcd, hcell, hcode, hfile⟩ := cellB_ok b7
  obtain ⟨doc, pm, ctv, rfl⟩ := IniD.fn e lk hcl hcd
  refine ⟨⟨He.ma K (He.ga K d.x) "__init__", cc, d.nf [("__class__", cc)] co, d.par, d.msg, ?_, ?_, b9, ?_, fun doc pm ctv us hl => T.bind _ _ doc pm ctv us hl, fun doc pm ctv s v => T.bindK _ _ doc pm ctv s v, T.pf.trans hf.symm⟩⟩
  · rw [hc]; exact PySem.W.mg_of X G b1
  · rw [hc]; exact b8
  · rw [hc, hf]
    obtain ⟨p0, p1, p2, p3, p4, p5, q0, q1, q2, q3, j, hb, hev⟩ := T.body
    exact .inr ⟨⟨oexBL_ok b2, b3, b4, b5, b6⟩, rfl, T.scope, T.sup, T.head, ⟨oc, od, doc, pm, ctv, osl, lk⟩, hcode, hfile, hcell, ⟨p0, p1, p2, p3, p4, p5, q0, q1, q2, q3, j, hb, fun L => hev _ _ _ L⟩, T.top, b10, b11, b12, b13, b14, T.nx⟩
theorem IniD.xcls {P : Program} {K : PySem.W.Frag} {h : Heap} {mg : Str → Option Value} {et : ET} {c : Nat} {d : IniD} (X : K.In h) (G : h.Ns mainGlobals mg) (T : IniT P d) (e : iniObs K d.x = d.val) (b : iniX P.main.file K d = true) (hc : et.cls c = He.ga K d.x) (hf : et.fld c = d.fld) : XCls P K mg et c d.x := by
  unfold iniX at b
  split at b
  · exact IniD.xclsL X G T e b hc hf
  · exact IniD.xclsV X G T e b hc hf
def sysB (K : PySem.W.Frag) : Bool := match K.lookup sysModules with
  | some o => decide (o.cls ≠ .type "list")
  | none => false
theorem sysB_ok {K : PySem.W.Frag} (h : sysB K = true) : SysOk K := by
  unfold sysB at h
  split at h
  · rename_i o e
    exact ⟨o, e, of_decide_eq_true h⟩
  · cases h
def asZ (g : Addr → Option Obj) (n : Nat) : List Addr := sysModules :: cStatics :: He.asD g n
abbrev AlZ : Type := He.AlD × Bool × List FnI
def obsZ (fa : List He.Fa) (fn : List He.DefD) (tf : List He.Defn) (ini : List IniD) (ex : PySem.W.Frag → Bool) (g : Addr → Option Obj) (K : PySem.W.Frag) : AlZ := (He.obsD fa fn K, ex K && He.tabsB g tf K, ini.map fun d => iniObs K d.x)
def obsZG (n : Nat) (fa : List He.Fa) (fn : List He.DefD) (tf : List He.Defn) (ini : List IniD) (ex : PySem.W.Frag → Bool) (g : Addr → Option Obj) : AlZ := obsZ fa fn tf ini ex g (He.frT g (asZ g n))
def valZ (fn : List He.DefD) (ini : List IniD) : AlZ := (He.valD fn, true, ini.map IniD.val)
structure SaysZ (fa : List He.Fa) (fn : List He.DefD) (tf : List He.Defn) (ini : List IniD) (ex : PySem.W.Frag → Bool) (h : Heap) (K : PySem.W.Frag) : Prop where
  d : He.SaysD fa fn K
  more : ex K = true
  hd : ∀ p ∈ tf, PySem.W.codeHdIn K (He.cT K p).1 (He.cT K p).2 = true
  out : ∀ p ∈ tf, K.lookup (He.cT K p).2 = none
  empty : ∀ p ∈ tf, h.get? (He.cT K p).2 = some { cls := .none, data := .fields #[] }
  ini : ini.map (fun d => iniObs K d.x) = ini.map IniD.val
def hookZ (n : Nat) (fa : List He.Fa) (fn : List He.DefD) (tf : List He.Defn) (ini : List IniD) (ex : PySem.W.Frag → Bool) : PySem.W.Hook where
  α := AlZ
  obs := fun s => obsZG n fa fn tf ini ex s.heap.get?
  val := fun _ => valZ fn ini
  says := fun _ h => ∃ K : PySem.W.Frag, K.In h ∧ SaysZ fa fn tf ini ex h K
  of := fun _ s e => by
    have e1 : He.obsD fa fn (He.frT s.heap.get? (asZ s.heap.get? n)) = He.valD fn := congrArg (fun z : AlZ => z.1) e
    have e2 : (ex (He.frT s.heap.get? (asZ s.heap.get? n)) && He.tabsB s.heap.get? tf (He.frT s.heap.get? (asZ s.heap.get? n))) = true := congrArg (fun z : AlZ => z.2.1) e
    have e3 : ini.map (fun d => iniObs (He.frT s.heap.get? (asZ s.heap.get? n)) d.x) = ini.map IniD.val := congrArg (fun z : AlZ => z.2.2) e
    obtain ⟨h1, h2⟩ := He.ba e2
    refine ⟨_, He.frT_in, e1, h1, fun p hp => (He.ba (List.all_eq_true.mp h2 p hp)).1, fun p hp => ?_, fun p hp => ?_, e3⟩
    · have h4 := (He.ba (List.all_eq_true.mp h2 p hp)).2
      split at h4
      · rename_i o q
        exact He.frT_none q h4
      · cases h4
    · have h4 := (He.ba (List.all_eq_true.mp h2 p hp)).2
      split at h4
      · rename_i o q
        rw [q, He.emptyTab_eq h4]
      · cases h4
  keeps := fun _ _ _ ⟨K, hK, c⟩ k => ⟨K, PySem.W.Frag.In.keeps hK k, ⟨c.d, c.more, c.hd, c.out, fun p hp => k _ _ (c.empty p hp), c.ini⟩⟩
theorem obsZG_eq {n : Nat} {fa : List He.Fa} {fn : List He.DefD} {tf : List He.Defn} {ini : List IniD} {ex : PySem.W.Frag → Bool} {g : Addr → Option Obj} {s : Shared} (h : ∀ a, g a = s.heap.get? a) : obsZG n fa fn tf ini ex g = (hookZ n fa fn tf ini ex).obs s := by
  have e : g = s.heap.get? := funext h
  rw [e] <;> rfl
section
variable {fa : List He.Fa} {fn : List He.DefD} {tf : List He.Defn} {ini : List IniD} {ex : PySem.W.Frag → Bool} {h : Heap} {K : PySem.W.Frag}
theorem SaysZ.ini_ (c : SaysZ fa fn tf ini ex h K) (i : Nat) {d : IniD} (hd : ini[i]? = some d := by rfl) : iniObs K d.x = d.val := by
  have e2 : (ini.map (fun d => iniObs K d.x))[i]? = (ini.map IniD.val)[i]? := by rw [c.ini]
  rw [List.getElem?_map, List.getElem?_map, hd] at e2
  exact Option.some.inj e2
/-- the tables of the defs with lambdas -/
def csOf (K : PySem.W.Frag) (tq : List (He.Defn × Str)) : TabL := tq.map fun p => ((He.cT K p.1).1, (He.cT K p.1).2, p.2)
theorem SaysZ.tabF {tq : List (He.Defn × Str)} (c : SaysZ fa fn (tq.map (·.1)) ini ex h K) (X : K.In h) : TabF K h (csOf K tq) := by
  have key : ∀ p ∈ csOf K tq, ∃ d ∈ tq.map (·.1), p.1 = (He.cT K d).1 ∧ p.2.1 = (He.cT K d).2 := fun p hp => by
    obtain ⟨q, hq, e⟩ := List.mem_map.mp hp
    exact ⟨q.1, List.mem_map.mpr ⟨q, hq, rfl⟩, by rw [← e], by rw [← e]⟩
  refine ⟨fun p hp => ?_, fun p hp => ?_, fun p hp => ?_⟩
  · obtain ⟨d, hd, _, e⟩ := key p hp
    rw [e]; exact c.empty d hd
  · obtain ⟨d, hd, _, e⟩ := key p hp
    rw [e]; exact c.out d hd
  · obtain ⟨d, hd, e1, e2⟩ := key p hp
    rw [e1, e2]; exact PySem.W.codeHd_of_K X (c.hd d hd)
end
end DL
set_option Elab.async false
set_option linter.all false
set_option maxRecDepth 100000
set_option maxHeartbeats 4000000
set_option autoImplicit false
namespace DL
open PySem PySem.Spec L2
open PyProof.Rows hiding St
/-- errors, tables, lambdas of a law -/
def etF (cls : Nat → Addr) (fld : Nat → Str) (T : List (Addr × Str)) (P : Program) (w : World) (K : PySem.W.Frag) (mg : Str → Option Value) (base : Heap) (j : Nat) : ET :=
  ⟨fun k => k.hash w, cls, fld, T, CloOk P w K mg base ⟨fun k => k.hash w, cls, fld, T, fun _ _ _ _ => False, fun _ _ _ _ _ _ h => h⟩ j, CloOk.mono⟩
theorem XCls.at {P : Program} {K : PySem.W.Frag} {mg : Str → Option Value} {et et' : ET} {c : Nat} {x : Str} (h : XCls P K mg et c x) (h1 : et.cls c = et'.cls c) (h2 : et.fld c = et'.fld c) : XCls P K mg et' c x := by
  obtain ⟨fI, cc, F, a, msg, k1, k2, k3, k4, k5, k6, k7⟩ := h.ex
  rw [h1] at k1 k2 k4
  rw [h2] at k4
  exact ⟨⟨fI, cc, F, a, msg, k1, k2, k3, k4, k5, k6, k7.trans h2⟩⟩
abbrev clsA (nm : List Str) (K : PySem.W.Frag) (c : Nat) : Addr := He.ga K (nm.getD c "")
abbrev fldA (fl : List Str) (c : Nat) : Str := fl.getD c ""
end DL
set_option Elab.async false
set_option linter.all false
set_option maxRecDepth 100000
set_option maxHeartbeats 4000000
set_option autoImplicit false
namespace DL
open PySem PySem.Spec L2
open PyProof.Rows hiding St
mutual
def dnB (K : PySem.W.Frag) : PyData → Value → Bool
  | .none, .none => true
  | .bool a, .bool b => decide (a = b)
  | .int i, .int j _ => decide (i = j)
  | .str x, .str y _ => decide (x = y)
  | .tuple ds, .ref a => match K.lookup a with
    | some ⟨.type c, _, .seq its _, _⟩ => decide (c = "tuple") && (decide (its.size ≤ sizeLine) && dnAllB K ds its.toList)
    | _ => false
  | _, _ => false
def dnAllB (K : PySem.W.Frag) : List PyData → List Value → Bool
  | [], [] => true
  | d :: ds, v :: vs => dnB K d v && dnAllB K ds vs
  | _, _ => false
end
def gdB (K : PySem.W.Frag) (x : Str) (d : PyData) : Bool := match PySem.W.nsIn K mainGlobals x with
  | some (some u) => dnB K d u
  | _ => false
end DL
set_option Elab.async false
set_option linter.all false
set_option maxRecDepth 100000
set_option maxHeartbeats 4000000
set_option autoImplicit false
namespace DL
open PySem PySem.Spec L2
open PyProof.Rows hiding St
section
variable {X : Cx} {et : ET} {W : WX}
mutual
theorem Dn.key {pins : List (Addr × Obj)} {σ : L2.St} {F H : Hp} {s : Shared} (I : Inv X pins σ H s) (sub : Same F H) : ∀ {v : V} {d : PyData}, Dn X.K et F v d → ∀ {n : NestedKey}, keyN d = some n → ∀ {u : Value}, RelV v u → NestedIs s.heap n u
  | _, _, .non, n, e, _, r => by
    have e : some NestedKey.none = some n := e
    cases e
    cases r
    exact .none
  | _, _, .bl b, n, e, _, r => by
    have e : some (NestedKey.num (if b = true then 1 else 0)) = some n := e
    cases e
    cases r
    exact .bool rfl
  | _, _, .int i, n, e, _, r => by
    have e : some (NestedKey.num i) = some n := e
    cases e
    obtain ⟨t, rfl⟩ := r
    exact .int i t
  | _, _, .str x, n, e, _, r => by
    have e : some (NestedKey.text x) = some n := e
    cases e
    obtain ⟨t, rfl⟩ := r
    exact .text x t
  | _, _, .tup (ds := ds) hs ha, n, e, _, r => by
    have e : (keysN ds).map NestedKey.tup = some n := e
    cases q : keysN ds with
    | none => rw [q] at e; cases e
    | some ks =>
      rw [q] at e
      cases e
      cases r
      obtain ⟨its, rv, ⟨o, ho, hc, m, hd⟩, _⟩ := I.tuple (SqT.mono sub hs)
      exact .tup ho hc hd (DnAll.key I sub ha q rv)
  | _, _, .lst _ _, n, e, _, _ => by cases (show none = some n from e)
  | _, _, .dcx _ _, n, e, _, _ => by cases (show none = some n from e)
  | _, _, .dck _ _ _, n, e, _, _ => by cases (show none = some n from e)
  | _, _, .err _ _ _, n, e, _, _ => by cases (show none = some n from e)
  | _, _, .er0 _, n, e, _, _ => by cases (show none = some n from e)
theorem DnAll.key {pins : List (Addr × Obj)} {σ : L2.St} {F H : Hp} {s : Shared} (I : Inv X pins σ H s) (sub : Same F H) : ∀ {vs : List V} {ds : List PyData}, DnAll X.K et F vs ds → ∀ {ks : List NestedKey}, keysN ds = some ks → ∀ {us : List Value}, Vals vs us → NestedAll s.heap ks us
  | _, _, .nil, ks, e, _, r => by
    have e : some [] = some ks := e
    cases e
    cases r
    exact .nil
  | _, _, .cons (d := d) (ds := ds) h1 h2, ks, e, _, r => by
    have e : (match keyN d, keysN ds with | some k, some ks => some (k :: ks) | _, _ => none) = some ks := e
    cases q1 : keyN d with
    | none => rw [q1] at e; cases e
    | some k =>
      cases q2 : keysN ds with
      | none => rw [q1, q2] at e; cases e
      | some kk =>
        rw [q1, q2] at e
        cases e
        cases r with
        | cons r1 r2 => exact .cons (Dn.key I sub h1 q1 r1) (DnAll.key I sub h2 q2 r2)
end
def keyEq (a b : PyData) : Bool := match keyN a, keyN b with
  | some x, some y => decide (x = y)
  | _, _ => false
def getD (kvs : List (PyData × PyData)) (k : PyData) : Option PyData := (kvs.find? fun p => keyEq p.1 k).map (·.2)
def hasD (kvs : List (PyData × PyData)) (k : PyData) : Bool := kvs.any fun p => keyEq p.1 k
def EntR (p : NestedKey × Addr × V) (q : NestedKey × Addr × Value) : Prop := p.1 = q.1 ∧ p.2.1 = q.2.1 ∧ RelV p.2.2 q.2.2
theorem ent_keys : ∀ {es : List (NestedKey × Addr × V)} {ys : List (NestedKey × Addr × Value)}, Paired EntR es ys → es.map (·.1) = ys.map (·.1)
  | _, _, .nil => rfl
  | _, _, .cons h t => by rw [List.map_cons, List.map_cons, h.1, ent_keys t]
theorem ent_is {pins : List (Addr × Obj)} {σ : L2.St} {F H : Hp} {s : Shared} (I : Inv X pins σ H s) (sub : Same F H) : ∀ {es : List (NestedKey × Addr × V)} {kvs : List (PyData × PyData)} {ys : List (NestedKey × Addr × Value)}, DnKv X.K et F es kvs → Paired EntR es ys →
    ∀ y ∈ ys, (nestedKind X.prog X.w).is s.heap y.1 y.2.1
  | _, _, _, .nil, .nil, y, hy => by cases hy
  | _, _, _, .cons a a2 b c r, .cons h t, y, hy => by
    rcases List.mem_cons.mp hy with rfl | hy
    · obtain ⟨h1, h2, _⟩ := h
      refine ⟨?_, by rw [← h1]; exact a2⟩
      rw [← h1, ← h2]
      exact Dn.key I sub b a rfl
    · exact ent_is I sub r t y hy
theorem nd_dict {pins : List (Addr × Obj)} {σ : L2.St} {F H : Hp} {s : Shared} {a : Addr} {es : List (NestedKey × Addr × V)} {kvs : List (PyData × PyData)} (I : Inv X pins σ H s) (sub : Same F H) (hw : et.hs = fun k => k.hash X.w) (h : Rd H a (NDo et.hs a es)) (kv : DnKv X.K et F es kvs) :
    es.length ≤ sizeLine ∧ (a == sysModules) = false ∧ ∃ ys, Paired EntR es ys ∧ s.heap.DictOfH (nestedKind X.prog X.w) a ys := by
  obtain ⟨⟨h1, h2, h3, ys, o, ds, ep, pr, ho, hx, hd, hl⟩, _, _⟩ := (show ObjOk X.prog X.w H s.heap a (NDo et.hs a es) from h.ok I.hok)
  have pr : Paired EntR es ys := pr
  refine ⟨h1, h2, ys, pr, o, ds, ep, ho, hx, hd, ?_, ent_is I sub kv pr, by rw [← ent_keys pr]; exact h3⟩
  rw [hl, hw]
  rfl
theorem ent_find : ∀ {F : Hp} {es : List (NestedKey × Addr × V)} {kvs : List (PyData × PyData)} {ys : List (NestedKey × Addr × Value)} {k : PyData} {n : NestedKey}, DnKv X.K et F es kvs → Paired EntR es ys → keyN k = some n →
    (∃ d v b u, getD kvs k = some d ∧ atKey ys n = some (b, u) ∧ RelV v u ∧ Dn X.K et F v d) ∨ (getD kvs k = none ∧ atKey ys n = none)
  | F, _, _, _, k, n, .nil, .nil, _ => .inr ⟨rfl, rfl⟩
  | F, _, _, _, k, n, .cons (n := m) (k := k') (d := d) (kvs := kvs) a a2 b c r, .cons (b := y) h t, hk => by
    obtain ⟨h1, h2, h3⟩ := h
    have e1 : keyEq k' k = decide (m = n) := by unfold keyEq; rw [a, hk]
    by_cases z : m = n
    · refine .inl ⟨d, _, y.2.1, y.2.2, ?_, ?_, h3, c⟩
      · unfold getD
        rw [List.find?_cons_of_pos (by rw [e1]; exact decide_eq_true z)]
        rfl
      · unfold atKey
        rw [List.find?_cons_of_pos (by exact decide_eq_true (h1.symm.trans z))]
        rfl
    · have g1 : getD ((k', d) :: kvs) k = getD kvs k := by
        unfold getD
        rw [List.find?_cons_of_neg (by rw [e1]; simpa using z)]
      have g2 : ∀ l, atKey (y :: l) n = atKey l n := fun l => by
        unfold atKey
        rw [List.find?_cons_of_neg (by have : ¬ y.1 = n := fun e => z (h1.trans e); simpa using this)]
      rw [g1, g2]
      exact ent_find r t hk
theorem getD_key {kvs : List (PyData × PyData)} {k d : PyData} (h : getD kvs k = some d) : ∃ n, keyN k = some n := by
  unfold getD at h
  cases q : kvs.find? fun p => keyEq p.1 k with
  | none => rw [q] at h; cases h
  | some p =>
    have := List.find?_some q
    unfold keyEq at this
    split at this
    · rename_i x y e1 e2; exact ⟨_, e2⟩
    · cases this
theorem hasD_get (kvs : List (PyData × PyData)) (k : PyData) : hasD kvs k = (getD kvs k).isSome := by
  unfold hasD getD
  rw [Option.isSome_map, Bool.eq_iff_iff, List.find?_isSome, List.any_eq_true]
/-- a tuple's value -/
theorem Dn.tup_ref {K : PySem.W.Frag} {F : Hp} {v : V} {ds : List PyData} (h : Dn K et F v (.tuple ds)) : ∃ b, v = .ref b := by
  cases h with
  | tup _ _ => exact ⟨_, rfl⟩
end
end DL
set_option Elab.async false
set_option linter.all false
set_option maxRecDepth 100000
set_option maxHeartbeats 4000000
set_option autoImplicit false
namespace DL
open PySem PySem.Spec L2
open PyProof.Rows hiding St
section
variable {X : Cx} {et : ET} {W : WX}
def rIxD (X : Cx) (et : ET) : R2 := fun x y H Q => ∃ (a b : Addr) (F : Hp) (es : List (NestedKey × Addr × V)) (kvs : List (PyData × PyData)) (k d : PyData), x = .ref a ∧ y = .ref b ∧ Same F H ∧ Rd H a (NDo et.hs a es) ∧ DnKv X.K et F es kvs ∧ Dn X.K et F (.ref b) k ∧ getD kvs k = some d ∧ ∀ v, Dn X.K et F v d → Q v H
theorem getD_deep {K : PySem.W.Frag} {F : Hp} : ∀ {es : List (NestedKey × Addr × V)} {kvs : List (PyData × PyData)} {k d : PyData} {n : NestedKey}, DnKv K et F es kvs → getD kvs k = some d → keyN k = some n → n.depth ≤ 8
  | _, _, _, _, _, .nil, e, _ => by cases e
  | _, _, k, d, n, .cons (k := k') (n := m) a a2 b c r, e, hk => by
    have e1 : keyEq k' k = decide (m = n) := by unfold keyEq; rw [a, hk]
    by_cases z : m = n
    · rw [← z]; exact a2
    · unfold getD at e
      rw [List.find?_cons_of_neg (by rw [e1]; simpa using z)] at e
      exact getD_deep r e hk
theorem nd_room (hu : X.A.units + 64 < cLine) : (nestedKind X.prog X.w).room X.A.in1 := by
  show X.A.units + 1 + 8 < cLine
  omega
theorem nd_type {pins : List (Addr × Obj)} {σ : L2.St} {H : Hp} {s : Shared} {a : Addr} {es : List (NestedKey × Addr × V)} (I : Inv X pins σ H s) (h : Rd H a (NDo et.hs a es)) : s.TypeIs (.ref a) "dict" := by
  obtain ⟨⟨h1, h2, h3, ys, o, ds, ep, pr, ho, hx, hd, hl⟩, _, _⟩ := (show ObjOk X.prog X.w H s.heap a (NDo et.hs a es) from h.ok I.hok)
  exact ⟨o, ho, hx.1⟩
theorem ix_nd (hw : et.hs = fun k => k.hash X.w) (hu : X.A.units + 64 < cLine) : IxR X (rIxD X et) := by
  intro value slice pins s σ H x y v u Q I rx ry h hs
  obtain ⟨a, b, F, es, kvs, k, d, rfl, rfl, sub, ha, kv, dk, e, q⟩ := h
  cases rx
  cases ry
  obtain ⟨n, hk⟩ := getD_key e
  have hdp := getD_deep kv e hk
  have hT := nd_type I ha
  obtain ⟨_, _, ys, pr, dd⟩ := nd_dict I sub hw ha kv
  rcases ent_find kv pr hk with ⟨d', w, b', u, g1, g2, rw', dw⟩ | ⟨g1, _⟩
  · rw [e] at g1
    cases g1
    unfold subscriptTail
    refine wpAny_bind ?_
    rw [getitemInPython_of_ne hT.not_modules]
    refine wpAny_bind (wpAny_specialOf hT PySem.F.slot_dict_getitem.lookup ?_)
    have fin : wpAny (model X.prog X.w) X.A (subscripted slice false (.ref a) (.ref b)) (fun r s₃ => wpAny (model X.prog X.w) X.A (letTemporaryGo value (.ref a) r >>= fun _ => pure r) (EP X pins σ Q) X.xe s₃) X.xe s := by
      rw [hs]
      refine wpAny_operating (wpAny_getItem_heap (nd_room hu) ⟨Dn.key I sub dk hk rfl, hdp⟩ dd g2 ?_)
      exact wpAny_bind (wpAny_letTemporaryGo (wpAny_pure ⟨w, H, I.tok _, rw', q w dw⟩))
    first
      | exact wpAny_pure (wpAny_bind fin)
      | exact wpAny_bind (wpAny_pure (wpAny_bind fin))
      | exact wpAny_bind fin
  · rw [e] at g1; cases g1
def dIx : PyData → PyData → Option PyData
  | .dict kvs, .tuple ds => getD kvs (.tuple ds)
  | .str z, .int i => if z.length ≤ bigN then (atI z.cps.toList i).map fun c => .str ⟨#[c]⟩ else none
  | a, b => dIxS a b
/-- a datum at a key -/
theorem dix_read {F2 H2 : Hp} {x y : V} {da db d : PyData} (q3 : dIx da db = some d) (dn1 : Dn X.K et F2 x da) (dn2 : Dn X.K et F2 y db) (sub : Same F2 H2) {Q : VK} (q : ∀ v, Dn X.K et F2 v d → Q v H2) :
    (rIx X.K x y H2 Q ∨ rIxD X et x y H2 Q) := by
  unfold dIx at q3
  split at q3
  · cases dn1 with
    | dcx hf kv =>
      obtain ⟨b, rfl⟩ := dn2.tup_ref
      exact .inr ⟨_, b, F2, _, _, _, d, rfl, rfl, sub, .inr ⟨_, sub _ _ hf⟩, kv, dn2, q3, q⟩
    | dck _ hf kv =>
      exfalso
      have key : ∀ {es : List (Key × V)} {kvs : List (PyData × PyData)} {ds : List PyData}, DnKk X.K et F2 es kvs → getD kvs (.tuple ds) = none := by
        intro es kvs
        induction kvs generalizing es with
        | nil => intro ds _; rfl
        | cons p r ih =>
          intro ds h
          have nk : keyEq p.1 (.tuple ds) = false := by
            unfold keyEq
            show (match keyN p.1, (keysN ds).map NestedKey.tup with | some x, some y => decide (x = y) | _, _ => false) = false
            cases h with
            | int _ _ _ =>
              cases keysN ds with
              | none => rfl
              | some ks => exact decide_eq_false (fun z => nomatch z)
            | str _ _ =>
              cases keysN ds with
              | none => rfl
              | some ks => exact decide_eq_false (fun z => nomatch z)
          unfold getD
          rw [List.find?_cons_of_neg (by rw [nk]; decide)]
          cases h with
          | int _ _ h => exact ih h
          | str _ h => exact ih h
      rw [key kv] at q3
      cases q3
    | err _ _ _ =>
      exfalso
      have key : ∀ (a b : PyData) (ds : List PyData), getD [(.int xMark, a), (.int xMark, b)] (.tuple ds) = none := fun a b ds => by
        have nk : keyEq (.int xMark) (.tuple ds) = false := by
          unfold keyEq
          show (match keyN (.int xMark), (keysN ds).map NestedKey.tup with | some x, some y => decide (x = y) | _, _ => false) = false
          cases keysN ds with
          | none => rfl
          | some ks => exact decide_eq_false (fun z => nomatch z)
        unfold getD
        rw [List.find?_cons_of_neg (by rw [nk]; decide), List.find?_cons_of_neg (by rw [nk]; decide)]
        rfl
      rw [key] at q3
      cases q3
    | er0 _ =>
      exfalso
      have key : ∀ (a : PyData) (ds : List PyData), getD [(.int xMark, a)] (.tuple ds) = none := fun a ds => by
        have nk : keyEq (.int xMark) (.tuple ds) = false := by
          unfold keyEq
          show (match keyN (.int xMark), (keysN ds).map NestedKey.tup with | some x, some y => decide (x = y) | _, _ => false) = false
          cases keysN ds with
          | none => rfl
          | some ks => exact decide_eq_false (fun z => nomatch z)
        unfold getD
        rw [List.find?_cons_of_neg (by rw [nk]; decide)]
        rfl
      rw [key] at q3
      cases q3
  · rename_i z i
    split at q3
    · rename_i hz
      cases qa : atI z.cps.toList i with
      | none => rw [qa] at q3; cases q3
      | some c =>
        rw [qa] at q3
        cases q3
        exact .inl (.inr (.inr ⟨z, i, c, dn1.str_of, dn2.int_of, by rw [bigN_eq]; exact hz, qa, q _ (.str _)⟩))
    · cases q3
  · unfold dIxS at q3
    split at q3
    · cases dn1 with
      | lst sx dx =>
        obtain ⟨v, e1, e2⟩ := dx.at q3
        exact .inl (.inl ⟨_, _, _, v, rfl, Dn.int_of dn2, SqL.of (sub _ _ sx), e1, q v e2⟩)
    · cases dn1 with
      | tup sx dx =>
        obtain ⟨v, e1, e2⟩ := dx.at q3
        exact .inl (.inr (.inl ⟨_, _, _, v, rfl, Dn.int_of dn2, SqT.mono sub sx, e1, q v e2⟩))
    · cases q3
theorem de_ix {k : Nat} {a b : Expr} {pos : Pos} {fa fb : Sg → Rs Sg DV} (C : Here X k W) (ha : DE X et W a fa) (hb : DE X et W b fb) (hw : et.hs = fun k => k.hash X.w := by rfl) (hs : PlainIx b := by exact fun _ _ => rfl) : DE X et W (.Subscript a b pos) (mBin dIx fa fb) := fun am B F g σ H Q R hq => by
  refine w_of (pe_ix (ix_seq.or (ix_nd hw C.u64)) pe_w pe_w hs) (ha.then (goodV (Q := Q)) R hq fun dx g1 x F1 H1 ex1 R1 dn1 hq1 => hb.then (goodV (Q := Q)) R1 hq1 fun dy g2 y F2 H2 ex2 R2 dn2 hq2 => ?_)
  cases dx with
  | pu da =>
    cases dy with
    | pu db =>
      have hq2 : OkV X.K et W am B F2 σ Q (Rs.of ((dIx da db).map .pu) g2) := hq2
      cases q3 : dIx da db with
      | none => rw [q3] at hq2; exact hq2.elim
      | some d =>
        rw [q3] at hq2
        exact dix_read q3 (Dn.up dn1 ex2.1) dn2 R2.sub fun v dv => hq2 v F2 H2 Ext.refl R2 dv
    | _ => exact hq2.elim
  | _ => exact hq2.elim
def isDic (g : Sg) (i : Nat) : Bool := match g.r[i]? with
  | some (some (.dic _)) => true
  | _ => false
/-- x[k], x a name whose dict may be in the making -/
def mIxN (i : Nat) (fk : Sg → Rs Sg DV) (g : Sg) : Rs Sg DV := if isDic g i then (fk g).bind fun x g1 => match x, g1.r[i]? with
    | .pu (.tuple ds), some (some (.dic kvs)) => Rs.of ((getD kvs (.tuple ds)).map .pu) g1
    | _, _ => .no
  else if isOwn g i then (fk g).bind fun x g1 => match x, g1.r[i]? with
    | .pu (.int k), some (some (.own xs)) => Rs.of ((atI xs k).map .pu) g1
    | _, _ => .no
  else mBin dIx (mVar i) fk g
end
end DL
set_option Elab.async false
set_option linter.all false
set_option maxRecDepth 100000
set_option maxHeartbeats 4000000
set_option autoImplicit false
namespace DL
open PySem PySem.Spec L2
open PyProof.Rows hiding St
section
variable {X : Cx} {et : ET} {W : WX}
def keyOk (ds : List PyData) : Bool := match keysN ds with
  | some ks => decide ((NestedKey.tup ks).depth ≤ 8)
  | none => false
def dIn0 : PyData → PyData → Option Bool
  | .tuple ds, .dict kvs => if (keyOk ds && kvs.all fun p => dKey p.1) = true then some (hasD kvs (.tuple ds)) else none
  | .str x, .str y => match x.cps.toList with
    | [c] => some (decide (c ∈ y.cps.toList))
    | _ => none
  | x, .list ys => if (SeqAt.shaped x && SeqAt.shaped (.list ys)) = true then some (ys.any fun z => PyData.eqv z x) else none
  | x, .tuple ys => if (SeqAt.shaped x && SeqAt.shaped (.tuple ys)) = true then some (ys.any fun z => PyData.eqv z x) else none
  | _, _ => none
def dIn (x y : PyData) : Option PyData := (dIn0 x y).map .bool
def rInA (X : Cx) (et : ET) (neg : Bool) : R2 := fun x y H Q => ∃ (F : Hp) (a b : PyData) (k : Bool), Same F H ∧ Dn X.K et F x a ∧ Dn X.K et F y b ∧ dIn0 a b = some k ∧ Q (.bl (if neg = true then !k else k)) H
theorem keyOk_n {ds : List PyData} (h : keyOk ds = true) : ∃ n, keyN (.tuple ds) = some n ∧ n.depth ≤ 8 := by
  unfold keyOk at h
  split at h
  · rename_i ks e
    exact ⟨.tup ks, by show (keysN ds).map NestedKey.tup = _; rw [e]; rfl, of_decide_eq_true h⟩
  · cases h
theorem has_ent {F : Hp} {es : List (NestedKey × Addr × V)} {kvs : List (PyData × PyData)} {ys : List (NestedKey × Addr × Value)} {k : PyData} {n : NestedKey} (kv : DnKv X.K et F es kvs) (pr : Paired EntR es ys) (hk : keyN k = some n) : hasD kvs k = (atKey ys n).isSome := by
  rw [hasD_get]
  rcases ent_find kv pr hk with ⟨d, v, b, u, g1, g2, _, _⟩ | ⟨g1, g2⟩
  · rw [g1, g2]; rfl
  · rw [g1, g2]; rfl
theorem in_datum {pins : List (Addr × Obj)} {σ : L2.St} {F H : Hp} {s : Shared} {x y : V} {v u : Value} {a b : PyData} {k : Bool} (I : Inv X pins σ H s) (hw : et.hs = fun k => k.hash X.w) (hu : X.A.units + 100 < cLine) (rx : RelV x v) (ry : RelV y u) (sub : Same F H) (da : Dn X.K et F x a) (db : Dn X.K et F y b) (e : dIn0 a b = some k)
    {op : CmpOp} {Q : Value → Shared → Prop}
    (seqL : ∀ {c z : Value} {xs : List PyData} {d : PyData} {as bs : List Addr}, Reads s.heap c (.list xs) as → Reads s.heap z d bs → PyData.canLayAll0 xs = true → d.canLay0 = true → X.A.units + 1 + min (PyData.depthAll xs) d.depth < cLine → (xs.any fun y => PyData.eqv y d) = k → wpAny (model X.prog X.w) X.A (compareOp op z c) Q X.xe s)
    (seqT : ∀ {c z : Value} {xs : List PyData} {d : PyData} {as bs : List Addr}, Reads s.heap c (.tuple xs) as → Reads s.heap z d bs → PyData.canLayAll0 xs = true → d.canLay0 = true → X.A.units + 1 + min (PyData.depthAll xs) d.depth < cLine → (xs.any fun y => PyData.eqv y d) = k → wpAny (model X.prog X.w) X.A (compareOp op z c) Q X.xe s)
    (sign : ∀ (c : Nat) (z : Str) (t t' : Tok), decide (c ∈ z.cps.toList) = k → wpAny (model X.prog X.w) X.A (compareOp op (.str ⟨#[c]⟩ t) (.str z t')) Q X.xe s)
    (dict : ∀ (p q : Addr) (n : NestedKey) (ys : List (NestedKey × Addr × Value)), (nestedKind X.prog X.w).is s.heap n p → (q == sysModules) = false → s.heap.DictOfH (nestedKind X.prog X.w) q ys → (atKey ys n).isSome = k → wpAny (model X.prog X.w) X.A (compareOp op (.ref p) (.ref q)) Q X.xe s) :
    wpAny (model X.prog X.w) X.A (compareOp op v u) Q X.xe s := by
  have room : ∀ {xs : List PyData} {d : PyData}, SeqAt.shaped d = true → X.A.units + 1 + min (PyData.depthAll xs) d.depth < cLine := fun {xs d} h => by
    unfold SeqAt.shaped at h
    rw [Bool.and_eq_true, decide_eq_true_eq] at h
    omega
  unfold dIn0 at e
  split at e
  · rename_i ds kvs
    split at e
    · rename_i hk
      rw [Bool.and_eq_true] at hk
      cases e
      obtain ⟨n, hn, hd⟩ := keyOk_n hk.1
      obtain ⟨p, rfl⟩ := da.tup_ref
      cases rx
      cases db with
      | dcx hf kv =>
        cases ry
        obtain ⟨_, hs, ys, pr, dd⟩ := nd_dict I sub hw (.inr ⟨_, sub _ _ hf⟩) kv
        exact dict p _ n ys ⟨Dn.key I sub da hn rfl, hd⟩ hs dd (has_ent kv pr hn).symm
      | dck hne hf kv =>
        exfalso
        cases kv with
        | nil => exact hne rfl
        | int _ _ _ => exact absurd hk.2 (by rw [List.all_cons]; simp [dKey])
        | str _ _ => exact absurd hk.2 (by rw [List.all_cons]; simp [dKey])
      | err _ _ _ => exact absurd hk.2 (by rw [List.all_cons]; simp [dKey])
      | er0 _ => exact absurd hk.2 (by rw [List.all_cons]; simp [dKey])
    · cases e
  · rename_i z w
    split at e
    · rename_i c hc
      cases e
      obtain ⟨t, rfl⟩ := (show ∃ t, v = Value.str z t by rw [da.str_of] at rx; exact rx)
      obtain ⟨t', rfl⟩ := (show ∃ t, u = Value.str w t by rw [db.str_of] at ry; exact ry)
      have : z = ⟨#[c]⟩ := by
        cases z with
        | mk cps =>
          have h : cps.toList = [c] := hc
          rw [← Array.toArray_toList (xs := cps), h]
      subst this
      exact sign c w t t' rfl
    · cases e
  · split at e
    · rename_i ys _ _ hz
      rw [Bool.and_eq_true] at hz
      cases e
      obtain ⟨as, r1⟩ := Dp.reads I _ _ _ (Dn.dp _ _ (da.up sub) (shaped_lay hz.1)) rx
      obtain ⟨bs, r2⟩ := Dp.reads I _ _ _ (Dn.dp _ _ (db.up sub) (shaped_lay hz.2)) ry
      exact seqL r2 r1 (SeqAt.canLay_of_shaped hz.2) (SeqAt.canLay_of_shaped hz.1) (room hz.1) rfl
    · cases e
  · split at e
    · rename_i ys _ _ hz
      rw [Bool.and_eq_true] at hz
      cases e
      obtain ⟨as, r1⟩ := Dp.reads I _ _ _ (Dn.dp _ _ (da.up sub) (shaped_lay hz.1)) rx
      obtain ⟨bs, r2⟩ := Dp.reads I _ _ _ (Dn.dp _ _ (db.up sub) (shaped_lay hz.2)) ry
      exact seqT r2 r1 (SeqAt.canLay_of_shaped hz.2) (SeqAt.canLay_of_shaped hz.1) (room hz.1) rfl
    · cases e
  · cases e
theorem op_inA (hw : et.hs = fun k => k.hash X.w) (hu : X.A.units + 100 < cLine) : OpR X (compareOp .In) (rInA X et false) := by
  intro pins s σ H x y v u Q I rx ry h
  obtain ⟨F, a, b, k, sub, da, db, e, q⟩ := h
  have q : Q (.bl k) H := q
  refine in_datum I hw hu rx ry sub da db e (fun r2 r1 l1 l2 ro hk => SeqAt.in_list_reads r2 r1 l1 l2 ro ⟨.bl _, H, I, rfl, by rw [hk]; exact q⟩) (fun r2 r1 l1 l2 ro hk => SeqAt.in_tuple_reads r2 r1 l1 l2 ro ⟨.bl _, H, I, rfl, by rw [hk]; exact q⟩)
    (fun c z t t' hk => PyProof.Rows.in_str (fin_bl I (k := decide (c ∈ z.cps.toList)) (by rw [hk]; exact q) (PySem.StrLaws.found_one z c).symm)) (fun p r n ys hp hs dd hk => ?_)
  exact wpAny_in_heap (nd_room (by omega)) hp hs dd ⟨.bl _, H, I.tok _, rfl, by rw [hk]; exact q⟩
theorem os_in (hw : et.hs = fun k => k.hash X.w) (hu : X.A.units + 100 < cLine) : OpS X et (compareOp .In) dIn := by
  intro am B F g σ H x y a b d Q R hx hy e q
  unfold dIn at e
  cases qe : dIn0 a b with
  | none => rw [qe] at e; cases e
  | some k =>
    rw [qe] at e
    cases e
    exact ⟨_, op_inA hw hu, F, a, b, k, R.sub, hx, hy, qe, q _ F H Ext.refl R (.bl _)⟩
end
end DL
set_option Elab.async false
set_option linter.all false
set_option maxRecDepth 100000
set_option maxHeartbeats 4000000
set_option autoImplicit false
namespace DL
open PySem PySem.Spec L2
open PyProof.Rows hiding St
section
variable {X : Cx} {et : ET} {W : WX}
/-- x = {} for a dict that will be filled -/
def mNewD (i : Nat) (g : Sg) : Rs Sg Fl := .ok .nx (g.put i (.dic []))
end
end DL
set_option Elab.async false
set_option linter.all false
set_option maxRecDepth 100000
set_option maxHeartbeats 4000000
set_option autoImplicit false
set_option Elab.async false
set_option linter.all false
set_option maxRecDepth 100000
set_option maxHeartbeats 4000000
set_option autoImplicit false
set_option Elab.async false
set_option linter.all false
set_option maxRecDepth 100000
set_option maxHeartbeats 4000000
set_option autoImplicit false
namespace DL
open PySem PySem.Spec L2
open PyProof.Rows hiding St
section
variable {X : Cx} {et : ET} {W : WX}
def mStar (fa : Sg → Rs Sg DV) (fr : Sg → Rs Sg (List DV)) (g : Sg) : Rs Sg (List DV) := (fa g).bind fun x g1 => match seqOf x with
  | none => .no
  | some ds => (fr g1).bind fun es g2 => .ok (ds.map .pu ++ es) g2
end
end DL
set_option Elab.async false
set_option linter.all false
set_option maxRecDepth 100000
set_option maxHeartbeats 4000000
set_option autoImplicit false
set_option Elab.async false
set_option linter.all false
set_option maxRecDepth 100000
set_option maxHeartbeats 4000000
set_option autoImplicit false
set_option Elab.async false
set_option linter.all false
set_option maxRecDepth 100000
set_option maxHeartbeats 4000000
set_option autoImplicit false
set_option Elab.async false
set_option linter.all false
set_option maxRecDepth 100000
set_option maxHeartbeats 4000000
set_option autoImplicit false
set_option Elab.async false
set_option linter.all false
set_option maxRecDepth 100000
set_option maxHeartbeats 4000000
set_option autoImplicit false
set_option Elab.async false
set_option linter.all false
set_option maxRecDepth 100000
set_option maxHeartbeats 4000000
set_option autoImplicit false
set_option Elab.async false
set_option linter.all false
set_option maxRecDepth 100000
set_option maxHeartbeats 4000000
set_option autoImplicit false
set_option Elab.async false
set_option linter.all false
set_option maxRecDepth 100000
set_option maxHeartbeats 4000000
set_option autoImplicit false
namespace DL
open PySem PySem.Spec L2
open PyProof.Rows hiding St
section
variable {prog : Program} {w : World} {K : Type} [DecidableEq K] {knd : HeapKind prog w K} {A : Around} {E : Value → Shared → Prop} {s : Shared}
inductive HitsH {K : Type} [DecidableEq K] (A : Around) (s : Shared) (kb : List (K × Addr × Value)) : List (K × Addr × Value) → Bool → Prop
  | nil : HitsH A s kb [] true
  | miss {k : K} {a : Addr} {v : Value} {r : List (K × Addr × Value)} : atKey kb k = none → HitsH A s kb ((k, a, v) :: r) false
  | hit {k : K} {a b' : Addr} {v y : Value} {r : List (K × Addr × Value)} {e b : Bool} : atKey kb k = some (b', y) → SeqAt.EqAt A s v y e → HitsH A s kb r b → HitsH A s kb ((k, a, v) :: r) (e && b)
theorem HitsH.inv {kb : List (K × Addr × Value)} {k : K} {a : Addr} {v : Value} {r : List (K × Addr × Value)} {b : Bool} (h : HitsH A s kb ((k, a, v) :: r) b) :
    (atKey kb k = none ∧ b = false) ∨ ∃ b' y e b2, atKey kb k = some (b', y) ∧ SeqAt.EqAt A s v y e ∧ HitsH A s kb r b2 ∧ b = (e && b2) := by
  cases h with
  | miss hn => exact .inl ⟨hn, rfl⟩
  | hit hy he hr => exact .inr ⟨_, _, _, _, hy, he, hr, rfl⟩
theorem samePairsH {nm : String} {a b : Addr} {ka kb : List (K × Addr × Value)} {r : Bool} {Q : Bool → Shared → Prop} (hu : knd.room A) (ha : (a == sysModules) = false) (hb : (b == sysModules) = false)
    (da : s.heap.DictOfH knd a ka) (db : s.heap.DictOfH knd b kb) (hits : ka.length = kb.length → HitsH A s kb ka r) (h : Q (ka.length == kb.length && r) s) :
    wpAny (model prog w) A (Builtin.Dict.samePairs nm a b) Q E s := by
  obtain ⟨oa, es, ep, hoa, _, hda, hea, hia, _⟩ := da
  obtain ⟨ob, es', ep', hob, _, hdb, heb, hib, hnb⟩ := db
  have hla : ka.length = es.size := (size_of_entries hea).symm
  have hlb : kb.length = es'.size := (size_of_entries heb).symm
  rw [hla, hlb] at h
  unfold Builtin.Dict.samePairs Builtin.Dict.showsAll
  rw [if_neg (show ¬ (a == sysModules) = true by rw [ha]; exact Bool.false_ne_true), if_neg (show ¬ (b == sysModules) = true by rw [hb]; exact Bool.false_ne_true)]
  refine wpAny_bind (wpAny_pure (wpAny_bind (wpAny_pure ?_)))
  refine wpAny_bind (wpAny_dictEntries hoa hda ?_)
  dsimp only
  refine wpAny_bind (wpAny_dictEntries hob hdb ?_)
  by_cases hsz : es.size = es'.size
  case neg =>
    rw [if_pos (by simpa using hsz)]
    have hbf : (es.size == es'.size) = false := by simpa using hsz
    rw [hbf, Bool.false_and] at h
    exact wpAny_bind (wpAny_rule (wpAny_pure h))
  case pos =>
    have h' : Q r s := by simpa [hsz] using h
    have hits' := hits (by rw [hla, hlb]; exact hsz)
    rw [if_neg (by rw [hsz]; simp)]
    refine wpAny_bind (wpAny_dictEpoch hoa hda ?_)
    refine wpAny_bind ?_
    rw [Std.Legacy.Range.forIn_eq_forIn_range']
    simp only [Std.Legacy.Range.size, Nat.sub_zero, Nat.add_sub_cancel, Nat.div_one]
    refine wpAny_forIn_list _
      (fun rest q s' => s' = s ∧ q = (none, ()) ∧ ∃ i, rest = List.range' i (es.size - i) ∧ i ≤ es.size ∧ HitsH A s kb (ka.drop i) r)
      _ ?_ ?_ _ _ ⟨rfl, rfl, 0, by simp, Nat.zero_le _, hits'⟩
    · rintro x rest q s' ⟨rfl, rfl, i, hr, hi, hpre⟩
      have hlt : i < es.size := by
        rcases Nat.lt_or_ge i es.size with h | h
        · exact h
        · rw [Nat.sub_eq_zero_of_le h] at hr; simp at hr
      obtain ⟨rfl, hrest⟩ : x = i ∧ rest = List.range' (i + 1) (es.size - (i + 1)) := by
        have e : es.size - i = (es.size - (i + 1)) + 1 := by omega
        rw [e, List.range'_succ] at hr
        injection hr with h1 h2
        exact ⟨h1, h2⟩
      refine wpAny_bind (wpAny_dictEntries hoa hda ?_)
      rw [Array.getElem?_eq_getElem hlt]
      have hlt' : x < ka.length := by rw [hla]; exact hlt
      obtain ⟨k, p, v, hkv⟩ : ∃ k p v, ka[x] = (k, p, v) := ⟨_, _, _, rfl⟩
      have hdrop : ka.drop x = (k, p, v) :: ka.drop (x + 1) := by rw [← hkv]; exact List.drop_eq_getElem_cons hlt'
      have hent : es[x] = entryOfKey knd (k, p, v) := by
        have := entry_at hea x
        rw [Array.getElem?_eq_getElem hlt, List.getElem?_eq_getElem hlt', hkv] at this
        exact Option.some.inj this
      have hisx : knd.is s'.heap k p := by
        have := hia ka[x] (List.getElem_mem hlt')
        rw [hkv] at this
        exact this
      rw [hdrop] at hpre
      show wpAny _ _ (holding [es[x].key, es[x].val] _ >>= _) _ _ _
      rw [hent]
      refine wpAny_bind (wpAny_holding (wpAny_bind (wpAny_dictFind_heap hu hisx hob hdb heb hib hnb ?_ ?_)))
      · intro hno
        have hn := atKey_none_of_get hno
        rcases hpre.inv with ⟨_, er⟩ | ⟨_, y, _, _, hy, _⟩
        · rw [er] at h'
          refine wpAny_pure ?_
          show wpAny _ _ (if (!false) = true then _ else _) _ _ _
          rw [if_pos (by decide)]
          exact wpAny_pure (wpAny_pure h')
        · rw [hn] at hy; exact nomatch hy
      · intro j q hj
        have hv' := atKey_of_get hnb hj
        refine wpAny_bind (wpAny_dictEntries hob hdb ?_)
        rw [entry_at heb j, hj]
        rcases hpre.inv with ⟨hn, _⟩ | ⟨b2, y, e, b', hy, he, hrr, er⟩
        · rw [hv'] at hn; exact nomatch hn
        · have ey : q = (b2, y) := Option.some.inj (hv'.symm.trans hy)
          subst ey
          refine wpAny_holding (he prog w _ _ ?_)
          cases e with
          | false =>
            rw [er, Bool.false_and] at h'
            show wpAny _ _ (if (!false) = true then _ else _) _ _ _
            rw [if_pos (by decide)]
            exact wpAny_pure (wpAny_pure h')
          | true =>
            rw [Bool.true_and] at er
            rw [← er] at hrr
            show wpAny _ _ (if (!true) = true then _ else _) _ _ _
            rw [if_neg (by decide)]
            refine wpAny_bind (wpAny_dictEpoch hoa hda ?_)
            rw [if_neg (by simp)]
            exact wpAny_pure ⟨rfl, rfl, x + 1, hrest, hlt, hrr⟩
    · rintro q s' ⟨rfl, rfl, i, hr, hi, hpre⟩
      have hin : i = es.size := by
        rcases Nat.lt_or_ge i es.size with h | h
        · have e : es.size - i = (es.size - (i + 1)) + 1 := by omega
          rw [e, List.range'_succ] at hr; exact nomatch hr
        · exact Nat.le_antisymm hi h
      refine wpAny_pure ?_
      rw [hin, ← hla, List.drop_length] at hpre
      cases hpre
      exact h'
theorem eqH {a b : Addr} {ka kb : List (K × Addr × Value)} {r : Bool} {Q : Value → Shared → Prop} (hr : knd.room A.in1) (ha : (a == sysModules) = false) (hb : (b == sysModules) = false)
    (da : s.heap.DictOfH knd a ka) (db : s.heap.DictOfH knd b kb) (hu : A.units < cLine) (hits : ka.length = kb.length → HitsH A.in1 s kb ka r) (h : Q (.bool (ka.length == kb.length && r)) s) :
    wpAny (model prog w) A (compareOp .Eq (.ref a) (.ref b)) Q E s := by
  refine wpAny_richCompare_same_room (op := .Eq) da.typeIs db.typeIs PySem.F.slot_dict_eq (wpAny_call_entry PySem.F.slot_dict_eq da.typeIs PySem.F.entry_dict_eq ?_ (PySem.F.args_dict_eq_2 _ _)) hu
  show wpAny _ _ (Builtin.Dict.dictSlotArgs "__eq__" ⟨[.ref a, .ref b], []⟩ >>= _) _ _ s
  refine wpAny_bind ?_
  unfold Builtin.Dict.dictSlotArgs
  refine wpAny_bind (wpAny_notOrdered_dict da.typeIs ?_)
  show wpAny _ _ (pure (Value.ref a, Value.ref b)) _ _ s
  refine wpAny_pure ?_
  refine wpAny_bind (wpAny_isInstance (T := "dict") db.typeIs PySem.F.sub_dict_dict ?_)
  simp only [Bool.not_true, Bool.false_eq_true, if_false]
  refine wpAny_bind (wpAny_pure (wpAny_bind (wpAny_pure ?_)))
  refine wpAny_bind (samePairsH hr ha hb da db hits ?_)
  refine wpAny_pure ⟨_, rfl, ?_, ?_⟩
  · exact fun x => nomatch x
  · simpa using h
end
section
variable {X : Cx} {et : ET} {W : WX}
def sameKv (ka kb : List (PyData × PyData)) : Bool := ka.all fun p => match p.2, getD kb p.1 with
  | .int n, some (.int m) => decide (n = m)
  | _, _ => false
def intsKv (ka : List (PyData × PyData)) : Bool := tupKeys ka && ka.all fun p => match p.2 with
  | .int _ => true
  | _ => false
theorem hits_of {pins : List (Addr × Obj)} {σ : L2.St} {F H : Hp} {s : Shared} (hw : et.hs = fun k => k.hash X.w) {A : Around} {eb : List (NestedKey × Addr × V)} {kb : List (PyData × PyData)} {yb : List (NestedKey × Addr × Value)} (kvb : DnKv X.K et F eb kb) (pb : Paired EntR eb yb) (hib : intsKv kb = true) :
    ∀ {ea : List (NestedKey × Addr × V)} {ka : List (PyData × PyData)} {ya : List (NestedKey × Addr × Value)}, DnKv X.K et F ea ka → Paired EntR ea ya → intsKv ka = true → HitsH A s yb ya (sameKv ka kb)
  | _, _, _, .nil, .nil, _ => .nil
  | _, _, _, .cons (n := n) (k := k) (d := d) (es := es) (kvs := kvs) a a2 b c r, .cons (b := y) h t, hi => by
    obtain ⟨h1, h2, h3⟩ := h
    have hi' : intsKv kvs = true := by
      unfold intsKv tupKeys at hi ⊢
      rw [List.all_cons, List.all_cons, Bool.and_eq_true, Bool.and_eq_true, Bool.and_eq_true] at hi
      rw [hi.1.2, hi.2.2]; rfl
    have hd : ∃ i, d = .int i := by
      unfold intsKv at hi
      rw [Bool.and_eq_true, List.all_cons, Bool.and_eq_true] at hi
      have := hi.2.1
      cases d with
      | int i => exact ⟨i, rfl⟩
      | _ => cases this
    obtain ⟨i, rfl⟩ := hd
    have rest := hits_of (pins := pins) (σ := σ) (H := H) (s := s) hw (A := A) kvb pb hib r t hi'
    have e0 : sameKv ((k, .int i) :: kvs) kb = ((match getD kb k with | some (.int m) => decide (i = m) | _ => false) && sameKv kvs kb) := by
      unfold sameKv
      rw [List.all_cons]
      cases getD kb k with
      | none => rfl
      | some z => cases z <;> rfl
    rw [e0]
    obtain ⟨yk, ya, yv⟩ := y
    have h1 : n = yk := h1
    subst h1
    rcases ent_find kvb pb a with ⟨d', v', b', u', g1, g2, g3, g4⟩ | ⟨g1, g2⟩
    · have : ∃ m, d' = .int m := by
        unfold intsKv at hib
        rw [Bool.and_eq_true, List.all_eq_true] at hib
        unfold getD at g1
        cases q : kb.find? fun p => keyEq p.1 k with
        | none => rw [q] at g1; cases g1
        | some p =>
          rw [q] at g1
          cases g1
          have := hib.2 p (List.mem_of_find?_eq_some q)
          cases hp : p.2 with
          | int m => exact ⟨m, hp⟩
          | _ => rw [hp] at this; cases this
      obtain ⟨m, rfl⟩ := this
      rw [g1]
      have g3 : RelV v' u' := g3
      rw [g4.int_of] at g3
      have h3 : RelV _ yv := h3
      rw [c.int_of] at h3
      obtain ⟨t1, rfl⟩ := (show ∃ t, yv = Value.int i t from h3)
      obtain ⟨t2, rfl⟩ := (show ∃ t, u' = Value.int m t from g3)
      refine .hit g2 ?_ rest
      have := SeqAt.EqAt.int_int (A := A) (s := s) i t1 m t2
      show SeqAt.EqAt A s (.int i t1) (.int m t2) (decide (i = m))
      rw [show decide (i = m) = (i == m) from by cases q : (i == m) with | true => exact decide_eq_true (by simpa using q) | false => exact decide_eq_false (by simpa using q)]
      exact this
    · rw [g1]
      exact .miss g2
def rEqD (X : Cx) (et : ET) : R2 := fun x y H Q => ∃ (F : Hp) (ka kb : List (PyData × PyData)), Same F H ∧ Dn X.K et F x (.dict ka) ∧ Dn X.K et F y (.dict kb) ∧ intsKv ka = true ∧ intsKv kb = true ∧ Q (.bl (ka.length == kb.length && sameKv ka kb)) H
theorem op_eqD (hw : et.hs = fun k => k.hash X.w) (hu : X.A.units + 64 < cLine) : OpR X (compareOp .Eq) (rEqD X et) := by
  intro pins s σ H x y v u Q I rx ry h
  obtain ⟨F, ka, kb, sub, da, db, hia, hib, q⟩ := h
  have ta : tupKeys ka = true := by unfold intsKv at hia; rw [Bool.and_eq_true] at hia; exact hia.1
  have tb : tupKeys kb = true := by unfold intsKv at hib; rw [Bool.and_eq_true] at hib; exact hib.1
  obtain ⟨a, oa, ea, rfl, fa, kva⟩ := da.dict_nd ta
  obtain ⟨b, ob, eb, rfl, fb, kvb⟩ := db.dict_nd tb
  cases rx
  cases ry
  obtain ⟨_, hsa, ya, pa, dda⟩ := nd_dict I sub hw (.inr ⟨_, sub _ _ fa⟩) kva
  obtain ⟨_, hsb, yb, pb, ddb⟩ := nd_dict I sub hw (.inr ⟨_, sub _ _ fb⟩) kvb
  have la : ya.length = ka.length := by rw [← pa.length]; exact kva.length
  have lb : yb.length = kb.length := by rw [← pb.length]; exact kvb.length
  refine eqH (nd_room hu) hsa hsb dda ddb (by omega) (fun _ => hits_of (pins := pins) (σ := σ) (H := H) hw kvb pb hib kva pa hia) ⟨.bl _, H, I, ?_, q⟩
  rw [la, lb]
  rfl
end
end DL
set_option Elab.async false
set_option linter.all false
set_option maxRecDepth 100000
set_option maxHeartbeats 4000000
set_option autoImplicit false
set_option Elab.async false
set_option linter.all false
set_option maxRecDepth 100000
set_option maxHeartbeats 4000000
set_option autoImplicit false
namespace DL
open PySem PySem.Spec L2
open PyProof.Rows hiding St
section
variable {X : Cx} {et : ET} {W : WX}
def mNewL (i : Nat) (fs : Sg → Rs Sg (List DV)) (g : Sg) : Rs Sg Fl := (fs g).bind fun ds g1 => match allP ds with
  | some ps => if ps.length ≤ bigN then .ok .nx (g1.put i (.own ps)) else .no
  | none => .no
def mRevL (f : Sg → Rs Sg DV) (g : Sg) : Rs Sg DV := (f g).bind fun x g1 => match x with
  | .pu (.list xs) => .ok (.pu (.list xs.reverse)) g1
  | .pu (.tuple xs) => .ok (.pu (.tuple xs.reverse)) g1
  | _ => .no
end
end DL
set_option Elab.async false
set_option linter.all false
set_option maxRecDepth 100000
set_option maxHeartbeats 4000000
set_option autoImplicit false
set_option Elab.async false
set_option linter.all false
set_option maxRecDepth 100000
set_option maxHeartbeats 4000000
set_option autoImplicit false
set_option Elab.async false
set_option linter.all false
set_option maxRecDepth 100000
set_option maxHeartbeats 4000000
set_option autoImplicit false
namespace DL
open PySem PySem.Spec L2
open PyProof.Rows hiding St
section
variable {X : Cx} {et : ET} {W : WX}
def asS : DV → Option Str
  | .pu (.str a) => some a
  | _ => none
theorem DenP.str_of {K : PySem.W.Frag} {am : Addr} {F : Hp} {v : V} {x : DV} {a : Str} (h : DenP K et am F v x) (e : asS x = some a) : v = .str a := by
  unfold asS at e
  split at e
  · cases e
    exact Dn.str_of h
  · cases e
end
end DL
set_option Elab.async false
set_option linter.all false
set_option maxRecDepth 100000
set_option maxHeartbeats 4000000
set_option autoImplicit false
set_option Elab.async false
set_option linter.all false
set_option maxRecDepth 100000
set_option maxHeartbeats 4000000
set_option autoImplicit false
namespace DL
open PySem PySem.Spec L2
open PyProof.Rows hiding St
def Sat {S α : Type} (r : Rs S α) (Q : α → S → Prop) : Prop := ∃ a s, r = .ok a s ∧ Q a s
section
variable {S α β : Type}
theorem sat_ok {a : α} {s : S} {Q : α → S → Prop} (h : Q a s) : Sat (.ok a s) Q := ⟨a, s, rfl, h⟩
theorem Sat.mono {r : Rs S α} {P Q : α → S → Prop} (h : Sat r P) (k : ∀ a s, P a s → Q a s) : Sat r Q := by
  obtain ⟨a, s, e, p⟩ := h
  exact ⟨a, s, e, k a s p⟩
end
theorem sat_fnB {np n : Nat} {f : Sg → Rs Sg Fl} {ds : List DV} {s : MS} {Q : DV → MS → Prop} (hl : ds.length = np) (h : Sat (f ⟨startD n ds, s⟩) fun x g => ∃ d, x = .rt d ∧ Q d g.s) : Sat (fnB np n f ds s) Q := by
  obtain ⟨x, g, e, d, rfl, q⟩ := h
  refine ⟨d, g.s, ?_, q⟩
  unfold fnB
  rw [if_pos hl, e]
  rfl
theorem fnB_ok {np n : Nat} {f : Sg → Rs Sg Fl} {ds : List DV} {s : MS} {d : DV} {g : Sg} (hl : ds.length = np) (h : f ⟨startD n ds, s⟩ = .ok (.rt d) g) : fnB np n f ds s = .ok d g.s := by
  unfold fnB
  rw [if_pos hl, h]
  rfl
theorem for_inv {t : PyData → Sg → Option Sg} {body : Sg → Rs Sg Fl} (I : Nat → Sg → Prop) : ∀ (ds : List PyData) (k : Nat) (g : Sg), I k g →
    (∀ i d g, ds[i]? = some d → I (k + i) g → ∃ g1, t d g = some g1 ∧ Sat (body g1) fun x g2 => (x = .nx ∨ x = .ct) ∧ I (k + i + 1) g2) → ∃ g', mForL t body ds g = .ok .nx g' ∧ I (k + ds.length) g'
  | [], k, g, h, _ => ⟨g, rfl, h⟩
  | d :: ds, k, g, h, st => by
    obtain ⟨g1, e1, x, g2, e2, hx, h2⟩ := st 0 d g rfl h
    obtain ⟨g', e', h'⟩ := for_inv I ds (k + 1) g2 h2 fun i d' g hd hi => by
      have := st (i + 1) d' g (by simpa using hd) (by rw [← Nat.add_assoc, Nat.add_right_comm]; exact hi)
      rw [← Nat.add_assoc, Nat.add_right_comm k i 1] at this
      exact this
    refine ⟨g', ?_, by rw [List.length_cons, Nat.add_comm ds.length 1, ← Nat.add_assoc]; exact h'⟩
    unfold mForL
    rw [e1]
    show (match body g1 with
      | .ok .nx g2 => mForL t body ds g2
      | .ok .ct g2 => mForL t body ds g2
      | .ok .bk g2 => .ok .nx g2
      | .ok (.rt d) g2 => .ok (.rt d) g2
      | .ex c p g2 => .ex c p g2
      | .no => .no) = _
    rw [e2]
    rcases hx with rfl | rfl <;> exact e'
theorem sat_for {fi : Sg → Rs Sg (List PyData)} {t : PyData → Sg → Option Sg} {body : Sg → Rs Sg Fl} {g g0 : Sg} {ds : List PyData} {Q : Fl → Sg → Prop} (I : Nat → Sg → Prop) (hi : fi g = .ok ds g0) (h0 : I 0 g0)
    (st : ∀ i d g, ds[i]? = some d → I i g → ∃ g1, t d g = some g1 ∧ Sat (body g1) fun x g2 => (x = .nx ∨ x = .ct) ∧ I (i + 1) g2) (k : ∀ g', I ds.length g' → Q .nx g') : Sat (mFor fi t body g) Q := by
  obtain ⟨g', e, h'⟩ := for_inv (t := t) (body := body) I ds 0 g0 h0 fun i d g hd hi => by
    rw [Nat.zero_add] at hi ⊢
    exact st i d g hd hi
  refine ⟨.nx, g', ?_, k g' (by rw [Nat.zero_add] at h'; exact h')⟩
  unfold mFor
  rw [hi]
  exact e
/-- a comprehension that only reads -/
theorem lc_map {vs : List Nat} {t : PyData → Sg → Option Sg} {elt : Sg → Rs Sg DV} {g0 : Sg} (h : PyData → PyData) : ∀ (ds acc : List PyData), acc.length + ds.length ≤ bigN →
    (∀ d ∈ ds, ∃ g1 g3, t d g0 = some g1 ∧ elt g1 = .ok (.pu (h d)) g3 ∧ g3.wipe vs = g0) → lcLoop vs t mYes elt ds acc g0 = .ok (acc ++ ds.map h) g0
  | [], acc, _, _ => by unfold lcLoop; rw [List.map_nil, List.append_nil]
  | d :: ds, acc, hl, st => by
    have hl' : acc.length < bigN := by rw [List.length_cons] at hl; omega
    obtain ⟨g1, g3, e1, e3, e4⟩ := st d List.mem_cons_self
    unfold lcLoop
    rw [e1]
    show ((elt g1).nox.bind _) = _
    rw [e3]
    show (if acc.length < bigN then lcLoop vs t mYes elt ds (acc ++ [h d]) (g3.wipe vs) else .no) = _
    rw [if_pos hl', e4, lc_map h ds (acc ++ [h d]) (by rw [List.length_append, List.length_singleton]; rw [List.length_cons] at hl; omega) fun d' hd => st d' (List.mem_cons_of_mem _ hd), List.map_cons, List.append_assoc, List.singleton_append]
theorem mLc_of {vs : List Nat} {fi : Sg → Rs Sg (List PyData)} {t : PyData → Sg → Option Sg} {test : Sg → Rs Sg Bool} {elt : Sg → Rs Sg DV} {g g1 g2 : Sg} {ds acc : List PyData} (hi : fi g = .ok ds g1) (hl : lcLoop vs t test elt ds [] (g1.wipe vs) = .ok acc g2) :
    mLc vs fi t test elt g = .ok (.pu (.list acc)) { g2 with r := restR g1.r vs g2.r } := by
  unfold mLc
  rw [hi]
  show (lcLoop vs t test elt ds [] (g1.wipe vs)).bind _ = _
  rw [hl]
  rfl
theorem map_get {α β : Type} {f : α → β} {l : List α} {i : Nat} {b : β} (h : (l.map f)[i]? = some b) : ∃ a, l[i]? = some a ∧ f a = b := by
  rw [List.getElem?_map] at h
  cases e : l[i]? with
  | none => rw [e] at h; cases h
  | some a => rw [e] at h; cases h; exact ⟨a, rfl, rfl⟩
theorem rangeD_get {lo : Int} {n i : Nat} {d : PyData} (h : (rangeD lo n)[i]? = some d) : i < n ∧ d = .int (lo + (i : Nat)) := by
  unfold rangeD at h
  obtain ⟨a, e, rfl⟩ := map_get h
  rw [List.getElem?_eq_some_iff] at e
  obtain ⟨hl, e⟩ := e
  rw [List.getElem_range] at e
  subst e
  exact ⟨by simpa using hl, rfl⟩
end DL
set_option Elab.async false
set_option linter.all false
set_option maxRecDepth 100000
set_option maxHeartbeats 4000000
set_option autoImplicit false
namespace DL
open PySem PySem.Spec L2
open PyProof.Rows hiding St
structure Fit (n k : Nat) (d : PyData) : Prop where
  lay : d.canLay0 = true
  short : d.leavesShort 30 = true
  show_ : d.showable = true
  dep : d.depth ≤ k
  bulk : d.bulk ≤ n
structure FitL (n k : Nat) (ds : List PyData) : Prop where
  lay : PyData.canLayAll0 ds = true
  short : PyData.leavesShortAll 30 ds = true
  show_ : PyData.showableAll ds = true
  dep : PyData.depthAll ds ≤ k
  bulk : PyData.bulkAll ds ≤ n
theorem Fit.mono {n k n' k' : Nat} {d : PyData} (h : Fit n k d) (a : n ≤ n') (b : k ≤ k') : Fit n' k' d := ⟨h.lay, h.short, h.show_, Nat.le_trans h.dep b, Nat.le_trans h.bulk a⟩
theorem FitL.mono {n k n' k' : Nat} {d : List PyData} (h : FitL n k d) (a : n ≤ n') (b : k ≤ k') : FitL n' k' d := ⟨h.lay, h.short, h.show_, Nat.le_trans h.dep b, Nat.le_trans h.bulk a⟩
theorem FitL.lst {n k : Nat} {ds : List PyData} (h : FitL n k ds) : Fit n (k + 1) (.list ds) := by
  refine ⟨?_, ?_, ?_, ?_, ?_⟩
  · unfold PyData.canLay0; exact h.lay
  · unfold PyData.leavesShort; exact h.short
  · unfold PyData.showable; exact h.show_
  · unfold PyData.depth; exact Nat.add_le_add_right h.dep 1
  · unfold PyData.bulk; exact h.bulk
theorem FitL.tup {n k : Nat} {ds : List PyData} (h : FitL n k ds) : Fit n (k + 1) (.tuple ds) := by
  refine ⟨?_, ?_, ?_, ?_, ?_⟩
  · unfold PyData.canLay0; exact h.lay
  · unfold PyData.leavesShort; exact h.short
  · unfold PyData.showable; exact h.show_
  · unfold PyData.depth; exact Nat.add_le_add_right h.dep 1
  · unfold PyData.bulk; exact h.bulk
theorem Fit.ok {n k : Nat} {d : PyData} (h : Fit n k d) (hn : n ≤ 400000 := by decide) (hk : k ≤ 64 := by decide) : okShow d = true := by
  unfold okShow
  have hs := PyData.shown_le_bulk 30 (by decide) d h.short
  have hb := h.bulk
  have hp := h.dep
  rw [h.show_]
  simp only [Bool.true_and, Bool.and_eq_true, decide_eq_true_eq]
  refine ⟨by omega, ?_⟩
  unfold bigN
  omega
theorem Fit.shaped {n k : Nat} {d : PyData} (h : Fit n k d) (hk : k ≤ 64 := by decide) : SeqAt.shaped d = true := by
  unfold SeqAt.shaped
  rw [h.lay]
  exact decide_eq_true (Nat.le_trans h.dep hk)
theorem Fit.eqv {n k : Nat} {d : PyData} (h : Fit n k d) : PyData.eqv d d = true := SeqAt.eqv_refl d h.lay
theorem bRepr_ok {d : PyData} (h : okShow d = true) : bRepr [.pu d] = some (.str d.shown) := if_pos h
end DL
set_option Elab.async false
set_option linter.all false
set_option maxRecDepth 100000
set_option maxHeartbeats 4000000
set_option autoImplicit false
set_option Elab.async false
set_option linter.all false
set_option maxRecDepth 100000
set_option maxHeartbeats 4000000
set_option autoImplicit false
namespace DL
open PySem PySem.Spec L2
open PyProof.Rows hiding St
theorem isNon_non : isNon .none = true := rfl
theorem isNon_int {i : Int} : isNon (.int i) = false := rfl
theorem atI_nat {α : Type} {l : List α} {k : Nat} {a : α} (h : l[k]? = some a) : atI l (k : Int) = some a := by
  have hk : k < l.length := (List.getElem?_eq_some_iff.mp h).1
  unfold atI ixN
  rw [if_pos (by omega), if_pos (by omega), Option.bind_some, Int.toNat_natCast]
  exact h
theorem okRng_of {j : Int} (h0 : -1000000000 ≤ j) (h : j ≤ 1000000000) : okRng j = true := by
  unfold okRng
  exact decide_eq_true (by omega)
theorem rng1_of {j : Int} {n : Nat} (e : j = (n : Nat)) (h : n ≤ 1000000000) : rng1 [.pu (.int j)] = some (0, n) := by
  subst e
  have := okRng_of (j := (n : Nat)) (by omega) (by omega)
  show (if okRng (n : Nat) = true then some ((0 : Int), ((n : Nat) : Int).toNat) else none) = _
  rw [if_pos this, Int.toNat_natCast]
end DL
set_option Elab.async false
set_option linter.all false
set_option maxRecDepth 100000
set_option maxHeartbeats 4000000
set_option autoImplicit false
namespace DL
open PySem PySem.Spec L2
open PyProof.Rows hiding St
theorem mLc_map {vs : List Nat} {fi : Sg → Rs Sg (List PyData)} {t : PyData → Sg → Option Sg} {elt : Sg → Rs Sg DV} {g : Sg} {ds : List PyData} (h : PyData → PyData) (hi : fi g = .ok ds g) (hl : ds.length ≤ bigN)
    (he : ∀ d ∈ ds, ∃ g1 g3, t d (g.wipe vs) = some g1 ∧ elt g1 = .ok (.pu (h d)) g3 ∧ g3.wipe vs = g.wipe vs) (hr : restR g.r vs (wipeR vs g.r) = g.r := by rfl) : mLc vs fi t mYes elt g = .ok (.pu (.list (ds.map h))) g := by
  rw [mLc_of hi (lc_map h ds [] (by rw [List.length_nil]; omega) he), List.nil_append]
  show Rs.ok _ (Sg.mk (restR g.r vs (wipeR vs g.r)) g.s) = _
  rw [hr]
theorem big0 : (0 : Nat) ≤ bigN := by decide
theorem big1 : (1 : Nat) ≤ bigN := by decide
theorem big2 : (2 : Nat) ≤ bigN := by decide
theorem big3 : (3 : Nat) ≤ bigN := by decide
theorem big4 : (4 : Nat) ≤ bigN := by decide
theorem big5 : (5 : Nat) ≤ bigN := by decide
theorem big6 : (6 : Nat) ≤ bigN := by decide
theorem big7 : (7 : Nat) ≤ bigN := by decide
theorem big8 : (8 : Nat) ≤ bigN := by decide
theorem big9 : (9 : Nat) ≤ bigN := by decide
theorem big10 : (10 : Nat) ≤ bigN := by decide
theorem big11 : (11 : Nat) ≤ bigN := by decide
theorem big12 : (12 : Nat) ≤ bigN := by decide
theorem len0 {α : Type} : ([] : List α).length = 0 := rfl
theorem cst0 : ((0 : Nat) : Int) = 0 := rfl
theorem len1 {α : Type} {a : α} : ([a] : List α).length = 1 := rfl
theorem cst1 : ((1 : Nat) : Int) = 1 := rfl
theorem len2 {α : Type} {a b : α} : ([a, b] : List α).length = 2 := rfl
theorem cst2 : ((2 : Nat) : Int) = 2 := rfl
theorem len3 {α : Type} {a b c : α} : ([a, b, c] : List α).length = 3 := rfl
theorem cst3 : ((3 : Nat) : Int) = 3 := rfl
theorem len4 {α : Type} {a b c d : α} : ([a, b, c, d] : List α).length = 4 := rfl
theorem cst4 : ((4 : Nat) : Int) = 4 := rfl
theorem len5 {α : Type} {a b c d e : α} : ([a, b, c, d, e] : List α).length = 5 := rfl
theorem cst5 : ((5 : Nat) : Int) = 5 := rfl
theorem len6 {α : Type} {a b c d e f : α} : ([a, b, c, d, e, f] : List α).length = 6 := rfl
theorem cst6 : ((6 : Nat) : Int) = 6 := rfl
theorem len7 {α : Type} {a b c d e f g : α} : ([a, b, c, d, e, f, g] : List α).length = 7 := rfl
theorem cst7 : ((7 : Nat) : Int) = 7 := rfl
theorem len8 {α : Type} {a b c d e f g h : α} : ([a, b, c, d, e, f, g, h] : List α).length = 8 := rfl
theorem cst8 : ((8 : Nat) : Int) = 8 := rfl
theorem len9 {α : Type} {a b c d e f g h i : α} : ([a, b, c, d, e, f, g, h, i] : List α).length = 9 := rfl
theorem cst9 : ((9 : Nat) : Int) = 9 := rfl
theorem len10 {α : Type} {a b c d e f g h i j : α} : ([a, b, c, d, e, f, g, h, i, j] : List α).length = 10 := rfl
theorem cst10 : ((10 : Nat) : Int) = 10 := rfl
theorem len11 {α : Type} {a b c d e f g h i j k : α} : ([a, b, c, d, e, f, g, h, i, j, k] : List α).length = 11 := rfl
theorem cst11 : ((11 : Nat) : Int) = 11 := rfl
theorem len12 {α : Type} {a b c d e f g h i j k l : α} : ([a, b, c, d, e, f, g, h, i, j, k, l] : List α).length = 12 := rfl
theorem cst12 : ((12 : Nat) : Int) = 12 := rfl
end DL
set_option Elab.async false
set_option linter.all false
set_option maxRecDepth 100000
set_option maxHeartbeats 4000000
set_option autoImplicit false
namespace DL
open PySem PySem.Spec L2
open PyProof.Rows hiding St
section
variable {f fa fb fc : Sg → Rs Sg DV} {fs : Sg → Rs Sg (List DV)} {c d : Sg → Rs Sg Bool} {g g1 g2 g3 : Sg} {x y : DV} {xs : List DV} {b b1 b2 : Bool} {p q r : PyData} {l l1 l2 : List (Option DV)} {s s1 s2 : MS} {st st2 : Sg → Rs Sg Fl}
def OpR (h : PyData → PyData → Option PyData) (p q r : PyData) : Prop := h p q = some r
theorem op_h {h : PyData → PyData → Option PyData} (e : h p q = some r) : OpR h p q r := e
def BlR (h : List DV → Option PyData) (xs : List DV) (p : PyData) : Prop := h xs = some p
theorem bl_h {h : List DV → Option PyData} (e : h xs = some p) : BlR h xs p := e
def CtR (p : PyData) (lo hi : Option Int) (r : PyData) : Prop := dCut p lo hi = some r
theorem ct_h {lo hi : Option Int} (e : dCut p lo hi = some r) : CtR p lo hi r := e
def IsR (T : String) (p : PyData) (b : Bool) : Prop := isiT T p = b
theorem is_t {T : String} (e : isiT T p = true) : IsR T p true := e
theorem is_f {T : String} (e : isiT T p = false) : IsR T p false := e
theorem is_h {T : String} (e : isiT T p = b) : IsR T p b := e
def BeR (b b1 : Bool) : Prop := b = b1
theorem be_h (e : b = b1) : BeR b b1 := e
theorem be_t (e : b = true) : BeR b true := e
theorem be_f (e : b = false) : BeR b false := e
def SqR (x : DV) (ds : List PyData) : Prop := seqOf x = some ds
theorem sq_h {ds : List PyData} (e : seqOf x = some ds) : SqR x ds := e
def LnR (n : Nat) : Prop := n ≤ bigN
theorem ln_h {n : Nat} (e : n ≤ bigN) : LnR n := e
theorem ln_b {n : Nat} (e : Nat.ble n bigN = true) : LnR n := Nat.le_of_ble_eq_true e
def TgR (t : PyData → Sg → Option Sg) (p : PyData) (g g1 : Sg) : Prop := t p g = some g1
theorem tg_h {t : PyData → Sg → Option Sg} (e : t p g = some g1) : TgR t p g g1 := e
theorem own_at {l : List (Option DV)} {i : Nat} {v : Option (Option DV)} (h : l[i]? = v) : l[i]? = v := h
theorem set_r {l l' : List (Option DV)} {i : Nat} {v : Option DV} (h : l.set i v = l') : l.set i v = l' := h
theorem set_z {α : Type} {a x : α} {l : List α} : (a :: l).set 0 x = x :: l := rfl
theorem set_s {α : Type} {a x : α} {l l' : List α} {i : Nat} (h : l.set i x = l') : (a :: l).set (i + 1) x = a :: l' := by rw [← h]; rfl
theorem e_var {i : Nat} {u : DV} (h : g.r[i]? = some (some u)) (hn : isOwnV u = false) : mVar i g = .ok u g := by
  unfold mVar
  rw [h]
  cases u <;> first | rfl | cases hn
theorem e_c : mC p g = .ok (.pu p) g := rfl
theorem e_nil : mNil g = .ok [] g := rfl
theorem e_cons (e : fa g = .ok x g1) (e2 : fs g1 = .ok xs g2) : mCons fa fs g = .ok (x :: xs) g2 := by
  unfold mCons
  rw [e]
  show (fs g1).bind _ = _
  rw [e2]
  rfl
theorem e_star {ds : List PyData} (e : fa g = .ok x g1) (h : SqR x ds) (e2 : fs g1 = .ok xs g2) : mStar fa fs g = .ok (ds.map .pu ++ xs) g2 := by
  have h : seqOf x = some ds := h
  simp only [mStar, e, Rs.bind_ok, h, e2]
theorem e_bin {h : PyData → PyData → Option PyData} (ea : fa g = .ok (.pu p) g1) (eb : fb g1 = .ok (.pu q) g2) (er : OpR h p q r) : mBin h fa fb g = .ok (.pu r) g2 := by
  unfold mBin
  rw [ea]
  show (fb g1).bind _ = _
  rw [eb]
  show Rs.of ((h p q).map DV.pu) g2 = _
  rw [er]
  rfl
def callK (l : List (Option DV)) : Rs MS DV → Rs Sg DV
  | .ok y s => .ok y ⟨l, s⟩
  | .ex k p s => .ex k p ⟨l, s⟩
  | .no => .no
theorem e_call {fn : List DV → MS → Rs MS DV} {r1 : Rs MS DV} {r : Rs Sg DV} (e : fs g = .ok xs ⟨l, s⟩) (ef : fn xs s = r1) (h : callK l r1 = r) : mCallF fn fs g = r := by
  subst h
  unfold mCallF
  rw [e, ← ef]
  show (match fn xs s with | .ok d s => Rs.ok d (Sg.mk l s) | .ex c p s => .ex c p (Sg.mk l s) | .no => .no) = _
  cases fn xs s <;> rfl
theorem ck_ok : callK l (.ok y s) = .ok y ⟨l, s⟩ := rfl
theorem ck_ex {k : Nat} : callK l (.ex k p s) = .ex k p ⟨l, s⟩ := rfl
theorem e_callB {h : List DV → Option PyData} (e : fs g = .ok xs g1) (eh : BlR h xs p) : mCallB h fs g = .ok (.pu p) g1 := by
  unfold mCallB
  rw [e]
  show Rs.of ((h xs).map DV.pu) g1 = _
  rw [eh]
  rfl
theorem e_seq {mk : List PyData → PyData} {ps : List PyData} (e : fs g = .ok xs g1) (h : allP xs = some ps) (hl : LnR ps.length) : mSeq mk fs g = .ok (.pu (mk ps)) g1 := by
  unfold mSeq
  rw [e]
  show (match allP xs with | some ps => if ps.length ≤ bigN then Rs.ok (DV.pu (mk ps)) g1 else .no | none => .no) = _
  rw [h]
  exact if_pos hl
theorem allP_z : allP [] = some [] := rfl
theorem allP_s {ps : List PyData} (h : allP xs = some ps) : allP (.pu p :: xs) = some (p :: ps) := by
  show (allP xs).map (p :: ·) = _
  rw [h]
  rfl
theorem e_part {i : Int} (e : f g = .ok (.pu (.int i)) g1) : mPart f g = .ok (some i) g1 := by
  unfold mPart
  rw [e]
  rfl
theorem e_nopart : mNoPart g = .ok none g := rfl
theorem e_cut {fl fh : Sg → Rs Sg (Option Int)} {lo hi : Option Int} (e : f g = .ok (.pu p) g1) (el : fl g1 = .ok lo g2) (eh : fh g2 = .ok hi g3) (er : CtR p lo hi r) : mCut f fl fh g = .ok (.pu r) g3 := by
  unfold mCut
  rw [e]
  show (fl g1).bind _ = _
  rw [el]
  show (fh g2).bind _ = _
  rw [eh]
  show Rs.of ((dCut p lo hi).map DV.pu) g3 = _
  rw [er]
  rfl
theorem e_rev {ds : List PyData} (e : f g = .ok (.pu (.tuple ds)) g1) : mRevL f g = .ok (.pu (.tuple ds.reverse)) g1 := by
  unfold mRevL
  rw [e]
  rfl
theorem e_revL {ds : List PyData} (e : f g = .ok (.pu (.list ds)) g1) : mRevL f g = .ok (.pu (.list ds.reverse)) g1 := by
  unfold mRevL
  rw [e]
  rfl
theorem e_neg {i : Int} (e : f g = .ok (.pu (.int i)) g1) : mNeg f g = .ok (.pu (.int (-i))) g1 := by
  unfold mNeg
  rw [e]
  rfl
theorem e_isi {T : String} (e : f g = .ok (.pu p) g1) (hd : isDct p = false) (hb : IsR T p b) : mIsi T f g = .ok (.pu (.bool b)) g1 := by
  unfold mIsi
  rw [e, ← hb]
  show (if isDct p = true then Rs.no else _) = _
  rw [hd]
  rfl
theorem e_test (e : f g = .ok (.pu (.bool b)) g1) (hb : BeR b b1) : mTest f g = .ok b1 g1 := by
  cases hb
  unfold mTest
  rw [e]
  rfl
theorem e_notB (e : c g = .ok b g1) (hb : BeR (!b) b1) : mNotB c g = .ok b1 g1 := by
  cases hb
  unfold mNotB
  rw [e]
  rfl
theorem e_notV (e : f g = .ok (.pu (.bool b)) g1) (hb : BeR (!b) b1) : mNotV f g = .ok (.pu (.bool b1)) g1 := by
  cases hb
  unfold mNotV
  rw [e]
  rfl
theorem not_t : (!true) = false := rfl
theorem not_f : (!false) = true := rfl
theorem iteB_t {α : Type} {a b r : α} (h : a = r) : (if true = true then a else b) = r := h
theorem iteB_f {α : Type} {a b r : α} (h : b = r) : (if false = true then a else b) = r := h
theorem e_if {α : Type} {p q : Sg → Rs Sg α} {r : Rs Sg α} (e : c g = .ok b g1) (h : (if b = true then p g1 else q g1) = r) : mIf c p q g = r := by
  unfold mIf
  rw [e]
  exact h
theorem e_orB {r : Rs Sg Bool} (e : c g = .ok b g1) (h : (if b = true then .ok true g1 else d g1) = r) : mOrB c d g = r := by
  unfold mOrB
  rw [e]
  exact h
theorem e_andB {r : Rs Sg Bool} (e : c g = .ok b g1) (h : (if b = true then d g1 else .ok false g1) = r) : mAndB c d g = r := by
  unfold mAndB
  rw [e]
  exact h
theorem e_andV {r : Rs Sg DV} (e : fa g = .ok (.pu (.bool b)) g1) (hb : BeR b b1) (h : (if b1 = true then fb g1 else .ok (.pu (.bool false)) g1) = r) : mAndV fa fb g = r := by
  cases hb
  unfold mAndV
  rw [e]
  exact h
theorem e_orV {r : Rs Sg DV} (e : fa g = .ok (.pu (.bool b)) g1) (hb : BeR b b1) (h : (if b1 = true then .ok (.pu (.bool true)) g1 else fb g1) = r) : mOrV fa fb g = r := by
  cases hb
  unfold mOrV
  rw [e]
  exact h
theorem e_chain {h h' : PyData → PyData → Option PyData} {rr : Rs Sg DV} (ea : fa g = .ok (.pu p) g1) (eb : fb g1 = .ok (.pu q) g2) (er : OpR h p q (.bool b)) (hb : BeR b b1) (k : (if b1 = true then (mBin (fun _ z => h' q z) (mC q) fc) g2 else .ok (.pu (.bool false)) g2) = rr) : mChain h h' fa fb fc g = rr := by
  cases hb
  subst k
  unfold mChain
  rw [ea]
  show (fb g1).bind _ = _
  rw [eb]
  show (Rs.of ((h p q).bind fun d => asB (.pu d)) g2).bind _ = _
  rw [er]
  show (if b = true then _ else _) = _
  cases b with
  | true =>
    show (fc g2).bind _ = (fc g2).bind _
    congr 1
    funext z g4
    cases z <;> rfl
  | false => rfl
theorem e_chainI {i j k : Int} (ea : fa g = .ok (.pu (.int i)) g) (eb : fb g = .ok (.pu (.int j)) g) (ec : fc g = .ok (.pu (.int k)) g) : mChain dLe dLe fa fb fc g = .ok (.pu (.bool (leB i j && leB j k))) g := by
  unfold mChain
  simp only [ea, eb, Rs.bind_ok, dLe, Option.bind_some, asB, Rs.of_some]
  cases leB i j with
  | true => simp only [if_true, ec, Rs.bind_ok, Option.map_some, Rs.of_some, Bool.true_and]
  | false => rfl
def retK : Rs Sg DV → Rs Sg Fl
  | .ok x g => .ok (.rt x) g
  | .ex k p g => .ex k p g
  | .no => .no
theorem e_ret {r1 : Rs Sg DV} {r : Rs Sg Fl} (e : f g = r1) (h : retK r1 = r) : mRet f g = r := by
  subst h
  subst e
  unfold mRet
  cases f g <;> rfl
theorem rk_ok : retK (.ok x g) = .ok (.rt x) g := rfl
theorem rk_ex {k : Nat} : retK (.ex k p g) = .ex k p g := rfl
def dropK : Rs Sg DV → Rs Sg Fl
  | .ok _ g => .ok .nx g
  | .ex k p g => .ex k p g
  | .no => .no
theorem e_drop {r1 : Rs Sg DV} {r : Rs Sg Fl} (e : f g = r1) (h : dropK r1 = r) : mDrop f g = r := by
  subst h
  subst e
  unfold mDrop
  cases f g <;> rfl
theorem dk_ok : dropK (.ok x g) = .ok .nx g := rfl
theorem dk_ex {k : Nat} : dropK (.ex k p g) = .ex k p g := rfl
def setK (i : Nat) : Rs Sg DV → Rs Sg Fl
  | .ok x g => .ok .nx (g.put i x)
  | .ex k p g => .ex k p g
  | .no => .no
theorem e_mset {i : Nat} {r1 : Rs Sg DV} {r : Rs Sg Fl} (e : f g = r1) (h : setK i r1 = r) : mSet i f g = r := by
  subst h
  subst e
  unfold mSet
  cases f g <;> rfl
theorem tk_ok {i : Nat} (h : l.set i (some x) = l1) : setK i (.ok x ⟨l, s⟩) = .ok .nx ⟨l1, s⟩ := by
  subst h
  rfl
theorem tk_ex {i k : Nat} : setK i (.ex k p g) = .ex k p g := rfl
theorem e_newL {i : Nat} {ps : List PyData} (e : fs g = .ok xs ⟨l, s⟩) (h : allP xs = some ps) (hl : LnR ps.length) (hs : l.set i (some (.own ps)) = l1) : mNewL i fs g = .ok .nx ⟨l1, s⟩ := by
  subst hs
  have hl : ps.length ≤ bigN := hl
  simp only [mNewL, e, Rs.bind_ok, h, hl, if_true]
  rfl
theorem e_varO {i : Nat} {ds : List PyData} (h : l[i]? = some (some (.own ds))) (hs : l.set i (some (.pu (.list ds))) = l1) : mVar i ⟨l, s⟩ = .ok (.pu (.list ds)) ⟨l1, s⟩ := by
  subst hs
  unfold mVar
  simp only [h]
theorem e_ixN {i : Nat} {ds : List PyData} {k : Int} (hx : g.r[i]? = some (some (.own ds))) (e : f g = .ok (.pu (.int k)) g) (h : atI ds k = some p) : mIxN i f g = .ok (.pu p) g := by
  have hd : isDic g i = false := by unfold isDic; rw [hx]
  have ho : isOwn g i = true := by unfold isOwn; rw [hx]
  unfold mIxN
  rw [hd, ho]
  simp only [Bool.false_eq_true, if_false, if_true, e, Rs.bind_ok, hx, h, Option.map_some, Rs.of_some]
theorem e_new {i : Nat} (h : l.set i (some (.own [])) = l1) : mNew i ⟨l, s⟩ = .ok .nx ⟨l1, s⟩ := by
  subst h
  rfl
theorem e_newD {i : Nat} (h : l.set i (some (.dic [])) = l1) : mNewD i ⟨l, s⟩ = .ok .nx ⟨l1, s⟩ := by
  subst h
  rfl
theorem e_raise {k : Nat} (e : f g = .ok (.pu p) g1) : mRaise k f g = .ex k p g1 := by
  unfold mRaise
  rw [e]
  rfl
theorem e_par2 {i j : Nat} (e : fs g = .ok [x, y] ⟨l, s⟩) (h : l.set i (some x) = l1) (h2 : l1.set j (some y) = l2) : mPar2 i j fs g = .ok .nx ⟨l2, s⟩ := by
  subst h
  subst h2
  unfold mPar2
  rw [e]
  rfl
theorem e_app {i : Nat} {ds : List PyData} (ho : isOwn g i = true) (e : f g = .ok (.pu p) ⟨l, s⟩) (hi : l[i]? = some (some (.own ds))) (hl : LnR (ds.length + 1)) (h : l.set i (some (.own (ds ++ [p]))) = l1) : mApp i f g = .ok .nx ⟨l1, s⟩ := by
  subst h
  have hl : ds.length < bigN := hl
  simp only [mApp, ho, if_true, e, Rs.bind_ok, hi, hl]
  rfl
theorem e_aug {i : Nat} {h : PyData → PyData → Option PyData} (hi : g.r[i]? = some (some (.pu p))) (e : f g = .ok (.pu q) ⟨l, s⟩) (er : OpR h p q r) (hs : l.set i (some (.pu r)) = l1) : mAug i h f g = .ok .nx ⟨l1, s⟩ := by
  subst hs
  unfold mAug
  rw [hi]
  show (f g).bind _ = _
  rw [e]
  have er : h p q = some r := er
  simp only [Rs.bind_ok, er, Rs.of_some]
  rfl
theorem e_asg {t : PyData → Sg → Option Sg} (e : f g = .ok (.pu p) g1) (h : TgR t p g1 g2) : mAsg f t g = .ok .nx g2 := by
  unfold mAsg
  rw [e]
  show (Rs.of (t p g1) g1).bind _ = _
  rw [h]
  rfl
theorem e_gtName {i : Nat} (h : l.set i (some (.pu p)) = l1) : gtName i p ⟨l, s⟩ = some ⟨l1, s⟩ := by
  subst h
  rfl
theorem e_gtTup {n : Nat} {t : List PyData → Sg → Option Sg} {ds : List PyData} (hl : ds.length = n) (h : t ds g = some g1) : gtTup n t (.tuple ds) g = some g1 := by
  show (if ds.length = n then t ds g else none) = _
  rw [if_pos hl]
  exact h
theorem e_gtCons {t : PyData → Sg → Option Sg} {t2 : List PyData → Sg → Option Sg} {ds : List PyData} (h : t p g = some g1) (h2 : t2 ds g1 = some g2) : gtCons t t2 (p :: ds) g = some g2 := by
  show (t p g).bind (fun g1 => t2 ds g1) = _
  rw [h]
  exact h2
theorem e_gtNil : gtNil [] g = some g := rfl
theorem ok_r {α : Type} {a : α} : (Rs.ok a g : Rs Sg α) = .ok a g := rfl
theorem ex_r {α : Type} {k : Nat} : (Rs.ex k p g : Rs Sg α) = .ex k p g := rfl
theorem e_nx : (fun g : Sg => (Rs.ok Fl.nx g : Rs Sg Fl)) g = .ok .nx g := rfl
def seqK (h : Sg → Rs Sg Fl) : Rs Sg Fl → Rs Sg Fl
  | .ok .nx g => h g
  | r => r
theorem e_seqS {r1 r : Rs Sg Fl} (e : st g = r1) (h : seqK st2 r1 = r) : mSeqS st st2 g = r := by
  subst e
  subst h
  unfold mSeqS
  cases q : st g with
  | ok x g1 => cases x <;> rfl
  | ex _ _ _ => rfl
  | no => rfl
theorem sk_nx {r : Rs Sg Fl} (h : st g = r) : seqK st (.ok .nx g) = r := h
theorem sk_rt : seqK st (.ok (.rt x) g) = .ok (.rt x) g := rfl
theorem sk_ct : seqK st (.ok .ct g) = .ok .ct g := rfl
theorem sk_bk : seqK st (.ok .bk g) = .ok .bk g := rfl
theorem sk_ex {k : Nat} : seqK st (.ex k p g) = .ex k p g := rfl
theorem wipe_z : wipeR [] l = l := rfl
theorem wipe_s {v : Nat} {vs : List Nat} (h : wipeR vs l = l1) (h2 : l1.set v none = l2) : wipeR (v :: vs) l = l2 := by
  subst h
  exact h2
theorem e_seqI {ds : List PyData} (e : f g = .ok x g1) (h : SqR x ds) : mSeqI f g = .ok ds g1 := by
  unfold mSeqI
  rw [e]
  cases x with
  | pu d =>
    cases d with
    | dict _ => cases h
    | _ => exact (by rw [h]; rfl : Rs.of (seqOf _) g1 = Rs.ok ds g1)
  | _ => exact (by rw [h]; rfl : Rs.of (seqOf _) g1 = Rs.ok ds g1)
theorem e_rng1 {a : Int} {n : Nat} (e : fs g = .ok xs g1) (h : rng1 xs = some (a, n)) : mRange1 fs g = .ok (rangeD a n) g1 := by
  unfold mRange1
  rw [e]
  show Rs.of ((rng1 xs).map _) g1 = _
  rw [h]
  rfl
theorem e_rng2 {a : Int} {n : Nat} (e : fs g = .ok xs g1) (h : rng2 xs = some (a, n)) : mRange2 fs g = .ok (rangeD a n) g1 := by
  unfold mRange2
  rw [e]
  show Rs.of ((rng2 xs).map _) g1 = _
  rw [h]
  rfl
theorem e_enum {ds : List PyData} (e : f g = .ok x g1) (h : SqR x ds) : mEnum f g = .ok (enumFrom 0 ds) g1 := by
  unfold mEnum
  rw [e]
  show Rs.of ((seqOf x).map _) g1 = _
  rw [h]
  rfl
theorem e_zip {ds : List PyData} (e : fs g = .ok xs g1) (h : zip2 xs = some ds) : mZip fs g = .ok ds g1 := by
  unfold mZip
  rw [e]
  show Rs.of (zip2 xs) g1 = _
  rw [h]
  rfl
theorem e_for {fi : Sg → Rs Sg (List PyData)} {t : PyData → Sg → Option Sg} {body : Sg → Rs Sg Fl} {ds : List PyData} {rr : Rs Sg Fl} (hi : fi g = .ok ds g1) (h : mForL t body ds g1 = rr) : mFor fi t body g = rr := by
  unfold mFor
  rw [hi]
  exact h
end
end DL
set_option Elab.async false
set_option linter.all false
set_option maxRecDepth 100000
set_option maxHeartbeats 4000000
set_option autoImplicit false
namespace DL
open PySem PySem.Spec L2
open PyProof.Rows hiding St
namespace XKW
open PySem.W PySem.Calls PySem.HandSPX
section
variable {M : Model} {A : Around} {E : Value → Shared → Prop} {h : Heap} {g : Array GenState} {d : Drawn} {t : Nat} {os : OsState}
variable {nm q : Str} {C N : Addr} {bs bm bmB : List Value} {hdct : Bool} {sn : List Str} {sub : List Value} {ab : Bool} {col : Option Bool} {dd : Option Addr} {k0 k1 k2 k3 k5 : Option Value} {B newId initId : String}
theorem check_new_ownK (F : ExcBaseFacts B newId initId bmB) (hT : ∀ X : String, bm.contains (.type X) = bmB.contains (.type X)) {rest : List Value} {kw : List (Str × Value)} {Q : Unit → Shared → Prop}
    (hC : h.get? C = some (excClassObj nm q C N bs bm hdct sn sub ab col dd k0 k1 k2 k3 k5 newId)) (hq : Q () ⟨h, g, d, t, os⟩) : wpAny M A (checkBuiltinCall newId ⟨.ref C :: rest, kw⟩) Q E ⟨h, g, d, t, os⟩ := by
  have hcont : (Value.ref C :: bm).contains (.type B) = true := by rw [List.contains_cons, hT, F.hasB, Bool.or_true]
  have hstar := F.noStar
  simp only [checkBuiltinCall, F.newKind, F.newSplit, F.newRow]
  repeat (first | refine wpAny_loadPart_at hC ?_ | (refine wpAny_isSubtype_exc hC ?_; rw [hcont]) | refine wpAny_staticBase_exc hC ?_ | refine wpAny_madeBy_exc hC ?_ | simp only [bne_self_eq_false, Bool.false_eq_true, if_false] | wp_step)
  exact hq
theorem check_type_call_subK {rest : List Value} {kw : List (Str × Value)} {Q : Unit → Shared → Prop} (hC : h.get? C = some (excClassObj nm q C N bs bm hdct sn sub ab col dd k0 k1 k2 k3 k5 newId))
    (hq : Q () ⟨h, g, d, t, os⟩) : wpAny M A (checkBuiltinCall "type.__call__" ⟨.ref C :: rest, kw⟩) Q E ⟨h, g, d, t, os⟩ := by
  have f3 := tc_sub
  have hT : (⟨h, g, d, t, os⟩ : Shared).TypeIs (.ref C) "type" := ⟨_, hC, rfl⟩
  simp only [checkBuiltinCall, tc_kind, tc_split]
  repeat (any_goals (first | assumption | with_reducible refine wpAny_loadPart_at hC ?_ | with_reducible refine wpAny_onRaise ?_ | with_reducible refine wpAny_map ?_ | wp_step))
end
section
variable {prog : Program} {w : World} {A : Around} {E : Value → Shared → Prop} {R : Result → Shared → Prop} {h : Heap} {g : Array GenState} {d : Drawn} {t : Nat} {os : OsState}
variable {nm q : Str} {C N : Addr} {bs bm bmB : List Value} {hdct : Bool} {sn : List Str} {sub : List Value} {ab : Bool} {col : Option Bool} {dd : Option Addr} {k0 k1 k2 k3 k5 : Option Value} {B newId initId : String}
theorem new_ownK (F : ExcBaseFacts B newId initId bmB) (hT : ∀ X : String, bm.contains (.type X) = bmB.contains (.type X)) {rest : List Value} {kw : List (Str × Value)}
    (hC : h.get? C = some (excClassObj nm q C N bs bm hdct sn sub ab col dd k0 k1 k2 k3 k5 newId))
    (hq : R (.ok (.ret (.ref (h.objs.size + 1)))) ⟨(h.push { cls := .type "tuple", data := .seq rest.toArray }).push
      { cls := .ref C, data := .fields #[.ref h.objs.size, .none, .none, .none, .bool false, .none] }, g, d, t, os⟩) (hrest : rest.length ≤ sizeLine) :
    codeAny (model prog w) A (.builtin newId ⟨.ref C :: rest, kw⟩) R ⟨h, g, d, t, os⟩ := by
  have hends := F.ends
  have hcB : (Value.ref C :: bm).contains (.type B) = true := by rw [List.contains_cons, hT, F.hasB, Bool.or_true]
  have hcA : (Value.ref C :: bm).contains (.type "AttributeError") = false := by rw [List.contains_cons, hT, F.noAttr]; rfl
  have hcN : (Value.ref C :: bm).contains (.type "NameError") = false := by rw [List.contains_cons, hT, F.noName]; rfl
  refine codeAny_builtinAt F.entry ?_
  unfold Builtin.«BaseException.__new__»
  refine PySem.wpAt_bind ?_
  show PySem.wpAt _ _ _ (stack >>= _) _ _ _
  refine PySem.wpAt_bind (PySem.wpAt_stack fun p below => PySem.wpAt_of_wpAny ?_)
  wp_walk
  refine PySem.wpAt_of_wpAny ?_
  rw [F.owner]
  repeat (first | with_reducible refine wpAny_madeHere_exc F.canon hC ?_ | with_reducible refine wpAny_loadPart_at hC ?_ | (with_reducible refine wpAny_isSubtype_exc hC ?_; first | rw [hcB] | rw [hcA] | rw [hcN]) | wp_step)
  show R _ _
  rw [Heap.size_push]
  exact hq
theorem type_call_ownK (F : ExcBaseFacts B newId initId bmB) (hT : ∀ X : String, bm.contains (.type X) = bmB.contains (.type X)) {rest : List Value} {kw : List (Str × Value)} {fI : Addr} {Q : Fin → Shared → Prop}
    (hC : h.get? C = some (excClassObj nm q C N bs bm hdct sn sub ab col dd k0 k1 k2 k3 k5 newId))
    (hi : W.Looks (model prog w) h (typeLookup (.ref C) "__init__") (some (.ref fI))) (hb : ∀ self, W.Looks (model prog w) h (bindSpecial (.ref fI) self) (.ref fI, [self])) (hrest : rest.length ≤ sizeLine)
    (hq : codeAny (model prog w) A (.call (.ref fI) ⟨.ref (h.objs.size + 1) :: rest, kw⟩)
      (fun r s' => match r with | .ok (.ret v) => v = .none ∧ Q (.done (.ret (.ref (h.objs.size + 1)))) s' | .ok _ => False | .error e => E e s')
      ⟨(h.push (W.kdv_tup rest)).push (excO C h.objs.size), g, d, t, os⟩) :
    wpAny (model prog w) A (Builtin.«type.__call__» ⟨.ref C :: rest, kw⟩) Q E ⟨h, g, d, t, os⟩ := by
  repeat (first | with_reducible refine wpAny_loadPart_at hC ?_ | with_reducible refine wpAny_madeBy_exc hC ?_ | wp_step)
  refine codeAny_call_builtin_code (Code.quiet_builtin _ F.quiet) (check_new_ownK F hT hC ?_)
  refine new_ownK F hT hC ?_ hrest
  show wpAny _ _ _ _ _ _
  have k : ∀ b o, h.get? b = some o → ((h.push (W.kdv_tup rest)).push (excO C h.objs.size)).get? b = some o := fun b o e => Heap.get?_push_of_some _ (Heap.get?_push_of_some _ e)
  have hC₁ := k _ _ hC
  have hget : ((h.push (W.kdv_tup rest)).push (excO C h.objs.size)).get? (h.objs.size + 1) = some (excO C h.objs.size) := by heap_get
  have hcC : (Value.ref C :: bm).contains (.ref C) = true := by simp
  have i1 := hi.keeps k
  have b1 := (hb (.ref (h.objs.size + 1))).keeps k
  unfold isInstance
  repeat (first | with_reducible refine wpAny_loadPart_at hget ?_ | (with_reducible refine wpAny_isSubtype_exc hC₁ ?_; rw [hcC]) | wp_step)
  show wpAny _ _ (typeLookup (.ref C) _) _ _ _
  refine i1.at ?_
  refine wpAny_holding (wpAny_bind (b1.at ?_))
  refine wpAny_bind (wpAny_call (codeAny_mono hq fun r s' z => ?_))
  rcases r with e | (v | _ | _ | _) <;> first | exact z | exact z.elim | skip
  obtain ⟨rfl, z⟩ := z
  first
    | exact wpAny_pure (wpAny_pure z)
    | (wp_walk; exact z)
theorem call_ownK (F : ExcBaseFacts B newId initId bmB) (hT : ∀ X : String, bm.contains (.type X) = bmB.contains (.type X)) {rest : List Value} {kw : List (Str × Value)} {fI : Addr}
    (hC : h.get? C = some (excClassObj nm q C N bs bm hdct sn sub ab col dd k0 k1 k2 k3 k5 newId))
    (hi : W.Looks (model prog w) h (typeLookup (.ref C) "__init__") (some (.ref fI))) (hb : ∀ self, W.Looks (model prog w) h (bindSpecial (.ref fI) self) (.ref fI, [self])) (hrest : rest.length ≤ sizeLine)
    (hq : codeAny (model prog w) (A.under (.builtin "type.__call__" ⟨.ref C :: rest, kw⟩)) (.call (.ref fI) ⟨.ref (h.objs.size + 1) :: rest, kw⟩) (W.InitBack (h.objs.size + 1) R)
      ⟨(h.push (W.kdv_tup rest)).push (excO C h.objs.size), g, d, t, os⟩) :
    codeAny (model prog w) A (.call (.ref C) ⟨rest, kw⟩) R ⟨h, g, d, t, os⟩ := by
  have f1 := tc_lookup
  have f2 := tc_bind (.ref C)
  have hTy : (⟨h, g, d, t, os⟩ : Shared).TypeIs (.ref C) "type" := ⟨_, hC, rfl⟩
  refine codeAny_of_tree ?_
  show wpAny _ _ (callAny (.ref C) _) _ _ _
  repeat (any_goals (first | assumption | with_reducible refine wpAny_loadPart_at hC ?_ | wp_step))
  refine ⟨rfl, ?_⟩
  refine codeAny_call_builtin_at (Code.quiet_builtin _ (by decide +kernel)) entry_typeCall (check_type_call_subK hC (type_call_ownK F hT hC hi hb hrest ?_))
  refine codeAny_mono hq fun r s' z => ?_
  rcases r with e | (v | _ | _ | _) <;> exact z
end
end XKW
end DL
set_option Elab.async false
set_option linter.all false
set_option maxRecDepth 100000
set_option maxHeartbeats 4000000
set_option autoImplicit false
namespace DL
open PySem PySem.Spec L2
open PyProof.Rows hiding St
structure MkC (K : PySem.W.Frag) (C fI : Addr) : Prop where
  cls : ∃ (B newId initId : String) (bmB : List Value) (nm q : Str) (N : Addr) (bs bm : List Value) (sn : List Str) (sub : List Value) (ab : Bool) (col : Option Bool) (dd : Option Addr) (k0 k1 k2 k3 k5 : Option Value),
    ExcBaseFacts B newId initId bmB ∧ (∀ Y : String, bm.contains (.type Y) = bmB.contains (.type Y)) ∧ K.lookup C = some (excClassObj nm q C N bs bm true sn sub ab col dd k0 k1 k2 k3 k5 newId)
  kC : PySem.W.keepIn K (.ref C) = true
  iC : PySem.W.findIn K (.ref C) "__init__" = some (some (.ref fI))
  tI : PySem.W.typeIn K (.ref fI) = some (.type "function")
theorem MkC.of {K : PySem.W.Frag} {C fI : Addr} (T : OexC K C) (iC : PySem.W.findIn K (.ref C) "__init__" = some (some (.ref fI))) (tI : PySem.W.typeIn K (.ref fI) = some (.type "function")) : MkC K C fI := by
  obtain ⟨nm, q, N, bs, bm, sn, sub, ab, col, dd, k0, k1, k2, k3, k5, hC, hbm⟩ := T.cls
  exact ⟨⟨_, _, _, _, nm, q, N, bs, bm, sn, sub, ab, col, dd, k0, k1, k2, k3, k5, F.excBase_ValueError, fun Y => PySem.HandSPX.refsVE_contains Y bm hbm, hC⟩, T.kC, iC, tI⟩
theorem MkC.ofL {K : PySem.W.Frag} {C fI : Addr} (T : OexL K C) (iC : PySem.W.findIn K (.ref C) "__init__" = some (some (.ref fI))) (tI : PySem.W.typeIn K (.ref fI) = some (.type "function")) : MkC K C fI := by
  obtain ⟨nm, q, N, bs, sn, sub, ab, col, dd, k0, k1, k2, k3, k5, hC⟩ := T.cls
  exact ⟨⟨_, _, _, _, nm, q, N, bs, leT, sn, sub, ab, col, dd, k0, k1, k2, k3, k5, F.excBase_LookupError, fun _ => rfl, hC⟩, T.kC, iC, tI⟩
section
variable {X : Cx} {pins : List (Addr × Obj)} {σ : L2.St} {H1 H2 : Hp} {hp hp2 h2 : Heap} {g1 g2 : Array GenState} {d1 d2 : Drawn} {t1 t2 : Nat} {os1 os2 : OsState} {a C dx : Addr} {fs : List (Str × V)}
/-- the end of C(e): the error stays, told by its class and its dict -/
theorem end_newX (I1 : Inv X pins σ H1 ⟨hp, g1, d1, t1, os1⟩) (nha : ∀ b o, hp.get? b = some o → b ≠ a) (hn : H1 a = none) (k : ∀ b o, hp.get? b = some o → hp2.get? b = some o) (un : Un (frs X.stack) [] (upd H1 a (exo a C none)) H2 hp2 h2) (hok : HOk X.prog X.w H2 h2) (ho : os2 = os1) (hb : AllBare g2)
    (ea : H2 a = some (exo a C (some dx))) (ed : H2 dx = some (exd dx fs)) (eo : ∀ c, c ≠ a → c ≠ dx → H2 c = H1 c) (hd : H1 dx = none) (ne : dx ≠ a) : Inv X pins σ (upd (upd H1 dx (.xd fs)) a (XO a C dx)) ⟨h2, g2, d2, t2, os2⟩ := by
  obtain ⟨t0, hoe⟩ := exo_at hok ea
  obtain ⟨mA, hns, rel⟩ := exd_at hok ed
  have up : ∀ {b : Addr}, b ≠ a → H1 b = none → upd H1 a (exo a C none) b = none := fun {b} hb n => by rw [upd_ne hb]; exact n
  have nd : ∀ {b : Addr} {o : Obj}, hp.get? b = some o → H1 b = none → b ≠ dx := fun {b o} z n e => by
    have y := un.free b o (k b o z) (up (nha b o z) n) (by simp)
    rw [e, ed] at y
    cases y
  have U : Un (frs X.stack) [] H1 (upd (upd H1 dx (.xd fs)) a (XO a C dx)) hp h2 := {
    keep := fun b o z n hf hx => un.keep b o (k b o z) (up (nha b o z) n) hf hx
    slot := fun b o z n hf hx => un.slot b o (k b o z) (up (nha b o z) n) hf hx
    free := fun b o z n hx => by rw [upd_ne (nha b o z), upd_ne (nd z n)]; exact n
    there := fun b o z hx => un.there b o (k b o z) hx
    tups := fun b xs z => by rw [upd_ne (ne_of_none z hn), upd_ne (ne_of_none z hd)]; exact z
    frzs := fun b o v z => by rw [upd_ne (ne_of_none z hn), upd_ne (ne_of_none z hd)]; exact z
    tbls := fun b ps z => ⟨#[], by rw [upd_ne (ne_of_none z hn), upd_ne (ne_of_none z hd), z]; simp⟩ }
  have hok3 : HOk X.prog X.w (upd (upd H1 dx (.xd fs)) a (XO a C dx)) h2 := fun b o z => by
    by_cases hba : b = a
    · subst hba
      rw [upd_same] at z
      cases z
      exact XO_ok hoe rfl rfl rfl
    · rw [upd_ne hba] at z
      by_cases hbd : b = dx
      · subst hbd
        rw [upd_same] at z
        cases z
        exact ⟨mA, hns, rel⟩
      · rw [upd_ne hbd] at z
        have z2 : H2 b = some o := by rw [eo b hba hbd]; exact z
        have back : ∀ {c : Addr} {u : HO}, H2 c = some u → c ≠ a → c ≠ dx → upd (upd H1 dx (.xd fs)) a (XO a C dx) c = some u := fun {c u} hc n1 n2 => by
          rw [upd_ne n1, upd_ne n2, ← eo c n1 n2]; exact hc
        exact (hok b o z2).stay (fun c v hc y => y) (fun c hc => back hc (at_ne ea hc exo_own) (at_ne ed hc exd_own)) (fun c xs hc => back hc (at_ne ea hc exo_tup) (at_ne ed hc exd_tup))
  exact I1.call' (ch := []) ho U hok3 hb (fun b z => absurd z (by simp))
end
section
variable {X : Cx} {CX : CXT} {pins : List (Addr × Obj)} {σ : L2.St} {H1 : Hp} {s : Shared} {C fI : Addr} {k : Nat} {fd : FuncData} {x fld : Str} {us : List Value} {kw : List (Str × Value)} {u : Value} {v : V} {Q : VK}
theorem run_newX (M : MkC X.K C fI) (G : FnOk X.prog X.w X.K X.mg X.base CX k fI fd ["self", x] (spXI C fld)) (hr : Room (k + 1) X.A) (hx : Passes CX X (fun _ _ _ => False)) (I1 : Inv X pins σ H1 s) (rv : RelV v u) (hz : us.length ≤ 1)
    (hb : ∀ (s' : Shared) (self : Value), BindsTo s' fd ⟨self :: us, kw⟩ ([("self" : Str), x].zip [self, u])) (h : ∀ a d, H1 a = none → H1 d = none → d ≠ a → Q (.ref a) (upd (upd H1 d (.xd [(fld, v)])) a (XO a C d))) :
    wpAny (model X.prog X.w) X.A (call (.ref C) us kw) (EP X pins σ Q) X.xe s := by
  obtain ⟨B, newId, initId, bmB, nm, q, N, bs, bm, sn, sub, ab, col, dd, k0, k1, k2, k3, k5, Fb, hT, lk⟩ := M.cls
  obtain ⟨hp, gs, dr, tk, os⟩ := s
  have le : hp.objs.size ≤ hp.objs.size + 1 := Nat.le_succ _
  have hn : H1 (hp.objs.size + 1) = none := I1.hok.fresh le
  have kp : ∀ b o, hp.get? b = some o → ((hp.push (PySem.W.kdv_tup us)).push (PySem.HandSPX.excO C hp.objs.size)).get? b = some o := fun b o z => Heap.get?_push_of_some _ (Heap.get?_push_of_some _ z)
  have at1 : ((hp.push (PySem.W.kdv_tup us)).push (PySem.HandSPX.excO C hp.objs.size)).get? (hp.objs.size + 1) = some (PySem.HandSPX.excO C hp.objs.size) := by heap_get
  have I2 : Inv X pins σ (upd H1 (hp.objs.size + 1) (exo (hp.objs.size + 1) C none)) ⟨(hp.push (PySem.W.kdv_tup us)).push (PySem.HandSPX.excO C hp.objs.size), gs, dr, tk, os⟩ := I1.laid (t' := tk) kp le (exo_ok at1)
  have r2 : Vals [V.ref (hp.objs.size + 1), v] [Value.ref (hp.objs.size + 1), u] := .cons rfl (.cons rv .nil)
  have hus : us.length ≤ sizeLine := by rw [sizeLine_eq]; omega
  refine wpAny_call (XKW.call_ownK Fb hT (I1.kIn _ _ lk) (PySem.W.looks_findIn I1.kIn M.iC) (fun self => PySem.W.bind_fn I1.kIn self M.tI) hus
    (codeAny_mono (G.run _ X.stack _ _ ⟨Value.ref (hp.objs.size + 1) :: us, kw⟩ [Value.ref (hp.objs.size + 1), u] _
      (fun v' H2 => v' = V.non ∧ ∃ dx, H1 dx = none ∧ dx ≠ hp.objs.size + 1 ∧ H2 = upd (upd (upd H1 (hp.objs.size + 1) (exo (hp.objs.size + 1) C none)) dx (exd dx [(fld, v)])) (hp.objs.size + 1) (exo (hp.objs.size + 1) C (some dx)))
      (fun _ _ _ => False) (hr.make C us kw) (I2.env0.make C us kw) (hb _ _) r2 ⟨_, _, rfl, upd_same, fun dx hd ne => ⟨rfl, dx, by rw [upd_ne ne] at hd; exact hd, ne, rfl⟩⟩) fun r s' hq' => ?_))
  cases r with
  | error er => exact hx pins σ _ _ er s' I2 hq'
  | ok fl =>
    cases fl with
    | ret u' =>
      obtain ⟨v', H2, e1, e2, e3, e4, rv', ev, dx, hd, ne, eH⟩ := hq'
      subst ev
      obtain ⟨h2, g2, d2, t2, o2⟩ := s'
      have ea : H2 (hp.objs.size + 1) = some (exo (hp.objs.size + 1) C (some dx)) := by rw [eH, upd_same]
      have ed : H2 dx = some (exd dx [(fld, v)]) := by rw [eH, upd_ne ne, upd_same]
      have eo : ∀ c, c ≠ hp.objs.size + 1 → c ≠ dx → H2 c = H1 c := fun c n1 n2 => by rw [eH, upd_ne n1, upd_ne n2, upd_ne n1]
      exact ⟨rv', ⟨V.ref _, _, end_newX (d2 := d2) (t2 := t2) I1 (fun b o z => Nat.ne_of_lt (Nat.lt_of_lt_of_le (Heap.lt_size z) le)) hn kp e3 e4 e1 e2 ea ed eo hd ne, rfl, h _ _ hn hd ne⟩⟩
    | next => exact hq'.elim
    | brk => exact hq'.elim
    | cont => exact hq'.elim
/-- C(e): a new error and its dict -/
def tNewX (C : Addr) (fld : Str) (ta : TA) : TE := fun σ H Q => ta σ H fun vs H1 => ∃ v, vs = [v] ∧ ∀ a d, H1 a = none → H1 d = none → d ≠ a → Q (.ref a) (upd (upd H1 d (.xd [(fld, v)])) a (XO a C d))
theorem pe_newX {y : Str} {e : Expr} {ta : TA} {p pos : Pos} (M : MkC X.K C fI) (G : FnOk X.prog X.w X.K X.mg X.base CX k fI fd ["self", x] (spXI C fld)) (hr : Room (k + 1) X.A) (hx : Passes CX X (fun _ _ _ => False))
    (hb : ∀ us : List Value, us.length = 2 → bindArgs fd ⟨us, []⟩ = pure ([("self" : Str), x].zip us)) (hg : Gl X y) (hm : X.mg y = some (.ref C)) (ha : PA X [e] ta)
    (hdb : (y == ("__debug__" : Str)) = false := by decide) (he : starEach [e] X.env = (false, eval e X.env) :: starEach [] X.env := by rfl) (hpl : (backTo pos (starEach [] X.env)).any (·.1) = false := by rfl) :
    PE X (.Call (.Name y p) [e] [] pos) (tNewX C fld ta) := by
  refine ⟨fun pins s σ H Q I h => ?_⟩
  refine wpAny_Call_Name_kw (ld_glob I hg hm ?_ hdb)
  refine PySem.W.callWith_K (h₀ := X.base) I.ok.mod.kin M.kC (thn (ha.run pos pins s σ H _ I h) fun us s1 ⟨vs, H1, I1, r1, v, ev, q1⟩ => ⟨I1.kIn, ?_⟩) he hpl
  subst ev
  obtain ⟨u, rfl, ru⟩ := vals1 r1
  exact run_newX M G hr hx I1 ru (by simp) (fun s' self => .of_eq (hb [self, u] rfl)) q1
theorem pe_newXK {y : Str} {kws : List Keyword} {ta : TA} {p pos : Pos} (M : MkC X.K C fI) (G : FnOk X.prog X.w X.K X.mg X.base CX k fI fd ["self", x] (spXI C fld)) (hr : Room (k + 1) X.A) (hx : Passes CX X (fun _ _ _ => False))
    (hb : ∀ a u : Value, bindArgs fd ⟨[a], [(x, u)]⟩ = pure ([("self" : Str), x].zip [a, u])) (hg : Gl X y) (hm : X.mg y = some (.ref C)) (hkw : PK X kws ta)
    (hall : (backToKw pos (keywordEach kws X.env)).all (·.1.isSome) = true := by rfl) (hks : (backToKw pos (keywordEach kws X.env)).filterMap (·.1) = [x] := by rfl) (hdb : (y == ("__debug__" : Str)) = false := by decide)
    (hpl : ((backTo pos (starEach [] X.env)).any (·.1) || (backToKw pos (keywordEach kws X.env)).any (·.1.isNone)) = false := by rfl) :
    PE X (.Call (.Name y p) [] kws pos) (tNewX C fld ta) := by
  refine ⟨fun pins s σ H Q I h => ?_⟩
  refine wpAny_Call_Name_kw (ld_glob I hg hm ?_ hdb)
  refine PySem.W.callWith_KW0 (h₀ := X.base) I.ok.mod.kin M.kC hall ?_ hpl
  refine thn (hkw.run pos pins s σ H _ I h) fun ws s1 ⟨vs, H1, I1, r1, v, ev, q1⟩ => ⟨I1.kIn, ?_⟩
  rw [hks]
  subst ev
  obtain ⟨u, rfl, ru⟩ := vals1 r1
  exact run_newX (us := []) (kw := [(x, u)]) M G hr hx I1 ru (by simp) (fun s' self => .of_eq (hb self u)) q1
end
end DL
set_option Elab.async false
set_option linter.all false
set_option maxRecDepth 100000
set_option maxHeartbeats 4000000
set_option autoImplicit false
namespace DL
open PySem PySem.Spec L2
open PyProof.Rows hiding St
def errN : PyData → Option Nat
  | .dict ((.int i, .int c) :: _) => if i = xMark then some c.toNat else none
  | _ => none
def errP : PyData → Option (Nat × PyData)
  | .dict [(.int i, .int c), (.int _, p)] => if i = xMark then some (c.toNat, p) else none
  | _ => none
theorem errN_D (c : Nat) (p : PyData) : errN (errD c p) = some c := by
  show (if xMark = xMark then some (Int.toNat (c : Int)) else none) = some c
  rw [if_pos rfl, Int.toNat_natCast]
theorem errN_0 (c : Nat) : errN (er0D c) = some c := by
  show (if xMark = xMark then some (Int.toNat (c : Int)) else none) = some c
  rw [if_pos rfl, Int.toNat_natCast]
theorem errP_D (c : Nat) (p : PyData) : errP (errD c p) = some (c, p) := by
  show (if xMark = xMark then some (Int.toNat (c : Int), p) else none) = some (c, p)
  rw [if_pos rfl, Int.toNat_natCast]
section
variable {K : PySem.W.Frag} {et : ET} {F H : Hp} {v : V} {d : PyData} {c : Nat} {p : PyData}
theorem Dn.ofN (h : Dn K et F v d) (q : errN d = some c) : (∃ p, d = errD c p ∧ ExcV K et F v c p) ∨ ∃ e, v = .ref e ∧ F e = some (L2.ExO (.ref (et.cls c)) e) := by
  have key : ∀ (i c' : Int) (r : List (PyData × PyData)), errN (.dict ((.int i, .int c') :: r)) = some c → i = xMark := fun i c' r q => by
    have q : (if i = xMark then some c'.toNat else none) = some c := q
    by_cases z : i = xMark
    · exact z
    · rw [if_neg z] at q; cases q
  cases h with
  | non => cases q
  | bl b => cases q
  | int i => cases q
  | str x => cases q
  | lst a b => cases q
  | tup a b => cases q
  | dcx a kv =>
    cases kv with
    | nil => cases q
    | cons hk hd hb hv hr =>
      cases hb with
      | lst _ _ => cases q
      | tup _ _ => cases q
      | dcx _ _ => cases q
      | dck _ _ _ => cases q
      | err _ _ _ => cases q
      | er0 _ => cases q
  | dck n a kk =>
    cases kk with
    | nil => cases q
    | str hv hr => cases q
    | int ni hv hr =>
      cases hv with
      | int i => exact absurd (key _ _ _ q) ni
      | non => cases q
      | bl b => cases q
      | str x => cases q
      | lst a b => cases q
      | tup a b => cases q
      | dcx _ _ => cases q
      | dck _ _ _ => cases q
      | err _ _ _ => cases q
      | er0 _ => cases q
  | @err e d c' u p' a b hp =>
    have q : (if xMark = xMark then some (Int.toNat (c' : Int)) else none) = some c := q
    rw [if_pos rfl, Int.toNat_natCast] at q
    cases q
    exact .inl ⟨p', rfl, e, d, u, rfl, a, b, hp⟩
  | @er0 e c' a =>
    have q : (if xMark = xMark then some (Int.toNat (c' : Int)) else none) = some c := q
    rw [if_pos rfl, Int.toNat_natCast] at q
    cases q
    exact .inr ⟨e, rfl, a⟩
theorem errP_N (q : errP d = some (c, p)) : errN d = some c := by
  unfold errP at q
  split at q
  · rename_i i c' j p'
    show (if i = xMark then some c'.toNat else none) = some c
    split at q
    · rename_i z
      cases q
      rw [if_pos z]
    · cases q
  · cases q
theorem Dn.ofP (h : Dn K et F v d) (q : errP d = some (c, p)) : ExcV K et F v c p := by
  have key : ∀ (i c' j : Int) (p' : PyData), errP (.dict [(.int i, .int c'), (.int j, p')]) = some (c, p) → i = xMark := fun i c' j p' q => by
    have q : (if i = xMark then some (c'.toNat, p') else none) = some (c, p) := q
    by_cases z : i = xMark
    · exact z
    · rw [if_neg z] at q; cases q
  rcases h.ofN (errP_N q) with ⟨p', rfl, e⟩ | ⟨e, rfl, hf⟩
  · rw [errP_D] at q
    cases q
    exact e
  · exfalso
    cases h with
    | dcx a kv =>
      cases kv with
      | nil => cases q
      | cons hk hd hb hv hr =>
        cases hb with
        | lst _ _ => cases q
        | tup _ _ => cases q
        | dcx _ _ => cases q
        | dck _ _ _ => cases q
        | err _ _ _ => cases q
        | er0 _ => cases q
    | lst a b => cases q
    | tup a b => cases q
    | dck n a kk =>
      have := hf.symm.trans a
      unfold L2.ExO at this
      cases this
    | er0 _ => cases q
    | @err _ _ c1 _ _ a _ _ =>
      have z := Option.some.inj (hf.symm.trans a)
      unfold L2.ExO XO at z
      have y := HO.ext.inj z
      have y1 := congrFun y (heapOf e (.ref (et.cls c)) none #[.none, .none, .none, .none, .none])
      obtain ⟨o, vs, e1, e2, e3, e4⟩ := y1.mp ⟨_, _, heapOf_get, ⟨rfl, rfl⟩, rfl, rfl, rfl, by decide⟩
      rw [heapOf_any e1] at e3
      cases e3
/-- the object of an error held as a datum -/
theorem errN_at {P : Program} {w : World} {h : Heap} (x : Dn K et F v d) (q : errN d = some c) (sub : Same F H) (hok : HOk P w H h) :
    ∃ (e : Addr) (oe : Obj) (od : Option Obj), v = .ref e ∧ PySem.W.InstAt h e oe (et.cls c) od := by
  rcases x.ofN q with ⟨p, _, ev⟩ | ⟨e, rfl, hf⟩
  · obtain ⟨e, d, u, oe, od, mA, rfl, J, _⟩ := excV_at ev sub hok
    exact ⟨e, oe, _, rfl, J⟩
  · obtain ⟨⟨oe, vs, a1, ⟨a2, a3⟩, a4, _⟩, _, _⟩ := hok e _ (sub _ _ hf)
    exact ⟨e, oe, none, rfl, a1, a2, by unfold PySem.W.notCls; rw [a4], by rw [a3]; trivial⟩
end
/-- C(thing) -/
def kNewX (c : Nat) : DV → Sg → Rs Sg DV
  | .pu p, g1 => .ok (.pu (errD c p)) g1
  | _, _ => .no
def mNewX (c : Nat) (f : Sg → Rs Sg DV) (g : Sg) : Rs Sg DV := (f g).bind (kNewX c)
/-- C(thing) of a class without own __init__ -/
def mNew0 (c : Nat) (f : Sg → Rs Sg DV) (g : Sg) : Rs Sg DV := (f g).bind fun d g1 => match d with
  | .pu _ => .ok (.pu (er0D c)) g1
  | _ => .no
/-- isinstance(e, D), e an error as a datum -/
def kIsE (tab : Nat → Option Bool) : DV → Sg → Rs Sg DV
  | .pu d, g1 => Rs.of (((errN d).bind tab).map fun b => .pu (.bool b)) g1
  | _, _ => .no
def mIsE (tab : Nat → Option Bool) (f : Sg → Rs Sg DV) (g : Sg) : Rs Sg DV := (f g).bind (kIsE tab)
/-- e.name, e an error as a datum -/
def mFldE (ok : Nat → Bool) (f : Sg → Rs Sg DV) (g : Sg) : Rs Sg DV := (f g).bind fun x g1 => match x with
  | .pu d => Rs.of ((errP d).bind fun cp => if ok cp.1 = true then some (.pu cp.2) else none) g1
  | _ => .no
section
variable {X : Cx} {et : ET} {W : WX}
theorem XCls.made {k c : Nat} {x : Str} (C : Here X k W) (T : XCls X.prog X.K X.mg et c x) (hs : X.mg "super" = none) (hk : 3 ≤ k) :
    ∃ (fI : Addr) (fd : FuncData), X.mg x = some (.ref (et.cls c)) ∧ MkC X.K (et.cls c) fI ∧ FnOk X.prog X.w X.K X.mg X.base (L2.CX X.prog X.w) 2 fI fd ["self", et.fld c] (spXI (et.cls c) (et.fld c)) ∧
      (∀ us : List Value, us.length = 2 → bindArgs fd ⟨us, []⟩ = pure ([("self" : Str), et.fld c].zip us)) ∧ ∀ a u : Value, bindArgs fd ⟨[a], [(et.fld c, u)]⟩ = pure ([("self" : Str), et.fld c].zip [a, u]) := by
  obtain ⟨fI, cc, Fn, a, msg, hm, iC, tI, XC, hb, hbk, rfl⟩ := T.ex
  rcases XC with XC | XC
  · obtain ⟨oc, od, doc, pm, ctv, osl, lk⟩ := XC.fn
    exact ⟨fI, _, hm, MkC.of XC.T iC tI, xinit (w := X.w) (base := X.base) (CX := L2.CX X.prog X.w) XC hs doc pm ctv ⟨oc, od, osl, lk⟩, hb doc pm ctv, hbk doc pm ctv⟩
  · obtain ⟨oc, od, doc, pm, ctv, osl, lk⟩ := XC.fn
    exact ⟨fI, _, hm, MkC.ofL XC.T iC tI, xinitL (w := X.w) (base := X.base) (CX := L2.CX X.prog X.w) XC hs doc pm ctv ⟨oc, od, osl, lk⟩, hb doc pm ctv, hbk doc pm ctv⟩
theorem newX_end {am : Addr} {B F : Hp} {σ : L2.St} {Q : VK} {c : Nat} {d : DV} {g1 : Sg} {v : V} {F1 H1 : Hp} (ex1 : Ext B F F1) (R1 : RepF X.K et am B F1 g1 σ H1) (dn1 : DenP X.K et am F1 v d) (hq1 : OkV X.K et W am B F1 σ Q (kNewX c d g1)) (a dx : Addr) (ha : H1 a = none) (hd : H1 dx = none) (ne : dx ≠ a) : Q (.ref a) (upd (upd H1 dx (.xd [(et.fld c, v)])) a (XO a (et.cls c) dx)) := by
  cases d with
  | own _ => exact hq1.elim
  | m => exact hq1.elim
  | scr _ => exact hq1.elim
  | clo _ => exact hq1.elim
  | exc _ _ => exact hq1.elim
  | dic _ => exact hq1.elim
  | dki _ => exact hq1.elim
  | pu p =>
    obtain ⟨R2, ex2⟩ := R1.alloc hd (.xd [(et.fld c, v)])
    obtain ⟨R3, ex3⟩ := R2.alloc (p := a) (by rw [upd_ne (Ne.symm ne)]; exact ha) (XO a (et.cls c) dx)
    have ex := ex2.trans ex3
    exact hq1 _ _ _ ex R3 (Dn.err upd_same (by rw [upd_ne ne]; exact upd_same) (Dn.up dn1 ex.1))
theorem de_newX {k c : Nat} {x : Str} {e : Expr} {p pos : Pos} {f : Sg → Rs Sg DV} (C : Here X k W) (T : XCls X.prog X.K X.mg et c x) (hs : X.mg "super" = none) (h : DE X et W e f) (hk : 3 ≤ k := by decide) (hg : Gl X x := by rfl) (hdb : (x == ("__debug__" : Str)) = false := by decide)
    (he : starEach [e] X.env = (false, eval e X.env) :: starEach [] X.env := by exact star_ok rfl) : DE X et W (.Call (.Name x p) [e] [] pos) (mNewX c f) := fun am B F g σ H Q R hq => by
  obtain ⟨fI, fd, hm, M, G, hb, hbk⟩ := T.made C hs hk
  refine w_of (pe_newX M G (C.hr.mono hk) (passes_call C.tk fun _ _ _ _ z => z.elim) hb hg hm (pa_cons pe_w pa_nil he) hdb he) ?_
  refine h.then (goodV (Q := Q)) R hq fun d g1 v F1 H1 ex1 R1 dn1 hq1 => ?_
  exact ⟨v, rfl, fun a dx ha hd ne => newX_end ex1 R1 dn1 hq1 a dx ha hd ne⟩
theorem de_newXK {k c : Nat} {x nm : Str} {e : Expr} {kp p pos : Pos} {f : Sg → Rs Sg DV} (C : Here X k W) (T : XCls X.prog X.K X.mg et c x) (hs : X.mg "super" = none) (h : DE X et W e f) (hn : et.fld c = nm := by rfl) (hk : 3 ≤ k := by decide) (hg : Gl X x := by rfl) (hdb : (x == ("__debug__" : Str)) = false := by decide)
    (hall : (backToKw pos (keywordEach [⟨some nm, e, kp⟩] X.env)).all (·.1.isSome) = true := by rfl) (hks : (backToKw pos (keywordEach [⟨some nm, e, kp⟩] X.env)).filterMap (·.1) = [nm] := by rfl)
    (hpl : ((backTo pos (starEach [] X.env)).any (·.1) || (backToKw pos (keywordEach [⟨some nm, e, kp⟩] X.env)).any (·.1.isNone)) = false := by rfl) : DE X et W (.Call (.Name x p) [] [⟨some nm, e, kp⟩] pos) (mNewX c f) := fun am B F g σ H Q R hq => by
  obtain ⟨fI, fd, hm, M, G, hb, hbk⟩ := T.made C hs hk
  subst hn
  refine w_of (pe_newXK M G (C.hr.mono hk) (passes_call C.tk fun _ _ _ _ z => z.elim) hbk hg hm (pk_cons pe_w pk_nil) hall hks hdb hpl) ?_
  refine h.then (goodV (Q := Q)) R hq fun d g1 v F1 H1 ex1 R1 dn1 hq1 => ?_
  exact ⟨v, rfl, fun a dx ha hd ne => newX_end ex1 R1 dn1 hq1 a dx ha hd ne⟩
theorem de_new0 {c : Nat} {x : Str} {e : Expr} {p pos : Pos} {f : Sg → Rs Sg DV} (q : PySem.W.excIn X.K (et.cls c) He.veBase "ValueError.__new__" = true) (kC : PySem.W.keepIn X.K (.ref (et.cls c)) = true) (gC : X.mg x = some (.ref (et.cls c))) (h : DE X et W e f) (hg : Gl X x := by rfl) (hdb : (x == ("__debug__" : Str)) = false := by decide)
    (he : starEach [e] X.env = (false, eval e X.env) :: starEach [] X.env := by exact star_ok rfl) : DE X et W (.Call (.Name x p) [e] [] pos) (mNew0 c f) := fun am B F g σ H Q R hq => by
  refine w_of (pe_exc1 PySem.F.excBase_ValueError q gC kC hg pe_w he hdb) ?_
  refine h.then (goodV (Q := Q)) R hq fun d g1 v F1 H1 ex1 R1 dn1 hq1 => fun a ha => ?_
  cases d with
  | own _ => exact hq1.elim
  | m => exact hq1.elim
  | scr _ => exact hq1.elim
  | clo _ => exact hq1.elim
  | exc _ _ => exact hq1.elim
  | dic _ => exact hq1.elim
  | dki _ => exact hq1.elim
  | pu p =>
    obtain ⟨R2, ex2⟩ := R1.alloc ha (L2.ExO (.ref (et.cls c)) a)
    exact hq1 _ _ _ ex2 R2 (Dn.er0 upd_same)
/-- isinstance of an error as a datum, one class -/
def rIsEc (K : PySem.W.Frag) (et : ET) (dv : V) (D : Value) : List V → Hp → VK → Prop := fun xs H Q => ∃ (v : V) (F : Hp) (c : Nat) (d : PyData) (b : Bool), xs = [v, dv] ∧ Same F H ∧ Dn K et F v d ∧ errN d = some c ∧ XC K (et.cls c) ∧ PySem.W.kitOne K (.ref (et.cls c)) D = some b ∧ Q (.bl b) H
theorem call_isEc {dv : V} {D : Value} (hD : ∀ u, RelV dv u → u = D) : CallR X (.builtin "isinstance") (rIsEc X.K et dv D) := by
  intro pins s σ H xs us Q I r h
  obtain ⟨v, F, c, p, b, rfl, sub, ev, en, C, e, q⟩ := h
  obtain ⟨ea, oe, od, rfl, J⟩ := errN_at ev en sub I.hok
  cases r with
  | cons rx rr =>
    cases rr with
    | cons rt rr =>
      cases rr
      cases rx
      obtain rfl := hD _ rt
      exact PySem.W.kia_one (PySem.W.kitx_exc C.cl C.ga C.gg C.sb C.ca C.cg C.ct C.ob) I.kIn J e (fun z => nomatch z) fun tk => ⟨.bl b, H, I.kept (t' := tk) fun _ _ z => z, rfl, q⟩
theorem isE_end {am : Addr} {B : Hp} {σ : L2.St} {Q : VK} {dv : V} {D : Value} {tab : Nat → Option Bool} (htab : ∀ c b, tab c = some b → XC X.K (et.cls c) ∧ PySem.W.kitOne X.K (.ref (et.cls c)) D = some b) {d : DV} {g1 : Sg} {v : V} {F1 H1 : Hp} (R1 : RepF X.K et am B F1 g1 σ H1) (dn1 : DenP X.K et am F1 v d) (hq1 : OkV X.K et W am B F1 σ Q (kIsE tab d g1)) : rIsEc X.K et dv D [v, dv] H1 Q := by
  cases d with
  | own _ => exact hq1.elim
  | m => exact hq1.elim
  | scr _ => exact hq1.elim
  | clo _ => exact hq1.elim
  | dic _ => exact hq1.elim
  | dki _ => exact hq1.elim
  | exc _ _ => exact hq1.elim
  | pu pd =>
    unfold kIsE at hq1
    cases q1 : errN pd with
    | none => simp only [q1, Option.bind_none, Option.map_none] at hq1; exact hq1.elim
    | some c =>
      cases qt : tab c with
      | none => simp only [q1, qt, Option.bind_some, Option.map_none] at hq1; exact hq1.elim
      | some b =>
        simp only [q1, qt, Option.bind_some, Option.map_some] at hq1
        obtain ⟨C, k⟩ := htab c b qt
        exact ⟨v, F1, c, pd, b, rfl, R1.sub, dn1, q1, C, k, hq1 _ F1 H1 Ext.refl R1 (.bl _)⟩
theorem de_isE {D : Addr} {tx : Str} {tab : Nat → Option Bool} {p p2 pos : Pos} {e : Expr} {f : Sg → Rs Sg DV} (hm : X.mg "isinstance" = none) (hT : X.mg tx = some (.ref D)) (htab : ∀ c b, tab c = some b → XC X.K (et.cls c) ∧ PySem.W.kitOne X.K (.ref (et.cls c)) (.ref D) = some b) (ha : DE X et W e f) (hg : Gl X "isinstance" := by rfl) (hg2 : Gl X tx := by rfl)
    (hv : bootBuiltins "isinstance" = some (.builtin "isinstance") := by decide +kernel) (hd2 : (tx == ("__debug__" : Str)) = false := by decide)
    (he : starEach (e :: [.Name tx p2]) X.env = (false, eval e X.env) :: starEach [.Name tx p2] X.env := by exact star_ok rfl) : DE X et W (.Call (.Name "isinstance" p) [e, .Name tx p2] [] pos) (mIsE tab f) := fun am B F g σ H Q R hq => by
  refine w_of (pe_callB (call_isEc (et := et) (dv := .ref D) (D := .ref D) (fun u r => r)) hg hm hv (pa_cons pe_w (pa_cons (pe_glob (v := .ref D) hg2 hT rfl hd2) pa_nil) he) (he := he)) (ha.then (goodV (Q := Q)) R hq fun d g1 v F1 H1 ex1 R1 dn1 hq1 => ?_)
  exact isE_end htab R1 dn1 hq1
theorem de_isB {T : String} {tx : Str} {tab : Nat → Option Bool} {p p2 pos : Pos} {e : Expr} {f : Sg → Rs Sg DV} (hm : X.mg "isinstance" = none) (hT : X.mg tx = none) (htab : ∀ c b, tab c = some b → XC X.K (et.cls c) ∧ PySem.W.kitOne X.K (.ref (et.cls c)) (.type T) = some b) (ha : DE X et W e f) (hb : bootBuiltins tx = some (.type T) := by decide +kernel) (hg : Gl X "isinstance" := by rfl) (hg2 : Gl X tx := by rfl)
    (hv : bootBuiltins "isinstance" = some (.builtin "isinstance") := by decide +kernel) (hn2 : tx ≠ "__name__" := by decide) (hd2 : (tx == ("__debug__" : Str)) = false := by decide)
    (he : starEach (e :: [.Name tx p2]) X.env = (false, eval e X.env) :: starEach [.Name tx p2] X.env := by exact star_ok rfl) : DE X et W (.Call (.Name "isinstance" p) [e, .Name tx p2] [] pos) (mIsE tab f) := fun am B F g σ H Q R hq => by
  refine w_of (pe_callB (call_isEc (et := et) (dv := .ty T) (D := .type T) (fun u r => r)) hg hm hv (pa_cons pe_w (pa_cons (pe_bltn (v := .ty T) hg2 hT hb rfl hn2 hd2) pa_nil) he) (he := he)) (ha.then (goodV (Q := Q)) R hq fun d g1 v F1 H1 ex1 R1 dn1 hq1 => ?_)
  exact isE_end htab R1 dn1 hq1
theorem de_fldE {n : Str} {ok : Nat → Bool} {pos : Pos} {e : Expr} {f : Sg → Rs Sg DV} (hok : ∀ c, ok c = true → et.fld c = n ∧ XC X.K (et.cls c) ∧ PySem.W.findIn X.K (.ref (et.cls c)) n = some none) (ha : DE X et W e f) (hb : attributeBase e n X.env (eval e X.env) = eval e X.env := by rfl) :
    DE X et W (.Attribute e n pos) (mFldE ok f) := fun am B F g σ H Q R hq => by
  refine ⟨fun pins s I => ?_⟩
  refine attr_of hb (thn ((ha.then (goodV (Q := Q)) R hq (Q := fun v H1 => ∃ c pd F1 g1, Ext B F F1 ∧ RepF X.K et am B F1 g1 σ H1 ∧ ExcV X.K et F1 v c pd ∧ OkV X.K et W am B F1 σ Q (if ok c = true then .ok (.pu pd) g1 else .no : Rs Sg DV)) (fun d g1 v F1 H1 ex1 R1 dn1 hq1 => ?_)).run pins s I) fun u s1 hh => ?_)
  · cases d with
    | own _ => exact hq1.elim
    | m => exact hq1.elim
    | scr _ => exact hq1.elim
    | clo _ => exact hq1.elim
    | dic _ => exact hq1.elim
    | dki _ => exact hq1.elim
    | exc _ _ => exact hq1.elim
    | pu pd =>
      cases q1 : errP pd with
      | none => simp only [q1, Option.bind_none] at hq1; exact hq1.elim
      | some cp =>
        obtain ⟨c, p⟩ := cp
        simp only [q1, Option.bind_some] at hq1
        refine ⟨c, p, F1, g1, ex1, R1, dn1.ofP q1, ?_⟩
        split
        · rename_i hc
          rw [if_pos hc] at hq1
          exact hq1
        · rename_i hc
          rw [if_neg hc] at hq1
          exact hq1.elim
  · obtain ⟨v, H1, I1, rv, c, pd, F1, g1, ex1, R1, ev, hq1⟩ := hh
    split at hq1
    · rename_i hc
      obtain ⟨en, C, hno⟩ := hok c hc
      obtain ⟨ea, d, w, oe, od, mA, rfl, J, hl, ⟨uv, hu, ru⟩, dn⟩ := excV_at ev R1.sub I1.hok
      obtain rfl : u = Value.ref ea := rv
      rw [en] at hl hu
      exact HandSPX.exc_get I1.kIn J C.ga C.gg C.sb (PySem.W.findObj_own C.hd hno rfl (by rw [hl, hu])) (handed_of ru) ⟨w, H1, I1.tok _, ru, hq1 _ F1 H1 Ext.refl R1 dn⟩
    · exact hq1.elim
/-- {text: number} -/
theorem de_dict1 {a : Str} {b : Int} {j1 j2 : Nat} {p1 p2 lp : Pos} : DE X et W (.Dict [some (.Constant (.str a) j1 p1)] [.Constant (.int b) j2 p2] lp) (mC (.dict [(.str a, .int b)])) := fun am B F g σ H Q R hq => by
  refine ⟨fun pins s I => ?_⟩
  refine thn ((pe_disp (pps_cons pe_str pe_int pps_nil) rfl rfl (fun z => by cases z) (Nat.le_add_left 1 14)).run pins s σ H (fun v H1 => ∃ p, v = .ref p ∧ H p = none ∧ H1 = upd H p (.dK [(.inr a, .int b)])) I (fun p hp => ⟨upd_same, [(.inr a, .int b)], rfl, Nat.le_add_left 1 14, p, rfl, hp, upd_upd⟩)) fun u s1 ⟨v, H1, I1, r1, p, ev, hp, eH⟩ => ?_
  subst ev eH
  obtain ⟨od, I2⟩ := I1.lock (d := p) upd_same (by trivial)
  rw [upd_upd] at I2
  obtain ⟨R2, ex⟩ := R.alloc hp (.frz od (.dK [(.inr a, .int b)]))
  exact ⟨.ref p, _, I2, r1, hq _ _ _ ex R2 (.dck (by simp) upd_same (.str (.int b) .nil))⟩
end
def isE (nm : List Str) (y : Str) (c : Nat) : Bool := if y = "ResultError" ∨ y = "ValueError" then decide (c ≠ 7) else if y = "LookupError" then decide (c = 7) else decide (nm[c]? = some y)
def tabE (nm : List Str) (y : Str) (c : Nat) : Option Bool := if c < 9 then some (isE nm y c) else none
def okE (fl : List Str) (f : Str) (c : Nat) : Bool := decide (c < 8) && decide (fldA fl c = f)
def clsE (nm fl : List Str) (K : PySem.W.Frag) : Bool := ((List.range 9).all fun c => xcB K (clsA nm K c) && ((nm.all fun y => decide (PySem.W.kitOne K (.ref (clsA nm K c)) (.ref (He.ga K y)) = some (isE nm y c))) && (([("ValueError" : String), "LookupError"]).all fun y => decide (PySem.W.kitOne K (.ref (clsA nm K c)) (.type y) = some (isE nm y c))))) &&
  (((List.range 8).all fun c => He.eqO (PySem.W.findIn K (.ref (clsA nm K c)) (fldA fl c)) (some none)) && (PySem.W.excIn K (clsA nm K 8) He.veBase "ValueError.__new__" && PySem.W.keepIn K (.ref (clsA nm K 8))))
section
variable {nm fl : List Str} {K : PySem.W.Frag}
theorem clsE_is (h : clsE nm fl K = true) {y : Str} (hy : y ∈ nm) {c : Nat} {b : Bool} (e : tabE nm y c = some b) : XC K (clsA nm K c) ∧ PySem.W.kitOne K (.ref (clsA nm K c)) (.ref (He.ga K y)) = some b := by
  unfold clsE at h
  rw [Bool.and_eq_true] at h
  unfold tabE at e
  split at e
  · rename_i hc
    cases e
    have z := List.all_eq_true.mp h.1 c (List.mem_range.mpr hc)
    rw [Bool.and_eq_true, Bool.and_eq_true] at z
    exact ⟨xcB_ok z.1, of_decide_eq_true (List.all_eq_true.mp z.2.1 y hy)⟩
  · cases e
theorem clsE_isB (h : clsE nm fl K = true) {y : String} (hy : y ∈ [("ValueError" : String), "LookupError"]) {c : Nat} {b : Bool} (e : tabE nm y c = some b) : XC K (clsA nm K c) ∧ PySem.W.kitOne K (.ref (clsA nm K c)) (.type y) = some b := by
  unfold clsE at h
  rw [Bool.and_eq_true] at h
  unfold tabE at e
  split at e
  · rename_i hc
    cases e
    have z := List.all_eq_true.mp h.1 c (List.mem_range.mpr hc)
    rw [Bool.and_eq_true, Bool.and_eq_true] at z
    exact ⟨xcB_ok z.1, of_decide_eq_true (List.all_eq_true.mp z.2.2 y hy)⟩
  · cases e
theorem clsE_fld (h : clsE nm fl K = true) {f : Str} {c : Nat} (e : okE fl f c = true) : fldA fl c = f ∧ XC K (clsA nm K c) ∧ PySem.W.findIn K (.ref (clsA nm K c)) f = some none := by
  unfold clsE at h
  rw [Bool.and_eq_true, Bool.and_eq_true] at h
  unfold okE at e
  rw [Bool.and_eq_true, decide_eq_true_eq, decide_eq_true_eq] at e
  have z := List.all_eq_true.mp h.1 c (List.mem_range.mpr (by omega))
  rw [Bool.and_eq_true] at z
  have y := List.all_eq_true.mp h.2.1 c (List.mem_range.mpr e.1)
  rw [e.2] at y
  exact ⟨e.2, xcB_ok z.1, of_decide_eq_true y⟩
theorem clsE_new (h : clsE nm fl K = true) : PySem.W.excIn K (clsA nm K 8) He.veBase "ValueError.__new__" = true ∧ PySem.W.keepIn K (.ref (clsA nm K 8)) = true := by
  unfold clsE at h
  rw [Bool.and_eq_true, Bool.and_eq_true, Bool.and_eq_true] at h
  exact h.2.2
end
/-- the package's errors, by number, the one they stand under last -/
def nmE : List Str := ["BadRule", "BadRow", "BadBill", "BadNumber", "BadKind", "BadPaper", "BadText", "Nothing", "ResultError"]
def flE : List Str := ["number", "number", "part", "value", "value", "part", "line", "value"]
end DL
set_option Elab.async false
set_option linter.all false
set_option maxRecDepth 100000
set_option maxHeartbeats 4000000
set_option autoImplicit false
namespace DL
open PySem PySem.Spec L2
open PyProof.Rows hiding St
def topS (i : Nat) : Stmt := PySem.Challenge.pw_bestoflast_k01_errors.main.body.getD i (.Pass ⟨0, 0, 0, 0⟩)
abbrev s__law_begun : Stmt := topS 11
abbrev s__law_draw : Stmt := topS 12
abbrev s__law_of : Stmt := topS 13
abbrev s__law_made : Stmt := topS 14
abbrev s__law_marks : Stmt := topS 15
abbrev s__law_kept : Stmt := topS 16
abbrev s_law : Stmt := topS 17
abbrev s_BadRule : Stmt := topS 2
abbrev s_BadRow : Stmt := topS 3
abbrev s_BadBill : Stmt := topS 4
abbrev s_BadNumber : Stmt := topS 5
abbrev s_BadKind : Stmt := topS 6
abbrev s_BadPaper : Stmt := topS 7
abbrev s_BadText : Stmt := topS 8
abbrev s_Nothing : Stmt := topS 9
def tqL : List (He.Defn × Str) := []
def i_BadRule : IniD := ⟨"BadRule", s_BadRule, "number", "number", "refused"⟩
def i_BadRow : IniD := ⟨"BadRow", s_BadRow, "number", "number", "refused"⟩
def i_BadBill : IniD := ⟨"BadBill", s_BadBill, "part", "part", "refused"⟩
def i_BadNumber : IniD := ⟨"BadNumber", s_BadNumber, "value", "value", "refused"⟩
def i_BadKind : IniD := ⟨"BadKind", s_BadKind, "value", "value", "refused"⟩
def i_BadPaper : IniD := ⟨"BadPaper", s_BadPaper, "part", "part", "refused"⟩
def i_BadText : IniD := ⟨"BadText", s_BadText, "line", "line", "refused"⟩
def i_Nothing : IniD := ⟨"Nothing", s_Nothing, "value", "value", "nothing"⟩
def mkD (x : Str) (st : Stmt) : He.DefD := ⟨(x, none), x, x, defArgs st, defBody st, defScope st, [], []⟩
def fnL : List He.DefD := ([mkD "_law_begun" s__law_begun, mkD "_law_draw" s__law_draw, mkD "_law_of" s__law_of, mkD "_law_made" s__law_made, mkD "_law_marks" s__law_marks, mkD "_law_kept" s__law_kept, mkD "law" s_law] : List He.DefD)
def faL : List He.Fa := ([.glo "_law_begun", .glo "_law_draw", .glo "_law_of", .glo "_law_made", .glo "_law_marks", .glo "_law_kept", .glo "law", .glo "ResultError", .glo "BadRule", .glo "BadRow", .glo "BadBill", .glo "BadNumber", .glo "BadKind", .glo "BadPaper", .glo "BadText"] : List He.Fa) ++ ([.glo "Nothing", .free "LookupError", .free "ValueError", .free "int", .free "isinstance", .free "len", .free "list", .free "min", .free "range", .free "repr", .free "super"] : List He.Fa)
abbrev rowR : PySem.W.OpenRow := PySem.W.OpenLaw.row PySem.Challenge.rw_bestoflast_k01_errors
def inL : List IniD := [i_BadRule, i_BadRow, i_BadBill, i_BadNumber, i_BadKind, i_BadPaper, i_BadText, i_Nothing]
def gdL : List (Str × PyData) := []
def exL (K : PySem.W.Frag) : Bool := (inL.all fun d => iniX PySem.Challenge.pw_bestoflast_k01_errors.main.file K d) && (clsE nmE flE K && (sysB K && (decide ((csOf K tqL).map (·.2.1)).Nodup && gdL.all fun p => gdB K p.1 p.2)))
theorem it_BadRule : IniT PySem.Challenge.pw_bestoflast_k01_errors i_BadRule := ⟨NdefX.nscope_by (by decide +kernel), by decide +kernel, ⟨_, rfl, rfl⟩, ⟨_, _, _, _, _, _, _, _, _, _, _, rfl, fun _ _ _ _ => ⟨_, rfl⟩⟩, by decide +kernel, ⟨by decide, by decide, by decide⟩, fun _ _ _ _ _ us hl => match us, hl with | [_, _], _ => rfl, fun _ _ _ _ _ _ _ => rfl, rfl⟩
theorem it_BadRow : IniT PySem.Challenge.pw_bestoflast_k01_errors i_BadRow := ⟨NdefX.nscope_by (by decide +kernel), by decide +kernel, ⟨_, rfl, rfl⟩, ⟨_, _, _, _, _, _, _, _, _, _, _, rfl, fun _ _ _ _ => ⟨_, rfl⟩⟩, by decide +kernel, ⟨by decide, by decide, by decide⟩, fun _ _ _ _ _ us hl => match us, hl with | [_, _], _ => rfl, fun _ _ _ _ _ _ _ => rfl, rfl⟩
theorem it_BadBill : IniT PySem.Challenge.pw_bestoflast_k01_errors i_BadBill := ⟨NdefX.nscope_by (by decide +kernel), by decide +kernel, ⟨_, rfl, rfl⟩, ⟨_, _, _, _, _, _, _, _, _, _, _, rfl, fun _ _ _ _ => ⟨_, rfl⟩⟩, by decide +kernel, ⟨by decide, by decide, by decide⟩, fun _ _ _ _ _ us hl => match us, hl with | [_, _], _ => rfl, fun _ _ _ _ _ _ _ => rfl, rfl⟩
theorem it_BadNumber : IniT PySem.Challenge.pw_bestoflast_k01_errors i_BadNumber := ⟨NdefX.nscope_by (by decide +kernel), by decide +kernel, ⟨_, rfl, rfl⟩, ⟨_, _, _, _, _, _, _, _, _, _, _, rfl, fun _ _ _ _ => ⟨_, rfl⟩⟩, by decide +kernel, ⟨by decide, by decide, by decide⟩, fun _ _ _ _ _ us hl => match us, hl with | [_, _], _ => rfl, fun _ _ _ _ _ _ _ => rfl, rfl⟩
theorem it_BadKind : IniT PySem.Challenge.pw_bestoflast_k01_errors i_BadKind := ⟨NdefX.nscope_by (by decide +kernel), by decide +kernel, ⟨_, rfl, rfl⟩, ⟨_, _, _, _, _, _, _, _, _, _, _, rfl, fun _ _ _ _ => ⟨_, rfl⟩⟩, by decide +kernel, ⟨by decide, by decide, by decide⟩, fun _ _ _ _ _ us hl => match us, hl with | [_, _], _ => rfl, fun _ _ _ _ _ _ _ => rfl, rfl⟩
theorem it_BadPaper : IniT PySem.Challenge.pw_bestoflast_k01_errors i_BadPaper := ⟨NdefX.nscope_by (by decide +kernel), by decide +kernel, ⟨_, rfl, rfl⟩, ⟨_, _, _, _, _, _, _, _, _, _, _, rfl, fun _ _ _ _ => ⟨_, rfl⟩⟩, by decide +kernel, ⟨by decide, by decide, by decide⟩, fun _ _ _ _ _ us hl => match us, hl with | [_, _], _ => rfl, fun _ _ _ _ _ _ _ => rfl, rfl⟩
theorem it_BadText : IniT PySem.Challenge.pw_bestoflast_k01_errors i_BadText := ⟨NdefX.nscope_by (by decide +kernel), by decide +kernel, ⟨_, rfl, rfl⟩, ⟨_, _, _, _, _, _, _, _, _, _, _, rfl, fun _ _ _ _ => ⟨_, rfl⟩⟩, by decide +kernel, ⟨by decide, by decide, by decide⟩, fun _ _ _ _ _ us hl => match us, hl with | [_, _], _ => rfl, fun _ _ _ _ _ _ _ => rfl, rfl⟩
theorem it_Nothing : IniT PySem.Challenge.pw_bestoflast_k01_errors i_Nothing := ⟨NdefX.nscope_by (by decide +kernel), by decide +kernel, ⟨_, rfl, rfl⟩, ⟨_, _, _, _, _, _, _, _, _, _, _, rfl, fun _ _ _ _ => ⟨_, rfl⟩⟩, by decide +kernel, ⟨by decide, by decide, by decide⟩, fun _ _ _ _ _ us hl => match us, hl with | [_, _], _ => rfl, fun _ _ _ _ _ _ _ => rfl, rfl⟩
abbrev hkL : PySem.W.Hook := hookZ 5 faL fnL (tqL.map (·.1)) inL exL
def obL (s : PySem.W.SharedT) : AlZ := obsZG 5 faL fnL (tqL.map (·.1)) inL exL (HandSHeadRun.getT s)
theorem obL_eq (s : PySem.W.SharedT) : obL s = hkL.obs s.abs := obsZG_eq (HandSHeadRun.getT_eq s)
def namesL : List Str := (["ResultError", "BadRule", "BadRow", "BadBill", "BadNumber", "BadKind", "BadPaper", "BadText", "Nothing", "_law_begun", "_law_draw", "_law_of", "_law_made", "_law_marks", "_law_kept"] : List Str)
set_option maxHeartbeats 0 in
theorem runL (w : World) : HandSHeadRun.RunEq rowR (PySem.W.view rowR.prog [17]) hkL obL 3000 namesL w := by
  intro os
  kernel_rfl
end DL
set_option Elab.async false
set_option linter.all false
set_option maxRecDepth 100000
set_option maxHeartbeats 4000000
set_option autoImplicit false
namespace DL
open PySem PySem.Spec L2
open PyProof.Rows hiding St
def b__law_draw : Sg → Rs Sg Fl := mSeqS (mIf (mTest (mBin dGt (mMget 0 dLeft) (mC (.int 0)))) (mSeqS (mSet 5 (mBin dMod (mCallB bInt (mCons (mMget 0 dLeft) (mNil))) (mVar 1))) (mSeqS (mMset 0 (fun s n => { s with left := n }) (mBin dDiv (mMget 0 dLeft) (mVar 1))) (mRet (mVar 5)))) ((fun g => .ok .nx g))) (mSeqS (mSet 2 (mBin dAdd (mMget 0 dSpot) (mC (.int 1)))) (mSeqS (mMset 0 (fun s n => { s with spot := n }) (mVar 2)) (mSeqS (mSet 3 (mBin dIx (mMget 0 dCells) (mBin dMod (mCallB bInt (mCons (mVar 2) (mNil))) (mCallB bLen (mCons (mMget 0 dCells) (mNil)))))) (mSeqS (mSet 4 (mBin dMul (mCallB bInt (mCons (mBin dAdd (mBin dAdd (mBin dMod (mCallB bInt (mCons (mVar 3) (mNil))) (mC (.int 2147483629))) (mBin dMul (mC (.int 6133)) (mVar 2))) (mBin dMul (mBin dMul (mC (.int 23)) (mVar 2)) (mVar 2))) (mNil))) (mC (.int 48271)))) (mSeqS (mSet 4 (mBin dMul (mCallB bInt (mCons (mBin dAdd (mBin dMod (mCallB bInt (mCons (mVar 4) (mNil))) (mC (.int 2147483647))) (mBin dMul (mC (.int 93241)) (mVar 2))) (mNil))) (mC (.int 69621)))) (mRet (mBin dMod (mCallB bInt (mCons (mBin dDiv (mBin dMod (mCallB bInt (mCons (mVar 4) (mNil))) (mC (.int 2147483587))) (mC (.int 13))) (mNil))) (mVar 1))))))))
def f__law_draw : List DV → MS → Rs MS DV := fnB 2 6 b__law_draw
def b__law_marks : Sg → Rs Sg Fl := mSeqS (mSet 1 (mSeq .list (mCons (mIsE (tabE nmE "BadRule") (mVar 0)) (mCons (mIsE (tabE nmE "BadRow") (mVar 0)) (mCons (mIsE (tabE nmE "BadBill") (mVar 0)) (mNil)))))) (mSeqS (mSet 1 (mBin dAdd (mVar 1) (mSeq .list (mCons (mIsE (tabE nmE "BadNumber") (mVar 0)) (mCons (mIsE (tabE nmE "BadKind") (mVar 0)) (mCons (mIsE (tabE nmE "BadPaper") (mVar 0)) (mNil))))))) (mSeqS (mSet 1 (mBin dAdd (mVar 1) (mSeq .list (mCons (mIsE (tabE nmE "BadText") (mVar 0)) (mCons (mIsE (tabE nmE "Nothing") (mVar 0)) (mNil)))))) (mRet (mBin dAdd (mVar 1) (mSeq .list (mCons (mIsE (tabE nmE "ResultError") (mVar 0)) (mCons (mIsE (tabE nmE "ValueError") (mVar 0)) (mCons (mIsE (tabE nmE "LookupError") (mVar 0)) (mNil)))))))))
def f__law_marks : List DV → MS → Rs MS DV := fnB 1 2 b__law_marks
def b__law_kept : Sg → Rs Sg Fl := mSeqS (mIf (mTest (mBin dLt (mVar 0) (mC (.int 2)))) (mRet (mFldE (okE flE "number") (mVar 1))) ((fun g => .ok .nx g))) (mSeqS (mIf (mTest (mBin dIn (mVar 0) (mSeq .tuple (mCons (mC (.int 2)) (mCons (mC (.int 5)) (mNil)))))) (mRet (mFldE (okE flE "part") (mVar 1))) ((fun g => .ok .nx g))) (mRet (mIf (mTest (mBin dEq (mVar 0) (mC (.int 6)))) (mFldE (okE flE "line") (mVar 1)) (mFldE (okE flE "value") (mVar 1)))))
def f__law_kept : List DV → MS → Rs MS DV := fnB 2 2 b__law_kept
def b__law_of : Sg → Rs Sg Fl := mRet (mBin dIx (mVar 1) (mCallF f__law_draw (mCons (mVar 0) (mCons (mCallB bLen (mCons (mVar 1) (mNil))) (mNil)))))
def f__law_of : List DV → MS → Rs MS DV := fnB 2 2 b__law_of
def b__law_made : Sg → Rs Sg Fl := mSeqS (mSet 1 (mSeq .list (mCons (mSeq .tuple (mCons (mC (.int 0)) (mCons (mNewX 0 (mVar 0)) (mCons (mNewX 0 (mVar 0)) (mNil))))) (mCons (mSeq .tuple (mCons (mC (.int 1)) (mCons (mNewX 1 (mVar 0)) (mCons (mNewX 1 (mVar 0)) (mNil))))) (mNil))))) (mSeqS (mSet 1 (mBin dAdd (mVar 1) (mSeq .list (mCons (mSeq .tuple (mCons (mC (.int 2)) (mCons (mNewX 2 (mVar 0)) (mCons (mNewX 2 (mVar 0)) (mNil))))) (mCons (mSeq .tuple (mCons (mC (.int 3)) (mCons (mNewX 3 (mVar 0)) (mCons (mNewX 3 (mVar 0)) (mNil))))) (mNil)))))) (mSeqS (mSet 1 (mBin dAdd (mVar 1) (mSeq .list (mCons (mSeq .tuple (mCons (mC (.int 4)) (mCons (mNewX 4 (mVar 0)) (mCons (mNewX 4 (mVar 0)) (mNil))))) (mCons (mSeq .tuple (mCons (mC (.int 5)) (mCons (mNewX 5 (mVar 0)) (mCons (mNewX 5 (mVar 0)) (mNil))))) (mNil)))))) (mRet (mBin dAdd (mVar 1) (mSeq .list (mCons (mSeq .tuple (mCons (mC (.int 6)) (mCons (mNewX 6 (mVar 0)) (mCons (mNewX 6 (mVar 0)) (mNil))))) (mCons (mSeq .tuple (mCons (mC (.int 7)) (mCons (mNewX 7 (mVar 0)) (mCons (mNewX 7 (mVar 0)) (mNil))))) (mNil))))))))
def f__law_made : List DV → MS → Rs MS DV := fnB 1 2 b__law_made
def b_law : Sg → Rs Sg Fl := mSeqS (mSet 2 (mSeq .list (mCons (mC .none) (mCons (mC (.int 0)) (mCons (mC (.bool true)) (mCons (mNeg (mC (.int 7))) (mCons (mBin dPow (mC (.int 10)) (mC (.int 30))) (mCons (mC (.str "")) (mCons (mC (.str "own")) (mCons (mC (.str "best")) (mCons (mSeq .tuple (mNil)) (mCons (mSeq .tuple (mCons (mC (.int 1)) (mCons (mC (.str "b")) (mNil)))) (mCons (mSeq .tuple (mCons (mSeq .tuple (mNil)) (mNil))) (mCons (mSeq .list (mCons (mC (.int 1)) (mCons (mSeq .list (mCons (mC (.int 2)) (mNil))) (mNil)))) (mCons (mC (.dict [])) (mCons (mC (.dict [(.str "a", .int 1)])) (mNil))))))))))))))))) (mSeqS (mFor (mRange1 (mCons (mBin dAdd (mC (.int 4)) (mCallB bMin (mCons (mCallB bLen (mCons (mVar 0) (mNil))) (mCons (mC (.int 8)) (mNil))))) (mNil))) (gtName 3) (mSeqS (mSet 5 (mIf (mTest (mBin dLt (mVar 3) (mC (.int 2)))) (mBin dIx (mVar 2) (mVar 3)) (mCallF f__law_of (mCons (mVar 1) (mCons (mVar 2) (mNil)))))) (mFor (mSeqI (mCallF f__law_made (mCons (mVar 5) (mNil)))) (gtTup 3 (gtCons (gtName 6) (gtCons (gtName 7) (gtCons (gtName 8) (gtNil))))) (mSeqS (mSet 9 (mBin dAdd (mLc [11] (mRange1 (mCons (mC (.int 8)) (mNil))) (gtName 11) (mYes) (mBin dEq (mVar 11) (mVar 6))) (mSeq .list (mCons (mBin dLt (mVar 6) (mC (.int 7))) (mCons (mBin dLt (mVar 6) (mC (.int 7))) (mCons (mBin dEq (mVar 6) (mC (.int 7))) (mNil))))))) (mFor (mSeqI (mSeq .tuple (mCons (mVar 7) (mCons (mVar 8) (mNil))))) (gtName 10) (mIf (mOrB (mTest (mBin dNe (mCallF f__law_marks (mCons (mVar 10) (mNil))) (mVar 9))) (mTest (mBin dNe (mCallB bRepr (mCons (mCallF f__law_kept (mCons (mVar 6) (mCons (mVar 10) (mNil)))) (mNil))) (mCallB bRepr (mCons (mVar 5) (mNil)))))) (mRet (mC (.bool false))) ((fun g => .ok .nx g)))))))) (mSeqS (mSet 4 (mNew0 8 (mC (.str "any")))) (mRet (mBin dEq (mCallF f__law_marks (mCons (mVar 4) (mNil))) (mBin dAdd (mBin dMul (mSeq .list (mCons (mC (.bool false)) (mNil))) (mC (.int 8))) (mSeq .list (mCons (mC (.bool true)) (mCons (mC (.bool true)) (mCons (mC (.bool false)) (mNil))))))))))
def law_slots : Nat := 12
def law_m : Nat := 1
end DL
set_option Elab.async false
set_option linter.all false
set_option maxRecDepth 100000
set_option maxHeartbeats 4000000
set_option autoImplicit false
namespace DL
open PySem PySem.Spec L2
open PyProof.Rows hiding St
structure Ok (n : Nat) (s : MS) : Prop where
  cells : s.cells ≠ []
  pos : 0 ≤ s.spot
  room : s.spot + (n : Int) ≤ 2 ^ 62
theorem Ok.less {n m : Nat} {s : MS} (h : Ok n s) (k : m ≤ n) : Ok m s := ⟨h.cells, h.pos, by have := h.room; omega⟩
theorem ixN_nn {n : Nat} {i : Int} (h0 : 0 ≤ i) (h : i < n) : ixN n i = some i.toNat := by
  unfold ixN
  rw [if_pos h0, if_pos h]
theorem cell_at (l : List Int) (h : l ≠ []) (k : Int) : ∃ c, dIx (.list (l.map .int)) (.int (k % ((l.map PyData.int).length : Nat))) = some (.int c) := by
  have hl := List.length_pos_iff.mpr h
  have h0 := Int.emod_nonneg k (b := ((l.map PyData.int).length : Nat)) (by rw [List.length_map]; omega)
  have h1 := Int.emod_lt_of_pos k (b := ((l.map PyData.int).length : Nat)) (by rw [List.length_map]; omega)
  show ∃ c, atI _ _ = _
  unfold atI
  simp only [ixN_nn h0 h1, Option.bind_some, List.getElem?_map]
  rw [List.length_map] at *
  have h2 : (k % (l.length : Int)).toNat < l.length := by omega
  rw [List.getElem?_eq_getElem h2]
  exact ⟨_, rfl⟩
theorem draw_ok {n : Nat} {s : MS} {k : Int} (h : Ok (n + 1) s) (hk0 : 0 < k) (hk20 : k < 1073741824) :
    Sat (f__law_draw [.m, .pu (.int k)] s) fun d s' => ∃ v, d = .pu (.int v) ∧ 0 ≤ v ∧ v < k ∧ Ok n s' := by
  refine sat_fnB rfl ?_
  show Sat (b__law_draw ⟨[some .m, some (.pu (.int k)), none, none, none, none], s⟩) _
  unfold b__law_draw
  have hk := ltB_t hk0
  have hk2 := ltB_t hk20
  by_cases hl0 : 0 < s.left
  · have hl := ltB_t hl0
    simp only [mSeqS, mIf, mTest, mBin, mMget, mC, mVar, mSet, mMset, mRet, mDrop, mCallB, mCons, mNil, mSeq, mNeg, mNotB, mNotV, mAndB, mOrB, mAndV, mOrV, mChain, mIsi, mPar2, mParNE, mParEN, mNew, mAug, mPart, mNoPart, mCut, mRange1, mRange2, mEnum, mZip, mSeqI, mCallF, Rs.bind_ok, Rs.of_some, Option.map_some, Option.bind_some, isM, asB, isOwn, dLt, dLe, dGt, dGe, dEq, dNe, dIs, dIsNot, isNon_non, isNon_int, dAdd, dAddI, dSub, dMul, dMod, dDiv, dPow, bInt, bLen, bTuple, bList, allP, Sg.put, List.getElem?_cons_zero, List.getElem?_cons_succ, List.set_cons_zero, List.set_cons_succ, if_true, if_false, Bool.false_eq_true, decide_true, decide_false, Bool.not_true, Bool.not_false, Bool.and_true, Bool.true_and, Bool.or_true, Bool.true_or, dLeft, dSpot, dCells, isiT, tyN, Bool.or_false, Bool.false_or, Bool.false_and, Bool.and_false, len0, cst0, len1, cst1, len2, cst2, len3, cst3, len4, cst4, len5, cst5, len6, cst6, len7, cst7, len8, cst8, len9, cst9, len10, cst10, len11, cst11, len12, cst12, big0, big1, big2, big3, big4, big5, big6, big7, big8, big9, big10, big11, big12, hl, hk, hk2]
    refine sat_ok ⟨_, rfl, _, rfl, Int.emod_nonneg _ (by omega), Int.emod_lt_of_pos _ hk0, h.cells, h.pos, by have := h.room; simp only []; omega⟩
  · have hl := ltB_f (a := 0) (b := s.left) (by omega)
    have hc : ltB 0 (((s.cells.map PyData.int).length : Nat) : Int) = true := by
      rw [List.length_map]
      have := List.length_pos_iff.mpr h.cells
      exact ltB_t (by omega)
    obtain ⟨c, hx⟩ := cell_at s.cells h.cells (s.spot + 1)
    have hp := h.pos
    have hr := h.room
    have hm := small_of (a := s.spot + 1) (by omega) (by omega)
    have c1 : small 6133 = true := rfl
    have c2 : small 23 = true := rfl
    have c3 : small 48271 = true := rfl
    have c4 : small 93241 = true := rfl
    have c5 : small 69621 = true := rfl
    simp only [mSeqS, mIf, mTest, mBin, mMget, mC, mVar, mSet, mMset, mRet, mDrop, mCallB, mCons, mNil, mSeq, mNeg, mNotB, mNotV, mAndB, mOrB, mAndV, mOrV, mChain, mIsi, mPar2, mParNE, mParEN, mNew, mAug, mPart, mNoPart, mCut, mRange1, mRange2, mEnum, mZip, mSeqI, mCallF, Rs.bind_ok, Rs.of_some, Option.map_some, Option.bind_some, isM, asB, isOwn, dLt, dLe, dGt, dGe, dEq, dNe, dIs, dIsNot, isNon_non, isNon_int, dAdd, dAddI, dSub, dMul, dMod, dDiv, dPow, bInt, bLen, bTuple, bList, allP, Sg.put, List.getElem?_cons_zero, List.getElem?_cons_succ, List.set_cons_zero, List.set_cons_succ, if_true, if_false, Bool.false_eq_true, decide_true, decide_false, Bool.not_true, Bool.not_false, Bool.and_true, Bool.true_and, Bool.or_true, Bool.true_or, dLeft, dSpot, dCells, isiT, tyN, Bool.or_false, Bool.false_or, Bool.false_and, Bool.and_false, len0, cst0, len1, cst1, len2, cst2, len3, cst3, len4, cst4, len5, cst5, len6, cst6, len7, cst7, len8, cst8, len9, cst9, len10, cst10, len11, cst11, len12, cst12, big0, big1, big2, big3, big4, big5, big6, big7, big8, big9, big10, big11, big12, hl, hk, hk2, hc, hx, hm, c1, c2, c3, c4, c5, show ltB 0 2147483629 = true from rfl, show ltB 0 2147483647 = true from rfl, show ltB 0 2147483587 = true from rfl, show ltB 0 13 = true from rfl, show ltB 13 1073741824 = true from rfl]
    refine sat_ok ⟨_, rfl, _, rfl, Int.emod_nonneg _ (by omega), Int.emod_lt_of_pos _ hk0, h.cells, by simp only []; omega, by simp only []; omega⟩
end DL
set_option Elab.async false
set_option linter.all false
set_option maxRecDepth 100000
set_option maxHeartbeats 4000000
set_option autoImplicit false
namespace DL
open PySem PySem.Spec L2
open PyProof.Rows hiding St
local macro_rules
  | `(tactic| decreasing_with $ts:tacticSeq) => `(tactic| repeat (first
    | with_reducible assumption
    | with_reducible exact e_nil
    | with_reducible exact e_c
    | with_reducible exact e_nopart
    | with_reducible exact e_nx
    | with_reducible exact set_z
    | with_reducible exact allP_z
    | with_reducible exact wipe_z
    | with_reducible exact e_gtNil
    | with_reducible exact ck_ok
    | with_reducible exact ck_ex
    | with_reducible exact rk_ok
    | with_reducible exact rk_ex
    | with_reducible exact dk_ok
    | with_reducible exact dk_ex
    | with_reducible exact tk_ex
    | with_reducible exact sk_rt
    | with_reducible exact sk_ex
    | with_reducible exact sk_ct
    | with_reducible exact sk_bk
    | with_reducible apply sk_nx
    | with_reducible apply tk_ok
    | with_reducible apply set_s
    | with_reducible apply allP_s
    | with_reducible apply wipe_s
    | with_reducible apply iteB_t
    | with_reducible apply iteB_f
    | ((with_reducible apply e_var); rfl; rfl)
    | ((with_reducible apply e_varO); rfl)
    | with_reducible apply e_cons
    | with_reducible apply e_bin
    | with_reducible apply e_call
    | with_reducible apply e_callB
    | with_reducible apply e_seq
    | with_reducible apply e_test
    | with_reducible apply e_notB
    | with_reducible apply e_notV
    | with_reducible apply e_isi
    | with_reducible apply e_if
    | with_reducible apply e_orB
    | with_reducible apply e_andB
    | with_reducible apply e_andV
    | with_reducible apply e_orV
    | with_reducible apply e_chainI
    | with_reducible apply e_chain
    | with_reducible apply e_part
    | with_reducible apply e_cut
    | with_reducible apply e_mset
    | with_reducible apply e_ret
    | with_reducible apply e_drop
    | with_reducible apply e_seqS
    | with_reducible apply e_raise
    | with_reducible apply e_new
    | with_reducible apply e_newL
    | ((with_reducible apply e_ixN); rfl)
    | with_reducible apply e_newD
    | with_reducible apply e_par2
    | with_reducible apply e_asg
    | with_reducible apply e_gtName
    | ((with_reducible apply e_gtTup); rfl)
    | with_reducible apply e_gtCons
    | ((with_reducible apply e_aug); rfl)
    | ((with_reducible apply e_app); rfl)
    | ((with_reducible apply own_at); rfl)
    | ((with_reducible apply set_r); rfl)
    | with_reducible apply e_for
    | with_reducible apply e_seqI
    | with_reducible apply e_rng1
    | with_reducible apply e_rng2
    | with_reducible apply e_enum
    | with_reducible apply e_zip
    | with_reducible apply e_star
    | with_reducible apply e_neg
    | with_reducible apply e_rev
    | with_reducible apply e_revL
    | with_reducible exact ok_r
    | with_reducible exact ex_r
    | ((with_reducible apply op_h); first | with_reducible assumption | ($ts) | exact rfl)
    | ((with_reducible apply bl_h); first | with_reducible assumption | ($ts) | exact rfl)
    | ((with_reducible apply ct_h); first | with_reducible assumption | ($ts) | exact rfl)
    | ((with_reducible apply sq_h); first | with_reducible assumption | ($ts) | exact rfl)
    | ((with_reducible apply ln_h); first | with_reducible assumption | ($ts) | exact ln_b rfl | omega)
    | ((with_reducible apply tg_h); first | with_reducible assumption | ($ts))
    | with_reducible apply tg_h
    | ((with_reducible apply is_h); with_reducible assumption)
    | exact is_t rfl
    | exact is_f rfl
    | ((with_reducible apply is_h); first | ($ts) | exact rfl)
    | ((with_reducible apply be_h); first
      | with_reducible exact not_t
      | with_reducible exact not_f
      | with_reducible assumption)
    | exact be_t rfl
    | exact be_f rfl
    | ((with_reducible apply be_h); first
      | with_reducible exact not_t
      | with_reducible exact not_f
      | with_reducible assumption
      | with_reducible exact (rfl : true = true)
      | with_reducible exact (rfl : false = false)
      | ($ts)
      | with_reducible exact decide_eq_true (by first | with_reducible assumption | with_reducible rfl | omega)
      | with_reducible exact decide_eq_false (by first | with_reducible assumption | omega)
      | with_reducible exact leB_t (by omega)
      | with_reducible exact leB_f (by omega)
      | exact rfl)
    | ($ts)
    | exact rk_ok
    | exact ok_r))
theorem dec_str_refl (x : Str) : decide (x = x) = true := decide_eq_true rfl
theorem min_lit {n : Nat} : (if (8 : Int) < (n : Int) then (8 : Int) else (n : Int)) = ((min n 8 : Nat) : Int) := by split <;> omega
theorem rng1_laps {n : Nat} (h : n ≤ 63) (k : Nat) (hk : k ≤ 1000) : rng1 [.pu (.int ((k : Int) + ((min n 8 : Nat) : Int)))] = some (0, k + min n 8) := rng1_of (j := (k : Int) + ((min n 8 : Nat) : Int)) (n := k + min n 8) (by omega) (by omega)
theorem ms0_ok {ns : List Int} {n : Nat} (h : n ≤ 2 ^ 62) : Ok n (ms0 ns) := by
  refine ⟨?_, Int.le_refl 0, ?_⟩
  · show cellsOf ns ≠ []
    unfold cellsOf
    simp
  · show (0 : Int) + _ ≤ _
    have : ((n : Nat) : Int) ≤ ((2 ^ 62 : Nat) : Int) := Int.ofNat_le.mpr h
    rw [Int.zero_add]
    exact this
theorem p__law_of {n : Nat} {s : MS} {ds : List PyData} (h : Ok (n + 1) s) (h0 : ds ≠ []) (h1 : ds.length < 1000000) :
    Sat (f__law_of [.m, .pu (.list ds)] s) fun d s' => ∃ x, x ∈ ds ∧ d = .pu x ∧ Ok n s' := by
  have hl : 0 < ds.length := List.length_pos_iff.mpr h0
  obtain ⟨d, s', e, v, rfl, hv0, hv, ok⟩ := draw_ok (k := (ds.length : Int)) h (by omega) (by omega)
  have hk : v.toNat < ds.length := by omega
  have hx : dIx (.list ds) (.int v) = some ds[v.toNat] := by
    show atI ds v = _
    unfold atI
    simp only [ixN_nn hv0 hv, Option.bind_some, List.getElem?_eq_getElem hk]
  refine sat_fnB rfl ?_
  show Sat (b__law_of ⟨[some .m, some (.pu (.list ds))], s⟩) _
  unfold b__law_of
  simp only [mSeqS, mIf, mTest, mBin, mMget, mC, mVar, mSet, mMset, mRet, mDrop, mCallB, mCons, mNil, mSeq, mNeg, mNotB, mNotV, mAndB, mOrB, mAndV, mOrV, mChain, mIsi, mPar2, mParNE, mParEN, mNew, mAug, mPart, mNoPart, mCut, mRange1, mRange2, mEnum, mZip, mSeqI, mCallF, Rs.bind_ok, Rs.of_some, Option.map_some, Option.bind_some, isM, asB, isOwn, dLt, dLe, dGt, dGe, dEq, dNe, dIs, dIsNot, isNon_non, isNon_int, dAdd, dAddI, dSub, dMul, dMod, dDiv, dPow, bInt, bLen, bTuple, bList, allP, Sg.put, List.getElem?_cons_zero, List.getElem?_cons_succ, List.set_cons_zero, List.set_cons_succ, if_true, if_false, Bool.false_eq_true, decide_true, decide_false, Bool.not_true, Bool.not_false, Bool.and_true, Bool.true_and, Bool.or_true, Bool.true_or, dLeft, dSpot, dCells, isiT, tyN, Bool.or_false, Bool.false_or, Bool.false_and, Bool.and_false, len0, cst0, len1, cst1, len2, cst2, len3, cst3, len4, cst4, len5, cst5, len6, cst6, len7, cst7, len8, cst8, len9, cst9, len10, cst10, len11, cst11, len12, cst12, big0, big1, big2, big3, big4, big5, big6, big7, big8, big9, big10, big11, big12, e, hx]
  exact sat_ok ⟨_, rfl, _, List.getElem_mem hk, rfl, ok⟩
def marksL (c : Nat) : List PyData := [.bool (isE nmE "BadRule" c), .bool (isE nmE "BadRow" c), .bool (isE nmE "BadBill" c), .bool (isE nmE "BadNumber" c), .bool (isE nmE "BadKind" c), .bool (isE nmE "BadPaper" c), .bool (isE nmE "BadText" c), .bool (isE nmE "Nothing" c), .bool (isE nmE "ResultError" c), .bool (isE nmE "ValueError" c), .bool (isE nmE "LookupError" c)]
theorem isE_x {y : Str} {c : Nat} {d : PyData} {g : Sg} (h : errN d = some c) (hc : c < 9) (v : mVar 0 g = .ok (.pu d) g) : mIsE (tabE nmE y) (mVar 0) g = .ok (.pu (.bool (isE nmE y c))) g := by
  unfold mIsE
  rw [v]
  show Rs.of (((errN d).bind (tabE nmE y)).map fun b => DV.pu (.bool b)) g = _
  rw [h]
  show Rs.of ((tabE nmE y c).map fun b => DV.pu (.bool b)) g = _
  unfold tabE
  rw [if_pos hc]
  rfl
theorem marks_body {d : PyData} {c : Nat} (h : errN d = some c) (hc : c < 9) (s : MS) : b__law_marks ⟨[some (.pu d), none], s⟩ = .ok (.rt (.pu (.list (marksL c)))) ⟨[some (.pu d), some (.pu (.list [.bool (isE nmE "BadRule" c), .bool (isE nmE "BadRow" c), .bool (isE nmE "BadBill" c), .bool (isE nmE "BadNumber" c), .bool (isE nmE "BadKind" c), .bool (isE nmE "BadPaper" c), .bool (isE nmE "BadText" c), .bool (isE nmE "Nothing" c)]))], s⟩ := by
  have key : ∀ (y : Str) (x : Option DV), mIsE (tabE nmE y) (mVar 0) ⟨[some (.pu d), x], s⟩ = .ok (.pu (.bool (isE nmE y c))) ⟨[some (.pu d), x], s⟩ := fun y x => isE_x h hc rfl
  unfold b__law_marks marksL
  have a3 : dAdd (.list [.bool (isE nmE "BadRule" c), .bool (isE nmE "BadRow" c), .bool (isE nmE "BadBill" c)]) (.list [.bool (isE nmE "BadNumber" c), .bool (isE nmE "BadKind" c), .bool (isE nmE "BadPaper" c)]) = some (.list [.bool (isE nmE "BadRule" c), .bool (isE nmE "BadRow" c), .bool (isE nmE "BadBill" c), .bool (isE nmE "BadNumber" c), .bool (isE nmE "BadKind" c), .bool (isE nmE "BadPaper" c)]) := rfl
  have a6 : dAdd (.list [.bool (isE nmE "BadRule" c), .bool (isE nmE "BadRow" c), .bool (isE nmE "BadBill" c), .bool (isE nmE "BadNumber" c), .bool (isE nmE "BadKind" c), .bool (isE nmE "BadPaper" c)]) (.list [.bool (isE nmE "BadText" c), .bool (isE nmE "Nothing" c)]) = some (.list [.bool (isE nmE "BadRule" c), .bool (isE nmE "BadRow" c), .bool (isE nmE "BadBill" c), .bool (isE nmE "BadNumber" c), .bool (isE nmE "BadKind" c), .bool (isE nmE "BadPaper" c), .bool (isE nmE "BadText" c), .bool (isE nmE "Nothing" c)]) := rfl
  have a8 : dAdd (.list [.bool (isE nmE "BadRule" c), .bool (isE nmE "BadRow" c), .bool (isE nmE "BadBill" c), .bool (isE nmE "BadNumber" c), .bool (isE nmE "BadKind" c), .bool (isE nmE "BadPaper" c), .bool (isE nmE "BadText" c), .bool (isE nmE "Nothing" c)]) (.list [.bool (isE nmE "ResultError" c), .bool (isE nmE "ValueError" c), .bool (isE nmE "LookupError" c)]) = some (.list [.bool (isE nmE "BadRule" c), .bool (isE nmE "BadRow" c), .bool (isE nmE "BadBill" c), .bool (isE nmE "BadNumber" c), .bool (isE nmE "BadKind" c), .bool (isE nmE "BadPaper" c), .bool (isE nmE "BadText" c), .bool (isE nmE "Nothing" c), .bool (isE nmE "ResultError" c), .bool (isE nmE "ValueError" c), .bool (isE nmE "LookupError" c)]) := rfl
  have k0 := key "BadRule" (none)
  have k1 := key "BadRow" (none)
  have k2 := key "BadBill" (none)
  have k3 := key "BadNumber" (some (.pu (.list [.bool (isE nmE "BadRule" c), .bool (isE nmE "BadRow" c), .bool (isE nmE "BadBill" c)])))
  have k4 := key "BadKind" (some (.pu (.list [.bool (isE nmE "BadRule" c), .bool (isE nmE "BadRow" c), .bool (isE nmE "BadBill" c)])))
  have k5 := key "BadPaper" (some (.pu (.list [.bool (isE nmE "BadRule" c), .bool (isE nmE "BadRow" c), .bool (isE nmE "BadBill" c)])))
  have k6 := key "BadText" (some (.pu (.list [.bool (isE nmE "BadRule" c), .bool (isE nmE "BadRow" c), .bool (isE nmE "BadBill" c), .bool (isE nmE "BadNumber" c), .bool (isE nmE "BadKind" c), .bool (isE nmE "BadPaper" c)])))
  have k7 := key "Nothing" (some (.pu (.list [.bool (isE nmE "BadRule" c), .bool (isE nmE "BadRow" c), .bool (isE nmE "BadBill" c), .bool (isE nmE "BadNumber" c), .bool (isE nmE "BadKind" c), .bool (isE nmE "BadPaper" c)])))
  have k8 := key "ResultError" (some (.pu (.list [.bool (isE nmE "BadRule" c), .bool (isE nmE "BadRow" c), .bool (isE nmE "BadBill" c), .bool (isE nmE "BadNumber" c), .bool (isE nmE "BadKind" c), .bool (isE nmE "BadPaper" c), .bool (isE nmE "BadText" c), .bool (isE nmE "Nothing" c)])))
  have k9 := key "ValueError" (some (.pu (.list [.bool (isE nmE "BadRule" c), .bool (isE nmE "BadRow" c), .bool (isE nmE "BadBill" c), .bool (isE nmE "BadNumber" c), .bool (isE nmE "BadKind" c), .bool (isE nmE "BadPaper" c), .bool (isE nmE "BadText" c), .bool (isE nmE "Nothing" c)])))
  have k10 := key "LookupError" (some (.pu (.list [.bool (isE nmE "BadRule" c), .bool (isE nmE "BadRow" c), .bool (isE nmE "BadBill" c), .bool (isE nmE "BadNumber" c), .bool (isE nmE "BadKind" c), .bool (isE nmE "BadPaper" c), .bool (isE nmE "BadText" c), .bool (isE nmE "Nothing" c)])))
  clear key
  generalize mIsE (tabE nmE "BadRule") (mVar 0) = G0 at *
  generalize mIsE (tabE nmE "BadRow") (mVar 0) = G1 at *
  generalize mIsE (tabE nmE "BadBill") (mVar 0) = G2 at *
  generalize mIsE (tabE nmE "BadNumber") (mVar 0) = G3 at *
  generalize mIsE (tabE nmE "BadKind") (mVar 0) = G4 at *
  generalize mIsE (tabE nmE "BadPaper") (mVar 0) = G5 at *
  generalize mIsE (tabE nmE "BadText") (mVar 0) = G6 at *
  generalize mIsE (tabE nmE "Nothing") (mVar 0) = G7 at *
  generalize mIsE (tabE nmE "ResultError") (mVar 0) = G8 at *
  generalize mIsE (tabE nmE "ValueError") (mVar 0) = G9 at *
  generalize mIsE (tabE nmE "LookupError") (mVar 0) = G10 at *
  decreasing_with fail
theorem p_marks {d : PyData} {c : Nat} (h : errN d = some c) (hc : c < 9) (s : MS) : f__law_marks [.pu d] s = .ok (.pu (.list (marksL c))) s := fnB_ok (f := b__law_marks) (n := 2) (ds := [.pu d]) (s := s) rfl (marks_body h hc s)
theorem fldE_x {f : Str} {c : Nat} {p : PyData} {g : Sg} (v : mVar 1 g = .ok (.pu (errD c p)) g) (hc : okE flE f c = true) : mFldE (okE flE f) (mVar 1) g = .ok (.pu p) g := by
  unfold mFldE
  rw [v]
  show Rs.of ((errP (errD c p)).bind fun cp => if okE flE f cp.1 = true then some (DV.pu cp.2) else none) g = _
  rw [errP_D]
  show Rs.of (if okE flE f c = true then some (DV.pu p) else none) g = _
  rw [if_pos hc]
  rfl
theorem kept_body (x : PyData) (s : MS) (c : Nat) (hc : c < 8) : b__law_kept ⟨[some (.pu (.int (c : Nat))), some (.pu (errD c x))], s⟩ = .ok (.rt (.pu x)) ⟨[some (.pu (.int (c : Nat))), some (.pu (errD c x))], s⟩ := by
  have fl : ∀ (f : Str), okE flE f c = true → mFldE (okE flE f) (mVar 1) ⟨[some (.pu (.int (c : Nat))), some (.pu (errD c x))], s⟩ = .ok (.pu x) ⟨[some (.pu (.int (c : Nat))), some (.pu (errD c x))], s⟩ := fun f h => fldE_x rfl h
  generalize errD c x = E at fl ⊢
  unfold b__law_kept
  have f1 := fl "number"
  have f2 := fl "part"
  have f3 := fl "line"
  have f4 := fl "value"
  clear fl
  generalize mFldE (okE flE "number") (mVar 1) = F1 at *
  generalize mFldE (okE flE "part") (mVar 1) = F2 at *
  generalize mFldE (okE flE "line") (mVar 1) = F3 at *
  generalize mFldE (okE flE "value") (mVar 1) = F4 at *
  match c, hc with
  | 0, _ => have f1 := f1 rfl; decreasing_with fail
  | 1, _ => have f1 := f1 rfl; decreasing_with fail
  | 2, _ => have f2 := f2 rfl; decreasing_with fail
  | 3, _ => have f4 := f4 rfl; decreasing_with fail
  | 4, _ => have f4 := f4 rfl; decreasing_with fail
  | 5, _ => have f2 := f2 rfl; decreasing_with fail
  | 6, _ => have f3 := f3 rfl; decreasing_with fail
  | 7, _ => have f4 := f4 rfl; decreasing_with fail
theorem p_kept (x : PyData) (s : MS) : ∀ c : Nat, c < 8 → f__law_kept [.pu (.int (c : Nat)), .pu (errD c x)] s = .ok (.pu x) s := by
  intro c hc
  exact fnB_ok (f := b__law_kept) (n := 2) (ds := [.pu (.int (c : Nat)), .pu (errD c x)]) (s := s) rfl (kept_body x s c hc)
def madeT (x : PyData) (c : Nat) : PyData := .tuple [.int (c : Nat), errD c x, errD c x]
theorem p_made (x : PyData) (s : MS) : f__law_made [.pu x] s = .ok (.pu (.list ((List.range 8).map (madeT x)))) s := rfl
theorem made_at {x d : PyData} {i : Nat} (h : ((List.range 8).map (madeT x))[i]? = some d) : i < 8 ∧ d = madeT x i := by
  rw [List.getElem?_map] at h
  obtain ⟨k, hk, rfl⟩ := Option.map_eq_some_iff.mp h
  obtain ⟨hi, e⟩ := List.getElem?_eq_some_iff.mp hk
  rw [List.length_range] at hi
  rw [List.getElem_range] at e
  exact ⟨hi, by rw [e]⟩
def thingsL : List PyData := [.none, .int 0, .bool true, .int (-7), .int (10 ^ 30), .str "", .str "own", .str "best", .tuple [], .tuple [.int 1, .str "b"], .tuple [.tuple []], .list [.int 1, .list [.int 2]], .dict [], .dict [(.str "a", .int 1)]]
theorem things_ok : ∀ x ∈ thingsL, okShow x = true := List.all_eq_true.mp (by decide +kernel)
end DL
set_option Elab.async false
set_option linter.all false
set_option maxRecDepth 100000
set_option maxHeartbeats 4000000
set_option autoImplicit false
namespace DL
open PySem PySem.Spec L2
open PyProof.Rows hiding St
theorem callF1 {fn : List DV → MS → Rs MS DV} {fs : Sg → Rs Sg (List DV)} {g g1 : Sg} {ds : List DV} {d : DV} {s' : MS} (h1 : fs g = .ok ds g1) (h2 : fn ds g1.s = .ok d s') : mCallF fn fs g = .ok d { g1 with s := s' } := by
  unfold mCallF
  rw [h1]
  show (match fn ds g1.s with | .ok d s => Rs.ok d { g1 with s := s } | .ex c p s => .ex c p { g1 with s := s } | .no => .no) = _
  rw [h2]
theorem sat_step1 {f h : Sg → Rs Sg Fl} {g g' : Sg} {Q : Fl → Sg → Prop} (e : f g = .ok .nx g') (k : Sat (h g') Q) : Sat (mSeqS f h g) Q := by
  obtain ⟨x, g2, e2, q⟩ := k
  refine ⟨x, g2, ?_, q⟩
  unfold mSeqS
  rw [e]
  exact e2
theorem sat_seq1 {f h : Sg → Rs Sg Fl} {g : Sg} {Q : Fl → Sg → Prop} (H : Sat (f g) fun x g1 => x = .nx ∧ Sat (h g1) Q) : Sat (mSeqS f h g) Q := by
  obtain ⟨x, g1, e, rfl, k⟩ := H
  exact sat_step1 e k
def stJ (ns : List Int) (i : Nat) (x E : PyData) (a4 a10 : Option DV) (due : PyData) (lap : Int) (s : MS) : Sg := ⟨[some (.scr ns), some .m, some (.pu (.list thingsL)), some (.pu (.int lap)), a4, some (.pu x), some (.pu (.int (i : Nat))), some (.pu E), some (.pu E), some (.pu due), a10, none], s⟩
theorem bodyJ_ok {ns : List Int} {i : Nat} {x E : PyData} {a4 : Option DV} {lap : Int} {s : MS} {ms : List PyData} (hx : okShow x = true)
    (hm : f__law_marks [.pu E] s = .ok (.pu (.list ms)) s) (hk : f__law_kept [.pu (.int (i : Nat)), .pu E] s = .ok (.pu x) s) (hd : dNe (.list ms) (.list ms) = some (.bool false)) :
    (mIf (mOrB (mTest (mBin dNe (mCallF f__law_marks (mCons (mVar 10) (mNil))) (mVar 9))) (mTest (mBin dNe (mCallB bRepr (mCons (mCallF f__law_kept (mCons (mVar 6) (mCons (mVar 10) (mNil)))) (mNil))) (mCallB bRepr (mCons (mVar 5) (mNil)))))) (mRet (mC (.bool false))) ((fun g => .ok .nx g))) (stJ ns i x E a4 (some (.pu E)) (.list ms) lap s) = .ok .nx (stJ ns i x E a4 (some (.pu E)) (.list ms) lap s) := by
  have h1 : mCallF f__law_marks (mCons (mVar 10) mNil) (stJ ns i x E a4 (some (.pu E)) (.list ms) lap s) = .ok (.pu (.list ms)) (stJ ns i x E a4 (some (.pu E)) (.list ms) lap s) := by
    exact callF1 (ds := [.pu E]) rfl hm
  have h2 : mCallF f__law_kept (mCons (mVar 6) (mCons (mVar 10) mNil)) (stJ ns i x E a4 (some (.pu E)) (.list ms) lap s) = .ok (.pu x) (stJ ns i x E a4 (some (.pu E)) (.list ms) lap s) := by
    exact callF1 (ds := [.pu (.int (i : Nat)), .pu E]) rfl hk
  have h3 : mVar 9 (stJ ns i x E a4 (some (.pu E)) (.list ms) lap s) = .ok (.pu (.list ms)) (stJ ns i x E a4 (some (.pu E)) (.list ms) lap s) := rfl
  have h4 : mVar 5 (stJ ns i x E a4 (some (.pu E)) (.list ms) lap s) = .ok (.pu x) (stJ ns i x E a4 (some (.pu E)) (.list ms) lap s) := rfl
  have h5 : bRepr [.pu x] = some (.str x.shown) := bRepr_ok hx
  generalize stJ ns i x E a4 (some (.pu E)) (.list ms) lap s = G at *
  generalize f__law_marks = F1 at *
  generalize f__law_kept = F2 at *
  have h6 : dNe (.str x.shown) (.str x.shown) = some (.bool false) := by
    show some (PyData.bool (!decide (x.shown = x.shown))) = _
    rw [dec_str_refl]; rfl
  generalize x.shown = R at *
  have t1 : mTest (mBin dNe (mCallF F1 (mCons (mVar 10) mNil)) (mVar 9)) G = .ok false G := by
    simp only [mTest, mBin, h1, h3, hd, Rs.bind_ok, Rs.of_some, Option.map_some, asB]
  have t2 : mTest (mBin dNe (mCallB bRepr (mCons (mCallF F2 (mCons (mVar 6) (mCons (mVar 10) mNil))) mNil)) (mCallB bRepr (mCons (mVar 5) mNil))) G = .ok false G := by
    simp only [mTest, mBin, mCallB, mCons, mNil, h2, h4, h5, h6, Rs.bind_ok, Rs.of_some, Option.map_some, asB]
  unfold mIf mOrB
  rw [t1]
  simp only [Rs.bind_ok]
  rw [t2]
  rfl
def stI (ns : List Int) (x : PyData) (a4 : Option DV) (lap : Int) (q : Option DV × Option DV × Option DV × Option DV × Option DV) (s : MS) : Sg := ⟨[some (.scr ns), some .m, some (.pu (.list thingsL)), some (.pu (.int lap)), a4, some (.pu x), q.1, q.2.1, q.2.2.1, q.2.2.2.1, q.2.2.2.2, none], s⟩
def eqI (i : Nat) : PyData → PyData
  | .int k => .bool (decide (k = (i : Nat)))
  | d => d
theorem set9_ok {ns : List Int} {x E : PyData} {a4 a9 a10 : Option DV} {lap : Int} {s : MS} (i : Nat) (hi : i < 8) :
    (mSet 9 (mBin dAdd (mLc [11] (mRange1 (mCons (mC (.int 8)) (mNil))) (gtName 11) (mYes) (mBin dEq (mVar 11) (mVar 6))) (mSeq .list (mCons (mBin dLt (mVar 6) (mC (.int 7))) (mCons (mBin dLt (mVar 6) (mC (.int 7))) (mCons (mBin dEq (mVar 6) (mC (.int 7))) (mNil))))))) (stI ns x a4 lap (some (.pu (.int (i : Nat))), some (.pu E), some (.pu E), a9, a10) s) = .ok .nx (stJ ns i x E a4 a10 (.list (marksL i)) lap s) := by
  have e0 : mRange1 (mCons (mC (.int 8)) (mNil)) (stI ns x a4 lap (some (.pu (.int (i : Nat))), some (.pu E), some (.pu E), a9, a10) s) = .ok (rangeD 0 8) (stI ns x a4 lap (some (.pu (.int (i : Nat))), some (.pu E), some (.pu E), a9, a10) s) := by
    have := rng1_of (j := (8 : Int)) (n := 8) (by omega) (by omega)
    unfold mRange1 mCons mC mNil
    simp only [Rs.bind_ok]
    rw [this]
    rfl
  have e1 : mLc [11] (mRange1 (mCons (mC (.int 8)) (mNil))) (gtName 11) (mYes) (mBin dEq (mVar 11) (mVar 6)) (stI ns x a4 lap (some (.pu (.int (i : Nat))), some (.pu E), some (.pu E), a9, a10) s) = .ok (.pu (.list ((rangeD 0 8).map (eqI i)))) (stI ns x a4 lap (some (.pu (.int (i : Nat))), some (.pu E), some (.pu E), a9, a10) s) := by
    refine mLc_map (eqI i) e0 (by decide) (fun d hd => ?_) rfl
    obtain ⟨k, _, rfl⟩ := List.mem_map.mp hd
    exact ⟨_, _, rfl, rfl, rfl⟩
  generalize mLc [11] (mRange1 (mCons (mC (.int 8)) (mNil))) (gtName 11) (mYes) (mBin dEq (mVar 11) (mVar 6)) = Lc at *
  have e2 : (mSeq .list (mCons (mBin dLt (mVar 6) (mC (.int 7))) (mCons (mBin dLt (mVar 6) (mC (.int 7))) (mCons (mBin dEq (mVar 6) (mC (.int 7))) (mNil))))) (stI ns x a4 lap (some (.pu (.int (i : Nat))), some (.pu E), some (.pu E), a9, a10) s) = .ok (.pu (.list [.bool (ltB (i : Int) 7), .bool (ltB (i : Int) 7), .bool (decide ((i : Int) = 7))])) (stI ns x a4 lap (some (.pu (.int (i : Nat))), some (.pu E), some (.pu E), a9, a10) s) := rfl
  have e3 : dAdd (.list ((rangeD 0 8).map (eqI i))) (.list [.bool (ltB (i : Int) 7), .bool (ltB (i : Int) 7), .bool (decide ((i : Int) = 7))]) = some (.list (marksL i)) := by
    match i, hi with
    | 0, _ => rfl
    | 1, _ => rfl
    | 2, _ => rfl
    | 3, _ => rfl
    | 4, _ => rfl
    | 5, _ => rfl
    | 6, _ => rfl
    | 7, _ => rfl
  generalize mSeq .list (mCons (mBin dLt (mVar 6) (mC (.int 7))) (mCons (mBin dLt (mVar 6) (mC (.int 7))) (mCons (mBin dEq (mVar 6) (mC (.int 7))) (mNil)))) = Sq at *
  generalize (rangeD 0 8).map (eqI i) = M1 at *
  unfold mSet mBin
  rw [e1]
  simp only [Rs.bind_ok]
  rw [e2]
  simp only [Rs.bind_ok, asP, e3]
  rfl
theorem marks_eq (i : Nat) (hi : i < 8) : dNe (.list (marksL i)) (.list (marksL i)) = some (.bool false) := by
  match i, hi with
  | 0, _ => rfl
  | 1, _ => rfl
  | 2, _ => rfl
  | 3, _ => rfl
  | 4, _ => rfl
  | 5, _ => rfl
  | 6, _ => rfl
  | 7, _ => rfl
theorem lapI {ns : List Int} {x : PyData} {a4 : Option DV} {lap : Int} {s : MS} (hx : okShow x = true) (i : Nat) (hi : i < 8) (q : Option DV × Option DV × Option DV × Option DV × Option DV) :
    ∃ g1, gtTup 3 (gtCons (gtName 6) (gtCons (gtName 7) (gtCons (gtName 8) (gtNil)))) (madeT x i) (stI ns x a4 lap q s) = some g1 ∧ Sat ((mSeqS (mSet 9 (mBin dAdd (mLc [11] (mRange1 (mCons (mC (.int 8)) (mNil))) (gtName 11) (mYes) (mBin dEq (mVar 11) (mVar 6))) (mSeq .list (mCons (mBin dLt (mVar 6) (mC (.int 7))) (mCons (mBin dLt (mVar 6) (mC (.int 7))) (mCons (mBin dEq (mVar 6) (mC (.int 7))) (mNil))))))) (mFor (mSeqI (mSeq .tuple (mCons (mVar 7) (mCons (mVar 8) (mNil))))) (gtName 10) (mIf (mOrB (mTest (mBin dNe (mCallF f__law_marks (mCons (mVar 10) (mNil))) (mVar 9))) (mTest (mBin dNe (mCallB bRepr (mCons (mCallF f__law_kept (mCons (mVar 6) (mCons (mVar 10) (mNil)))) (mNil))) (mCallB bRepr (mCons (mVar 5) (mNil)))))) (mRet (mC (.bool false))) ((fun g => .ok .nx g))))) g1) fun y g2 => (y = .nx ∨ y = .ct) ∧ ∃ q', g2 = stI ns x a4 lap q' s := by
  refine ⟨stI ns x a4 lap (some (.pu (.int (i : Nat))), some (.pu (errD i x)), some (.pu (errD i x)), q.2.2.2.1, q.2.2.2.2) s, rfl, ?_⟩
  have hm := p_marks (errN_D i x) (by omega) s
  have hk := p_kept x s i hi
  generalize errD i x = E at hm hk ⊢
  refine sat_step1 (set9_ok i hi) ?_
  refine sat_for (ds := [E, E]) (g0 := stJ ns i x E a4 q.2.2.2.2 (.list (marksL i)) lap s) (fun _ g => ∃ a, g = stJ ns i x E a4 a (.list (marksL i)) lap s) rfl ⟨_, rfl⟩ ?_ ?_
  · rintro j d g hd ⟨a, rfl⟩
    have : d = E := by
      match j, hd with
      | 0, hd => exact (Option.some.inj hd).symm
      | 1, hd => exact (Option.some.inj hd).symm
    subst this
    refine ⟨stJ ns i x d a4 (some (.pu d)) (.list (marksL i)) lap s, rfl, ?_⟩
    exact ⟨_, _, bodyJ_ok hx hm hk (marks_eq i hi), .inl rfl, _, rfl⟩
  · rintro g ⟨a, rfl⟩
    exact ⟨.inl rfl, (_, _, _, _, _), rfl⟩
theorem forI_ok {ns : List Int} {x : PyData} {a4 : Option DV} {lap : Int} {s : MS} (hx : okShow x = true) (q : Option DV × Option DV × Option DV × Option DV × Option DV) :
    Sat ((mFor (mSeqI (mCallF f__law_made (mCons (mVar 5) (mNil)))) (gtTup 3 (gtCons (gtName 6) (gtCons (gtName 7) (gtCons (gtName 8) (gtNil))))) (mSeqS (mSet 9 (mBin dAdd (mLc [11] (mRange1 (mCons (mC (.int 8)) (mNil))) (gtName 11) (mYes) (mBin dEq (mVar 11) (mVar 6))) (mSeq .list (mCons (mBin dLt (mVar 6) (mC (.int 7))) (mCons (mBin dLt (mVar 6) (mC (.int 7))) (mCons (mBin dEq (mVar 6) (mC (.int 7))) (mNil))))))) (mFor (mSeqI (mSeq .tuple (mCons (mVar 7) (mCons (mVar 8) (mNil))))) (gtName 10) (mIf (mOrB (mTest (mBin dNe (mCallF f__law_marks (mCons (mVar 10) (mNil))) (mVar 9))) (mTest (mBin dNe (mCallB bRepr (mCons (mCallF f__law_kept (mCons (mVar 6) (mCons (mVar 10) (mNil)))) (mNil))) (mCallB bRepr (mCons (mVar 5) (mNil)))))) (mRet (mC (.bool false))) ((fun g => .ok .nx g)))))) (stI ns x a4 lap q s)) fun y g2 => (y = .nx ∨ y = .ct) ∧ ∃ q', g2 = stI ns x a4 lap q' s := by
  refine sat_for (ds := (List.range 8).map (madeT x)) (g0 := stI ns x a4 lap q s) (fun _ g => ∃ q', g = stI ns x a4 lap q' s) ?_ ⟨_, rfl⟩ ?_ ?_
  · have h := p_made x s
    have h2 : mCallF f__law_made (mCons (mVar 5) mNil) (stI ns x a4 lap q s) = .ok (.pu (.list ((List.range 8).map (madeT x)))) (stI ns x a4 lap q s) := by
      exact callF1 (ds := [.pu x]) rfl h
    generalize (List.range 8).map (madeT x) = L at *
    unfold mSeqI
    rw [h2]
    rfl
  · rintro i d g hd ⟨q', rfl⟩
    obtain ⟨hi, rfl⟩ := made_at hd
    exact lapI hx i hi q'
  · rintro g ⟨q', rfl⟩
    exact ⟨.inl rfl, q', rfl⟩
theorem law_pure (ns : List Int) (hn : ns.length ≤ 63) : ∃ g, b_law ⟨(startD law_slots [.scr ns]).set law_m (some .m), ms0 ns⟩ = .ok (.rt (.pu (.bool true))) g := by
  suffices h : Sat (b_law ⟨[some (.scr ns), some .m, none, none, none, none, none, none, none, none, none, none], ms0 ns⟩) fun x _ => x = .rt (.pu (.bool true)) by
    obtain ⟨_, g, e, rfl⟩ := h
    exact ⟨g, e⟩
  unfold b_law
  have e2 : (mSet 2 (mSeq .list (mCons (mC .none) (mCons (mC (.int 0)) (mCons (mC (.bool true)) (mCons (mNeg (mC (.int 7))) (mCons (mBin dPow (mC (.int 10)) (mC (.int 30))) (mCons (mC (.str "")) (mCons (mC (.str "own")) (mCons (mC (.str "best")) (mCons (mSeq .tuple (mNil)) (mCons (mSeq .tuple (mCons (mC (.int 1)) (mCons (mC (.str "b")) (mNil)))) (mCons (mSeq .tuple (mCons (mSeq .tuple (mNil)) (mNil))) (mCons (mSeq .list (mCons (mC (.int 1)) (mCons (mSeq .list (mCons (mC (.int 2)) (mNil))) (mNil)))) (mCons (mC (.dict [])) (mCons (mC (.dict [(.str "a", .int 1)])) (mNil))))))))))))))))) ⟨[some (.scr ns), some .m, none, none, none, none, none, none, none, none, none, none], ms0 ns⟩ = .ok .nx ⟨[some (.scr ns), some .m, some (.pu (.list thingsL)), none, none, none, none, none, none, none, none, none], ms0 ns⟩ := rfl
  refine sat_step1 e2 (sat_seq1 ?_)
  refine sat_for (ds := rangeD 0 (4 + min ns.length 8)) (g0 := ⟨[some (.scr ns), some .m, some (.pu (.list thingsL)), none, none, none, none, none, none, none, none, none], ms0 ns⟩)
    (fun j g => ∃ lap a5 q s, g = ⟨[some (.scr ns), some .m, some (.pu (.list thingsL)), lap, none, a5, q.1, q.2.1, q.2.2.1, q.2.2.2.1, q.2.2.2.2, none], s⟩ ∧ Ok (1000 - 10 * j) s) ?_ ⟨none, none, (none, none, none, none, none), ms0 ns, rfl, ms0_ok (by decide)⟩ ?_ ?_
  · have := rng1_laps (n := ns.length) hn 4 (by omega)
    simp only [mSeqS, mIf, mTest, mBin, mMget, mC, mVar, mSet, mMset, mRet, mDrop, mCallB, mCons, mNil, mSeq, mNeg, mNotB, mNotV, mAndB, mOrB, mAndV, mOrV, mChain, mIsi, mPar2, mParNE, mParEN, mNew, mAug, mPart, mNoPart, mCut, mRange1, mRange2, mEnum, mZip, mSeqI, mCallF, Rs.bind_ok, Rs.of_some, Option.map_some, Option.bind_some, isM, asB, isOwn, dLt, dLe, dGt, dGe, dEq, dNe, dIs, dIsNot, isNon_non, isNon_int, dAdd, dAddI, dSub, dMul, dMod, dDiv, dPow, bInt, bLen, bTuple, bList, allP, Sg.put, List.getElem?_cons_zero, List.getElem?_cons_succ, List.set_cons_zero, List.set_cons_succ, if_true, if_false, Bool.false_eq_true, decide_true, decide_false, Bool.not_true, Bool.not_false, Bool.and_true, Bool.true_and, Bool.or_true, Bool.true_or, dLeft, dSpot, dCells, isiT, tyN, Bool.or_false, Bool.false_or, Bool.false_and, Bool.and_false, len0, cst0, len1, cst1, len2, cst2, len3, cst3, len4, cst4, len5, cst5, len6, cst6, len7, cst7, len8, cst8, len9, cst9, len10, cst10, len11, cst11, len12, cst12, big0, big1, big2, big3, big4, big5, big6, big7, big8, big9, big10, big11, big12, bMin, min_lit] at this ⊢
    rw [this]
    rfl
  · rintro i d g hd ⟨lap0, a5, q, s, rfl, ok⟩
    obtain ⟨hi, rfl⟩ := rangeD_get hd
    refine ⟨⟨[some (.scr ns), some .m, some (.pu (.list thingsL)), some (.pu (.int (0 + (i : Nat)))), none, a5, q.1, q.2.1, q.2.2.1, q.2.2.2.1, q.2.2.2.2, none], s⟩, rfl, ?_⟩
    have key : ∃ x s', x ∈ thingsL ∧ Ok (1000 - 10 * (i + 1)) s' ∧ (mSet 5 (mIf (mTest (mBin dLt (mVar 3) (mC (.int 2)))) (mBin dIx (mVar 2) (mVar 3)) (mCallF f__law_of (mCons (mVar 1) (mCons (mVar 2) (mNil)))))) ⟨[some (.scr ns), some .m, some (.pu (.list thingsL)), some (.pu (.int (0 + (i : Nat)))), none, a5, q.1, q.2.1, q.2.2.1, q.2.2.2.1, q.2.2.2.2, none], s⟩ = .ok .nx (stI ns x none (0 + (i : Nat)) q s') := by
      by_cases z : i < 2
      · match i, z with
        | 0, _ => exact ⟨.none, s, List.mem_cons_self, ok.less (by omega), rfl⟩
        | 1, _ => exact ⟨.int 0, s, List.mem_cons_of_mem _ List.mem_cons_self, ok.less (by omega), rfl⟩
      · obtain ⟨d, s', e, x, hx, rfl, ok'⟩ := p__law_of (n := 1000 - 10 * i - 1) (s := s) (ds := thingsL) (ok.less (by omega)) (by decide) (by decide)
        refine ⟨x, s', hx, ok'.less (by omega), ?_⟩
        have t : mTest (mBin dLt (mVar 3) (mC (.int 2))) ⟨[some (.scr ns), some .m, some (.pu (.list thingsL)), some (.pu (.int (0 + (i : Nat)))), none, a5, q.1, q.2.1, q.2.2.1, q.2.2.2.1, q.2.2.2.2, none], s⟩ = .ok false ⟨[some (.scr ns), some .m, some (.pu (.list thingsL)), some (.pu (.int (0 + (i : Nat)))), none, a5, q.1, q.2.1, q.2.2.1, q.2.2.2.1, q.2.2.2.2, none], s⟩ := by
          have z' : ltB ((0 : Int) + (i : Nat)) 2 = false := by
            unfold ltB
            rw [leB_eq, decide_eq_true (by omega)]
            rfl
          simp only [mSeqS, mIf, mTest, mBin, mMget, mC, mVar, mSet, mMset, mRet, mDrop, mCallB, mCons, mNil, mSeq, mNeg, mNotB, mNotV, mAndB, mOrB, mAndV, mOrV, mChain, mIsi, mPar2, mParNE, mParEN, mNew, mAug, mPart, mNoPart, mCut, mRange1, mRange2, mEnum, mZip, mSeqI, mCallF, Rs.bind_ok, Rs.of_some, Option.map_some, Option.bind_some, isM, asB, isOwn, dLt, dLe, dGt, dGe, dEq, dNe, dIs, dIsNot, isNon_non, isNon_int, dAdd, dAddI, dSub, dMul, dMod, dDiv, dPow, bInt, bLen, bTuple, bList, allP, Sg.put, List.getElem?_cons_zero, List.getElem?_cons_succ, List.set_cons_zero, List.set_cons_succ, if_true, if_false, Bool.false_eq_true, decide_true, decide_false, Bool.not_true, Bool.not_false, Bool.and_true, Bool.true_and, Bool.or_true, Bool.true_or, dLeft, dSpot, dCells, isiT, tyN, Bool.or_false, Bool.false_or, Bool.false_and, Bool.and_false, len0, cst0, len1, cst1, len2, cst2, len3, cst3, len4, cst4, len5, cst5, len6, cst6, len7, cst7, len8, cst8, len9, cst9, len10, cst10, len11, cst11, len12, cst12, big0, big1, big2, big3, big4, big5, big6, big7, big8, big9, big10, big11, big12, z']
        generalize f__law_of = F at *
        unfold mSet mIf
        rw [t]
        simp only [Rs.bind_ok, mCallF, mCons, mNil, mVar, List.getElem?_cons_zero, List.getElem?_cons_succ, e]
        rfl
    obtain ⟨x, s', hx, ok', e⟩ := key
    refine sat_step1 e ?_
    obtain ⟨y, g2, e2, hy, q', rfl⟩ := forI_ok (ns := ns) (x := x) (a4 := none) (lap := 0 + (i : Nat)) (s := s') (things_ok x hx) q
    exact ⟨y, _, e2, hy, _, _, q', s', rfl, ok'⟩
  · rintro g' ⟨lap, a5, q, s, rfl, ok⟩
    refine ⟨rfl, ?_⟩
    have h4 : (mSet 4 (mNew0 8 (mC (.str "any")))) ⟨[some (.scr ns), some .m, some (.pu (.list thingsL)), lap, none, a5, q.1, q.2.1, q.2.2.1, q.2.2.2.1, q.2.2.2.2, none], s⟩ = .ok .nx ⟨[some (.scr ns), some .m, some (.pu (.list thingsL)), lap, some (.pu (er0D 8)), a5, q.1, q.2.1, q.2.2.1, q.2.2.2.1, q.2.2.2.2, none], s⟩ := rfl
    refine sat_step1 h4 ?_
    have hm := p_marks (errN_0 8) (by decide) s
    refine ⟨.rt (.pu (.bool true)), ⟨[some (.scr ns), some .m, some (.pu (.list thingsL)), lap, some (.pu (er0D 8)), a5, q.1, q.2.1, q.2.2.1, q.2.2.2.1, q.2.2.2.2, none], s⟩, ?_, rfl⟩
    generalize er0D 8 = E at *
    generalize thingsL = T at *
    generalize f__law_marks = F at *
    have h5 : mCallF F (mCons (mVar 4) mNil) ⟨[some (.scr ns), some .m, some (.pu (.list T)), lap, some (.pu E), a5, q.1, q.2.1, q.2.2.1, q.2.2.2.1, q.2.2.2.2, none], s⟩ = .ok (.pu (.list (marksL 8))) ⟨[some (.scr ns), some .m, some (.pu (.list T)), lap, some (.pu E), a5, q.1, q.2.1, q.2.2.1, q.2.2.2.1, q.2.2.2.2, none], s⟩ := by
      exact callF1 (ds := [.pu E]) rfl hm
    show mRet (mBin dEq (mCallF F (mCons (mVar 4) mNil)) _) _ = _
    unfold mRet mBin
    rw [h5]
    rfl
end DL
set_option Elab.async false
set_option linter.all false
set_option maxRecDepth 100000
set_option maxHeartbeats 4000000
set_option autoImplicit false
namespace DL
open PySem PySem.Spec L2
open PyProof.Rows hiding St
def etX (K : PySem.W.Frag) : ET := ⟨fun _ => 0, clsA nmE K, fldA flE, [], fun _ _ _ _ => False, fun _ _ _ _ _ _ h => h⟩
abbrev eL (P : Program) (w : World) (K : PySem.W.Frag) (mg : Str → Option Value) (base : Heap) : ET := etF (clsA nmE K) (fldA flE) (csOf K tqL).T P w K mg base 1
structure Tx (P : Program) (K : PySem.W.Frag) (mg : Str → Option Value) (base : Heap) : Prop where
  cls : clsE nmE flE K = true
  sys : SysOk K
  nd : ((csOf K tqL).map (·.2.1)).Nodup
  tb : ∀ p ∈ csOf K tqL, LamX.TabB base mg p.1 p.2.1
  m_ResultError : mg "ResultError" = some (.ref (He.ga K "ResultError"))
  m_BadRule : mg "BadRule" = some (.ref (He.ga K "BadRule"))
  m_BadRow : mg "BadRow" = some (.ref (He.ga K "BadRow"))
  m_BadBill : mg "BadBill" = some (.ref (He.ga K "BadBill"))
  m_BadNumber : mg "BadNumber" = some (.ref (He.ga K "BadNumber"))
  m_BadKind : mg "BadKind" = some (.ref (He.ga K "BadKind"))
  m_BadPaper : mg "BadPaper" = some (.ref (He.ga K "BadPaper"))
  m_BadText : mg "BadText" = some (.ref (He.ga K "BadText"))
  m_Nothing : mg "Nothing" = some (.ref (He.ga K "Nothing"))
  x_BadRule : XCls P K mg (etX K) 0 "BadRule"
  x_BadRow : XCls P K mg (etX K) 1 "BadRow"
  x_BadBill : XCls P K mg (etX K) 2 "BadBill"
  x_BadNumber : XCls P K mg (etX K) 3 "BadNumber"
  x_BadKind : XCls P K mg (etX K) 4 "BadKind"
  x_BadPaper : XCls P K mg (etX K) 5 "BadPaper"
  x_BadText : XCls P K mg (etX K) 6 "BadText"
  x_Nothing : XCls P K mg (etX K) 7 "Nothing"
  d__law_begun : DefAt K mg "_law_begun" s__law_begun
  d__law_draw : DefAt K mg "_law_draw" s__law_draw
  d__law_of : DefAt K mg "_law_of" s__law_of
  d__law_made : DefAt K mg "_law_made" s__law_made
  d__law_marks : DefAt K mg "_law_marks" s__law_marks
  d__law_kept : DefAt K mg "_law_kept" s__law_kept
  d_law : DefAt K mg "law" s_law
  g_LookupError : mg "LookupError" = none
  g_ValueError : mg "ValueError" = none
  g_int : mg "int" = none
  g_isinstance : mg "isinstance" = none
  g_len : mg "len" = none
  g_list : mg "list" = none
  g_min : mg "min" = none
  g_range : mg "range" = none
  g_repr : mg "repr" = none
  g_super : mg "super" = none
section
variable {P : Program} {w : World} {K : PySem.W.Frag} {mg : Str → Option Value} {base : Heap} {et : ET}
theorem sc__law_begun : FnScope ["script", "great", "cell"] ["script"] (defScope s__law_begun) := ⟨rfl, rfl, rfl, by decide +kernel, rfl, by decide +kernel, by decide +kernel⟩
theorem fg_begun (T : Tx P K mg base) : ∃ f fd, mg "_law_begun" = some (.ref f) ∧ PySem.W.keepIn K (.ref f) = true ∧ Binds K fd ["script"] [] ∧ FnG P w K mg base 1 f fd ["script"] (spBegun K) := by
  obtain ⟨f, fd, F, hm⟩ := T.d__law_begun
  refine ⟨f, fd, hm, F.kp, F.bindsN (fun _ _ _ _ _ _ us hl => match us, hl with | [_], _ => rfl), fnG_of (k := 0) F sc__law_begun (fun vs H Q E ⟨_, _, h, _⟩ => by rw [h]; rfl) fun cdv A outer s H vs Q E hr hgd hsp => ?_⟩
  obtain ⟨a, ns, rfl, hS, hl, k⟩ := hsp
  refine wss_of (pss_cons (ps_setLc (i := 1) (own := [("cell", 2)]) (g := gName 2) rfl sc__law_begun.nd rfl rfl (sw_true rfl rfl rfl (by decide +kernel)) (pi_list (pv 0)) (blkOk_by (N := ["script", "great", "cell"]) (sc := defScope s__law_begun) (own := [("cell", 2)]) (by decide +kernel))
      (fun _ _ _ _ _ => pg_name (i := 2) sc__law_begun.nd rfl (Or.inl rfl)) (fun _ _ _ _ _ => pts_one (pt_cmpR op_ge (pv 2) (pe_op op_pow pe_int pe_int) (nomark _))) (fun _ _ _ _ _ => pv 2))
    (pss_one (ps_ret (pe_disp (pps_cons pe_str (pe_op op_cat (pe_callTy call_list_of (by rfl) T.g_list (by decide +kernel) (pa_cons (pv 0) pa_nil)) (pe_lst (pa_cons (pe_callB call_len (by rfl) T.g_len (by decide +kernel) (pa_cons (pv 0) pa_nil)) pa_nil)))
      (pps_cons pe_str (pe_ifExp (pt_cmpR (op_neD hr.units) (pv 1) (pe_lst pa_nil) (nomark _)) (pe_ix ix_list (pv 1) pe_int (fun _ _ => rfl)) pe_int) (pps_cons pe_str pe_int pps_nil))) (by rfl) (by rfl) (fun z => by cases z) (by decide)))))
    (begun_read hS hl k)
abbrev n__law_draw : List Str := ["m", "many", "spot", "cell", "mixed", "found"]
theorem sc__law_draw : FnScope n__law_draw ["m", "many"] (defScope s__law_draw) := ⟨rfl, rfl, rfl, by decide +kernel, rfl, by decide +kernel, by decide +kernel⟩
theorem fc__law_draw (T : Tx P K mg base) : FnC P w K mg base (eL P w K mg base) 1 "_law_draw" f__law_draw :=
  fnC_of (N := n__law_draw) (fb := b__law_draw) T.d__law_draw sc__law_draw (fun _ _ _ _ _ _ us hl => match us, hl with | [_, _], _ => rfl)
    fun f cdv A outer s H E C => dss_cons (ds_if (dt_cmp os_gt (de_mget 0 "left" dLeft C hk_left) (de_int)) (dss_cons (ds_set (i := 5) C.nd (de_op os_mod (de_callTy cs_int T.g_int (da_cons (de_mget 0 "left" dLeft C hk_left) (da_nil) (star_ok rfl))) (de_var 1))) (dss_cons (ds_mset 0 "left" (fun s n => { s with left := n }) C hs_left (de_op os_div (de_mget 0 "left" dLeft C hk_left) (de_var 1))) (dss_one (ds_ret (de_var 5))))) (dss_nil)) (dss_cons (ds_set (i := 2) C.nd (de_op os_add (de_mget 0 "spot" dSpot C hk_spot) (de_int))) (dss_cons (ds_mset 0 "spot" (fun s n => { s with spot := n }) C hs_spot (de_var 2)) (dss_cons (ds_set (i := 3) C.nd (de_ix C (de_mget 0 "cells" dCells C hk_cells) (de_op os_mod (de_callTy cs_int T.g_int (da_cons (de_var 2) (da_nil) (star_ok rfl))) (de_callB cs_len T.g_len (da_cons (de_mget 0 "cells" dCells C hk_cells) (da_nil) (star_ok rfl)))))) (dss_cons (ds_set (i := 4) C.nd (de_op os_mul (de_callTy cs_int T.g_int (da_cons (de_op os_add (de_op os_add (de_op os_mod (de_callTy cs_int T.g_int (da_cons (de_var 3) (da_nil) (star_ok rfl))) (de_int)) (de_op os_mul (de_int) (de_var 2))) (de_op os_mul (de_op os_mul (de_int) (de_var 2)) (de_var 2))) (da_nil) (star_ok rfl))) (de_int))) (dss_cons (ds_set (i := 4) C.nd (de_op os_mul (de_callTy cs_int T.g_int (da_cons (de_op os_add (de_op os_mod (de_callTy cs_int T.g_int (da_cons (de_var 4) (da_nil) (star_ok rfl))) (de_int)) (de_op os_mul (de_int) (de_var 2))) (da_nil) (star_ok rfl))) (de_int))) (dss_one (ds_ret (de_op os_mod (de_callTy cs_int T.g_int (da_cons (de_op os_div (de_op os_mod (de_callTy cs_int T.g_int (da_cons (de_var 4) (da_nil) (star_ok rfl))) (de_int)) (de_int)) (da_nil) (star_ok rfl))) (de_var 1)))))))))
abbrev n__law_marks : List Str := ["error", "found"]
theorem sc__law_marks : FnScope n__law_marks ["error"] (defScope s__law_marks) := ⟨rfl, rfl, rfl, by decide +kernel, rfl, by decide +kernel, by decide +kernel⟩
theorem fc__law_marks (T : Tx P K mg base) : FnC P w K mg base (eL P w K mg base) 1 "_law_marks" f__law_marks :=
  fnC_of (N := n__law_marks) (fb := b__law_marks) T.d__law_marks sc__law_marks (fun _ _ _ _ _ _ us hl => match us, hl with | [_], _ => rfl)
    fun f cdv A outer s H E C => dss_cons (ds_set (i := 1) C.nd (de_lst (da_cons (de_isE T.g_isinstance T.m_BadRule (fun _ _ e => clsE_is T.cls (by decide) e) (de_var 0)) (da_cons (de_isE T.g_isinstance T.m_BadRow (fun _ _ e => clsE_is T.cls (by decide) e) (de_var 0)) (da_cons (de_isE T.g_isinstance T.m_BadBill (fun _ _ e => clsE_is T.cls (by decide) e) (de_var 0)) (da_nil) (star_ok rfl)) (star_ok rfl)) (star_ok rfl)))) (dss_cons (ds_set (i := 1) C.nd (de_op os_add (de_var 1) (de_lst (da_cons (de_isE T.g_isinstance T.m_BadNumber (fun _ _ e => clsE_is T.cls (by decide) e) (de_var 0)) (da_cons (de_isE T.g_isinstance T.m_BadKind (fun _ _ e => clsE_is T.cls (by decide) e) (de_var 0)) (da_cons (de_isE T.g_isinstance T.m_BadPaper (fun _ _ e => clsE_is T.cls (by decide) e) (de_var 0)) (da_nil) (star_ok rfl)) (star_ok rfl)) (star_ok rfl))))) (dss_cons (ds_set (i := 1) C.nd (de_op os_add (de_var 1) (de_lst (da_cons (de_isE T.g_isinstance T.m_BadText (fun _ _ e => clsE_is T.cls (by decide) e) (de_var 0)) (da_cons (de_isE T.g_isinstance T.m_Nothing (fun _ _ e => clsE_is T.cls (by decide) e) (de_var 0)) (da_nil) (star_ok rfl)) (star_ok rfl))))) (dss_one (ds_ret (de_op os_add (de_var 1) (de_lst (da_cons (de_isE T.g_isinstance T.m_ResultError (fun _ _ e => clsE_is T.cls (by decide) e) (de_var 0)) (da_cons (de_isB (T := "ValueError") T.g_isinstance T.g_ValueError (fun _ _ e => clsE_isB T.cls (by decide) e) (de_var 0)) (da_cons (de_isB (T := "LookupError") T.g_isinstance T.g_LookupError (fun _ _ e => clsE_isB T.cls (by decide) e) (de_var 0)) (da_nil) (star_ok rfl)) (star_ok rfl)) (star_ok rfl))))))))
abbrev n__law_kept : List Str := ["place", "error"]
theorem sc__law_kept : FnScope n__law_kept ["place", "error"] (defScope s__law_kept) := ⟨rfl, rfl, rfl, by decide +kernel, rfl, by decide +kernel, by decide +kernel⟩
theorem fc__law_kept (T : Tx P K mg base) : FnC P w K mg base (eL P w K mg base) 1 "_law_kept" f__law_kept :=
  fnC_of (N := n__law_kept) (fb := b__law_kept) T.d__law_kept sc__law_kept (fun _ _ _ _ _ _ us hl => match us, hl with | [_, _], _ => rfl)
    fun f cdv A outer s H E C => dss_cons (ds_if (dt_cmp os_lt (de_var 0) (de_int)) (dss_one (ds_ret (de_fldE (fun _ e => clsE_fld T.cls e) (de_var 1)))) (dss_nil)) (dss_cons (ds_if (dt_cmp (os_in rfl C.u100) (de_var 0) (de_tup (da_cons (de_int) (da_cons (de_int) (da_nil) (star_ok rfl)) (star_ok rfl))) (hm := by rfl)) (dss_one (ds_ret (de_fldE (fun _ e => clsE_fld T.cls e) (de_var 1)))) (dss_nil)) (dss_one (ds_ret (de_if (dt_cmp (os_eq C.u64) (de_var 0) (de_int)) (de_fldE (fun _ e => clsE_fld T.cls e) (de_var 1)) (de_fldE (fun _ e => clsE_fld T.cls e) (de_var 1))))))
abbrev n__law_of : List Str := ["m", "some"]
theorem sc__law_of : FnScope n__law_of ["m", "some"] (defScope s__law_of) := ⟨rfl, rfl, rfl, by decide +kernel, rfl, by decide +kernel, by decide +kernel⟩
theorem fc__law_of (T : Tx P K mg base) : FnC P w K mg base (eL P w K mg base) 2 "_law_of" f__law_of :=
  fnC_of (N := n__law_of) (fb := b__law_of) T.d__law_of sc__law_of (fun _ _ _ _ _ _ us hl => match us, hl with | [_, _], _ => rfl)
    fun f cdv A outer s H E C => dss_one (ds_ret (de_ix C (de_var 1) (de_call C (fc__law_draw T) (by decide) (da_cons (de_var 0) (da_cons (de_callB cs_len T.g_len (da_cons (de_var 1) (da_nil) (star_ok rfl))) (da_nil) (star_ok rfl)) (star_ok rfl)))))
abbrev n__law_made : List Str := ["thing", "found"]
theorem sc__law_made : FnScope n__law_made ["thing"] (defScope s__law_made) := ⟨rfl, rfl, rfl, by decide +kernel, rfl, by decide +kernel, by decide +kernel⟩
theorem fc__law_made (T : Tx P K mg base) : FnC P w K mg base (eL P w K mg base) 4 "_law_made" f__law_made :=
  fnC_of (N := n__law_made) (fb := b__law_made) T.d__law_made sc__law_made (fun _ _ _ _ _ _ us hl => match us, hl with | [_], _ => rfl)
    fun f cdv A outer s H E C => dss_cons (ds_set (i := 1) C.nd (de_lst (da_cons (de_tup (da_cons (de_int) (da_cons (de_newX C ((T.x_BadRule).at rfl rfl) T.g_super (de_var 0)) (da_cons (de_newXK C ((T.x_BadRule).at rfl rfl) T.g_super (de_var 0)) (da_nil) (star_ok rfl)) (star_ok rfl)) (star_ok rfl))) (da_cons (de_tup (da_cons (de_int) (da_cons (de_newX C ((T.x_BadRow).at rfl rfl) T.g_super (de_var 0)) (da_cons (de_newXK C ((T.x_BadRow).at rfl rfl) T.g_super (de_var 0)) (da_nil) (star_ok rfl)) (star_ok rfl)) (star_ok rfl))) (da_nil) (star_ok rfl)) (star_ok rfl)))) (dss_cons (ds_set (i := 1) C.nd (de_op os_add (de_var 1) (de_lst (da_cons (de_tup (da_cons (de_int) (da_cons (de_newX C ((T.x_BadBill).at rfl rfl) T.g_super (de_var 0)) (da_cons (de_newXK C ((T.x_BadBill).at rfl rfl) T.g_super (de_var 0)) (da_nil) (star_ok rfl)) (star_ok rfl)) (star_ok rfl))) (da_cons (de_tup (da_cons (de_int) (da_cons (de_newX C ((T.x_BadNumber).at rfl rfl) T.g_super (de_var 0)) (da_cons (de_newXK C ((T.x_BadNumber).at rfl rfl) T.g_super (de_var 0)) (da_nil) (star_ok rfl)) (star_ok rfl)) (star_ok rfl))) (da_nil) (star_ok rfl)) (star_ok rfl))))) (dss_cons (ds_set (i := 1) C.nd (de_op os_add (de_var 1) (de_lst (da_cons (de_tup (da_cons (de_int) (da_cons (de_newX C ((T.x_BadKind).at rfl rfl) T.g_super (de_var 0)) (da_cons (de_newXK C ((T.x_BadKind).at rfl rfl) T.g_super (de_var 0)) (da_nil) (star_ok rfl)) (star_ok rfl)) (star_ok rfl))) (da_cons (de_tup (da_cons (de_int) (da_cons (de_newX C ((T.x_BadPaper).at rfl rfl) T.g_super (de_var 0)) (da_cons (de_newXK C ((T.x_BadPaper).at rfl rfl) T.g_super (de_var 0)) (da_nil) (star_ok rfl)) (star_ok rfl)) (star_ok rfl))) (da_nil) (star_ok rfl)) (star_ok rfl))))) (dss_one (ds_ret (de_op os_add (de_var 1) (de_lst (da_cons (de_tup (da_cons (de_int) (da_cons (de_newX C ((T.x_BadText).at rfl rfl) T.g_super (de_var 0)) (da_cons (de_newXK C ((T.x_BadText).at rfl rfl) T.g_super (de_var 0)) (da_nil) (star_ok rfl)) (star_ok rfl)) (star_ok rfl))) (da_cons (de_tup (da_cons (de_int) (da_cons (de_newX C ((T.x_Nothing).at rfl rfl) T.g_super (de_var 0)) (da_cons (de_newXK C ((T.x_Nothing).at rfl rfl) T.g_super (de_var 0)) (da_nil) (star_ok rfl)) (star_ok rfl)) (star_ok rfl))) (da_nil) (star_ok rfl)) (star_ok rfl))))))))
abbrev n_law : List Str := ["script", "m", "things", "lap", "base", "thing", "place", "one", "other", "due", "error", "spot"]
theorem sc_law : FnScope n_law ["script"] (defScope s_law) := ⟨rfl, rfl, rfl, by decide +kernel, rfl, by decide +kernel, by decide +kernel⟩
theorem fd_law (T : Tx P K mg base) {f : Addr} {cdv : Value} {A : Around} {outer : List Env} {s : Shared} {H : Hp} {E : XK} (C : Here (cxOf (L2.CX P w) P w K mg base n_law "law" (defScope s_law) f cdv A outer s H E) 4 (fun cls d _ H => E cls d H)) :
    DSs (cxOf (L2.CX P w) P w K mg base n_law "law" (defScope s_law) f cdv A outer s H E) (eL P w K mg base) (fun cls d _ H => E cls d H) (defBody s_law).tail b_law :=
  dss_cons (ds_set (i := 2) C.nd (de_lst (da_cons (de_non) (da_cons (de_int) (da_cons (de_bl) (da_cons (de_neg (de_int)) (da_cons (de_op os_pow (de_int) (de_int)) (da_cons (de_str) (da_cons (de_str) (da_cons (de_str) (da_cons (de_tup (da_nil)) (da_cons (de_tup (da_cons (de_int) (da_cons (de_str) (da_nil) (star_ok rfl)) (star_ok rfl))) (da_cons (de_tup (da_cons (de_tup (da_nil)) (da_nil) (star_ok rfl))) (da_cons (de_lst (da_cons (de_int) (da_cons (de_lst (da_cons (de_int) (da_nil) (star_ok rfl))) (da_nil) (star_ok rfl)) (star_ok rfl))) (da_cons (de_dict0) (da_cons (de_dict1) (da_nil) (star_ok rfl)) (star_ok rfl)) (star_ok rfl)) (star_ok rfl)) (star_ok rfl)) (star_ok rfl)) (star_ok rfl)) (star_ok rfl)) (star_ok rfl)) (star_ok rfl)) (star_ok rfl)) (star_ok rfl)) (star_ok rfl)) (star_ok rfl)))) (dss_cons (ds_for (is := [3]) C (di_range1 T.g_range (da_cons (de_op os_add (de_int) (de_callB (cs_min rfl C.u100) T.g_min (da_cons (de_callB cs_len T.g_len (da_cons (de_var 0) (da_nil) (star_ok rfl))) (da_cons (de_int) (da_nil) (star_ok rfl)) (star_ok rfl)))) (da_nil) (star_ok rfl))) (dg_name (i := 3) C.nd) (dss_cons (ds_set (i := 5) C.nd (de_if (dt_cmp os_lt (de_var 3) (de_int)) (de_ix C (de_var 2) (de_var 3)) (de_call C (fc__law_of T) (by decide) (da_cons (de_var 1) (da_cons (de_var 2) (da_nil) (star_ok rfl)) (star_ok rfl))))) (dss_one (ds_for (is := [6, 7, 8]) C (di_seq (de_call C (fc__law_made T) (by decide) (da_cons (de_var 5) (da_nil) (star_ok rfl)))) (dg_tup (dgs_cons (dg_name (i := 6) C.nd) (dgs_cons (dg_name (i := 7) C.nd) (dgs_cons (dg_name (i := 8) C.nd) (dgs_nil))))) (dss_cons (ds_set (i := 9) C.nd (de_op os_add (de_lc (own := [("spot", 11)]) (is := [11]) C (blkOk_by (N := n_law) (sc := defScope s_law) (own := [("spot", 11)]) (by decide +kernel)) (di_range1 T.g_range (da_cons (de_int) (da_nil) (star_ok rfl))) ⟨fun _ _ _ _ _ => dg_name (i := 11) (C.blk _ _ _ _ _).nd, fun _ _ _ _ _ => dts_nil, fun _ _ _ _ _ => de_cmp (os_eq (C.blk _ _ _ _ _).u64) (de_var 11) (de_var 6)⟩) (de_lst (da_cons (de_cmp os_lt (de_var 6) (de_int)) (da_cons (de_cmp os_lt (de_var 6) (de_int)) (da_cons (de_cmp (os_eq C.u64) (de_var 6) (de_int)) (da_nil) (star_ok rfl)) (star_ok rfl)) (star_ok rfl))))) (dss_one (ds_for (is := [10]) C (di_seq (de_tup (da_cons (de_var 7) (da_cons (de_var 8) (da_nil) (star_ok rfl)) (star_ok rfl)))) (dg_name (i := 10) C.nd) (dss_one (ds_if ((DW.dt (dw_or (dt_cmp (os_ne C.u64) (de_call C (fc__law_marks T) (by decide) (da_cons (de_var 10) (da_nil) (star_ok rfl))) (de_var 9)) (dw_or1 (dt_cmp (os_ne C.u64) (de_callB (cs_repr T.sys C.hg C.u100) T.g_repr (da_cons (de_call C (fc__law_kept T) (by decide) (da_cons (de_var 6) (da_cons (de_var 10) (da_nil) (star_ok rfl)) (star_ok rfl))) (da_nil) (star_ok rfl))) (de_callB (cs_repr T.sys C.hg C.u100) T.g_repr (da_cons (de_var 5) (da_nil) (star_ok rfl)))))))) (dss_one (ds_ret (de_bl))) (dss_nil)))))))))) (dss_cons (ds_set (i := 4) C.nd (de_new0 (clsE_new T.cls).1 (clsE_new T.cls).2 T.m_ResultError (de_str))) (dss_one (ds_ret (de_cmp (os_eq C.u64) (de_call C (fc__law_marks T) (by decide) (da_cons (de_var 4) (da_nil) (star_ok rfl))) (de_op os_add (de_op os_mul (de_lst (da_cons (de_bl) (da_nil) (star_ok rfl))) (de_int)) (de_lst (da_cons (de_bl) (da_cons (de_bl) (da_cons (de_bl) (da_nil) (star_ok rfl)) (star_ok rfl)) (star_ok rfl)))))))))
theorem fg_law (T : Tx P K mg base) {f : Addr} {fd : FuncData} (F : FunD K "law" "law" (defArgs s_law) (defBody s_law) (defScope s_law) [] [] f fd) : FnG P w K mg base 5 f fd ["script"] (spLaw K (csOf K tqL).T) :=
  law_of (et := (eL P w K mg base)) (N := n_law) (fb := b_law) 1 (by decide) (by decide) F sc_law law_pure fun cdv A outer s H E C => by
    obtain ⟨fB, fdB, hmB, kp, hb, G⟩ := fg_begun (P := P) (w := w) (base := base) T
    exact ⟨_, (defBody s_law).tail, rfl, ps_set (i := 1) C.nd rfl (by first | exact Or.inl rfl | exact Or.inr rfl) (pe_callG C G (by decide) hmB kp hb (pa_cons (pv 0) pa_nil)), fd_law T C⟩
end
end DL
set_option Elab.async false
set_option linter.all false
set_option maxRecDepth 100000
set_option maxHeartbeats 4000000
set_option autoImplicit false
namespace DL
open PySem PySem.Spec L2
open PyProof.Rows hiding St
theorem factsL {K : PySem.W.Frag} {h base : Heap} {mg : Str → Option Value} (X : K.In h) (G : h.Ns mainGlobals mg) (z : SaysZ faL fnL (tqL.map (·.1)) inL exL h K) (tb : ∀ p ∈ csOf K tqL, LamX.TabB base mg p.1 p.2.1) : Tx PySem.Challenge.pw_bestoflast_k01_errors K mg base := by
  have c := z.d
  have zm := z.more
  unfold exL at zm
  rw [Bool.and_eq_true, Bool.and_eq_true, Bool.and_eq_true, Bool.and_eq_true] at zm
  obtain ⟨z1, z2, zs, z3, z4⟩ := zm
  exact {
    cls := z2, sys := sysB_ok zs, nd := of_decide_eq_true z3, tb := tb
    m_ResultError := He.glo_ok X G (c.fact 7 (f := .glo "ResultError") rfl)
    m_BadRule := He.glo_ok X G (c.fact 8 (f := .glo "BadRule") rfl)
    m_BadRow := He.glo_ok X G (c.fact 9 (f := .glo "BadRow") rfl)
    m_BadBill := He.glo_ok X G (c.fact 10 (f := .glo "BadBill") rfl)
    m_BadNumber := He.glo_ok X G (c.fact 11 (f := .glo "BadNumber") rfl)
    m_BadKind := He.glo_ok X G (c.fact 12 (f := .glo "BadKind") rfl)
    m_BadPaper := He.glo_ok X G (c.fact 13 (f := .glo "BadPaper") rfl)
    m_BadText := He.glo_ok X G (c.fact 14 (f := .glo "BadText") rfl)
    m_Nothing := He.glo_ok X G (c.fact 15 (f := .glo "Nothing") rfl)
    x_BadRule := IniD.xcls (d := i_BadRule) X G it_BadRule (z.ini_ 0 rfl) (List.all_eq_true.mp z1 _ (List.mem_of_getElem? (i := 0) rfl)) rfl rfl
    x_BadRow := IniD.xcls (d := i_BadRow) X G it_BadRow (z.ini_ 1 rfl) (List.all_eq_true.mp z1 _ (List.mem_of_getElem? (i := 1) rfl)) rfl rfl
    x_BadBill := IniD.xcls (d := i_BadBill) X G it_BadBill (z.ini_ 2 rfl) (List.all_eq_true.mp z1 _ (List.mem_of_getElem? (i := 2) rfl)) rfl rfl
    x_BadNumber := IniD.xcls (d := i_BadNumber) X G it_BadNumber (z.ini_ 3 rfl) (List.all_eq_true.mp z1 _ (List.mem_of_getElem? (i := 3) rfl)) rfl rfl
    x_BadKind := IniD.xcls (d := i_BadKind) X G it_BadKind (z.ini_ 4 rfl) (List.all_eq_true.mp z1 _ (List.mem_of_getElem? (i := 4) rfl)) rfl rfl
    x_BadPaper := IniD.xcls (d := i_BadPaper) X G it_BadPaper (z.ini_ 5 rfl) (List.all_eq_true.mp z1 _ (List.mem_of_getElem? (i := 5) rfl)) rfl rfl
    x_BadText := IniD.xcls (d := i_BadText) X G it_BadText (z.ini_ 6 rfl) (List.all_eq_true.mp z1 _ (List.mem_of_getElem? (i := 6) rfl)) rfl rfl
    x_Nothing := IniD.xcls (d := i_Nothing) X G it_Nothing (z.ini_ 7 rfl) (List.all_eq_true.mp z1 _ (List.mem_of_getElem? (i := 7) rfl)) rfl rfl
    d__law_begun := by obtain ⟨fd, F⟩ := c.def_ 0 (d := mkD "_law_begun" s__law_begun) rfl; exact ⟨_, fd, F, He.glo_ok X G (c.fact 0 (f := .glo "_law_begun") rfl)⟩
    d__law_draw := by obtain ⟨fd, F⟩ := c.def_ 1 (d := mkD "_law_draw" s__law_draw) rfl; exact ⟨_, fd, F, He.glo_ok X G (c.fact 1 (f := .glo "_law_draw") rfl)⟩
    d__law_of := by obtain ⟨fd, F⟩ := c.def_ 2 (d := mkD "_law_of" s__law_of) rfl; exact ⟨_, fd, F, He.glo_ok X G (c.fact 2 (f := .glo "_law_of") rfl)⟩
    d__law_made := by obtain ⟨fd, F⟩ := c.def_ 3 (d := mkD "_law_made" s__law_made) rfl; exact ⟨_, fd, F, He.glo_ok X G (c.fact 3 (f := .glo "_law_made") rfl)⟩
    d__law_marks := by obtain ⟨fd, F⟩ := c.def_ 4 (d := mkD "_law_marks" s__law_marks) rfl; exact ⟨_, fd, F, He.glo_ok X G (c.fact 4 (f := .glo "_law_marks") rfl)⟩
    d__law_kept := by obtain ⟨fd, F⟩ := c.def_ 5 (d := mkD "_law_kept" s__law_kept) rfl; exact ⟨_, fd, F, He.glo_ok X G (c.fact 5 (f := .glo "_law_kept") rfl)⟩
    d_law := by obtain ⟨fd, F⟩ := c.def_ 6 (d := mkD "law" s_law) rfl; exact ⟨_, fd, F, He.glo_ok X G (c.fact 6 (f := .glo "law") rfl)⟩
    g_LookupError := He.free_ok X G (c.fact 16 (f := .free "LookupError") rfl)
    g_ValueError := He.free_ok X G (c.fact 17 (f := .free "ValueError") rfl)
    g_int := He.free_ok X G (c.fact 18 (f := .free "int") rfl)
    g_isinstance := He.free_ok X G (c.fact 19 (f := .free "isinstance") rfl)
    g_len := He.free_ok X G (c.fact 20 (f := .free "len") rfl)
    g_list := He.free_ok X G (c.fact 21 (f := .free "list") rfl)
    g_min := He.free_ok X G (c.fact 22 (f := .free "min") rfl)
    g_range := He.free_ok X G (c.fact 23 (f := .free "range") rfl)
    g_repr := He.free_ok X G (c.fact 24 (f := .free "repr") rfl)
    g_super := He.free_ok X G (c.fact 25 (f := .free "super") rfl) }
end DL
open PySem PySem.W PySem.Calls PyProof.Rows
set_option maxHeartbeats 0 in
theorem PySem.Challenge.cw_bestoflast_k01_errors_holds : PySem.Challenge.rw_bestoflast_k01_errors.Holds := by
  w_on; o_law
  refine HandSHeadRun.head_any (r := OpenLaw.row PySem.Challenge.rw_bestoflast_k01_errors) (q := view (OpenLaw.row PySem.Challenge.rw_bestoflast_k01_errors).prog [17]) (H := DL.hkL) (ob := DL.obL) (M := 3000) (loose := DL.namesL) (d := HandSHeadRun.topDef (OpenLaw.row PySem.Challenge.rw_bestoflast_k01_errors).prog 17) (kwd := []) DL.obL_eq
    (by kernel_rfl) (fun s => by kernel_rfl) DL.runL (by kernel_rfl) (by kernel_rfl) (by kernel_rfl) (by rfl) (by first | assumption | decide +kernel) (by decide +kernel) ⟨rfl, rfl, rfl, rfl, rfl, by decide +kernel⟩ ?hw ?hc
  case hw => w_witness2
  case hc =>
    refine DL.dl_walkT (l := PySem.Challenge.rw_bestoflast_k01_errors) (k := 5) (x := "script") rfl (by kernel_rfl) ⟨rfl, by decide, by decide⟩ ?F
    intro w mg mb fa h lo mean Y G hmg0
    obtain ⟨K, KX, c⟩ := Y
    have hmg : mg ("law" : PySem.Str) = some (.ref fa) := by
      have e : (HandSHeadRun.topDef (OpenLaw.row PySem.Challenge.rw_bestoflast_k01_errors).prog 17).name = ("law" : PySem.Str) := by kernel_rfl
      rw [← e]
      exact hmg0
    have D : DL.DefAt K mg "law" DL.s_law := by
      obtain ⟨fd, F⟩ := c.d.def_ 6 (d := DL.mkD "law" DL.s_law) rfl
      exact ⟨_, fd, F, He.glo_ok KX G.g (c.d.fact 6 (f := .glo "law") rfl)⟩
    obtain ⟨f, fd, F, hf⟩ := D
    rw [hmg] at hf
    cases hf
    have b := L2.FunD.bindsA (ps := ["script"]) F fun _ _ _ _ _ _ us hl => match us, hl with | [_], _ => rfl
    exact ⟨K, fd, DL.csOf K DL.tqL, KX, c.tabF KX, fun s v => b s [v] rfl, fun base _ _ tb => DL.fg_law (DL.factsL KX G.g c tb) F⟩
