import PyProof.Rows.All
import HandS.HeadHook4
import Wide.All
import OpenK.AllK
import Wide.FinOn
import PyProof.NeKinds
import KE.KStateDown
import HandS.ForMost
import HandS.ForExc
import HandS.Flow
import HandS.IsInst
import HandS.SortInts
import HandS.Zip
import HandS.TupLe
import HandS.TupAny
import HandS.TupMul
import HandS.CallSlots
import HandS.Wide
import HandS.Lambda
import HandS.ExcInit
import HandS.ExcIs
import HandS.ExcField
import HandS.ExcValue
import HandS.TryMany
import KE.KDictKeyed
import KE.KeyNested
import KE.DataMinMax
import KE.SortData
import KE.KDictCopyH
import HandS.TupLen
import HandS.DictSubView
import HandS.DictComp
import KE.KTupSum
import HandS.Style
import HandS.Defaults
import KE.GoesEnum
import HandS.Ends
import HandS.HeadEnd
import HandS.Head2
import HandS.HeadHook2
import HandS.SetFor
import HandS.Strs
import HandS.Nested
import KE.KExcSuper
import HandS.ExcBuiltin
import KE.KExcIs
import KE.KTryMore
import KE.KDictWalk
import HandS.Deep
import KE.KDictZip
import HandS.Star
import HandS.MakeKw
import KE.KEqDict
import HandS.Text
import HandS.RaiseMore
import HandS.Iter
import PyProof.StrOps2
import HandS.Property
import KE.KCallOwn
import HandS.MakeKwOnly
import HandS.Conv
import PySem.Challenge.RW_bestoflast_k17_files_refused
set_option Elab.async false
set_option linter.all false
set_option maxRecDepth 100000
set_option maxHeartbeats 4000000
set_option autoImplicit false
namespace DL
open PySem PySem.Spec L2
open PyProof.Rows hiding St
inductive Rs (S α : Type) where
  | ok (a : α) (s : S)
  | ex (c : Nat) (p : PyData) (s : S)
  | no
def Rs.bind {S α β : Type} (x : Rs S α) (f : α → S → Rs S β) : Rs S β :=
  match x with
  | .ok a s => f a s
  | .ex c p s => .ex c p s
  | .no => .no
@[simp] theorem Rs.bind_ok {S α β : Type} (a : α) (s : S) (f : α → S → Rs S β) : (Rs.ok a s).bind f = f a s := rfl
@[simp] theorem Rs.bind_ex {S α β : Type} (c : Nat) (p : PyData) (s : S) (f : α → S → Rs S β) : (Rs.ex c p s : Rs S α).bind f = .ex c p s := rfl
@[simp] theorem Rs.bind_no {S α β : Type} (f : α → S → Rs S β) : (Rs.no : Rs S α).bind f = .no := rfl
def Rs.of {S α : Type} (o : Option α) (s : S) : Rs S α := match o with | some a => .ok a s | none => .no
@[simp] theorem Rs.of_some {S α : Type} (a : α) (s : S) : Rs.of (some a) s = .ok a s := rfl
@[simp] theorem Rs.of_none {S α : Type} (s : S) : (Rs.of none s : Rs S α) = .no := rfl
/-- the draws' state; two: the dict of the second half's laws -/
structure MS where
  cells : List Int
  left : Int
  spot : Int
  seed : Int
  two : Bool
  files : List (PyData × PyData) := []
/-- what a slot holds: data, a list that is being made, the draw's dict, the script, a lambda without arguments, an error held as a value, a dict that is being made -/
inductive DV where
  | pu (d : PyData)
  | own (xs : List PyData)
  | m
  | scr (ns : List Int)
  | clo (G : MS → Rs MS PyData)
  | exc (c : Nat) (p : PyData)
  | dic (kvs : List (PyData × PyData))
  | dki (kvs : List (Int × Int))
/-- what is being made by hand: a list, a dict -/
def isOwnV : DV → Bool
  | .own _ => true
  | .dic _ => true
  | .dki _ => true
  | _ => false
structure Sg where
  r : List (Option DV)
  s : MS
def Ext (B F F' : Hp) : Prop := Same F F' ∧ ∀ a o, F' a = some o → F a = none → B a = none
theorem Same.rfl' {F : Hp} : Same F F := fun _ _ e => e
theorem Same.tr {F G H : Hp} (a : Same F G) (b : Same G H) : Same F H := fun _ _ e => b _ _ (a _ _ e)
theorem Ext.refl {B F : Hp} : Ext B F F := ⟨fun _ _ e => e, fun a o e n => by rw [n] at e; cases e⟩
theorem Ext.trans {B F G H : Hp} (a : Ext B F G) (b : Ext B G H) : Ext B F H :=
  ⟨Same.tr a.1 b.1, fun x o e n => by
    cases q : G x with
    | none => exact b.2 x o e q
    | some u => exact a.2 x u q n⟩
theorem Rd.mono {F H : Hp} {a : Addr} {u : HO} (s : Same F H) (h : Rd F a u) : Rd H a u := by
  rcases h with h | ⟨o, h⟩
  · exact .inl (s _ _ h)
  · exact .inr ⟨o, s _ _ h⟩
theorem SqL.mono {K : PySem.W.Frag} {F H : Hp} {a : Addr} {xs : List V} (s : Same F H) (h : SqL K F a xs) : SqL K H a xs := by
  rcases h with h | h
  · exact .inl (Rd.mono s h)
  · exact .inr h
theorem SqT.mono {K : PySem.W.Frag} {F H : Hp} {a : Addr} {xs : List V} (s : Same F H) (h : SqT K F a xs) : SqT K H a xs := by
  rcases h with h | h
  · exact .inl (Rd.mono s h)
  · exact .inr h
mutual
/-- the key that a datum is -/
def keyN : PyData → Option NestedKey
  | .none => some .none
  | .bool b => some (.num (if b = true then 1 else 0))
  | .int i => some (.num i)
  | .str x => some (.text x)
  | .tuple ds => (keysN ds).map .tup
  | _ => none
def keysN : List PyData → Option (List NestedKey)
  | [] => some []
  | d :: ds => match keyN d, keysN ds with
    | some k, some ks => some (k :: ks)
    | _, _ => none
end
/-- at a stands a dict with these entries: key, where its tuple stands, value -/
def NDo (hs : NestedKey → Int) (a : Addr) (es : List (NestedKey × Addr × V)) : HO := .ext fun h =>
  es.length ≤ sizeLine ∧ (a == sysModules) = false ∧ (es.map (·.1)).Nodup ∧ ∃ (ys : List (NestedKey × Addr × Value)) (o : Obj) (ds : Array DictEntry) (ep : Nat),
    Paired (fun (p : NestedKey × Addr × V) (q : NestedKey × Addr × Value) => p.1 = q.1 ∧ p.2.1 = q.2.1 ∧ RelV p.2.2 q.2.2) es ys ∧
    h.get? a = some o ∧ o.ExactDict ∧ o.data = .dict ds ep ∧ ds.toList = ys.map fun x => ⟨hs x.1, .ref x.2.1, x.2.2⟩
/-- which class and field an error's number stands for; the tables of code objects; what a lambda's value keeps -/
structure ET where
  hs : NestedKey → Int
  cls : Nat → Addr
  fld : Nat → Str
  T : List (Addr × Str)
  Φ : (MS → Rs MS PyData) → Addr → Hp → V → Prop
  mono : ∀ G am F F' v, Same F F' → Φ G am F v → Φ G am F' v
/-- an error held as a value: the object at e, of the class C, with its dict at d -/
def XO (e C d : Addr) : HO := .ext fun h => ∃ (oe : Obj) (vs : Array Value), h.get? e = some oe ∧ oe.cls = .ref C ∧ oe.dict = some d ∧ oe.data = .fields vs
/-- an own error as a datum: its class's number, what it keeps -/
@[irreducible] def xMark : Int := 2 ^ 2000
theorem xMark_no : (decide (xMark.natAbs.log2 < 1920)) = false := by unfold xMark; decide +kernel
/-- the instance of File with its dict at dx, the i-th file -/
def LkO (K : PySem.W.Frag) (dx : Addr) (i : Nat) : HO := .frz (PySem.W.instObj (He.ga K "File") dx) (.own i)
/-- a file as a datum -/
def fileD (i : Nat) : PyData := .dict [(.int xMark, .bool true), (.int xMark, .int (i : Nat))]
section
variable {et : ET}
mutual
/-- a value stands for a datum in the frozen part F -/
inductive Dn (K : PySem.W.Frag) (et : ET) (F : Hp) : V → PyData → Prop
  | non : Dn K et F .non .none
  | bl (b : Bool) : Dn K et F (.bl b) (.bool b)
  | int (i : Int) : Dn K et F (.int i) (.int i)
  | str (x : Str) : Dn K et F (.str x) (.str x)
  | lst {a : Addr} {xs : List V} {ds : List PyData} : F a = some (.lst xs) → DnAll K et F xs ds → Dn K et F (.ref a) (.list ds)
  | tup {a : Addr} {xs : List V} {ds : List PyData} : SqT K F a xs → DnAll K et F xs ds → Dn K et F (.ref a) (.tuple ds)
  | dcx {a : Addr} {o : Obj} {es : List (NestedKey × Addr × V)} {kvs : List (PyData × PyData)} : F a = some (.frz o (NDo et.hs a es)) → DnKv K et F es kvs → Dn K et F (.ref a) (.dict kvs)
  | dck {a : Addr} {o : Obj} {es : List (Key × V)} {kvs : List (PyData × PyData)} : kvs ≠ [] → F a = some (.frz o (.dK es)) → DnKk K et F es kvs → Dn K et F (.ref a) (.dict kvs)
  | err {e d : Addr} {c : Nat} {u : V} {p : PyData} : F e = some (XO e (et.cls c) d) → F d = some (.xd [(et.fld c, u)]) → Dn K et F u p → Dn K et F (.ref e) (.dict [(.int xMark, .int c), (.int xMark, p)])
  | er0 {e : Addr} {c : Nat} : F e = some (ExO (.ref (et.cls c)) e) → Dn K et F (.ref e) (.dict [(.int xMark, .int c)])
  | fil {a dx : Addr} {i : Nat} : F a = some (LkO K dx i) → Dn K et F (.ref a) (.dict [(.int xMark, .bool true), (.int xMark, .int (i : Nat))])
inductive DnAll (K : PySem.W.Frag) (et : ET) (F : Hp) : List V → List PyData → Prop
  | nil : DnAll K et F [] []
  | cons {v : V} {vs : List V} {d : PyData} {ds : List PyData} : Dn K et F v d → DnAll K et F vs ds → DnAll K et F (v :: vs) (d :: ds)
/-- entries with tuples as keys -/
inductive DnKv (K : PySem.W.Frag) (et : ET) (F : Hp) : List (NestedKey × Addr × V) → List (PyData × PyData) → Prop
  | nil : DnKv K et F [] []
  | cons {n : NestedKey} {b : Addr} {v : V} {k d : PyData} {es : List (NestedKey × Addr × V)} {kvs : List (PyData × PyData)} : keyN k = some n → n.depth ≤ 8 → Dn K et F (.ref b) k → Dn K et F v d → DnKv K et F es kvs → DnKv K et F ((n, b, v) :: es) ((k, d) :: kvs)
/-- entries with ints and texts as keys -/
inductive DnKk (K : PySem.W.Frag) (et : ET) (F : Hp) : List (Key × V) → List (PyData × PyData) → Prop
  | nil : DnKk K et F [] []
  | int {i : Int} {v : V} {d : PyData} {es : List (Key × V)} {kvs : List (PyData × PyData)} : i ≠ xMark → Dn K et F v d → DnKk K et F es kvs → DnKk K et F ((.inl i, v) :: es) ((.int i, d) :: kvs)
  | str {x : Str} {v : V} {d : PyData} {es : List (Key × V)} {kvs : List (PyData × PyData)} : Dn K et F v d → DnKk K et F es kvs → DnKk K et F ((.inr x, v) :: es) ((.str x, d) :: kvs)
end
mutual
theorem Dn.mono {K : PySem.W.Frag} {F H : Hp} (s : Same F H) : ∀ {v : V} {d : PyData}, Dn K et F v d → Dn K et H v d
  | _, _, .non => .non
  | _, _, .bl b => .bl b
  | _, _, .int i => .int i
  | _, _, .str x => .str x
  | _, _, .lst a b => .lst (s _ _ a) (DnAll.mono s b)
  | _, _, .tup a b => .tup (SqT.mono s a) (DnAll.mono s b)
  | _, _, .dcx a b => .dcx (s _ _ a) (DnKv.mono s b)
  | _, _, .dck n a b => .dck n (s _ _ a) (DnKk.mono s b)
  | _, _, .err a b c => .err (s _ _ a) (s _ _ b) (Dn.mono s c)
  | _, _, .er0 a => .er0 (s _ _ a)
  | _, _, .fil a => .fil (s _ _ a)
theorem DnAll.mono {K : PySem.W.Frag} {F H : Hp} (s : Same F H) : ∀ {vs : List V} {ds : List PyData}, DnAll K et F vs ds → DnAll K et H vs ds
  | _, _, .nil => .nil
  | _, _, .cons a b => .cons (Dn.mono s a) (DnAll.mono s b)
theorem DnKv.mono {K : PySem.W.Frag} {F H : Hp} (s : Same F H) : ∀ {es : List (NestedKey × Addr × V)} {kvs : List (PyData × PyData)}, DnKv K et F es kvs → DnKv K et H es kvs
  | _, _, .nil => .nil
  | _, _, .cons a a2 b c r => .cons a a2 (Dn.mono s b) (Dn.mono s c) (DnKv.mono s r)
theorem DnKk.mono {K : PySem.W.Frag} {F H : Hp} (s : Same F H) : ∀ {es : List (Key × V)} {kvs : List (PyData × PyData)}, DnKk K et F es kvs → DnKk K et H es kvs
  | _, _, .nil => .nil
  | _, _, .int n c r => .int n (Dn.mono s c) (DnKk.mono s r)
  | _, _, .str c r => .str (Dn.mono s c) (DnKk.mono s r)
end
mutual
/-- of the class table only the hash matters here -/
theorem Dn.etc {K : PySem.W.Frag} {F : Hp} {et et' : ET} (q : et.hs = et'.hs ∧ et.cls = et'.cls ∧ et.fld = et'.fld) : ∀ {v : V} {d : PyData}, Dn K et F v d → Dn K et' F v d
  | _, _, .non => .non
  | _, _, .bl b => .bl b
  | _, _, .int i => .int i
  | _, _, .str x => .str x
  | _, _, .lst a b => .lst a (DnAll.etc q b)
  | _, _, .tup a b => .tup a (DnAll.etc q b)
  | _, _, .dcx a b => .dcx (by rw [← q.1]; exact a) (DnKv.etc q b)
  | _, _, .dck n a b => .dck n a (DnKk.etc q b)
  | _, _, .err a b c => .err (by rw [← q.2.1]; exact a) (by rw [← q.2.2]; exact b) (Dn.etc q c)
  | _, _, .er0 a => .er0 (by rw [← q.2.1]; exact a)
  | _, _, .fil a => .fil a
theorem DnAll.etc {K : PySem.W.Frag} {F : Hp} {et et' : ET} (q : et.hs = et'.hs ∧ et.cls = et'.cls ∧ et.fld = et'.fld) : ∀ {vs : List V} {ds : List PyData}, DnAll K et F vs ds → DnAll K et' F vs ds
  | _, _, .nil => .nil
  | _, _, .cons a b => .cons (Dn.etc q a) (DnAll.etc q b)
theorem DnKv.etc {K : PySem.W.Frag} {F : Hp} {et et' : ET} (q : et.hs = et'.hs ∧ et.cls = et'.cls ∧ et.fld = et'.fld) : ∀ {es : List (NestedKey × Addr × V)} {kvs : List (PyData × PyData)}, DnKv K et F es kvs → DnKv K et' F es kvs
  | _, _, .nil => .nil
  | _, _, .cons a a2 b c r => .cons a a2 (Dn.etc q b) (Dn.etc q c) (DnKv.etc q r)
theorem DnKk.etc {K : PySem.W.Frag} {F : Hp} {et et' : ET} (q : et.hs = et'.hs ∧ et.cls = et'.cls ∧ et.fld = et'.fld) : ∀ {es : List (Key × V)} {kvs : List (PyData × PyData)}, DnKk K et F es kvs → DnKk K et' F es kvs
  | _, _, .nil => .nil
  | _, _, .int n c r => .int n (Dn.etc q c) (DnKk.etc q r)
  | _, _, .str c r => .str (Dn.etc q c) (DnKk.etc q r)
end
theorem Dn.up {K : PySem.W.Frag} {F H : Hp} {v : V} {d : PyData} (h : Dn K et F v d) (s : Same F H) : Dn K et H v d := Dn.mono s h
theorem DnAll.up {K : PySem.W.Frag} {F H : Hp} {v : List V} {d : List PyData} (h : DnAll K et F v d) (s : Same F H) : DnAll K et H v d := DnAll.mono s h
mutual
theorem Dn.dp {K : PySem.W.Frag} {F : Hp} : ∀ (d : PyData) (v : V), Dn K et F v d → d.canLay0 = true → Dp K F v d
  | .none, _, h, _ => by cases h; exact .non
  | .bool b, _, h, _ => by cases h; exact .bl b
  | .int i, _, h, _ => by cases h; exact .int i
  | .str x, _, h, _ => by cases h; exact .str x
  | .list ds, _, h, l => by cases h with | lst a b => exact .lst (SqL.of a) (DnAll.dp ds _ b (by unfold PyData.canLay0 at l; exact l))
  | .tuple ds, _, h, l => by cases h with | tup a b => exact .tup a (DnAll.dp ds _ b (by unfold PyData.canLay0 at l; exact l))
  | .dict _, _, _, l => by unfold PyData.canLay0 at l; cases l
theorem DnAll.dp {K : PySem.W.Frag} {F : Hp} : ∀ (ds : List PyData) (vs : List V), DnAll K et F vs ds → PyData.canLayAll0 ds = true → DpAll K F vs ds
  | [], _, h, _ => by cases h; exact .nil
  | d :: ds, _, h, l => by
    unfold PyData.canLayAll0 at l
    rw [Bool.and_eq_true] at l
    cases h with | cons a b => exact .cons (Dn.dp d _ a l.1) (DnAll.dp ds _ b l.2)
end
theorem DnAll.length {K : PySem.W.Frag} {F : Hp} : ∀ {vs : List V} {ds : List PyData}, DnAll K et F vs ds → vs.length = ds.length
  | _, _, .nil => rfl
  | _, _, .cons _ t => congrArg (· + 1) (DnAll.length t)
theorem DnAll.get {K : PySem.W.Frag} {F : Hp} : ∀ {vs : List V} {ds : List PyData} {i : Nat} {d : PyData}, DnAll K et F vs ds → ds[i]? = some d → ∃ v, vs[i]? = some v ∧ Dn K et F v d
  | _, _, _, _, .nil, e => by simp at e
  | _, _, 0, _, .cons h _, e => by simp at e; subst e; exact ⟨_, rfl, h⟩
  | _, _, i + 1, d, .cons _ t, e => by
    obtain ⟨v, h1, h2⟩ := DnAll.get (i := i) (d := d) t (by simpa using e)
    exact ⟨v, by simpa using h1, h2⟩
theorem DnAll.append {K : PySem.W.Frag} {F : Hp} : ∀ {vs ws : List V} {ds es : List PyData}, DnAll K et F vs ds → DnAll K et F ws es → DnAll K et F (vs ++ ws) (ds ++ es)
  | _, _, _, _, .nil, s => s
  | _, _, _, _, .cons r t, s => .cons r (DnAll.append t s)
theorem DnAll.take {K : PySem.W.Frag} {F : Hp} : ∀ {vs : List V} {ds : List PyData} (n : Nat), DnAll K et F vs ds → DnAll K et F (vs.take n) (ds.take n)
  | _, _, 0, _ => .nil
  | _, _, _ + 1, .nil => .nil
  | _, _, n + 1, .cons r t => .cons r (DnAll.take n t)
theorem DnAll.drop {K : PySem.W.Frag} {F : Hp} : ∀ {vs : List V} {ds : List PyData} (n : Nat), DnAll K et F vs ds → DnAll K et F (vs.drop n) (ds.drop n)
  | _, _, 0, r => r
  | _, _, _ + 1, .nil => .nil
  | _, _, n + 1, .cons _ t => DnAll.drop n t
def ExcV (K : PySem.W.Frag) (et : ET) (F : Hp) (v : V) (c : Nat) (p : PyData) : Prop :=
  ∃ e d u, v = .ref e ∧ F e = some (XO e (et.cls c) d) ∧ F d = some (.xd [(et.fld c, u)]) ∧ Dn K et F u p
/-- a dict of integers by integers -/
def kvsI (kvs : List (Int × Int)) : List (Key × V) := kvs.map fun p => (.inl p.1, .int p.2)
def DenP (K : PySem.W.Frag) (et : ET) (am : Addr) (F : Hp) (v : V) : DV → Prop
  | .pu d => Dn K et F v d
  | .own _ => False
  | .m => v = .ref am
  | .scr ns => ∃ a, v = .ref a ∧ SqL K F a (ns.map V.int)
  | .clo G => et.Φ G am F v
  | .exc c p => ExcV K et F v c p
  | .dic _ => False
  | .dki _ => False
def DenS (K : PySem.W.Frag) (et : ET) (am : Addr) (B F H : Hp) (v : V) : DV → Prop
  | .pu d => Dn K et F v d
  | .own xs => ∃ a vs, v = .ref a ∧ F a = none ∧ B a = none ∧ a ≠ am ∧ H a = some (.lst vs) ∧ DnAll K et F vs xs
  | .m => v = .ref am
  | .scr ns => ∃ a, v = .ref a ∧ SqL K F a (ns.map V.int)
  | .clo G => et.Φ G am F v
  | .exc c p => ExcV K et F v c p
  | .dic kvs => ∃ a es, v = .ref a ∧ F a = none ∧ B a = none ∧ a ≠ am ∧ H a = some (NDo et.hs a es) ∧ DnKv K et F es kvs
  | .dki kvs => ∃ a, v = .ref a ∧ F a = none ∧ B a = none ∧ a ≠ am ∧ H a = some (.dK (kvsI kvs))
def mkvs (ac : Addr) (s : MS) : List (Key × V) :=
  if s.two = true then [(.inr "left", .int s.left), (.inr "seed", .int s.seed), (.inr "cells", .ref ac), (.inr "spot", .int s.spot)]
  else [(.inr "cells", .ref ac), (.inr "left", .int s.left), (.inr "spot", .int s.spot)]
/-- the files: what each holds -/
structure FRel (K : PySem.W.Frag) (et : ET) (F H : Hp) (s : MS) : Prop where
  at_ : ∀ a dx i, F a = some (LkO K dx i) → ∃ b r vb vr, (s.files[i]? = some (b, r) ∧ b.canLay0 = true ∧ r.canLay0 = true) ∧ F dx = none ∧ H dx = some (.xd [("own_bill", vb), ("own_row", vr)]) ∧ Dn K et F vb b ∧ Dn K et F vr r
  one : ∀ a dx a' dx' i, F a = some (LkO K dx i) → F a' = some (LkO K dx' i) → a = a'
  sep : ∀ a dx i a' i', F a = some (LkO K dx i) → F a' = some (LkO K dx i') → a = a'
/-- what is new is no file -/
def NoLk (K : PySem.W.Frag) (F F' : Hp) : Prop := ∀ a dx i, F' a = some (LkO K dx i) → F a = some (LkO K dx i)
theorem NoLk.rfl {K : PySem.W.Frag} {F : Hp} : NoLk K F F := fun _ _ _ e => e
theorem NoLk.put {K : PySem.W.Frag} {F : Hp} {p : Addr} {o : HO} (n : ∀ dx i, o ≠ LkO K dx i) : NoLk K F (upd F p o) := fun a dx i e => by
  by_cases h : a = p
  · rw [h, upd_same] at e
    exact absurd (Option.some.inj e) (n dx i)
  · rwa [upd_ne h] at e
theorem FRel.tr {K : PySem.W.Frag} {F F' H H' : Hp} {s : MS} (h : FRel K et F H s) (sm : Same F F') (nl : NoLk K F F') (hd : ∀ dx fs, F dx = none → H dx = some (.xd fs) → F' dx = none ∧ H' dx = some (.xd fs)) : FRel K et F' H' s := by
  refine ⟨fun a dx i e => ?_, fun a dx a' dx' i e e' => h.one a dx a' dx' i (nl _ _ _ e) (nl _ _ _ e'), fun a dx i a' i' e e' => h.sep a dx i a' i' (nl _ _ _ e) (nl _ _ _ e')⟩
  obtain ⟨b, r, vb, vr, e1, e2, e3, e4, e5⟩ := h.at_ a dx i (nl _ _ _ e)
  obtain ⟨e6, e7⟩ := hd _ _ e2 e3
  exact ⟨b, r, vb, vr, e1, e6, e7, Dn.up e4 sm, Dn.up e5 sm⟩
theorem FRel.putH {K : PySem.W.Frag} {F H : Hp} {s : MS} {p : Addr} {o : HO} (h : FRel K et F H s) (hx : ∀ fs, H p ≠ some (.xd fs)) : FRel K et F (upd H p o) s :=
  h.tr (fun _ _ e => e) NoLk.rfl fun dx fs e1 e2 => ⟨e1, by rw [upd_ne (fun z => hx fs (by rw [← z]; exact e2))]; exact e2⟩
theorem FRel.etc {K : PySem.W.Frag} {F H : Hp} {et et' : ET} {s : MS} (q : et.hs = et'.hs ∧ et.cls = et'.cls ∧ et.fld = et'.fld) (h : FRel K et F H s) : FRel K et' F H s :=
  ⟨fun a dx i e => by
    obtain ⟨b, r, vb, vr, e1, e2, e3, e4, e5⟩ := h.at_ a dx i e
    exact ⟨b, r, vb, vr, e1, e2, e3, Dn.etc q e4, Dn.etc q e5⟩, h.one, h.sep⟩
theorem FRel.ms {K : PySem.W.Frag} {F H : Hp} {s s' : MS} (h : FRel K et F H s) (e : s'.files = s.files) : FRel K et F H s' := ⟨fun a dx i q => by rw [e]; exact h.at_ a dx i q, h.one, h.sep⟩
/-- what stands in the base stands still; a file's dict may have other values -/
def KeepsO (H : Hp) (a : Addr) : HO → Prop
  | .xd _ => ∃ fs, H a = some (.xd fs)
  | o => H a = some o
theorem KeepsO.of {H : Hp} {a : Addr} {o : HO} (h : H a = some o) : KeepsO H a o := by
  cases o with
  | xd fs => exact ⟨fs, h⟩
  | _ => exact h
theorem KeepsO.some {H : Hp} {a : Addr} {o : HO} (h : KeepsO H a o) : ∃ u, H a = some u := by
  cases o with
  | xd fs => obtain ⟨fs, e⟩ := h; exact ⟨_, e⟩
  | _ => exact ⟨_, h⟩
theorem KeepsO.notx {H : Hp} {a : Addr} {o : HO} (h : KeepsO H a o) (hx : ∀ fs, H a ≠ Option.some (.xd fs)) : H a = Option.some o := by
  cases o with
  | xd fs => obtain ⟨fs, e⟩ := h; exact (hx fs e).elim
  | _ => exact h
theorem KeepsO.nx {H : Hp} {a : Addr} {o : HO} (h : KeepsO H a o) (hx : ∀ fs, o ≠ .xd fs) : H a = Option.some o := by
  cases o with
  | xd fs => exact (hx fs rfl).elim
  | _ => exact h
theorem KeepsO.eq {H H' : Hp} {a : Addr} {o : HO} (h : KeepsO H a o) (e : H' a = H a) : KeepsO H' a o := by
  cases o with
  | xd fs => obtain ⟨fs, q⟩ := h; exact ⟨fs, e.trans q⟩
  | _ => exact e.trans h
theorem KeepsO.tr {H H' : Hp} {a : Addr} {o : HO} (h : KeepsO H a o) (n : ∀ u, H a = .some u → KeepsO H' a u) : KeepsO H' a o := by
  cases o with
  | xd fs => obtain ⟨fs, q⟩ := h; have := n _ q; exact this
  | _ => exact n _ h
def MRel (K : PySem.W.Frag) (et : ET) (am : Addr) (F H : Hp) (s : MS) : Prop :=
  ∃ ac, H am = some (.dK (mkvs ac s)) ∧ Dn K et F (.ref ac) (.list (s.cells.map .int)) ∧ FRel K et F H s
theorem KeepsO.ne {H : Hp} {a p : Addr} {o u : HO} (h : KeepsO H a o) (n : a ≠ p) : KeepsO (upd H p u) a o := h.eq (upd_ne n)
theorem KeepsO.new {H : Hp} {a p : Addr} {o u : HO} (h : KeepsO H a o) (hp : H p = none) : KeepsO (upd H p u) a o := by
  obtain ⟨_, e⟩ := h.some
  exact h.ne (ne_of_none e hp)
/-- the draws' dict and the tables stand outside of what is frozen -/
structure Fz (et : ET) (am : Addr) (F H : Hp) : Prop where
  am : F am = none
  tabs : LamX.Tabs et.T H
  off : ∀ p ∈ et.T, F p.1 = none
/-- neither the draws' dict nor a table -/
def Fre (et : ET) (am a : Addr) : Prop := a ≠ am ∧ ∀ p ∈ et.T, a ≠ p.1
structure RepF (K : PySem.W.Frag) (et : ET) (am : Addr) (B F : Hp) (g : Sg) (σ : St) (H : Hp) : Prop where
  sub : Same F H
  fam : Fz et am F H
  base : ∀ a o, B a = some o → Fre et am a → KeepsO H a o
  len : σ.length = g.r.length
  slot : ∀ (i : Nat) (x : DV), g.r[i]? = some (some x) → ∃ v, σ[i]? = some (some v) ∧ DenS K et am B F H v x
  inj : ∀ (i j : Nat) (x y : DV) (a : Addr), g.r[i]? = some (some x) → g.r[j]? = some (some y) → isOwnV x = true → isOwnV y = true → σ[i]? = some (some (.ref a)) → σ[j]? = some (some (.ref a)) → i = j
  ms : MRel K et am F H g.s
theorem ExcV.up {K : PySem.W.Frag} {et : ET} {F F' : Hp} {v : V} {c : Nat} {p : PyData} (h : ExcV K et F v c p) (s : Same F F') : ExcV K et F' v c p := by
  obtain ⟨e, d, u, rfl, h1, h2, h3⟩ := h
  exact ⟨e, d, u, rfl, s _ _ h1, s _ _ h2, Dn.up h3 s⟩
theorem DenP.up {K : PySem.W.Frag} {et : ET} {am : Addr} {F F' : Hp} {v : V} {x : DV} (h : DenP K et am F v x) (s : Same F F') : DenP K et am F' v x := by
  cases x with
  | pu d => exact Dn.up h s
  | own _ => exact h
  | m => exact h
  | dic _ => exact h
  | dki _ => exact h
  | scr ns =>
    obtain ⟨a, e, q⟩ := h
    exact ⟨a, e, SqL.mono s q⟩
  | clo G => exact et.mono G am F F' v s h
  | exc c p => exact ExcV.up h s
/-- an own list's neighbours: all but the lists that are being made -/
theorem DenS.of {K : PySem.W.Frag} {et : ET} {am : Addr} {B F H : Hp} {v : V} {x : DV} (h : DenP K et am F v x) : DenS K et am B F H v x := by
  cases x with
  | own _ => exact h.elim
  | dic _ => exact h.elim
  | dki _ => exact h.elim
  | pu d => exact h
  | m => exact h
  | scr ns => exact h
  | clo G => exact h
  | exc c p => exact h
def OwnO (a : Addr) (u : HO) : Prop := (∃ vs, u = .lst vs) ∨ (∃ hs es, u = NDo hs a es) ∨ ∃ kvs, u = .dK kvs
theorem KeepsO.own {H : Hp} {a : Addr} {u : HO} (h : KeepsO H a u) (o : OwnO a u) : H a = Option.some u := by
  rcases o with ⟨vs, rfl⟩ | ⟨hs, es, rfl⟩ | ⟨kvs, rfl⟩
  · exact h
  · exact h
  · exact h
theorem ext_nd {φ : Heap → Prop} {h : Heap} {hs : NestedKey → Int} {a : Addr} {o : Obj} {es : List (NestedKey × Addr × V)} (hp : φ h) (ho : h.get? a = some o) (nd : ∀ ds ep, o.data ≠ .dict ds ep) : HO.ext φ ≠ NDo hs a es := fun z => by
  unfold NDo at z
  have y := congrFun (HO.ext.inj z) h
  rw [y] at hp
  obtain ⟨_, _, _, ys, o', ds, ep, _, ho', _, hd, _⟩ := hp
  rw [ho] at ho'
  cases ho'
  exact nd _ _ hd
/-- a heap of nothing but code objects of the name q -/
def codeH (c : Addr) (q : Str) : Heap := { objs := Array.replicate (c + 1) { cls := .none, data := .fields #[.none, .str q 0] } }
theorem codeH_get {c a : Addr} {q : Str} {o : Obj} (e : (codeH c q).get? a = some o) : o.data = .fields #[.none, .str q 0] := by
  unfold codeH Heap.get? at e
  simp only [Array.getElem?_replicate] at e
  split at e
  · cases e
  · rename_i hq
    split at e
    · cases e; rfl
    · cases e
theorem nd_code {hs : NestedKey → Int} {a : Addr} {es : List (NestedKey × Addr × V)} (c : Addr) (q : Str) : NDo hs a es ≠ LamX.CodeO c q := fun z => by
  unfold NDo LamX.CodeO at z
  have y := congrFun (HO.ext.inj z) (codeH c q)
  have hc : (codeH c q).get? c = some { cls := .none, data := .fields #[.none, .str q 0] } := by
    unfold codeH Heap.get?
    simp [Array.getElem?_replicate]
  have w : ∃ (oc : Obj) (vs : Array Value) (t : Tok), (codeH c q).get? c = some oc ∧ oc.data = .fields vs ∧ vs[1]? = some (.str q t) := ⟨_, _, 0, hc, rfl, rfl⟩
  rw [← y] at w
  obtain ⟨_, _, _, ys, o', ds, ep, _, ho', _, hd, _⟩ := w
  rw [codeH_get ho'] at hd
  cases hd
theorem OwnO.tbl {a : Addr} {u : HO} (h : OwnO a u) : ∀ ps, u ≠ .tbl ps := fun ps z => by
  rcases h with ⟨vs, e⟩ | ⟨hs, es, e⟩ | ⟨kvs, e⟩
  · rw [e] at z; cases z
  · rw [e] at z; unfold NDo at z; cases z
  · rw [e] at z; cases z
/-- a slot's value, kept: the lists that are being made by hand -/
theorem DenS.keep {K : PySem.W.Frag} {et : ET} {am : Addr} {B B' F F' H H' : Hp} {v : V} {x : DV} (h : DenS K et am B F H v x) (s : Same F F')
    (own : ∀ a u, isOwnV x = true → v = .ref a → F a = none → B a = none → a ≠ am → H a = some u → OwnO a u → F' a = none ∧ B' a = none ∧ H' a = some u) : DenS K et am B' F' H' v x := by
  cases x with
  | own xs =>
    obtain ⟨a, vs, ev, fa, ba, na, ha, dv⟩ := h
    obtain ⟨h1, h2, h3⟩ := own a _ rfl ev fa ba na ha (.inl ⟨vs, rfl⟩)
    exact ⟨a, vs, ev, h1, h2, na, h3, DnAll.up dv s⟩
  | dic kvs =>
    obtain ⟨a, es, ev, fa, ba, na, ha, dv⟩ := h
    obtain ⟨h1, h2, h3⟩ := own a _ rfl ev fa ba na ha (.inr (.inl ⟨_, es, rfl⟩))
    exact ⟨a, es, ev, h1, h2, na, h3, DnKv.mono s dv⟩
  | dki kvs =>
    obtain ⟨a, ev, fa, ba, na, ha⟩ := h
    obtain ⟨h1, h2, h3⟩ := own a _ rfl ev fa ba na ha (.inr (.inr ⟨_, rfl⟩))
    exact ⟨a, ev, h1, h2, na, h3⟩
  | pu d => exact Dn.up h s
  | m => exact h
  | scr ns =>
    obtain ⟨a, e, q⟩ := h
    exact ⟨a, e, SqL.mono s q⟩
  | clo G => exact et.mono G am F F' v s h
  | exc c p => exact ExcV.up h s
theorem MRel.tr {K : PySem.W.Frag} {am : Addr} {F F' H H' : Hp} {s : MS} (h : MRel K et am F H s) (sm : Same F F') (nl : NoLk K F F') (ea : H' am = H am) (hd : ∀ dx fs, F dx = none → H dx = some (.xd fs) → F' dx = none ∧ H' dx = some (.xd fs)) : MRel K et am F' H' s := by
  obtain ⟨ac, e1, e2, e3⟩ := h
  exact ⟨ac, ea.trans e1, Dn.up e2 sm, e3.tr sm nl hd⟩
theorem MRel.putF {K : PySem.W.Frag} {am p : Addr} {F H : Hp} {s : MS} {o : HO} (h : MRel K et am F H s) (sm : Same F (upd F p o)) (n : ∀ dx i, o ≠ LkO K dx i) (hx : ∀ fs, H p ≠ some (.xd fs)) : MRel K et am (upd F p o) H s :=
  h.tr sm (NoLk.put n) rfl fun dx fs e1 e2 => ⟨by rw [upd_ne (fun z => hx fs (by rw [← z]; exact e2))]; exact e1, e2⟩
theorem MRel.putH {K : PySem.W.Frag} {am p : Addr} {F H : Hp} {s : MS} {o : HO} (h : MRel K et am F H s) (na : p ≠ am) (hx : ∀ fs, H p ≠ some (.xd fs)) : MRel K et am F (upd H p o) s :=
  h.tr (fun _ _ e => e) NoLk.rfl (upd_ne (Ne.symm na)) fun dx fs e1 e2 => ⟨e1, by rw [upd_ne (fun z => hx fs (by rw [← z]; exact e2))]; exact e2⟩
theorem MRel.put2 {K : PySem.W.Frag} {am p : Addr} {F H : Hp} {s : MS} {o o' : HO} (h : MRel K et am F H s) (sm : Same F (upd F p o)) (n : ∀ dx i, o ≠ LkO K dx i) (na : p ≠ am) (hx : ∀ fs, H p ≠ some (.xd fs)) : MRel K et am (upd F p o) (upd H p o') s :=
  h.tr sm (NoLk.put n) (upd_ne (Ne.symm na)) fun dx fs e1 e2 => by
    have nd : dx ≠ p := fun z => hx fs (by rw [← z]; exact e2)
    exact ⟨by rw [upd_ne nd]; exact e1, by rw [upd_ne nd]; exact e2⟩
theorem nlk_frz {K : PySem.W.Frag} {o : Obj} {u : HO} (h : ∀ i, u ≠ .own i) : ∀ dx i, HO.frz o u ≠ LkO K dx i := fun dx i z => by
  unfold LkO at z
  injection z with z1 z2
  exact h i z2
theorem nlk_ND {K : PySem.W.Frag} {o : Obj} {hs : NestedKey → Int} {a : Addr} {es : List (NestedKey × Addr × V)} : ∀ dx i, HO.frz o (NDo hs a es) ≠ LkO K dx i := nlk_frz fun i z => by unfold NDo at z; cases z
theorem nlk_lst {K : PySem.W.Frag} {xs : List V} : ∀ dx i, HO.lst xs ≠ LkO K dx i := fun dx i z => by unfold LkO at z; cases z
theorem FRel.setM {K : PySem.W.Frag} {F H : Hp} {s s' : MS} {p : Addr} {kvs : List (Key × V)} {o : HO} (h : FRel K et F H s) (e : H p = some (.dK kvs)) (q : s'.files = s.files) : FRel K et F (upd H p o) s' := (h.putH fun fs z => by rw [e] at z; cases z).ms q
theorem nx_none {H : Hp} {p : Addr} (h : H p = none) : ∀ fs, H p ≠ some (.xd fs) := fun fs z => by rw [h] at z; cases z
theorem nx_lst {H : Hp} {p : Addr} {xs : List V} (h : H p = some (.lst xs)) : ∀ fs, H p ≠ some (.xd fs) := fun fs z => by rw [h] at z; cases z
theorem nx_ND {H : Hp} {p : Addr} {hs : NestedKey → Int} {a : Addr} {es : List (NestedKey × Addr × V)} (h : H p = some (NDo hs a es)) : ∀ fs, H p ≠ some (.xd fs) := fun fs z => by
  rw [h] at z; unfold NDo at z; cases z
theorem MRel.there {K : PySem.W.Frag} {am : Addr} {F H : Hp} {s : MS} (h : MRel K et am F H s) : ∃ o, H am = some o := by
  obtain ⟨ac, e, _⟩ := h
  exact ⟨_, e⟩
theorem RepF.bnone {K : PySem.W.Frag} {et : ET} {am : Addr} {B F : Hp} {g : Sg} {σ : St} {H : Hp} (R : RepF K et am B F g σ H) {p : Addr} (hp : H p = none) : B p = none ∧ F p = none ∧ p ≠ am := by
  obtain ⟨o, e⟩ := R.ms.there
  have np : p ≠ am := fun z => by rw [z, e] at hp; cases hp
  refine ⟨?_, ?_, np⟩
  · cases q : B p with
    | none => rfl
    | some o =>
      obtain ⟨u, eu⟩ := (R.base p o q ⟨np, fun t ht z => by
        obtain ⟨ps, e', _⟩ := R.fam.tabs t ht
        rw [z, e'] at hp; cases hp⟩).some
      rw [eu] at hp
      cases hp
  · cases q : F p with
    | none => rfl
    | some o => rw [R.sub p o q] at hp; cases hp
theorem Tabs.new {T : List (Addr × Str)} {H : Hp} {p : Addr} (t : LamX.Tabs T H) (hp : H p = none) (o : HO) : LamX.Tabs T (upd H p o) :=
  t.ext fun b u e => by rw [upd_ne (ne_of_none e hp)]; exact e
/-- what is written is neither a table nor a code object -/
theorem Tabs.put {T : List (Addr × Str)} {H : Hp} {a : Addr} {u : HO} (t : LamX.Tabs T H) (e : H a = some u) (h1 : ∀ ps, u ≠ .tbl ps) (h2 : ∀ c q, u ≠ LamX.CodeO c q) (o : HO) : LamX.Tabs T (upd H a o) := fun p hp => by
  obtain ⟨ps, e1, e2, e3⟩ := t p hp
  refine ⟨ps, ?_, e2, fun pos cv hc => ?_⟩
  · rw [upd_ne (ne_of e1 e (fun z => h1 ps z.symm))]; exact e1
  · obtain ⟨c, ec, hc⟩ := e3 pos cv hc
    exact ⟨c, ec, by rw [upd_ne (ne_of hc e (fun z => h2 _ _ z.symm))]; exact hc⟩
theorem lst_code {vs : List V} (c : Addr) (q : Str) : HO.lst vs ≠ LamX.CodeO c q := fun z => by unfold LamX.CodeO at z; cases z
theorem dK_code {vs : List (Key × V)} (c : Addr) (q : Str) : HO.dK vs ≠ LamX.CodeO c q := fun z => by unfold LamX.CodeO at z; cases z
/-- a list that is being made is no table -/
theorem Fz.fre {et : ET} {am : Addr} {F H : Hp} (f : Fz et am F H) {a : Addr} {u : HO} (na : a ≠ am) (h : H a = some u) (h1 : ∀ ps, u ≠ .tbl ps) : Fre et am a :=
  ⟨na, fun p hp z => by
    obtain ⟨ps, e, _⟩ := f.tabs p hp
    rw [← z, h] at e
    exact h1 ps (Option.some.inj e)⟩
theorem Fz.offT {et : ET} {am : Addr} {F H : Hp} (f : Fz et am F H) {a : Addr} (h : H a = none) : ∀ p ∈ et.T, a ≠ p.1 := fun p hp z => by
  obtain ⟨ps, e, _⟩ := f.tabs p hp
  rw [← z, h] at e; cases e
/-- a new object is laid and frozen -/
theorem RepF.alloc {K : PySem.W.Frag} {et : ET} {am : Addr} {B F : Hp} {g : Sg} {σ : St} {H : Hp} (R : RepF K et am B F g σ H) {p : Addr} (hp : H p = none) (o : HO) (nl : ∀ dx i, o ≠ LkO K dx i := by (intro _ _ z; unfold LkO at z; first | cases z | (injection z with _ z2; cases z2))) : RepF K et am B (upd F p o) g σ (upd H p o) ∧ Ext B F (upd F p o) := by
  obtain ⟨bp, fp, np⟩ := R.bnone hp
  have sm : Same F (upd F p o) := fun a u e => by
    rw [upd_ne (ne_of_none e fp)]
    exact e
  have hne : ∀ {a : Addr} {u : HO}, H a = some u → a ≠ p := fun e => ne_of_none e hp
  refine ⟨⟨fun a u e => ?_, ⟨by rw [upd_ne (Ne.symm np)]; exact R.fam.am, Tabs.new R.fam.tabs hp o, fun t ht => by rw [upd_ne (Ne.symm (R.fam.offT hp t ht))]; exact R.fam.off t ht⟩, fun a u e na => by
    obtain ⟨u', eu⟩ := (R.base a u e na).some
    exact (R.base a u e na).eq (upd_ne (hne eu)), R.len, fun i x e => ?_, R.inj, ?_⟩, sm, fun a u e n => ?_⟩
  · by_cases h : a = p
    · rw [h, upd_same] at e ⊢
      exact e
    · rw [upd_ne h] at e ⊢
      exact R.sub a u e
  · obtain ⟨v, e1, e2⟩ := R.slot i x e
    exact ⟨v, e1, e2.keep sm fun a u _ _ fa ba na ha ow => ⟨by rw [upd_ne (hne ha)]; exact fa, ba, by rw [upd_ne (hne ha)]; exact ha⟩⟩
  · exact R.ms.put2 sm nl np (nx_none hp)
  · by_cases h : a = p
    · rw [h]
      exact bp
    · rw [upd_ne h, n] at e
      cases e
def ExRel (K : PySem.W.Frag) (et : ET) (F H : Hp) (c : Nat) (p : PyData) (cls : Value) (d : Option Addr) : Prop :=
  cls = .ref (et.cls c) ∧ ∃ da v, d = some da ∧ F da = some (.xd [(et.fld c, v)]) ∧ Dn K et F v p
structure wE (X : Cx) (e : Expr) (σ : St) (H : Hp) (Q : VK) : Prop where
  run : ∀ (pins : List (Addr × Obj)) (s : Shared), Inv X pins σ H s → wpAny (model X.prog X.w) X.A (eval e X.env) (EP X pins σ Q) X.xe s
structure wA (X : Cx) (es : List Expr) (σ : St) (H : Hp) (Q : List V → Hp → Prop) : Prop where
  run : ∀ (pos : Pos) (pins : List (Addr × Obj)) (s : Shared), Inv X pins σ H s → wpAny (model X.prog X.w) X.A (spliced (backTo pos (starEach es X.env))) (AP X pins σ Q) X.xe s
structure wT (X : Cx) (e : Expr) (σ : St) (H : Hp) (Q : Bool → Hp → Prop) : Prop where
  run : ∀ (pins : List (Addr × Obj)) (s : Shared), Inv X pins σ H s → wpAny (model X.prog X.w) X.A (isTrue e X.env (eval e X.env)) (TP X pins σ Q) X.xe s
structure wS (X : Cx) (st : Stmt) (D : Ends) (σ : St) (H : Hp) : Prop where
  run : ∀ (pins : List (Addr × Obj)) (s : Shared), Inv X pins σ H s → wpAny (model X.prog X.w) X.A (exec st X.env) (SP X pins D) X.xe s
structure wSs (X : Cx) (st : List Stmt) (D : Ends) (σ : St) (H : Hp) : Prop where
  run : ∀ (pins : List (Addr × Obj)) (s : Shared), Inv X pins σ H s → wpAny (model X.prog X.w) X.A (execs st X.env) (SP X pins D) X.xe s
theorem pe_w {X : Cx} {e : Expr} : PE X e (wE X e) := ⟨fun pins s _ _ _ I h => h.run pins s I⟩
theorem pa_w {X : Cx} {e : List Expr} : PA X e (wA X e) := ⟨fun pos pins s _ _ _ I h => h.run pos pins s I⟩
theorem pt_w {X : Cx} {e : Expr} : PT X e (wT X e) := ⟨fun pins s _ _ _ I h => h.run pins s I⟩
theorem ps_w {X : Cx} {e : Stmt} : PS X e (wS X e) := ⟨fun pins s _ _ _ I h => h.run pins s I⟩
theorem pss_w {X : Cx} {e : List Stmt} : PSs X e (wSs X e) := ⟨fun pins s _ _ _ I h => h.run pins s I⟩
theorem w_of {X : Cx} {e : Expr} {t : TE} (h : PE X e t) {σ : St} {H : Hp} {Q : VK} (q : t σ H Q) : wE X e σ H Q := ⟨fun pins s I => h.run pins s σ H Q I q⟩
theorem wa_of {X : Cx} {e : List Expr} {t : TA} (h : PA X e t) {σ : St} {H : Hp} {Q : List V → Hp → Prop} (q : t σ H Q) : wA X e σ H Q := ⟨fun pos pins s I => h.run pos pins s σ H Q I q⟩
theorem wt_of {X : Cx} {e : Expr} {t : TT} (h : PT X e t) {σ : St} {H : Hp} {Q : Bool → Hp → Prop} (q : t σ H Q) : wT X e σ H Q := ⟨fun pins s I => h.run pins s σ H Q I q⟩
theorem ws_of {X : Cx} {e : Stmt} {t : TS} (h : PS X e t) {σ : St} {H : Hp} {D : Ends} (q : t D σ H) : wS X e D σ H := ⟨fun pins s I => h.run pins s σ H D I q⟩
theorem wss_of {X : Cx} {e : List Stmt} {t : TS} (h : PSs X e t) {σ : St} {H : Hp} {D : Ends} (q : t D σ H) : wSs X e D σ H := ⟨fun pins s I => h.run pins s σ H D I q⟩
/-- the exceptions' side of an end -/
def ExE (K : PySem.W.Frag) (et : ET) (W : WX) (am : Addr) (B F : Hp) (σ : St) (c : Nat) (p : PyData) (g : Sg) : Prop :=
  ∀ cls d F' H', Ext B F F' → RepF K et am B F' g σ H' → ExRel K et F' H' c p cls d → W cls d σ H'
def OkV (K : PySem.W.Frag) (et : ET) (W : WX) (am : Addr) (B F : Hp) (σ : St) (Q : VK) : Rs Sg DV → Prop
  | .ok d g => ∀ v F' H', Ext B F F' → RepF K et am B F' g σ H' → DenP K et am F' v d → Q v H'
  | .ex c p g => ExE K et W am B F σ c p g
  | .no => False
inductive DenL (K : PySem.W.Frag) (et : ET) (am : Addr) (F : Hp) : List V → List DV → Prop
  | nil : DenL K et am F [] []
  | cons {v : V} {vs : List V} {d : DV} {ds : List DV} : DenP K et am F v d → DenL K et am F vs ds → DenL K et am F (v :: vs) (d :: ds)
theorem DenL.up {K : PySem.W.Frag} {et : ET} {am : Addr} {F F' : Hp} (s : Same F F') : ∀ {v : List V} {x : List DV}, DenL K et am F v x → DenL K et am F' v x
  | _, _, .nil => .nil
  | _, _, .cons h t => .cons (h.up s) (DenL.up s t)
def OkL (K : PySem.W.Frag) (et : ET) (W : WX) (am : Addr) (B F : Hp) (σ : St) (Q : List V → Hp → Prop) : Rs Sg (List DV) → Prop
  | .ok d g => ∀ v F' H', Ext B F F' → RepF K et am B F' g σ H' → DenL K et am F' v d → Q v H'
  | .ex c p g => ExE K et W am B F σ c p g
  | .no => False
def OkB (K : PySem.W.Frag) (et : ET) (W : WX) (am : Addr) (B F : Hp) (σ : St) (Q : Bool → Hp → Prop) : Rs Sg Bool → Prop
  | .ok b g => ∀ F' H', Ext B F F' → RepF K et am B F' g σ H' → Q b H'
  | .ex c p g => ExE K et W am B F σ c p g
  | .no => False
inductive Fl where
  | nx | rt (d : DV) | bk | ct
def OkF (K : PySem.W.Frag) (et : ET) (W : WX) (am : Addr) (B F : Hp) (D : Ends) : Rs Sg Fl → Prop
  | .ok .nx g => ∀ σ F' H', Ext B F F' → RepF K et am B F' g σ H' → D.nx σ H'
  | .ok (.rt d) g => ∀ v σ F' H', Ext B F F' → RepF K et am B F' g σ H' → DenP K et am F' v d → D.rt v H'
  | .ok .bk g => ∀ σ F' H', Ext B F F' → RepF K et am B F' g σ H' → D.bk σ H'
  | .ok .ct g => ∀ σ F' H', Ext B F F' → RepF K et am B F' g σ H' → D.ct σ H'
  | .ex c p g => ∀ σ, ExE K et W am B F σ c p g
  | .no => False
def DE (X : Cx) (et : ET) (W : WX) (e : Expr) (f : Sg → Rs Sg DV) : Prop :=
  ∀ am B F g σ H Q, RepF X.K et am B F g σ H → OkV X.K et W am B F σ Q (f g) → wE X e σ H Q
def DA (X : Cx) (et : ET) (W : WX) (e : List Expr) (f : Sg → Rs Sg (List DV)) : Prop :=
  ∀ am B F g σ H Q, RepF X.K et am B F g σ H → OkL X.K et W am B F σ Q (f g) → wA X e σ H Q
def DT (X : Cx) (et : ET) (W : WX) (e : Expr) (f : Sg → Rs Sg Bool) : Prop :=
  ∀ am B F g σ H Q, RepF X.K et am B F g σ H → OkB X.K et W am B F σ Q (f g) → wT X e σ H Q
def DS (X : Cx) (et : ET) (W : WX) (e : Stmt) (f : Sg → Rs Sg Fl) : Prop :=
  ∀ am B F g σ H D, RepF X.K et am B F g σ H → OkF X.K et W am B F D (f g) → wS X e D σ H
def DSs (X : Cx) (et : ET) (W : WX) (e : List Stmt) (f : Sg → Rs Sg Fl) : Prop :=
  ∀ am B F g σ H D, RepF X.K et am B F g σ H → OkF X.K et W am B F D (f g) → wSs X e D σ H
def mVar (i : Nat) (g : Sg) : Rs Sg DV :=
  match g.r[i]? with
  | some (some (.pu d)) => .ok (.pu d) g
  | some (some .m) => .ok .m g
  | some (some (.scr ns)) => .ok (.scr ns) g
  | some (some (.clo G)) => .ok (.clo G) g
  | some (some (.exc c p)) => .ok (.exc c p) g
  | some (some (.own xs)) => .ok (.pu (.list xs)) { g with r := g.r.set i (some (.pu (.list xs))) }
  | some (some (.dic kvs)) => .ok (.pu (.dict kvs)) { g with r := g.r.set i (some (.pu (.dict kvs))) }
  | _ => .no
def mC (d : PyData) (g : Sg) : Rs Sg DV := .ok (.pu d) g
end
section
variable {X : Cx} {et : ET} {W : WX}
/-- a list that was being made is frozen -/
theorem RepF.freeze {K : PySem.W.Frag} {et : ET} {am : Addr} {B F : Hp} {g : Sg} {σ : St} {H : Hp} (R : RepF K et am B F g σ H) {i : Nat} {xs : List PyData} (e : g.r[i]? = some (some (.own xs))) :
    ∃ a F', σ[i]? = some (some (.ref a)) ∧ Ext B F F' ∧ RepF K et am B F' { g with r := g.r.set i (some (.pu (.list xs))) } σ H ∧ Dn K et F' (.ref a) (.list xs) := by
  obtain ⟨v, e1, a, vs, rfl, fa, ba, na, ha, dv⟩ := R.slot i _ e
  have sm : Same F (upd F a (.lst vs)) := fun b u q => by
    rw [upd_ne (ne_of_none q fa)]
    exact q
  have hi : i < g.r.length := (List.getElem?_eq_some_iff.mp e).1
  have dl : Dn K et (upd F a (.lst vs)) (.ref a) (.list xs) := .lst upd_same (DnAll.up dv sm)
  refine ⟨a, upd F a (.lst vs), e1, ⟨sm, fun b u q n => ?_⟩, ⟨fun b u q => ?_, ⟨by rw [upd_ne (Ne.symm na)]; exact R.fam.am, R.fam.tabs, fun t ht => by rw [upd_ne (Ne.symm ((R.fam.fre na ha (fun _ z => by cases z)).2 t ht))]; exact R.fam.off t ht⟩, R.base, by rw [List.length_set]; exact R.len, fun j x q => ?_, fun j k x' y' b q1 q2 o1 o2 q3 q4 => ?_, ?_⟩, dl⟩
  · by_cases h : b = a
    · rw [h]; exact ba
    · rw [upd_ne h, n] at q; cases q
  · by_cases h : b = a
    · rw [h, upd_same] at q
      rw [h]
      cases q
      exact ha
    · rw [upd_ne h] at q
      exact R.sub b u q
  · by_cases h : i = j
    · subst h
      rw [List.getElem?_set_self hi] at q
      cases q
      exact ⟨.ref a, e1, dl⟩
    · rw [List.getElem?_set_ne h] at q
      obtain ⟨w, q1, q2⟩ := R.slot j x q
      refine ⟨w, q1, q2.keep sm fun b u ow ew fb bb nb hb db => ?_⟩
      subst ew
      have nab : b ≠ a := fun z => h (R.inj i j _ x a e q rfl ow e1 (by rw [← z]; exact q1))
      exact ⟨by rw [upd_ne nab]; exact fb, bb, hb⟩
  · by_cases h1 : i = j
    · subst h1
      rw [List.getElem?_set_self hi] at q1
      cases q1
      cases o1
    · by_cases h2 : i = k
      · subst h2
        rw [List.getElem?_set_self hi] at q2
        cases q2
        cases o2
      · rw [List.getElem?_set_ne h1] at q1
        rw [List.getElem?_set_ne h2] at q2
        exact R.inj j k x' y' b q1 q2 o1 o2 q3 q4
  · exact R.ms.putF sm nlk_lst (nx_lst ha)
/-- a dict that was being made is frozen -/
theorem RepF.freezeD {K : PySem.W.Frag} {et : ET} {am : Addr} {B F : Hp} {g : Sg} {σ : St} {H : Hp} (R : RepF K et am B F g σ H) {i : Nat} {kvs : List (PyData × PyData)} {a : Addr} {es : List (NestedKey × Addr × V)} (od : Obj) (e : g.r[i]? = some (some (.dic kvs)))
    (e1 : σ[i]? = some (some (.ref a))) (fa : F a = none) (ba : B a = none) (na : a ≠ am) (ha : H a = some (NDo et.hs a es)) (dv : DnKv K et F es kvs) :
    Ext B F (upd F a (.frz od (NDo et.hs a es))) ∧ RepF K et am B (upd F a (.frz od (NDo et.hs a es))) { g with r := g.r.set i (some (.pu (.dict kvs))) } σ (upd H a (.frz od (NDo et.hs a es))) ∧ Dn K et (upd F a (.frz od (NDo et.hs a es))) (.ref a) (.dict kvs) := by
  have ntb : ∀ ps, NDo et.hs a es ≠ .tbl ps := fun ps z => by unfold NDo at z; cases z
  have sm : Same F (upd F a (.frz od (NDo et.hs a es))) := fun b u q => by
    rw [upd_ne (ne_of_none q fa)]
    exact q
  have hi : i < g.r.length := (List.getElem?_eq_some_iff.mp e).1
  have dl : Dn K et (upd F a (.frz od (NDo et.hs a es))) (.ref a) (.dict kvs) := .dcx upd_same (DnKv.mono sm dv)
  refine ⟨⟨sm, fun b u q n => ?_⟩, ⟨fun b u q => ?_, ⟨by rw [upd_ne (Ne.symm na)]; exact R.fam.am, Tabs.put R.fam.tabs ha ntb nd_code _, fun t ht => by rw [upd_ne (Ne.symm ((R.fam.fre na ha ntb).2 t ht))]; exact R.fam.off t ht⟩, fun b u q fr => (R.base b u q fr).eq (upd_ne (ne_of_none q ba)), by rw [List.length_set]; exact R.len, fun j x q => ?_, fun j k x' y' b q1 q2 o1 o2 q3 q4 => ?_, ?_⟩, dl⟩
  · by_cases h : b = a
    · rw [h]; exact ba
    · rw [upd_ne h, n] at q; cases q
  · by_cases h : b = a
    · rw [h, upd_same] at q
      rw [h, upd_same]
      exact q
    · rw [upd_ne h] at q ⊢
      exact R.sub b u q
  · by_cases h : i = j
    · subst h
      rw [List.getElem?_set_self hi] at q
      cases q
      exact ⟨.ref a, e1, dl⟩
    · rw [List.getElem?_set_ne h] at q
      obtain ⟨w, q1, q2⟩ := R.slot j x q
      refine ⟨w, q1, q2.keep sm fun b u ow ew fb bb nb hb db => ?_⟩
      subst ew
      have nab : b ≠ a := fun z => h (R.inj i j _ x a e q rfl ow e1 (by rw [← z]; exact q1))
      exact ⟨by rw [upd_ne nab]; exact fb, bb, by rw [upd_ne nab]; exact hb⟩
  · by_cases h1 : i = j
    · subst h1
      rw [List.getElem?_set_self hi] at q1
      cases q1
      cases o1
    · by_cases h2 : i = k
      · subst h2
        rw [List.getElem?_set_self hi] at q2
        cases q2
        cases o2
      · rw [List.getElem?_set_ne h1] at q1
        rw [List.getElem?_set_ne h2] at q2
        exact R.inj j k x' y' b q1 q2 o1 o2 q3 q4
  · exact R.ms.put2 sm nlk_ND na (nx_ND ha)
theorem de_var (i : Nat) {x : Str} {pos : Pos} (hN : X.N[i]? = some x := by rfl) (hv : Vis X.env.scope x := by first | exact Or.inl rfl | exact Or.inr (Or.inl rfl) | exact Or.inr (Or.inr rfl)) (hd : (x == ("__debug__" : Str)) = false := by decide)
    (hcd : (x == ("__classdict__" : Str)) = false := by decide) : DE X et W (.Name x pos) (mVar i) := by
  intro am B F g σ H Q R h
  unfold mVar at h
  split at h
  · rename_i d e
    obtain ⟨v, e1, e2⟩ := R.slot i _ e
    exact w_of (pe_var hN hv hd hcd) ⟨v, e1, h v F H Ext.refl R e2⟩
  · rename_i e
    obtain ⟨v, e1, e2⟩ := R.slot i _ e
    exact w_of (pe_var hN hv hd hcd) ⟨v, e1, h v F H Ext.refl R e2⟩
  · rename_i ns e
    obtain ⟨v, e1, e2⟩ := R.slot i _ e
    exact w_of (pe_var hN hv hd hcd) ⟨v, e1, h v F H Ext.refl R e2⟩
  · rename_i G e
    obtain ⟨v, e1, e2⟩ := R.slot i _ e
    exact w_of (pe_var hN hv hd hcd) ⟨v, e1, h v F H Ext.refl R e2⟩
  · rename_i c p e
    obtain ⟨v, e1, e2⟩ := R.slot i _ e
    exact w_of (pe_var hN hv hd hcd) ⟨v, e1, h v F H Ext.refl R e2⟩
  · rename_i xs e
    obtain ⟨a, F', e1, ex, R', dp⟩ := R.freeze e
    exact w_of (pe_var hN hv hd hcd) ⟨_, e1, h _ F' H ex R' dp⟩
  · rename_i kvs e
    obtain ⟨v, e1, a, es, rfl, fa, ba, na, ha, dv⟩ := R.slot i _ e
    refine ⟨fun pins s I => ?_⟩
    obtain ⟨od, I1⟩ := I.lock ha (by trivial)
    obtain ⟨ex, R', dp⟩ := R.freezeD od e e1 fa ba na ha dv
    exact (w_of (pe_var (pos := pos) hN hv hd hcd) ⟨_, e1, h _ _ _ ex R' dp⟩).run pins s I1
  · exact h.elim
theorem de_int {i j pos} : DE X et W (.Constant (.int i) j pos) (mC (.int i)) := fun am B F g σ H Q R h => w_of pe_int (h _ F H Ext.refl R (.int i))
theorem de_bl {b j pos} : DE X et W (.Constant (.bool b) j pos) (mC (.bool b)) := fun am B F g σ H Q R h => w_of pe_bl (h _ F H Ext.refl R (.bl b))
theorem de_non {j pos} : DE X et W (.Constant .none j pos) (mC .none) := fun am B F g σ H Q R h => w_of pe_non (h _ F H Ext.refl R .non)
theorem de_str {x j pos} : DE X et W (.Constant (.str x) j pos) (mC (.str x)) := fun am B F g σ H Q R h => w_of pe_str (h _ F H Ext.refl R (.str x))
/-- a module's constant -/
theorem de_glob {x : Str} {v : V} {u : Value} {pos : Pos} {d : PyData} (hg : Gl X x) (hm : X.mg x = some u) (r : RelV v u) (dd : ∀ F, Dn X.K et F v d) (hd : (x == ("__debug__" : Str)) = false := by decide) : DE X et W (.Name x pos) (mC d) :=
  fun am B F g σ H Q R h => w_of (pe_glob hg hm r hd) (h _ F H Ext.refl R (dd F))
def OpS (X : Cx) (et : ET) (f : Value → Value → Sem Value) (h : PyData → PyData → Option PyData) : Prop :=
  ∀ am B F g σ H x y a b d Q, RepF X.K et am B F g σ H → Dn X.K et F x a → Dn X.K et F y b → h a b = some d → (∀ v F' H', Ext B F F' → RepF X.K et am B F' g σ H' → Dn X.K et F' v d → Q v H') → ∃ r : R2, OpR X f r ∧ r x y H Q
def mBin (h : PyData → PyData → Option PyData) (fa fb : Sg → Rs Sg DV) (g : Sg) : Rs Sg DV :=
  (fa g).bind fun x g1 => (fb g1).bind fun y g2 => match x, y with
    | .pu a, .pu b => Rs.of ((h a b).map .pu) g2
    | _, _ => .no
theorem ExE.weak {K : PySem.W.Frag} {et : ET} {am : Addr} {B F F1 : Hp} {σ : St} {c : Nat} {p : PyData} {g : Sg} (x : Ext B F F1) (h : ExE K et W am B F σ c p g) : ExE K et W am B F1 σ c p g :=
  fun cls d F' H' e R r => h cls d F' H' (x.trans e) R r
/-- what may stand behind a part: it can be weakened, lets errors out, and is false where nothing is said -/
structure Good {β : Type} (K : PySem.W.Frag) (et : ET) (W : WX) (am : Addr) (B : Hp) (σ : St) (O : Hp → Rs Sg β → Prop) : Prop where
  weak : ∀ F F1 r, Ext B F F1 → O F r → O F1 r
  ex : ∀ F c p g, O F (.ex c p g) → ExE K et W am B F σ c p g
  no : ∀ F, O F .no → False
theorem goodV {K : PySem.W.Frag} {et : ET} {am : Addr} {B : Hp} {σ : St} {Q : VK} : Good K et W am B σ (fun F r => OkV K et W am B F σ Q r) where
  weak := fun F F1 r x h => by
    cases r with
    | ok d g => exact fun v F' H' e R q => h v F' H' (x.trans e) R q
    | ex c p g => exact ExE.weak x h
    | no => exact h
  ex := fun _ _ _ _ h => h
  no := fun _ h => h
theorem goodL {K : PySem.W.Frag} {et : ET} {am : Addr} {B : Hp} {σ : St} {Q : List V → Hp → Prop} : Good K et W am B σ (fun F r => OkL K et W am B F σ Q r) where
  weak := fun F F1 r x h => by
    cases r with
    | ok d g => exact fun v F' H' e R q => h v F' H' (x.trans e) R q
    | ex c p g => exact ExE.weak x h
    | no => exact h
  ex := fun _ _ _ _ h => h
  no := fun _ h => h
theorem goodB {K : PySem.W.Frag} {et : ET} {am : Addr} {B : Hp} {σ : St} {Q : Bool → Hp → Prop} : Good K et W am B σ (fun F r => OkB K et W am B F σ Q r) where
  weak := fun F F1 r x h => by
    cases r with
    | ok d g => exact fun F' H' e R => h F' H' (x.trans e) R
    | ex c p g => exact ExE.weak x h
    | no => exact h
  ex := fun _ _ _ _ h => h
  no := fun _ h => h
theorem goodF {K : PySem.W.Frag} {et : ET} {am : Addr} {B : Hp} {σ : St} {D : Ends} : Good K et W am B σ (fun F r => OkF K et W am B F D r) where
  weak := fun F F1 r x h => by
    cases r with
    | ok d g =>
      cases d with
      | nx => exact fun σ F' H' e R => h σ F' H' (x.trans e) R
      | bk => exact fun σ F' H' e R => h σ F' H' (x.trans e) R
      | ct => exact fun σ F' H' e R => h σ F' H' (x.trans e) R
      | rt d => exact fun v σ F' H' e R q => h v σ F' H' (x.trans e) R q
    | ex c p g => exact fun σ => ExE.weak x (h σ)
    | no => exact h
  ex := fun _ _ _ _ h => h σ
  no := fun _ h => h
/-- a part, then the rest -/
theorem DE.then {β : Type} {e : Expr} {fa : Sg → Rs Sg DV} {k : DV → Sg → Rs Sg β} {am : Addr} {B F : Hp} {g : Sg} {σ : St} {H : Hp} {O : Hp → Rs Sg β → Prop} {Q : VK} (ha : DE X et W e fa) (G : Good X.K et W am B σ O) (R : RepF X.K et am B F g σ H) (hq : O F ((fa g).bind k))
    (nx : ∀ d g' v F' H', Ext B F F' → RepF X.K et am B F' g' σ H' → DenP X.K et am F' v d → O F' (k d g') → Q v H') : wE X e σ H Q := by
  refine ha am B F g σ H Q R ?_
  cases q : fa g with
  | ok d g' =>
    rw [q] at hq
    exact fun v F' H' ex R' dn => nx d g' v F' H' ex R' dn (G.weak F F' _ ex hq)
  | ex c p g' => rw [q] at hq; exact G.ex F c p g' hq
  | no => rw [q] at hq; exact (G.no F hq).elim
theorem DA.then {β : Type} {e : List Expr} {fa : Sg → Rs Sg (List DV)} {k : List DV → Sg → Rs Sg β} {am : Addr} {B F : Hp} {g : Sg} {σ : St} {H : Hp} {O : Hp → Rs Sg β → Prop} {Q : List V → Hp → Prop} (ha : DA X et W e fa) (G : Good X.K et W am B σ O) (R : RepF X.K et am B F g σ H) (hq : O F ((fa g).bind k))
    (nx : ∀ d g' v F' H', Ext B F F' → RepF X.K et am B F' g' σ H' → DenL X.K et am F' v d → O F' (k d g') → Q v H') : wA X e σ H Q := by
  refine ha am B F g σ H Q R ?_
  cases q : fa g with
  | ok d g' =>
    rw [q] at hq
    exact fun v F' H' ex R' dn => nx d g' v F' H' ex R' dn (G.weak F F' _ ex hq)
  | ex c p g' => rw [q] at hq; exact G.ex F c p g' hq
  | no => rw [q] at hq; exact (G.no F hq).elim
theorem DT.then {β : Type} {e : Expr} {fa : Sg → Rs Sg Bool} {k : Bool → Sg → Rs Sg β} {am : Addr} {B F : Hp} {g : Sg} {σ : St} {H : Hp} {O : Hp → Rs Sg β → Prop} {Q : Bool → Hp → Prop} (ha : DT X et W e fa) (G : Good X.K et W am B σ O) (R : RepF X.K et am B F g σ H) (hq : O F ((fa g).bind k))
    (nx : ∀ d g' F' H', Ext B F F' → RepF X.K et am B F' g' σ H' → O F' (k d g') → Q d H') : wT X e σ H Q := by
  refine ha am B F g σ H Q R ?_
  cases q : fa g with
  | ok d g' =>
    rw [q] at hq
    exact fun F' H' ex R' => nx d g' F' H' ex R' (G.weak F F' _ ex hq)
  | ex c p g' => rw [q] at hq; exact G.ex F c p g' hq
  | no => rw [q] at hq; exact (G.no F hq).elim
theorem de_bin_core {e a b : Expr} {op : Value → Value → Sem Value} {fa fb : Sg → Rs Sg DV} {h : PyData → PyData → Option PyData} (o : OpS X et op h)
    (rule : ∀ (pins : List (Addr × Obj)) (s : Shared) (σ : St) (H : Hp) (Q : VK), Inv X pins σ H s → (wE X a σ H fun x H1 => wE X b σ H1 fun y H2 => ∃ r : R2, OpR X op r ∧ r x y H2 Q) → wpAny (model X.prog X.w) X.A (eval e X.env) (EP X pins σ Q) X.xe s)
    (ha : DE X et W a fa) (hb : DE X et W b fb) : DE X et W e (mBin h fa fb) := by
  intro am B F g σ H Q R hq
  constructor
  intro pins s I
  refine rule pins s σ H Q I (ha.then (goodV (Q := Q)) R hq fun dx g1 x F1 H1 ex1 R1 dn1 hq1 => hb.then (goodV (Q := Q)) R1 hq1 fun dy g2 y F2 H2 ex2 R2 dn2 hq2 => ?_)
  cases dx with
  | own _ => exact hq2.elim
  | m => exact hq2.elim
  | scr _ => exact hq2.elim
  | clo _ => exact hq2.elim
  | exc _ _ => exact hq2.elim
  | dic _ => exact hq2.elim
  | dki _ => exact hq2.elim
  | pu da =>
    cases dy with
    | own _ => exact hq2.elim
    | m => exact hq2.elim
    | scr _ => exact hq2.elim
    | clo _ => exact hq2.elim
    | exc _ _ => exact hq2.elim
    | dic _ => exact hq2.elim
    | dki _ => exact hq2.elim
    | pu db =>
      have hq2 : OkV X.K et W am B F2 σ Q (Rs.of ((h da db).map .pu) g2) := hq2
      cases q3 : h da db with
      | none => rw [q3] at hq2; exact hq2.elim
      | some d =>
        rw [q3] at hq2
        exact o am B F2 g2 σ H2 x y da db d Q R2 (Dn.up dn1 ex2.1) dn2 q3 fun v F' H' ex R' dd => hq2 v F' H' ex R' dd
theorem de_op {op : Operator} {a b : Expr} {pos : Pos} {fa fb : Sg → Rs Sg DV} {h : PyData → PyData → Option PyData} (o : OpS X et (binaryOp op) h) (ha : DE X et W a fa) (hb : DE X et W b fb) : DE X et W (.BinOp a op b pos) (mBin h fa fb) :=
  de_bin_core o (fun pins s σ H Q I q => wpAny_BinOp (binT pe_w pe_w I q fun v u s2 x y H2 I2 rx ry ⟨r, ho, q⟩ => ho pins s2 σ H2 x y v u Q I2 rx ry q)) ha hb
theorem de_cmp {op : CmpOp} {a b : Expr} {pos : Pos} {fa fb : Sg → Rs Sg DV} {h : PyData → PyData → Option PyData} (o : OpS X et (compareOp op) h) (ha : DE X et W a fa) (hb : DE X et W b fb) (hm : behindInMarks op b = false := by exact nomark _) : DE X et W (.Compare a [op] [b] pos) (mBin h fa fb) :=
  de_bin_core o (fun pins s σ H Q I q => wpAny_Compare1 (binT pe_w pe_w I q fun v u s2 x y H2 I2 rx ry ⟨r, ho, q⟩ => ho pins s2 σ H2 x y v u Q I2 rx ry q) hm) ha hb
end
end DL
set_option Elab.async false
set_option linter.all false
set_option maxRecDepth 100000
set_option maxHeartbeats 4000000
set_option autoImplicit false
namespace DL
open PySem PySem.Spec L2
open PyProof.Rows hiding St
theorem tuple_mulS (l : Addr) (items : Array Value) (n : Nat) (dd : Option Addr) (sl : Array (Option Value)) (x : Int) (u : Tok) (c0 : (decide (x < -(2 ^ 63)) || decide (x ≥ 2 ^ 63)) = false) (c1 : (items.isEmpty || x == 1) = true) :
    Meets (Builtin.«tuple.__mul__» ⟨[.ref l, .int x u], []⟩) (fun _ R s => s.heap.get? l = some { cls := .type "tuple", dict := dd, data := .seq items n, slots := sl } ∧
      R (.ok (.ret (Value.ref l))) s) :=
  .of_wp fun prog w A R s h => by
    obtain ⟨hp, g, d, tk, os⟩ := s
    obtain ⟨hl, h⟩ := h
    have f1 := AutoSeq1.idx_int
    wp_walk using wpAny_loadPart' hl
    repeat (first
      | (refine wpAny_ite_false (decide_eq_false (by rw [c0]; exact Bool.false_ne_true)) ?_; wp_walk using wpAny_loadPart' hl)
      | (refine wpAny_ite_true (decide_eq_true c1) ?_; wp_walk using wpAny_loadPart' hl))
    all_goals exact ⟨_, rfl, h⟩
theorem tuple_mul0 (l : Addr) (items : Array Value) (n : Nat) (dd : Option Addr) (sl : Array (Option Value)) (x : Int) (u : Tok) (c0 : (decide (x < -(2 ^ 63)) || decide (x ≥ 2 ^ 63)) = false) (c1 : (items.isEmpty || x == 1) = false) (c2 : (decide (x ≤ 0) || items.isEmpty) = true) :
    Meets (Builtin.«tuple.__mul__» ⟨[.ref l, .int x u], []⟩) (fun _ R s => s.heap.get? l = some { cls := .type "tuple", dict := dd, data := .seq items n, slots := sl } ∧
      R (.ok (.ret (Value.ref s.heap.objs.size))) { s with heap := s.heap.push { cls := Value.type "tuple", data := Data.seq #[] }, toks := s.toks }) :=
  .of_wp fun prog w A R s h => by
    obtain ⟨hp, g, d, tk, os⟩ := s
    obtain ⟨hl, h⟩ := h
    have f1 := AutoSeq1.idx_int
    wp_walk using wpAny_loadPart' hl
    repeat (first
      | (refine wpAny_ite_false (decide_eq_false (by rw [c0]; exact Bool.false_ne_true)) ?_; wp_walk using wpAny_loadPart' hl)
      | (refine wpAny_ite_false (decide_eq_false (by rw [c1]; exact Bool.false_ne_true)) ?_; wp_walk using wpAny_loadPart' hl)
      | (refine wpAny_ite_true (decide_eq_true c2) ?_; wp_walk using wpAny_loadPart' hl))
    all_goals exact ⟨_, rfl, h⟩
def rRepS (K : PySem.W.Frag) : R2 := fun x y H Q => ∃ l k xs, x = .ref l ∧ y = .int k ∧ SqT K H l xs ∧ (xs = [] ∨ k = 1) ∧ -1000 ≤ k ∧ k ≤ 1000 ∧ Q (.ref l) H
def rRep0 (K : PySem.W.Frag) : R2 := fun x y H Q => ∃ l k xs, x = .ref l ∧ y = .int k ∧ SqT K H l xs ∧ xs ≠ [] ∧ -1000 ≤ k ∧ k ≤ 0 ∧ ∀ p, H p = none → Q (.ref p) (upd H p (.tup []))
section
variable {X : Cx}
theorem op_repS : OpR X (binaryOp .Mult) (rRepS X.K) := by
  intro pins s σ H x y v u Q I rx ry h
  obtain ⟨l, k, xs, rfl, rfl, hT, hne, h1, h2, q⟩ := h
  cases rx
  obtain ⟨t, rfl⟩ := ry
  obtain ⟨its, r, ⟨⟨cls, dd, data, sl⟩, ho, hc, n, hd⟩, hs⟩ := I.tuple hT
  simp only at hc hd
  subst hc hd
  have hle : its.length = xs.length := r.length.symm
  have c0 : (decide (k < -(2 ^ 63)) || decide (k ≥ 2 ^ 63)) = false := by
    rw [decide_eq_false (by omega), decide_eq_false (by omega)] <;> rfl
  have c1 : (its.toArray.isEmpty || k == 1) = true := by
    rcases hne with e | e
    · rw [e] at hle
      cases its with
      | nil => rfl
      | cons a b => cases hle
    · rw [e]
      exact Bool.or_true _
  refine wpAny_binaryOp_repeat_ref (T := "tuple") (U := "int") (by decide) ⟨_, ho, rfl⟩ (fun s' => typeIs_int s' k t) noFill_tuple_mul F.fills_int_mul F.slot_int_rmul repeat_tuple F.slot_int_index.lookup
    (call_meets F.slot_int_rmul (typeIs_int s k t) F.entry_int_rmul (F.args_int_rmul_2 _ _) (int_rmul_tuple k t l its.toArray n dd sl)
      ⟨ho, rfl, ⟨_, ho, rfl⟩, call_meets F.slot_tuple_mul ⟨_, ho, rfl⟩ F.entry_tuple_mul (F.args_tuple_mul_2 _ _) (tuple_mulS l its.toArray n dd sl k t c0 c1) ⟨ho, ?_⟩⟩)
  exact ⟨.ref l, _, I, rfl, q⟩
theorem op_rep0 : OpR X (binaryOp .Mult) (rRep0 X.K) := by
  intro pins s σ H x y v u Q I rx ry h
  obtain ⟨l, k, xs, rfl, rfl, hT, hne, h1, h2, q⟩ := h
  cases rx
  obtain ⟨t, rfl⟩ := ry
  obtain ⟨its, r, ⟨⟨cls, dd, data, sl⟩, ho, hc, n, hd⟩, hs⟩ := I.tuple hT
  simp only at hc hd
  subst hc hd
  have hle : its.length = xs.length := r.length.symm
  have hi : its.toArray.isEmpty = false := by
    cases its with
    | nil => exact absurd (List.eq_nil_of_length_eq_zero hle.symm) hne
    | cons a b => rfl
  have c0 : (decide (k < -(2 ^ 63)) || decide (k ≥ 2 ^ 63)) = false := by
    rw [decide_eq_false (by omega), decide_eq_false (by omega)] <;> rfl
  have c1 : (its.toArray.isEmpty || k == 1) = false := by
    rw [hi, Bool.false_or]
    exact beq_eq_false_iff_ne.mpr (by omega)
  have c2 : (decide (k ≤ 0) || its.toArray.isEmpty) = true := by
    rw [decide_eq_true h2]; rfl
  refine wpAny_binaryOp_repeat_ref (T := "tuple") (U := "int") (by decide) ⟨_, ho, rfl⟩ (fun s' => typeIs_int s' k t) noFill_tuple_mul F.fills_int_mul F.slot_int_rmul repeat_tuple F.slot_int_index.lookup
    (call_meets F.slot_int_rmul (typeIs_int s k t) F.entry_int_rmul (F.args_int_rmul_2 _ _) (int_rmul_tuple k t l its.toArray n dd sl)
      ⟨ho, rfl, ⟨_, ho, rfl⟩, call_meets F.slot_tuple_mul ⟨_, ho, rfl⟩ F.entry_tuple_mul (F.args_tuple_mul_2 _ _) (tuple_mul0 l its.toArray n dd sl k t c0 c1 c2) ⟨ho, ?_⟩⟩)
  refine ⟨.ref s.heap.objs.size, _, I.laid (t' := s.toks) (o := .tup []) (fun b ob q => Heap.get?_push_of_some _ q) (Nat.le_refl _) ?_, rfl, q _ (I.hok.fresh (Nat.le_refl _))⟩
  exact ⟨Nat.zero_le _, _, r.rep 0, IsTup.new _ _⟩
end
def rRepW (K : PySem.W.Frag) : R2 := fun x y H Q => ∃ l k xs, x = .ref l ∧ y = .int k ∧ SqT K H l xs ∧ xs ≠ [] ∧ 2 ≤ k ∧ k ≤ 100000 ∧ xs.length * k.toNat ≤ 100000 ∧ ∀ p, H p = none → Q (.ref p) (upd H p (.tup (List.replicate k.toNat xs).flatten))
theorem op_repW {X : Cx} : OpR X (binaryOp .Mult) (rRepW X.K) := by
  intro pins s σ H x y v u Q I rx ry h
  obtain ⟨l, k, xs, rfl, rfl, hT, hne, h1, h2, hz, q⟩ := h
  cases rx
  obtain ⟨t, rfl⟩ := ry
  obtain ⟨its, r, ⟨⟨cls, dd, data, sl⟩, ho, hc, n, hd⟩, hs⟩ := I.tuple hT
  simp only at hc hd
  subst hc hd
  have hle : its.length = xs.length := r.length.symm
  have hn : its ≠ [] := fun e => hne (by
    rw [e] at hle
    exact List.eq_nil_of_length_eq_zero hle.symm)
  have hi : its.toArray.isEmpty = false := by
    cases its with
    | nil => exact absurd rfl hn
    | cons a b => rfl
  have hsz0 : its.toArray.size = xs.length := by rw [List.size_toArray, hle]
  have hm : ((its.toArray.size : Nat) : Int) * k ≤ 100000 := by
    rw [hsz0]
    have ek : k = (k.toNat : Int) := by omega
    rw [ek, ← Int.natCast_mul]
    omega
  have fl0 : k.toNat * xs.length ≤ 100000 := by rw [Nat.mul_comm]; exact hz
  have flen : (List.replicate k.toNat its).flatten.length ≤ sizeLine := by
    rw [PyProof.Rows.lm_len_rep_flat, hle, sizeLine_eq]
    omega
  have c0 : (decide (k < -(2 ^ 63)) || decide (k ≥ 2 ^ 63)) = false := by
    rw [decide_eq_false (by omega), decide_eq_false (by omega)] <;> rfl
  have c1 : (its.toArray.isEmpty || k == 1) = false := by
    rw [hi, Bool.false_or]
    exact beq_eq_false_iff_ne.mpr (by omega)
  have c2 : (decide (k ≤ 0) || its.toArray.isEmpty) = false := by
    rw [hi, Bool.or_false]
    exact decide_eq_false (by omega)
  have c4 : Builtin.Tuple.tupleTooMany (((its.toArray.size : Nat) : Int) * k) = false := by
    unfold Builtin.Tuple.tupleTooMany
    rw [sizeLine_eq]
    exact decide_eq_false (by omega)
  refine wpAny_binaryOp_repeat_ref (T := "tuple") (U := "int") (by decide) ⟨_, ho, rfl⟩ (fun s' => typeIs_int s' k t) noFill_tuple_mul F.fills_int_mul F.slot_int_rmul repeat_tuple F.slot_int_index.lookup
    (call_meets F.slot_int_rmul (typeIs_int s k t) F.entry_int_rmul (F.args_int_rmul_2 _ _) (int_rmul_tuple k t l its.toArray n dd sl)
      ⟨ho, rfl, ⟨_, ho, rfl⟩, call_meets F.slot_tuple_mul ⟨_, ho, rfl⟩ F.entry_tuple_mul (F.args_tuple_mul_2 _ _) (tuple_mulW l its.toArray n dd sl k t c0 c1 c2 (by omega) c4 (by rw [size_rep, List.size_toArray]; exact flen)) ⟨ho, ?_⟩⟩)
  rw [size_rep]
  refine ⟨.ref s.heap.objs.size, _, I.laid (t' := s.toks) (o := .tup (List.replicate k.toNat xs).flatten) (fun b ob q => Heap.get?_push_of_some _ q) (Nat.le_refl _) ?_, rfl, q _ (I.hok.fresh (Nat.le_refl _))⟩
  exact ⟨by rw [PyProof.Rows.lm_len_rep_flat, sizeLine_eq]; omega, _, r.rep k.toNat, IsTup.new _ _⟩
end DL
set_option Elab.async false
set_option linter.all false
set_option maxRecDepth 100000
set_option maxHeartbeats 4000000
set_option autoImplicit false
namespace DL
open PySem PySem.Spec L2
open PyProof.Rows hiding St
section
variable {X : Cx} {et : ET} {W : WX}
def bigN : Nat := 16777216
theorem bigN_eq : sizeLine = bigN := sizeLine_eq
def dAdd : PyData → PyData → Option PyData
  | .int a, .int b => some (.int (a + b))
  | .tuple xs, .tuple ys => if xs.length + ys.length ≤ bigN then some (.tuple (xs ++ ys)) else none
  | .list xs, .list ys => if xs.length + ys.length ≤ bigN then some (.list (xs ++ ys)) else none
  | .str x, .str y => if x.length + y.length ≤ bigN then some (.str (x ++ y)) else none
  | _, _ => none
def dSub : PyData → PyData → Option PyData
  | .int a, .int b => some (.int (a - b))
  | _, _ => none
/-- these stand still at an unknown number, at once (a kernel that looks into them does not count down) -/
def small (a : Int) : Bool := decide (a.natAbs < 2 ^ 64)
def leB : Int → Int → Bool
  | .ofNat m, .ofNat n => Nat.ble m n
  | .ofNat _, .negSucc _ => false
  | .negSucc _, .ofNat _ => true
  | .negSucc m, .negSucc n => Nat.ble n m
def ltB (a b : Int) : Bool := !leB b a
theorem leB_iff {a b : Int} : leB a b = true ↔ a ≤ b := by
  cases a <;> cases b <;> simp only [leB, Nat.ble_eq, Bool.false_eq_true, true_iff, false_iff, Int.ofNat_eq_natCast] <;> omega
theorem leB_eq (a b : Int) : leB a b = decide (a ≤ b) := by rw [Bool.eq_iff_iff, leB_iff, decide_eq_true_eq]
theorem ltB_eq (a b : Int) : ltB a b = decide (a < b) := by
  unfold ltB
  rw [leB_eq, ← decide_not]
  exact decide_eq_decide.mpr Int.not_le
theorem leB_t {a b : Int} (h : a ≤ b) : leB a b = true := leB_iff.mpr h
theorem leB_f {a b : Int} (h : b < a) : leB a b = false := by rw [leB_eq]; exact decide_eq_false (by omega)
theorem ltB_t {a b : Int} (h : a < b) : ltB a b = true := by rw [ltB_eq]; exact decide_eq_true h
theorem ltB_f {a b : Int} (h : b ≤ a) : ltB a b = false := by rw [ltB_eq]; exact decide_eq_false (by omega)
theorem ltB_iff {a b : Int} : ltB a b = true ↔ a < b := by rw [ltB_eq, decide_eq_true_eq]
theorem small_of {a : Int} (h0 : -(2 ^ 64) < a) (h : a < 2 ^ 64) : small a = true := by
  unfold small
  rw [decide_eq_true_eq]
  omega
def dMul : PyData → PyData → Option PyData
  | .int a, .int b => if small a || small b then some (.int (a * b)) else none
  | .list xs, .int k => if decide (k.natAbs < 2 ^ 63) && decide (xs.length * k.toNat ≤ bigN) then some (.list (List.replicate k.toNat xs).flatten) else none
  | .tuple xs, .int k => if leB (-1000) k && leB k 1000 && decide (xs.length ≤ 1000) then some (.tuple (List.replicate k.toNat xs).flatten) else if leB 2 k && leB k 100000 && decide (0 < xs.length) && decide (xs.length * k.toNat ≤ 100000) then some (.tuple (List.replicate k.toNat xs).flatten) else none
  | _, _ => none
def dMod : PyData → PyData → Option PyData
  | .int a, .int b => if ltB 0 b then some (.int (a % b)) else none
  | _, _ => none
def dDiv : PyData → PyData → Option PyData
  | .int a, .int b => if ltB 0 b && ltB b 1073741824 then some (.int (a / b)) else none
  | _, _ => none
def dPow : PyData → PyData → Option PyData
  | .int a, .int b => if leB 0 b && leB b 1000000 && decide (a.natAbs < 2 ^ 64) then some (.int (a ^ b.toNat)) else none
  | _, _ => none
theorem Dn.int_of {K : PySem.W.Frag} {F : Hp} {v : V} {i : Int} (h : Dn K et F v (.int i)) : v = .int i := by cases h; rfl
theorem Dn.bl_of {K : PySem.W.Frag} {F : Hp} {v : V} {i : Bool} (h : Dn K et F v (.bool i)) : v = .bl i := by cases h; rfl
theorem Dn.str_of {K : PySem.W.Frag} {F : Hp} {v : V} {i : Str} (h : Dn K et F v (.str i)) : v = .str i := by cases h; rfl
theorem os_add : OpS X et (binaryOp .Add) dAdd := by
  intro am B F g σ H x y a b d Q R hx hy e q
  unfold dAdd at e
  split at e
  · cases e
    rw [hx.int_of, hy.int_of]
    exact ⟨_, op_add, _, _, rfl, rfl, q _ F H Ext.refl R (.int _)⟩
  · rename_i xs ys
    split at e
    · rename_i hz
      cases e
      cases hx with
      | tup sx dx =>
        cases hy with
        | tup sy dy =>
          refine ⟨_, op_catA, _, _, _, _, rfl, rfl, SqT.mono R.sub sx, SqT.mono R.sub sy, by rw [dx.length, dy.length, bigN_eq]; exact hz, fun e0 => ?_, fun _ e0 => ?_, fun _ _ p hp => ?_⟩
          · subst e0
            cases dx
            exact q _ F H Ext.refl R (.tup sy dy)
          · subst e0
            cases dy
            rw [List.append_nil] at q
            exact q _ F H Ext.refl R (.tup sx dx)
          · obtain ⟨R', ex⟩ := R.alloc hp (.tup (_ ++ _))
            exact q _ _ _ ex R' (.tup (SqT.of upd_same) ((dx.append dy).up ex.1))
    · cases e
  · rename_i xs ys
    split at e
    · rename_i hz
      cases e
      cases hx with
      | lst sx dx =>
        cases hy with
        | lst sy dy =>
          refine ⟨_, op_cat, _, _, _, _, rfl, rfl, R.sub _ _ sx, R.sub _ _ sy, by rw [dx.length, dy.length, bigN_eq]; exact hz, fun p hp => ?_⟩
          obtain ⟨R', ex⟩ := R.alloc hp (.lst (_ ++ _))
          exact q _ _ _ ex R' (.lst upd_same ((dx.append dy).up ex.1))
    · cases e
  · split at e
    · rename_i hz
      cases e
      rw [hx.str_of, hy.str_of]
      exact ⟨_, op_add_str, _, _, rfl, rfl, by rw [bigN_eq]; exact hz, q _ F H Ext.refl R (.str _)⟩
    · cases e
  · cases e
theorem os_sub : OpS X et (binaryOp .Sub) dSub := by
  intro am B F g σ H x y a b d Q R hx hy e q
  unfold dSub at e
  split at e
  · cases e
    rw [hx.int_of, hy.int_of]
    exact ⟨_, op_sub, _, _, rfl, rfl, q _ F H Ext.refl R (.int _)⟩
  · cases e
theorem DnAll.rep {K : PySem.W.Frag} {F : Hp} {vs : List V} {ds : List PyData} (h : DnAll K et F vs ds) : ∀ n : Nat, DnAll K et F (List.replicate n vs).flatten (List.replicate n ds).flatten
  | 0 => .nil
  | n + 1 => by
    rw [List.replicate_succ, List.replicate_succ, List.flatten_cons, List.flatten_cons]
    exact h.append (DnAll.rep h n)
theorem os_mul : OpS X et (binaryOp .Mult) dMul := by
  intro am B F g σ H x y a b d Q R hx hy e q
  unfold dMul at e
  split at e
  · rename_i i j
    split at e
    · rename_i hz
      cases e
      rw [hx.int_of, hy.int_of]
      refine ⟨_, op_mul, _, _, rfl, rfl, ?_, q _ F H Ext.refl R (.int _)⟩
      unfold small at hz
      simp only [Bool.or_eq_true, decide_eq_true_eq] at hz
      rcases hz with hz | hz
      · exact Or.inl ⟨by omega, by omega⟩
      · exact Or.inr ⟨by omega, by omega⟩
    · cases e
  · rename_i xs k
    split at e
    · rename_i hz
      cases e
      simp only [Bool.and_eq_true, decide_eq_true_eq] at hz
      rw [hy.int_of]
      cases hx with
      | lst sx dx =>
        refine ⟨_, op_rep, _, _, _, rfl, rfl, R.sub _ _ sx, by omega, by omega, by rw [dx.length, bigN_eq]; exact hz.2, fun p hp => ?_⟩
        obtain ⟨R', ex⟩ := R.alloc hp (.lst (List.replicate k.toNat _).flatten)
        exact q _ _ _ ex R' (.lst upd_same ((dx.rep _).up ex.1))
    · cases e
  · rename_i xs k
    split at e
    · rename_i hz
      cases e
      simp only [Bool.and_eq_true, decide_eq_true_eq, leB_iff] at hz
      rw [hy.int_of]
      cases hx with
      | tup sx dx =>
        by_cases hs : (xs = [] ∨ k = 1)
        · refine ⟨_, op_repS, _, _, _, rfl, rfl, SqT.mono R.sub sx, ?_, hz.1.1, hz.1.2, ?_⟩
          · rcases hs with e | e
            · subst e; cases dx; exact .inl rfl
            · exact .inr e
          · have ed : (List.replicate k.toNat xs).flatten = xs := by
              rcases hs with e | e
              · subst e; simp
              · subst e; simp
            exact q _ F H Ext.refl R (by rw [ed]; exact .tup sx dx)
        · have hx0 : xs ≠ [] := fun z => hs (.inl z)
          have hk1 : k ≠ 1 := fun z => hs (.inr z)
          by_cases h0 : k ≤ 0
          · refine ⟨_, op_rep0, _, _, _, rfl, rfl, SqT.mono R.sub sx, fun z => ?_, hz.1.1, h0, fun p hp => ?_⟩
            · subst z; cases dx; exact hx0 rfl
            · obtain ⟨R', ex⟩ := R.alloc hp (.tup [])
              refine q _ _ _ ex R' ?_
              rw [show k.toNat = 0 by omega]
              exact .tup (SqT.of upd_same) .nil
          · refine ⟨_, op_repT, _, _, _, rfl, rfl, SqT.mono R.sub sx, fun z => ?_, by omega, hz.1.2, by rw [dx.length]; exact hz.2, fun p hp => ?_⟩
            · subst z; cases dx; exact hx0 rfl
            · obtain ⟨R', ex⟩ := R.alloc hp (.tup (List.replicate k.toNat _).flatten)
              exact q _ _ _ ex R' (.tup (SqT.of upd_same) ((dx.rep _).up ex.1))
    · split at e
      · rename_i hz
        cases e
        simp only [Bool.and_eq_true, decide_eq_true_eq, leB_iff] at hz
        rw [hy.int_of]
        cases hx with
        | tup sx dx =>
          refine ⟨_, op_repW, _, _, _, rfl, rfl, SqT.mono R.sub sx, fun z => ?_, hz.1.1.1, hz.1.1.2, by rw [dx.length]; exact hz.2, fun p hp => ?_⟩
          · subst z; cases dx; exact absurd hz.1.2 (Nat.lt_irrefl 0)
          · obtain ⟨R', ex⟩ := R.alloc hp (.tup (List.replicate k.toNat _).flatten)
            exact q _ _ _ ex R' (.tup (SqT.of upd_same) ((dx.rep _).up ex.1))
      · cases e
  · cases e
theorem os_mod : OpS X et (binaryOp .Mod) dMod := by
  intro am B F g σ H x y a b d Q R hx hy e q
  unfold dMod at e
  split at e
  · split at e
    · rename_i hz
      cases e
      rw [hx.int_of, hy.int_of]
      exact ⟨_, op_mod, _, _, rfl, rfl, ltB_iff.mp hz, q _ F H Ext.refl R (.int _)⟩
    · cases e
  · cases e
theorem os_div : OpS X et (binaryOp .FloorDiv) dDiv := by
  intro am B F g σ H x y a b d Q R hx hy e q
  unfold dDiv at e
  split at e
  · split at e
    · rename_i hz
      cases e
      simp only [Bool.and_eq_true, ltB_iff] at hz
      rw [hx.int_of, hy.int_of]
      exact ⟨_, op_fdiv, _, _, rfl, rfl, hz, q _ F H Ext.refl R (.int _)⟩
    · cases e
  · cases e
theorem os_pow : OpS X et (binaryOp .Pow) dPow := by
  intro am B F g σ H x y a b d Q R hx hy e q
  unfold dPow at e
  split at e
  · split at e
    · rename_i hz
      cases e
      simp only [Bool.and_eq_true, decide_eq_true_eq, leB_iff] at hz
      rw [hx.int_of, hy.int_of]
      exact ⟨_, op_pow, _, _, rfl, rfl, ⟨hz.1.1, hz.1.2, hz.2⟩, q _ F H Ext.refl R (.int _)⟩
    · cases e
  · cases e
def dLt : PyData → PyData → Option PyData
  | .int a, .int b => some (.bool (ltB a b))
  | _, _ => none
def dLe : PyData → PyData → Option PyData
  | .int a, .int b => some (.bool (leB a b))
  | _, _ => none
def dGt : PyData → PyData → Option PyData
  | .int a, .int b => some (.bool (ltB b a))
  | _, _ => none
def dGe : PyData → PyData → Option PyData
  | .int a, .int b => some (.bool (leB b a))
  | _, _ => none
/-- lists of other lengths -/
def eqLen (k : Bool) : PyData → PyData → Option PyData
  | .list xs, .list ys => if xs.length = ys.length then none else some (.bool k)
  | _, _ => none
def dEq : PyData → PyData → Option PyData
  | .int a, .int b => some (.bool (decide (a = b)))
  | .str a, .str b => some (.bool (decide (a = b)))
  | a, b => if SeqAt.shaped a && SeqAt.shaped b then some (.bool (PyData.eqv a b)) else eqLen false a b
def dNe : PyData → PyData → Option PyData
  | .int a, .int b => some (.bool (!decide (a = b)))
  | .str a, .str b => some (.bool (!decide (a = b)))
  | a, b => if SeqAt.shaped a && SeqAt.shaped b then some (.bool (!PyData.eqv a b)) else eqLen true a b
def isNon : PyData → Bool
  | .none => true
  | _ => false
def dIs : PyData → PyData → Option PyData
  | a, .none => some (.bool (isNon a))
  | _, _ => none
def dIsNot : PyData → PyData → Option PyData
  | a, .none => some (.bool (!isNon a))
  | _, _ => none
theorem os_lt : OpS X et (compareOp .Lt) dLt := by
  intro am B F g σ H x y a b d Q R hx hy e q
  unfold dLt at e
  split at e
  · cases e
    rw [hx.int_of, hy.int_of]
    exact ⟨_, op_lt, _, _, rfl, rfl, by have := q _ F H Ext.refl R (.bl _); rw [ltB_eq] at this; exact this⟩
  · cases e
theorem os_le : OpS X et (compareOp .LtE) dLe := by
  intro am B F g σ H x y a b d Q R hx hy e q
  unfold dLe at e
  split at e
  · cases e
    rw [hx.int_of, hy.int_of]
    exact ⟨_, op_le, _, _, rfl, rfl, by have := q _ F H Ext.refl R (.bl _); rw [leB_eq] at this; exact this⟩
  · cases e
theorem os_gt : OpS X et (compareOp .Gt) dGt := by
  intro am B F g σ H x y a b d Q R hx hy e q
  unfold dGt at e
  split at e
  · cases e
    rw [hx.int_of, hy.int_of]
    exact ⟨_, op_gt, _, _, rfl, rfl, by have := q _ F H Ext.refl R (.bl _); rw [ltB_eq] at this; exact this⟩
  · cases e
theorem os_ge : OpS X et (compareOp .GtE) dGe := by
  intro am B F g σ H x y a b d Q R hx hy e q
  unfold dGe at e
  split at e
  · cases e
    rw [hx.int_of, hy.int_of]
    exact ⟨_, op_ge, _, _, rfl, rfl, by have := q _ F H Ext.refl R (.bl _); rw [leB_eq] at this; exact this⟩
  · cases e
theorem dec_i {i j : Int} : decide (V.int i = V.int j) = decide (i = j) := by rw [Bool.eq_iff_iff]; simp
theorem dec_s {i j : Str} : decide (V.str i = V.str j) = decide (i = j) := by rw [Bool.eq_iff_iff]; simp
theorem shaped_lay {d : PyData} (h : SeqAt.shaped d = true) : d.canLay0 = true := by
  unfold SeqAt.shaped at h
  rw [Bool.and_eq_true] at h
  exact h.1
theorem op_eqLen (hu : X.A.units < cLine) : OpR X (compareOp .Eq) (fun x y H Q => ∃ a b xs ys, x = .ref a ∧ y = .ref b ∧ SqL X.K H a xs ∧ SqL X.K H b ys ∧ xs.length ≠ ys.length ∧ Q (.bl false) H) := by
  intro pins s σ H x y v u Q I rx ry h
  obtain ⟨a, b, xs, ys, rfl, rfl, ha, hb, hn, q⟩ := h
  cases rx
  cases ry
  obtain ⟨its, rv, ⟨o, n, ho, hc, _, hd⟩, _⟩ := I.list ha
  obtain ⟨its2, rv2, ⟨o2, n2, ho2, hc2, _, hd2⟩, _⟩ := I.list hb
  have l1 := rv.length
  have l2 := rv2.length
  exact SeqAt.eq_list_lengthsAt ⟨o, ho, hc, n, hd⟩ ⟨o2, ho2, hc2, n2, hd2⟩ (by rw [bne_iff_ne]; intro z; rw [List.size_toArray, List.size_toArray] at z; omega) hu ⟨.bl false, H, I, rfl, q⟩
theorem op_neLen (hu : X.A.units < cLine) : OpR X (compareOp .NotEq) (fun x y H Q => ∃ a b xs ys, x = .ref a ∧ y = .ref b ∧ SqL X.K H a xs ∧ SqL X.K H b ys ∧ xs.length ≠ ys.length ∧ Q (.bl true) H) := by
  intro pins s σ H x y v u Q I rx ry h
  obtain ⟨a, b, xs, ys, rfl, rfl, ha, hb, hn, q⟩ := h
  cases rx
  cases ry
  obtain ⟨its, rv, ⟨o, n, ho, hc, _, hd⟩, _⟩ := I.list ha
  obtain ⟨its2, rv2, ⟨o2, n2, ho2, hc2, _, hd2⟩, _⟩ := I.list hb
  have l1 := rv.length
  have l2 := rv2.length
  exact SeqAt.RcNeAt.lists_lengths ⟨o, ho, hc, n, hd⟩ ⟨o2, ho2, hc2, n2, hd2⟩ (by rw [bne_iff_ne]; intro z; rw [List.size_toArray, List.size_toArray] at z; omega) hu _ _ _ _ ⟨.bl true, H, I, rfl, q⟩
theorem eqLen_of {K : PySem.W.Frag} {F H : Hp} {x y : V} {a b d : PyData} {k : Bool} (e : eqLen k a b = some d) (hx : Dn K et F x a) (hy : Dn K et F y b) (s : Same F H) : ∃ p q xs ys, x = .ref p ∧ y = .ref q ∧ SqL K H p xs ∧ SqL K H q ys ∧ xs.length ≠ ys.length ∧ d = .bool k := by
  unfold eqLen at e
  split at e
  · split at e
    · cases e
    · rename_i hn
      cases e
      cases hx with
      | lst h1 h2 =>
        cases hy with
        | lst h3 h4 => exact ⟨_, _, _, _, rfl, rfl, SqL.of (s _ _ h1), SqL.of (s _ _ h3), by rw [h2.length, h4.length]; exact hn, rfl⟩
  · cases e
theorem os_eq (hu : X.A.units + 64 < cLine) : OpS X et (compareOp .Eq) dEq := by
  intro am B F g σ H x y a b d Q R hx hy e q
  unfold dEq at e
  split at e
  · cases hx; cases hy; cases e
    exact ⟨_, op_eq, rfl, by rw [dec_i]; exact q _ F H Ext.refl R (.bl _)⟩
  · cases hx; cases hy; cases e
    exact ⟨_, op_eq, rfl, by rw [dec_s]; exact q _ F H Ext.refl R (.bl _)⟩
  split at e
  · rename_i hz
    cases e
    rw [Bool.and_eq_true] at hz
    exact ⟨_, op_eqD hu, _, _, Dn.dp _ _ (hx.up R.sub) (shaped_lay hz.1), Dn.dp _ _ (hy.up R.sub) (shaped_lay hz.2), hz.1, hz.2, q _ F H Ext.refl R (.bl _)⟩
  · obtain ⟨p1, p2, xs, ys, rfl, rfl, h1, h2, hn, rfl⟩ := eqLen_of e hx hy R.sub
    exact ⟨_, op_eqLen (by omega), p1, p2, xs, ys, rfl, rfl, h1, h2, hn, q _ F H Ext.refl R (.bl _)⟩
theorem os_ne (hu : X.A.units + 64 < cLine) : OpS X et (compareOp .NotEq) dNe := by
  intro am B F g σ H x y a b d Q R hx hy e q
  unfold dNe at e
  split at e
  · cases hx; cases hy; cases e
    exact ⟨_, op_ne, rfl, by rw [dec_i]; exact q _ F H Ext.refl R (.bl _)⟩
  · cases hx; cases hy; cases e
    exact ⟨_, op_ne, rfl, by rw [dec_s]; exact q _ F H Ext.refl R (.bl _)⟩
  split at e
  · rename_i hz
    cases e
    rw [Bool.and_eq_true] at hz
    exact ⟨_, op_neD hu, _, _, Dn.dp _ _ (hx.up R.sub) (shaped_lay hz.1), Dn.dp _ _ (hy.up R.sub) (shaped_lay hz.2), hz.1, hz.2, q _ F H Ext.refl R (.bl _)⟩
  · obtain ⟨p1, p2, xs, ys, rfl, rfl, h1, h2, hn, rfl⟩ := eqLen_of e hx hy R.sub
    exact ⟨_, op_neLen (by omega), p1, p2, xs, ys, rfl, rfl, h1, h2, hn, q _ F H Ext.refl R (.bl _)⟩
theorem dec_non {K : PySem.W.Frag} {F : Hp} {x : V} {a : PyData} (h : Dn K et F x a) : decide (x = .non) = isNon a := by
  cases h <;> first | rfl | exact decide_eq_false (fun z => nomatch z)
theorem os_is : OpS X et (compareOp .Is) dIs := by
  intro am B F g σ H x y a b d Q R hx hy e q
  unfold dIs at e
  split at e
  · cases e
    cases hy
    exact ⟨_, op_isN, rfl, by rw [dec_non hx]; exact q _ F H Ext.refl R (.bl _)⟩
  · cases e
def asB : DV → Option Bool
  | .pu (.bool b) => some b
  | _ => none
def mTest (f : Sg → Rs Sg DV) (g : Sg) : Rs Sg Bool := (f g).bind fun x g1 => Rs.of (asB x) g1
theorem DenP.bl_of {K : PySem.W.Frag} {et : ET} {am : Addr} {F : Hp} {v : V} {x : DV} {b : Bool} (h : DenP K et am F v x) (e : asB x = some b) : v = .bl b := by
  unfold asB at e
  split at e
  · cases e
    exact Dn.bl_of h
  · cases e
theorem dt_val {e : Expr} {f : Sg → Rs Sg DV} (h : DE X et W e f) (he : ∀ whole, isTrue e X.env whole = (do let v ← whole; standAt e.pos; holding [v] (truthy v)) := by intro _; rfl) : DT X et W e (mTest f) := by
  intro am B F g σ H Q R hq
  refine wt_of (pt_val pe_w he) (h.then (goodB (Q := Q)) R hq fun d g1 v F1 H1 ex1 R1 dn1 hq1 => ?_)
  cases q : asB d with
  | none => rw [q] at hq1; exact hq1.elim
  | some b =>
    rw [q] at hq1
    exact ⟨b, dn1.bl_of q, hq1 F1 H1 Ext.refl R1⟩
theorem dt_cmp {op : CmpOp} {a b : Expr} {pos : Pos} {fa fb : Sg → Rs Sg DV} {h : PyData → PyData → Option PyData} (o : OpS X et (compareOp op) h) (ha : DE X et W a fa) (hb : DE X et W b fb) (hm : behindInMarks op b = false := by exact nomark _) : DT X et W (.Compare a [op] [b] pos) (mTest (mBin h fa fb)) := by
  intro am B F g σ H Q R hq
  have hq : OkB X.K et W am B F σ Q ((fa g).bind fun x g1 => (fb g1).bind fun y g2 => (match x, y with | .pu a, .pu b => Rs.of ((h a b).map .pu) g2 | _, _ => .no : Rs Sg DV).bind fun x g3 => Rs.of (asB x) g3) := by
    have w : mTest (mBin h fa fb) g = ((fa g).bind fun x g1 => (fb g1).bind fun y g2 => (match x, y with | .pu a, .pu b => Rs.of ((h a b).map .pu) g2 | _, _ => .no : Rs Sg DV).bind fun x g3 => Rs.of (asB x) g3) := by
      unfold mTest mBin
      cases fa g with
      | ok d g1 =>
        rw [Rs.bind_ok, Rs.bind_ok]
        cases fb g1 <;> rfl
      | ex => rfl
      | no => rfl
    rw [← w]
    exact hq
  refine ⟨fun pins s I => wpAny_isTrue_Compare1 (thn ((ha.then (goodB (Q := Q)) R hq (Q := fun x H1 => wE X b σ H1 fun y H2 => ∃ r : R2, OpR X (compareOp op) r ∧ r x y H2 fun z H3 => ∃ k, z = .bl k ∧ Q k H3) (fun dx g1 x F1 H1 ex1 R1 dn1 hq1 => hb.then (goodB (Q := Q)) R1 hq1 fun dy g2 y F2 H2 ex2 R2 dn2 hq2 => ?_)).run pins s I)
    fun v s1 ⟨x, H1, I1, r1, q1⟩ => thn (q1.run pins s1 I1) fun u s2 ⟨y, H2, I2, r2, r, ho, q2⟩ => thn (ho pins s2 σ H2 x y v u _ I2 r1 r2 q2) fun c s3 ⟨z, H3, I3, r3, k, e, q3⟩ => ?_) hm⟩
  · cases dx with
    | own _ => exact hq2.elim
    | m => exact hq2.elim
    | scr _ => exact hq2.elim
    | clo _ => exact hq2.elim
    | exc _ _ => exact hq2.elim
    | dic _ => exact hq2.elim
    | dki _ => exact hq2.elim
    | pu da =>
      cases dy with
      | own _ => exact hq2.elim
      | m => exact hq2.elim
      | scr _ => exact hq2.elim
      | clo _ => exact hq2.elim
      | exc _ _ => exact hq2.elim
      | dic _ => exact hq2.elim
      | dki _ => exact hq2.elim
      | pu db =>
        have hq2 : OkB X.K et W am B F2 σ Q ((Rs.of ((h da db).map .pu) g2).bind fun x g3 => Rs.of (asB x) g3) := hq2
        cases q3 : h da db with
        | none => rw [q3] at hq2; exact hq2.elim
        | some d =>
          rw [q3] at hq2
          have hq2 : OkB X.K et W am B F2 σ Q (Rs.of (asB (.pu d)) g2) := hq2
          refine o am B F2 g2 σ H2 x y da db d _ R2 (Dn.up dn1 ex2.1) dn2 q3 fun v F' H' ex R' dd => ?_
          cases q4 : asB (.pu d) with
          | none => rw [q4] at hq2; exact hq2.elim
          | some k =>
            rw [q4] at hq2
            exact ⟨k, DenP.bl_of (am := am) (show DenP X.K et am F' v (.pu d) from dd) q4, hq2 F' H' ex R'⟩
  · subst e
    cases r3
    exact wpAny_truthy_bool ⟨H3, I3, q3⟩
def mNotB (f : Sg → Rs Sg Bool) (g : Sg) : Rs Sg Bool := (f g).bind fun b g1 => .ok (!b) g1
theorem dt_not {e : Expr} {pos : Pos} {f : Sg → Rs Sg Bool} (h : DT X et W e f) : DT X et W (.UnaryOp .Not e pos) (mNotB f) := fun am B F g σ H Q R hq =>
  wt_of (pt_not pt_w) (h.then (goodB (Q := Q)) R hq fun d g1 F1 H1 ex1 R1 hq1 => hq1 F1 H1 Ext.refl R1)
/-- and, or: tests whatever the whole is -/
structure wW (X : Cx) (e : Expr) (σ : St) (H : Hp) (Q : Bool → Hp → Prop) : Prop where
  run : ∀ (whole : Sem Value) (pins : List (Addr × Obj)) (s : Shared), Inv X pins σ H s → wpAny (model X.prog X.w) X.A (isTrue e X.env whole) (TP X pins σ Q) X.xe s
def DW (X : Cx) (et : ET) (W : WX) (e : Expr) (f : Sg → Rs Sg Bool) : Prop :=
  ∀ am B F g σ H Q, RepF X.K et am B F g σ H → OkB X.K et W am B F σ Q (f g) → wW X e σ H Q
theorem pw_w {e : Expr} : PW X e (wW X e) := ⟨fun whole pins s _ _ _ I h => h.run whole pins s I⟩
theorem ww_of {e : Expr} {t : TT} (h : PW X e t) {σ : St} {H : Hp} {Q : Bool → Hp → Prop} (q : t σ H Q) : wW X e σ H Q := ⟨fun whole pins s I => h.run whole pins s σ H Q I q⟩
theorem DW.dt {e : Expr} {f : Sg → Rs Sg Bool} (h : DW X et W e f) : DT X et W e f := fun am B F g σ H Q R hq => ⟨fun pins s I => (h am B F g σ H Q R hq).run _ pins s I⟩
def mAndB (fa fb : Sg → Rs Sg Bool) (g : Sg) : Rs Sg Bool := (fa g).bind fun a g1 => if a = true then fb g1 else .ok false g1
def mOrB (fa fb : Sg → Rs Sg Bool) (g : Sg) : Rs Sg Bool := (fa g).bind fun a g1 => if a = true then .ok true g1 else fb g1
theorem dw_or1 {a : Expr} {pos : Pos} {f : Sg → Rs Sg Bool} (h : DT X et W a f) : DW X et W (.BoolOp .Or [a] pos) f := fun am B F g σ H Q R hq => ww_of (pw_or1 pt_w) (h am B F g σ H Q R hq)
theorem dw_or {a b : Expr} {rest : List Expr} {pos : Pos} {fa fb : Sg → Rs Sg Bool} (ha : DT X et W a fa) (hb : DW X et W (.BoolOp .Or (b :: rest) pos) fb) : DW X et W (.BoolOp .Or (a :: b :: rest) pos) (mOrB fa fb) := fun am B F g σ H Q R hq => by
  refine ww_of (pw_or pt_w pw_w) (ha.then (goodB (Q := Q)) R hq fun d g1 F1 H1 ex1 R1 hq1 => ?_)
  cases d with
  | true => exact iteT (hq1 F1 H1 Ext.refl R1)
  | false => exact iteF (hb am B F1 g1 σ H1 Q R1 hq1)
def mAndV (fa fb : Sg → Rs Sg DV) (g : Sg) : Rs Sg DV := (fa g).bind fun x g1 => (Rs.of (asB x) g1).bind fun a g2 => if a = true then fb g2 else .ok (.pu (.bool false)) g2
def mOrV (fa fb : Sg → Rs Sg DV) (g : Sg) : Rs Sg DV := (fa g).bind fun x g1 => (Rs.of (asB x) g1).bind fun a g2 => if a = true then .ok (.pu (.bool true)) g2 else fb g2
def mNotV (f : Sg → Rs Sg DV) (g : Sg) : Rs Sg DV := (f g).bind fun x g1 => (Rs.of (asB x) g1).bind fun a g2 => .ok (.pu (.bool (!a))) g2
theorem de_one {op : BoolOp} {a : Expr} {pos : Pos} {f : Sg → Rs Sg DV} (h : DE X et W a f) (rule : ∀ {t : TE}, PE X a t → PE X (.BoolOp op [a] pos) t) : DE X et W (.BoolOp op [a] pos) f := fun am B F g σ H Q R hq =>
  w_of (rule pe_w) (h am B F g σ H Q R hq)
theorem de_and {a b : Expr} {rest : List Expr} {pos : Pos} {fa fb : Sg → Rs Sg DV} (ha : DE X et W a fa) (hb : DE X et W (.BoolOp .And (b :: rest) pos) fb) : DE X et W (.BoolOp .And (a :: b :: rest) pos) (mAndV fa fb) := fun am B F g σ H Q R hq => by
  refine w_of (pe_and pe_w pe_w) (ha.then (goodV (Q := Q)) R hq fun d g1 v F1 H1 ex1 R1 dn1 hq1 => ?_)
  cases q : asB d with
  | none => rw [q] at hq1; exact hq1.elim
  | some k =>
    rw [q] at hq1
    refine ⟨k, dn1.bl_of q, ?_⟩
    cases k with
    | true => exact iteT (hb am B F1 g1 σ H1 Q R1 hq1)
    | false => exact iteF (hq1 _ F1 H1 Ext.refl R1 (.bl false))
theorem de_not {a : Expr} {pos : Pos} {fa : Sg → Rs Sg DV} (ha : DE X et W a fa) : DE X et W (.UnaryOp .Not a pos) (mNotV fa) := fun am B F g σ H Q R hq => by
  refine w_of (pe_not pe_w) (ha.then (goodV (Q := Q)) R hq fun d g1 v F1 H1 ex1 R1 dn1 hq1 => ?_)
  cases q : asB d with
  | none => rw [q] at hq1; exact hq1.elim
  | some k =>
    rw [q] at hq1
    exact ⟨k, dn1.bl_of q, hq1 _ F1 H1 Ext.refl R1 (.bl _)⟩
def mIf {β : Type} (c : Sg → Rs Sg Bool) (fa fb : Sg → Rs Sg β) (g : Sg) : Rs Sg β := (c g).bind fun b g1 => if b = true then fa g1 else fb g1
theorem de_if {c a b : Expr} {pos : Pos} {fc : Sg → Rs Sg Bool} {fa fb : Sg → Rs Sg DV} (hc : DT X et W c fc) (ha : DE X et W a fa) (hb : DE X et W b fb) : DE X et W (.IfExp c a b pos) (mIf fc fa fb) := fun am B F g σ H Q R hq => by
  refine w_of (pe_ifExp pt_w pe_w pe_w) (hc.then (goodV (Q := Q)) R hq fun d g1 F1 H1 ex1 R1 hq1 => ?_)
  cases d with
  | true => exact iteT (ha am B F1 g1 σ H1 Q R1 hq1)
  | false => exact iteF (hb am B F1 g1 σ H1 Q R1 hq1)
def mNeg (f : Sg → Rs Sg DV) (g : Sg) : Rs Sg DV := (f g).bind fun x g1 => match x with | .pu (.int i) => .ok (.pu (.int (-i))) g1 | _ => .no
theorem de_neg {a : Expr} {pos : Pos} {fa : Sg → Rs Sg DV} (ha : DE X et W a fa) : DE X et W (.UnaryOp .USub a pos) (mNeg fa) := fun am B F g σ H Q R hq => by
  refine w_of (pe_un un_neg pe_w) (ha.then (goodV (Q := Q)) R hq fun d g1 v F1 H1 ex1 R1 dn1 hq1 => ?_)
  split at hq1
  · rename_i i
    exact ⟨i, Dn.int_of dn1, hq1 _ F1 H1 Ext.refl R1 (.int _)⟩
  · exact hq1.elim
/-- a chain of two comparisons -/
def mChain (h h' : PyData → PyData → Option PyData) (fa fb fc : Sg → Rs Sg DV) (g : Sg) : Rs Sg DV :=
  (fa g).bind fun x g1 => (fb g1).bind fun y g2 => match x, y with
    | .pu a, .pu b => (Rs.of ((h a b).bind fun d => asB (.pu d)) g2).bind fun k g3 => if k = true then (fc g3).bind fun z g4 => (match z with | .pu c => Rs.of ((h' b c).map .pu) g4 | _ => .no) else .ok (.pu (.bool false)) g3
    | _, _ => .no
end
end DL
set_option Elab.async false
set_option linter.all false
set_option maxRecDepth 100000
set_option maxHeartbeats 4000000
set_option autoImplicit false
namespace DL
open PySem PySem.Spec L2
open PyProof.Rows hiding St
section
variable {X : Cx} {et : ET} {W : WX}
theorem chain_read {β : Type} {a b c : Expr} {op op' : CmpOp} {h h' : PyData → PyData → Option PyData} {fa fb fc : Sg → Rs Sg DV} (o : OpS X et (compareOp op) h) (o' : OpS X et (compareOp op') h') (ha : DE X et W a fa) (hb : DE X et W b fb) (hc : DE X et W c fc)
    {am : Addr} {B F : Hp} {g : Sg} {σ : St} {H : Hp} {O : Hp → Rs Sg β → Prop} (G : Good X.K et W am B σ O) {k : DV → Sg → Rs Sg β} {Q : VK} (R : RepF X.K et am B F g σ H) (hq : O F ((mChain h h' fa fb fc g).bind k))
    (nx : ∀ d g' v F' H', Ext B F F' → RepF X.K et am B F' g' σ H' → DenP X.K et am F' v d → O F' (k d g') → Q v H') :
    wE X a σ H fun x H1 => wE X b σ H1 fun y H2 => ∃ r : R2, OpR X (compareOp op) r ∧ r x y H2 fun z H3 => ∃ k, z = .bl k ∧ if k = true then (wE X c σ H3 fun w' H4 => ∃ r' : R2, OpR X (compareOp op') r' ∧ r' y w' H4 Q) else Q (.bl false) H3 := by
  have e1 : (mChain h h' fa fb fc g).bind k = (fa g).bind fun x g1 => (fb g1).bind fun y g2 => (match x, y with
    | .pu a, .pu b => (Rs.of ((h a b).bind fun d => asB (.pu d)) g2).bind fun k g3 => if k = true then (fc g3).bind fun z g4 => (match z with | .pu c => Rs.of ((h' b c).map .pu) g4 | _ => .no) else .ok (.pu (.bool false)) g3
    | _, _ => .no : Rs Sg DV).bind k := by
    unfold mChain
    cases fa g with
    | ok d g1 =>
      rw [Rs.bind_ok, Rs.bind_ok]
      cases fb g1 <;> rfl
    | ex => rfl
    | no => rfl
  rw [e1] at hq
  refine ha.then G R hq fun dx g1 x F1 H1 ex1 R1 dn1 hq1 => hb.then G R1 hq1 fun dy g2 y F2 H2 ex2 R2 dn2 hq2 => ?_
  cases dx with
  | own _ => exact (G.no _ hq2).elim
  | m => exact (G.no _ hq2).elim
  | scr _ => exact (G.no _ hq2).elim
  | clo _ => exact (G.no _ hq2).elim
  | exc _ _ => exact (G.no _ hq2).elim
  | dic _ => exact (G.no _ hq2).elim
  | dki _ => exact (G.no _ hq2).elim
  | pu da =>
    cases dy with
    | own _ => exact (G.no _ hq2).elim
    | m => exact (G.no _ hq2).elim
    | scr _ => exact (G.no _ hq2).elim
    | clo _ => exact (G.no _ hq2).elim
    | exc _ _ => exact (G.no _ hq2).elim
    | dic _ => exact (G.no _ hq2).elim
    | dki _ => exact (G.no _ hq2).elim
    | pu db =>
      have hq2 : O F2 (((Rs.of ((h da db).bind fun d => asB (.pu d)) g2).bind fun k g3 => if k = true then (fc g3).bind fun z g4 => (match z with | .pu c => Rs.of ((h' db c).map .pu) g4 | _ => .no) else .ok (.pu (.bool false)) g3).bind k) := hq2
      cases q3 : h da db with
      | none => rw [q3] at hq2; exact (G.no _ hq2).elim
      | some d =>
        rw [q3, Option.bind_some] at hq2
        refine o am B F2 g2 σ H2 x y da db d _ R2 (Dn.up dn1 ex2.1) dn2 q3 fun v F3 H3 ex3 R3 dd => ?_
        cases q4 : asB (.pu d) with
        | none => rw [q4] at hq2; exact (G.no _ hq2).elim
        | some kk =>
          rw [q4] at hq2
          refine ⟨kk, DenP.bl_of (am := am) (show DenP X.K et am F3 v (.pu d) from dd) q4, ?_⟩
          cases kk with
          | false => exact iteF (nx (.pu (.bool false)) g2 _ F3 H3 (ex1.trans (ex2.trans ex3)) R3 (.bl false) (G.weak F2 F3 _ ex3 hq2))
          | true =>
            refine iteT ?_
            have hq3 : O F3 ((fc g2).bind fun z g4 => ((match z with | .pu c => Rs.of ((h' db c).map .pu) g4 | _ => .no : Rs Sg DV)).bind k) := by
              have z := G.weak F2 F3 _ ex3 hq2
              have e2 : ((Rs.of (some true) g2).bind fun k g3 => if k = true then (fc g3).bind fun z g4 => (match z with | .pu c => Rs.of ((h' db c).map .pu) g4 | _ => .no : Rs Sg DV) else .ok (.pu (.bool false)) g3).bind k = (fc g2).bind fun z g4 => ((match z with | .pu c => Rs.of ((h' db c).map .pu) g4 | _ => .no : Rs Sg DV)).bind k := by
                show ((fc g2).bind fun z g4 => (match z with | .pu c => Rs.of ((h' db c).map .pu) g4 | _ => .no : Rs Sg DV)).bind k = _
                cases fc g2 <;> rfl
              rw [← e2]
              exact z
            refine hc.then G R3 hq3 fun dz g4 z F4 H4 ex4 R4 dn4 hq4 => ?_
            cases dz with
            | own _ => exact (G.no _ hq4).elim
            | m => exact (G.no _ hq4).elim
            | scr _ => exact (G.no _ hq4).elim
            | clo _ => exact (G.no _ hq4).elim
            | exc _ _ => exact (G.no _ hq4).elim
            | dic _ => exact (G.no _ hq4).elim
            | dki _ => exact (G.no _ hq4).elim
            | pu dc =>
              have hq4 : O F4 ((Rs.of ((h' db dc).map .pu) g4).bind k) := hq4
              cases q5 : h' db dc with
              | none => rw [q5] at hq4; exact (G.no _ hq4).elim
              | some d5 =>
                rw [q5] at hq4
                exact o' am B F4 g4 σ H4 y z db dc d5 Q R4 (Dn.up dn2 (Same.tr ex3.1 ex4.1)) dn4 q5 fun v F5 H5 ex5 R5 dd5 => nx (.pu d5) g4 v F5 H5 (ex1.trans (ex2.trans (ex3.trans (ex4.trans ex5)))) R5 dd5 (G.weak F4 F5 _ ex5 hq4)
theorem rs_bind_ok {x : Rs Sg DV} : x.bind (fun d g => .ok d g) = x := by cases x <;> rfl
theorem de_chain {a b c : Expr} {pos : Pos} {op op' : CmpOp} {h h' : PyData → PyData → Option PyData} {fa fb fc : Sg → Rs Sg DV} (o : OpS X et (compareOp op) h) (o' : OpS X et (compareOp op') h') (ha : DE X et W a fa) (hb : DE X et W b fb) (hc : DE X et W c fc)
    (hm : lastMarks [op, op'] [b, c] = false := by with_unfolding_all rfl) : DE X et W (.Compare a [op, op'] [b, c] pos) (mChain h h' fa fb fc) := fun am B F g σ H Q R hq => by
  refine ⟨fun pins s I => ?_⟩
  rw [← rs_bind_ok (x := mChain h h' fa fb fc g)] at hq
  have rd := chain_read o o' ha hb hc (goodV (Q := Q)) (Q := Q) R hq fun d g' v F' H' ex R' dn hq => hq v F' H' Ext.refl R' dn
  refine Compare_chain (thn (rd.run pins s I) fun v s1 ⟨x, H1, I1, r1, q1⟩ => chain_link (thn (q1.run pins s1 I1) fun u s2 ⟨y, H2, I2, r2, r, ho, q2⟩ => thn (ho pins s2 σ H2 x y v u _ I2 r1 r2 q2) fun d s3 ⟨z, H3, I3, r3, k, e, q3⟩ => ?_)) hm
  subst e
  cases r3
  refine wpAny_truthy_bool ?_
  cases k with
  | false => exact ite_ff ⟨.bl false, H3, I3, rfl, q3⟩
  | true =>
    have q3 : wE X c σ H3 _ := q3
    exact ite_tt (chain_last (thn (q3.run pins s3 I3) fun w' s4 ⟨z', H4, I4, r4, r', ho', q4⟩ => ho' pins s4 σ H4 y z' u w' Q I4 r2 r4 q4))
theorem dt_chain {a b c : Expr} {pos : Pos} {op op' : CmpOp} {h h' : PyData → PyData → Option PyData} {fa fb fc : Sg → Rs Sg DV} (o : OpS X et (compareOp op) h) (o' : OpS X et (compareOp op') h') (ha : DE X et W a fa) (hb : DE X et W b fb) (hc : DE X et W c fc)
    (hm : lastMarks [op, op'] [b, c] = false := by with_unfolding_all rfl) : DT X et W (.Compare a [op, op'] [b, c] pos) (mTest (mChain h h' fa fb fc)) := fun am B F g σ H Q R hq => by
  refine ⟨fun pins s I => ?_⟩
  have rd := chain_read o o' ha hb hc (goodB (Q := Q)) (Q := fun v H' => ∃ b, v = .bl b ∧ Q b H') R hq fun d g' v F' H' ex R' dn hq => by
    cases q : asB d with
    | none => rw [q] at hq; exact hq.elim
    | some kk =>
      rw [q] at hq
      exact ⟨kk, dn.bl_of q, hq F' H' Ext.refl R'⟩
  refine isTrue_chain (thn (rd.run pins s I) fun v s1 ⟨x, H1, I1, r1, q1⟩ => test_link (thn (q1.run pins s1 I1) fun u s2 ⟨y, H2, I2, r2, r, ho, q2⟩ => thn (ho pins s2 σ H2 x y v u _ I2 r1 r2 q2) fun d s3 ⟨z, H3, I3, r3, k, e, q3⟩ => ?_)) hm
  subst e
  cases r3
  refine wpAny_truthy_bool ?_
  cases k with
  | false =>
    obtain ⟨k', e', q'⟩ := q3
    cases e'
    exact ite_ff ⟨H3, I3, q'⟩
  | true =>
    have q3 : wE X c σ H3 _ := q3
    refine ite_tt (test_last (thn (q3.run pins s3 I3) fun w' s4 ⟨z', H4, I4, r4, r', ho', q4⟩ => thn (ho' pins s4 σ H4 y z' u w' _ I4 r2 r4 q4) fun d' s5 ⟨z2, H5, I5, r5, k2, e2, q5⟩ => ?_))
    subst e2
    cases r5
    exact wpAny_truthy_bool ⟨H5, I5, q5⟩
def isStar : Expr → Bool
  | .Starred _ _ => true
  | _ => false
theorem star_ok {e : Expr} {es : List Expr} {env : Env} (h : isStar e = false) : starEach (e :: es) env = (false, eval e env) :: starEach es env := by
  cases e <;> first | rfl | cases h
theorem star1_ok {e : Expr} {env : Env} (h : isStar e = false) : starEach [e] env = [(false, eval e env)] := (star_ok h).trans (by rfl)
theorem star2_ok {a b : Expr} {env : Env} (h : isStar a = false) (h2 : isStar b = false) : starEach [a, b] env = [(false, eval a env), (false, eval b env)] := (star_ok h).trans (by rw [star1_ok h2])
theorem plain_ok {pos : Pos} {env : Env} : ∀ {es : List Expr}, (es.all fun e => !isStar e) = true → (backTo pos (starEach es env)).any (·.1) = false
  | [], _ => rfl
  | e :: es, h => by
    rw [List.all_cons, Bool.and_eq_true] at h
    have h1 : isStar e = false := by simpa using h.1
    rw [star_ok h1]
    show (false || (backTo pos (starEach es env)).any (·.1)) = false
    rw [plain_ok h.2]
    rfl
def mNil (g : Sg) : Rs Sg (List DV) := .ok [] g
def mCons (fa : Sg → Rs Sg DV) (fr : Sg → Rs Sg (List DV)) (g : Sg) : Rs Sg (List DV) := (fa g).bind fun x g1 => (fr g1).bind fun xs g2 => .ok (x :: xs) g2
theorem da_nil : DA X et W [] mNil := fun am B F g σ H Q R hq => wa_of pa_nil (hq [] F H Ext.refl R .nil)
theorem da_cons {e : Expr} {es : List Expr} {fa : Sg → Rs Sg DV} {fr : Sg → Rs Sg (List DV)} (ha : DE X et W e fa) (hr : DA X et W es fr) (hs : starEach (e :: es) X.env = (false, eval e X.env) :: starEach es X.env := by exact star_ok rfl) : DA X et W (e :: es) (mCons fa fr) := fun am B F g σ H Q R hq =>
  wa_of (pa_cons pe_w pa_w hs) (ha.then (goodL (Q := Q)) R hq fun d g1 v F1 H1 ex1 R1 dn1 hq1 => hr.then (goodL (Q := Q)) R1 hq1 fun ds g2 vs F2 H2 ex2 R2 dn2 hq2 => hq2 (v :: vs) F2 H2 Ext.refl R2 (.cons (dn1.up ex2.1) dn2))
def allP : List DV → Option (List PyData)
  | [] => some []
  | .pu d :: r => (allP r).map (d :: ·)
  | _ :: _ => none
theorem DenL.all {K : PySem.W.Frag} {et : ET} {am : Addr} {F : Hp} : ∀ {vs : List V} {ds : List DV} {ps : List PyData}, DenL K et am F vs ds → allP ds = some ps → DnAll K et F vs ps
  | _, _, _, .nil, e => by cases e; exact .nil
  | _, .pu d :: r, ps, .cons h t, e => by
    have e : (allP r).map (d :: ·) = some ps := e
    cases q : allP r with
    | none => rw [q] at e; cases e
    | some ps' =>
      rw [q] at e
      cases e
      exact .cons h (DenL.all t q)
  | _, .own _ :: _, _, .cons _ _, e => by cases e
  | _, .m :: _, _, .cons _ _, e => by cases e
  | _, .scr _ :: _, _, .cons _ _, e => by cases e
def mSeq (mk : List PyData → PyData) (fs : Sg → Rs Sg (List DV)) (g : Sg) : Rs Sg DV := (fs g).bind fun xs g1 => match allP xs with
  | some ps => if ps.length ≤ bigN then .ok (.pu (mk ps)) g1 else .no
  | none => .no
theorem de_tup {es : List Expr} {n : Nat} {pos : Pos} {fs : Sg → Rs Sg (List DV)} (h : DA X et W es fs) : DE X et W (.Tuple es n pos) (mSeq .tuple fs) := fun am B F g σ H Q R hq => by
  refine w_of (pe_tup pa_w) (h.then (goodV (Q := Q)) R hq fun ds g1 vs F1 H1 ex1 R1 dn1 hq1 => ?_)
  cases q : allP ds with
  | none => simp only [q] at hq1; exact hq1.elim
  | some ps =>
    simp only [q] at hq1
    have da := dn1.all q
    split at hq1
    · rename_i hz
      refine ⟨by rw [da.length, bigN_eq]; exact hz, fun p hp => ?_⟩
      obtain ⟨R', ex⟩ := R1.alloc hp (.tup vs)
      exact hq1 _ _ _ ex R' (.tup (SqT.of upd_same) (da.up ex.1))
    · exact hq1.elim
theorem de_lst {es : List Expr} {pos : Pos} {fs : Sg → Rs Sg (List DV)} (h : DA X et W es fs) : DE X et W (.List es pos) (mSeq .list fs) := fun am B F g σ H Q R hq => by
  refine w_of (pe_lst pa_w) (h.then (goodV (Q := Q)) R hq fun ds g1 vs F1 H1 ex1 R1 dn1 hq1 => ?_)
  cases q : allP ds with
  | none => simp only [q] at hq1; exact hq1.elim
  | some ps =>
    simp only [q] at hq1
    have da := dn1.all q
    split at hq1
    · rename_i hz
      refine ⟨by rw [da.length, bigN_eq]; exact hz, fun p hp => ?_⟩
      obtain ⟨R', ex⟩ := R1.alloc hp (.lst vs)
      exact hq1 _ _ _ ex R' (.lst upd_same (da.up ex.1))
    · exact hq1.elim
def dIxS : PyData → PyData → Option PyData
  | .list xs, .int i => atI xs i
  | .tuple xs, .int i => atI xs i
  | _, _ => none
theorem DnAll.at {K : PySem.W.Frag} {F : Hp} {vs : List V} {ds : List PyData} {i : Int} {d : PyData} (h : DnAll K et F vs ds) (e : atI ds i = some d) : ∃ v, atI vs i = some v ∧ Dn K et F v d := by
  unfold atI at e ⊢
  rw [h.length]
  cases q : ixN ds.length i with
  | none => rw [q] at e; cases e
  | some j =>
    rw [q, Option.bind_some] at e
    exact h.get e
/-- a slice's part -/
structure wO (X : Cx) (e : Option Expr) (σ : St) (H : Hp) (Q : Option Int → Hp → Prop) : Prop where
  run : ∀ (pins : List (Addr × Obj)) (s : Shared), Inv X pins σ H s → wpAny (model X.prog X.w) X.A (evalPart e X.env) (fun u s' => ∃ o H', Inv X pins σ H' s' ∧ IsPart u o ∧ Q o H') X.xe s
def DO (X : Cx) (et : ET) (W : WX) (e : Option Expr) (f : Sg → Rs Sg (Option Int)) : Prop :=
  ∀ (β : Type) (am : Addr) (B F : Hp) (g : Sg) (σ : St) (H : Hp) (O : Hp → Rs Sg β → Prop) (k : Option Int → Sg → Rs Sg β) (Q : Option Int → Hp → Prop), Good X.K et W am B σ O → RepF X.K et am B F g σ H → O F ((f g).bind k) →
    (∀ o g' F' H', Ext B F F' → RepF X.K et am B F' g' σ H' → O F' (k o g') → Q o H') → wO X e σ H Q
def mNoPart (g : Sg) : Rs Sg (Option Int) := .ok none g
def mPart (f : Sg → Rs Sg DV) (g : Sg) : Rs Sg (Option Int) := (f g).bind fun x g1 => match x with | .pu (.int i) => .ok (some i) g1 | _ => .no
theorem do_none : DO X et W none mNoPart := fun β am B F g σ H O k Q G R hq nx => ⟨fun pins s I => po_none.run pins s σ H Q I (nx none g F H Ext.refl R hq)⟩
theorem do_some {e : Expr} {f : Sg → Rs Sg DV} (h : DE X et W e f) : DO X et W (some e) (mPart f) := fun β am B F g σ H O k Q G R hq nx => by
  refine ⟨fun pins s I => ?_⟩
  have hq : O F ((f g).bind fun x g1 => ((match x with | .pu (.int i) => .ok (some i) g1 | _ => .no : Rs Sg (Option Int))).bind k) := by
    have w : (mPart f g).bind k = (f g).bind fun x g1 => ((match x with | .pu (.int i) => .ok (some i) g1 | _ => .no : Rs Sg (Option Int))).bind k := by
      unfold mPart
      cases f g <;> rfl
    rw [← w]
    exact hq
  refine (po_some pe_w).run pins s σ H Q I (h.then G R hq fun d g1 v F1 H1 ex1 R1 dn1 hq1 => ?_)
  split at hq1
  · rename_i i
    exact ⟨i, Dn.int_of dn1, nx (some i) g1 F1 H1 ex1 R1 hq1⟩
  · exact (G.no _ hq1).elim
theorem po_w {e : Option Expr} : PO X e (wO X e) := ⟨fun pins s _ _ _ I h => h.run pins s I⟩
def cutL {α : Type} (xs : List α) (lo hi : Option Int) : List α := (xs.drop (HT.sIx xs.length 0 lo)).take (HT.sIx xs.length xs.length hi - HT.sIx xs.length 0 lo)
def dCut : PyData → Option Int → Option Int → Option PyData
  | .list xs, lo, hi => some (.list (cutL xs lo hi))
  | .tuple xs, lo, hi => some (.tuple (cutL xs lo hi))
  | _, _, _ => none
theorem DnAll.cut {K : PySem.W.Frag} {F : Hp} {vs : List V} {ds : List PyData} (h : DnAll K et F vs ds) (lo hi : Option Int) : DnAll K et F (cutV vs lo hi) (cutL ds lo hi) := by
  unfold cutV cutL
  rw [h.length]
  exact (h.drop _).take _
def mCut (fa : Sg → Rs Sg DV) (fl fh : Sg → Rs Sg (Option Int)) (g : Sg) : Rs Sg DV := (fa g).bind fun x g1 => (fl g1).bind fun lo g2 => (fh g2).bind fun hi g3 => match x with
  | .pu a => Rs.of ((dCut a lo hi).map .pu) g3
  | _ => .no
theorem de_cut {e : Expr} {lo hi : Option Expr} {p2 pos : Pos} {fa : Sg → Rs Sg DV} {fl fh : Sg → Rs Sg (Option Int)} (ha : DE X et W e fa) (hl : DO X et W lo fl) (hh : DO X et W hi fh) : DE X et W (.Subscript e (.Slice lo hi none p2) pos) (mCut fa fl fh) := fun am B F g σ H Q R hq => by
  refine w_of (pe_slice (sl_list.or sl_tupA) pe_w po_w po_w) (ha.then (goodV (Q := Q)) R hq fun dx g1 x F1 H1 ex1 R1 dn1 hq1 => hl _ am B F1 g1 σ H1 _ _ _ (goodV (Q := Q)) R1 hq1 fun l g2 F2 H2 ex2 R2 hq2 => hh _ am B F2 g2 σ H2 _ _ _ (goodV (Q := Q)) R2 hq2 fun u g3 F3 H3 ex3 R3 hq3 => ?_)
  cases dx with
  | own _ => exact hq3.elim
  | m => exact hq3.elim
  | scr _ => exact hq3.elim
  | clo _ => exact hq3.elim
  | exc _ _ => exact hq3.elim
  | dic _ => exact hq3.elim
  | dki _ => exact hq3.elim
  | pu da =>
    have hq3 : OkV X.K et W am B F3 σ Q (Rs.of ((dCut da l u).map .pu) g3) := hq3
    have sm : Same F1 F3 := Same.tr ex2.1 ex3.1
    have dn3 : Dn X.K et F3 x da := Dn.up dn1 sm
    cases da with
    | list xs =>
      cases dn3 with
      | lst sx dx =>
        refine .inl ⟨_, _, rfl, SqL.of (R3.sub _ _ sx), fun p hp => ?_⟩
        obtain ⟨R', ex⟩ := R3.alloc hp (.lst (cutV _ l u))
        exact hq3 _ _ _ ex R' (.lst upd_same ((dx.cut l u).up ex.1))
    | tuple xs =>
      cases dn3 with
      | tup sx dx =>
        refine .inr ⟨_, _, rfl, SqT.mono R3.sub sx, fun whole => ?_, fun _ p hp => ?_⟩
        · have ec : cutL xs l u = xs := by
            unfold cutL
            rw [dx.length] at whole
            rw [whole.1, whole.2, List.drop_zero, Nat.sub_zero, List.take_length]
          have hq3 : OkV X.K et W am B F3 σ Q (.ok (.pu (.tuple (cutL xs l u))) g3) := hq3
          rw [ec] at hq3
          exact hq3 _ F3 H3 Ext.refl R3 (.tup sx dx)
        · obtain ⟨R', ex⟩ := R3.alloc hp (.tup (cutV _ l u))
          exact hq3 _ _ _ ex R' (.tup (SqT.of upd_same) ((dx.cut l u).up ex.1))
    | none => exact hq3.elim
    | bool _ => exact hq3.elim
    | int _ => exact hq3.elim
    | str _ => exact hq3.elim
    | dict _ => exact hq3.elim
end
end DL
set_option Elab.async false
set_option linter.all false
set_option maxRecDepth 100000
set_option maxHeartbeats 4000000
set_option autoImplicit false
namespace DL
open PySem PySem.Spec L2
open PyProof.Rows hiding St
theorem Inv.frzN {X : Cx} {pins : List (Addr × Obj)} {σ : L2.St} {H : Hp} {s : Shared} {hs : NestedKey → Int} {d : Addr} {o : Obj} {es : List (NestedKey × Addr × V)} (I : Inv X pins σ H s) (h : H d = some (.frz o (NDo hs d es))) :
    (d == sysModules) = false ∧ s.heap.get? d = some o ∧ o.ExactDict ∧ ∃ (ds : Array DictEntry) (ep : Nat), o.data = .dict ds ep ∧ ds.size = es.length ∧ es.length ≤ sizeLine ∧
      ∀ (i : Nat) (n : NestedKey) (b : Addr) (v : V), es[i]? = some (n, b, v) → ∃ (en : DictEntry), ds[i]? = some en ∧ en.key = .ref b ∧ RelV v en.val := by
  obtain ⟨hd, ⟨hz, hy, hn, ys, o', ds, ep, pr, ho, hx, hdt, hl⟩, _⟩ := I.hok d _ h
  rw [hd] at ho
  cases ho
  have l2 : es.length = ys.length := Paired.length pr
  have l1 : ds.size = ys.length := by
    have := congrArg List.length hl
    rw [Array.length_toList, List.length_map] at this
    exact this
  refine ⟨hy, hd, hx, ds, ep, hdt, by omega, hz, fun i n b v e => ?_⟩
  obtain ⟨y, hb, e1, e2, e3⟩ := paired_get pr e
  have q : ds.toList[i]? = some ⟨hs y.1, .ref y.2.1, y.2.2⟩ := by rw [hl, List.getElem?_map, hb]; rfl
  rw [Array.getElem?_toList] at q
  exact ⟨_, q, congrArg Value.ref e2.symm, e3⟩
section
variable {X : Cx} {hs : NestedKey → Int}
def rLenN (hs : NestedKey → Int) : List V → Hp → VK → Prop := fun xs H Q => ∃ (d : Addr) (o : Obj) (es : List (NestedKey × Addr × V)), xs = [.ref d] ∧ H d = some (.frz o (NDo hs d es)) ∧ Q (.int ((es.length : Nat) : Int)) H
theorem call_lenN : CallR X (.builtin "len") (rLenN hs) := by
  intro pins s σ H xs us Q I r h
  obtain ⟨d, o, es, rfl, hd, q⟩ := h
  obtain ⟨u, rfl, rx⟩ := vals1 r
  obtain rfl : u = .ref d := rx
  obtain ⟨hy, hgd, hx, ds, ep, hdt, hsz, hz, ent⟩ := DL.Inv.frzN I hd
  have hm : s.heap.DictRaw d ds ep := ⟨o, hgd, hx, hdt⟩
  have hf : es.length < 2 ^ 62 := by rw [sizeLine_eq] at hz; omega
  refine Calls.call_function_entry kind_len plain_len entry_len (args_len1 _) ?_
  unfold Builtin.«len»
  refine wpAny_bind (m := oneArg "len" _) (wpAny_pure ?_)
  refine wpAny_bind (m := callSpecial? (.ref d) (Str.ofString "__len__")) (wpAny_callSpecial?_slot (name := Str.ofString "__len__") hm.typeIs F.slot_dict_len
    (call_meetsIn F.slot_dict_len hm.typeIs F.entry_dict_len (F.args_dict_len_1 _) (meets_dict_len_raw d hy) ⟨ds, ep, hm, ?_⟩))
  rw [hsz]
  refine wpAny_bind (wpAny_holding (wpAny_pure ?_))
  refine wpAny_bind (wpAny_letGo ?_)
  show wpAny _ _ (if ((es.length : Nat) : Int) < 0 then _ else _) _ _ _
  rw [if_neg (by omega)]
  show wpAny _ _ (if ((es.length : Nat) : Int) ≥ 2 ^ 63 then _ else _) _ _ _
  rw [if_neg (by omega)]
  exact wpAny_bind (wpAny_mkInt (wpAny_pure ⟨_, rfl, ⟨.int ((es.length : Nat) : Int), H, I.tok _, ⟨_, rfl⟩, q⟩⟩))
end
def alikeB (xs : List PyData) : Bool := xs.all fun x => (xs.all fun y => PySem.W.alike x y) && x.canLay0 && (match x with | .none => false | _ => true)
theorem alikeB_alike {xs : List PyData} (h : alikeB xs = true) : PySem.W.AlikeAll xs := by
  unfold alikeB at h
  rw [List.all_eq_true] at h
  refine ⟨fun x hx y hy => ?_, fun x hx z => ?_⟩
  · have := h x hx
    rw [Bool.and_eq_true, Bool.and_eq_true, List.all_eq_true] at this
    exact this.1.1 y hy
  · have := h x hx
    rw [Bool.and_eq_true] at this
    subst z
    cases this.2
theorem alikeB_lay {xs : List PyData} (h : alikeB xs = true) {x : PyData} (hx : x ∈ xs) : x.canLay0 = true := by
  unfold alikeB at h
  rw [List.all_eq_true] at h
  have := h x hx
  rw [Bool.and_eq_true, Bool.and_eq_true] at this
  exact this.1.2
theorem layAll_of : ∀ {xs : List PyData}, (∀ x ∈ xs, x.canLay0 = true) → PyData.canLayAll0 xs = true
  | [], _ => rfl
  | x :: r, h => by
    unfold PyData.canLayAll0
    rw [h x List.mem_cons_self, layAll_of fun y hy => h y (List.mem_cons_of_mem _ hy)]
    rfl
section
variable {X : Cx} {et : ET}
def rMinMax (X : Cx) (et : ET) (b : Bool) (pick : PyData → List PyData → PyData) : List V → Hp → VK → Prop := fun as H Q => ∃ (l : Addr) (vs : List V) (F : Hp) (x : PyData) (xs : List PyData), as = [.ref l] ∧ (if b = true then SqT X.K H l vs else SqL X.K H l vs) ∧ Same F H ∧ DnAll X.K et F vs (x :: xs) ∧ alikeB (x :: xs) = true ∧ PyData.depthAll (x :: xs) ≤ 64 ∧
  ∀ v, Dn X.K et F v (pick x xs) → Q v H
theorem pick_read {F : Hp} {s : Shared} {vs : List V} {its : List Value} {x d : PyData} {xs : List PyData} {i : Nat} {v : Value} {h' : Heap} {bs as : List Addr} (rv : Vals vs its) (dn : DnAll X.K et F vs (x :: xs)) (al : alikeB (x :: xs) = true) (e : its[i]? = some v) (r : Reads h' v d bs) (k : ∀ b o, s.heap.get? b = some o → h'.get? b = some o)
    (ra : ReadsAll s.heap its (x :: xs) as) : ∃ w, RelV w v ∧ Dn X.K et F w d := by
  obtain ⟨w, hw, rw'⟩ : ∃ w, vs[i]? = some w ∧ RelV w v := by
    have hi : i < vs.length := by rw [rv.length]; exact (List.getElem?_eq_some_iff.mp e).1
    obtain ⟨u, hu, ru⟩ := rv.get (List.getElem?_eq_getElem hi)
    rw [e] at hu
    cases hu
    exact ⟨_, List.getElem?_eq_getElem hi, ru⟩
  have hi : i < (x :: xs).length := by rw [← dn.length]; exact (List.getElem?_eq_some_iff.mp hw).1
  obtain ⟨w', hw', dw⟩ := dn.get (List.getElem?_eq_getElem hi)
  rw [hw] at hw'
  cases hw'
  obtain ⟨cs, rx, _⟩ := PySem.W.readsAll_at ra i v e
  have ex : (x :: xs).getD i .none = (x :: xs)[i] := by rw [List.getD_eq_getElem?_getD, List.getElem?_eq_getElem hi]; rfl
  rw [ex] at rx
  have := PySem.SeqAt.Reads.unique _ _ _ _ _ (alikeB_lay al (List.getElem_mem hi)) (PySem.W.reads_keeps k rx) r
  rw [← this]
  exact ⟨w, rw', dw⟩
theorem depth_le_all : ∀ {xs : List PyData} {x : PyData}, x ∈ xs → x.depth ≤ PyData.depthAll xs
  | y :: r, x, h => by
    unfold PyData.depthAll
    rcases List.mem_cons.mp h with rfl | h
    · exact Nat.le_max_left _ _
    · exact Nat.le_trans (depth_le_all h) (Nat.le_max_right _ _)
theorem call_mm {id : String} {b : Bool} {pick : PyData → List PyData → PyData} (hc : X.calm = true) (hu : X.A.units + 100 < cLine)
    (HL : ∀ {s : Shared} {l : Addr} {vs : Array Value} {x : PyData} {xs : List PyData} {as : List Addr} {Q : Value → Shared → Prop}, X.A.handled = none → s.heap.IsList l vs → ReadsAll s.heap vs.toList (x :: xs) as → PySem.W.AlikeAll (x :: xs) → X.A.units + 1 + PyData.depthAll (x :: xs) < cLine →
      (∀ (i : Nat) v h' tk bs, vs[i]? = some v → Reads h' v (pick x xs) bs → (∀ b o, s.heap.get? b = some o → h'.get? b = some o) → Q v { s with heap := h', toks := tk }) → wpAny (model X.prog X.w) X.A (call (.builtin id) [.ref l]) Q X.xe s)
    (HT : ∀ {s : Shared} {l : Addr} {vs : Array Value} {x : PyData} {xs : List PyData} {as : List Addr} {Q : Value → Shared → Prop}, X.A.handled = none → s.heap.IsTuple l vs → ReadsAll s.heap vs.toList (x :: xs) as → PySem.W.AlikeAll (x :: xs) → X.A.units + 1 + PyData.depthAll (x :: xs) < cLine →
      (∀ (i : Nat) v h' tk bs, vs[i]? = some v → Reads h' v (pick x xs) bs → (∀ b o, s.heap.get? b = some o → h'.get? b = some o) → Q v { s with heap := h', toks := tk }) → wpAny (model X.prog X.w) X.A (call (.builtin id) [.ref l]) Q X.xe s) : CallR X (.builtin id) (rMinMax X et b pick) := by
  intro pins s σ H vs us Q I r h
  obtain ⟨a, ws, F, x, xs, rfl, hs, sub, dn, al, dp, q⟩ := h
  rw [Vals.ref1 r]
  have hal := alikeB_alike al
  have hu2 : X.A.units + 1 + PyData.depthAll (x :: xs) < cLine := by omega
  have lay : PyData.canLayAll0 (x :: xs) = true := layAll_of fun y hy => alikeB_lay al hy
  cases b with
  | false =>
    have hs : SqL X.K H a ws := hs
    obtain ⟨its, rv, hl, hz⟩ := I.list hs
    obtain ⟨as, ra⟩ := Dp.readsAll I _ _ _ (DnAll.dp _ _ (dn.up sub) lay) rv
    refine HL (I.ok.hd hc) hl.isList ra hal hu2 fun i v h' tk bs e rd k => ?_
    obtain ⟨w, rw', dw⟩ := pick_read rv dn al (by simpa using e) rd k ra
    exact ⟨w, H, I.kept (t' := tk) k, rw', q w dw⟩
  | true =>
    have hs : SqT X.K H a ws := hs
    obtain ⟨its, rv, hl, hz⟩ := I.tuple hs
    obtain ⟨as, ra⟩ := Dp.readsAll I _ _ _ (DnAll.dp _ _ (dn.up sub) lay) rv
    refine HT (I.ok.hd hc) hl ra hal hu2 fun i v h' tk bs e rd k => ?_
    obtain ⟨w, rw', dw⟩ := pick_read rv dn al (by simpa using e) rd k ra
    exact ⟨w, H, I.kept (t' := tk) k, rw', q w dw⟩
theorem call_maxDt (b : Bool) (hc : X.calm = true) (hu : X.A.units + 100 < cLine) : CallR X (.builtin "max") (rMinMax X et b PySem.W.maxD) := call_mm hc hu PySem.W.max_list_data PySem.W.max_tuple_data
theorem call_minDt (b : Bool) (hc : X.calm = true) (hu : X.A.units + 100 < cLine) : CallR X (.builtin "min") (rMinMax X et b PySem.W.minD) := call_mm hc hu PySem.W.min_list_data PySem.W.min_tuple_data
def neTup (xs : List PyData) : Bool := xs.all fun x => match x with | .tuple (_ :: _) => true | _ => false
def sortT (xs : List PyData) : List PyData := xs.mergeSort (PySem.W.dataLe false id)
def rSortT (X : Cx) (et : ET) : List V → Hp → VK → Prop := fun as H Q => ∃ (l : Addr) (vs : List V) (F : Hp) (xs : List PyData), as = [.ref l] ∧ SqL X.K H l vs ∧ Same F H ∧ DnAll X.K et F vs xs ∧ alikeB xs = true ∧ neTup xs = true ∧ PyData.depthAll xs ≤ 64 ∧
  ∀ (p : Addr) (ws : List V), H p = none → DnAll X.K et F ws (sortT xs) → Q (.ref p) (upd H p (.lst ws))
theorem each_of {F : Hp} : ∀ {vs : List V} {its : List Value} {xs : List PyData}, Vals vs its → DnAll X.K et F vs xs → PySem.W.EachIs (fun v d => ∃ w, RelV w v ∧ Dn X.K et F w d) its xs
  | _, _, _, .nil, .nil => .nil
  | _, _, _, .cons r rs, .cons h t => .cons ⟨_, r, h⟩ (each_of rs t)
theorem each_read {h : Heap} : ∀ {its : List Value} {xs : List PyData} {as : List Addr}, ReadsAll h its xs as → PySem.W.EachIs (fun v d => ∃ as, Reads h v (id d) as) its xs
  | _, _, _, .nil => .nil
  | _, _, _, .cons r rs => .cons ⟨_, r⟩ (each_read rs)
theorem each_back {F : Hp} : ∀ {out : List Value} {xs : List PyData}, PySem.W.EachIs (fun v d => ∃ w, RelV w v ∧ Dn X.K et F w d) out xs → ∃ ws, Vals ws out ∧ DnAll X.K et F ws xs
  | _, _, .nil => ⟨[], .nil, .nil⟩
  | _, _, .cons ⟨w, r, d⟩ t => by
    obtain ⟨ws, rs, ds⟩ := each_back t
    exact ⟨w :: ws, .cons r rs, .cons d ds⟩
theorem call_sortT (hu : X.A.units + 100 < cLine) : CallR X (.builtin "sorted") (rSortT X et) := by
  intro pins s σ H vs us Q I r h
  obtain ⟨a, ws, F, xs, rfl, hs, sub, dn, al, ne, dp, q⟩ := h
  obtain ⟨its, rv, hl, hz⟩ := I.list hs
  rw [Vals.ref1 r]
  have lay : PyData.canLayAll0 xs = true := layAll_of fun y hy => alikeB_lay al hy
  obtain ⟨as, ra⟩ := Dp.readsAll I _ _ _ (DnAll.dp _ _ (dn.up sub) lay) rv
  have hal := alikeB_alike al
  have hk : PySem.W.Sortable (xs.map id) := .inl fun d hd => by
    rw [List.map_id] at hd
    unfold neTup at ne
    rw [List.all_eq_true] at ne
    have := ne d hd
    split at this
    · exact ⟨_, _, rfl⟩
    · cases this
  have hL : xs.length ≤ sizeLine := by rw [← dn.length]; exact hz
  refine PySem.W.sorted_data (enc := id) hl.isList (each_of rv dn) (each_read ra) (by rw [List.map_id]; exact hal.1) hk hL (fun b hb => by have := depth_le_all hb; show X.A.units + 2 + b.depth < cLine; omega) fun out hout e => ?_
  obtain ⟨ws', rv', dn'⟩ := each_back e
  obtain ⟨ep, he'⟩ := PyProof.Rows.sortedAll_at s.heap its out.toArray
  have hlen : ws'.length ≤ sizeLine := by rw [rv'.length, hout]; exact hL
  exact ⟨.ref _, upd H (s.heap.objs.size + 1) (.lst ws'), I.laid (t' := s.toks) (fun _ _ => PyProof.Rows.sortedAll_old) (Nat.le_succ _) ⟨hlen, out, ep, rv', he'⟩, rfl, q _ _ (I.hok.fresh (Nat.le_succ _)) dn'⟩
end
def dKey : PyData → Bool
  | .tuple _ => true
  | _ => false
def tupKeys (kvs : List (PyData × PyData)) : Bool := kvs.all fun p => dKey p.1
theorem Dn.dict_nd {K : PySem.W.Frag} {et : ET} {F : Hp} {v : V} {kvs : List (PyData × PyData)} (h : Dn K et F v (.dict kvs)) (t : tupKeys kvs = true) : ∃ a o es, v = .ref a ∧ F a = some (.frz o (NDo et.hs a es)) ∧ DnKv K et F es kvs := by
  cases h with
  | dcx hf kv => exact ⟨_, _, _, rfl, hf, kv⟩
  | dck hne hf kv =>
    exfalso
    cases kv with
    | nil => exact hne rfl
    | int _ _ => exact absurd t (by unfold tupKeys; rw [List.all_cons]; simp [dKey])
    | str _ _ => exact absurd t (by unfold tupKeys; rw [List.all_cons]; simp [dKey])
  | err _ _ _ => exact absurd t (by unfold tupKeys; rw [List.all_cons]; simp [dKey])
  | er0 _ => exact absurd t (by unfold tupKeys; rw [List.all_cons]; simp [dKey])
  | fil _ => exact absurd t (by unfold tupKeys; rw [List.all_cons]; simp [dKey])
theorem DnKv.length {K : PySem.W.Frag} {et : ET} {F : Hp} : ∀ {es : List (NestedKey × Addr × V)} {kvs : List (PyData × PyData)}, DnKv K et F es kvs → es.length = kvs.length
  | _, _, .nil => rfl
  | _, _, .cons _ _ _ _ r => congrArg (· + 1) (DnKv.length r)
end DL
set_option Elab.async false
set_option linter.all false
set_option maxRecDepth 100000
set_option maxHeartbeats 4000000
set_option autoImplicit false
namespace SrtO
open PySem PyProof.Rows Srt
section
variable {prog : Program} {w : World} {A : Around} {E : Value → Shared → Prop} {s : Shared}
/-- collect of a tuple, the heap told -/
theorem dl_collect_tup {Q : List Value → Shared → Prop} {t : Addr} {o : Obj} {items : Array Value} {n : Nat} (ho : s.heap.get? t = some o) (hc : o.cls = .type "tuple") (hd : o.data = .seq items n)
    (hQ : ∀ h' : Heap, h'.objs.size = s.heap.objs.size + 1 → (∀ b o', s.heap.get? b = some o' → h'.get? b = some o') → Q items.toList { s with heap := h' }) (hsz : items.size ≤ sizeLine) :
    wpAny (model prog w) A (collect (.ref t)) Q E s := by
  unfold collect
  have lQ : (s.heap.push { cls := .type "list", data := .seq ([] : List Value).toArray }).get? s.heap.objs.size = some { cls := .type "list", data := .seq #[] 0 } := Heap.get?_push_size _ rfl
  refine wpAny_bind (wpAny_runValue
    (codeAny_builtin F.entry_proto_collect ?_))
  rw [Around.under_plainId
    F.plain_proto_collect _]
  show wpAny _ A.in1 (newList [] >>= fun q =>
    again (.builtin "list.__iadd__" ⟨[q, .ref t], []⟩)) _ _ s
  refine wpAny_bind
    (wpAny_newObj_type ?_)
  refine wpAny_pure ⟨plainId_quiet F.plain_list_iadd _,
    codeAny_builtin F.entry_list_iadd ?_⟩
  rw [Around.under_plainId
    F.plain_list_iadd _]
  have lQ2 := Heap.get?_update_self (Obj.mapSeq (· ++ items)) lQ rfl
  have fin : wpAny (model prog w) A (match Value.ref s.heap.objs.size with
      | Value.ref a => do
        match (← load a).data with
          | Data.seq xs _ => pure xs.toList
          | _ => unsupported "internal:collect"
      | _ => unsupported "internal:collect") Q E { s with heap := (s.heap.push { cls := .type "list", data := .seq ([] : List Value).toArray }).update s.heap.objs.size (Obj.mapSeq (· ++ items)) } := by
    show wpAny _ A (load s.heap.objs.size >>= _) _ _ _
    refine wpAny_bind (wpAny_load lQ2 (wpAny_pure ?_))
    have e : ((#[] : Array Value) ++ items).toList = items.toList := by simp
    show Q ((#[] : Array Value) ++ items).toList _
    rw [e]
    exact hQ _ (by rw [Heap.size_update]; exact size_push' ..) fun b o' hb => (Heap.get?_update_other _ _ (Nat.ne_of_gt (Heap.lt_size hb))).trans (Heap.get?_push_of_some _ hb)
  refine wpAny_mono (wpAny_extend_seq (hsz := hsz) (A := A) (R := fun r s' => r = .ok (.ret (.ref s.heap.objs.size)) ∧ s' = { s with heap := (s.heap.push { cls := .type "list", data := .seq ([] : List Value).toArray }).update s.heap.objs.size (Obj.mapSeq (· ++ items)) })
    (s := { s with heap := s.heap.push { cls := .type "list", data := .seq ([] : List Value).toArray } }) _ t _ 0 (.inr rfl) lQ (Heap.get?_push_of_some _ ho) hc hd ⟨rfl, rfl⟩) (fun f s' h => ?_) (fun e s' h => absurd h.1 (by simp))
  cases f with
  | done f =>
    obtain ⟨e, e2⟩ := h
    cases e
    cases e2
    exact fin
  | again c' => exact ⟨h.1, codeAny_mono h.2 fun r s2 hr => by
      obtain ⟨e, e2⟩ := hr
      cases e
      cases e2
      exact fin⟩
/-- sorted(t), t a tuple -/
theorem dl_sorted_tup {t : Addr} {vs : List Value} {ltv : Value → Value → Bool} {Q : Value → Shared → Prop} (O : Swo ltv) (ht : IsTup s.heap t vs.toArray) (hz : vs.length ≤ sizeLine)
    (hS : 2 ≤ vs.length → ∀ (A' : Around) (s' : Shared) (a : Addr), SortableO prog w A' s' a vs ltv)
    (hq : ∀ (out : List Value) (h' : Heap) (p ep : Nat), Srtd ltv out → Stb ltv out vs → (∀ b o, s.heap.get? b = some o → h'.get? b = some o) → s.heap.objs.size ≤ p → h'.get? p = some (seqObj "list" out.toArray ep) → Q (.ref p) { s with heap := h' }) :
    wpAny (model prog w) A (call (.builtin "sorted") [.ref t]) Q E s := by
  obtain ⟨o, ho, hc, n, hd⟩ := ht
  refine Calls.call_function_entry kind_sorted plain_sorted entry_sorted (args_sorted1 _) ?_
  unfold Builtin.«sorted»
  refine wpAny_bind (m := checkCount "sorted" 1 1 _) (wpAny_pure ?_)
  refine wpAny_bind (dl_collect_tup ho hc hd (fun h1 z1 k1 => ?_) (by rw [List.size_toArray]; exact hz))
  refine wpAny_bind (wpAny_newList ?_ hz)
  have hoL : (h1.push (seqObj "list" vs.toArray 0)).get? h1.objs.size = some (seqObj "list" vs.toArray 0) := Heap.get?_push_size _ rfl
  have s1 : s.heap.objs.size ≤ h1.objs.size := by omega
  refine wpAny_bind (wpAny_holding (wpAny_call_entry slot_list_sort ⟨_, hoL, rfl⟩ entry_list_sort (list_sort_ord O hoL hz (fun h2 => hS h2 _ _ _) fun out hs hb => ⟨_, rfl, ?_⟩) (args_list_sort _)))
  obtain ⟨ep, he⟩ := sortedHeap_at (out := out.toArray) hoL
  refine wpAny_pure ⟨_, rfl, hq out _ h1.objs.size ep hs hb (fun b ob q => ?_) s1 he⟩
  have hb1 := k1 b ob q
  have hlt := Heap.lt_size hb1
  rw [sortedHeap_old (Nat.ne_of_lt hlt) (by rw [size_push']; exact Nat.lt_succ_of_lt hlt)]
  exact Heap.get?_push_of_some _ hb1
end
end SrtO
namespace L2
open PySem PySem.Spec PyProof.Rows
section
variable {X : Cx}
theorem dl_cr_sortedT : CallR X (.builtin "sorted") (fun vs H Q => ∃ (a : Addr) (ns : List Int), vs = [V.ref a] ∧ SqT X.K H a (ns.map V.int) ∧
    ∀ (ns' : List Int) (p : Addr), ns'.Perm ns → ns'.Pairwise (· ≤ ·) → H p = none → Q (.ref p) (upd H p (.lst (ns'.map V.int)))) := by
  intro pins s σ H vs us Q I r h
  obtain ⟨a, ns, rfl, hs, q⟩ := h
  obtain ⟨its, rv, hl, hz⟩ := I.tuple hs
  rw [Vals.ref1 r]
  have hi := rv.ints
  refine SrtO.dl_sorted_tup SrtO.swo_int hl (by rw [← rv.length]; exact hz) (fun h2 A' s' a' => SrtO.ints_sortable hi h2) fun out h' p ep h1 h2 hk hp he => ?_
  obtain ⟨k1, k2, k3⟩ := SrtO.ints_out hi h1 h2
  have hlen : ((out.map SrtO.iv).map V.int).length ≤ sizeLine := by
    rw [List.length_map, k2.length_eq]
    rw [List.length_map] at hz
    exact hz
  exact ⟨.ref _, upd H p (.lst ((out.map SrtO.iv).map V.int)), I.laid (t' := s.toks) hk hp ⟨hlen, out, ep, vals_of_ints k1, he⟩, rfl, q _ _ k2 k3 (I.hok.fresh hp)⟩
theorem dl_cr_sumT (hc : X.calm = true) : CallR X (.builtin "sum") (fun vs H Q => ∃ (a : Addr) (ns : List Int), vs = [V.ref a] ∧ SqT X.K H a (ns.map V.int) ∧ Q (.int ns.sum) H) := by
  intro pins s σ H vs us Q I r h
  obtain ⟨a, ns, rfl, hs, q⟩ := h
  obtain ⟨its, rv, hl, _⟩ := I.tuple hs
  rw [Vals.ref1 r]
  have hi := rv.ints
  obtain ⟨o, ho, hc', n, hd⟩ := hl
  obtain ⟨xs, hx⟩ := hi.allInts.items
  have hn : numsOf its.toArray.toList = ns := by rw [show its.toArray.toList = its from rfl, hi.numsOf]
  rw [hx] at hd hn
  rw [nums_intItems] at hn
  refine PySem.W.ktm_sumG (I.ok.hd hc) ⟨o, ho, hc', n, hd⟩ fun h' tk t' hk => ?_
  rw [preSum_eq, List.take_of_length_le (by simp), hn]
  exact ⟨.int _, H, I.kept hk, ⟨_, rfl⟩, q⟩
end
end L2
namespace DL
open PySem PySem.Spec L2
open PyProof.Rows hiding St
section
variable {X : Cx} {et : ET} {W : WX}
def CallS (X : Cx) (et : ET) (f : Value) (h : List DV → Option PyData) : Prop :=
  ∀ am B F g σ H vs ds d Q, RepF X.K et am B F g σ H → DenL X.K et am F vs ds → h ds = some d → (∀ v F' H', Ext B F F' → RepF X.K et am B F' g σ H' → Dn X.K et F' v d → Q v H') → ∃ r : List V → Hp → VK → Prop, CallR X f r ∧ r vs H Q
theorem CallR.exs {f : Value} : CallR X f (fun vs H Q => ∃ r : List V → Hp → VK → Prop, CallR X f r ∧ r vs H Q) := fun pins s σ H vs us Q I r ⟨q, hq, h⟩ => hq pins s σ H vs us Q I r h
def mCallB (h : List DV → Option PyData) (fs : Sg → Rs Sg (List DV)) (g : Sg) : Rs Sg DV := (fs g).bind fun xs g1 => Rs.of ((h xs).map .pu) g1
theorem callB_read {es : List Expr} {f : Value} {h : List DV → Option PyData} {fs : Sg → Rs Sg (List DV)} (cs : CallS X et f h) (ha : DA X et W es fs) {am : Addr} {B F : Hp} {g : Sg} {σ : St} {H : Hp} {Q : VK} (R : RepF X.K et am B F g σ H) (hq : OkV X.K et W am B F σ Q (mCallB h fs g)) :
    tCB (fun vs H Q => ∃ r : List V → Hp → VK → Prop, CallR X f r ∧ r vs H Q) (wA X es) σ H Q := by
  refine ha.then (goodV (Q := Q)) R hq fun ds g1 vs F1 H1 ex1 R1 dn1 hq1 => ?_
  cases q : h ds with
  | none => rw [q] at hq1; exact hq1.elim
  | some d =>
    rw [q] at hq1
    exact cs am B F1 g1 σ H1 vs ds d Q R1 dn1 q fun v F' H' ex R' dd => hq1 v F' H' ex R' dd
theorem de_callB {x : Str} {id : String} {p pos : Pos} {e : Expr} {es : List Expr} {h : List DV → Option PyData} {fs : Sg → Rs Sg (List DV)} (cs : CallS X et (.builtin id) h) (hm : X.mg x = none) (ha : DA X et W (e :: es) fs) (hg : Gl X x := by rfl) (hv : bootBuiltins x = some (.builtin id) := by decide +kernel) (hn : x ≠ "__name__" := by decide) (hdb : (x == ("__debug__" : Str)) = false := by decide)
    (he : starEach (e :: es) X.env = (false, eval e X.env) :: starEach es X.env := by exact star_ok rfl) (hpl : (backTo pos (starEach es X.env)).any (·.1) = false := by exact plain_ok rfl) : DE X et W (.Call (.Name x p) (e :: es) [] pos) (mCallB h fs) := fun am B F g σ H Q R hq =>
  w_of (pe_callB CallR.exs hg hm hv pa_w hn hdb he hpl) (callB_read cs ha R hq)
theorem de_callTy {x : Str} {T : String} {p pos : Pos} {e : Expr} {es : List Expr} {h : List DV → Option PyData} {fs : Sg → Rs Sg (List DV)} (cs : CallS X et (.type T) h) (hm : X.mg x = none) (ha : DA X et W (e :: es) fs) (hg : Gl X x := by rfl) (hv : bootBuiltins x = some (.type T) := by decide +kernel) (hn : x ≠ "__name__" := by decide) (hdb : (x == ("__debug__" : Str)) = false := by decide)
    (he : starEach (e :: es) X.env = (false, eval e X.env) :: starEach es X.env := by exact star_ok rfl) (hpl : (backTo pos (starEach es X.env)).any (·.1) = false := by exact plain_ok rfl) : DE X et W (.Call (.Name x p) (e :: es) [] pos) (mCallB h fs) := fun am B F g σ H Q R hq =>
  w_of (pe_callTy CallR.exs hg hm hv pa_w hn hdb he hpl) (callB_read cs ha R hq)
def allI : List PyData → Option (List Int)
  | [] => some []
  | .int i :: r => (allI r).map (i :: ·)
  | _ :: _ => none
theorem DnAll.ints {K : PySem.W.Frag} {F : Hp} : ∀ {vs : List V} {ds : List PyData} {ns : List Int}, DnAll K et F vs ds → allI ds = some ns → vs = ns.map V.int
  | _, _, _, .nil, e => by cases e; rfl
  | _, .int i :: r, ns, .cons h t, e => by
    have e : (allI r).map (i :: ·) = some ns := e
    cases q : allI r with
    | none => rw [q] at e; cases e
    | some ps' =>
      rw [q] at e
      cases e
      rw [h.int_of, DnAll.ints t q]
      rfl
  | _, .none :: _, _, .cons _ _, e => by cases e
  | _, .bool _ :: _, _, .cons _ _, e => by cases e
  | _, .str _ :: _, _, .cons _ _, e => by cases e
  | _, .list _ :: _, _, .cons _ _, e => by cases e
  | _, .tuple _ :: _, _, .cons _ _, e => by cases e
  | _, .dict _ :: _, _, .cons _ _, e => by cases e
theorem DnAll.ofInts {K : PySem.W.Frag} {F : Hp} : ∀ (ns : List Int), DnAll K et F (ns.map V.int) (ns.map PyData.int)
  | [] => .nil
  | i :: r => .cons (.int i) (DnAll.ofInts r)
/-- one argument -/
theorem DenL.one {K : PySem.W.Frag} {et : ET} {am : Addr} {F : Hp} {vs : List V} {x : DV} (h : DenL K et am F vs [x]) : ∃ v, vs = [v] ∧ DenP K et am F v x := by
  cases h with
  | cons h t => cases t; exact ⟨_, rfl, h⟩
theorem DenL.two {K : PySem.W.Frag} {et : ET} {am : Addr} {F : Hp} {vs : List V} {x y : DV} (h : DenL K et am F vs [x, y]) : ∃ v w, vs = [v, w] ∧ DenP K et am F v x ∧ DenP K et am F w y := by
  cases h with
  | cons h t =>
    cases t with
    | cons h2 t2 => cases t2; exact ⟨_, _, rfl, h, h2⟩
def bLen : List DV → Option PyData
  | [.pu (.list xs)] => some (.int xs.length)
  | [.pu (.tuple xs)] => some (.int xs.length)
  | [.pu (.str x)] => if x.length ≤ bigN then some (.int x.length) else none
  | [.scr ns] => some (.int ns.length)
  | [.pu (.dict kvs)] => if tupKeys kvs = true then some (.int kvs.length) else none
  | _ => none
theorem cs_len : CallS X et (.builtin "len") bLen := by
  intro am B F g σ H vs ds d Q R hd e q
  unfold bLen at e
  split at e
  · cases e
    obtain ⟨v, rfl, dn⟩ := hd.one
    have dn : Dn X.K et F v (.list _) := dn
    cases dn with
    | lst sx dx => exact ⟨_, call_len, _, _, rfl, .inl ⟨_, SqL.of (R.sub _ _ sx), rfl⟩, by rw [dx.length]; exact q _ F H Ext.refl R (.int _)⟩
  · cases e
    obtain ⟨v, rfl, dn⟩ := hd.one
    have dn : Dn X.K et F v (.tuple _) := dn
    cases dn with
    | tup sx dx => exact ⟨_, call_len, _, _, rfl, .inr ⟨_, SqT.mono R.sub sx, rfl⟩, by rw [dx.length]; exact q _ F H Ext.refl R (.int _)⟩
  · split at e
    · rename_i hz
      cases e
      obtain ⟨v, rfl, dn⟩ := hd.one
      have dn : Dn X.K et F v (.str _) := dn
      rw [dn.str_of]
      exact ⟨_, call_len, _, _, rfl, ⟨by rw [bigN_eq]; exact hz, rfl⟩, q _ F H Ext.refl R (.int _)⟩
    · cases e
  · cases e
    obtain ⟨v, rfl, a, rfl, sx⟩ := hd.one
    exact ⟨_, call_len, _, _, rfl, .inl ⟨_, SqL.mono R.sub sx, rfl⟩, by rw [List.length_map]; exact q _ F H Ext.refl R (.int _)⟩
  · split at e
    · rename_i kvs hz
      cases e
      obtain ⟨v, rfl, dn⟩ := hd.one
      obtain ⟨a, o, es, rfl, hf, kv⟩ := Dn.dict_nd (show Dn X.K et F v (.dict kvs) from dn) hz
      exact ⟨_, call_lenN (hs := et.hs), _, _, _, rfl, R.sub _ _ hf, by rw [kv.length]; exact q _ F H Ext.refl R (.int _)⟩
    · cases e
  · cases e
def bInt : List DV → Option PyData
  | [.pu (.int i)] => some (.int i)
  | [.pu (.bool b)] => some (.int (if b then 1 else 0))
  | _ => none
theorem cs_int : CallS X et (.type "int") bInt := by
  intro am B F g σ H vs ds d Q R hd e q
  unfold bInt at e
  split at e
  · cases e
    obtain ⟨v, rfl, dn⟩ := hd.one
    rw [Dn.int_of dn]
    exact ⟨_, call_int1, .inl ⟨_, rfl, q _ F H Ext.refl R (.int _)⟩⟩
  · cases e
    obtain ⟨v, rfl, dn⟩ := hd.one
    rw [Dn.bl_of dn]
    exact ⟨_, call_int1, .inr ⟨_, rfl, q _ F H Ext.refl R (.int _)⟩⟩
  · cases e
def bSum : List DV → Option PyData
  | [.pu (.list xs)] => (allI xs).map fun ns => .int ns.sum
  | [.pu (.tuple xs)] => (allI xs).map fun ns => .int ns.sum
  | _ => none
theorem cs_sum (hc : X.calm = true) : CallS X et (.builtin "sum") bSum := by
  intro am B F g σ H vs ds d Q R hd e q
  unfold bSum at e
  split at e
  · rename_i xs
    obtain ⟨v, rfl, dn⟩ := hd.one
    cases qi : allI xs with
    | none => rw [qi] at e; cases e
    | some ns =>
      rw [qi] at e
      cases e
      have dn : Dn X.K et F v (.list _) := dn
      cases dn with
      | lst sx dx =>
        have ei := dx.ints qi
        subst ei
        exact ⟨_, cr_sum hc, _, _, rfl, SqL.of (R.sub _ _ sx), q _ F H Ext.refl R (.int _)⟩
  · rename_i xs
    obtain ⟨v, rfl, dn⟩ := hd.one
    cases qi : allI xs with
    | none => rw [qi] at e; cases e
    | some ns =>
      rw [qi] at e
      cases e
      have dn : Dn X.K et F v (.tuple _) := dn
      cases dn with
      | tup sx dx =>
        have ei := dx.ints qi
        subst ei
        exact ⟨_, dl_cr_sumT hc, _, _, rfl, SqT.mono R.sub sx, q _ F H Ext.refl R (.int _)⟩
  · cases e
/-- the one sorted list -/
def leI (a b : Int) : Bool := decide (a ≤ b)
def sortI (ns : List Int) : List Int := ns.mergeSort leI
theorem leI_tr : ∀ a b c : Int, leI a b = true → leI b c = true → leI a c = true := fun a b c h1 h2 => by
  simp only [leI, decide_eq_true_eq] at *
  omega
theorem leI_tot : ∀ a b : Int, (leI a b || leI b a) = true := fun a b => by
  simp only [leI, Bool.or_eq_true, decide_eq_true_eq]
  omega
theorem sorted_one : ∀ {a b : List Int}, a.Perm b → a.Pairwise (· ≤ ·) → b.Pairwise (· ≤ ·) → a = b
  | [], b, p, _, _ => (List.Perm.nil_eq p)
  | x :: a, [], p, _, _ => by have := p.length_eq; simp at this
  | x :: a, y :: b, p, ha, hb => by
    have h1 := List.pairwise_cons.mp ha
    have h2 := List.pairwise_cons.mp hb
    have e : x = y := by
      have m1 : x ∈ y :: b := p.subset List.mem_cons_self
      have m2 : y ∈ x :: a := p.symm.subset List.mem_cons_self
      rcases List.mem_cons.mp m1 with z | z
      · exact z
      · rcases List.mem_cons.mp m2 with z' | z'
        · exact z'.symm
        · have := h1.1 y z'
          have := h2.1 x z
          omega
    subst e
    rw [sorted_one ((List.perm_cons x).mp p) h1.2 h2.2]
theorem sortI_pw (ns : List Int) : (sortI ns).Pairwise (· ≤ ·) :=
  (List.pairwise_mergeSort leI_tr leI_tot ns).imp fun h => by simpa [leI] using h
theorem sortI_is {ns ns' : List Int} (p : ns'.Perm ns) (s : ns'.Pairwise (· ≤ ·)) : ns' = sortI ns :=
  sorted_one (p.trans (List.mergeSort_perm ns leI).symm) s (sortI_pw ns)
def sortOk (xs : List PyData) : Bool := alikeB xs && neTup xs && decide (PyData.depthAll xs ≤ 64)
def bSorted : List DV → Option PyData
  | [.pu (.list xs)] => match allI xs with
    | some ns => some (.list ((sortI ns).map .int))
    | none => if sortOk xs = true then some (.list (sortT xs)) else none
  | [.pu (.tuple xs)] => (allI xs).map fun ns => .list ((sortI ns).map .int)
  | _ => none
theorem cs_sorted (hu : X.A.units + 100 < cLine) : CallS X et (.builtin "sorted") bSorted := by
  intro am B F g σ H vs ds d Q R hd e q
  unfold bSorted at e
  split at e
  · rename_i xs
    obtain ⟨v, rfl, dn⟩ := hd.one
    cases qi : allI xs with
    | none =>
      rw [qi] at e
      simp only [] at e
      split at e
      · rename_i hz
        cases e
        unfold sortOk at hz
        rw [Bool.and_eq_true, Bool.and_eq_true, decide_eq_true_eq] at hz
        have dn : Dn X.K et F v (.list _) := dn
        cases dn with
        | lst sx dx =>
          refine ⟨_, call_sortT (et := et) hu, _, _, F, xs, rfl, SqL.of (R.sub _ _ sx), R.sub, dx, hz.1.1, hz.1.2, hz.2, fun p ws hp dw => ?_⟩
          obtain ⟨R', ex⟩ := R.alloc hp (.lst ws)
          exact q _ _ _ ex R' (.lst upd_same (dw.up ex.1))
      · cases e
    | some ns =>
      rw [qi] at e
      cases e
      have dn : Dn X.K et F v (.list _) := dn
      cases dn with
      | lst sx dx =>
        have ei := dx.ints qi
        subst ei
        refine ⟨_, cr_sortedI, _, _, rfl, SqL.of (R.sub _ _ sx), fun ns' p h1 h2 hp => ?_⟩
        obtain ⟨R', ex⟩ := R.alloc hp (.lst (ns'.map V.int))
        have es := sortI_is h1 h2
        subst es
        exact q _ _ _ ex R' (.lst upd_same (DnAll.ofInts _))
  · rename_i xs
    obtain ⟨v, rfl, dn⟩ := hd.one
    cases qi : allI xs with
    | none => rw [qi] at e; cases e
    | some ns =>
      rw [qi] at e
      cases e
      have dn : Dn X.K et F v (.tuple _) := dn
      cases dn with
      | tup sx dx =>
        have ei := dx.ints qi
        subst ei
        refine ⟨_, dl_cr_sortedT, _, _, rfl, SqT.mono R.sub sx, fun ns' p h1 h2 hp => ?_⟩
        obtain ⟨R', ex⟩ := R.alloc hp (.lst (ns'.map V.int))
        have es := sortI_is h1 h2
        subst es
        exact q _ _ _ ex R' (.lst upd_same (DnAll.ofInts _))
  · cases e
def bTuple : List DV → Option PyData
  | [.pu (.list xs)] => some (.tuple xs)
  | [.pu (.tuple xs)] => some (.tuple xs)
  | _ => none
theorem cs_tuple : CallS X et (.type "tuple") bTuple := by
  intro am B F g σ H vs ds d Q R hd e q
  unfold bTuple at e
  split at e
  · cases e
    obtain ⟨v, rfl, dn⟩ := hd.one
    have dn : Dn X.K et F v (.list _) := dn
    cases dn with
    | lst sx dx =>
      refine ⟨_, call_tuple_of, _, _, rfl, .inl ⟨SqL.of (R.sub _ _ sx), fun p hp => ?_⟩⟩
      obtain ⟨R', ex⟩ := R.alloc hp (.tup _)
      exact q _ _ _ ex R' (.tup (SqT.of upd_same) (dx.up ex.1))
  · cases e
    obtain ⟨v, rfl, dn⟩ := hd.one
    have dn : Dn X.K et F v (.tuple _) := dn
    cases dn with
    | tup sx dx => exact ⟨_, call_tuple_of, _, _, rfl, .inr ⟨SqT.mono R.sub sx, q _ F H Ext.refl R (.tup sx dx)⟩⟩
  · cases e
def bList : List DV → Option PyData
  | [.pu (.list xs)] => some (.list xs)
  | [.pu (.tuple xs)] => some (.list xs)
  | [.scr ns] => some (.list (ns.map .int))
  | [.pu (.dict kvs)] => if tupKeys kvs = true then some (.list (kvs.map (·.1))) else none
  | _ => none
def maxI : List Int → Option Int
  | [] => none
  | a :: r => some (r.foldl max a)
def minI : List Int → Option Int
  | [] => none
  | a :: r => some (r.foldl min a)
theorem foldl_max_mem : ∀ (l : List Int) (a : Int), l.foldl max a ∈ a :: l ∧ ∀ y ∈ a :: l, y ≤ l.foldl max a
  | [], a => ⟨List.mem_cons_self, fun y h => by simp at h; simp [h]⟩
  | b :: l, a => by
    obtain ⟨h1, h2⟩ := foldl_max_mem l (max a b)
    refine ⟨?_, fun y hy => ?_⟩
    · show l.foldl max (max a b) ∈ _
      rcases List.mem_cons.mp h1 with z | z
      · rw [z]
        rcases Int.le_total a b with c | c
        · rw [Int.max_eq_right c]; simp
        · rw [Int.max_eq_left c]; simp
      · exact List.mem_cons_of_mem _ (List.mem_cons_of_mem _ z)
    · show y ≤ l.foldl max (max a b)
      have hm := h2 (max a b) List.mem_cons_self
      rcases List.mem_cons.mp hy with z | z
      · rw [z]; exact Int.le_trans (Int.le_max_left a b) hm
      · rcases List.mem_cons.mp z with z | z
        · rw [z]; exact Int.le_trans (Int.le_max_right a b) hm
        · exact h2 y (List.mem_cons_of_mem _ z)
theorem foldl_min_mem : ∀ (l : List Int) (a : Int), l.foldl min a ∈ a :: l ∧ ∀ y ∈ a :: l, l.foldl min a ≤ y
  | [], a => ⟨List.mem_cons_self, fun y h => by simp at h; simp [h]⟩
  | b :: l, a => by
    obtain ⟨h1, h2⟩ := foldl_min_mem l (min a b)
    refine ⟨?_, fun y hy => ?_⟩
    · show l.foldl min (min a b) ∈ _
      rcases List.mem_cons.mp h1 with z | z
      · rw [z]
        rcases Int.le_total a b with c | c
        · rw [Int.min_eq_left c]; simp
        · rw [Int.min_eq_right c]; simp
      · exact List.mem_cons_of_mem _ (List.mem_cons_of_mem _ z)
    · show l.foldl min (min a b) ≤ y
      have hm := h2 (min a b) List.mem_cons_self
      rcases List.mem_cons.mp hy with z | z
      · rw [z]; exact Int.le_trans hm (Int.min_le_left a b)
      · rcases List.mem_cons.mp z with z | z
        · rw [z]; exact Int.le_trans hm (Int.min_le_right a b)
        · exact h2 y (List.mem_cons_of_mem _ z)
theorem maxI_is {ns : List Int} {M m : Int} (e : maxI ns = some M) (h1 : m ∈ ns) (h2 : ∀ y ∈ ns, y ≤ m) : m = M := by
  cases ns with
  | nil => cases e
  | cons a r =>
    cases e
    obtain ⟨k1, k2⟩ := foldl_max_mem r a
    exact Int.le_antisymm (k2 m h1) (h2 _ k1)
theorem minI_is {ns : List Int} {M m : Int} (e : minI ns = some M) (h1 : m ∈ ns) (h2 : ∀ y ∈ ns, m ≤ y) : m = M := by
  cases ns with
  | nil => cases e
  | cons a r =>
    cases e
    obtain ⟨k1, k2⟩ := foldl_min_mem r a
    exact Int.le_antisymm (h2 _ k1) (k2 m h1)
theorem maxI_pos {ns : List Int} {M : Int} (e : maxI ns = some M) : 0 < ns.length := by
  cases ns with
  | nil => cases e
  | cons a r => simp
theorem minI_pos {ns : List Int} {M : Int} (e : minI ns = some M) : 0 < ns.length := by
  cases ns with
  | nil => cases e
  | cons a r => simp
def pickMax : List PyData → Option PyData
  | [] => none
  | x :: r => if (alikeB (x :: r) && decide (PyData.depthAll (x :: r) ≤ 64)) = true then some (PySem.W.maxD x r) else none
def pickMin : List PyData → Option PyData
  | [] => none
  | x :: r => if (alikeB (x :: r) && decide (PyData.depthAll (x :: r) ≤ 64)) = true then some (PySem.W.minD x r) else none
theorem pickMax_of {xs : List PyData} {d : PyData} (e : pickMax xs = some d) : ∃ x r, xs = x :: r ∧ alikeB (x :: r) = true ∧ PyData.depthAll (x :: r) ≤ 64 ∧ d = PySem.W.maxD x r := by
  unfold pickMax at e
  split at e
  · cases e
  · split at e
    · rename_i h
      rw [Bool.and_eq_true, decide_eq_true_eq] at h
      cases e
      exact ⟨_, _, rfl, h.1, h.2, rfl⟩
    · cases e
theorem pickMin_of {xs : List PyData} {d : PyData} (e : pickMin xs = some d) : ∃ x r, xs = x :: r ∧ alikeB (x :: r) = true ∧ PyData.depthAll (x :: r) ≤ 64 ∧ d = PySem.W.minD x r := by
  unfold pickMin at e
  split at e
  · cases e
  · split at e
    · rename_i h
      rw [Bool.and_eq_true, decide_eq_true_eq] at h
      cases e
      exact ⟨_, _, rfl, h.1, h.2, rfl⟩
    · cases e
def bMax : List DV → Option PyData
  | [.pu (.int a), .pu (.int b)] => some (.int (if b > a then b else a))
  | [.pu (.list xs)] => match allI xs with
    | some ns => (maxI ns).map .int
    | none => pickMax xs
  | [.pu (.tuple xs)] => pickMax xs
  | _ => none
def bMin : List DV → Option PyData
  | [.pu (.int a), .pu (.int b)] => some (.int (if b < a then b else a))
  | [.pu (.list xs)] => match allI xs with
    | some ns => (minI ns).map .int
    | none => pickMin xs
  | [.pu (.tuple xs)] => pickMin xs
  | _ => none
theorem cs_max (hc : X.calm = true) (hu : X.A.units + 100 < cLine) : CallS X et (.builtin "max") bMax := by
  intro am B F g σ H vs ds d Q R hd e q
  unfold bMax at e
  split at e
  · cases e
    obtain ⟨v, w', rfl, d1, d2⟩ := hd.two
    rw [Dn.int_of d1, Dn.int_of d2]
    exact ⟨_, call_max2 hc, _, _, rfl, q _ F H Ext.refl R (.int _)⟩
  · rename_i xs
    obtain ⟨v, rfl, dn⟩ := hd.one
    cases qi : allI xs with
    | none =>
      rw [qi] at e
      have e : pickMax xs = some d := e
      obtain ⟨x, r, rfl, h1, h2, rfl⟩ := pickMax_of e
      have dn : Dn X.K et F v (.list _) := dn
      cases dn with
      | lst sx dx => exact ⟨_, call_maxDt (et := et) false hc hu, _, _, F, x, r, rfl, SqL.of (R.sub _ _ sx), R.sub, dx, h1, h2, fun w dw => q w F H Ext.refl R dw⟩
    | some ns =>
      rw [qi] at e
      have e : (maxI ns).map PyData.int = some d := e
      cases qm : maxI ns with
      | none => rw [qm] at e; cases e
      | some M =>
        rw [qm] at e
        cases e
        have dn : Dn X.K et F v (.list _) := dn
        cases dn with
        | lst sx dx =>
          have ei := dx.ints qi
          subst ei
          exact ⟨_, cr_max hc, _, _, rfl, SqL.of (R.sub _ _ sx), maxI_pos qm, fun m h1 h2 => by rw [maxI_is qm h1 h2]; exact q _ F H Ext.refl R (.int _)⟩
  · rename_i xs
    obtain ⟨v, rfl, dn⟩ := hd.one
    obtain ⟨x, r, rfl, h1, h2, rfl⟩ := pickMax_of e
    have dn : Dn X.K et F v (.tuple _) := dn
    cases dn with
    | tup sx dx => exact ⟨_, call_maxDt (et := et) true hc hu, _, _, F, x, r, rfl, SqT.mono R.sub sx, R.sub, dx, h1, h2, fun w dw => q w F H Ext.refl R dw⟩
  · cases e
theorem cs_min (hc : X.calm = true) (hu : X.A.units + 100 < cLine) : CallS X et (.builtin "min") bMin := by
  intro am B F g σ H vs ds d Q R hd e q
  unfold bMin at e
  split at e
  · cases e
    obtain ⟨v, w', rfl, d1, d2⟩ := hd.two
    rw [Dn.int_of d1, Dn.int_of d2]
    exact ⟨_, call_min2 hc, _, _, rfl, q _ F H Ext.refl R (.int _)⟩
  · rename_i xs
    obtain ⟨v, rfl, dn⟩ := hd.one
    cases qi : allI xs with
    | none =>
      rw [qi] at e
      have e : pickMin xs = some d := e
      obtain ⟨x, r, rfl, h1, h2, rfl⟩ := pickMin_of e
      have dn : Dn X.K et F v (.list _) := dn
      cases dn with
      | lst sx dx => exact ⟨_, call_minDt (et := et) false hc hu, _, _, F, x, r, rfl, SqL.of (R.sub _ _ sx), R.sub, dx, h1, h2, fun w dw => q w F H Ext.refl R dw⟩
    | some ns =>
      rw [qi] at e
      have e : (minI ns).map PyData.int = some d := e
      cases qm : minI ns with
      | none => rw [qm] at e; cases e
      | some M =>
        rw [qm] at e
        cases e
        have dn : Dn X.K et F v (.list _) := dn
        cases dn with
        | lst sx dx =>
          have ei := dx.ints qi
          subst ei
          exact ⟨_, cr_min hc, _, _, rfl, SqL.of (R.sub _ _ sx), minI_pos qm, fun m h1 h2 => by rw [minI_is qm h1 h2]; exact q _ F H Ext.refl R (.int _)⟩
  · rename_i xs
    obtain ⟨v, rfl, dn⟩ := hd.one
    obtain ⟨x, r, rfl, h1, h2, rfl⟩ := pickMin_of e
    have dn : Dn X.K et F v (.tuple _) := dn
    cases dn with
    | tup sx dx => exact ⟨_, call_minDt (et := et) true hc hu, _, _, F, x, r, rfl, SqT.mono R.sub sx, R.sub, dx, h1, h2, fun w dw => q w F H Ext.refl R dw⟩
  · cases e
/-- sys.modules stands in what is fixed, and is no list -/
def SysOk (K : PySem.W.Frag) : Prop := ∃ o, K.lookup sysModules = some o ∧ o.cls ≠ .type "list"
theorem sys_not {a : Addr} {as : List Addr} (h : (a == sysModules) = false) (n : sysModules ∉ as) : sysModules ∉ a :: as := fun z => by
  rcases List.mem_cons.mp z with z | z
  · rw [← z] at h; simp at h
  · exact n z
mutual
theorem Dn.reads {pins : List (Addr × Obj)} {σ : L2.St} {F H : Hp} {s : Shared} (hy : SysOk X.K) (I : Inv X pins σ H s) (sub : Same F H) : ∀ {v : V} {d : PyData}, Dn X.K et F v d → ∀ {u : Value}, RelV v u → d.showable = true → ∃ as, Reads s.heap u d as ∧ sysModules ∉ as
  | _, _, .non, _, r, _ => by
    cases r
    exact ⟨_, Reads.none, by simp⟩
  | _, _, .bl b, _, r, _ => by
    cases r
    exact ⟨_, Reads.bool b, by simp⟩
  | _, _, .int i, _, r, _ => by
    obtain ⟨t, rfl⟩ := r
    exact ⟨_, Reads.int i t, by simp⟩
  | _, _, .str x, _, r, _ => by
    obtain ⟨t, rfl⟩ := r
    exact ⟨_, Reads.str x t, by simp⟩
  | _, _, .lst hs ha, _, r, sh => by
    unfold PyData.showable at sh
    cases r
    obtain ⟨its, rv, ⟨o, n, ho, hc, _, hd⟩, _⟩ := I.list (SqL.of (sub _ _ hs))
    obtain ⟨as, hr, ns⟩ := DnAll.reads hy I sub ha rv sh
    refine ⟨_, Reads.list ho hc hd hr, fun z => ?_⟩
    rcases List.mem_cons.mp z with z | z
    · obtain ⟨om, k1, k2⟩ := hy
      have e := I.kIn _ _ k1
      rw [z, ho] at e
      cases e
      exact k2 hc
    · exact ns z
  | _, _, .tup hs ha, _, r, sh => by
    unfold PyData.showable at sh
    cases r
    obtain ⟨its, rv, ⟨o, ho, hc, n, hd⟩, _⟩ := I.tuple (SqT.mono sub hs)
    obtain ⟨as, hr, ns⟩ := DnAll.reads hy I sub ha rv sh
    exact ⟨_, Reads.tuple ho hc hd hr, ns⟩
  | _, _, .dcx hs kv, _, r, sh => by
    unfold PyData.showable at sh
    cases r
    obtain ⟨_, ⟨_, hn, _, ys, o, ds, ep, pr, ho, hx, hd, hl⟩, _⟩ := I.hok _ _ (sub _ _ hs)
    obtain ⟨as, bs, h1, h2, n1, n2⟩ := DnKv.reads hy I sub kv pr sh
    exact ⟨_, Reads.dict ho hx.1 hd (by rw [hl, List.map_map]; exact h1) (by rw [hl, List.map_map]; exact h2), sys_not hn (fun z => (List.mem_append.mp z).elim n1 n2)⟩
  | _, _, .dck _ hs kv, _, r, sh => by
    unfold PyData.showable at sh
    cases r
    obtain ⟨_, _, hn, vs, kr, o, ds, ep, ho, hx, hd, _, hp, _⟩ := I.hok _ _ (sub _ _ hs)
    obtain ⟨as, bs, h1, h2, n1, n2⟩ := DnKk.reads hy I sub kv kr hp sh
    exact ⟨_, Reads.dict ho hx.1 hd h1 h2, sys_not hn (fun z => (List.mem_append.mp z).elim n1 n2)⟩
  | _, _, .err _ _ _, _, r, sh => by
    exfalso
    unfold PyData.showable PyData.showableKv PyData.showable at sh
    rw [xMark_no] at sh
    cases sh
  | _, _, .er0 _, _, r, sh => by
    exfalso
    unfold PyData.showable PyData.showableKv PyData.showable at sh
    rw [xMark_no] at sh
    cases sh
  | _, _, .fil _, _, r, sh => by
    exfalso
    unfold PyData.showable PyData.showableKv PyData.showable at sh
    rw [xMark_no] at sh
    cases sh
theorem DnAll.reads {pins : List (Addr × Obj)} {σ : L2.St} {F H : Hp} {s : Shared} (hy : SysOk X.K) (I : Inv X pins σ H s) (sub : Same F H) : ∀ {vs : List V} {ds : List PyData}, DnAll X.K et F vs ds → ∀ {us : List Value}, Vals vs us → PyData.showableAll ds = true → ∃ as, ReadsAll s.heap us ds as ∧ sysModules ∉ as
  | _, _, .nil, _, r, _ => by
    cases r
    exact ⟨_, ReadsAll.nil, by simp⟩
  | _, _, .cons h1 h2, _, r, sh => by
    unfold PyData.showableAll at sh
    rw [Bool.and_eq_true] at sh
    cases r with
    | cons r1 r2 =>
      obtain ⟨as, q1, n1⟩ := Dn.reads hy I sub h1 r1 sh.1
      obtain ⟨bs, q2, n2⟩ := DnAll.reads hy I sub h2 r2 sh.2
      exact ⟨_, ReadsAll.cons q1 q2, fun z => (List.mem_append.mp z).elim n1 n2⟩
theorem DnKv.reads {pins : List (Addr × Obj)} {σ : L2.St} {F H : Hp} {s : Shared} (hy : SysOk X.K) (I : Inv X pins σ H s) (sub : Same F H) : ∀ {es : List (NestedKey × Addr × V)} {kvs : List (PyData × PyData)}, DnKv X.K et F es kvs →
    ∀ {ys : List (NestedKey × Addr × Value)}, Paired (fun (p : NestedKey × Addr × V) (q : NestedKey × Addr × Value) => p.1 = q.1 ∧ p.2.1 = q.2.1 ∧ RelV p.2.2 q.2.2) es ys → PyData.showableKv kvs = true →
    ∃ as bs, ReadsAll s.heap (ys.map ((·.key) ∘ fun x => (⟨et.hs x.1, .ref x.2.1, x.2.2⟩ : DictEntry))) (kvs.map (·.1)) as ∧ ReadsAll s.heap (ys.map ((·.val) ∘ fun x => (⟨et.hs x.1, .ref x.2.1, x.2.2⟩ : DictEntry))) (kvs.map (·.2)) bs ∧ sysModules ∉ as ∧ sysModules ∉ bs
  | _, _, .nil, _, r, _ => by
    cases r
    exact ⟨_, _, ReadsAll.nil, ReadsAll.nil, by simp, by simp⟩
  | _, _, .cons _ _ hk hv h2, _, r, sh => by
    unfold PyData.showableKv at sh
    rw [Bool.and_eq_true, Bool.and_eq_true] at sh
    cases r with
    | cons r1 r2 =>
      obtain ⟨e1, e2, e3⟩ := r1
      obtain ⟨as, q1, n1⟩ := Dn.reads hy I sub hk (u := .ref _) rfl sh.1.1
      obtain ⟨cs, q3, n3⟩ := Dn.reads hy I sub hv e3 sh.1.2
      obtain ⟨bs, ds, q2, q4, n2, n4⟩ := DnKv.reads hy I sub h2 r2 sh.2
      refine ⟨_, _, ReadsAll.cons ?_ q2, ReadsAll.cons q3 q4, fun z => (List.mem_append.mp z).elim n1 n2, fun z => (List.mem_append.mp z).elim n3 n4⟩
      show Reads s.heap (Value.ref _) _ _
      rw [← e2]
      exact q1
theorem DnKk.reads {pins : List (Addr × Obj)} {σ : L2.St} {F H : Hp} {s : Shared} (hy : SysOk X.K) (I : Inv X pins σ H s) (sub : Same F H) : ∀ {es : List (Key × V)} {kvs : List (PyData × PyData)}, DnKk X.K et F es kvs →
    ∀ {vs : List (Key × Value)}, KV es vs → ∀ {ds : List DictEntry}, Pairs (mixKind X.prog X.w) ds vs → PyData.showableKv kvs = true →
    ∃ as bs, ReadsAll s.heap (ds.map (·.key)) (kvs.map (·.1)) as ∧ ReadsAll s.heap (ds.map (·.val)) (kvs.map (·.2)) bs ∧ sysModules ∉ as ∧ sysModules ∉ bs
  | _, _, .nil, _, r, _, p, _ => by
    cases r
    cases p
    exact ⟨_, _, ReadsAll.nil, ReadsAll.nil, by simp, by simp⟩
  | _, _, .int _ hv h2, _, r, _, p, sh => by
    unfold PyData.showableKv at sh
    rw [Bool.and_eq_true, Bool.and_eq_true] at sh
    cases r with
    | cons r1 r2 =>
      cases p with
      | cons k1 k2 k3 =>
        obtain ⟨e1, e2⟩ := r1
        obtain ⟨cs, q3, n3⟩ := Dn.reads hy I sub hv e2 sh.1.2
        obtain ⟨bs, ds, q2, q4, n2, n4⟩ := DnKk.reads hy I sub h2 r2 k3 sh.2
        rw [← k2] at q3
        have k1 : keyIs _ _ = true := k1
        rw [← e1] at k1
        rcases keyIs_shape k1 with ⟨i, t, x1, x2⟩ | ⟨x, t, x1, x2⟩
        · cases x1
          refine ⟨_, _, ReadsAll.cons (as := []) ?_ q2, ReadsAll.cons q3 q4, n2, fun z => (List.mem_append.mp z).elim n3 n4⟩
          show Reads s.heap (DictEntry.key _) (.int _) []
          rw [x2]
          exact Reads.int _ t
        · cases x1
  | _, _, .str hv h2, _, r, _, p, sh => by
    unfold PyData.showableKv at sh
    rw [Bool.and_eq_true, Bool.and_eq_true] at sh
    cases r with
    | cons r1 r2 =>
      cases p with
      | cons k1 k2 k3 =>
        obtain ⟨e1, e2⟩ := r1
        obtain ⟨cs, q3, n3⟩ := Dn.reads hy I sub hv e2 sh.1.2
        obtain ⟨bs, ds, q2, q4, n2, n4⟩ := DnKk.reads hy I sub h2 r2 k3 sh.2
        rw [← k2] at q3
        have k1 : keyIs _ _ = true := k1
        rw [← e1] at k1
        rcases keyIs_shape k1 with ⟨i, t, x1, x2⟩ | ⟨x, t, x1, x2⟩
        · cases x1
        · cases x1
          refine ⟨_, _, ReadsAll.cons (as := []) ?_ q2, ReadsAll.cons q3 q4, n2, fun z => (List.mem_append.mp z).elim n3 n4⟩
          show Reads s.heap (DictEntry.key _) (.str _) []
          rw [x2]
          exact Reads.str _ t
end
theorem dl_cr_repr (hy : SysOk X.K) (hg : X.A.guards = some []) (hu : X.A.units + 100 < cLine) : CallR X (.builtin "repr") (fun vs H Q => ∃ v d F, vs = [v] ∧ Same F H ∧ Dn X.K et F v d ∧ d.showable = true ∧ d.depth ≤ 64 ∧ d.shown.length ≤ sizeLine ∧ Q (.str d.shown) H) := by
  intro pins s σ H vs us Q I r h
  obtain ⟨v, d, F, rfl, sub, hd, hs, hdp, hz, q⟩ := h
  obtain ⟨u, rfl, ru⟩ := vals1 r
  obtain ⟨as, rd, ns⟩ := Dn.reads hy I sub hd ru hs
  cases u with
  | ref a => exact repr_of_reads' rd hs (fun _ => ns) hg (by omega) (fun _ _ e => e) (fun h' u tk hk => ⟨.str _, H, I.kept hk, ⟨_, rfl⟩, q⟩) hz
  | none =>
    cases rd
    exact PySem.P.repr_of_none ⟨.str _, H, I.tok _, ⟨_, rfl⟩, q⟩
  | bool b =>
    cases rd
    exact PySem.P.repr_of_bool ⟨.str _, H, I.tok _, ⟨_, rfl⟩, q⟩
  | int i t =>
    cases rd
    exact PySem.P.repr_of_int (of_decide_eq_true hs) ⟨.str _, H, I.tok _, ⟨_, rfl⟩, q⟩
  | str x t =>
    cases rd
    exact PySem.P.repr_of_str ⟨.str _, H, I.tok _, ⟨_, rfl⟩, q⟩ hz
  | _ => cases rd
theorem nd_stay {hs : NestedKey → Int} {a : Addr} {es : List (NestedKey × Addr × V)} {P : Program} {w : World} {H : Hp} {h : Heap} (x : es.length ≤ sizeLine) (y : (a == sysModules) = false) (n : (es.map (·.1)).Nodup)
    (z : ∃ (ys : List (NestedKey × Addr × Value)) (o : Obj) (ds : Array DictEntry) (ep : Nat), Paired (fun (p : NestedKey × Addr × V) (q : NestedKey × Addr × Value) => p.1 = q.1 ∧ p.2.1 = q.2.1 ∧ RelV p.2.2 q.2.2) es ys ∧
      h.get? a = some o ∧ o.ExactDict ∧ o.data = .dict ds ep ∧ ds.toList = ys.map fun x => ⟨hs x.1, .ref x.2.1, x.2.2⟩) : ObjOk P w H h a (NDo hs a es) := by
  refine ⟨⟨x, y, n, z⟩, ?_, fun h1 h2 q k => ?_⟩
  · obtain ⟨ys, o, ds, ep, _, e, _⟩ := z
    exact ⟨o, e⟩
  · obtain ⟨x, y, n, ys, o, ds, ep, p, e, r⟩ := q
    exact ⟨x, y, n, ys, o, ds, ep, p, k _ e, r⟩
theorem nd_empty {hs : NestedKey → Int} {P : Program} {w : World} {H : Hp} (h : Heap) (hb : sysModules < h.objs.size) : ObjOk P w H (h.push { cls := .type "dict", data := .dict #[] }) h.objs.size (NDo hs h.objs.size []) :=
  nd_stay (Nat.zero_le _) (beq_eq_false_iff_ne.mpr (Ne.symm (Nat.ne_of_lt hb))) List.nodup_nil ⟨[], _, #[], 0, .nil, Heap.get?_push_size _ rfl, ⟨rfl, rfl, rfl⟩, rfl, rfl⟩
theorem pe_dnewF {hs : NestedKey → Int} {pos : Pos} : PE X (.Dict [] [] pos) (fun _ H Q => ∀ p o, H p = none → Q (.ref p) (upd H p (.frz o (NDo hs p [])))) := ⟨fun pins s σ H Q I h =>
  wpAny_Dict_empty ⟨.ref s.heap.objs.size, _, I.laid (o := .frz { cls := .type "dict", data := .dict #[] } (NDo hs s.heap.objs.size [])) (t' := s.toks) (fun _ _ q => Heap.get?_push_of_some _ q) (Nat.le_refl _) ⟨Heap.get?_push_size _ rfl, nd_empty s.heap I.big⟩, rfl, h _ _ (I.hok.fresh (Nat.le_refl _))⟩⟩
/-- {} -/
theorem de_dict0 {et : ET} {W : WX} {pos : Pos} : DE X et W (.Dict [] [] pos) (mC (.dict [])) := fun am B F g σ H Q R hq => by
  refine w_of (pe_dnewF (hs := et.hs)) fun p o hp => ?_
  obtain ⟨R', ex⟩ := R.alloc hp (.frz o (NDo et.hs p []))
  exact hq _ _ _ ex R' (.dcx upd_same .nil)
def okShow (d : PyData) : Bool := d.showable && decide (d.depth ≤ 64) && decide (d.shown.length ≤ bigN)
def bRepr : List DV → Option PyData
  | [.pu d] => if okShow d then some (.str d.shown) else none
  | _ => none
theorem cs_repr (hy : SysOk X.K) (hg : X.A.guards = some []) (hu : X.A.units + 100 < cLine) : CallS X et (.builtin "repr") bRepr := by
  intro am B F g σ H vs ds d Q R hd e q
  unfold bRepr at e
  split at e
  · rename_i d0
    split at e
    · rename_i hz
      cases e
      obtain ⟨v, rfl, dn⟩ := hd.one
      unfold okShow at hz
      simp only [Bool.and_eq_true, decide_eq_true_eq, Bool.not_eq_true'] at hz
      exact ⟨_, dl_cr_repr hy hg hu, _, d0, F, rfl, R.sub, dn, hz.1.1, hz.1.2, by rw [bigN_eq]; exact hz.2, q _ F H Ext.refl R (.str _)⟩
    · cases e
  · cases e
/-- isinstance(e, T) of a built-in type -/
def tyN : PyData → String
  | .none => "NoneType"
  | .bool _ => "bool"
  | .int _ => "int"
  | .str _ => "str"
  | .list _ => "list"
  | .tuple _ => "tuple"
  | .dict _ => "dict"
def isiT (T : String) (d : PyData) : Bool := decide (tyN d = T) || (decide (tyN d = "bool") && decide (T = "int"))
def isDct : PyData → Bool
  | .dict ((.int i, _) :: _) => decide (i = xMark)
  | _ => false
theorem nd0 : isDct .none = false := rfl
theorem nd1 {b : Bool} : isDct (.bool b) = false := rfl
theorem nd2 {i : Int} : isDct (.int i) = false := rfl
theorem nd3 {x : Str} : isDct (.str x) = false := rfl
theorem nd4 {xs : List PyData} : isDct (.list xs) = false := rfl
theorem nd5 {xs : List PyData} : isDct (.tuple xs) = false := rfl
theorem show_at {ds : List PyData} (h : PyData.showableAll ds = true) : ∀ d ∈ ds, d.showable = true := fun d hd => by
  induction ds with
  | nil => cases hd
  | cons e ds ih =>
    unfold PyData.showableAll at h
    rw [Bool.and_eq_true] at h
    rcases List.mem_cons.mp hd with rfl | hd
    · exact h.1
    · exact ih h.2 hd
theorem show_tup {ds : List PyData} (h : (PyData.tuple ds).showable = true) : ∀ d ∈ ds, d.showable = true := show_at (by unfold PyData.showable at h; exact h)
theorem isDct_show {d : PyData} (h : d.showable = true) : isDct d = false := by
  unfold isDct
  split
  · rename_i i x r
    refine decide_eq_false fun e => ?_
    subst e
    unfold PyData.showable at h
    simp [PyData.showable, PyData.showableKv, xMark_no] at h
  · rfl
def mIsi (T : String) (f : Sg → Rs Sg DV) (g : Sg) : Rs Sg DV := (f g).bind fun x g1 => match x with | .pu d => if isDct d = true then .no else .ok (.pu (.bool (isiT T d))) g1 | _ => .no
theorem Dn.ty {K : PySem.W.Frag} {F H : Hp} {v : V} {d : PyData} (h : Dn K et F v d) (nd : isDct d = false) (s : Same F H) : TyX K H v (.type (tyN d)) ∨ ∃ a o es, v = .ref a ∧ tyN d = "dict" ∧ H a = some (.frz o (NDo et.hs a es)) := by
  cases h with
  | non => exact .inl (.base .non)
  | bl b => exact .inl (.base (.bl b))
  | int i => exact .inl (.base (.int i))
  | str x => exact .inl (.base (.str x))
  | lst a b => exact .inl (.base (.lst (s _ _ a)))
  | tup a b =>
    rcases SqT.mono s a with (a | ⟨o, a⟩) | ⟨o, its, n, a, c, _⟩
    · exact .inl (.base (.tup a))
    · exact .inl (.fTuple a)
    · exact .inl (.kTuple a c)
  | dcx a _ => exact .inr ⟨_, _, _, rfl, rfl, s _ _ a⟩
  | dck _ a _ => exact .inl (.fDict (s _ _ a))
  | err _ _ _ => exact absurd nd (by simp [isDct])
  | er0 _ => exact absurd nd (by simp [isDct])
  | fil _ => exact absurd nd (by simp [isDct])
/-- isinstance of a datum, one class -/
def rIsiD (K : PySem.W.Frag) (et : ET) : List V → Hp → VK → Prop := fun xs H Q => ∃ (v c : V) (F : Hp) (d : PyData) (cu : Value) (b : Bool), xs = [v, c] ∧ ClsV c cu ∧ Same F H ∧ Dn K et F v d ∧ isDct d = false ∧ PySem.W.kitOne K (.type (tyN d)) cu = some b ∧ Q (.bl b) H
theorem call_isiD : CallR X (.builtin "isinstance") (rIsiD X.K et) := by
  intro pins s σ H xs us Q I rr hh
  obtain ⟨v, c, F, d, cu, b, rfl, k, sub, dn, nd, e, q⟩ := hh
  cases rr with
  | cons rv rr =>
    cases rr with
    | cons rc rr =>
      cases rr
      have hc := k.eq rc
      subst hc
      rcases dn.ty nd sub with ty | ⟨a, o, es, rfl, et', hf⟩
      · obtain ⟨P, Z, p, hx⟩ := kit_of I rv ty
        exact PySem.W.kia_one Z I.kIn p e hx fun tk => ⟨.bl b, _, I.tok tk, rfl, q⟩
      · cases rv
        rw [et'] at e
        obtain ⟨_, ⟨_, hn, _, ys, ob, ds, ep, pr, ho, hx, hd, hl⟩, _⟩ := I.hok _ _ hf
        exact PySem.W.kia_one PySem.W.kitx_dict I.kIn ⟨ob, ho, hx.1⟩ e (fun z => nomatch z) fun tk => ⟨.bl b, _, I.tok tk, rfl, q⟩
def isiOk (T : String) : Bool := [("NoneType" : String), "bool", "int", "str", "list", "tuple", "dict"].all fun a => decide (kitB a T = some (decide (a = T) || (decide (a = "bool") && decide (T = "int"))))
theorem isi_kit {T : String} (h : isiOk T = true) (d : PyData) : kitB (tyN d) T = some (isiT T d) := by
  have key : ∀ a ∈ [("NoneType" : String), "bool", "int", "str", "list", "tuple", "dict"], kitB a T = some (decide (a = T) || (decide (a = "bool") && decide (T = "int"))) := fun a ha => by
    have := List.all_eq_true.mp h a ha
    exact of_decide_eq_true this
  unfold isiT
  refine key _ ?_
  cases d <;> simp [tyN]
theorem de_isi {T : String} {tx : Str} {p p2 pos : Pos} {e : Expr} {f : Sg → Rs Sg DV} (hm : X.mg "isinstance" = none) (hT : X.mg tx = none) (ha : DE X et W e f) (hk : isiOk T = true := by decide +kernel) (hb : bootBuiltins tx = some (.type T) := by decide +kernel) (hg : Gl X "isinstance" := by rfl) (hg2 : Gl X tx := by rfl)
    (hv : bootBuiltins "isinstance" = some (.builtin "isinstance") := by decide +kernel) (hn2 : tx ≠ "__name__" := by decide) (hd2 : (tx == ("__debug__" : Str)) = false := by decide)
    (he : starEach (e :: [.Name tx p2]) X.env = (false, eval e X.env) :: starEach [.Name tx p2] X.env := by exact star_ok rfl) : DE X et W (.Call (.Name "isinstance" p) [e, .Name tx p2] [] pos) (mIsi T f) := fun am B F g σ H Q R hq => by
  refine w_of (pe_callB (call_isiD (et := et)) hg hm hv (pa_cons pe_w (pa_cons (pe_bltn (v := .ty T) hg2 hT hb rfl hn2 hd2) pa_nil) he) (he := he)) (ha.then (goodV (Q := Q)) R hq fun d g1 v F1 H1 ex1 R1 dn1 hq1 => ?_)
  cases d with
  | own _ => exact hq1.elim
  | m => exact hq1.elim
  | scr _ => exact hq1.elim
  | clo _ => exact hq1.elim
  | exc _ _ => exact hq1.elim
  | dic _ => exact hq1.elim
  | dki _ => exact hq1.elim
  | pu d =>
    by_cases hd : isDct d = true
    · simp only [hd, if_true] at hq1
      exact hq1.elim
    · simp only [hd] at hq1
      exact ⟨v, .ty T, F1, d, .type T, isiT T d, rfl, .ty T, R1.sub, dn1, by simpa using hd, kit_ty (isi_kit hk d), hq1 _ F1 H1 Ext.refl R1 (.bl _)⟩
end
end DL
set_option Elab.async false
set_option linter.all false
set_option maxRecDepth 100000
set_option maxHeartbeats 4000000
set_option autoImplicit false
namespace DL
open PySem PySem.Spec L2
open PyProof.Rows hiding St
section
variable {X : Cx} {et : ET} {W : WX}
def Sg.put (g : Sg) (i : Nat) (x : DV) : Sg := { g with r := g.r.set i (some x) }
/-- a slot is given a value that is no list in the making -/
theorem RepF.put {K : PySem.W.Frag} {et : ET} {am : Addr} {B F : Hp} {g : Sg} {σ : St} {H : Hp} (R : RepF K et am B F g σ H) (i : Nat) {v : V} {x : DV} (h : DenP K et am F v x) : RepF K et am B F (g.put i x) (σ.set i (some v)) H := by
  have nown : isOwnV x = false := by
    cases x with
    | own _ => exact h.elim
    | dic _ => exact h.elim
    | dki _ => exact h.elim
    | _ => rfl
  refine ⟨R.sub, R.fam, R.base, by show _ = (g.r.set i _).length; rw [List.length_set, List.length_set]; exact R.len, fun j y e => ?_, fun j k x1 x2 a e1 e2 o1 o2 e3 e4 => ?_, R.ms⟩
  · have e : (g.r.set i (some x))[j]? = some (some y) := e
    by_cases hij : i = j
    · subst hij
      by_cases hl : i < g.r.length
      · rw [List.getElem?_set_self hl] at e
        cases e
        refine ⟨v, by rw [List.getElem?_set_self (by rw [R.len]; exact hl)], ?_⟩
        cases x with
        | pu d => exact h
        | own _ => exact h.elim
        | dic _ => exact h.elim
        | dki _ => exact h.elim
        | m => exact h
        | scr _ => exact h
        | clo _ => exact h
        | exc _ _ => exact h
      · rw [List.getElem?_eq_none (by rw [List.length_set]; omega)] at e
        cases e
    · rw [List.getElem?_set_ne hij] at e ⊢
      exact R.slot j y e
  · have e1 : (g.r.set i (some x))[j]? = some (some x1) := e1
    have e2 : (g.r.set i (some x))[k]? = some (some x2) := e2
    have hi : ∀ {j : Nat} {y : DV}, (g.r.set i (some x))[j]? = some (some y) → isOwnV y = true → i ≠ j := fun {j y} e oy z => by
      subst z
      by_cases hl : i < g.r.length
      · rw [List.getElem?_set_self hl] at e
        cases e
        rw [nown] at oy; cases oy
      · rw [List.getElem?_eq_none (by rw [List.length_set]; omega)] at e
        cases e
    have h1 := hi e1 o1
    have h2 := hi e2 o2
    rw [List.getElem?_set_ne h1] at e1 e3
    rw [List.getElem?_set_ne h2] at e2 e4
    exact R.inj j k x1 x2 a e1 e2 o1 o2 e3 e4
/-- a slot is given what is being made -/
theorem RepF.putO {K : PySem.W.Frag} {et : ET} {am : Addr} {B F : Hp} {g : Sg} {σ : St} {H : Hp} (R : RepF K et am B F g σ H) (i : Nat) {a : Addr} {x : DV} (hx : DenS K et am B F H (.ref a) x)
    (new : ∀ j y, j ≠ i → g.r[j]? = some (some y) → isOwnV y = true → σ[j]? ≠ some (some (.ref a))) : RepF K et am B F (g.put i x) (σ.set i (some (.ref a))) H := by
  refine ⟨R.sub, R.fam, R.base, by show _ = (g.r.set i _).length; rw [List.length_set, List.length_set]; exact R.len, fun j y e => ?_, fun j k x' y' b e1 e2 o1 o2 e3 e4 => ?_, R.ms⟩
  · have e : (g.r.set i (some x))[j]? = some (some y) := e
    by_cases hij : i = j
    · subst hij
      by_cases hl : i < g.r.length
      · rw [List.getElem?_set_self hl] at e
        cases e
        exact ⟨.ref a, by rw [List.getElem?_set_self (by rw [R.len]; exact hl)], hx⟩
      · rw [List.getElem?_eq_none (by rw [List.length_set]; omega)] at e
        cases e
    · rw [List.getElem?_set_ne hij] at e ⊢
      exact R.slot j y e
  · have e1 : (g.r.set i (some x))[j]? = some (some x') := e1
    have e2 : (g.r.set i (some x))[k]? = some (some y') := e2
    have hin : ∀ {j : Nat} {y : DV}, (g.r.set i (some x))[j]? = some (some y) → i = j → i < σ.length := fun {j y} e z => by
      subst z
      by_cases hl : i < g.r.length
      · rw [R.len]; exact hl
      · rw [List.getElem?_eq_none (by rw [List.length_set]; omega)] at e
        cases e
    by_cases h1 : i = j
    · by_cases h2 : i = k
      · omega
      · exfalso
        have hl := hin e1 h1
        rw [← h1, List.getElem?_set_self hl] at e3
        cases e3
        rw [List.getElem?_set_ne h2] at e2 e4
        exact new k y' (Ne.symm h2) e2 o2 e4
    · by_cases h2 : i = k
      · exfalso
        have hl := hin e2 h2
        rw [← h2, List.getElem?_set_self hl] at e4
        cases e4
        rw [List.getElem?_set_ne h1] at e1 e3
        exact new j x' (Ne.symm h1) e1 o1 e3
      · rw [List.getElem?_set_ne h1] at e1 e3
        rw [List.getElem?_set_ne h2] at e2 e4
        exact R.inj j k x' y' b e1 e2 o1 o2 e3 e4
theorem dss_nil : DSs X et W [] (fun g => .ok .nx g) := fun am B F g σ H D R hq => wss_of pss_nil (hq σ F H Ext.refl R)
def mSeqS (f h : Sg → Rs Sg Fl) (g : Sg) : Rs Sg Fl := (f g).bind fun x g1 => match x with | .nx => h g1 | y => .ok y g1
theorem dss_cons {st : Stmt} {rest : List Stmt} {f h : Sg → Rs Sg Fl} (h1 : DS X et W st f) (h2 : DSs X et W rest h) : DSs X et W (st :: rest) (mSeqS f h) := fun am B F g σ H D R hq => by
  refine wss_of (pss_cons ps_w pss_w) (h1 am B F g σ H _ R ?_)
  unfold mSeqS at hq
  cases q : f g with
  | ok x g1 =>
    rw [q] at hq
    cases x with
    | nx => exact fun σ1 F1 H1 ex1 R1 => h2 am B F1 g1 σ1 H1 D R1 (goodF (σ := σ).weak F F1 _ ex1 hq)
    | rt d => exact hq
    | bk => exact hq
    | ct => exact hq
  | ex c p g1 => rw [q] at hq; exact hq
  | no => rw [q] at hq; exact hq
theorem dss_one {st : Stmt} {f : Sg → Rs Sg Fl} (h1 : DS X et W st f) : DSs X et W [st] f := fun am B F g σ H D R hq => wss_of (pss_one ps_w) (h1 am B F g σ H D R hq)
def mRet (f : Sg → Rs Sg DV) (g : Sg) : Rs Sg Fl := (f g).bind fun d g1 => .ok (.rt d) g1
theorem ds_ret {e : Expr} {pos : Pos} {f : Sg → Rs Sg DV} (h : DE X et W e f) : DS X et W (.Return (some e) pos) (mRet f) := fun am B F g σ H D R hq =>
  ws_of (ps_ret pe_w) (h.then (goodF (D := D)) R hq fun d g1 v F1 H1 ex1 R1 dn1 hq1 => hq1 v σ F1 H1 Ext.refl R1 dn1)
def mDrop (f : Sg → Rs Sg DV) (g : Sg) : Rs Sg Fl := (f g).bind fun _ g1 => .ok .nx g1
theorem ds_expr {e : Expr} {pos : Pos} {f : Sg → Rs Sg DV} (h : DE X et W e f) (hs : swapsWith e none pos.line X.env = pure false := by rfl) : DS X et W (.Expr e pos) (mDrop f) := fun am B F g σ H D R hq =>
  ws_of (ps_expr pe_w hs) (h.then (goodF (D := D)) R hq fun d g1 v F1 H1 ex1 R1 dn1 hq1 => hq1 σ F1 H1 Ext.refl R1)
def mSet (i : Nat) (f : Sg → Rs Sg DV) (g : Sg) : Rs Sg Fl := (f g).bind fun d g1 => .ok .nx (g1.put i d)
theorem ds_set {i : Nat} {x : Str} {e : Expr} {pos' pos : Pos} {f : Sg → Rs Sg DV} (hN : X.N.Nodup) (h : DE X et W e f) (hi : X.N[i]? = some x := by rfl) (hx : Loc X.env.scope x := by first | exact Or.inl rfl | exact Or.inr rfl) (hs : swapsWith e (some (.Name x pos')) pos.line X.env = pure false := by rfl)
    (hf : X.fn x = true ∨ X.env.scope.names.lookup x = some .local := by first | exact .inl rfl | exact .inr rfl | assumption) : DS X et W (.Assign [.Name x pos'] e pos) (mSet i f) := fun am B F g σ H D R hq =>
  ws_of (ps_set hN hi hx pe_w hs hf) (h.then (goodF (D := D)) R hq fun d g1 v F1 H1 ex1 R1 dn1 hq1 => hq1 _ F1 H1 Ext.refl (R1.put i dn1))
/-- x = [] for a list that will grow -/
def mNew (i : Nat) (g : Sg) : Rs Sg Fl := .ok .nx (g.put i (.own []))
/-- a new object is laid that some slot is to own -/
theorem RepF.fresh {K : PySem.W.Frag} {et : ET} {am : Addr} {B F : Hp} {g : Sg} {σ : St} {H : Hp} (R : RepF K et am B F g σ H) {p : Addr} (hp : H p = none) (o : HO) : RepF K et am B F g σ (upd H p o) := by
  obtain ⟨bp, fp, np⟩ := R.bnone hp
  have hne : ∀ {a : Addr} {u : HO}, H a = some u → a ≠ p := fun e => ne_of_none e hp
  refine ⟨fun a u e => ?_, ⟨R.fam.am, Tabs.new R.fam.tabs hp _, R.fam.off⟩, fun a u e na => (R.base a u e na).new hp, R.len, fun j x e => ?_, R.inj, ?_⟩
  · rw [upd_ne (ne_of_none e fp)]
    exact R.sub a u e
  · obtain ⟨v, e1, e2⟩ := R.slot j x e
    exact ⟨v, e1, e2.keep Same.rfl' fun a u _ _ fa ba na ha ow => ⟨fa, ba, by rw [upd_ne (hne ha)]; exact ha⟩⟩
  · exact R.ms.putH np (nx_none hp)
theorem RepF.noref {K : PySem.W.Frag} {et : ET} {am : Addr} {B F : Hp} {g : Sg} {σ : St} {H : Hp} (R : RepF K et am B F g σ H) {p : Addr} (hp : H p = none) : ∀ (j : Nat) (y : DV), g.r[j]? = some (some y) → isOwnV y = true → σ[j]? ≠ some (some (.ref p)) := fun j y e o z => by
  obtain ⟨v, e1, dn⟩ := R.slot j _ e
  rw [e1] at z
  cases z
  cases y with
  | own xs =>
    obtain ⟨a, vs, ev, fa, ba, na, ha, dv⟩ := dn
    cases ev
    rw [hp] at ha
    cases ha
  | dic xs =>
    obtain ⟨a, vs, ev, fa, ba, na, ha, dv⟩ := dn
    cases ev
    rw [hp] at ha
    cases ha
  | dki xs =>
    obtain ⟨a, ev, fa, ba, na, ha⟩ := dn
    cases ev
    rw [hp] at ha
    cases ha
  | _ => cases o
theorem RepF.putNew {K : PySem.W.Frag} {et : ET} {am : Addr} {B F : Hp} {g : Sg} {σ : St} {H : Hp} (R : RepF K et am B F g σ H) (i : Nat) {p : Addr} (hp : H p = none) : RepF K et am B F (g.put i (.own [])) (σ.set i (some (.ref p))) (upd H p (.lst [])) := by
  obtain ⟨bp, fp, np⟩ := R.bnone hp
  exact (R.fresh hp (.lst [])).putO i ⟨p, [], rfl, fp, bp, np, upd_same, .nil⟩ fun j y _ e o => R.noref hp j y e o
theorem ds_new {i : Nat} {x : Str} {lp pos' pos : Pos} (hN : X.N.Nodup) (hi : X.N[i]? = some x := by rfl) (hx : Loc X.env.scope x := by first | exact Or.inl rfl | exact Or.inr rfl) (hs : swapsWith (.List [] lp) (some (.Name x pos')) pos.line X.env = pure false := by rfl)
    (hf : X.fn x = true ∨ X.env.scope.names.lookup x = some .local := by first | exact .inl rfl | exact .inr rfl | assumption) : DS X et W (.Assign [.Name x pos'] (.List [] lp) pos) (mNew i) := fun am B F g σ H D R hq =>
  ws_of (ps_set hN hi hx (pe_lst pa_nil) hs hf) ⟨Nat.zero_le _, fun p hp => hq _ F _ Ext.refl (R.putNew i hp)⟩
/-- x.append(e), x a list in the making -/
def isOwn (g : Sg) (i : Nat) : Bool := match g.r[i]? with
  | some (some (.own _)) => true
  | _ => false
def mApp (i : Nat) (f : Sg → Rs Sg DV) (g : Sg) : Rs Sg Fl := if isOwn g i then (f g).bind fun d g1 => match d, g1.r[i]? with
    | .pu a, some (some (.own xs)) => if xs.length < bigN then .ok .nx (g1.put i (.own (xs ++ [a]))) else .no
    | _, _ => .no
  else .no
theorem isOwn_of {g : Sg} {i : Nat} (h : isOwn g i = true) : ∃ xs, g.r[i]? = some (some (.own xs)) := by
  unfold isOwn at h
  split at h
  · rename_i xs e
    exact ⟨xs, e⟩
  · cases h
theorem RepF.grow {K : PySem.W.Frag} {et : ET} {am : Addr} {B F : Hp} {g : Sg} {σ : St} {H : Hp} (R : RepF K et am B F g σ H) {i : Nat} {xs ys : List PyData} {a : Addr} {ws : List V} (e : g.r[i]? = some (some (.own xs))) (ea : σ[i]? = some (some (.ref a))) (dw : DnAll K et F ws ys) :
    RepF K et am B F (g.put i (.own ys)) σ (upd H a (.lst ws)) := by
  obtain ⟨v, e1, a', vs, rfl, fa, ba, na, ha, dv⟩ := R.slot i _ e
  rw [ea] at e1
  cases e1
  have hi : i < g.r.length := (List.getElem?_eq_some_iff.mp e).1
  refine ⟨fun b u q => ?_, ⟨R.fam.am, Tabs.put R.fam.tabs ha (fun _ z => by cases z) lst_code _, R.fam.off⟩, fun b u q nb => ?_, by show _ = (g.r.set i _).length; rw [List.length_set]; exact R.len, fun j x q => ?_, fun j k x' y' b q1 q2 o1 o2 q3 q4 => ?_, ?_⟩
  · rw [upd_ne (ne_of_none q fa)]
    exact R.sub b u q
  · exact (R.base b u q nb).ne (ne_of_none q ba)
  · have q : (g.r.set i (some (.own ys)))[j]? = some (some x) := q
    by_cases h : i = j
    · subst h
      rw [List.getElem?_set_self hi] at q
      cases q
      exact ⟨.ref a, ea, a, ws, rfl, fa, ba, na, upd_same, dw⟩
    · rw [List.getElem?_set_ne h] at q
      obtain ⟨v, q1, q2⟩ := R.slot j x q
      refine ⟨v, q1, q2.keep Same.rfl' fun b u ow ev fb bb nb hb db => ?_⟩
      subst ev
      have nab : b ≠ a := fun z => h (R.inj i j _ x a e q rfl ow ea (by rw [← z]; exact q1))
      exact ⟨fb, bb, by rw [upd_ne nab]; exact hb⟩
  · have q1 : (g.r.set i (some (.own ys)))[j]? = some (some x') := q1
    have q2 : (g.r.set i (some (.own ys)))[k]? = some (some y') := q2
    have back : ∀ {j : Nat} {z : DV}, (g.r.set i (some (.own ys)))[j]? = some (some z) → isOwnV z = true → ∃ z', g.r[j]? = some (some z') ∧ isOwnV z' = true := fun {j z} q oz => by
      by_cases h : i = j
      · subst h
        exact ⟨_, e, rfl⟩
      · rw [List.getElem?_set_ne h] at q
        exact ⟨_, q, oz⟩
    obtain ⟨_, b1, c1⟩ := back q1 o1
    obtain ⟨_, b2, c2⟩ := back q2 o2
    exact R.inj j k _ _ b b1 b2 c1 c2 q3 q4
  · exact R.ms.putH na (nx_lst ha)
theorem ds_app {i : Nat} {x : Str} {e : Expr} {np apos cpos pos : Pos} {f : Sg → Rs Sg DV} (h : DE X et W e f) (hN : X.N[i]? = some x := by rfl) (hv : Vis X.env.scope x := by first | exact Or.inl rfl | exact Or.inr (Or.inl rfl) | exact Or.inr (Or.inr rfl)) (hd : (x == ("__debug__" : Str)) = false := by decide) (hcd : (x == ("__classdict__" : Str)) = false := by decide)
    (hbase : attributeBase (.Name x np) "append" X.env (eval (.Name x np) X.env) = eval (.Name x np) X.env := by rfl)
    (hfew : ((backTo cpos (starEach (e :: []) X.env)).all (fun x => !x.1) && (backToKw cpos (keywordEach [] X.env)).all (fun x => x.1.isSome) && decide ((e :: []).length + ([] : List Keyword).length + (if ([] : List Keyword).isEmpty then 0 else 1) < 30)) = true := by rfl)
    (hline : (apos.endLine == cpos.line) = true := by rfl) (hs : starEach (e :: []) X.env = (false, eval e X.env) :: starEach [] X.env := by exact star_ok rfl) (hplain : (backTo cpos (starEach [] X.env)).any (·.1) = false := by exact plain_ok rfl)
    (hsw : swapsWith (.Call (.Attribute (.Name x np) "append" apos) [e] [] cpos) none pos.line X.env = pure false := by rfl) :
    DS X et W (.Expr (.Call (.Attribute (.Name x np) "append" apos) [e] [] cpos) pos) (mApp i f) := fun am B F g σ H D R hq => by
  unfold mApp at hq
  split at hq
  · rename_i ho
    obtain ⟨xs0, e0⟩ := isOwn_of ho
    obtain ⟨v, e1, a, vs, rfl, fa, ba, na, ha, dv⟩ := R.slot i _ e0
    refine ws_of (ps_expr (pe_bm PySem.F.plainAttrs_list PySem.F.slot_list_append PySem.F.type_list_append mt_append (pe_var hN hv hd hcd) (pa_cons pe_w pa_nil hs) hbase hfew hline hs hplain) hsw) ?_
    refine ⟨_, e1, .inl ⟨rfl, _, SqL.of ha⟩, h.then (goodF (D := D)) R hq fun d g1 w F1 H1 ex1 R1 dn1 hq1 => ?_⟩
    split at hq1
    · rename_i a' xs e2
      split at hq1
      · rename_i hz
        obtain ⟨v2, e3, a2, vs2, rfl, fa2, ba2, na2, ha2, dv2⟩ := R1.slot i _ e2
        rw [e1] at e3
        cases e3
        refine ⟨a, vs2, w, rfl, rfl, ha2, by rw [dv2.length, bigN_eq]; exact hz, hq1 σ F1 _ Ext.refl (R1.grow e2 e1 (dv2.append (.cons dn1 .nil)))⟩
      · exact hq1.elim
    · exact hq1.elim
  · exact hq.elim
theorem ds_if {c : Expr} {a b : List Stmt} {pos : Pos} {fc : Sg → Rs Sg Bool} {fa fb : Sg → Rs Sg Fl} (hc : DT X et W c fc) (ha : DSs X et W a fa) (hb : DSs X et W b fb) : DS X et W (.If c a b pos) (mIf fc fa fb) := fun am B F g σ H D R hq => by
  refine ws_of (ps_if pt_w pss_w pss_w) (hc.then (goodF (D := D)) R hq fun d g1 F1 H1 ex1 R1 hq1 => ?_)
  cases d with
  | true => exact iteT (ha am B F1 g1 σ H1 D R1 hq1)
  | false => exact iteF (hb am B F1 g1 σ H1 D R1 hq1)
def mAug (i : Nat) (h : PyData → PyData → Option PyData) (f : Sg → Rs Sg DV) (g : Sg) : Rs Sg Fl := match g.r[i]? with
  | some (some (.pu a)) => (f g).bind fun d g1 => match d with
    | .pu b => (Rs.of (h a b) g1).bind fun c g2 => .ok .nx (g2.put i (.pu c))
    | _ => .no
  | _ => .no
theorem ds_augI {i : Nat} {x : Str} {e : Expr} {op : Operator} {pos' pos : Pos} {f : Sg → Rs Sg DV} {h : PyData → PyData → Option PyData} {k : Int → Int → Int} (hN : X.N.Nodup) (he : DE X et W e f) (ho : PIp X op (ipI k)) (hk : ∀ a b c, h a b = some c → ∃ i j, a = .int i ∧ b = .int j ∧ c = .int (k i j))
    (hi : X.N[i]? = some x := by rfl) (hx : Loc X.env.scope x := by first | exact Or.inl rfl | exact Or.inr rfl) (hf : X.fn x = true ∨ X.env.scope.names.lookup x = some .local := by first | exact .inl rfl | exact .inr rfl | assumption) :
    DS X et W (.AugAssign (.Name x pos') op e pos) (mAug i h f) := fun am B F g σ H D R hq => by
  unfold mAug at hq
  split at hq
  · rename_i a ea
    obtain ⟨v, e1, dn⟩ := R.slot i _ ea
    refine ws_of (ps_aug hN hi hx pe_w ho hf) ⟨v, e1, he.then (goodF (D := D)) R hq fun d g1 w F1 H1 ex1 R1 dn1 hq1 => ?_⟩
    cases d with
    | own _ => exact hq1.elim
    | m => exact hq1.elim
    | scr _ => exact hq1.elim
    | clo _ => exact hq1.elim
    | exc _ _ => exact hq1.elim
    | dic _ => exact hq1.elim
    | dki _ => exact hq1.elim
    | pu b =>
      have hq1 : OkF X.K et W am B F1 D ((Rs.of (h a b) g1).bind fun c g2 => .ok .nx (g2.put i (.pu c))) := hq1
      cases q : h a b with
      | none => rw [q] at hq1; exact hq1.elim
      | some c =>
        rw [q] at hq1
        obtain ⟨i', j', ra, rb, rc⟩ := hk a b c q
        subst ra rb rc
        have dn : Dn X.K et F v (.int i') := dn
        refine ⟨i', j', dn.int_of, Dn.int_of dn1, hq1 _ F1 H1 Ext.refl (R1.put i (.int _))⟩
  · exact hq.elim
def dAddI : PyData → PyData → Option PyData
  | .int a, .int b => some (.int (a + b))
  | _, _ => none
theorem ds_augAdd {i : Nat} {x : Str} {e : Expr} {pos' pos : Pos} {f : Sg → Rs Sg DV} (hN : X.N.Nodup) (he : DE X et W e f)
    (hi : X.N[i]? = some x := by rfl) (hx : Loc X.env.scope x := by first | exact Or.inl rfl | exact Or.inr rfl) (hf : X.fn x = true ∨ X.env.scope.names.lookup x = some .local := by first | exact .inl rfl | exact .inr rfl | assumption) :
    DS X et W (.AugAssign (.Name x pos') .Add e pos) (mAug i dAddI f) := ds_augI hN he ip_add (fun a b c q => by
      unfold dAddI at q
      split at q
      · cases q; exact ⟨_, _, rfl, rfl, rfl⟩
      · cases q) hi hx hf
def mPar2 (i j : Nat) (fs : Sg → Rs Sg (List DV)) (g : Sg) : Rs Sg Fl := (fs g).bind fun ds g1 => match ds with
  | [x, y] => .ok .nx ((g1.put i x).put j y)
  | _ => .no
/-- a, b = ([], e): a is to grow -/
def mParNE (i j : Nat) (f : Sg → Rs Sg DV) (g : Sg) : Rs Sg Fl := (f g).bind fun y g1 => .ok .nx ((g1.put i (.own [])).put j y)
theorem RepF.wide {K : PySem.W.Frag} {et : ET} {am : Addr} {B F : Hp} {g : Sg} {σ : St} {H : Hp} (R : RepF K et am B F g σ H) {p : Addr} (hp : H p = none) (o : HO) : RepF K et am (upd B p o) F g σ (upd H p o) := by
  obtain ⟨bp, fp, np⟩ := R.bnone hp
  have hne : ∀ {a : Addr} {u : HO}, H a = some u → a ≠ p := fun e => ne_of_none e hp
  refine ⟨fun a u e => ?_, ⟨R.fam.am, Tabs.new R.fam.tabs hp _, R.fam.off⟩, fun a u e na => ?_, R.len, fun j x e => ?_, R.inj, ?_⟩
  · rw [upd_ne (ne_of_none e fp)]
    exact R.sub a u e
  · by_cases h : a = p
    · rw [h, upd_same] at e
      rw [h]
      exact KeepsO.of (by rw [upd_same]; exact e)
    · rw [upd_ne h] at e
      exact (R.base a u e na).new hp
  · obtain ⟨v, e1, e2⟩ := R.slot j x e
    exact ⟨v, e1, e2.keep Same.rfl' fun a u _ _ fa ba na ha ow => ⟨fa, by rw [upd_ne (hne ha)]; exact ba, by rw [upd_ne (hne ha)]; exact ha⟩⟩
  · exact R.ms.putH np (nx_none hp)
/-- back to the base without p -/
theorem RepF.narrow {K : PySem.W.Frag} {et : ET} {am : Addr} {B F : Hp} {g : Sg} {σ : St} {H : Hp} {p : Addr} {o : HO} (R : RepF K et am (upd B p o) F g σ H) (bp : B p = none) : RepF K et am B F g σ H := by
  have nb : ∀ {a : Addr}, upd B p o a = none → B a = none := fun {a} e => by
    by_cases h : a = p
    · rw [h]; exact bp
    · rw [upd_ne h] at e; exact e
  refine ⟨R.sub, R.fam, fun a u e na => R.base a u (by rw [upd_ne (ne_of_none e bp)]; exact e) na, R.len, fun j x e => ?_, R.inj, R.ms⟩
  obtain ⟨v, e1, e2⟩ := R.slot j x e
  exact ⟨v, e1, e2.keep Same.rfl' fun a u _ _ fa ba na ha ow => ⟨fa, nb ba, ha⟩⟩
theorem Ext.narrow {B F F' : Hp} {p : Addr} {o : HO} (x : Ext (upd B p o) F F') (bp : B p = none) : Ext B F F' := ⟨x.1, fun a u e n => by
  have := x.2 a u e n
  by_cases h : a = p
  · rw [h]; exact bp
  · rw [upd_ne h] at this; exact this⟩
theorem Ext.off {B F F' : Hp} {p : Addr} {o : HO} (x : Ext (upd B p o) F F') (fp : F p = none) : F' p = none := by
  cases q : F' p with
  | none => rfl
  | some u =>
    have := x.2 p u q fp
    rw [upd_same] at this
    cases this
theorem Good.wide {K : PySem.W.Frag} {et : ET} {am : Addr} {B : Hp} {D : Ends} {p : Addr} {o : HO} {σ : St} (bp : B p = none) : Good K et W am (upd B p o) σ (fun F r => F p = none ∧ OkF K et W am B F D r) where
  weak := fun F F1 r x h => ⟨x.off h.1, goodF (σ := σ).weak F F1 r (x.narrow bp) h.2⟩
  ex := fun F c q g h => fun cls d F' H' e R r => h.2 σ cls d F' H' (e.narrow bp) (R.narrow bp) r
  no := fun F h => h.2
/-- a, b = (e, []): b is to grow -/
def mParEN (i j : Nat) (f : Sg → Rs Sg DV) (g : Sg) : Rs Sg Fl := (f g).bind fun y g1 => .ok .nx ((g1.put i y).put j (.own []))
theorem ds_parEN {i j : Nat} {x y : Str} {b : Expr} {px py pt pt2 pl pos : Pos} {kt k2 : Nat} {f : Sg → Rs Sg DV} (hN : X.N.Nodup) (h : DE X et W b f) (hc : X.calm = true := by rfl) (hi : X.N[i]? = some x := by rfl) (hj : X.N[j]? = some y := by rfl) (hij : i ≠ j := by decide)
    (hx : X.env.scope.names.lookup x = some .local := by rfl) (hy : X.env.scope.names.lookup y = some .local := by rfl)
    (hw : swappedStores [.Tuple [.Name x px, .Name y py] kt pt] (.Tuple [b, .List [] pl] k2 pt2) X.env = pure (some [x, y]) := by rfl)
    (hs : swapsWithSole [.Tuple [.Name x px, .Name y py] kt pt] (.Tuple [b, .List [] pl] k2 pt2) pos.line X.env = pure false := by rfl) (hb : starEach [b, .List [] pl] X.env = (false, eval b X.env) :: starEach [.List [] pl] X.env := by exact star_ok rfl) :
    DS X et W (.Assign [.Tuple [.Name x px, .Name y py] kt pt] (.Tuple [b, .List [] pl] k2 pt2) pos) (mParEN i j f) := fun am B F g σ H D R hq => by
  refine ws_of (ps_par hc hN hi hj hij hx hy (pa_cons pe_w (pa_cons (pe_lst pa_nil) pa_nil (by rfl)) hb) hw hs) (h.then (goodF (D := D)) R hq fun d g1 v F1 H1 ex1 R1 dn1 hq1 => ⟨Nat.zero_le _, fun p hp => ?_⟩)
  exact ⟨v, .ref p, rfl, hq1 _ F1 _ Ext.refl ((R1.put i dn1).putNew j hp)⟩
end
end DL
set_option Elab.async false
set_option linter.all false
set_option maxRecDepth 100000
set_option maxHeartbeats 4000000
set_option autoImplicit false
namespace DL
open PySem PySem.Spec L2
open PyProof.Rows hiding St
structure FnG (P : Program) (w : World) (K : PySem.W.Frag) (mg : Str → Option Value) (base : Heap) (k : Nat) (f : Addr) (fd : FuncData) (ps : List Str) (sp : Sp) : Prop where
  len : ∀ vs H Q E, sp vs H Q E → vs.length = ps.length
  run : ∀ (A : Around) (outer : List Env) (s : Shared) (H : Hp) (args : Args) (us : List Value) (vs : List V) (Q : VK) (E : XK), Room k A → A.guards = some [] → Env0 P w K mg base A outer s H →
    BindsTo s fd args (ps.zip us) → Vals vs us → sp vs H Q E → codeAny (model P w) A (.call (.ref f) args) (CR (L2.CX P w) outer P w H s Q E) s
/-- the code object's value of a def -/
def CodeOf (K : PySem.W.Frag) (f : Addr) (cdv : Value) : Prop := ∃ oc od fd osl, K.lookup f = some ⟨oc, od, .func fd, osl⟩ ∧ fd.code = cdv
theorem fnG_ofK {P : Program} {w : World} {K : PySem.W.Frag} {mg : Str → Option Value} {base : Heap} {k : Nat} {x qual : Str} {params : Arguments} {body : List Stmt} {scope : Scope} {dvs : List V} {kws : List (Str × V)} {f : Addr} {fd : FuncData} {N ps : List Str} {sp : Sp}
    (F : FunD K x qual params body scope dvs kws f fd) (S : FnScope N ps scope) (len : ∀ vs H Q E, sp vs H Q E → vs.length = ps.length)
    (hbody : ∀ (cdv : Value), CodeOf K f cdv → ∀ (A : Around) (outer : List Env) (s : Shared) (H : Hp) (vs : List V) (Q : VK) (E : XK), Room k (A.deeper (envOfC qual scope s.heap.objs.size f cdv)) → A.guards = some [] → sp vs H Q E →
      wSs (cxOf (L2.CX P w) P w K mg base N qual scope f cdv A outer s H E) body { nx := fun _ H' => Q .non H', rt := Q } (start N vs) H) : FnG P w K mg base (k + 1) f fd ps sp := by
  obtain ⟨oc, od, dV, kV, doc, pm, an, cdv, ct, osl, rfl, lk, hcd, _, _⟩ := F.ex
  refine ⟨len, fun A outer s H args us vs Q E hr hgd e0 hb r hsp => ?_⟩
  have hl := len _ _ _ _ hsp
  have inK : K.In s.heap := e0.mod.kin.keeps
    fun b o e => (e0.bs b o e).1
  have noLim : s.heap.NoLimit := e0.mod.nolimit.keeps
    fun b o e => (e0.bs b o e).1
  have kinds : ∀ y ∈ ps.zip us, scope.names.lookup y.1 = some .local ∨ (scope.names.lookup y.1 = some .cell ∧
      ((cellsFrom (s.heap.objs.size + 1) scope.names []).lookup y.1).isSome = true) := fun ⟨n, v⟩ hy => by
    rcases S.par n (List.of_mem_zip hy).1 with q | q
    · exact .inl q
    · exact .inr ⟨q, PySem.W.cellsFrom_some _ _ _ (.inl q)⟩
  refine codeAny_call_function hr.depth (inK _ _ lk) rfl S.co S.gen rfl
    (PySem.W.codeRec_of inK hcd) (hb _ _ _ _ ?_)
  refine wpAny_newFunctionEnv_cells S.kind kinds
    fun env he s1 z => ?_
  subst he
  refine ⟨noLim.keeps z.toInCall.keep, codeAny_func ?_⟩
  have I : Inv (cxOf (L2.CX P w) P w K mg base N qual scope f cdv A outer s H E) [] (start N vs) H s1 := inv_start S hr.hd e0 hl r z
  refine wpAny_mono ((hbody cdv ⟨_, _, _, _, lk, rfl⟩ A outer s H vs Q E (hr.deeper _) hgd hsp).run [] s1 I) (fun fl s' hs => ?_) fun e s' hs => hs
  have done : ∀ {σ' : St} {H' : Hp} {v : V} {u : Value}, Inv (cxOf (L2.CX P w) P w K mg base N qual scope f cdv A outer s H E) [] σ' H' s' → RelV v u → Q v H' → CE outer P w H s Q u s' :=
    fun {σ' H' v u} J rv q => ⟨v, H', J.os, J.bare, J.base, J.hok, rv, q⟩
  cases fl with
  | next =>
    obtain ⟨σ', H', J, q⟩ := hs
    exact done (v := .non) (u := .none) J rfl q
  | ret u =>
    obtain ⟨v, σ', H', J, rv, q⟩ := hs
    exact done J rv q
  | cont =>
    obtain ⟨_, _, _, q⟩ := hs
    exact q.elim
  | brk =>
    obtain ⟨_, _, _, q⟩ := hs
    exact q.elim
theorem fnG_of {P : Program} {w : World} {K : PySem.W.Frag} {mg : Str → Option Value} {base : Heap} {k : Nat} {x qual : Str} {params : Arguments} {body : List Stmt} {scope : Scope} {dvs : List V} {kws : List (Str × V)} {f : Addr} {fd : FuncData} {N ps : List Str} {sp : Sp}
    (F : FunD K x qual params body scope dvs kws f fd) (S : FnScope N ps scope) (len : ∀ vs H Q E, sp vs H Q E → vs.length = ps.length)
    (hbody : ∀ (cdv : Value) (A : Around) (outer : List Env) (s : Shared) (H : Hp) (vs : List V) (Q : VK) (E : XK), Room k (A.deeper (envOfC qual scope s.heap.objs.size f cdv)) → A.guards = some [] → sp vs H Q E →
      wSs (cxOf (L2.CX P w) P w K mg base N qual scope f cdv A outer s H E) body { nx := fun _ H' => Q .non H', rt := Q } (start N vs) H) : FnG P w K mg base (k + 1) f fd ps sp :=
  fnG_ofK F S len fun cdv _ => hbody cdv
def OkC (K : PySem.W.Frag) (et : ET) (am : Addr) (F H : Hp) (Q : VK) (E : XK) : Rs MS DV → Prop
  | .ok d s' => ∀ v F' H', Ext H F F' → Same F' H' → Fz et am F' H' → (∀ a o, H a = some o → Fre et am a → KeepsO H' a o) → MRel K et am F' H' s' → DenP K et am F' v d → Q v H'
  | .ex c p s' => ∀ cls dx F' H', Ext H F F' → Same F' H' → Fz et am F' H' → (∀ a o, H a = some o → Fre et am a → KeepsO H' a o) → MRel K et am F' H' s' → ExRel K et F' H' c p cls dx → E cls dx H'
  | .no => False
def spD (K : PySem.W.Frag) (et : ET) (n : Nat) (fn : List DV → MS → Rs MS DV) : Sp := fun vs H Q E =>
  ∃ am F ds s, vs.length = n ∧ Same F H ∧ Fz et am F H ∧ MRel K et am F H s ∧ DenL K et am F vs ds ∧ OkC K et am F H Q E (fn ds s)
def startD (n : Nat) (ds : List DV) : List (Option DV) := ds.map some ++ List.replicate (n - ds.length) none
def endB : Rs Sg Fl → Rs MS DV
  | .ok (.rt d) g => .ok d g.s
  | .ok .nx g => .ok (.pu .none) g.s
  | .ok _ _ => .no
  | .ex c p g => .ex c p g.s
  | .no => .no
def fnB (np n : Nat) (f : Sg → Rs Sg Fl) (ds : List DV) (s : MS) : Rs MS DV := if ds.length = np then endB (f ⟨startD n ds, s⟩) else .no
theorem DenL.length {K : PySem.W.Frag} {et : ET} {am : Addr} {F : Hp} : ∀ {vs : List V} {ds : List DV}, DenL K et am F vs ds → vs.length = ds.length
  | _, _, .nil => rfl
  | _, _, .cons _ t => congrArg (· + 1) (DenL.length t)
theorem DenL.get {K : PySem.W.Frag} {et : ET} {am : Addr} {F : Hp} : ∀ {vs : List V} {ds : List DV} {i : Nat} {d : DV}, DenL K et am F vs ds → ds[i]? = some d → ∃ v, vs[i]? = some v ∧ DenP K et am F v d
  | _, _, _, _, .nil, e => by simp at e
  | _, _, 0, _, .cons h _, e => by simp at e; subst e; exact ⟨_, rfl, h⟩
  | _, _, i + 1, d, .cons _ t, e => by
    obtain ⟨v, h1, h2⟩ := DenL.get (i := i) (d := d) t (by simpa using e)
    exact ⟨v, by simpa using h1, h2⟩
theorem startD_get {n : Nat} {ds : List DV} {i : Nat} {x : DV} (e : (startD n ds)[i]? = some (some x)) : ds[i]? = some x := by
  unfold startD at e
  by_cases hi : i < ds.length
  · rw [List.getElem?_append_left (by simpa using hi), List.getElem?_map] at e
    cases q : ds[i]? with
    | none => rw [q] at e; cases e
    | some a => rw [q] at e; cases e; rfl
  · rw [List.getElem?_append_right (by simpa using hi), List.getElem?_replicate] at e
    split at e <;> cases e
theorem start_get {N : List Str} {vs : List V} {i : Nat} {v : V} (e : vs[i]? = some v) : (start N vs)[i]? = some (some v) := by
  have hi : i < vs.length := (List.getElem?_eq_some_iff.mp e).1
  unfold L2.start
  rw [List.getElem?_append_left (by simpa using hi), List.getElem?_map, e]
  rfl
/-- what a derivation needs of the place where it stands -/
structure Here (X : Cx) (k : Nat) (W : WX) : Prop where
  hr : Room k X.A
  hg : X.A.guards = some []
  tk : Takes X W
  hp : PassesOwn (model X.prog X.w) X.A X.env X.xe
  nd : X.N.Nodup
theorem Here.u64 {X : Cx} {k : Nat} {W : WX} (h : Here X k W) : X.A.units + 64 < cLine := h.hr.units
theorem Here.u100 {X : Cx} {k : Nat} {W : WX} (h : Here X k W) : X.A.units + 100 < cLine := by have := h.hr.un; omega
theorem fnD_ofK {P : Program} {w : World} {K : PySem.W.Frag} {mg : Str → Option Value} {base : Heap} {k : Nat} {x qual : Str} {params : Arguments} {body : List Stmt} {scope : Scope} {dvs : List V} {kws : List (Str × V)} {f : Addr} {fd : FuncData} {N ps : List Str} {et : ET} {fb : Sg → Rs Sg Fl}
    (F : FunD K x qual params body scope dvs kws f fd) (S : FnScope N ps scope) 
    (hbody : ∀ (cdv : Value), CodeOf K f cdv → ∀ (A : Around) (outer : List Env) (s : Shared) (H : Hp) (E : XK), Here (cxOf (L2.CX P w) P w K mg base N qual scope f cdv A outer s H E) k (fun cls d _ H => E cls d H) →
      DSs (cxOf (L2.CX P w) P w K mg base N qual scope f cdv A outer s H E) et (fun cls d _ H => E cls d H) body fb) : FnG P w K mg base (k + 1) f fd ps (spD K et ps.length (fnB ps.length N.length fb)) := by
  refine fnG_ofK F S (fun vs H Q E ⟨_, _, _, _, h, _⟩ => h) fun cdv hcv A outer s H vs Q E hr hgd hsp => ?_
  obtain ⟨am, Fz, ds, ms, hl, sub, fam, mr, dl, ok⟩ := hsp
  have hN : ps.length ≤ N.length := by have := congrArg List.length S.pre; rw [List.length_take] at this; omega
  have here : Here (cxOf (L2.CX P w) P w K mg base N qual scope f cdv A outer s H E) k (fun cls d _ H => E cls d H) :=
    ⟨hr, hgd, takes_of rfl rfl rfl rfl, passes_of rfl, S.nd⟩
  have R : RepF K et am H Fz ⟨startD N.length ds, ms⟩ (start N vs) H := by
    refine ⟨sub, fam, fun _ _ e _ => KeepsO.of e, ?_, fun i y e => ?_, fun i j x1 x2 a e1 e2 o1 _ _ _ => ?_, mr⟩
    · show (start N vs).length = (startD N.length ds).length
      unfold L2.start startD
      rw [List.length_append, List.length_append, List.length_map, List.length_map, List.length_replicate, List.length_replicate, dl.length]
    · obtain ⟨v, e1, e2⟩ := dl.get (startD_get e)
      refine ⟨v, start_get e1, ?_⟩
      cases y with
      | pu d => exact e2
      | own _ => exact e2.elim
      | m => exact e2
      | scr _ => exact e2
      | clo _ => exact e2
      | exc _ _ => exact e2
      | dic _ => exact e2.elim
      | dki _ => exact e2.elim
    · obtain ⟨v, _, e2⟩ := dl.get (startD_get e1)
      cases x1 with
      | own _ => exact e2.elim
      | dic _ => exact e2.elim
      | dki _ => exact e2.elim
      | _ => cases o1
  refine hbody cdv hcv A outer s H E here am H Fz ⟨startD N.length ds, ms⟩ (start N vs) H _ R ?_
  have hds : ds.length = ps.length := by rw [← dl.length]; exact hl
  unfold fnB at ok
  rw [if_pos hds] at ok
  cases q : fb ⟨startD N.length ds, ms⟩ with
  | no => rw [q] at ok; exact ok.elim
  | ex c p g =>
    rw [q] at ok
    exact fun σ cls d F' H' ex R' r => ok cls d F' H' ex R'.sub R'.fam R'.base R'.ms r
  | ok fl g =>
    rw [q] at ok
    cases fl with
    | nx => exact fun σ F' H' ex R' => ok _ F' H' ex R'.sub R'.fam R'.base R'.ms .non
    | rt d => exact fun v σ F' H' ex R' dn => ok v F' H' ex R'.sub R'.fam R'.base R'.ms dn
    | bk => exact ok.elim
    | ct => exact ok.elim
theorem fnD_of {P : Program} {w : World} {K : PySem.W.Frag} {mg : Str → Option Value} {base : Heap} {k : Nat} {x qual : Str} {params : Arguments} {body : List Stmt} {scope : Scope} {dvs : List V} {kws : List (Str × V)} {f : Addr} {fd : FuncData} {N ps : List Str} {et : ET} {fb : Sg → Rs Sg Fl}
    (F : FunD K x qual params body scope dvs kws f fd) (S : FnScope N ps scope) 
    (hbody : ∀ (cdv : Value) (A : Around) (outer : List Env) (s : Shared) (H : Hp) (E : XK), Here (cxOf (L2.CX P w) P w K mg base N qual scope f cdv A outer s H E) k (fun cls d _ H => E cls d H) →
      DSs (cxOf (L2.CX P w) P w K mg base N qual scope f cdv A outer s H E) et (fun cls d _ H => E cls d H) body fb) : FnG P w K mg base (k + 1) f fd ps (spD K et ps.length (fnB ps.length N.length fb)) :=
  fnD_ofK F S fun cdv _ => hbody cdv
/-- a def by its name -/
structure FnC (P : Program) (w : World) (K : PySem.W.Frag) (mg : Str → Option Value) (base : Heap) (et : ET) (k : Nat) (x : Str) (fn : List DV → MS → Rs MS DV) : Prop where
  ex : ∃ (f : Addr) (fd : FuncData) (ps : List Str), (∀ ds s, ds.length ≠ ps.length → fn ds s = .no) ∧ mg x = some (.ref f) ∧ PySem.W.keepIn K (.ref f) = true ∧ Binds K fd ps [] ∧ FnG P w K mg base k f fd ps (spD K et ps.length fn)
/-- the def x of the text stands in the module -/
def DefAt (K : PySem.W.Frag) (mg : Str → Option Value) (x : Str) (st : Stmt) : Prop := ∃ f fd, FunD K x x (defArgs st) (defBody st) (defScope st) [] [] f fd ∧ mg x = some (.ref f)
theorem fnC_ofK {P : Program} {w : World} {K : PySem.W.Frag} {mg : Str → Option Value} {base : Heap} {k : Nat} {x : Str} {st : Stmt} {N ps : List Str} {et : ET} {fb : Sg → Rs Sg Fl}
    (T : DefAt K mg x st) (S : FnScope N ps (defScope st))
    (hb : ∀ (kV doc pm : Value) (an : Option Addr) (cdv ct : Value) (us : List Value), us.length = ps.length → bindArgs (PySem.W.fnOf x x (defArgs st) (defBody st) (defScope st) .none kV doc pm an cdv ct) ⟨us, []⟩ = pure (ps.zip us))
    (hbody : ∀ (f : Addr) (cdv : Value), mg x = some (.ref f) → CodeOf K f cdv → ∀ (A : Around) (outer : List Env) (s : Shared) (H : Hp) (E : XK), Here (cxOf (L2.CX P w) P w K mg base N x (defScope st) f cdv A outer s H E) k (fun cls d _ H => E cls d H) →
      DSs (cxOf (L2.CX P w) P w K mg base N x (defScope st) f cdv A outer s H E) et (fun cls d _ H => E cls d H) (defBody st) fb) : FnC P w K mg base et (k + 1) x (fnB ps.length N.length fb) := by
  obtain ⟨f, fd, F, hm⟩ := T
  exact ⟨f, fd, ps, fun ds s h => if_neg h, hm, F.kp, F.bindsN hb, fnD_ofK F S fun cdv hcv A outer s H E here => hbody f cdv hm hcv A outer s H E here⟩
theorem fnC_of {P : Program} {w : World} {K : PySem.W.Frag} {mg : Str → Option Value} {base : Heap} {k : Nat} {x : Str} {st : Stmt} {N ps : List Str} {et : ET} {fb : Sg → Rs Sg Fl}
    (T : DefAt K mg x st) (S : FnScope N ps (defScope st))
    (hb : ∀ (kV doc pm : Value) (an : Option Addr) (cdv ct : Value) (us : List Value), us.length = ps.length → bindArgs (PySem.W.fnOf x x (defArgs st) (defBody st) (defScope st) .none kV doc pm an cdv ct) ⟨us, []⟩ = pure (ps.zip us))
    (hbody : ∀ (f : Addr) (cdv : Value) (A : Around) (outer : List Env) (s : Shared) (H : Hp) (E : XK), Here (cxOf (L2.CX P w) P w K mg base N x (defScope st) f cdv A outer s H E) k (fun cls d _ H => E cls d H) →
      DSs (cxOf (L2.CX P w) P w K mg base N x (defScope st) f cdv A outer s H E) et (fun cls d _ H => E cls d H) (defBody st) fb) : FnC P w K mg base et (k + 1) x (fnB ps.length N.length fb) :=
  fnC_ofK T S hb fun f cdv _ _ => hbody f cdv
section
variable {X : Cx} {et : ET} {W : WX}
def mCallF (fn : List DV → MS → Rs MS DV) (fs : Sg → Rs Sg (List DV)) (g : Sg) : Rs Sg DV := (fs g).bind fun ds g1 => match fn ds g1.s with
  | .ok d s => .ok d { g1 with s := s }
  | .ex c p s => .ex c p { g1 with s := s }
  | .no => .no
theorem RepF.after {K : PySem.W.Frag} {et : ET} {am : Addr} {B F : Hp} {g : Sg} {σ : St} {H : Hp} (R : RepF K et am B F g σ H) {F' H' : Hp} {s' : MS} (ex : Ext H F F') (sub : Same F' H') (fam : Fz et am F' H') (fr : ∀ a o, H a = some o → Fre et am a → KeepsO H' a o) (mr : MRel K et am F' H' s') :
    RepF K et am B F' { g with s := s' } σ H' ∧ Ext B F F' := by
  refine ⟨⟨sub, fam, fun a o e na => (R.base a o e na).tr fun u eu => fr a u eu na, R.len, fun i x e => ?_, R.inj, mr⟩, ex.1, fun a o e n => (R.bnone (ex.2 a o e n)).1⟩
  obtain ⟨v, e1, e2⟩ := R.slot i x e
  refine ⟨v, e1, e2.keep ex.1 fun a u _ _ fa ba na ha ow => ⟨?_, ba, (fr a _ ha (R.fam.fre na ha ow.tbl)).own ow⟩⟩
  cases q : F' a with
  | none => rfl
  | some o =>
    have := ex.2 a o q fa
    rw [ha] at this
    cases this
theorem de_call {k j : Nat} {x : Str} {fn : List DV → MS → Rs MS DV} {p pos : Pos} {e : Expr} {es : List Expr} {fs : Sg → Rs Sg (List DV)} (C : Here X k W) (G : FnC X.prog X.w X.K X.mg X.base et j x fn) (hj : j ≤ k) (ha : DA X et W (e :: es) fs)
    (hg : Gl X x := by rfl) (hdb : (x == ("__debug__" : Str)) = false := by decide) (he : starEach (e :: es) X.env = (false, eval e X.env) :: starEach es X.env := by exact star_ok rfl) (hpl : (backTo pos (starEach es X.env)).any (·.1) = false := by exact plain_ok rfl) :
    DE X et W (.Call (.Name x p) (e :: es) [] pos) (mCallF fn fs) := fun am B F g σ H Q R hq => by
  refine ⟨fun pins s I => ?_⟩
  obtain ⟨f, fd, ps, hlen, hm, kp, hb, G⟩ := G.ex
  refine wpAny_Call_Name_kw (ld_glob I hg hm ?_ hdb)
  refine PySem.W.callWith_K (h₀ := X.base) I.ok.mod.kin kp (thn ((ha.then (goodV (Q := Q)) R hq (Q := fun vs H1 => spD X.K et ps.length fn vs H1 Q (WE W σ)) (fun ds g1 vs F1 H1 ex1 R1 dn1 hq1 => ?_)).run pos pins s I) fun us s1 ⟨vs, H1, I1, r, q⟩ => ⟨I1.kIn, ?_⟩) he hpl
  · by_cases hl : ds.length = ps.length
    · refine ⟨am, F1, ds, g1.s, by rw [dn1.length]; exact hl, R1.sub, R1.fam, R1.ms, dn1, ?_⟩
      cases q : fn ds g1.s with
      | no => simp only [q] at hq1; exact hq1.elim
      | ok d s' =>
        simp only [q] at hq1
        intro v F' H' ex sub fam fr mr dn
        obtain ⟨R', ex'⟩ := R1.after ex sub fam fr mr
        exact hq1 v F' H' ex' R' dn
      | ex c p s' =>
        simp only [q] at hq1
        intro cls dx F' H' ex sub fam fr mr r
        obtain ⟨R', ex'⟩ := R1.after ex sub fam fr mr
        exact hq1 cls dx F' H' ex' R' r
    · rw [hlen ds g1.s hl] at hq1
      exact hq1.elim
  · have hl : us.length = ps.length := by rw [← r.length]; exact G.len _ _ _ _ q
    have b := hb s1 us I1.kIn (by rw [List.append_nil]; exact hl)
    rw [List.append_nil] at b
    refine wpAny_call (codeAny_mono (G.run X.A X.stack s1 H1 ⟨us, []⟩ us vs Q (WE W σ) (C.hr.mono hj) C.hg I1.env0 b r q) fun rr s' hq => ?_)
    cases rr with
    | error e => exact passAt C.tk σ pins H1 s1 e s' I1 hq
    | ok fl =>
      cases fl with
      | ret u => exact I1.after hq
      | next => exact hq.elim
      | brk => exact hq.elim
      | cont => exact hq.elim
end
end DL
set_option Elab.async false
set_option linter.all false
set_option maxRecDepth 100000
set_option maxHeartbeats 4000000
set_option autoImplicit false
namespace PySem
open Sem (wp)
set_option maxHeartbeats 1000000 in
theorem dl_meets_enum {v : Value} {o : Obj} {H : Heap → Prop} (B : Begins v o H) :
    Meets (Builtin.«enumerate.__new__» ⟨[.type "enumerate", v], []⟩) (fun _ R s => H s.heap ∧
      R (.ok (.ret (.ref (s.heap.push o).objs.size))) { s with heap := (s.heap.push o).push { cls := .type "enumerate", data := .fields #[.none, .bool false, .ref s.heap.objs.size, rawInt 0, .none, .none] } }) :=
  .of_wp fun prog w A R s h => by
    obtain ⟨hp, g, d, tk, os⟩ := s
    obtain ⟨h1, h⟩ := h
    have hsub := sub_enumerate
    have qi : ∀ {A' : Around} {E : Value → Shared → Prop} {Q : Value → Shared → Prop}, Q (.ref hp.objs.size) ⟨hp.push o, g, d, tk, os⟩ →
      wpAny (model prog w) A' (pyIter v) Q E ⟨hp, g, d, tk, os⟩ := fun q => B.iter prog w _ _ ⟨hp, g, d, tk, os⟩ _ h1 q
    wp_walk using qi
    refine wpAny_stack_any fun st => wpAny_pure ?_
    split
    · rename_i c _ _ _ _ _
      cases (c == Value.type "enumerate")
      · wp_walk using qi
        exact ⟨_, rfl, h⟩
      · wp_walk using qi
        exact ⟨_, rfl, h⟩
    · wp_walk using qi
      exact ⟨_, rfl, h⟩
section
variable {prog : Program} {w : World} {A : Around} {E : Value → Shared → Prop} {s : Shared}
theorem dl_enum_begins {v : Value} {o : Obj} {H : Heap → Prop} {Q : Value → Shared → Prop} (B : Begins v o H) (h1 : H s.heap)
    (h : ∀ h', IsEnum h' (s.heap.objs.size + 1) s.heap.objs.size 0 .none → h'.get? s.heap.objs.size = some o → h'.objs.size = s.heap.objs.size + 2 → (∀ b o, s.heap.get? b = some o → h'.get? b = some o) → Q (.ref (s.heap.objs.size + 1)) { s with heap := h' }) :
    wpAny (model prog w) A (call (.type "enumerate") [v]) Q E s := by
  refine callType_new F.called_enumerate (by decide) (F.typeCall_enumerate_1 _) (F.newCall_enumerate_1 _)
    (fun obj => F.args_object_init_2 obj _) F.entry_enumerate_new (dl_meets_enum B) ⟨h1, ?_⟩
  have zs : (s.heap.push o).objs.size = s.heap.objs.size + 1 := Heap.size_push ..
  show _ ∧ _
  rw [zs]
  have en : IsEnum ((s.heap.push o).push { cls := .type "enumerate", data := .fields #[.none, .bool false, .ref s.heap.objs.size, rawInt 0, .none, .none] }) (s.heap.objs.size + 1) s.heap.objs.size 0 .none := by
    have z := Heap.get?_push_size (s.heap.push o) (o := { cls := .type "enumerate", data := .fields #[.none, .bool false, .ref s.heap.objs.size, rawInt 0, .none, .none] }) rfl
    rw [zs] at z
    exact z
  exact ⟨⟨_, en, rfl⟩, h _ en (Heap.get?_push_of_some _ (Heap.get?_push_size _ B.free)) (by rw [Heap.size_push, zs]) fun b o x => Heap.get?_push_of_some _ (Heap.get?_push_of_some _ x)⟩
end
end PySem
namespace L2
open PySem PySem.Spec PyProof.Rows
def SqX (b : Bool) (K : PySem.W.Frag) (H : Hp) (a : Addr) (xs : List V) : Prop := if b = true then SqT K H a xs else SqL K H a xs
def ItX (b : Bool) (h : Heap) (it a : Addr) (i : Nat) : Prop := if b = true then h.IsTupleIter it a i else h.IsListIter it a i
def HasX (b : Bool) (h : Heap) (a : Addr) (its : Array Value) : Prop := if b = true then h.IsTuple a its else h.IsList a its
section
variable {X : Cx} {pins : List (Addr × Obj)} {σ : St} {H : Hp} {s : Shared} {a : Addr} {xs ys : List V} {b : Bool}
theorem Inv.seqX (I : Inv X pins σ H s) (h : SqX b X.K H a xs) : ∃ its : List Value, Vals xs its ∧ HasX b s.heap a its.toArray := by
  cases b with
  | true =>
    obtain ⟨its, r, p, _⟩ := I.tuple (show SqT X.K H a xs from h)
    exact ⟨its, r, p⟩
  | false =>
    obtain ⟨its, r, p, _⟩ := I.list (show SqL X.K H a xs from h)
    exact ⟨its, r, p.isList⟩
theorem Inv.seqX_inj (I : Inv X pins σ H s) (h : SqX b X.K H a xs) (h' : SqX b X.K H a ys) : xs = ys := by
  cases b with
  | true => exact I.tuple_inj h h'
  | false => exact I.list_inj h h'
theorem ItX.obj {h : Heap} {it : Addr} {i : Nat} (q : ItX b h it a i) : ∃ o, h.get? it = some o ∧ ∀ v, o.data ≠ .cell v := by
  cases b with
  | true =>
    obtain ⟨o, e, c, d⟩ := (show h.IsTupleIter it a i from q)
    exact ⟨o, e, fun v z => by rw [d] at z; cases z⟩
  | false =>
    obtain ⟨o, e, c, d⟩ := (show h.IsListIter it a i from q)
    exact ⟨o, e, fun v z => by rw [d] at z; cases z⟩
theorem ItX.at {h h' : Heap} {it : Addr} {i : Nat} (q : ItX b h it a i) (k : ∀ o, h.get? it = some o → h'.get? it = some o) : ItX b h' it a i := by
  cases b with
  | true => exact Heap.IsTupleIter.at (show h.IsTupleIter it a i from q) k
  | false => exact Heap.IsListIter.at (show h.IsListIter it a i from q) k
theorem HasX.ne {h : Heap} {its : Array Value} {it : Addr} {i : Nat} (q : HasX b h a its) (p : ItX b h it a i) : a ≠ it := fun z => by
  cases b with
  | true =>
    obtain ⟨o, e, c, _⟩ := (show h.IsTuple a its from q)
    obtain ⟨o', e', c', _⟩ := (show h.IsTupleIter it a i from p)
    rw [← z, e] at e'
    cases e'
    rw [c] at c'
    simp at c'
  | false =>
    obtain ⟨o, e, c, _⟩ := (show h.IsList a its from q)
    obtain ⟨o', e', c', _⟩ := (show h.IsListIter it a i from p)
    rw [← z, e] at e'
    cases e'
    rw [c] at c'
    simp at c'
theorem drawsX {prog : Program} {w : World} {A : Around} (hh : A.handled = none) (it : Addr) (hne : a ≠ it) (items : Array Value) : Draws prog w A it [it, a] items.size (fun i v => items[i]? = some v) (fun i h => ItX b h it a i ∧ HasX b h a items) := by
  cases b with
  | true => exact Draws.tuple hh it a hne items
  | false => exact Draws.list hh it a hne items
def objX (b : Bool) (a : Addr) : Obj := if b = true then { cls := .type "tuple_iterator", data := .fields #[.ref a, .int 0 0] } else { cls := .type "list_iterator", data := .fields #[.ref a, .int 0 0] }
theorem beginsX (its : Array Value) : Begins (.ref a) (objX b a) (fun h => HasX b h a its) := by
  cases b with
  | true => exact begins_tuple a its
  | false => exact begins_list a its
theorem ItX.new {h : Heap} {it : Addr} (e : h.get? it = some (objX b a)) : ItX b h it a 0 := by
  cases b with
  | true => exact ⟨_, e, rfl, rfl⟩
  | false => exact ⟨_, e, rfl, rfl⟩
end
def IteX (b : Bool) (K : PySem.W.Frag) (a : Addr) : It :=
  ⟨fun i H => ∃ (xs : List V) (x : V), SqX b K H a xs ∧ xs[i]? = some x, fun i H v H' => ∃ T x, v = .ref T ∧ H T = none ∧ H' = upd H T (.tup [.int (i : Nat), x]) ∧ ∀ xs, SqX b K H a xs → xs[i]? = some x, fun i H => ∃ xs : List V, SqX b K H a xs ∧ xs.length = i⟩
theorem turn_enumX {P : Program} {w : World} {K : PySem.W.Frag} {elts : List Expr} {kk : Nat} {tpos : Pos} (b : Bool) (a e it : Addr) :
    Turn P w K (.Tuple elts kk tpos) (IteX b K a) [e, it] e (fun i h => (∃ old, IsEnum h e it ((i : Nat) : Int) old) ∧ ItX b h it a i ∧ e ≠ it) where
  mem := by simp
  obj := fun i h st c hc => by
    obtain ⟨⟨old, he⟩, hi, _⟩ := st
    have e' : c = e ∨ c = it := by simpa using hc
    rcases e' with z | z
    · rw [z]; exact ⟨_, he, fun v q => nomatch q⟩
    · rw [z]; exact hi.obj
  keep := fun i h h' st k => by
    obtain ⟨⟨old, he⟩, hi, hne⟩ := st
    exact ⟨⟨old, k e (by simp) _ he⟩, hi.at fun o q => k it (by simp) o q, hne⟩
  item := by
    intro X hP hw hK hc i pins s σ H E I hf st hg
    subst hP hw hK
    obtain ⟨⟨old, he⟩, hit, hne⟩ := st
    obtain ⟨xs, x, hq, hx⟩ := hg
    obtain ⟨its, rv, p⟩ := I.seqX hq
    obtain ⟨u, hu, ru⟩ := rv.get hx
    have hel : e < s.heap.objs.size := Heap.lt_size he
    have hil : it < s.heap.objs.size := by
      obtain ⟨o, q, _⟩ := hit.obj
      exact Heap.lt_size q
    have hai : a ≠ it := p.ne hit
    have hea : e ≠ a := fun z => by
      cases b with
      | true =>
        obtain ⟨o, e1, c1, _⟩ := (show s.heap.IsTuple a _ from p)
        rw [← z, he] at e1
        cases e1
        simp at c1
      | false =>
        obtain ⟨o, e1, c1, _⟩ := (show s.heap.IsList a _ from p)
        rw [← z, he] at e1
        cases e1
        simp at c1
    have hlen : i < its.toArray.size := by
      have := (List.getElem?_eq_some_iff.mp hu).1
      simpa using this
    refine wpAny_pyNext_enum_itemC (i := i) (drawsX (b := b) (prog := X.prog) (w := X.w) (A := X.A.in1) (show X.A.in1.handled = none from I.ok.hd hc) it hai its.toArray) he ⟨hit, p⟩ hlen hne (by simp [hne, hea]) fun v h' tk hv ho hit' hT hsz hk => ?_
    have ev : v = u := by
      have : its.toArray[i]? = some u := by simpa using hu
      rw [this] at hv
      cases hv
      rfl
    subst ev
    refine ⟨_, rfl, wpAny_letOwnedTupleGo_enum (s := { s with heap := h', toks := tk + 1 }) ho fun h'' he' sb => ?_⟩
    have hT2 : h''.get? s.heap.objs.size = some { cls := .type "tuple", data := .seq #[.int i tk, v] } := (sb.2 _ (Nat.ne_of_gt hel)).trans hT
    have new : ObjOk X.prog X.w (upd H s.heap.objs.size (.tup [.int (i : Nat), x])) h'' s.heap.objs.size (.tup [.int (i : Nat), x]) :=
      ⟨by show 2 ≤ sizeLine; decide, [.int i tk, v], .cons ⟨_, rfl⟩ (.cons ru .nil), ⟨_, hT2, rfl, _, rfl⟩⟩
    have I1 : Inv X pins σ (upd H s.heap.objs.size (.tup [.int (i : Nat), x])) { s with heap := h'', toks := tk + 1 } :=
      I.turnedNew (ch := [e, it]) (fun c ob hb q => (sb.2 c (fun z => hb (by simp [z]))).trans (hk c ob (fun z => hb (by simp [z])) (fun z => hb (by simp [z])) q)) hf (Nat.le_refl _) new
    refine ⟨.ref s.heap.objs.size, _, I1, rfl, ⟨_, x, rfl, I.hok.fresh (Nat.le_refl _), rfl, fun ys hy => by rw [I.seqX_inj hy hq]; exact hx⟩, ⟨⟨v, ?_⟩, hit'.1.at fun o q => (sb.2 it (Ne.symm hne)).trans q, hne⟩, fun c hc' => ?_⟩
    · have e1 : ((i + 1 : Nat) : Int) = (i : Int) + 1 := by omega
      rw [e1]; exact he'
    · have hb' : c < s.heap.objs.size := by
        have e' : c = e ∨ c = it := by simpa using hc'
        rcases e' with z | z
        · rw [z]; exact hel
        · rw [z]; exact hil
      rw [upd_ne (Nat.ne_of_lt hb')]
      exact (hf c hc').1
  done := by
    intro X hP hw hK hc i pins s σ H E I hf st hg
    subst hP hw hK
    obtain ⟨⟨old, he⟩, hit, hne⟩ := st
    obtain ⟨xs, hq, hx⟩ := hg
    obtain ⟨its, rv, p⟩ := I.seqX hq
    obtain ⟨f0, f1, f2, f3, f4, f5⟩ := hf it (by simp)
    have hl := rv.length
    have ei : i = its.toArray.size := by rw [List.size_toArray, ← hl]; exact hx.symm
    have hit2 : ItX b s.heap it a its.toArray.size := by rw [← ei]; exact hit
    exact wpAny_pyNext_enum_endD (drawsX (b := b) (prog := X.prog) (w := X.w) (A := X.A.in1) (show X.A.in1.handled = none from I.ok.hd hc) it (p.ne hit) its.toArray) he ⟨hit2, p⟩ fun h' eb => ⟨rfl, I.turned (t' := s.toks) (fun c o hb q => eb c o hb q) f0 f1 f3 f4 f5⟩
  self := fun A i s Q E st h => by
    obtain ⟨⟨_, he⟩, _⟩ := st
    exact wpAny_pyIter_enum he h
def ItzX (b c : Bool) (K : PySem.W.Frag) (a a2 : Addr) : It :=
  ⟨fun i H => ∃ (xs ys : List V) (x y : V), SqX b K H a xs ∧ SqX c K H a2 ys ∧ xs[i]? = some x ∧ ys[i]? = some y,
    fun i H v H' => ∃ T x y, v = .ref T ∧ H T = none ∧ H' = upd H T (.tup [x, y]) ∧ (∀ xs, SqX b K H a xs → xs[i]? = some x) ∧ ∀ ys, SqX c K H a2 ys → ys[i]? = some y,
    fun i H => ∃ xs ys : List V, SqX b K H a xs ∧ SqX c K H a2 ys ∧ i = min xs.length ys.length⟩
/-- the cells of a zip lie apart -/
structure ZAp (z TI TO i1 i2 : Addr) : Prop where
  TIz : TI ≠ z
  TOz : TO ≠ z
  TITO : TI ≠ TO
  TIi1 : TI ≠ i1
  TIi2 : TI ≠ i2
  TOi1 : TO ≠ i1
  TOi2 : TO ≠ i2
  zi1 : z ≠ i1
  zi2 : z ≠ i2
  i12 : i1 ≠ i2
theorem HasX.notTup {b : Bool} {h : Heap} {a T : Addr} {its : Array Value} {x y : Value} {X : Cx} {pins : List (Addr × Obj)} {σ : St} {H : Hp} {s : Shared} {xs : List V} (I : Inv X pins σ H s) (hq : SqX b X.K H a xs) (hT : FpOk X pins H T) : a ≠ T := fun z => by
  subst z
  obtain ⟨f0, f1, f2, f3, f4, f5⟩ := hT
  have hK : ∀ o, X.K.lookup a = some o → False := fun o e => by
    obtain ⟨e1, _⟩ := I.ok.bs a o (I.ok.mod.kin a o e)
    rcases f3 with q | q
    · exact I.ok.noex a o (I.ok.mod.kin a o e) q
    · exact absurd (Nat.lt_of_lt_of_le (Heap.lt_size e1) q) (Nat.lt_irrefl _)
  have hR : ∀ u, ¬ Rd H a u := fun u r => by
    rcases r with r | ⟨o, r⟩
    · rw [f0] at r; cases r
    · rw [f0] at r; cases r
  cases b with
  | true =>
    rcases (show SqT X.K H a xs from hq) with r | ⟨o, _, _, e, _⟩
    · exact hR _ r
    · exact hK o e
  | false =>
    rcases (show SqL X.K H a xs from hq) with r | ⟨o, _, _, e, _⟩
    · exact hR _ r
    · exact hK o e
theorem turn_zipX {P : Program} {w : World} {K : PySem.W.Frag} {elts : List Expr} {kk : Nat} {tpos : Pos} (b c : Bool) {a a2 z TI TO i1 i2 : Addr} (D : ZAp z TI TO i1 i2) :
    Turn P w K (.Tuple elts kk tpos) (ItzX b c K a a2) [z, TI, TO, i1, i2] z (fun i h => IsZip h z TI TO .none ∧ IsTupOf2 h TI (.ref i1) (.ref i2) ∧ (∃ x y, IsTupOf2 h TO x y) ∧ ItX b h i1 a i ∧ ItX c h i2 a2 i) where
  mem := by simp
  obj := fun i h st d hd => by
    obtain ⟨hz, hTI, ⟨x, y, hTO⟩, h1, h2⟩ := st
    have e' : d = z ∨ d = TI ∨ d = TO ∨ d = i1 ∨ d = i2 := by simpa using hd
    rcases e' with q | q | q | q | q
    · rw [q]; exact ⟨_, hz, fun v q => nomatch q⟩
    · rw [q]; exact ⟨_, hTI, fun v q => nomatch q⟩
    · rw [q]; exact ⟨_, hTO, fun v q => nomatch q⟩
    · rw [q]; exact h1.obj
    · rw [q]; exact h2.obj
  keep := fun i h h' st k => by
    obtain ⟨hz, hTI, ⟨x, y, hTO⟩, h1, h2⟩ := st
    exact ⟨k z (by simp) _ hz, k TI (by simp) _ hTI, ⟨x, y, k TO (by simp) _ hTO⟩, h1.at fun o q => k i1 (by simp) o q, h2.at fun o q => k i2 (by simp) o q⟩
  item := by
    intro X hP hw hK hc i pins s σ H E I hf st hg
    subst hP hw hK
    obtain ⟨hz, hTI, ⟨x0, y0, hTO⟩, h1, h2⟩ := st
    obtain ⟨xs, ys, x, y, hqx, hqy, hx, hy⟩ := hg
    obtain ⟨its, rv, p⟩ := I.seqX hqx
    obtain ⟨its2, rv2, p2⟩ := I.seqX hqy
    obtain ⟨u, hu, ru⟩ := rv.get hx
    obtain ⟨u2, hu2, ru2⟩ := rv2.get hy
    have hzl : z < s.heap.objs.size := Heap.lt_size hz
    have na : ∀ d ∈ [z, TI, TO, i1, i2], a ≠ d := fun d hd => HasX.notTup (h := s.heap) (its := #[]) (x := .none) (y := .none) I hqx (hf d hd)
    have na2 : ∀ d ∈ [z, TI, TO, i1, i2], a2 ≠ d := fun d hd => HasX.notTup (h := s.heap) (its := #[]) (x := .none) (y := .none) I hqy (hf d hd)
    have S : ZipSep2 z TI TO i1 i2 [i1, a] [i2, a2] := ⟨D.TIz, D.TOz, D.TITO, D.TIi1, by simp, by simp [D.zi1, Ne.symm (na z (by simp))], by simp [D.TOi1, Ne.symm (na TO (by simp))], D.TIi2, by simp,
      by simp [D.zi2, Ne.symm (na2 z (by simp))], by simp [D.TOi2, Ne.symm (na2 TO (by simp))], by simp [D.i12, Ne.symm (na2 i1 (by simp))], by simp [Ne.symm D.i12, Ne.symm (na i2 (by simp))]⟩
    have hl1 : i < its.toArray.size := by
      have := (List.getElem?_eq_some_iff.mp hu).1
      simpa using this
    have hl2 : i < its2.toArray.size := by
      have := (List.getElem?_eq_some_iff.mp hu2).1
      simpa using this
    refine wpAny_pyNext_zipD2_item (i := i) S (drawsX (b := b) (prog := X.prog) (w := X.w) (A := X.A.in1) (show X.A.in1.handled = none from I.ok.hd hc) i1 (na i1 (by simp)) its.toArray) (drawsX (b := c) (prog := X.prog) (w := X.w) (A := X.A.in1) (show X.A.in1.handled = none from I.ok.hd hc) i2 (na2 i2 (by simp)) its2.toArray) hz hTI hTO ⟨h1, p⟩ ⟨h2, p2⟩ hl1 hl2 fun v1 v2 h' tk hv1 hv2 z' TO' h1' h2' hT hsz hk => ?_
    have ev1 : v1 = u := by
      have : its.toArray[i]? = some u := by simpa using hu
      rw [this] at hv1
      cases hv1
      rfl
    have ev2 : v2 = u2 := by
      have : its2.toArray[i]? = some u2 := by simpa using hu2
      rw [this] at hv2
      cases hv2
      rfl
    subst ev1 ev2
    refine ⟨_, rfl, wpAny_letOwnedTupleGo_zip (s := { s with heap := h', toks := tk }) z' fun h'' z'' sb => ?_⟩
    have hT2 : h''.get? s.heap.objs.size = some { cls := .type "tuple", data := .seq #[v1, v2] } := (sb.2 _ (Nat.ne_of_gt hzl)).trans hT
    have new : ObjOk X.prog X.w (upd H s.heap.objs.size (.tup [x, y])) h'' s.heap.objs.size (.tup [x, y]) :=
      ⟨by show 2 ≤ sizeLine; decide, [v1, v2], .cons ru (.cons ru2 .nil), ⟨_, hT2, rfl, _, rfl⟩⟩
    have I1 : Inv X pins σ (upd H s.heap.objs.size (.tup [x, y])) { s with heap := h'', toks := tk } :=
      I.turnedNew (t' := tk) (ch := [z, TI, TO, i1, i2]) (fun d o hb q => (sb.2 d (fun q' => hb (by simp [q']))).trans (hk d o (fun q' => hb (by simp [q'])) (fun q' => hb (by simp [q'])) (fun q' => hb (by simp [q'])) (fun q' => hb (by simp [q'])) q)) hf (Nat.le_refl _) new
    refine ⟨.ref s.heap.objs.size, _, I1, rfl, ⟨_, x, y, rfl, I.hok.fresh (Nat.le_refl _), rfl, fun l hl => by rw [I.seqX_inj hl hqx]; exact hx, fun l hl => by rw [I.seqX_inj hl hqy]; exact hy⟩, ⟨z'', ?_, ⟨v1, v2, ?_⟩, ?_, ?_⟩, fun d hdm => ?_⟩
    · exact (sb.2 _ D.TIz).trans (hk _ _ D.TIz D.TITO D.TIi1 D.TIi2 hTI)
    · exact (sb.2 _ D.TOz).trans TO'
    · exact h1'.1.at fun o q => (sb.2 _ (Ne.symm D.zi1)).trans q
    · exact h2'.1.at fun o q => (sb.2 _ (Ne.symm D.zi2)).trans q
    · have hlt : d < s.heap.objs.size := by
        have e' : d = z ∨ d = TI ∨ d = TO ∨ d = i1 ∨ d = i2 := by simpa using hdm
        rcases e' with q | q | q | q | q
        · rw [q]; exact hzl
        · rw [q]; exact Heap.lt_size hTI
        · rw [q]; exact Heap.lt_size hTO
        · rw [q]; obtain ⟨_, e1, _⟩ := h1.obj; exact Heap.lt_size e1
        · rw [q]; obtain ⟨_, e2, _⟩ := h2.obj; exact Heap.lt_size e2
      rw [upd_ne (Nat.ne_of_lt hlt)]
      exact (hf d hdm).1
  done := by
    intro X hP hw hK hc i pins s σ H E I hf st hg
    subst hP hw hK
    obtain ⟨hz, hTI, ⟨x0, y0, hTO⟩, h1, h2⟩ := st
    obtain ⟨xs, ys, hqx, hqy, hend⟩ := hg
    obtain ⟨its, rv, p⟩ := I.seqX hqx
    obtain ⟨its2, rv2, p2⟩ := I.seqX hqy
    have l1 := rv.length
    have l2 := rv2.length
    have na : ∀ d ∈ [z, TI, TO, i1, i2], a ≠ d := fun d hd => HasX.notTup (h := s.heap) (its := #[]) (x := .none) (y := .none) I hqx (hf d hd)
    have na2 : ∀ d ∈ [z, TI, TO, i1, i2], a2 ≠ d := fun d hd => HasX.notTup (h := s.heap) (its := #[]) (x := .none) (y := .none) I hqy (hf d hd)
    have S : ZipSep2 z TI TO i1 i2 [i1, a] [i2, a2] := ⟨D.TIz, D.TOz, D.TITO, D.TIi1, by simp, by simp [D.zi1, Ne.symm (na z (by simp))], by simp [D.TOi1, Ne.symm (na TO (by simp))], D.TIi2, by simp,
      by simp [D.zi2, Ne.symm (na2 z (by simp))], by simp [D.TOi2, Ne.symm (na2 TO (by simp))], by simp [D.i12, Ne.symm (na2 i1 (by simp))], by simp [Ne.symm D.i12, Ne.symm (na i2 (by simp))]⟩
    exact wpAny_pyNext_zipD2_end (i := i) S (drawsX (b := b) (prog := X.prog) (w := X.w) (A := X.A.in1) (show X.A.in1.handled = none from I.ok.hd hc) i1 (na i1 (by simp)) its.toArray) (drawsX (b := c) (prog := X.prog) (w := X.w) (A := X.A.in1) (show X.A.in1.handled = none from I.ok.hd hc) i2 (na2 i2 (by simp)) its2.toArray) hz hTI hTO ⟨h1, p⟩ ⟨h2, p2⟩
      (by rw [List.size_toArray]; omega) (by rw [List.size_toArray]; omega) (by rw [List.size_toArray, List.size_toArray]; omega) fun h' tk hk => ⟨rfl, I.turnedL (t' := tk) (ch := [z, TI, TO, i1, i2]) (fun d o hb q =>
      hk d o (fun q' => hb (by simp [q'])) (fun q' => hb (by simp [q'])) (fun q' => hb (by simp [q'])) (fun q' => hb (by simp [q'])) q) hf⟩
  self := fun A i s Q E st h => wpAny_pyIter_zip st.1 h
end L2
set_option Elab.async false
set_option linter.all false
set_option maxRecDepth 100000
set_option maxHeartbeats 4000000
set_option autoImplicit false
namespace DL
open PySem PySem.Spec L2
open PyProof.Rows hiding St
def ItkN (hs : NestedKey → Int) (d : Addr) (o : Obj) (es : List (NestedKey × Addr × V)) : It :=
  ⟨fun i H => H d = some (.frz o (NDo hs d es)) ∧ i < es.length, fun i H x H' => H' = H ∧ ∃ (n : NestedKey) (b : Addr) (v : V), es[i]? = some (n, b, v) ∧ x = .ref b, fun i H => H d = some (.frz o (NDo hs d es)) ∧ es.length ≤ i⟩
section
variable {P : Program} {w : World} {K : PySem.W.Frag} {tg : Expr} {d : Addr} {o : Obj} {ds : Array DictEntry} {ep : Nat}
theorem turn_keysN {hs : NestedKey → Int} {es : List (NestedKey × Addr × V)} (it : Addr) (hod : o.data = .dict ds ep) : Turn P w K tg (ItkN hs d o es) [it] it (fun i h => h.IsKeyIter it d i es.length ep) where
  mem := by simp
  obj := fun i h st b hb => by
    have e : b = it := by simpa using hb
    subst e
    obtain ⟨oi, e, c, dd⟩ := st
    exact ⟨oi, e, fun v z => by rw [dd] at z; cases z⟩
  keep := fun i h h' st k => st.at fun oi e => k it (by simp) oi e
  item := by
    intro X hP hw hK hc i pins s σ H E I hf st hg
    subst hP hw hK
    obtain ⟨hd, hi⟩ := hg
    obtain ⟨f0, f1, f2, f3, f4, f5⟩ := hf it (by simp)
    obtain ⟨hs', hgd, hx, es', ep', hdt, hsz, _, ent⟩ := DL.Inv.frzN I hd
    obtain ⟨rfl, rfl⟩ := dict_ep hod hdt
    obtain ⟨⟨n, b, v⟩, hkv⟩ : ∃ p, es[i]? = some p := ⟨es[i], List.getElem?_eq_getElem hi⟩
    obtain ⟨en, hen, hkey, _⟩ := ent i n b v hkv
    refine next_key_item st hgd hdt hsz hen fun h' st' sb => ?_
    have I1 : Inv X pins σ H { s with heap := h' } := I.turned (t' := s.toks) (fun b ob hb e => (sb.2 b hb).trans e) f0 f1 f3 f4 f5
    obtain ⟨oi, e, c, dd⟩ := id st'
    exact ⟨en.key, rfl, go_of (s := { s with heap := h' }) e c dd (by decide) ⟨.ref b, H, I1, hkey, ⟨rfl, n, b, v, hkv, rfl⟩, st', fun b hb => (hf b hb).1⟩⟩
  done := by
    intro X hP hw hK hc i pins s σ H E I hf st hg
    subst hP hw hK
    obtain ⟨hd, hi⟩ := hg
    obtain ⟨f0, f1, f2, f3, f4, f5⟩ := hf it (by simp)
    obtain ⟨hs', hgd, hx, es', ep', hdt, hsz, _, ent⟩ := DL.Inv.frzN I hd
    obtain ⟨rfl, rfl⟩ := dict_ep hod hdt
    exact next_key_end (I.ok.hd hc) st hgd hdt hsz hi fun h' eb => ⟨rfl, I.turned (t' := s.toks) (fun b ob hb e => eb b ob hb e) f0 f1 f3 f4 f5⟩
  self := fun A i s Q E st h => by
    refine wpAny_pyIter_slot st.typeIs F.slot_dict_keyiterator_iter (wpAny_call_entry F.slot_dict_keyiterator_iter st.typeIs F.entry_dict_keyiterator_iter ?_ (F.args_dict_keyiterator_iter_1 _))
    show wpAny _ _ (ret (.ref it)) _ _ s
    exact wpAny_pure ⟨_, rfl, "dict_keyiterator", _, st.typeIs, F.slot_dict_keyiterator_next.lookup, h⟩
end
theorem iter_keysN {X : Cx} {tg : Expr} {pins : List (Addr × Obj)} {s : Shared} {σ : L2.St} {H : Hp} {R : It → Hp → Prop} {hs : NestedKey → Int} {d : Addr} {o : Obj} {es : List (NestedKey × Addr × V)} (I : Inv X pins σ H s) (hd : H d = some (.frz o (NDo hs d es))) (q : R (ItkN hs d o es) H) :
    wpAny (model X.prog X.w) X.A (pyIter (.ref d)) (PIE X pins σ tg R) X.xe s := by
  obtain ⟨hs', hgd, hx, ds, ep, hdt, hsz, _, ent⟩ := DL.Inv.frzN I hd
  refine iter_keys hs' hgd hx hdt (pi_one (tk := s.toks) I _ (turn_keysN _ hdt) ⟨_, Heap.get?_push_size _ rfl, rfl, ?_⟩ q)
  rw [hsz]; rfl
end DL
set_option Elab.async false
set_option linter.all false
set_option maxRecDepth 100000
set_option maxHeartbeats 4000000
set_option autoImplicit false
namespace DL
open PySem PySem.Spec L2
open PyProof.Rows hiding St
structure WalkD (K : PySem.W.Frag) (et : ET) (F : Hp) (J : It) (ds : List PyData) : Prop where
  go : ∀ i H, Same F H → i < ds.length → J.go i H
  yld : ∀ i H x H', Same F H → i < ds.length → J.yld i H x H' → ∃ d, ds[i]? = some d ∧ ((H' = H ∧ Dn K et F x d) ∨ ∃ p vs es, H p = none ∧ H' = upd H p (.tup vs) ∧ x = .ref p ∧ d = .tuple es ∧ DnAll K et F vs es)
  stop : ∀ H, Same F H → J.stop ds.length H
structure wI (X : Cx) (tg iter : Expr) (σ : St) (H : Hp) (R : It → Hp → Prop) : Prop where
  run : ∀ (pins : List (Addr × Obj)) (s : Shared), Inv X pins σ H s →
  wpAny (model X.prog X.w) X.A (eval iter X.env) (fun v s1 => wpAny (model X.prog X.w) X.A (pyIter v) (PIE X pins σ tg R) X.xe s1) X.xe s
theorem pi_w {X : Cx} {tg iter : Expr} : PI X tg iter (wI X tg iter) := ⟨fun pins s _ _ _ I h => h.run pins s I⟩
def DI (X : Cx) (et : ET) (W : WX) (tg iter : Expr) (f : Sg → Rs Sg (List PyData)) : Prop :=
  ∀ (β : Type) (am : Addr) (B F : Hp) (g : Sg) (σ : St) (H : Hp) (O : Hp → Rs Sg β → Prop) (k : List PyData → Sg → Rs Sg β) (R : It → Hp → Prop), Good X.K et W am B σ O → RepF X.K et am B F g σ H → O F ((f g).bind k) →
    (∀ ds g' F' H' J, Ext B F F' → RepF X.K et am B F' g' σ H' → WalkD X.K et F' J ds → O F' (k ds g') → R J H') → wI X tg iter σ H R
structure wG (X : Cx) (tg : Expr) (v : V) (σ : St) (H : Hp) (Q : St → Hp → Prop) : Prop where
  run : ∀ (pins : List (Addr × Obj)) (s : Shared) (u : Value), Inv X pins σ H s → RelV v u →
  wpAny (model X.prog X.w) X.A (assign tg X.env u) (fun _ s' => ∃ σ' H', Inv X pins σ' H' s' ∧ Q σ' H') X.xe s
theorem pg_w {X : Cx} {tg : Expr} : PG X tg (wG X tg) := ⟨fun pins s _ _ _ u _ I r h => h.run pins s u I r⟩
theorem wg_of {X : Cx} {tg : Expr} {t : TG} (h : PG X tg t) {v : V} {σ : St} {H : Hp} {Q : St → Hp → Prop} (q : t v σ H Q) : wG X tg v σ H Q := ⟨fun pins s u I r => h.run pins s σ H v u Q I r q⟩
/-- outside of the slots is nothing changed -/
def Off (is : List Nat) (σ σ' : St) : Prop := σ'.length = σ.length ∧ ∀ j, j ∉ is → σ'[j]? = σ[j]?
theorem Off.refl {is : List Nat} {σ : St} : Off is σ σ := ⟨rfl, fun _ _ => rfl⟩
theorem Off.trans {is : List Nat} {σ σ1 σ2 : St} (a : Off is σ σ1) (b : Off is σ1 σ2) : Off is σ σ2 := ⟨b.1.trans a.1, fun j h => (b.2 j h).trans (a.2 j h)⟩
def DG (X : Cx) (is : List Nat) (tg : Expr) (t : PyData → Sg → Option Sg) : Prop :=
  ∀ (et : ET) am B F g σ H v d g' Q, RepF X.K et am B F g σ H → Dn X.K et F v d → t d g = some g' → (∀ σ', Off is σ σ' → RepF X.K et am B F g' σ' H → Q σ' H) → wG X tg v σ H Q
section
variable {X : Cx} {et : ET} {W : WX}
def gtName (i : Nat) (d : PyData) (g : Sg) : Option Sg := some (g.put i (.pu d))
theorem dg_name {i : Nat} {is : List Nat} {x : Str} {pos : Pos} (hN : X.N.Nodup) (hm : i ∈ is := by decide) (hi : X.N[i]? = some x := by rfl) (hx : Loc X.env.scope x := by first | exact Or.inl rfl | exact Or.inr rfl)
    (hf : X.fn x = true ∨ X.env.scope.names.lookup x = some .local := by first | exact .inl rfl | exact .inr rfl | assumption) : DG X is (.Name x pos) (gtName i) := fun et am B F g σ H v d g' Q R dn e nx => by
  cases e
  refine wg_of (pg_name hN hi hx hf) (nx _ ⟨List.length_set, fun j hj => ?_⟩ (R.put i dn))
  exact List.getElem?_set_ne fun z => hj (by rw [← z]; exact hm)
/-- several targets -/
structure wGs (X : Cx) (ts : List Expr) (vs : List V) (σ : St) (H : Hp) (Q : St → Hp → Prop) : Prop where
  run : ∀ (pins : List (Addr × Obj)) (s : Shared) (us : List Value), Inv X pins σ H s → Vals vs us →
  wpAny (model X.prog X.w) X.A (assignInOrder ((assignEach ts X.env).map (·.2)) us) (fun _ s' => ∃ σ' H', Inv X pins σ' H' s' ∧ Q σ' H') X.xe s
theorem pgs_w {ts : List Expr} : PGs X ts (wGs X ts) := ⟨fun pins s _ _ _ us _ I r h => h.run pins s us I r⟩
theorem wgs_of {ts : List Expr} {t : TGs} (h : PGs X ts t) {vs : List V} {σ : St} {H : Hp} {Q : St → Hp → Prop} (q : t vs σ H Q) : wGs X ts vs σ H Q := ⟨fun pins s us I r => h.run pins s σ H vs us Q I r q⟩
def DGs (X : Cx) (is : List Nat) (ts : List Expr) (t : List PyData → Sg → Option Sg) : Prop :=
  ∀ (et : ET) am B F g σ H vs ds g' Q, RepF X.K et am B F g σ H → DnAll X.K et F vs ds → t ds g = some g' → (∀ σ', Off is σ σ' → RepF X.K et am B F g' σ' H → Q σ' H) → wGs X ts vs σ H Q
def gtNil : List PyData → Sg → Option Sg
  | [], g => some g
  | _, _ => none
def gtCons (t : PyData → Sg → Option Sg) (r : List PyData → Sg → Option Sg) : List PyData → Sg → Option Sg
  | d :: ds, g => (t d g).bind fun g1 => r ds g1
  | [], _ => none
theorem dgs_nil {is : List Nat} : DGs X is [] gtNil := fun et am B F g σ H vs ds g' Q R dn e nx => by
  cases dn with
  | nil =>
    cases e
    exact wgs_of pgs_nil ⟨rfl, nx σ Off.refl R⟩
  | cons _ _ => cases e
theorem dgs_cons {is : List Nat} {e : Expr} {es : List Expr} {t : PyData → Sg → Option Sg} {r : List PyData → Sg → Option Sg} (h1 : DG X is e t) (h2 : DGs X is es r)
    (hs : (assignEach (e :: es) X.env).map (·.2) = assign e X.env :: (assignEach es X.env).map (·.2) := by rfl) : DGs X is (e :: es) (gtCons t r) := fun et am B F g σ H vs ds g' Q R dn eq nx => by
  cases dn with
  | nil => cases eq
  | @cons v vs d ds h1' h2' =>
    have eq : (t d g).bind (fun g1 => r ds g1) = some g' := eq
    cases q : t d g with
    | none => rw [q] at eq; cases eq
    | some g1 =>
      rw [q, Option.bind_some] at eq
      refine wgs_of (pgs_cons pg_w pgs_w hs) ⟨v, vs, rfl, h1 et am B F g σ H v d g1 _ R h1' q fun σ1 o1 R1 => h2 et am B F g1 σ1 H vs ds g' Q R1 h2' eq fun σ2 o2 R2 => nx σ2 (o1.trans o2) R2⟩
def gtTup (n : Nat) (t : List PyData → Sg → Option Sg) : PyData → Sg → Option Sg
  | .tuple ds, g => if ds.length = n then t ds g else none
  | _, _ => none
theorem dg_tup {is : List Nat} {es : List Expr} {k n : Nat} {pos : Pos} {t : List PyData → Sg → Option Sg} (h : DGs X is es t) (hc : X.calm = true := by rfl) (hn : (assignEach es X.env).length = n := by rfl) (hst : (assignEach es X.env).findIdx? (·.1) = none := by rfl) : DG X is (.Tuple es k pos) (gtTup n t) := fun et am B F g σ H v d g' Q R dn e nx => by
  unfold gtTup at e
  split at e
  · rename_i ds
    split at e
    · rename_i hl
      cases dn with
      | tup sx dx => exact wg_of (pg_tup hc pgs_w hn hst) ⟨_, _, rfl, SqT.mono R.sub sx, by rw [dx.length]; exact hl, h et am B F g σ H _ ds g' Q R dx e nx⟩
    · cases e
  · cases e
def mForL (t : PyData → Sg → Option Sg) (body : Sg → Rs Sg Fl) : List PyData → Sg → Rs Sg Fl
  | [], g => .ok .nx g
  | d :: ds, g => match t d g with
    | none => .no
    | some g1 => match body g1 with
      | .ok .nx g2 => mForL t body ds g2
      | .ok .ct g2 => mForL t body ds g2
      | .ok .bk g2 => .ok .nx g2
      | .ok (.rt d) g2 => .ok (.rt d) g2
      | .ex c p g2 => .ex c p g2
      | .no => .no
def mFor (fi : Sg → Rs Sg (List PyData)) (t : PyData → Sg → Option Sg) (body : Sg → Rs Sg Fl) (g : Sg) : Rs Sg Fl := (fi g).bind fun ds g1 => mForL t body ds g1
/-- what the walk yields, held -/
theorem WalkD.take {K : PySem.W.Frag} {et : ET} {am : Addr} {B F F0 : Hp} {g : Sg} {σ : St} {H H' : Hp} {J : It} {ds : List PyData} {i : Nat} {x : V} (w : WalkD K et F0 J ds) (s0 : Same F0 F) (R : RepF K et am B F g σ H) (hi : i < ds.length) (y : J.yld i H x H') :
    ∃ d F', ds[i]? = some d ∧ Ext B F F' ∧ RepF K et am B F' g σ H' ∧ Dn K et F' x d := by
  obtain ⟨d, e, z⟩ := w.yld i H x H' (Same.tr s0 R.sub) hi y
  rcases z with ⟨rfl, dn⟩ | ⟨p, vs, es, hp, rfl, rfl, rfl, dn⟩
  · exact ⟨d, F, e, Ext.refl, R, dn.up s0⟩
  · obtain ⟨R', ex⟩ := R.alloc hp (.tup vs)
    exact ⟨_, _, e, ex, R', .tup (SqT.of upd_same) (dn.up (Same.tr s0 ex.1))⟩
theorem ds_for {k : Nat} {tg iter : Expr} {body : List Stmt} {pos : Pos} {is : List Nat} {fi : Sg → Rs Sg (List PyData)} {t : PyData → Sg → Option Sg} {fb : Sg → Rs Sg Fl} (C : Here X k W) (hi : DI X et W tg iter fi) (hg : DG X is tg t) (hb : DSs X et W body fb)
    (hc : X.calm = true := by rfl) (hs : ∀ x, foldedSetIterable iter X.env x = pure x := by intro _; rfl) : DS X et W (.For tg iter body [] pos) (mFor fi t fb) := fun am B F g σ H D R hq => by
  refine ws_of (ps_for C.hp hc pi_w pg_w pss_w hs) (hi _ am B F g σ H _ _ _ (goodF (D := D)) R hq fun ds g1 F1 H1 J ex1 R1 wd hq1 => ?_)
  refine ⟨fun i m σ' H' => m = ds.length - i ∧ i ≤ ds.length ∧ ∃ g' F', Ext B F1 F' ∧ RepF X.K et am B F' g' σ' H' ∧ OkF X.K et W am B F' D (mForL t fb (ds.drop i) g'),
    ⟨ds.length, rfl, Nat.zero_le _, g1, F1, Ext.refl, R1, hq1⟩, ?_⟩
  rintro i m σ' H' ⟨rfl, hle, g', F', ex', R', ok⟩
  by_cases hlt : i < ds.length
  · refine .inr ⟨wd.go i H' (Same.tr ex'.1 R'.sub) hlt, fun σ2 H2 => ∃ g2 F2, Ext B F1 F2 ∧ RepF X.K et am B F2 g2 σ2 H2 ∧ OkF X.K et W am B F2 D (mForL t fb (ds.drop (i + 1)) g2), fun σ2 H2 ⟨g2, F2, e2, R2, o2⟩ => ⟨ds.length - (i + 1), by omega, rfl, hlt, g2, F2, e2, R2, o2⟩, fun x H2 y => ?_⟩
    obtain ⟨d, F2, ed, ex2, R2, dn2⟩ := wd.take ex'.1 R' hlt y
    have edrop : ds.drop i = d :: ds.drop (i + 1) := by
      rw [List.drop_eq_getElem_cons hlt]
      have := (List.getElem?_eq_some_iff.mp ed).2
      rw [this]
    rw [edrop] at ok
    have ok := (goodF (σ := σ') (D := D)).weak F' F2 _ ex2 ok
    unfold mForL at ok
    cases qt : t d g' with
    | none => simp only [qt] at ok; exact ok.elim
    | some g3 =>
      simp only [qt] at ok
      refine hg et am B F2 g' σ' H2 x d g3 _ R2 dn2 qt fun σ3 _ R3 => hb am B F2 g3 σ3 H2 _ R3 ?_
      cases qb : fb g3 with
      | no => simp only [qb] at ok; exact ok.elim
      | ex c p g4 => simp only [qb] at ok; exact ok
      | ok fl g4 =>
        simp only [qb] at ok
        cases fl with
        | nx => exact fun σ4 F4 H4 ex4 R4 => ⟨g4, F4, ex'.trans (ex2.trans ex4), R4, (goodF (σ := σ') (D := D)).weak F2 F4 _ ex4 ok⟩
        | ct => exact fun σ4 F4 H4 ex4 R4 => ⟨g4, F4, ex'.trans (ex2.trans ex4), R4, (goodF (σ := σ') (D := D)).weak F2 F4 _ ex4 ok⟩
        | bk => exact fun σ4 F4 H4 ex4 R4 => ok σ4 F4 H4 ex4 R4
        | rt d => exact fun v σ4 F4 H4 ex4 R4 dn4 => ok v σ4 F4 H4 ex4 R4 dn4
  · have e : i = ds.length := by omega
    subst e
    rw [List.drop_length] at ok
    exact .inl ⟨wd.stop H' (Same.tr ex'.1 R'.sub), ok σ' F' H' Ext.refl R'⟩
def seqOf : DV → Option (List PyData)
  | .pu (.list xs) => some xs
  | .pu (.tuple xs) => some xs
  | .scr ns => some (ns.map .int)
  | _ => none
def mSeqI (f : Sg → Rs Sg DV) (g : Sg) : Rs Sg (List PyData) := (f g).bind fun x g1 => match x with
  | .pu (.dict _) => .no
  | y => Rs.of (seqOf y) g1
theorem rs_assoc {S α β γ : Type} (x : Rs S α) (f : α → S → Rs S β) (h : β → S → Rs S γ) : (x.bind f).bind h = x.bind fun a s => (f a s).bind h := by cases x <;> rfl
/-- a list or a tuple, as it is seen -/
theorem DenP.seqX {K : PySem.W.Frag} {et : ET} {am : Addr} {F : Hp} {v : V} {x : DV} {ds : List PyData} (h : DenP K et am F v x) (e : seqOf x = some ds) : ∃ b a vs, v = .ref a ∧ SqX b K F a vs ∧ DnAll K et F vs ds := by
  unfold seqOf at e
  split at e
  · cases e
    have h : Dn K et F v (.list _) := h
    cases h with
    | lst sx dx => exact ⟨false, _, _, rfl, SqL.of sx, dx⟩
  · cases e
    have h : Dn K et F v (.tuple _) := h
    cases h with
    | tup sx dx => exact ⟨true, _, _, rfl, sx, dx⟩
  · cases e
    obtain ⟨a, ea, sq⟩ := h
    exact ⟨false, a, _, ea, sq, DnAll.ofInts _⟩
  · cases e
theorem SqX.mono {b : Bool} {K : PySem.W.Frag} {F H : Hp} {a : Addr} {xs : List V} (s : Same F H) (h : SqX b K F a xs) : SqX b K H a xs := by
  cases b with
  | true => exact SqT.mono s h
  | false => exact SqL.mono s h
def ItS (b : Bool) (K : PySem.W.Frag) (a : Addr) : It := if b = true then Itt K a else Itl K a
theorem walk_seq {b : Bool} {K : PySem.W.Frag} {F : Hp} {a : Addr} {vs : List V} {ds : List PyData} (sq : SqX b K F a vs) (dn : DnAll K et F vs ds) : WalkD K et F (ItS b K a) ds := by
  have get : ∀ {i : Nat}, i < ds.length → ∃ x d, vs[i]? = some x ∧ ds[i]? = some d ∧ Dn K et F x d := fun {i} hi => by
    obtain ⟨x, e1, e2⟩ := dn.get (i := i) (d := ds[i]) (by simp [hi])
    exact ⟨x, _, e1, by simp [hi], e2⟩
  cases b with
  | true =>
    refine ⟨fun i H s hi => ?_, fun i H x H' s hi y => ?_, fun H s => ?_⟩
    · obtain ⟨x, d, e1, _⟩ := get hi
      exact ⟨vs, x, SqT.mono s sq, e1⟩
    · obtain ⟨x', d, e1, e2, e3⟩ := get hi
      have y : H' = H ∧ ∀ xs, SqT K H a xs → xs[i]? = some x := y
      have := y.2 vs (SqT.mono s sq)
      rw [e1] at this
      cases this
      exact ⟨d, e2, .inl ⟨y.1, e3⟩⟩
    · exact ⟨vs, SqT.mono s sq, by rw [dn.length]; exact Nat.le_refl _⟩
  | false =>
    refine ⟨fun i H s hi => ?_, fun i H x H' s hi y => ?_, fun H s => ?_⟩
    · obtain ⟨x, d, e1, _⟩ := get hi
      exact ⟨vs, x, SqL.mono s sq, e1⟩
    · obtain ⟨x', d, e1, e2, e3⟩ := get hi
      have y : H' = H ∧ ∀ xs, SqL K H a xs → xs[i]? = some x := y
      have := y.2 vs (SqL.mono s sq)
      rw [e1] at this
      cases this
      exact ⟨d, e2, .inl ⟨y.1, e3⟩⟩
    · exact ⟨vs, SqL.mono s sq, by rw [dn.length]; exact Nat.le_refl _⟩
theorem iter_seq {b : Bool} {tg : Expr} {pins : List (Addr × Obj)} {s : Shared} {σ : St} {H : Hp} {R : It → Hp → Prop} {a : Addr} {vs : List V} (I : Inv X pins σ H s) (sq : SqX b X.K H a vs) (q : R (ItS b X.K a) H) :
    wpAny (model X.prog X.w) X.A (pyIter (.ref a)) (PIE X pins σ tg R) X.xe s := by
  have fp : ∀ c ∈ [s.heap.objs.size], FpOk X pins H c := fun c hc => by
    have e : c = s.heap.objs.size := by simpa using hc
    subst e
    exact I.fpOk (Nat.le_refl _) (I.hok.fresh (Nat.le_refl _))
  cases b with
  | true =>
    obtain ⟨its, rv, p, hz⟩ := I.tuple (show SqT X.K H a vs from sq)
    refine wpAny_pyIter_tuple (show s.heap.IsTuple a its.toArray from p) ?_
    exact ⟨s.heap.objs.size, [s.heap.objs.size], _, _, H, rfl, I.kept (t' := s.toks) fun b o e => Heap.get?_push_of_some _ e,
      turn_tuple a _, ⟨_, Heap.get?_push_size _ rfl, rfl, rfl⟩, fp, q⟩
  | false =>
    obtain ⟨its, rv, p, hz⟩ := I.list (show SqL X.K H a vs from sq)
    refine wpAny_pyIter_list p.isList ?_
    exact ⟨s.heap.objs.size, [s.heap.objs.size], _, _, H, rfl, I.kept (t' := s.toks) fun b o e => Heap.get?_push_of_some _ e,
      turn_list a _, ⟨_, Heap.get?_push_size _ rfl, rfl, rfl⟩, fp, q⟩
theorem DnKv.get {K : PySem.W.Frag} {F : Hp} : ∀ {es : List (NestedKey × Addr × V)} {kvs : List (PyData × PyData)} {i : Nat} {k d : PyData}, DnKv K et F es kvs → kvs[i]? = some (k, d) → ∃ n b v, es[i]? = some (n, b, v) ∧ keyN k = some n ∧ Dn K et F (.ref b) k ∧ Dn K et F v d
  | _, _, _, _, _, .nil, e => by simp at e
  | _, _, 0, _, _, .cons a _ b c _, e => by
    simp only [List.getElem?_cons_zero, Option.some.injEq, Prod.mk.injEq] at e
    obtain ⟨rfl, rfl⟩ := e
    exact ⟨_, _, _, rfl, a, b, c⟩
  | _, _, i + 1, k, d, .cons _ _ _ _ r, e => by
    obtain ⟨n, b, v, h1, h2⟩ := DnKv.get (i := i) (k := k) (d := d) r (by simpa using e)
    exact ⟨n, b, v, by simpa using h1, h2⟩
theorem DnKk.get {K : PySem.W.Frag} {F : Hp} : ∀ {es : List (Key × V)} {kvs : List (PyData × PyData)} {i : Nat} {k d : PyData}, DnKk K et F es kvs → kvs[i]? = some (k, d) → ∃ n v, es[i]? = some (n, v) ∧ Dn K et F (kV n) k ∧ Dn K et F v d
  | _, _, _, _, _, .nil, e => by simp at e
  | _, _, 0, _, _, .int _ c _, e => by
    simp only [List.getElem?_cons_zero, Option.some.injEq, Prod.mk.injEq] at e
    obtain ⟨rfl, rfl⟩ := e
    exact ⟨_, _, rfl, .int _, c⟩
  | _, _, 0, _, _, .str c _, e => by
    simp only [List.getElem?_cons_zero, Option.some.injEq, Prod.mk.injEq] at e
    obtain ⟨rfl, rfl⟩ := e
    exact ⟨_, _, rfl, .str _, c⟩
  | _, _, i + 1, k, d, .int _ _ r, e => by
    obtain ⟨n, v, h1, h2⟩ := DnKk.get (i := i) (k := k) (d := d) r (by simpa using e)
    exact ⟨n, v, by simpa using h1, h2⟩
  | _, _, i + 1, k, d, .str _ r, e => by
    obtain ⟨n, v, h1, h2⟩ := DnKk.get (i := i) (k := k) (d := d) r (by simpa using e)
    exact ⟨n, v, by simpa using h1, h2⟩
theorem DnKk.length {K : PySem.W.Frag} {F : Hp} : ∀ {es : List (Key × V)} {kvs : List (PyData × PyData)}, DnKk K et F es kvs → es.length = kvs.length
  | _, _, .nil => rfl
  | _, _, .int _ _ r => congrArg (· + 1) (DnKk.length r)
  | _, _, .str _ r => congrArg (· + 1) (DnKk.length r)
theorem iter_keysK {tg : Expr} {pins : List (Addr × Obj)} {s : Shared} {σ : L2.St} {H : Hp} {R : It → Hp → Prop} {d : Addr} {o : Obj} {es : List (Key × V)} (I : Inv X pins σ H s) (hd : H d = some (.frz o (.dK es))) (q : R (Itk d o es) H) :
    wpAny (model X.prog X.w) X.A (pyIter (.ref d)) (PIE X pins σ tg R) X.xe s := by
  obtain ⟨hs, hgd, hx, es', ep, vs, hdt, hsz, kv, hm⟩ := I.frzK hd
  refine iter_keys hs hgd hx hdt (pi_one (tk := s.toks) I _ (turn_keys _ hdt) ⟨_, Heap.get?_push_size _ rfl, rfl, ?_⟩ q)
  rw [hsz] <;> rfl
theorem di_seq {tg e : Expr} {f : Sg → Rs Sg DV} (h : DE X et W e f) : DI X et W tg e (mSeqI f) := fun β am B F g σ H O k R G Rp hq nx => by
  refine ⟨fun pins s I => ?_⟩
  unfold mSeqI at hq
  rw [rs_assoc] at hq
  refine thn ((h.then G Rp hq (Q := fun v H1 => ∃ a, v = .ref a ∧ ((∃ b vs, SqX b X.K H1 a vs ∧ R (ItS b X.K a) H1) ∨ (∃ o es, H1 a = some (.frz o (NDo et.hs a es)) ∧ R (ItkN et.hs a o es) H1) ∨ (∃ o es, H1 a = some (.frz o (.dK es)) ∧ R (Itk a o es) H1))) (fun d g1 v F1 H1 ex1 R1 dn1 hq1 => ?_)).run pins s I) fun u s1 ⟨x, H1, I1, r1, a, e, q⟩ => ?_
  · split at hq1
    · exact (G.no _ hq1).elim
    · cases q : seqOf d with
      | none => rw [q] at hq1; exact (G.no _ hq1).elim
      | some ds =>
        rw [q] at hq1
        obtain ⟨b, a, vs, ev, sq, dn⟩ := dn1.seqX q
        exact ⟨a, ev, .inl ⟨b, vs, SqX.mono R1.sub sq, nx ds g1 F1 H1 _ ex1 R1 (walk_seq sq dn) hq1⟩⟩
  · subst e
    cases r1
    rcases q with ⟨b, vs, sq, q⟩ | ⟨o, es, hd, q⟩ | ⟨o, es, hd, q⟩
    · exact iter_seq I1 sq q
    · exact iter_keysN I1 hd q
    · exact iter_keysK I1 hd q
def okRng (j : Int) : Bool := decide (j.natAbs < 2 ^ 62)
def rangeD (lo : Int) (n : Nat) : List PyData := (List.range n).map fun i => .int (lo + (i : Nat))
theorem walk_range {K : PySem.W.Frag} {F : Hp} (lo : Int) (n : Nat) : WalkD K et F (Itr lo n) (rangeD lo n) := by
  have hl : (rangeD lo n).length = n := by unfold rangeD; simp
  refine ⟨fun i H s hi => by rw [hl] at hi; exact hi, fun i H x H' s hi y => ?_, fun H s => by rw [hl]; exact Nat.le_refl n⟩
  obtain ⟨e, ex⟩ := (show H' = H ∧ x = .int (lo + i) from y)
  refine ⟨.int (lo + (i : Nat)), ?_, .inl ⟨e, by rw [ex]; exact .int _⟩⟩
  rw [hl] at hi
  unfold rangeD
  simp [hi]
def rng1 : List DV → Option (Int × Nat)
  | [.pu (.int j)] => if okRng j then some (0, j.toNat) else none
  | _ => none
def mRange1 (fs : Sg → Rs Sg (List DV)) (g : Sg) : Rs Sg (List PyData) := (fs g).bind fun ds g1 => Rs.of ((rng1 ds).map fun r => rangeD r.1 r.2) g1
theorem di_range1 {tg a : Expr} {p pos : Pos} {fs : Sg → Rs Sg (List DV)} (hm : X.mg "range" = none) (h : DA X et W [a] fs) (hg : Gl X "range" := by rfl) (hs : starEach [a] X.env = [(false, eval a X.env)] := by exact star1_ok rfl) :
    DI X et W tg (.Call (.Name "range" p) [a] [] pos) (mRange1 fs) := fun β am B F g σ H O k R G Rp hq nx => by
  refine ⟨fun pins s I => ?_⟩
  unfold mRange1 at hq
  rw [rs_assoc] at hq
  refine (pi_range1 hg hm pa_w hs).run pins s σ H R I (h.then G Rp hq fun ds g1 vs F1 H1 ex1 R1 dn1 hq1 => ?_)
  cases q : rng1 ds with
  | none => rw [q] at hq1; exact (G.no _ hq1).elim
  | some r =>
    rw [q] at hq1
    unfold rng1 at q
    split at q
    · rename_i j
      split at q
      · rename_i hz
        cases q
        unfold okRng at hz
        simp only [Bool.and_eq_true, decide_eq_true_eq] at hz
        obtain ⟨v, rfl, d1⟩ := dn1.one
        rw [Dn.int_of d1]
        exact ⟨j, rfl, by omega, by omega, nx _ g1 F1 H1 _ ex1 R1 (walk_range 0 j.toNat) hq1⟩
      · cases q
    · cases q
def rng2 : List DV → Option (Int × Nat)
  | [.pu (.int i), .pu (.int j)] => if okRng i && okRng j then some (i, (j - i).toNat) else none
  | _ => none
def mRange2 (fs : Sg → Rs Sg (List DV)) (g : Sg) : Rs Sg (List PyData) := (fs g).bind fun ds g1 => Rs.of ((rng2 ds).map fun r => rangeD r.1 r.2) g1
theorem di_range2 {tg a b : Expr} {p pos : Pos} {fs : Sg → Rs Sg (List DV)} (hm : X.mg "range" = none) (h : DA X et W [a, b] fs) (hg : Gl X "range" := by rfl) (hs : starEach [a, b] X.env = [(false, eval a X.env), (false, eval b X.env)] := by exact star2_ok rfl rfl) (hs2 : starEach [b] X.env = [(false, eval b X.env)] := by exact star1_ok rfl) :
    DI X et W tg (.Call (.Name "range" p) [a, b] [] pos) (mRange2 fs) := fun β am B F g σ H O k R G Rp hq nx => by
  refine ⟨fun pins s I => ?_⟩
  unfold mRange2 at hq
  rw [rs_assoc] at hq
  refine (pi_range2 hg hm pa_w hs hs2).run pins s σ H R I (h.then G Rp hq fun ds g1 vs F1 H1 ex1 R1 dn1 hq1 => ?_)
  cases q : rng2 ds with
  | none => rw [q] at hq1; exact (G.no _ hq1).elim
  | some r =>
    rw [q] at hq1
    unfold rng2 at q
    split at q
    · rename_i i j
      split at q
      · rename_i hz
        cases q
        unfold okRng at hz
        simp only [Bool.and_eq_true, decide_eq_true_eq] at hz
        obtain ⟨v, w, rfl, d1, d2⟩ := dn1.two
        rw [Dn.int_of d1, Dn.int_of d2]
        exact ⟨i, j, rfl, ⟨by omega, by omega, by omega, by omega⟩, nx _ g1 F1 H1 _ ex1 R1 (walk_range i (j - i).toNat) hq1⟩
      · cases q
    · cases q
def enumFrom (k : Nat) : List PyData → List PyData
  | [] => []
  | d :: r => .tuple [.int (k : Nat), d] :: enumFrom (k + 1) r
theorem enumFrom_length : ∀ (l : List PyData) (k : Nat), (enumFrom k l).length = l.length
  | [], _ => rfl
  | _ :: r, k => by
    show (enumFrom (k + 1) r).length + 1 = r.length + 1
    rw [enumFrom_length r]
theorem enumFrom_get : ∀ (l : List PyData) (k i : Nat) (d : PyData), l[i]? = some d → (enumFrom k l)[i]? = some (.tuple [.int ((k + i : Nat) : Int), d])
  | [], _, _, _, e => by simp at e
  | a :: r, k, 0, d, e => by
    simp at e
    subst e
    rfl
  | a :: r, k, i + 1, d, e => by
    show (enumFrom (k + 1) r)[i]? = _
    rw [enumFrom_get r (k + 1) i d (by simpa using e)]
    rw [show k + 1 + i = k + (i + 1) by omega]
theorem walk_enum {b : Bool} {K : PySem.W.Frag} {F : Hp} {a : Addr} {vs : List V} {ds : List PyData} (sq : SqX b K F a vs) (dn : DnAll K et F vs ds) : WalkD K et F (IteX b K a) (enumFrom 0 ds) := by
  have get : ∀ {i : Nat}, i < ds.length → ∃ x d, vs[i]? = some x ∧ ds[i]? = some d ∧ Dn K et F x d := fun {i} hi => by
    obtain ⟨x, e1, e2⟩ := dn.get (i := i) (d := ds[i]) (by simp [hi])
    exact ⟨x, _, e1, by simp [hi], e2⟩
  refine ⟨fun i H s hi => ?_, fun i H x H' s hi y => ?_, fun H s => ?_⟩
  · rw [enumFrom_length] at hi
    obtain ⟨x, d, e1, _⟩ := get hi
    exact ⟨vs, x, SqX.mono s sq, e1⟩
  · rw [enumFrom_length] at hi
    obtain ⟨x', d, e1, e2, e3⟩ := get hi
    obtain ⟨T, z, ev, hT, eH, hz⟩ := (show ∃ T z, x = .ref T ∧ H T = none ∧ H' = upd H T (.tup [.int (i : Nat), z]) ∧ ∀ xs, SqX b K H a xs → xs[i]? = some z from y)
    have := hz vs (SqX.mono s sq)
    rw [e1] at this
    cases this
    refine ⟨_, enumFrom_get ds 0 i d e2, .inr ⟨T, _, _, hT, eH, ev, rfl, .cons ?_ (.cons e3 .nil)⟩⟩
    rw [Nat.zero_add]
    exact .int _
  · exact ⟨vs, SqX.mono s sq, by rw [enumFrom_length, dn.length]⟩
def mEnum (fs : Sg → Rs Sg DV) (g : Sg) : Rs Sg (List PyData) := (fs g).bind fun x g1 => Rs.of ((seqOf x).map (enumFrom 0)) g1
theorem di_enum {e : Expr} {p pos tpos : Pos} {elts : List Expr} {kk : Nat} {f : Sg → Rs Sg DV} (hm : X.mg "enumerate" = none) (h : DE X et W e f) (hg : Gl X "enumerate" := by rfl) (hs : starEach [e] X.env = [(false, eval e X.env)] := by exact star1_ok rfl) :
    DI X et W (.Tuple elts kk tpos) (.Call (.Name "enumerate" p) [e] [] pos) (mEnum f) := fun β am B F g σ H O k R G Rp hq nx => by
  refine ⟨fun pins s I => ?_⟩
  unfold mEnum at hq
  rw [rs_assoc] at hq
  have rd : wA X [e] σ H fun vs H1 => ∃ b a ys, vs = [.ref a] ∧ SqX b X.K H1 a ys ∧ R (IteX b X.K a) H1 := by
    refine wa_of (pa_cons pe_w pa_nil hs) (h.then G Rp hq fun d g1 v F1 H1 ex1 R1 dn1 hq1 => ?_)
    cases q : seqOf d with
    | none => rw [q] at hq1; exact (G.no _ hq1).elim
    | some ds =>
      rw [q] at hq1
      obtain ⟨b, a, vs, ev, sq, dn⟩ := dn1.seqX q
      exact ⟨b, a, vs, by rw [ev], SqX.mono R1.sub sq, nx _ g1 F1 H1 _ ex1 R1 (walk_enum sq dn) hq1⟩
  refine Call_ (ld_blt I hg hm boot_enumerate (PyProof.Rows.callWith_type1 (thn (rd.run pos pins s I) fun us s1 ⟨vs, H1, I1, r1, b, a, ys, e1, sq, q⟩ => ?_) hs rfl))
  subst e1
  cases r1 with
  | cons r rr =>
    cases rr
    cases r
    obtain ⟨its, rv, p'⟩ := I1.seqX sq
    refine dl_enum_begins (beginsX its.toArray) p' fun h' he hit hsz hk => wpAny_pyIter_enum he ?_
    have I2 : Inv X pins σ H1 { s1 with heap := h' } := I1.kept (t' := s1.toks) hk
    refine ⟨s1.heap.objs.size + 1, [s1.heap.objs.size + 1, s1.heap.objs.size], _, _, H1, rfl, I2, turn_enumX b a (s1.heap.objs.size + 1) s1.heap.objs.size, ⟨⟨.none, he⟩, ItX.new hit, Nat.succ_ne_self _⟩, fun c hc => ?_, q⟩
    have e' : c = s1.heap.objs.size + 1 ∨ c = s1.heap.objs.size := by simpa using hc
    have hle : s1.heap.objs.size ≤ c := by
      rcases e' with z | z
      · rw [z]; exact Nat.le_add_right _ _
      · rw [z]; exact Nat.le_refl _
    exact I1.fpOk hle (I1.hok.fresh hle)
def zipD (xs ys : List PyData) : List PyData := List.zipWith (fun a b => .tuple [a, b]) xs ys
theorem walk_zip {b c : Bool} {K : PySem.W.Frag} {F : Hp} {a a2 : Addr} {vs ws : List V} {ds es : List PyData} (sq : SqX b K F a vs) (dn : DnAll K et F vs ds) (sq2 : SqX c K F a2 ws) (dn2 : DnAll K et F ws es) : WalkD K et F (ItzX b c K a a2) (zipD ds es) := by
  have hl : (zipD ds es).length = min ds.length es.length := by unfold zipD; simp
  have get : ∀ {vs : List V} {ds : List PyData} {i : Nat}, DnAll K et F vs ds → i < ds.length → ∃ x d, vs[i]? = some x ∧ ds[i]? = some d ∧ Dn K et F x d := fun {vs ds i} dn hi => by
    obtain ⟨x, e1, e2⟩ := dn.get (i := i) (d := ds[i]) (by simp [hi])
    exact ⟨x, _, e1, by simp [hi], e2⟩
  refine ⟨fun i H s hi => ?_, fun i H x H' s hi y => ?_, fun H s => ?_⟩
  · rw [hl] at hi
    obtain ⟨x, d, e1, _⟩ := get dn (i := i) (by omega)
    obtain ⟨x2, d2, e2, _⟩ := get dn2 (i := i) (by omega)
    exact ⟨vs, ws, x, x2, SqX.mono s sq, SqX.mono s sq2, e1, e2⟩
  · rw [hl] at hi
    obtain ⟨x1, d1, e1, e2, e3⟩ := get dn (i := i) (by omega)
    obtain ⟨x2, d2, f1, f2, f3⟩ := get dn2 (i := i) (by omega)
    obtain ⟨T, z1, z2, ev, hT, eH, h1, h2⟩ := (show ∃ T z1 z2, x = .ref T ∧ H T = none ∧ H' = upd H T (.tup [z1, z2]) ∧ (∀ xs, SqX b K H a xs → xs[i]? = some z1) ∧ ∀ ys, SqX c K H a2 ys → ys[i]? = some z2 from y)
    have q1 := h1 vs (SqX.mono s sq)
    have q2 := h2 ws (SqX.mono s sq2)
    rw [e1] at q1
    rw [f1] at q2
    cases q1
    cases q2
    refine ⟨.tuple [d1, d2], ?_, .inr ⟨T, _, _, hT, eH, ev, rfl, .cons e3 (.cons f3 .nil)⟩⟩
    unfold zipD
    rw [List.getElem?_zipWith, e2, f2]
  · exact ⟨vs, ws, SqX.mono s sq, SqX.mono s sq2, by rw [hl, dn.length, dn2.length]⟩
def zip2 : List DV → Option (List PyData)
  | [x, y] => (seqOf x).bind fun a => (seqOf y).map fun b => zipD a b
  | _ => none
def mZip (fs : Sg → Rs Sg (List DV)) (g : Sg) : Rs Sg (List PyData) := (fs g).bind fun ds g1 => Rs.of (zip2 ds) g1
theorem di_zip {e e2 : Expr} {p pos tpos : Pos} {elts : List Expr} {kk : Nat} {fs : Sg → Rs Sg (List DV)} (hm : X.mg "zip" = none) (h : DA X et W [e, e2] fs) (hg : Gl X "zip" := by rfl)
    (hs : starEach [e, e2] X.env = (false, eval e X.env) :: starEach [e2] X.env := by exact star_ok rfl) (hpl : (backTo pos (starEach [e2] X.env)).any (·.1) = false := by exact plain_ok rfl) :
    DI X et W (.Tuple elts kk tpos) (.Call (.Name "zip" p) [e, e2] [] pos) (mZip fs) := fun β am B F g σ H O k R G Rp hq nx => by
  refine ⟨fun pins s I => ?_⟩
  unfold mZip at hq
  rw [rs_assoc] at hq
  have rd : wA X [e, e2] σ H fun vs H1 => ∃ b c a a2 ys zs, vs = [.ref a, .ref a2] ∧ SqX b X.K H1 a ys ∧ SqX c X.K H1 a2 zs ∧ R (ItzX b c X.K a a2) H1 := by
    refine h.then G Rp hq fun dd g1 vv F1 H1 ex1 R1 dn1 hq1 => ?_
    cases q : zip2 dd with
    | none => rw [q] at hq1; exact (G.no _ hq1).elim
    | some zz =>
      rw [q] at hq1
      unfold zip2 at q
      split at q
      · rename_i x y
        cases q1 : seqOf x with
        | none => rw [q1] at q; cases q
        | some ds =>
          rw [q1, Option.bind_some] at q
          cases q2 : seqOf y with
          | none => rw [q2] at q; cases q
          | some es =>
            rw [q2] at q
            cases q
            obtain ⟨v, w, rfl, d1, d2⟩ := dn1.two
            obtain ⟨b, a, vs, ev, sq, dn⟩ := d1.seqX q1
            obtain ⟨c, a2, ws, ew, sq2, dn2⟩ := d2.seqX q2
            exact ⟨b, c, a, a2, vs, ws, by rw [ev, ew], SqX.mono R1.sub sq, SqX.mono R1.sub sq2, nx _ g1 F1 H1 _ ex1 R1 (walk_zip sq dn sq2 dn2) hq1⟩
      · cases q
  refine Call_ (ld_blt I hg hm PyProof.Rows.boot_zip (PyProof.Rows.callWith_type1 (thn (rd.run pos pins s I) fun us s1 ⟨vs, H1, I1, r1, b, c, a, a2, ys, zs, e1, sq, sq2, q⟩ => ?_) hs hpl))
  subst e1
  cases r1 with
  | cons r rr =>
    cases rr with
    | cons r' rr =>
      cases rr
      cases r
      cases r'
      obtain ⟨its, rv, p1⟩ := I1.seqX sq
      obtain ⟨its2, rv2, p2⟩ := I1.seqX sq2
      refine zip_begins2 (beginsX its.toArray) (beginsX its2.toArray) p1 p2 fun h' hz hT hO g1 g2 hsz hk => wpAny_pyIter_zip hz ?_
      have I2 : Inv X pins σ H1 { s1 with heap := h' } := I1.kept (t' := s1.toks) hk
      have ap : ZAp (s1.heap.objs.size + 4) (s1.heap.objs.size + 2) (s1.heap.objs.size + 3) s1.heap.objs.size (s1.heap.objs.size + 1) := by
        have h0 : ∀ n : Nat, ZAp (n + 4) (n + 2) (n + 3) n (n + 1) := fun n => ⟨by show n + 2 ≠ n + 4; omega, by show n + 3 ≠ n + 4; omega, by show n + 2 ≠ n + 3; omega, by show n + 2 ≠ n; omega, by show n + 2 ≠ n + 1; omega, by show n + 3 ≠ n; omega, by show n + 3 ≠ n + 1; omega, by show n + 4 ≠ n; omega, by show n + 4 ≠ n + 1; omega, by show n ≠ n + 1; omega⟩
        exact h0 _
      refine ⟨s1.heap.objs.size + 4, [s1.heap.objs.size + 4, s1.heap.objs.size + 2, s1.heap.objs.size + 3, s1.heap.objs.size, s1.heap.objs.size + 1], _, _, H1, rfl, I2, turn_zipX b c ap, ⟨hz, hT, ⟨_, _, hO⟩, ItX.new g1, ItX.new g2⟩, fun d hd => ?_, q⟩
      have hle : s1.heap.objs.size ≤ d := by
        have h0 : ∀ n m : Nat, m = n + 4 ∨ m = n + 2 ∨ m = n + 3 ∨ m = n ∨ m = n + 1 → n ≤ m := fun n m h => by omega
        exact h0 _ _ (by simpa using hd)
      exact I1.fpOk hle (I1.hok.fresh hle)
end
end DL
set_option Elab.async false
set_option linter.all false
set_option maxRecDepth 100000
set_option maxHeartbeats 4000000
set_option autoImplicit false
namespace DL
open PySem PySem.Spec L2
open PyProof.Rows hiding St
def W0 : WX := fun _ _ _ _ => False
def Rs.nox {S α : Type} : Rs S α → Rs S α
  | .ex _ _ _ => .no
  | r => r
def wipeR : List Nat → List (Option DV) → List (Option DV)
  | [], r => r
  | v :: vs, r => (wipeR vs r).set v none
def keepP : Option (Option DV) → Option DV
  | some (some (.pu d)) => some (.pu d)
  | some (some .m) => some .m
  | some (some (.scr ns)) => some (.scr ns)
  | some (some (.clo G)) => some (.clo G)
  | some (some (.exc c p)) => some (.exc c p)
  | _ => none
def restR (r0 : List (Option DV)) : List Nat → List (Option DV) → List (Option DV)
  | [], r => r
  | v :: vs, r => (restR r0 vs r).set v (keepP r0[v]?)
theorem wipeR_length : ∀ (vs : List Nat) (r : List (Option DV)), (wipeR vs r).length = r.length
  | [], _ => rfl
  | v :: vs, r => by unfold wipeR; rw [List.length_set, wipeR_length vs r]
theorem restR_length (r0 : List (Option DV)) : ∀ (vs : List Nat) (r : List (Option DV)), (restR r0 vs r).length = r.length
  | [], _ => rfl
  | v :: vs, r => by unfold restR; rw [List.length_set, restR_length r0 vs r]
theorem wipeR_get {vs : List Nat} {r : List (Option DV)} {i : Nat} {x : DV} (e : (wipeR vs r)[i]? = some (some x)) : r[i]? = some (some x) ∧ i ∉ vs := by
  induction vs with
  | nil => exact ⟨e, by simp⟩
  | cons v vs ih =>
    unfold wipeR at e
    by_cases h : v = i
    · subst h
      by_cases hl : v < (wipeR vs r).length
      · rw [List.getElem?_set_self hl] at e; cases e
      · rw [List.getElem?_eq_none (by rw [List.length_set]; omega)] at e; cases e
    · rw [List.getElem?_set_ne h] at e
      obtain ⟨a, b⟩ := ih e
      exact ⟨a, by simp [b, Ne.symm h]⟩
theorem restR_get {r0 r : List (Option DV)} {vs : List Nat} {i : Nat} {x : DV} (e : (restR r0 vs r)[i]? = some (some x)) : (i ∉ vs ∧ r[i]? = some (some x)) ∨ (r0[i]? = some (some x) ∧ isOwnV x = false) := by
  induction vs with
  | nil => exact .inl ⟨by simp, e⟩
  | cons v vs ih =>
    unfold restR at e
    by_cases h : v = i
    · subst h
      by_cases hl : v < (restR r0 vs r).length
      · rw [List.getElem?_set_self hl] at e
        refine .inr ?_
        have e : keepP r0[v]? = some x := Option.some.inj e
        unfold keepP at e
        split at e
        · rename_i q; cases e; exact ⟨q, rfl⟩
        · rename_i q; cases e; exact ⟨q, rfl⟩
        · rename_i q; cases e; exact ⟨q, rfl⟩
        · rename_i q; cases e; exact ⟨q, rfl⟩
        · rename_i q; cases e; exact ⟨q, rfl⟩
        · cases e
      · rw [List.getElem?_eq_none (by rw [List.length_set]; omega)] at e; cases e
    · rw [List.getElem?_set_ne h] at e
      rcases ih e with ⟨a, b⟩ | z
      · exact .inl ⟨by simp [a, Ne.symm h], b⟩
      · exact .inr z
theorem wipe_at {σ : St} {i : Nat} : ∀ {vs : List Nat}, i ∉ vs → (wipe σ vs)[i]? = σ[i]?
  | [], _ => rfl
  | v :: vs, h => by
    unfold wipe
    rw [List.getElem?_set_ne (fun z => h (by simp [z]))]
    exact wipe_at fun z => h (List.mem_cons_of_mem _ z)
theorem wipe_in {σ : St} {i : Nat} (hl : i < σ.length) : ∀ {vs : List Nat}, i ∈ vs → (wipe σ vs)[i]? = some none
  | [], h => by simp at h
  | v :: vs, h => by
    unfold wipe
    by_cases e : v = i
    · subst e
      rw [List.getElem?_set_self (by rw [wipe_length]; exact hl)]
    · rw [List.getElem?_set_ne e]
      exact wipe_in hl (by
        rcases List.mem_cons.mp h with z | z
        · exact absurd z.symm e
        · exact z)
theorem wipe_off {σ σ2 : St} {is vs : List Nat} (o : Off is (wipe σ vs) σ2) (hs : ∀ i ∈ is, i ∈ vs) : wipe σ2 vs = wipe σ vs := by
  refine List.ext_getElem? fun i => ?_
  have hl : σ2.length = σ.length := by rw [o.1, wipe_length]
  by_cases hi : i ∈ vs
  · by_cases hlt : i < σ.length
    · rw [wipe_in hlt hi, wipe_in (by rw [hl]; exact hlt) hi]
    · rw [List.getElem?_eq_none (by rw [wipe_length]; omega), List.getElem?_eq_none (by rw [wipe_length]; omega)]
  · rw [wipe_at hi, o.2 i (fun z => hi (hs i z))]
def Sg.wipe (g : Sg) (vs : List Nat) : Sg := { g with r := wipeR vs g.r }
theorem RepF.wipe {K : PySem.W.Frag} {et : ET} {am : Addr} {B F : Hp} {g : Sg} {σ : St} {H : Hp} (R : RepF K et am B F g σ H) (vs : List Nat) : RepF K et am B F (g.wipe vs) (L2.wipe σ vs) H := by
  refine ⟨R.sub, R.fam, R.base, by show _ = (wipeR vs g.r).length; rw [wipe_length, wipeR_length]; exact R.len, fun i x e => ?_, fun i j x y a e1 e2 o1 o2 e3 e4 => ?_, R.ms⟩
  · obtain ⟨a, b⟩ := wipeR_get e
    obtain ⟨v, e1, e2⟩ := R.slot i x a
    exact ⟨v, by rw [wipe_at b]; exact e1, e2⟩
  · obtain ⟨a1, b1⟩ := wipeR_get e1
    obtain ⟨a2, b2⟩ := wipeR_get e2
    rw [wipe_at b1] at e3
    rw [wipe_at b2] at e4
    exact R.inj i j x y a a1 a2 o1 o2 e3 e4
/-- what may stand behind a part of a block -/
structure Good0 {β : Type} (B : Hp) (O : Hp → Rs Sg β → Prop) : Prop where
  weak : ∀ F F1 r, Ext B F F1 → O F r → O F1 r
  no : ∀ F, O F .no → False
section
variable {X : Cx} {et : ET} {W : WX}
theorem DE.then0 {β : Type} {e : Expr} {fa : Sg → Rs Sg DV} {k : DV → Sg → Rs Sg β} {am : Addr} {B F : Hp} {g : Sg} {σ : St} {H : Hp} {O : Hp → Rs Sg β → Prop} {Q : VK} (ha : DE X et W e fa) (G : Good0 B O) (R : RepF X.K et am B F g σ H) (hq : O F ((fa g).nox.bind k))
    (nx : ∀ d g' v F' H', Ext B F F' → RepF X.K et am B F' g' σ H' → DenP X.K et am F' v d → O F' (k d g') → Q v H') : wE X e σ H Q := by
  refine ha am B F g σ H Q R ?_
  cases q : fa g with
  | ok d g' =>
    rw [q] at hq
    exact fun v F' H' ex R' dn => nx d g' v F' H' ex R' dn (G.weak F F' _ ex hq)
  | ex c p g' => rw [q] at hq; exact (G.no F hq).elim
  | no => rw [q] at hq; exact (G.no F hq).elim
theorem DT.then0 {β : Type} {e : Expr} {fa : Sg → Rs Sg Bool} {k : Bool → Sg → Rs Sg β} {am : Addr} {B F : Hp} {g : Sg} {σ : St} {H : Hp} {O : Hp → Rs Sg β → Prop} {Q : Bool → Hp → Prop} (ha : DT X et W e fa) (G : Good0 B O) (R : RepF X.K et am B F g σ H) (hq : O F ((fa g).nox.bind k))
    (nx : ∀ d g' F' H', Ext B F F' → RepF X.K et am B F' g' σ H' → O F' (k d g') → Q d H') : wT X e σ H Q := by
  refine ha am B F g σ H Q R ?_
  cases q : fa g with
  | ok d g' =>
    rw [q] at hq
    exact fun F' H' ex R' => nx d g' F' H' ex R' (G.weak F F' _ ex hq)
  | ex c p g' => rw [q] at hq; exact (G.no F hq).elim
  | no => rw [q] at hq; exact (G.no F hq).elim
/-- the ifs of a comprehension -/
def DTs (X : Cx) (et : ET) (W : WX) (ifs : List Expr) (f : Sg → Rs Sg Bool) : Prop :=
  ∀ (β : Type) (am : Addr) (B F : Hp) (g : Sg) (σ : St) (H : Hp) (O : Hp → Rs Sg β → Prop) (k : Bool → Sg → Rs Sg β) (Q : Bool → Hp → Prop), Good0 B O → RepF X.K et am B F g σ H → O F ((f g).nox.bind k) →
    (∀ d g' F' H', Ext B F F' → RepF X.K et am B F' g' σ H' → O F' (k d g') → Q d H') →
    ∃ t : TT, PTs X ifs t ∧ t σ H Q
def mYes (g : Sg) : Rs Sg Bool := .ok true g
theorem dts_nil : DTs X et W [] mYes := fun β am B F g σ H O k Q G R hq nx => ⟨_, pts_nil, nx true g F H Ext.refl R hq⟩
theorem dts_one {c : Expr} {f : Sg → Rs Sg Bool} (h : DT X et W c f) : DTs X et W [c] f := fun β am B F g σ H O k Q G R hq nx => ⟨_, pts_one pt_w, h.then0 G R hq nx⟩
def lcLoop (vs : List Nat) (t : PyData → Sg → Option Sg) (test : Sg → Rs Sg Bool) (elt : Sg → Rs Sg DV) : List PyData → List PyData → Sg → Rs Sg (List PyData)
  | [], acc, g => .ok acc g
  | d :: ds, acc, g => match t d g with
    | none => .no
    | some g1 => (test g1).nox.bind fun b g2 => if b = true then (elt g2).nox.bind fun x g3 => (match x with
        | .pu y => if acc.length < bigN then lcLoop vs t test elt ds (acc ++ [y]) (g3.wipe vs) else .no
        | _ => .no)
      else lcLoop vs t test elt ds acc (g2.wipe vs)
def mLc (vs : List Nat) (fi : Sg → Rs Sg (List PyData)) (t : PyData → Sg → Option Sg) (test : Sg → Rs Sg Bool) (elt : Sg → Rs Sg DV) (g : Sg) : Rs Sg DV :=
  (fi g).bind fun ds g1 => (lcLoop vs t test elt ds [] (g1.wipe vs)).bind fun acc g2 => .ok (.pu (.list acc)) { g2 with r := restR g1.r vs g2.r }
/-- the readings of a block, whatever its frame -/
def tAllG (X : Cx) (scope : Scope) (tg : Expr) : TG := fun v σ H Q => ∀ (s : Shared) (H0 : Hp) (C : Addr) (cl : List (Str × Addr)) (fp : List Addr), wG (X.blk s H0 scope (compEnvC scope cl C X.env) fp) tg v σ H Q
def tAllT (X : Cx) (scope : Scope) (ifs : List Expr) : TT := fun σ H Q => ∀ (s : Shared) (H0 : Hp) (C : Addr) (cl : List (Str × Addr)) (fp : List Addr), ∃ t : TT, PTs (X.blk s H0 scope (compEnvC scope cl C X.env) fp) ifs t ∧ t σ H Q
def tAllE (X : Cx) (scope : Scope) (e : Expr) : TE := fun σ H Q => ∀ (s : Shared) (H0 : Hp) (C : Addr) (cl : List (Str × Addr)) (fp : List Addr), wE (X.blk s H0 scope (compEnvC scope cl C X.env) fp) e σ H Q
structure Blk (X : Cx) (et : ET) (scope : Scope) (is : List Nat) (tg elt : Expr) (ifs : List Expr) (t : PyData → Sg → Option Sg) (test : Sg → Rs Sg Bool) (fe : Sg → Rs Sg DV) : Prop where
  g : ∀ (s : Shared) (H0 : Hp) (C : Addr) (cl : List (Str × Addr)) (fp : List Addr), DG (X.blk s H0 scope (compEnvC scope cl C X.env) fp) is tg t
  t : ∀ (s : Shared) (H0 : Hp) (C : Addr) (cl : List (Str × Addr)) (fp : List Addr), DTs (X.blk s H0 scope (compEnvC scope cl C X.env) fp) et W0 ifs test
  e : ∀ (s : Shared) (H0 : Hp) (C : Addr) (cl : List (Str × Addr)) (fp : List Addr), DE (X.blk s H0 scope (compEnvC scope cl C X.env) fp) et W0 elt fe
theorem RepF.fin {K : PySem.W.Frag} {et : ET} {am : Addr} {B F F1 : Hp} {g g1 : Sg} {σ : St} {H H1 : Hp} {D : Addr} {acc : List V} {vs : List Nat} (bp : B D = none) (np : Fre et am D) (fD : F D = none) (R : RepF K et am (upd B D (.lst acc)) F g (L2.wipe σ vs) H) (R1 : RepF K et am B F1 g1 σ H1) (s1 : Same F1 F) :
    RepF K et am B (upd F D (.lst acc)) { g with r := restR g1.r vs g.r } σ H ∧ Ext B F (upd F D (.lst acc)) := by
  have hD : H D = some (.lst acc) := R.base D _ upd_same np
  have sm : Same F (upd F D (.lst acc)) := fun a u e => by
    rw [upd_ne (ne_of_none e fD)]
    exact e
  have nb : ∀ {a : Addr}, upd B D (.lst acc) a = none → a ≠ D ∧ B a = none := fun {a} e => by
    have h : a ≠ D := fun z => by rw [z, upd_same] at e; cases e
    rw [upd_ne h] at e
    exact ⟨h, e⟩
  refine ⟨⟨fun a u e => ?_, ⟨by rw [upd_ne (Ne.symm np.1)]; exact R.fam.am, R.fam.tabs, fun t ht => by rw [upd_ne (Ne.symm (np.2 t ht))]; exact R.fam.off t ht⟩, fun a u e na => R.base a u (by rw [upd_ne (ne_of_none e bp)]; exact e) na, ?_, fun i x e => ?_, fun i j x y a e1 e2 o1 o2 e3 e4 => ?_, ?_⟩, sm, fun a u e n => ?_⟩
  · by_cases h : a = D
    · rw [h, upd_same] at e
      rw [h]
      cases e
      exact hD
    · rw [upd_ne h] at e
      exact R.sub a u e
  · show σ.length = (restR g1.r vs g.r).length
    rw [restR_length]
    have := R.len
    rw [wipe_length] at this
    exact this
  · have e : (restR g1.r vs g.r)[i]? = some (some x) := e
    rcases restR_get e with ⟨hi, e⟩ | ⟨e, hx⟩
    · obtain ⟨v, e1, e2⟩ := R.slot i x e
      rw [wipe_at hi] at e1
      refine ⟨v, e1, e2.keep sm fun a u _ _ fa ba na ha ow => ?_⟩
      obtain ⟨n1, n2⟩ := nb ba
      exact ⟨by rw [upd_ne n1]; exact fa, n2, ha⟩
    · obtain ⟨v, e1, e2⟩ := R1.slot i x e
      exact ⟨v, e1, e2.keep (Same.tr s1 sm) fun a u ow _ _ _ _ _ _ => (by rw [hx] at ow; cases ow)⟩
  · have e1 : (restR g1.r vs g.r)[i]? = some (some x) := e1
    have e2 : (restR g1.r vs g.r)[j]? = some (some y) := e2
    rcases restR_get e1 with ⟨hi, e1⟩ | ⟨_, hx⟩
    · rcases restR_get e2 with ⟨hj, e2⟩ | ⟨_, hx⟩
      · exact R.inj i j x y a e1 e2 o1 o2 (by rw [wipe_at hi]; exact e3) (by rw [wipe_at hj]; exact e4)
      · rw [hx] at o2; cases o2
    · rw [hx] at o1; cases o1
  · exact R.ms.putF sm nlk_lst (nx_lst hD)
  · by_cases h : a = D
    · rw [h]; exact bp
    · rw [upd_ne h, n] at e; cases e
/-- the block's list grows -/
theorem RepF.push {K : PySem.W.Frag} {et : ET} {am : Addr} {B F : Hp} {g : Sg} {σ : St} {H : Hp} {D : Addr} {acc acc' : List V} (fD : F D = none) (np : Fre et am D) (R : RepF K et am (upd B D (.lst acc)) F g σ H) : RepF K et am (upd B D (.lst acc')) F g σ (upd H D (.lst acc')) := by
  have nb : ∀ {a : Addr}, upd B D (.lst acc) a = none → a ≠ D ∧ B a = none := fun {a} e => by
    have h : a ≠ D := fun z => by rw [z, upd_same] at e; cases e
    rw [upd_ne h] at e
    exact ⟨h, e⟩
  refine ⟨fun a u e => ?_, ⟨R.fam.am, Tabs.put R.fam.tabs (R.base D _ upd_same np) (fun _ z => by cases z) lst_code _, R.fam.off⟩, fun a u e na => ?_, R.len, fun i x e => ?_, R.inj, ?_⟩
  · rw [upd_ne (ne_of_none e fD)]
    exact R.sub a u e
  · by_cases h : a = D
    · rw [h, upd_same] at e
      rw [h]
      exact KeepsO.of (by rw [upd_same]; exact e)
    · rw [upd_ne h] at e
      exact (R.base a u (by rw [upd_ne h]; exact e) na).ne h
  · obtain ⟨v, e1, e2⟩ := R.slot i x e
    refine ⟨v, e1, e2.keep Same.rfl' fun a u _ _ fa ba na ha ow => ?_⟩
    obtain ⟨n1, n2⟩ := nb ba
    exact ⟨fa, by rw [upd_ne n1]; exact n2, by rw [upd_ne n1]; exact ha⟩
  · exact R.ms.putH np.1 (nx_lst (R.base D _ upd_same np))
theorem lc_read {β : Type} {tg iter elt : Expr} {ifs : List Expr} {scope : Scope} {vs is : List Nat} {fi : Sg → Rs Sg (List PyData)} {t : PyData → Sg → Option Sg} {test : Sg → Rs Sg Bool} {fe : Sg → Rs Sg DV} (hi : DI X et W tg iter fi) (K : Blk X et scope is tg elt ifs t test fe) (hs : ∀ i ∈ is, i ∈ vs)
    {am : Addr} {B F : Hp} {g : Sg} {σ : St} {H : Hp} {O : Hp → Rs Sg β → Prop} {k : DV → Sg → Rs Sg β} {Q : VK} (G : Good X.K et W am B σ O) (R : RepF X.K et am B F g σ H) (hq : O F ((mLc vs fi t test fe g).bind k))
    (nx : ∀ d g' v F' H', Ext B F F' → RepF X.K et am B F' g' σ H' → DenP X.K et am F' v d → O F' (k d g') → Q v H') :
    tLc (wI X tg iter) (tAllG X scope tg) (tAllT X scope ifs) (tAllE X scope elt) vs σ H Q := by
  unfold mLc at hq
  rw [rs_assoc] at hq
  refine hi _ am B F g σ H O _ _ G R hq fun ds g1 F1 H1 J ex1 R1 wd hq1 D hD => ?_
  obtain ⟨bp, fp, np1⟩ := R1.bnone hD
  have np : Fre et am D := ⟨np1, R1.fam.offT hD⟩
  have G0 : ∀ acc : List V, Good0 (upd B D (.lst acc)) (fun F r => F D = none ∧ O F r) := fun acc =>
    ⟨fun F F1 r x h => ⟨x.off h.1, G.weak F F1 r (x.narrow bp) h.2⟩, fun F h => G.no F h.2⟩
  rw [rs_assoc] at hq1
  refine ⟨fun i m H' => m = ds.length - i ∧ i ≤ ds.length ∧ ∃ g' F' acc dacc, Ext B F1 F' ∧ RepF X.K et am (upd B D (.lst acc)) F' g' (L2.wipe σ vs) H' ∧ F' D = none ∧ DnAll X.K et F' acc dacc ∧
      O F' ((lcLoop vs t test fe (ds.drop i) dacc g').bind fun acc g2 => (Rs.ok (.pu (.list acc)) { g2 with r := restR g1.r vs g2.r } : Rs Sg DV).bind k),
    ⟨ds.length, rfl, Nat.zero_le _, g1.wipe vs, F1, [], [], Ext.refl, (R1.wide hD (.lst [])).wipe vs, fp, .nil, hq1⟩, ?_⟩
  rintro i m H' ⟨rfl, hle, g', F', acc, dacc, ex', R', fD, dacc', ok⟩
  by_cases hlt : i < ds.length
  · refine .inr ⟨wd.go i H' (Same.tr ex'.1 R'.sub) hlt, fun H2 => ∃ g2 F2 acc2 dacc2, Ext B F1 F2 ∧ RepF X.K et am (upd B D (.lst acc2)) F2 g2 (L2.wipe σ vs) H2 ∧ F2 D = none ∧ DnAll X.K et F2 acc2 dacc2 ∧
        O F2 ((lcLoop vs t test fe (ds.drop (i + 1)) dacc2 g2).bind fun acc g2 => (Rs.ok (.pu (.list acc)) { g2 with r := restR g1.r vs g2.r } : Rs Sg DV).bind k), fun H2 z => ⟨ds.length - (i + 1), by omega, rfl, hlt, z⟩, fun x H2 y => ?_⟩
    obtain ⟨d, F2, ed, ex2, R2, dn2⟩ := wd.take ex'.1 R' hlt y
    have f2D : F2 D = none := ex2.off fD
    have edrop : ds.drop i = d :: ds.drop (i + 1) := by
      rw [List.drop_eq_getElem_cons hlt]
      have := (List.getElem?_eq_some_iff.mp ed).2
      rw [this]
    rw [edrop] at ok
    have ok := G.weak F' F2 _ (ex2.narrow bp) ok
    unfold lcLoop at ok
    cases qt : t d g' with
    | none => simp only [qt] at ok; exact (G.no _ ok).elim
    | some g3 =>
      simp only [qt] at ok
      rw [rs_assoc] at ok
      intro s0 H0 C cl fp'
      refine K.g s0 H0 C cl fp' et am _ F2 g' _ H2 x d g3 _ R2 dn2 qt fun σ3 o3 R3 => ⟨wipe_off o3 hs, fun s1 H1' C1 cl1 fp1 => ?_⟩
      refine K.t s1 H1' C1 cl1 fp1 _ am _ F2 g3 σ3 H2 _ _ _ (G0 acc) R3 ⟨f2D, ok⟩ fun b g4 F4 H4 ex4 R4 ok4 => ?_
      have back : ∀ {g5 : Sg} {F5 : Hp} {H5 : Hp} {a5 : List V}, RepF X.K et am (upd B D (.lst a5)) F5 g5 σ3 H5 → RepF X.K et am (upd B D (.lst a5)) F5 (g5.wipe vs) (L2.wipe σ vs) H5 := fun {g5 F5 H5 a5} R5 => by
        have z := R5.wipe vs
        rw [wipe_off o3 hs] at z
        exact z
      cases b with
      | false =>
        refine iteF ⟨g4.wipe vs, F4, acc, dacc, ex'.trans ((ex2.narrow bp).trans (ex4.narrow bp)), back R4, ok4.1, dacc'.up (Same.tr ex2.1 ex4.1), ok4.2⟩
      | true =>
        refine iteT fun s2 H2' C2 cl2 fp2 => ?_
        have okE : F4 D = none ∧ O F4 (((fe g4).nox.bind fun x g3 => (match x with
            | .pu y => if dacc.length < bigN then lcLoop vs t test fe (ds.drop (i + 1)) (dacc ++ [y]) (g3.wipe vs) else .no
            | _ => .no : Rs Sg (List PyData))).bind fun acc g2 => (Rs.ok (.pu (.list acc)) { g2 with r := restR g1.r vs g2.r } : Rs Sg DV).bind k) := ok4
        rw [rs_assoc] at okE
        refine (K.e s2 H2' C2 cl2 fp2).then0 (G0 acc) R4 okE fun dv g5 v F5 H5 ex5 R5 dn5 ok5 => ?_
        obtain ⟨f5D, ok5⟩ := ok5
        cases dv with
        | own _ => exact (G.no _ ok5).elim
        | m => exact (G.no _ ok5).elim
        | scr _ => exact (G.no _ ok5).elim
        | clo _ => exact (G.no _ ok5).elim
        | exc _ _ => exact (G.no _ ok5).elim
        | dic _ => exact (G.no _ ok5).elim
        | dki _ => exact (G.no _ ok5).elim
        | pu y =>
          have ok5 : O F5 ((if dacc.length < bigN then lcLoop vs t test fe (ds.drop (i + 1)) (dacc ++ [y]) (g5.wipe vs) else .no).bind fun acc g2 => (Rs.ok (.pu (.list acc)) { g2 with r := restR g1.r vs g2.r } : Rs Sg DV).bind k) := ok5
          split at ok5
          · rename_i hz
            have h5 : H5 D = some (.lst acc) := R5.base D _ upd_same np
            have sm : Same F' F5 := Same.tr ex2.1 (Same.tr ex4.1 ex5.1)
            refine ⟨acc, h5, by rw [dacc'.length, bigN_eq]; exact hz, g5.wipe vs, F5, acc ++ [v], dacc ++ [y], ex'.trans ((ex2.narrow bp).trans ((ex4.narrow bp).trans (ex5.narrow bp))), ?_, f5D, (dacc'.up sm).append (.cons dn5 .nil), ok5⟩
            exact (back R5).push f5D np
          · exact (G.no _ ok5).elim
  · have e : i = ds.length := by omega
    subst e
    rw [List.drop_length] at ok
    obtain ⟨Rf, exf⟩ := R'.fin bp np fD R1 ex'.1
    exact .inl ⟨wd.stop H' (Same.tr ex'.1 R'.sub), nx (.pu (.list dacc)) _ _ _ H' (ex1.trans (ex'.trans exf)) Rf (show Dn X.K et _ _ (.list dacc) from .lst upd_same (dacc'.up exf.1)) (G.weak F' _ _ exf ok)⟩
theorem de_lc {k : Nat} {tg iter elt : Expr} {ifs : List Expr} {scope : Scope} {pos : Pos} {own : List (Str × Nat)} {is : List Nat} {fi : Sg → Rs Sg (List PyData)} {t : PyData → Sg → Option Sg} {test : Sg → Rs Sg Bool} {fe : Sg → Rs Sg DV} (C : Here X k W) (ok : BlkOk X.N X.env.scope scope own) (hi : DI X et W tg iter fi) (K : Blk X et scope is tg elt ifs t test fe)
    (hs : ∀ i ∈ is, i ∈ own.map (·.2) := by decide) (hc : X.calm = true := by rfl) (hf : ∀ x, foldedSetIterable iter X.env x = pure x := by intro _; rfl) : DE X et W (.ListComp elt [⟨tg, iter, ifs, 0⟩] scope pos) (mLc (own.map (·.2)) fi t test fe) := fun am B F g σ H Q R hq => by
  rw [← rs_bind_ok (x := mLc (own.map (·.2)) fi t test fe g)] at hq
  exact w_of (pe_lc hc C.nd pi_w ok (fun s H0 C cl fp => ⟨fun pins s' σ' H' v u Q' I r h => (h s H0 C cl fp).run pins s' u I r⟩)
    (fun s H0 C cl fp => ⟨fun pins s' σ' H' Q' I h => by obtain ⟨t, p, q⟩ := h s H0 C cl fp; exact p.run pins s' σ' H' Q' I q⟩)
    (fun s H0 C cl fp => ⟨fun pins s' σ' H' Q' I h => (h s H0 C cl fp).run pins s' I⟩) hf)
    (lc_read hi K hs (goodV (Q := Q)) R hq fun d g' v F' H' ex R' dn hq' => hq' v F' H' Ext.refl R' dn)
theorem ds_setLc {k i : Nat} {y : Str} {tg iter elt : Expr} {ifs : List Expr} {scope : Scope} {pos spos py : Pos} {own : List (Str × Nat)} {is : List Nat} {fi : Sg → Rs Sg (List PyData)} {t : PyData → Sg → Option Sg} {test : Sg → Rs Sg Bool} {fe : Sg → Rs Sg DV} (C : Here X k W) (ok : BlkOk X.N X.env.scope scope own) (hi : DI X et W tg iter fi) (K : Blk X et scope is tg elt ifs t test fe)
    (hy : X.N[i]? = some y := by rfl) (hyl : X.env.scope.names.lookup y = some .local := by rfl) (hsw : swapsWith (.ListComp elt [⟨tg, iter, ifs, 0⟩] scope pos) (some (.Name y py)) spos.line X.env = pure true := by exact sw_true rfl rfl rfl (by decide +kernel))
    (hs : ∀ i ∈ is, i ∈ own.map (·.2) := by decide) (hc : X.calm = true := by rfl) (hf : ∀ x, foldedSetIterable iter X.env x = pure x := by intro _; rfl) : DS X et W (.Assign [.Name y py] (.ListComp elt [⟨tg, iter, ifs, 0⟩] scope pos) spos) (mSet i (mLc (own.map (·.2)) fi t test fe)) := fun am B F g σ H D R hq =>
  ws_of (ps_setLc hc C.nd hy hyl hsw pi_w ok (fun s H0 C cl fp => ⟨fun pins s' σ' H' v u Q' I r h => (h s H0 C cl fp).run pins s' u I r⟩)
    (fun s H0 C cl fp => ⟨fun pins s' σ' H' Q' I h => by obtain ⟨t, p, q⟩ := h s H0 C cl fp; exact p.run pins s' σ' H' Q' I q⟩)
    (fun s H0 C cl fp => ⟨fun pins s' σ' H' Q' I h => (h s H0 C cl fp).run pins s' I⟩) hf)
    (lc_read hi K hs (goodF (D := D)) R hq fun d g' v F' H' ex R' dn hq' => hq' _ F' H' Ext.refl (R'.put i dn))
/-- within a block -/
theorem Here.blk {k : Nat} (C : Here X k W) (s : Shared) (H0 : Hp) (scope : Scope) (ce : Env) (fp : List Addr) : Here (X.blk s H0 scope ce fp) k W0 := ⟨C.hr, C.hg, takes0, PassesOwn.never, C.nd⟩
end
end DL
set_option Elab.async false
set_option linter.all false
set_option maxRecDepth 100000
set_option maxHeartbeats 4000000
set_option autoImplicit false
namespace DL
open PySem PySem.Spec L2
open PyProof.Rows hiding St
section
variable {X : Cx} {et : ET} {W : WX}
theorem k_lc : ¬ ((Sum.inr ("cells" : Str) : Key) = Sum.inr ("left" : Str)) := fun z => absurd (Sum.inr.inj z) (by decide +kernel)
theorem k_sc : ¬ ((Sum.inr ("cells" : Str) : Key) = Sum.inr ("spot" : Str)) := fun z => absurd (Sum.inr.inj z) (by decide +kernel)
theorem k_sl : ¬ ((Sum.inr ("left" : Str) : Key) = Sum.inr ("spot" : Str)) := fun z => absurd (Sum.inr.inj z) (by decide +kernel)
theorem k_ls : ¬ ((Sum.inr ("spot" : Str) : Key) = Sum.inr ("left" : Str)) := fun z => absurd (Sum.inr.inj z) (by decide +kernel)
theorem k_zl : ¬ ((Sum.inr ("seed" : Str) : Key) = Sum.inr ("left" : Str)) := fun z => absurd (Sum.inr.inj z) (by decide +kernel)
theorem k_lcl : ¬ ((Sum.inr ("left" : Str) : Key) = Sum.inr ("cells" : Str)) := fun z => absurd (Sum.inr.inj z) (by decide +kernel)
theorem k_zc : ¬ ((Sum.inr ("seed" : Str) : Key) = Sum.inr ("cells" : Str)) := fun z => absurd (Sum.inr.inj z) (by decide +kernel)
theorem k_zs : ¬ ((Sum.inr ("seed" : Str) : Key) = Sum.inr ("spot" : Str)) := fun z => absurd (Sum.inr.inj z) (by decide +kernel)
theorem mkvs_t {ac : Addr} {s : MS} (h : s.two = true) : mkvs ac s = [(.inr "left", .int s.left), (.inr "seed", .int s.seed), (.inr "cells", .ref ac), (.inr "spot", .int s.spot)] := if_pos h
theorem mkvs_f {ac : Addr} {s : MS} (h : s.two = false) : mkvs ac s = [(.inr "cells", .ref ac), (.inr "left", .int s.left), (.inr "spot", .int s.spot)] := if_neg (by rw [h]; exact Bool.false_ne_true)
theorem mkvs_len (ac : Addr) (s : MS) : (mkvs ac s).length < sizeLine := by
  rw [sizeLine_eq]
  cases h : s.two with
  | true => rw [mkvs_t h]; show 4 < 16777216; decide
  | false => rw [mkvs_f h]; show 3 < 16777216; decide
theorem v_cells (ac : Addr) (s : MS) : valV (mkvs ac s) (.inr "cells") = some (.ref ac) := by
  cases h : s.two with
  | true => rw [mkvs_t h]; exact (valV_neg k_lcl).trans ((valV_neg k_zc).trans (valV_pos rfl))
  | false => rw [mkvs_f h]; exact valV_pos rfl
theorem v_left (ac : Addr) (s : MS) : valV (mkvs ac s) (.inr "left") = some (.int s.left) := by
  cases h : s.two with
  | true => rw [mkvs_t h]; exact valV_pos rfl
  | false => rw [mkvs_f h]; exact (valV_neg k_lc).trans (valV_pos rfl)
theorem v_spot (ac : Addr) (s : MS) : valV (mkvs ac s) (.inr "spot") = some (.int s.spot) := by
  cases h : s.two with
  | true => rw [mkvs_t h]; exact (valV_neg k_sl).trans ((valV_neg k_zs).trans ((valV_neg k_sc).trans (valV_pos rfl)))
  | false => rw [mkvs_f h]; exact (valV_neg k_sc).trans ((valV_neg k_sl).trans (valV_pos rfl))
theorem p_left (ac : Addr) (s : MS) (i : Int) : putK (mkvs ac s) (.inr "left") (.int i) = mkvs ac { s with left := i } := by
  unfold putK
  rw [valV_any, v_left, Option.isSome_some, if_pos rfl]
  cases h : s.two with
  | true =>
    rw [mkvs_t h, mkvs_t (s := { cells := s.cells, left := i, spot := s.spot, seed := s.seed, two := true, files := s.files }) rfl]
    simp only [List.map_cons, List.map_nil, if_neg k_lc, if_neg k_ls, if_neg k_zl, if_true]
  | false =>
    rw [mkvs_f h, mkvs_f (s := { cells := s.cells, left := i, spot := s.spot, seed := s.seed, two := false, files := s.files }) rfl]
    simp only [List.map_cons, List.map_nil, if_neg k_lc, if_neg k_ls, if_true]
theorem p_spot (ac : Addr) (s : MS) (i : Int) : putK (mkvs ac s) (.inr "spot") (.int i) = mkvs ac { s with spot := i } := by
  unfold putK
  rw [valV_any, v_spot, Option.isSome_some, if_pos rfl]
  cases h : s.two with
  | true =>
    rw [mkvs_t h, mkvs_t (s := { cells := s.cells, left := s.left, spot := i, seed := s.seed, two := true, files := s.files }) rfl]
    simp only [List.map_cons, List.map_nil, if_neg k_sc, if_neg k_sl, if_neg k_zs, if_true]
  | false =>
    rw [mkvs_f h, mkvs_f (s := { cells := s.cells, left := s.left, spot := i, seed := s.seed, two := false, files := s.files }) rfl]
    simp only [List.map_cons, List.map_nil, if_neg k_sc, if_neg k_sl, if_true]
def isM (g : Sg) (i : Nat) : Bool := match g.r[i]? with
  | some (some .m) => true
  | _ => false
def mMget (i : Nat) (f : MS → PyData) (g : Sg) : Rs Sg DV := if isM g i then .ok (.pu (f g.s)) g else .no
theorem isM_of {g : Sg} {i : Nat} (h : isM g i = true) : g.r[i]? = some (some .m) := by
  unfold isM at h
  split at h
  · assumption
  · cases h
theorem de_mget {k : Nat} (i : Nat) (key : Str) (f : MS → PyData) {x : Str} {np kp pos : Pos} {kj : Nat} (C : Here X k W) (hk : ∀ (K : PySem.W.Frag) (am : Addr) (F H : Hp) (s : MS), MRel K et am F H s → ∃ v, DGet H am (.str key) (some v) ∧ Dn K et F v (f s))
    (hN : X.N[i]? = some x := by rfl) (hv : Vis X.env.scope x := by first | exact Or.inl rfl | exact Or.inr (Or.inl rfl) | exact Or.inr (Or.inr rfl)) (hd : (x == ("__debug__" : Str)) = false := by decide) (hcd : (x == ("__classdict__" : Str)) = false := by decide) :
    DE X et W (.Subscript (.Name x np) (.Constant (.str key) kj kp) pos) (mMget i f) := fun am B F g σ H Q R hq => by
  unfold mMget at hq
  split at hq
  · rename_i h
    obtain ⟨v, e1, e2⟩ := R.slot i _ (isM_of h)
    obtain ⟨w, hw, dw⟩ := hk X.K am F H g.s R.ms
    exact w_of (pe_dget (hu_of C.hr) (pe_var hN hv hd hcd) pe_str (fun _ _ => rfl)) ⟨v, e1, am, w, e2, hw, hq w F H Ext.refl R dw⟩
  · exact hq.elim
def dCells (s : MS) : PyData := .list (s.cells.map .int)
def dLeft (s : MS) : PyData := .int s.left
def dSpot (s : MS) : PyData := .int s.spot
theorem hk_cells : ∀ (K : PySem.W.Frag) (am : Addr) (F H : Hp) (s : MS), MRel K et am F H s → ∃ v, DGet H am (.str "cells") (some v) ∧ Dn K et F v (dCells s) := fun K am F H s ⟨ac, e, d⟩ =>
  ⟨.ref ac, by rw [← v_cells ac s]; exact DGet.k (k := .inr "cells") e, d.1⟩
theorem hk_left : ∀ (K : PySem.W.Frag) (am : Addr) (F H : Hp) (s : MS), MRel K et am F H s → ∃ v, DGet H am (.str "left") (some v) ∧ Dn K et F v (dLeft s) := fun K am F H s ⟨ac, e, d⟩ =>
  ⟨.int s.left, by rw [← v_left ac s]; exact DGet.k (k := .inr "left") e, .int _⟩
theorem hk_spot : ∀ (K : PySem.W.Frag) (am : Addr) (F H : Hp) (s : MS), MRel K et am F H s → ∃ v, DGet H am (.str "spot") (some v) ∧ Dn K et F v (dSpot s) := fun K am F H s ⟨ac, e, d⟩ =>
  ⟨.int s.spot, by rw [← v_spot ac s]; exact DGet.k (k := .inr "spot") e, .int _⟩
def mMset (i : Nat) (f : MS → Int → MS) (fe : Sg → Rs Sg DV) (g : Sg) : Rs Sg Fl := (fe g).bind fun d g1 => match d with
  | .pu (.int n) => if isM g1 i then .ok .nx { g1 with s := f g1.s n } else .no
  | _ => .no
theorem RepF.setM {K : PySem.W.Frag} {et : ET} {am : Addr} {B F : Hp} {g : Sg} {σ : St} {H : Hp} (R : RepF K et am B F g σ H) {o : HO} {s' : MS} (ms : MRel K et am F (upd H am o) s') : RepF K et am B F { g with s := s' } σ (upd H am o) := by
  obtain ⟨ac, em, _⟩ := R.ms
  refine ⟨fun a u e => by rw [upd_ne (ne_of_none e R.fam.am)]; exact R.sub a u e, ⟨R.fam.am, Tabs.put R.fam.tabs em (fun _ z => by cases z) dK_code _, R.fam.off⟩, fun a u e na => (R.base a u e na).ne na.1, R.len, fun i x e => ?_, R.inj, ms⟩
  obtain ⟨v, e1, e2⟩ := R.slot i x e
  exact ⟨v, e1, e2.keep Same.rfl' fun a u _ _ fa ba na ha ow => ⟨fa, ba, by rw [upd_ne na]; exact ha⟩⟩
theorem ds_mset {k : Nat} (i : Nat) (key : Str) (f : MS → Int → MS) {e : Expr} {x : Str} {np kp pos' pos : Pos} {kj : Nat} {fe : Sg → Rs Sg DV} (C : Here X k W) (hk : ∀ (K : PySem.W.Frag) (am : Addr) (F H : Hp) (s : MS) (n : Int), MRel K et am F H s → ∃ o, DPut H am (.str key) (.int n) (upd H am o) ∧ MRel K et am F (upd H am o) (f s n))
    (h : DE X et W e fe) (hN : X.N[i]? = some x := by rfl) (hv : Vis X.env.scope x := by first | exact Or.inl rfl | exact Or.inr (Or.inl rfl) | exact Or.inr (Or.inr rfl)) (hd : (x == ("__debug__" : Str)) = false := by decide) (hcd : (x == ("__classdict__" : Str)) = false := by decide)
    (hs : swapsWith e (some (.Subscript (.Name x np) (.Constant (.str key) kj kp) pos')) pos.line X.env = pure false := by rfl) :
    DS X et W (.Assign [.Subscript (.Name x np) (.Constant (.str key) kj kp) pos'] e pos) (mMset i f fe) := fun am B F g σ H D R hq => by
  refine ws_of (ps_dput (hu_of C.hr) (pe_var hN hv hd hcd) pe_str pe_w hs) (h.then (goodF (D := D)) R hq fun d g1 v F1 H1 ex1 R1 dn1 hq1 => ?_)
  split at hq1
  · rename_i n
    split at hq1
    · rename_i hm
      obtain ⟨w, e1, e2⟩ := R1.slot i _ (isM_of hm)
      obtain ⟨o, hp, mr⟩ := hk X.K am F1 H1 g1.s n R1.ms
      rw [Dn.int_of dn1]
      exact ⟨w, e1, am, _, e2, hp, hq1 σ F1 _ Ext.refl (R1.setM mr)⟩
    · exact hq1.elim
  · exact hq1.elim
theorem hs_left : ∀ (K : PySem.W.Frag) (am : Addr) (F H : Hp) (s : MS) (n : Int), MRel K et am F H s → ∃ o, DPut H am (.str "left") (.int n) (upd H am o) ∧ MRel K et am F (upd H am o) { s with left := n } := fun K am F H s n ⟨ac, e, d⟩ =>
  ⟨.dK (mkvs ac { s with left := n }), by rw [← p_left ac s n]; exact DPut.k (k := .inr "left") e (mkvs_len ac s), ac, upd_same, d.1, d.2.setM e rfl⟩
theorem hs_spot : ∀ (K : PySem.W.Frag) (am : Addr) (F H : Hp) (s : MS) (n : Int), MRel K et am F H s → ∃ o, DPut H am (.str "spot") (.int n) (upd H am o) ∧ MRel K et am F (upd H am o) { s with spot := n } := fun K am F H s n ⟨ac, e, d⟩ =>
  ⟨.dK (mkvs ac { s with spot := n }), by rw [← p_spot ac s n]; exact DPut.k (k := .inr "spot") e (mkvs_len ac s), ac, upd_same, d.1, d.2.setM e rfl⟩
theorem de_gint {x : Str} {i : Int} {pos : Pos} (h : ∃ t, X.mg x = some (.int i t)) (hg : Gl X x := by rfl) (hd : (x == ("__debug__" : Str)) = false := by decide) : DE X et W (.Name x pos) (mC (.int i)) := by
  obtain ⟨t, hc⟩ := h
  exact de_glob (v := .int i) hg hc ⟨_, rfl⟩ (fun _ => .int _) hd
def mAsg (f : Sg → Rs Sg DV) (t : PyData → Sg → Option Sg) (g : Sg) : Rs Sg Fl := (f g).bind fun d g1 => match d with
  | .pu a => (Rs.of (t a g1) g1).bind fun g2 _ => .ok .nx g2
  | _ => .no
theorem ds_asg {tg e : Expr} {pos : Pos} {is : List Nat} {f : Sg → Rs Sg DV} {t : PyData → Sg → Option Sg} (h : DE X et W e f) (hg : DG X is tg t) (hs : swapsWithSole [tg] e pos.line X.env = pure false := by rfl) (hw : swappedStores [tg] e X.env = pure none := by rfl)
    (h1 : (assignEach [tg] X.env).map (·.2) = [assign tg X.env] := by rfl) : DS X et W (.Assign [tg] e pos) (mAsg f t) := fun am B F g σ H D R hq => by
  refine ws_of (ps_asg pe_w pg_w hs hw h1) (h.then (goodF (D := D)) R hq fun d g1 v F1 H1 ex1 R1 dn1 hq1 => ?_)
  cases d with
  | own _ => exact hq1.elim
  | m => exact hq1.elim
  | scr _ => exact hq1.elim
  | clo _ => exact hq1.elim
  | exc _ _ => exact hq1.elim
  | dic _ => exact hq1.elim
  | dki _ => exact hq1.elim
  | pu a =>
    have hq1 : OkF X.K et W am B F1 D ((Rs.of (t a g1) g1).bind fun g2 _ => .ok .nx g2) := hq1
    cases q : t a g1 with
    | none => rw [q] at hq1; exact hq1.elim
    | some g2 =>
      rw [q] at hq1
      exact hg et am B F1 g1 σ H1 v a g2 _ R1 dn1 q fun σ' _ R' => hq1 σ' F1 H1 Ext.refl R'
end
end DL
set_option Elab.async false
set_option linter.all false
set_option maxRecDepth 100000
set_option maxHeartbeats 4000000
set_option autoImplicit false
namespace DL
open PySem PySem.Spec L2
open PyProof.Rows hiding St
def bigs (ns : List Int) : List Int := ns.filter fun n => decide (1000000000000000000 ≤ n)
def leftOf (ns : List Int) : Int := (bigs ns).headD 0
def cellsOf (ns : List Int) : List Int := ns ++ [(ns.length : Int)]
def ms0 (ns : List Int) : MS := ⟨cellsOf ns, leftOf ns, 0, 0, false, []⟩
def spBegun (K : PySem.W.Frag) : Sp := fun vs H Q _ => ∃ (a : Addr) (ns : List Int), vs = [.ref a] ∧ SqL K H a (ns.map V.int) ∧ ns.length ≤ 63 ∧
  ∀ (p ac : Addr) (H' : Hp), Same H H' → H p = none → p ≠ ac → H' p = some (.dK (mkvs ac (ms0 ns))) → H' ac = some (.lst ((cellsOf ns).map V.int)) → Q (.ref p) H'
theorem merge3 (ac : Addr) (s : MS) (h0 : s.two = false) : mergeK [] [((.inr "cells" : Key), V.ref ac), (.inr "left", .int s.left), (.inr "spot", .int s.spot)] = mkvs ac s := by
  have h1 : putK [] (.inr "cells" : Key) (V.ref ac) = [((.inr "cells" : Key), V.ref ac)] := by
    unfold putK
    rw [valV_any, valV_nil]
    rfl
  have h2 : putK [((.inr "cells" : Key), V.ref ac)] (.inr "left") (.int s.left) = [((.inr "cells" : Key), V.ref ac), (.inr "left", .int s.left)] := by
    unfold putK
    rw [valV_any, valV_neg k_lc, valV_nil]
    rfl
  have h3 : putK [((.inr "cells" : Key), V.ref ac), (.inr "left", .int s.left)] (.inr "spot") (.int s.spot) = mkvs ac s := by
    unfold putK
    rw [valV_any, valV_neg k_sc, valV_neg k_sl, valV_nil, mkvs_f h0]
    rfl
  show putK (putK (putK [] (.inr "cells" : Key) (V.ref ac)) (.inr "left") (.int s.left)) (.inr "spot") (.int s.spot) = _
  rw [h1, h2, h3]
theorem bigs_snoc {ns : List Int} {i : Nat} {z : Int} (h : ns[i]? = some z) : bigs (ns.take (i + 1)) = bigs (ns.take i) ++ (if 1000000000000000000 ≤ z then [z] else []) := by
  have hi := (List.getElem?_eq_some_iff.mp h).1
  have e := (List.getElem?_eq_some_iff.mp h).2
  unfold bigs
  rw [List.take_succ, h, List.filter_append]
  congr 1
  by_cases c : (1000000000000000000 : Int) ≤ z
  · simp [c]
  · simp [c]
theorem eqv_ints_nil (l : List Int) : PyData.eqv (.list (l.map .int)) (.list []) = l.isEmpty := by cases l <;> simp [PyData.eqv, PyData.eqvAll]
theorem dpAll_ints {K : PySem.W.Frag} {H : Hp} : ∀ l : List Int, DpAll K H (l.map V.int) (l.map .int)
  | [] => .nil
  | i :: r => .cons (.int i) (dpAll_ints r)
theorem canLay_ints : ∀ l : List Int, PyData.canLayAll0 (l.map .int) = true
  | [] => rfl
  | i :: r => by simp [PyData.canLayAll0, PyData.canLay0, canLay_ints r]
theorem depth_ints : ∀ l : List Int, PyData.depthAll (l.map .int) = 0
  | [] => rfl
  | i :: r => by simp [PyData.depthAll, PyData.depth, depth_ints r]
theorem shaped_ints (l : List Int) : SeqAt.shaped (.list (l.map .int)) = true := by
  unfold SeqAt.shaped
  simp [PyData.canLay0, canLay_ints, PyData.depth, depth_ints]
/-- what the two statements of _law_begun read as -/
theorem begun_read {K : PySem.W.Frag} {H : Hp} {Q : VK} {a : Addr} {ns : List Int} (hS : SqL K H a (ns.map V.int)) (hl : ns.length ≤ 63)
    (k : ∀ (p ac : Addr) (H' : Hp), Same H H' → H p = none → p ≠ ac → H' p = some (.dK (mkvs ac (ms0 ns))) → H' ac = some (.lst ((cellsOf ns).map V.int)) → Q (.ref p) H') :
    tSeq (tAsg (tLc (iList K (tVar 0)) (gName 2) (tTest (tOp (rI0 fun i j => .bl (decide (j ≤ i))) (tVar 2) (tOp (rI CPow fun i j => .int (i ^ j.toNat)) (tC (.int 10)) (tC (.int 18))))) (tVar 2) [2]) (gName 1))
      (tRet (tDisp [(tC (.str "cells"), tOp rCat (tCB (fun xs H Q => ∃ p ys, xs = [.ref p] ∧ (SqL K H p ys ∨ SqT K H p ys) ∧ ∀ l, H l = none → Q (.ref l) (upd H l (.lst ys))) (tCons (tVar 0) tNil)) (tLst (tCons (tCB (fun xs H Q => ∃ x n, xs = [x] ∧ LenV K x H n ∧ Q (.int n) H) (tCons (tVar 0) tNil)) tNil))),
        (tC (.str "left"), tIf (tTest (tOp (rNeD K) (tVar 1) (tLst tNil))) (tOp (rIxL K) (tVar 1) (tC (.int 0))) (tC (.int 0))), (tC (.str "spot"), tC (.int 0))]))
      { nx := fun _ H' => Q .non H', rt := Q } [some (.ref a), none, none] H := by
  refine ⟨_, rfl, a, rfl, ⟨_, hS⟩, fun D hD => lc_list (K := K) (a := a) (xs := ns.map V.int) (fun i H' => Same H H' ∧ H' D = some (.lst ((bigs (ns.take i)).map V.int))) ⟨fun b o e => by rw [upd_ne (ne_of_none e hD)]; exact e, upd_same⟩
    (fun i H' _ ⟨s, _⟩ => SqL.mono s hS) ?_ ?_⟩
  · rintro i x H' hi ⟨s, e⟩
    obtain ⟨z, hz, rfl⟩ : ∃ z, ns[i]? = some z ∧ x = V.int z := by
      rw [List.getElem?_map] at hi
      cases q : ns[i]? with
      | none => rw [q] at hi; cases hi
      | some z => rw [q] at hi; exact ⟨z, rfl, (Option.some.inj hi).symm⟩
    have lt : (bigs (ns.take i)).length ≤ 63 := Nat.le_trans (List.length_filter_le _ _) (Nat.le_trans (List.length_take_le _ _) (by
      have := (List.getElem?_eq_some_iff.mp hz).1
      omega))
    refine ⟨rfl, _, rfl, 10, 18, rfl, rfl, ⟨by decide, by decide, by decide⟩, z, _, rfl, rfl, _, rfl, ?_⟩
    by_cases c : (10 : Int) ^ (18 : Int).toNat ≤ z
    · have c' : (1000000000000000000 : Int) ≤ z := c
      refine (show (if decide ((10 : Int) ^ (18 : Int).toNat ≤ z) = true then _ else _) from ?_)
      rw [if_pos (decide_eq_true c)]
      refine ⟨_, rfl, _, e, by rw [List.length_map, sizeLine_eq]; omega, fun b o q => ?_, ?_⟩
      · rw [upd_ne (ne_of_none q hD)]
        exact s b o q
      · rw [upd_same, bigs_snoc hz, if_pos c', List.map_append]
        rfl
    · have c' : ¬ (1000000000000000000 : Int) ≤ z := c
      refine (show (if decide ((10 : Int) ^ (18 : Int).toNat ≤ z) = true then _ else _) from ?_)
      rw [if_neg (by simpa using c)]
      refine ⟨s, ?_⟩
      rw [e, bigs_snoc hz, if_neg c', List.append_nil]
  · rintro H1 ⟨s1, e1⟩
    rw [List.length_map, List.take_length] at e1
    intro p hp
    have hDp : D ≠ p := ne_of_none e1 hp
    refine ⟨_, rfl, a, _, rfl, .inl (SqL.mono (fun b o e => by rw [upd_ne (ne_of_none (s1 b o e) hp)]; exact s1 b o e) hS), fun l hl' => ?_⟩
    have hl1 : H1 l = none ∧ l ≠ p := by
      by_cases q : l = p
      · rw [q, upd_same] at hl'; cases hl'
      · rw [upd_ne q] at hl'; exact ⟨hl', q⟩
    refine ⟨_, rfl, _, (ns.map V.int).length, rfl, .inl ⟨_, SqL.mono (fun b o e => ?_) hS, rfl⟩, ?_⟩
    · rw [upd_ne (ne_of_none (s1 b o e) hl1.1), upd_ne (ne_of_none (s1 b o e) hp)]
      exact s1 b o e
    refine ⟨by show 1 ≤ sizeLine; rw [sizeLine_eq]; decide, fun r hr => ?_⟩
    have hr1 : H1 r = none ∧ r ≠ p ∧ r ≠ l := by
      by_cases q : r = l
      · rw [q, upd_same] at hr; cases hr
      · rw [upd_ne q] at hr
        by_cases q2 : r = p
        · rw [q2, upd_same] at hr; cases hr
        · rw [upd_ne q2] at hr; exact ⟨hr, q2, q⟩
    refine ⟨l, r, _, _, rfl, rfl, by rw [upd_ne (Ne.symm hr1.2.2), upd_same], upd_same, by rw [List.length_map, sizeLine_eq]; show ns.length + 1 ≤ _; omega, fun ac hac => ?_⟩
    have hac1 : H1 ac = none ∧ ac ≠ p := by
      by_cases q : ac = r
      · rw [q, upd_same] at hac; cases hac
      · rw [upd_ne q] at hac
        by_cases q2 : ac = l
        · rw [q2, upd_same] at hac; cases hac
        · rw [upd_ne q2] at hac
          by_cases q3 : ac = p
          · rw [q3, upd_same] at hac; cases hac
          · rw [upd_ne q3] at hac; exact ⟨hac, q3⟩
    -- the left part
    have fin : ∀ (H2 : Hp), Same H1 H2 → H2 p = some (.dK []) → H2 ac = some (.lst ((cellsOf ns).map V.int)) → (H2 p = some (.dK []) ∧ ∃ kvs : List (Key × V), ([(V.str "cells", V.ref ac), (V.str "left", V.int (leftOf ns)), (V.str "spot", V.int 0)] : List (V × V)) = kvs.map (fun kv => (kV kv.1, kv.2)) ∧ kvs.length ≤ 15 ∧ Q (.ref p) (upd H2 p (.dK (mergeK [] kvs)))) := fun H2 s2 e2 e3 => by
      refine ⟨e2, [((.inr "cells" : Key), V.ref ac), (.inr "left", .int (leftOf ns)), (.inr "spot", .int 0)], rfl, by show 3 ≤ 15; decide, ?_⟩
      have em : mergeK [] [((.inr "cells" : Key), V.ref ac), (.inr "left", .int (leftOf ns)), (.inr "spot", .int 0)] = mkvs ac (ms0 ns) := merge3 ac (ms0 ns) rfl
      rw [em]
      refine k p ac _ (fun b o e => ?_) ?_ (Ne.symm hac1.2) upd_same (by rw [upd_ne hac1.2]; exact e3)
      · rw [upd_ne (ne_of_none (s1 b o e) hp)]
        exact s2 _ _ (s1 b o e)
      · cases q : H p with
        | none => rfl
        | some u => rw [s1 p u q] at hp; cases hp
    have sm : Same H1 (upd (upd (upd (upd H1 p (.dK [])) l (.lst (ns.map V.int))) r (.lst [V.int ((ns.map V.int).length : Nat)])) ac (.lst (ns.map V.int ++ [V.int ((ns.map V.int).length : Nat)]))) := fun b o e => by
      rw [upd_ne (ne_of_none e hac1.1), upd_ne (ne_of_none e hr1.1), upd_ne (ne_of_none e hl1.1), upd_ne (ne_of_none e hp)]
      exact e
    have ec : (ns.map V.int ++ [V.int ((ns.map V.int).length : Nat)]) = (cellsOf ns).map V.int := by
      unfold cellsOf
      rw [List.map_append, List.length_map]
      rfl
    refine ⟨_, rfl, Nat.zero_le _, fun t ht => ?_⟩
    have ht1 : Same (upd (upd (upd (upd H1 p (.dK [])) l (.lst (ns.map V.int))) r (.lst [V.int ((ns.map V.int).length : Nat)])) ac (.lst (ns.map V.int ++ [V.int ((ns.map V.int).length : Nat)]))) (upd (upd (upd (upd (upd H1 p (.dK [])) l (.lst (ns.map V.int))) r (.lst [V.int ((ns.map V.int).length : Nat)])) ac (.lst (ns.map V.int ++ [V.int ((ns.map V.int).length : Nat)]))) t (.lst [])) := fun b o e => by
      rw [upd_ne (ne_of_none e ht)]
      exact e
    have hD2 := ht1 _ _ (sm _ _ e1)
    have hp2 : (upd (upd (upd (upd (upd H1 p (.dK [])) l (.lst (ns.map V.int))) r (.lst [V.int ((ns.map V.int).length : Nat)])) ac (.lst (ns.map V.int ++ [V.int ((ns.map V.int).length : Nat)]))) t (.lst [])) p = some (.dK []) := ht1 _ _ (by rw [upd_ne (Ne.symm hac1.2), upd_ne (Ne.symm hr1.2.1), upd_ne (Ne.symm hl1.2), upd_same])
    have hac2 : (upd (upd (upd (upd (upd H1 p (.dK [])) l (.lst (ns.map V.int))) r (.lst [V.int ((ns.map V.int).length : Nat)])) ac (.lst (ns.map V.int ++ [V.int ((ns.map V.int).length : Nat)]))) t (.lst [])) ac = some (.lst ((cellsOf ns).map V.int)) := ht1 _ _ (by rw [upd_same, ec])
    refine ⟨.list ((bigs ns).map .int), .list [], .lst (SqL.of hD2) (dpAll_ints _), .lst (SqL.of upd_same) .nil, shaped_ints _, rfl, _, rfl, ?_⟩
    refine (show (if (!PyData.eqv (.list ((bigs ns).map .int)) (.list [])) = true then _ else _) from ?_)
    rw [eqv_ints_nil]
    cases qb : bigs ns with
    | nil =>
      refine (show (if (!([] : List Int).isEmpty) = true then _ else _) from ?_)
      rw [if_neg (by decide)]
      have el : leftOf ns = 0 := by unfold leftOf; rw [qb]; rfl
      have := fin _ (Same.tr sm ht1) hp2 hac2
      rw [el] at this
      exact this
    | cons z zs =>
      refine (show (if (!(z :: zs : List Int).isEmpty) = true then _ else _) from ?_)
      rw [if_pos (show (!(z :: zs : List Int).isEmpty) = true from rfl)]
      have el : leftOf ns = z := by unfold leftOf; rw [qb]; rfl
      rw [qb] at hD2
      refine ⟨_, rfl, D, _, 0, .int z, rfl, rfl, SqL.of hD2, atI_nat (j := 0) rfl, ?_⟩
      have := fin _ (Same.tr sm ht1) hp2 hac2
      rw [el] at this
      exact this
theorem pe_callG {X : Cx} {W : WX} {k j : Nat} {x : Str} {f : Addr} {fd : FuncData} {ps : List Str} {sp : Sp} {p pos : Pos} {e : Expr} {es : List Expr} {t : TA} (C : Here X k W) (G : FnG X.prog X.w X.K X.mg X.base j f fd ps sp) (hj : j ≤ k) (hm : X.mg x = some (.ref f)) (kp : PySem.W.keepIn X.K (.ref f) = true) (hb : Binds X.K fd ps []) (ha : PA X (e :: es) t)
    (hg : Gl X x := by rfl) (hdb : (x == ("__debug__" : Str)) = false := by decide) (he : starEach (e :: es) X.env = (false, eval e X.env) :: starEach es X.env := by exact star_ok rfl) (hpl : (backTo pos (starEach es X.env)).any (·.1) = false := by exact plain_ok rfl) :
    PE X (.Call (.Name x p) (e :: es) [] pos) (tCallS sp (WE W) t) := by
  refine ⟨fun pins s σ H Q I h => wpAny_Call_Name_kw (ld_glob I hg hm ?_ hdb)⟩
  refine PySem.W.callWith_K (h₀ := X.base) I.ok.mod.kin kp (thn (ha.run pos pins s σ H _ I h) fun us s1 hh => ?_) he hpl
  obtain ⟨vs, H1, I1, r, q⟩ := hh
  refine ⟨I1.kIn, ?_⟩
  have hl : us.length = ps.length := by rw [← r.length]; exact G.len _ _ _ _ q
  have b := hb s1 us I1.kIn (by rw [List.append_nil]; exact hl)
  rw [List.append_nil] at b
  refine wpAny_call (codeAny_mono (G.run X.A X.stack s1 H1 ⟨us, []⟩ us vs Q (WE W σ) (C.hr.mono hj) C.hg I1.env0 b r q) fun rr s' hq => ?_)
  match rr, hq with
  | .error e, hq => exact passAt C.tk σ pins H1 s1 e s' I1 hq
  | .ok (.ret u), hq => exact I1.after hq
  | .ok .next, hq => exact hq.elim
  | .ok .brk, hq => exact hq.elim
  | .ok .cont, hq => exact hq.elim
def isFO : Option HO → Bool
  | some (.frz _ (.own _)) => true
  | _ => false
def cutH (T : List (Addr × Str)) (H : Hp) (p : Addr) : Hp := fun b => if b = p ∨ b ∈ T.map (·.1) ∨ isFO (H b) = true then none else H b
theorem cutH_ne {T : List (Addr × Str)} {H : Hp} {p b : Addr} (h : b ≠ p) (h2 : ∀ t ∈ T, b ≠ t.1) (h3 : isFO (H b) = false) : cutH T H p b = H b := if_neg fun z => by
  rcases z with z | z | z
  · exact h z
  · obtain ⟨t, ht, e⟩ := List.mem_map.mp z
    exact h2 t ht e.symm
  · rw [h3] at z; cases z
theorem cutH_self {T : List (Addr × Str)} {H : Hp} {p : Addr} : cutH T H p p = none := if_pos (.inl rfl)
theorem cutH_tab {T : List (Addr × Str)} {H : Hp} {p : Addr} {t : Addr × Str} (h : t ∈ T) : cutH T H p t.1 = none := if_pos (.inr (.inl (List.mem_map.mpr ⟨t, h, rfl⟩)))
theorem cutH_of {T : List (Addr × Str)} {H : Hp} {p b : Addr} {u : HO} (e : cutH T H p b = some u) : H b = some u := by
  unfold cutH at e
  split at e
  · cases e
  · exact e
theorem cutH_no {T : List (Addr × Str)} {H : Hp} {p b : Addr} {K : PySem.W.Frag} {dx : Addr} {i : Nat} : cutH T H p b ≠ some (LkO K dx i) := fun e => by
  have h := cutH_of e
  unfold cutH at e
  rw [if_pos (.inr (.inr (by rw [h]; rfl)))] at e
  cases e
theorem FRel.cut {T : List (Addr × Str)} {H : Hp} {p : Addr} {K : PySem.W.Frag} {et : ET} {s : MS} : FRel K et (cutH T H p) H s := ⟨fun a dx i e => (cutH_no e).elim, fun a dx a' dx' i e => (cutH_no e).elim, fun a dx i a' i' e => (cutH_no e).elim⟩
def spLaw (K : PySem.W.Frag) (T : List (Addr × Str)) : Sp := fun vs H Q _ => ∃ (a : Addr) (ns : List Int), vs = [.ref a] ∧ SqL K H a (ns.map V.int) ∧ ns.length ≤ 63 ∧ (∀ p ∈ T, H p.1 = some (.tbl #[])) ∧ ∀ H', Q (.bl true) H'
end DL
set_option Elab.async false
set_option linter.all false
set_option maxRecDepth 100000
set_option maxHeartbeats 4000000
set_option autoImplicit false
namespace DL
open PySem PySem.Spec L2
open PyProof.Rows hiding St
abbrev TabL := List (Addr × Addr × Str)
def TabL.T (cs : TabL) : List (Addr × Str) := cs.map fun p => (p.2.1, p.2.2)
def tab0 : Obj := { cls := .none, data := .fields #[] }
/-- at most the script and the empty tables are tracked -/
structure OnlyA (K : PySem.W.Frag) (a : Addr) (cs : TabL) (H : Hp) : Prop where
  frz : ∀ b u, H b = some u → (b = a ∧ K.lookup a = none ∧ ∃ o xs, u = .frz o (.lst xs)) ∨ ∃ p ∈ cs, b = p.2.1 ∧ u = .tbl #[]
/-- what is known of the tables ahead of the law's call -/
structure TabF (K : PySem.W.Frag) (h : Heap) (cs : TabL) : Prop where
  tab : ∀ p ∈ cs, h.get? p.2.1 = some tab0
  off : ∀ p ∈ cs, K.lookup p.2.1 = none
  code : ∀ p ∈ cs, PySem.W.CodeHd h p.1 p.2.1
theorem OnlyA.unseen {K : PySem.W.Frag} {a b : Addr} {cs : TabL} {H : Hp} {h : Heap} {lo : Obj} {vs : Array Value} {o : Obj} (oa : OnlyA K a cs H) (tf : TabF K h cs) (ha : h.get? a = some lo) (hl : lo.data = .seq vs) (e : h.get? b = some o)
    (h1 : ∀ us n, o.data ≠ .seq us n) (h2 : o.data ≠ .fields #[]) : H b = none := by
  cases q : H b with
  | none => rfl
  | some u =>
    rcases oa.frz b u q with ⟨z, _⟩ | ⟨p, hp, z, _⟩
    · rw [z, ha] at e
      cases e
      exact absurd hl (h1 _ _)
    · rw [z, tf.tab p hp] at e
      cases e
      exact absurd rfl h2
theorem OnlyA.notK {K : PySem.W.Frag} {a b : Addr} {cs : TabL} {H : Hp} {h : Heap} (oa : OnlyA K a cs H) (tf : TabF K h cs) {o : Obj} (k : K.lookup b = some o) : H b = none := by
  cases q : H b with
  | none => rfl
  | some u =>
    rcases oa.frz b u q with ⟨z, n, _⟩ | ⟨p, hp, z, _⟩
    · rw [z, n] at k
      cases k
    · rw [z, tf.off p hp] at k
      cases k
/-- the ground under the law's call -/
theorem dl_env {P : Program} {w : World} {K : PySem.W.Frag} {mg mb : Str → Option Value} {a : Addr} {cs : TabL} {s : Shared} {vs : List Value} {H : Hp} (KX : K.In s.heap) (hns : s.heap.Ns mainGlobals mg) (hb : s.heap.Ns builtinsNs mb) (hbb : ∀ x : Str, x ≠ "__name__" → mb x = bootBuiltins x) (hlim : s.heap.NoLimit) (hg : s.gens = #[])
    (tf : TabF K s.heap cs) (bm : ∃ (m : Addr) (ob : Obj), mg "__builtins__" = some (.ref m) ∧ m ≠ builtinsNs ∧ s.heap.get? m = some ob ∧ ob.cls = .type "module" ∧ ob.dict = some builtinsNs ∧ ob.data = .plain)
    (ha : s.heap.get? a = some { cls := .type "list", data := .seq vs.toArray }) (oa : OnlyA K a cs H) (hok : HOk P w H s.heap) : Env0 P w K mg (hidT s.heap H) callerA [] s H ∧ K.In (hidT s.heap H) ∧ (hidT s.heap H).Ns mainGlobals mg ∧ ∀ p ∈ cs, LamX.TabB (hidT s.heap H) mg p.1 p.2.1 := by
  have inK : K.In (hidT s.heap H) := fun b o e => hidT_get (KX b o e) (oa.notK tf e)
  have dic : ∀ {b : Addr} {m : Str → Option Value}, s.heap.Ns b m → (hidT s.heap H).Ns b m := fun {b m} ⟨o, es, ep, e, d, r⟩ =>
    ⟨o, es, ep, hidT_get e (oa.unseen tf ha rfl e (fun us n z => by rw [d] at z; cases z) (fun z => by rw [d] at z; cases z)), d, r⟩
  have hlim' : (hidT s.heap H).NoLimit := by
    obtain ⟨mc, g1, g2⟩ := hlim
    exact ⟨mc, dic g1, g2⟩
  refine ⟨⟨rfl, ⟨inK, dic hns, ⟨mb, dic hb, hbb⟩, hlim'⟩, fun _ _ e => of_hidT e, Nat.le_of_eq (hidT_size _ _), True.intro, fun b z => (by cases z), hok, AllBare.of_eq hg⟩, inK, dic hns, fun p hp => ⟨?_, ?_, fun z => ?_⟩⟩
  · obtain ⟨o, us, file, tfl, fl, tg, inF, tx, tt, c1, c2, c3, c4, rest⟩ := tf.code p hp
    refine ⟨o, us, file, tfl, fl, tg, inF, tx, tt, hidT_get c1 (oa.unseen tf ha rfl c1 (fun x n z => by rw [c3] at z; cases z) (fun z => ?_)), c2, c3, c4, rest⟩
    rw [c3] at z
    cases z
    simp at c4
  · obtain ⟨m, ob, b1, b2, b3, b4, b5, b6⟩ := bm
    refine ⟨m, ob, b1, b2, fun z => ?_, fun z => ?_, hidT_get b3 (oa.unseen tf ha rfl b3 (fun x n z => by rw [b6] at z; cases z) (fun z => by rw [b6] at z; cases z)), b4, b5, b6⟩
    · obtain ⟨o, es, ep, q1, q2, _⟩ := hns
      rw [z, q1] at b3
      cases b3
      rw [q2] at b6
      cases b6
    · rw [z, tf.tab p hp] at b3
      cases b3
      cases b6
  · obtain ⟨o, es, ep, q1, q2, _⟩ := hns
    rw [z, tf.tab p hp] at q1
    cases q1
    cases q2
theorem dl_old {P : Program} {w : World} {K : PySem.W.Frag} {a : Addr} {cs : TabL} {s s' : Shared} {H H' : Hp} (oa : OnlyA K a cs H) (tf : TabF K s.heap cs) (ht : ∀ p ∈ cs, H p.2.1 = some (.tbl #[])) (hok : HOk P w H s.heap) (hok' : HOk P w H' s'.heap) (un : Un (frs []) [] H H' s.heap s'.heap) : OldK s.heap s'.heap := by
  have more : ∀ p ∈ cs, ∃ xs : Array Value, s'.heap.get? p.2.1 = some { cls := .none, data := .fields xs } := fun p hp => by
    obtain ⟨xs, z⟩ := un.tbls _ #[] (ht p hp)
    exact ⟨_, hok' _ _ z⟩
  have stay : ∀ b o, s.heap.get? b = some o → s'.heap.get? b = some o ∨ ∃ p ∈ cs, b = p.2.1 := fun b o e => by
    cases q : H b with
    | none => exact .inl (un.keep b o e q (fun z => (by cases z)) (fun z => (by cases z)))
    | some u =>
      rcases oa.frz b u q with ⟨_, _, ob, xs, rfl⟩ | ⟨p, hp, z, _⟩
      · have k1 := (hok b _ q).1
        have k2 := (hok' b _ (un.frzs b ob _ q)).1
        rw [e] at k1
        cases k1
        exact .inl k2
      · exact .inr ⟨p, hp, z⟩
  refine ⟨fun b o e => ?_, fun b o e => ?_⟩
  · rcases stay b o e with z | ⟨p, hp, rfl⟩
    · exact .inl z
    · obtain ⟨xs, hx⟩ := more p hp
      rw [tf.tab p hp] at e
      cases e
      exact .inr (.inl ⟨((tf.code p hp).tab (tf.tab p hp)).isCodeTable, rfl, #[], xs, rfl, by rw [Array.empty_append]; exact hx⟩)
  · rcases stay b o e with z | ⟨p, hp, rfl⟩
    · exact ⟨_, z⟩
    · obtain ⟨xs, hx⟩ := more p hp
      exact ⟨_, hx⟩
def atH (f : Option HO) (a : Addr) (ts : List Addr) : Hp := fun b => if b = a then f else if b ∈ ts then some (.tbl #[]) else none
theorem dl_law_run {P : Program} {w : World} {K : PySem.W.Frag} {mg mb : Str → Option Value} {k : Nat} {fa a : Addr} {cs : TabL} {fd : FuncData} {x : Str} {s : Shared} {vs : List Value} {ns : List Int}
    (KX : K.In s.heap) (hns : s.heap.Ns mainGlobals mg) (hb : s.heap.Ns builtinsNs mb) (hbb : ∀ x : Str, x ≠ "__name__" → mb x = bootBuiltins x) (hlim : s.heap.NoLimit) (hg : s.gens = #[])
    (tf : TabF K s.heap cs) (bm : ∃ (m : Addr) (ob : Obj), mg "__builtins__" = some (.ref m) ∧ m ≠ builtinsNs ∧ s.heap.get? m = some ob ∧ ob.cls = .type "module" ∧ ob.dict = some builtinsNs ∧ ob.data = .plain)
    (ha : s.heap.get? a = some { cls := .type "list", data := .seq vs.toArray }) (hi : IntsAre vs ns) (hl : ns.length ≤ 63) (hr : Room k callerA)
    (F : ∀ base : Heap, K.In base → base.Ns mainGlobals mg → (∀ p ∈ cs, LamX.TabB base mg p.1 p.2.1) → FnG P w K mg base k fa fd [x] (spLaw K cs.T)) (hbind : ∀ (s : Shared) (u : Value), BindsTo s fd ⟨[u], []⟩ [(x, u)]) :
    codeAny (model P w) callerA (.call (.ref fa) ⟨[.ref a], []⟩) (fun r s' => r = .ok (.ret (.bool true)) ∧ OldK s.heap s'.heap ∧ s'.os = s.os ∧ AllBare s'.gens) s := by
  have rv : Vals (ns.map V.int) vs := vals_ints hi
  have hz : ns.length ≤ sizeLine := by rw [sizeLine_eq]; omega
  have nat_ : a ∉ cs.map (·.2.1) := fun z => by
    obtain ⟨p, hp, e⟩ := List.mem_map.mp z
    have := tf.tab p hp
    rw [e, ha] at this
    cases this
  have key : ∀ f : Option HO, (∀ u, f = some u → K.lookup a = none ∧ ∃ xs, u = .frz { cls := .type "list", data := .seq vs.toArray } (.lst xs) ∧ ObjOk P w (atH f a (cs.map (·.2.1))) s.heap a u) →
      OnlyA K a cs (atH f a (cs.map (·.2.1))) ∧ HOk P w (atH f a (cs.map (·.2.1))) s.heap ∧ ∀ p ∈ cs, atH f a (cs.map (·.2.1)) p.2.1 = some (.tbl #[]) := fun f hf => by
    have at1 : ∀ p ∈ cs, atH f a (cs.map (·.2.1)) p.2.1 = some (.tbl #[]) := fun p hp => by
      have n : p.2.1 ≠ a := fun z => nat_ (List.mem_map.mpr ⟨p, hp, z⟩)
      unfold atH
      rw [if_neg n, if_pos (List.mem_map.mpr ⟨p, hp, rfl⟩)]
    refine ⟨⟨fun b u z => ?_⟩, fun b u z => ?_, at1⟩
    · unfold atH at z
      split at z
      · rename_i e
        obtain ⟨q1, xs, q2, _⟩ := hf u z
        exact .inl ⟨e, q1, _, _, q2⟩
      · split at z
        · rename_i hm
          obtain ⟨p, hp, e⟩ := List.mem_map.mp hm
          cases z
          exact .inr ⟨p, hp, e.symm, rfl⟩
        · cases z
    · by_cases hba : b = a
      · subst hba
        have z' : f = some u := by
          unfold atH at z
          rw [if_pos rfl] at z
          exact z
        exact (hf u z').2.choose_spec.2
      · unfold atH at z
        rw [if_neg hba] at z
        split at z
        · rename_i hm
          obtain ⟨p, hp, e⟩ := List.mem_map.mp hm
          cases z
          rw [← e]
          exact tf.tab p hp
        · cases z
  obtain ⟨H, oa, hok, at1, sq⟩ : ∃ H : Hp, OnlyA K a cs H ∧ HOk P w H s.heap ∧ (∀ p ∈ cs, H p.2.1 = some (.tbl #[])) ∧ SqL K H a (ns.map V.int) := by
    cases hk : K.lookup a with
    | some o =>
      have e := KX a o hk
      rw [ha] at e
      cases e
      obtain ⟨o1, o2, o3⟩ := key none (fun u z => by cases z)
      exact ⟨_, o1, o2, o3, .inr ⟨_, vs.toArray, _, hk, rfl, rfl, rfl, by rw [List.size_toArray, hi.length]; exact hz, by simpa using rv⟩⟩
    | none =>
      obtain ⟨o1, o2, o3⟩ := key (some (.frz { cls := .type "list", data := .seq vs.toArray } (.lst (ns.map V.int)))) (fun u z => by
        cases z
        exact ⟨hk, _, rfl, ha, by rw [List.length_map]; exact hz, vs, _, rv, ha⟩)
      exact ⟨_, o1, o2, o3, .inl (.inr ⟨_, if_pos rfl⟩)⟩
  obtain ⟨en, inK, gl, tb⟩ := dl_env (P := P) (w := w) KX hns hb hbb hlim hg tf bm ha oa hok
  refine codeAny_mono ((F _ inK gl tb).run callerA [] s H ⟨[.ref a], []⟩ [.ref a] [.ref a] (fun v _ => v = .bl true) (fun _ _ _ => False) hr rfl en (hbind s (.ref a)) (.cons rfl .nil) ⟨a, ns, rfl, sq, hl, fun t ht => ?_, fun _ => rfl⟩) fun r s' h => ?_
  · obtain ⟨p, hp, e⟩ := List.mem_map.mp ht
    rw [← e]
    exact at1 p hp
  match r, h with
  | .error e, h =>
    obtain ⟨_, _, _, _, _, _, _, _, _, _, _, _, z⟩ := h
    exact z.elim
  | .ok .next, h => exact h.elim
  | .ok .brk, h => exact h.elim
  | .ok .cont, h => exact h.elim
  | .ok (.ret u), h =>
    obtain ⟨v, H', os, bare, un, hok', rel, q⟩ := h
    have q : v = .bl true := q
    subst q
    obtain rfl : u = Value.bool true := rel
    exact ⟨rfl, dl_old oa tf at1 hok hok' un, os, bare⟩
/-- the end; the tables are those that the text's facts tell -/
theorem dl_walkT {l : PySem.W.OpenLaw} {k : Nat} {q : Program} {loose : List Str} {XP : (Str → Option Value) → Heap → Prop} {YP : World → Heap → Prop} {d : DefRec} {x : Str} (hn : l.most = some 63) (hdf : d.params.defaults = []) (hr : Room k callerA)
    (F : ∀ (w : World) (mg mb : Str → Option Value) (fa : Addr) (h : Heap) (lo : List Str) (mean : ExcName → Option Value), YP w h → Top q lo mean mg mb h → mg d.name = some (.ref fa) →
      ∃ (K : PySem.W.Frag) (fd : FuncData) (cs : TabL), K.In h ∧ TabF K h cs ∧ (∀ (s : Shared) (u : Value), BindsTo s fd ⟨[u], []⟩ [(x, u)]) ∧ ∀ base : Heap, K.In base → base.Ns mainGlobals mg → (∀ p ∈ cs, LamX.TabB base mg p.1 p.2.1) → FnG l.prog w K mg base k fa fd [x] (spLaw K cs.T)) :
    PySem.W.WalkO q loose XP YP l.row.toRowW d [] (fun f vs => PySem.call f vs) := by
  refine Att.attach_call hn hdf fun w s₀ s mg mb fa o pm cd doc a vs ns G Y _ _ _ hmg hobj hints hlen hg => ?_
  obtain ⟨K, fd, cs, KX, tf, hb, hF⟩ := F w mg mb fa _ _ _ Y G.T hmg
  exact dl_law_run KX G.T.g G.T.b G.T.builtins G.T.nolimit hg tf G.T.bmain hobj hints hlen hr hF hb
end DL
set_option Elab.async false
set_option linter.all false
set_option maxRecDepth 100000
set_option maxHeartbeats 4000000
set_option autoImplicit false
set_option Elab.async false
set_option linter.all false
set_option maxRecDepth 100000
set_option maxHeartbeats 4000000
set_option autoImplicit false
namespace DL
open PySem PySem.Spec L2
open PyProof.Rows hiding St
/-- the statement super().__init__("refused"), and the one that keeps the thing -/
def xBody (fld x : Str) (msg : Str) (p0 p1 p2 p3 p4 p5 q0 q1 q2 q3 : Pos) (j : Nat) : List Stmt :=
  [.Expr (.Call (.Attribute (.Call (.Name "super" p0) [] [] p1) "__init__" p2) [.Constant (.str msg) j p3] [] p4) p5, .Assign [.Attribute (.Name "self" q0) fld q1] (.Name x q2) q3]
/-- what the written part says of an own error class at C, its __init__ at fI: F; its cell; the built-in error i of the class B below it -/
structure XF (P : Program) (K : PySem.W.Frag) (C fI cc : Addr) (F : NdefX.NF) (fld x msg : Str) : Prop where
  T : OexC K C
  cl : F.cl = [(("__class__" : Str), cc)]
  scope : NdefX.NScope ["self", x, "__class__"] ["self", x] ["__class__"] F.scope
  sup : F.scope.names.lookup ("super" : Str) = some .globalImplicit
  head : ∃ ar, (F.params.posonlyargs ++ F.params.args).head? = some ar ∧ ar.arg = ("self" : Str)
  fn : ∃ oc od doc pm ctv osl, K.lookup fI = some ⟨oc, od, .func (F.fd doc pm ctv), osl⟩
  code : PySem.W.codeIn K (.ref F.c) F.qual = true
  file : ∃ a b vs d f t, K.lookup F.c = some ⟨a, b, .fields vs, d⟩ ∧ vs[2]? = some (.str f t) ∧ ((P.main.file : Str) == f) = true
  cell : ∃ a b d, K.lookup cc = some ⟨a, b, .cell (some (.ref C)), d⟩
  body : ∃ p0 p1 p2 p3 p4 p5 q0 q1 q2 q3 j, F.body = xBody fld x msg p0 p1 p2 p3 p4 p5 q0 q1 q2 q3 j ∧ ∀ L, ∃ pl, eval (.Call (.Attribute (.Call (.Name "super" p0) [] [] p1) "__init__" p2) [.Constant (.str msg) j p3] [] p4) (NdefX.envF F fI L) = (do
      let ov ← attributeBase (.Call (.Name "super" p0) [] [] p1) "__init__" (NdefX.envF F fI L) (eval (.Call (.Name "super" p0) [] [] p1) (NdefX.envF F fI L))
      standAt p2.atName
      let (f, first) ← holding [ov] (getMethod ov "__init__" pl)
      callWith p4 f first (backTo p4 (starEach [.Constant (.str msg) j p3] (NdefX.envF F fI L))) [])
  top : (P.main.scope.names.lookup ("super" : Str)).isSome = false
  opq : PySem.W.nsIn K cStatics "thirdparty.any" = some none
  sub : PySem.W.mroIn K C (.ref C) = some true
  sve : PySem.W.subIn K (.ref C) (.type "ValueError") = some true
  find : PySem.W.ks_superIn K C C "__init__" = some (some (.builtin "ValueError.__init__"))
  noF : PySem.W.findIn K (.ref C) fld = some none
  nx : x ≠ "self" ∧ (x == ("__debug__" : Str)) = false ∧ (x == ("__classdict__" : Str)) = false
def spXI (C : Addr) (fld : Str) : Sp := fun vs H Q _ => ∃ a v, vs = [.ref a, v] ∧ H a = some (exo a C none) ∧ ∀ dx, H dx = none → dx ≠ a → Q .non (upd (upd H dx (exd dx [(fld, v)])) a (exo a C (some dx)))
section
variable {P : Program} {w : World} {K : PySem.W.Frag} {mg : Str → Option Value} {base : Heap} {CX : CXT} {C fI cc : Addr} {F : NdefX.NF} {fld x msg : Str}
theorem clsObj {h : Heap} {D : Addr} (X : K.In h) {cd : ClassData} (hD : PySem.W.clsIn K D = some cd) : ∃ o, h.get? D = some o ∧ o.data = .cls cd := by
  unfold PySem.W.clsIn at hD
  split at hD
  · rename_i c d cd' sl ho
    cases hD
    exact ⟨_, X _ _ ho, rfl⟩
  · cases hD
theorem call_mw {prog : Program} {w : World} {A : Around} {E : Value → Shared → Prop} {h : Heap} {g : Array GenState} {d : Drawn} {t : Nat} {os : OsState} {nm q : Str} {C N u e t0 : Addr} {bs bm : List Value} {hdct : Bool} {sn : List Str} {sub : List Value} {ab : Bool} {col : Option Bool} {dd : Option Addr} {k0 k1 k2 k3 k5 : Option Value} {rest : List Value} {Q : Value → Shared → Prop}
    (hu : h.get? u = some (PySem.W.kxs_mw "ValueError.__init__" e)) (hC : h.get? C = some (excClassObj nm q C N bs bm hdct sn sub ab col dd k0 k1 k2 k3 k5 "ValueError.__new__")) (he : h.get? e = some ({ cls := .ref C, dict := none, data := .fields #[.ref t0, .none, .none, .none, .bool false, .none] } : Obj)) (hz : rest.length ≤ sizeLine)
    (hq : ∀ h', (∀ b o, b ≠ e → h.get? b = some o → h'.get? b = some o) → h'.get? e = some ({ cls := .ref C, dict := none, data := .fields #[.ref h.objs.size, .none, .none, .none, .bool false, .none] } : Obj) → Q .none ⟨h', g, d, t, os⟩) :
    wpAny (model prog w) A (call (.ref u) rest) Q E ⟨h, g, d, t, os⟩ := by
  refine wpAny_call (codeAny_of_tree ?_)
  show wpAny _ A.in1 (callAny (.ref u) ⟨rest, []⟩) _ _ _
  unfold callAny
  refine wpAny_bind (wpAny_load hu ?_)
  simp only [PySem.W.kxs_mw, show (Value.type "method-wrapper" == Value.type "method" || Value.type "method-wrapper" == Value.type "builtin_function_or_method" || Value.type "method-wrapper" == Value.type "method-wrapper") = true from by decide, if_true]
  refine PySem.W.KFB.if_so (by decide) ?_
  refine wpAny_bind (PySem.W.check_bound_init PySem.F.excBase_ValueError.toExcCallFacts hC he rfl ?_)
  refine wpAny_bind (wpAny_pure (wpAny_pure ?_))
  refine ⟨plainId_quiet PySem.F.excBase_ValueError.init.plain _, codeAny_builtin PySem.F.excBase_ValueError.initEntry ?_⟩
  exact PySem.W.exc_init_tree (cls := .ref C) (t0 := t0) (dv := none) (c2 := .none) (c3 := .none) (b4 := .bool false) he hz fun h' k x _ => hq h' k x
theorem xinit (XC : XF P K C fI cc F fld x msg) (hs : mg "super" = none) (doc pm ctv : Value) (hfn : ∃ oc od osl, K.lookup fI = some ⟨oc, od, .func (F.fd doc pm ctv), osl⟩) :
    FnOk P w K mg base CX 2 fI (F.fd doc pm ctv) ["self", x] (spXI C fld) := by
  refine ⟨fun vs H Q E ⟨_, _, e, _⟩ => by rw [e]; rfl, fun A outer s H args us vs Q E hr e0 hb r hsp => ?_⟩
  obtain ⟨a, v, rfl, ha, hQ⟩ := hsp
  obtain ⟨oc, od, osl, lk⟩ := hfn
  have bk : ∀ b o, base.get? b = some o → s.heap.get? b = some o := fun b o e => (e0.bs b o e).1
  have KX : K.In s.heap := e0.mod.kin.keeps bk
  cases r with
  | @cons _ u0 _ ur ra rr =>
  cases rr with
  | @cons _ u1 _ ur2 rv rn =>
  cases rn
  obtain rfl : u0 = Value.ref a := ra
  obtain ⟨p0, p1, p2, p3, p4, p5, q0, q1, q2, q3, j, eb, hev⟩ := XC.body
  obtain ⟨ca, cb, cd, hcell⟩ := XC.cell
  refine PySem.ks_codeAny_call_defAt (fd := F.fd doc pm ctv) (body := F.body) (binds := ([("self" : Str), x]).zip [Value.ref a, u1]) hr.depth (KX _ _ lk) rfl (e0.mod.nolimit.keeps bk) (PySem.W.codeRec_of KX XC.code) rfl hb XC.scope.nocell (fun ⟨n, _⟩ hy => XC.scope.par n (List.of_mem_zip hy).1) (fun h₁ hns kp => ?_) XC.scope.co XC.scope.gen XC.scope.kind
  have cells : NdefX.CellsAt F.cl ["__class__"] [some (.ref C)] s.heap H := by
    have hl : ∀ y c, F.cl.lookup y = some c → c = cc ∧ y = ("__class__" : Str) := fun y c e => by
      rw [XC.cl] at e
      by_cases z : y = ("__class__" : Str)
      · rw [z] at e
        exact ⟨(Option.some.inj e).symm, z⟩
      · have : ([(("__class__" : Str), cc)] : List (Str × Addr)).lookup y = none := by
          show (match y == ("__class__" : Str) with | true => some cc | false => none) = none
          rw [beq_eq_false_iff_ne.mpr z]
        rw [this] at e
        cases e
    have hc : H cc = none := (e0.bs cc _ (e0.mod.kin _ _ hcell)).2
    refine ⟨rfl, fun y c e => ?_, fun y z c e1 e2 => ?_, fun i y e => ?_⟩
    · rw [(hl y c e).1]
      exact ⟨hc, _, _, KX _ _ hcell, rfl⟩
    · rw [(hl y c e1).2, (hl z c e2).2]
    · match i, e with
      | 0, e =>
        cases e
        refine ⟨cc, by rw [XC.cl]; rfl, fun v' e' => ?_⟩
        cases e'
        exact ⟨.ref C, rfl, _, KX _ _ hcell, rfl⟩
      | i + 1, e => simp at e
  have J := NdefX.inv_startN (CX := CX) (f := fI) (E := E) (tk := s.toks + (([("self" : Str), x]).zip [Value.ref a, u1]).length) XC.scope hr.hd e0 (vs := [V.ref a, v]) (us := [Value.ref a, u1]) rfl (show L2.Vals [V.ref a, v] [Value.ref a, u1] from .cons rfl (.cons rv .nil)) cells hns kp
  show PySem.wpAt _ (A.deeper (NdefX.envF F fI s.heap.objs.size)) (.func F.body (NdefX.envF F fI s.heap.objs.size)) (execs F.body (NdefX.envF F fI s.heap.objs.size)) _ _ _
  rw [eb]
  unfold xBody
  have KX1 : K.In h₁ := KX.keeps kp
  obtain ⟨t1, hoe⟩ := exo_at J.hok ha
  obtain ⟨ar, har, hself⟩ := XC.head
  obtain ⟨fa, fb, fvs, fd', ff, ft, hcode, hvs, hfile⟩ := XC.file
  have hfindc := XC.find
  unfold PySem.W.ks_superIn at hfindc
  obtain ⟨cdC, hcl, hal⟩ := Option.bind_eq_some_iff.mp hfindc
  obtain ⟨oC, hC1, hC2⟩ := clsObj KX1 hcl
  obtain ⟨mb, hmb, hbb⟩ := e0.mod.blt
  have k1 : ∀ b o, base.get? b = some o → h₁.get? b = some o := fun b o e => kp b o (bk b o e)
  obtain ⟨pl, hpl⟩ := hev s.heap.objs.size
  refine PySem.ks_wpAt_execs_cons (PySem.ks_wpAt_Expr_any (PySem.ks_wpAt_MethodCall (pl := pl) ?_ hpl) (by show (F.scope.kind == .module && _) = false; rw [XC.scope.kind]; rfl))
  refine PySem.ks_wpAt_super_base (f := fI) (cc := F.c) (ar := ar) XC.sup (XC.scope.frk _ (by simp)) (by decide) rfl (KX1 _ _ lk) rfl har rfl (KX1 _ _ hcode) rfl hvs hfile XC.top ?_
  refine PySem.W.ks_loadName_global XC.scope.kind XC.sup (Calls.loadGlobal_builtin (e0.mod.glob.keeps k1) hs (hmb.keeps k1) ((hbb _ (by decide +kernel)).trans PyProof.Rows.Boot.super) ⟨rfl, ?_⟩)
  refine wpAny_loadName_free XC.scope.kind (XC.scope.frk _ (by simp)) (by show F.cl.lookup _ = _; rw [XC.cl]; rfl) ⟨_, KX1 _ _ hcell, rfl⟩ ?_
  rw [hself]
  refine wpAny_loadName_local XC.scope.kind (XC.scope.par _ (by simp)) hns (by
    show (match ("self" : Str) == x with | true => some u1 | false => (match ("self" : Str) == ("self" : Str) with | true => some (Value.ref a) | false => none)) = some (Value.ref a)
    rw [beq_eq_false_iff_ne.mpr (Ne.symm XC.nx.1), beq_self_eq_true]) ?_
  refine PySem.ks_wpAny_isType_cls hC1 hC2 ⟨rfl, ?_⟩
  refine PySem.ks_wpAny_call_super hC1 hC2 hoe rfl (fun c e => by cases e) (PySem.W.looks_mroIn KX1 XC.sub) (fun h2 hso k2 => ?_)
  have KX2 : K.In h2 := KX1.keeps k2
  have I2 : PySem.W.InstAt h2 a { cls := .ref C, dict := none, data := .fields #[.ref t1, .none, .none, .none, .bool false, .none] } C none := ⟨k2 _ _ hoe, rfl, rfl, trivial⟩
  have hne : a ≠ C := fun z => by
    rw [z, hC1] at hoe
    cases hoe
    cases hC2
  refine PySem.W.kxs_getMethod PySem.W.kxs_ValueError hso (PySem.W.looks_opaque KX2 XC.opq) (l₀ := cdC.mro) (fun A' Q' E' s' k q => wpAny_bind ((PySem.W.looks_clsIn KX2 hcl) A' _ E' s' k (wpAny_pure q))) rfl KX2 hal (I2.type.andThen (PySem.W.looks_subIn KX2 XC.sve)) hne (by decide) ?_
  show wpAny _ _ (callWith p4 (.ref h2.objs.size) [] ((false, eval (.Constant (.str msg) j p3) (NdefX.envF F fI s.heap.objs.size)) :: []) []) _ _ _
  refine PySem.W.kxs_callWith (i := "ValueError.__init__") (x := a) rfl (Calls.evalArgs_plain (Calls.spliced_cons (Calls.Constant_str (Calls.spliced_nil ⟨Heap.get?_push_size _ rfl, ?_⟩))))
  obtain ⟨nm, q, N', bs, bm, sn, sub, ab, col, dd, k0, k1', k2', k3, k5, hCo, hbm⟩ := XC.T.cls
  have up3 : ∀ b o, h2.get? b = some o → (h2.push (PySem.W.kxs_mw "ValueError.__init__" a)).get? b = some o := fun b o e => Heap.get?_push_of_some _ e
  refine call_mw (rest := [.str msg _]) (Heap.get?_push_size _ rfl) (up3 _ _ (KX2 _ _ hCo)) (up3 _ _ (k2 _ _ hoe)) (by show 1 ≤ sizeLine; decide) (fun h' kh hx' => ?_)
  have k' : ∀ b o, b ≠ a → h₁.get? b = some o → h'.get? b = some o := fun b o n e => kh b o n (up3 _ _ (k2 _ _ e))
  have J5 : ∀ tk', Inv (NdefX.ncx CX P w K mg base ["self", x, "__class__"] F fI A outer s H E) [] (NdefX.startF ["self", x, "__class__"] [V.ref a, v] [some (.ref C)]) H { s with heap := h', toks := tk' } := fun tk' => by
    have W := J.write (t' := tk') (x := a) (e := a) (o := exo a C none) (by rw [ha]; exact True.intro) (.inl rfl) k' ⟨_, hx'⟩ (exo_ok hx')
    have eu : upd H a (exo a C none) = H := by
      funext b
      by_cases hb' : b = a
      · rw [hb', upd_same, ha]
      · rw [upd_ne hb']
    rw [eu] at W
    exact W
  refine wpAt_of_wpAny (wpAny_mono ((pss_one (ps_ost (X := NdefX.ncx CX P w K mg base ["self", x, "__class__"] F fI A outer s H E) (pe_var (i := 0) rfl (.inl (XC.scope.par _ (by simp))) (by decide) (by decide)) (pe_var (i := 1) rfl (.inl (XC.scope.par _ (by simp))) XC.nx.2.1 XC.nx.2.2))).run [] _ _ H { nx := fun _ H' => Q .non H', rt := Q } (J5 _) ?_) (fun fl s' hs' => ?_) fun e s' z => z)
  · exact ⟨v, rfl, .ref a, rfl, a, C, rfl, XC.T, XC.noF, .inl ⟨ha, fun dx hd hn => hQ dx hd hn⟩⟩
  · cases fl with
    | next =>
      obtain ⟨σ', H', J', q'⟩ := hs'
      exact ⟨V.non, H', J'.os, J'.bare, J'.base, J'.hok, rfl, q'⟩
    | ret u' =>
      obtain ⟨v', σ', H', J', rv', q'⟩ := hs'
      exact ⟨v', H', J'.os, J'.bare, J'.base, J'.hok, rv', q'⟩
    | brk =>
      obtain ⟨_, _, _, q'⟩ := hs'
      exact q'.elim
    | cont =>
      obtain ⟨_, _, _, q'⟩ := hs'
      exact q'.elim
end
end DL
set_option Elab.async false
set_option linter.all false
set_option maxRecDepth 100000
set_option maxHeartbeats 4000000
set_option autoImplicit false
namespace DL
open PySem PySem.Spec L2
open PyProof.Rows hiding St
def leT : List Value := [.type "LookupError", .type "Exception", .type "BaseException", .type "object"]
theorem le_pass (self : Value) (C : Addr) : refuseLoop self "__setattr__" (.ref C :: leT) = pure () := by rfl
/-- what the written part says of the class -/
structure OexL (K : PySem.W.Frag) (C : Addr) : Prop where
  cls : ∃ nm q N bs sn sub ab col dd k0 k1 k2 k3 k5, K.lookup C = some (excClassObj nm q C N bs leT true sn sub ab col dd k0 k1 k2 k3 k5 "LookupError.__new__")
  sa : PySem.W.findIn K (.ref C) "__setattr__" = some (some (.builtin "object.__setattr__"))
  exC : PySem.W.subIn K (.ref C) (.type "BaseException") = some true
  tyC : PySem.W.typeIn K (.ref C) = some (.type "type")
  kC : PySem.W.keepIn K (.ref C) = true
namespace LEX
open PySem.W PySem.Calls PySem.HandSPX
open Builtin Builtin.ObjectAttr
section
variable {prog : Program} {w : World} {A : Around} {R : Result → Shared → Prop} {hp : Heap} {gs : Array GenState} {dr : Drawn} {tt : Nat} {os : OsState}
/-- the first field of such an error: object.__setattr__ -/
theorem osaL {K : W.Frag} {nm : Str} {tk : Tok} {u : Value} {e C : Addr} {fv : Array Value} {cd : ClassData} (KX : K.In hp) (he : hp.get? e = some { cls := .ref C, data := .fields fv }) (hc : W.clsIn K C = some cd) (hm : cd.mro = .ref C :: leT) (hd : cd.hasDict = true) (hf : W.findIn K (.ref C) nm = some none)
    (go : ∀ h' tk' dx, (∀ b o, b ≠ e → hp.get? b = some o → h'.get? b = some o) → hp.objs.size ≤ dx → dx ≠ e → h'.get? e = some { cls := .ref C, dict := some dx, data := .fields fv } → h'.Ns1 dx (fun y => if y = nm then some u else none) → R (.ok (.ret .none)) ⟨h', gs, dr, tk', os⟩) :
    codeAny (model prog w) A (.call (.builtin "object.__setattr__") ⟨[.ref e, .str nm tk, u], []⟩) R ⟨hp, gs, dr, tt, os⟩ := by
  have at0 : W.InstAt hp e { cls := .ref C, data := .fields fv } C none := ⟨he, rfl, rfl, trivial⟩
  have nq : e ≠ hp.objs.size := Nat.ne_of_lt (Heap.lt_size he)
  have isO : W.Looks (model prog w) hp (isInstance (.ref e) (.type "object")) true := at0.type.andThen (W.looks_mroIn KX (by
    unfold W.mroIn
    rw [hc, Option.bind_some, hm]
    rfl))
  have SO := F.store_object
  refine codeAny_call_builtin SO.slot.plain SO.entry (@W.check_slot (model prog w) _ _ ⟨hp, gs, dr, tt, os⟩ "object.__setattr__" "object" "__setattr__" (.ref e) [.str nm tk, u] [] _ SO.kind SO.split isO (SO.args (.ref e) (.str nm tk) u) ?_)
  have l1 : W.Looks (model prog w) hp (mroOf (.ref C)) (.ref C :: leT) := by
    rw [← hm]
    exact (W.looks_clsIn KX hc).andThen .now
  have l2 : W.Looks (model prog w) hp (storeTaker? none) none := .now
  have l3 : W.Looks (model prog w) hp (classData C) cd := W.looks_clsIn KX hc
  rw [W.osa_eq, refuse_eq]
  refine wpAny_bind (wpAny_bind (at0.type.at (wpAny_bind (l1.at ?_))))
  rw [le_pass]
  refine wpAny_pure (wpAny_bind (at0.type.at (wpAny_bind ((W.looks_findIn KX hf).at (wpAny_bind (l2.at ?_))))))
  show wpAny _ _ (storeInOwnDict (.ref e) (.ref C) (.str nm tk) nm u false) _ _ _
  obtain ⟨c1, c2, c3, c4, c5, c6, c7, c8, c9, c10, c11⟩ := cd
  dsimp only at hd
  subst hd
  unfold storeInOwnDict ownDictForStores
  repeat (first | with_reducible refine store_in_new ?_ ?_ | with_reducible refine wpAny_loadPart_at he ?_ | with_reducible refine l3.at ?_ | wp_step)
  · exact ⟨_, #[], _, (Heap.get?_update_ne _ _ _ _ nq.symm).trans (Heap.get?_push_at rfl rfl), rfl, fun z hz => absurd hz (by simp), fun _ => rfl⟩
  · intro h' tk' ns same
    have e1 : (hp.push { cls := .type "dict", data := .dict #[] }).get? e = some { cls := .ref C, data := .fields fv } := Heap.get?_push_of_some _ he
    exact go h' tk' hp.objs.size (fun b o nb ho => (same.2 b (Nat.ne_of_lt (Heap.lt_size ho))).trans ((Heap.get?_update_ne _ _ _ _ nb).trans (Heap.get?_push_of_some _ ho))) (Nat.le_refl _) nq.symm ((same.2 e nq).trans (Heap.get?_update_self _ e1 rfl)) ns
end
end LEX
section
variable {X : L2.Cx} {pins : List (Addr × Obj)} {σ : L2.St} {H : Hp} {s : Shared} {a C : Addr} {f : Str} {y : V} {u : Value} {Q : Unit → Shared → Prop} {E : Value → Shared → Prop} {A : Around}
theorem ost_newL (T : OexL X.K C) (I : Inv X pins σ H s) (ea : H a = some (exo a C none)) (hno : PySem.W.findIn X.K (.ref C) f = some none) (ry : RelV y u)
    (go : ∀ dx s', H dx = none → dx ≠ a → Inv X pins σ (upd (upd H dx (exd dx [(f, y)])) a (exo a C (some dx))) s' → Q () s') : wpAny (model X.prog X.w) A (setAttr (.ref a) f u) Q E s := by
  obtain ⟨n0, q0, N0, bs, sn, sb, ab, col, dd, k0, k1, k2, k3, k5, lk⟩ := T.cls
  obtain ⟨t1, ho⟩ := exo_at I.hok ea
  obtain ⟨hp, gs, dr, tk, os⟩ := s
  refine PySem.W.set_plain I.kIn (ox := { cls := .ref C, dict := none, data := .fields #[.ref t1, .none, .none, .none, .bool false, .none] }) (od := none) ⟨ho, rfl, rfl, trivial⟩ T.sa (LEX.osaL I.kIn ho (cd := { name := n0, bases := bs, mro := .ref C :: leT, ns := N0, qualname := q0, hasDict := true, slotNames := sn, subclasses := sb, abstract := ab, collection := col, hasDel := false }) (by unfold PySem.W.clsIn; rw [lk] <;> rfl) rfl rfl hno fun h' tk' dx kp fresh ne hx ns => ?_)
  have hnd : H dx = none := I.hok.fresh fresh
  have off : ∀ {b : Addr} {o : Obj}, hp.get? b = some o → b ≠ dx := fun {b o} z => Nat.ne_of_lt (Nat.lt_of_lt_of_le (Heap.lt_size z) fresh)
  have offa : ∀ {b : Addr}, H b = none → b ≠ a := fun {b} z z2 => by
    rw [z2, ea] at z
    cases z
  have U : Un X.fs [] H (upd (upd H dx (exd dx [(f, y)])) a (exo a C (some dx))) hp h' := by
    refine ⟨fun b o z n _ _ => kp b o (offa n) z, fun b o z n _ _ => ⟨o.slots, kp b o (offa n) z⟩, fun b o z n _ => ?_, fun b o z _ => ?_, fun b xs z => ?_, fun b o v z => ?_, fun b ps z => ⟨#[], ?_⟩⟩
    · rw [upd_ne (offa n), upd_ne (off z)]; exact n
    · by_cases h : b = a
      · exact ⟨_, by rw [h]; exact hx⟩
      · exact ⟨o, kp b o h z⟩
    · rw [upd_ne (at_ne ea z exo_tup), upd_ne (ne_of_none z hnd)]; exact z
    · rw [upd_ne (at_ne ea z exo_frz), upd_ne (ne_of_none z hnd)]; exact z
    · rw [upd_ne (at_ne ea z exo_tbl), upd_ne (ne_of_none z hnd), z]; simp
  refine go dx _ hnd ne (I.un (t' := tk') U fun b o z => ?_)
  by_cases h1 : b = a
  · rw [h1, upd_same] at z
    cases z
    rw [h1]
    exact exo_ok hx
  · rw [upd_ne h1] at z
    by_cases h2 : b = dx
    · rw [h2, upd_same] at z
      cases z
      rw [h2]
      exact exd_ok ns (relO_put (fs := []) ry fun _ => True.intro)
    · rw [upd_ne h2] at z
      refine (I.hok b o z).stay (fun c v hc g => kp c v ?_ g) (fun c hc => ?_) (fun c xs hc => ?_)
      · rcases hc with hc | hc
        · rw [hc]; exact h1
        · exact at_ne ea hc exo_own
      · rw [upd_ne (at_ne ea hc exo_own), upd_ne (ne_of_none hc hnd)]; exact hc
      · rw [upd_ne (at_ne ea hc exo_tup), upd_ne (ne_of_none hc hnd)]; exact hc
/-- self.f = e of such an error -/
def tOstL (K : PySem.W.Frag) (f : Str) (to te : TE) : TS := fun D σ H => te σ H fun y H1 => to σ H1 fun x H2 => ∃ a C : Addr, x = .ref a ∧ OexL K C ∧ PySem.W.findIn K (.ref C) f = some none ∧
  H2 a = some (exo a C none) ∧ ∀ dx, H2 dx = none → dx ≠ a → D.nx σ (upd (upd H2 dx (exd dx [(f, y)])) a (exo a C (some dx)))
theorem ps_ostL {o e : Expr} {to te : TE} {p' pos : Pos} (ho : PE X o to) (he : PE X e te) (hs : swapsWith e (some (.Attribute o f p')) pos.line X.env = pure false := by rfl) : PS X (.Assign [.Attribute o f p'] e pos) (tOstL X.K f to te) :=
  ⟨fun ps s0 τ G D J hyp => plainObj_wpAny_Assign_Attribute (thn (he.run ps s0 τ G _ J hyp) fun v s1 ⟨y, G1, J1, r1, q1⟩ => thn (ho.run ps s1 τ G1 _ J1 q1) fun u s2 ⟨x, G2, J2, r2, a, C, ex, T, hno, ea, q⟩ => by
    subst ex
    obtain rfl : u = Value.ref a := r2
    exact ost_newL T J2 ea hno r1 fun dx s' n ne Z => ⟨τ, _, Z, q dx n ne⟩) hs⟩
theorem pmk_oexL {CX : CXT} {x : Str} {C fI : Addr} {k : Nat} {fd : FuncData} {ps : List Str} {sp : Sp} {e : Expr} {es : List Expr} {ta : TA} {p pos : Pos} (T : OexL X.K C) (iC : PySem.W.findIn X.K (.ref C) "__init__" = some (some (.ref fI))) (tI : PySem.W.typeIn X.K (.ref fI) = some (.type "function"))
    (G : FnOk X.prog X.w X.K X.mg X.base CX k fI fd ps sp) (hr : Room (k + 1) X.A) (hb : Binds X.K fd ps []) (hx : Passes CX X (fun _ _ _ => False)) (hg : Gl X x) (hm : X.mg x = some (.ref C)) (ha : PA X (e :: es) ta)
    (hdb : (x == ("__debug__" : Str)) = false := by decide) (he : starEach (e :: es) X.env = (false, eval e X.env) :: starEach es X.env := by rfl) (hpl : (backTo pos (starEach es X.env)).any (·.1) = false := by rfl) :
    PMk X (.Call (.Name x p) (e :: es) [] pos) (tMkO C sp [] ta) := by
  intro pins s0 σ H Q I hyp
  obtain ⟨n0, q0, N0, bs, sn, sb, ab, col, dd, k0, k1, k2, k3, k5, lk⟩ := T.cls
  refine wpAny_Call_Name_kw (ld_glob I hg hm (PySem.W.callWith_K (h₀ := X.base) I.ok.mod.kin T.kC (thn (ha.run pos pins s0 σ H _ I hyp) fun us s1 ⟨vs, H1, I1, r1, hz, q1⟩ => ⟨I1.kIn, ?_⟩) he hpl) hdb)
  show wpAny _ _ (call (.ref C) us) _ _ _
  obtain ⟨hp, gs, dr, tk, os⟩ := s1
  obtain ⟨a, hae⟩ : ∃ a, a = hp.objs.size + 1 := ⟨_, rfl⟩
  have le : hp.objs.size ≤ a := by rw [hae]; exact Nat.le_succ _
  have hq := q1 a (I1.hok.fresh le)
  have kp : ∀ b o, hp.get? b = some o → ((hp.push (PySem.W.kdv_tup us)).push (PySem.HandSPX.excO C hp.objs.size)).get? b = some o := fun b o z => Heap.get?_push_of_some _ (Heap.get?_push_of_some _ z)
  have at1 : ((hp.push (PySem.W.kdv_tup us)).push (PySem.HandSPX.excO C hp.objs.size)).get? a = some (PySem.HandSPX.excO C hp.objs.size) := by
    rw [hae]
    heap_get
  have I2 : Inv X pins σ (upd H1 a (exo a C none)) ⟨(hp.push (PySem.W.kdv_tup us)).push (PySem.HandSPX.excO C hp.objs.size), gs, dr, tk, os⟩ := I1.laid (t' := tk) kp le (exo_ok at1)
  have r2 : Vals (V.ref a :: (vs ++ [])) (Value.ref a :: (us ++ [])) := .cons rfl (r1.append .nil)
  have hl : (Value.ref a :: us ++ []).length = ps.length := ((G.len _ _ _ _ hq).symm.trans r2.length).symm
  have hus : us.length ≤ sizeLine := by
    rw [← Paired.length r1, sizeLine_eq]
    omega
  subst hae
  have hbb := hb _ (Value.ref (hp.objs.size + 1) :: us) I2.kIn hl
  rw [List.cons_append] at hbb
  refine wpAny_call (PySem.HandSPX.call_own F.excBase_LookupError (fun _ => rfl) (I1.kIn _ _ lk) (PySem.W.looks_findIn I1.kIn iC) (fun self => PySem.W.bind_fn I1.kIn self tI) hus (codeAny_mono (G.run _ X.stack _ _ ⟨Value.ref (hp.objs.size + 1) :: us, []⟩ (Value.ref (hp.objs.size + 1) :: (us ++ [])) _ _ (fun _ _ _ => False) (hr.make C us []) (I2.env0.make C us []) hbb r2 hq) fun r s' hq' => ?_))
  cases r with
  | error er => exact hx pins σ _ _ er s' I2 hq'
  | ok fl =>
    cases fl with
    | ret u =>
      obtain ⟨v, H2, e1, e2, e3, e4, rv, ev, d, fs, ea, ed, hd1, q2⟩ := hq'
      subst ev
      obtain ⟨h2, g2, d2, t2, o2⟩ := s'
      exact ⟨rv, mk_end (raises_own T.exC T.tyC) I1 le kp e3 e4 e1 e2 ea ed hd1 q2⟩
    | next => exact hq'.elim
    | brk => exact hq'.elim
    | cont => exact hq'.elim
end
end DL
set_option Elab.async false
set_option linter.all false
set_option maxRecDepth 100000
set_option maxHeartbeats 4000000
set_option autoImplicit false
namespace DL
open PySem PySem.Spec L2
open PyProof.Rows hiding St
/-- what the written part says of an own error class at C, its __init__ at fI: F; its cell; the built-in error i of the class B below it -/
structure XFL (P : Program) (K : PySem.W.Frag) (C fI cc : Addr) (F : NdefX.NF) (fld x msg : Str) : Prop where
  T : OexL K C
  cl : F.cl = [(("__class__" : Str), cc)]
  scope : NdefX.NScope ["self", x, "__class__"] ["self", x] ["__class__"] F.scope
  sup : F.scope.names.lookup ("super" : Str) = some .globalImplicit
  head : ∃ ar, (F.params.posonlyargs ++ F.params.args).head? = some ar ∧ ar.arg = ("self" : Str)
  fn : ∃ oc od doc pm ctv osl, K.lookup fI = some ⟨oc, od, .func (F.fd doc pm ctv), osl⟩
  code : PySem.W.codeIn K (.ref F.c) F.qual = true
  file : ∃ a b vs d f t, K.lookup F.c = some ⟨a, b, .fields vs, d⟩ ∧ vs[2]? = some (.str f t) ∧ ((P.main.file : Str) == f) = true
  cell : ∃ a b d, K.lookup cc = some ⟨a, b, .cell (some (.ref C)), d⟩
  body : ∃ p0 p1 p2 p3 p4 p5 q0 q1 q2 q3 j, F.body = xBody fld x msg p0 p1 p2 p3 p4 p5 q0 q1 q2 q3 j ∧ ∀ L, ∃ pl, eval (.Call (.Attribute (.Call (.Name "super" p0) [] [] p1) "__init__" p2) [.Constant (.str msg) j p3] [] p4) (NdefX.envF F fI L) = (do
      let ov ← attributeBase (.Call (.Name "super" p0) [] [] p1) "__init__" (NdefX.envF F fI L) (eval (.Call (.Name "super" p0) [] [] p1) (NdefX.envF F fI L))
      standAt p2.atName
      let (f, first) ← holding [ov] (getMethod ov "__init__" pl)
      callWith p4 f first (backTo p4 (starEach [.Constant (.str msg) j p3] (NdefX.envF F fI L))) [])
  top : (P.main.scope.names.lookup ("super" : Str)).isSome = false
  opq : PySem.W.nsIn K cStatics "thirdparty.any" = some none
  sub : PySem.W.mroIn K C (.ref C) = some true
  sve : PySem.W.subIn K (.ref C) (.type "LookupError") = some true
  find : PySem.W.ks_superIn K C C "__init__" = some (some (.builtin "LookupError.__init__"))
  noF : PySem.W.findIn K (.ref C) fld = some none
  nx : x ≠ "self" ∧ (x == ("__debug__" : Str)) = false ∧ (x == ("__classdict__" : Str)) = false
section
variable {P : Program} {w : World} {K : PySem.W.Frag} {mg : Str → Option Value} {base : Heap} {CX : CXT} {C fI cc : Addr} {F : NdefX.NF} {fld x msg : Str}
theorem call_mwL {prog : Program} {w : World} {A : Around} {E : Value → Shared → Prop} {h : Heap} {g : Array GenState} {d : Drawn} {t : Nat} {os : OsState} {nm q : Str} {C N u e t0 : Addr} {bs bm : List Value} {hdct : Bool} {sn : List Str} {sub : List Value} {ab : Bool} {col : Option Bool} {dd : Option Addr} {k0 k1 k2 k3 k5 : Option Value} {rest : List Value} {Q : Value → Shared → Prop}
    (hu : h.get? u = some (PySem.W.kxs_mw "LookupError.__init__" e)) (hC : h.get? C = some (excClassObj nm q C N bs bm hdct sn sub ab col dd k0 k1 k2 k3 k5 "LookupError.__new__")) (he : h.get? e = some ({ cls := .ref C, dict := none, data := .fields #[.ref t0, .none, .none, .none, .bool false, .none] } : Obj)) (hz : rest.length ≤ sizeLine)
    (hq : ∀ h', (∀ b o, b ≠ e → h.get? b = some o → h'.get? b = some o) → h'.get? e = some ({ cls := .ref C, dict := none, data := .fields #[.ref h.objs.size, .none, .none, .none, .bool false, .none] } : Obj) → Q .none ⟨h', g, d, t, os⟩) :
    wpAny (model prog w) A (call (.ref u) rest) Q E ⟨h, g, d, t, os⟩ := by
  refine wpAny_call (codeAny_of_tree ?_)
  show wpAny _ A.in1 (callAny (.ref u) ⟨rest, []⟩) _ _ _
  unfold callAny
  refine wpAny_bind (wpAny_load hu ?_)
  simp only [PySem.W.kxs_mw, show (Value.type "method-wrapper" == Value.type "method" || Value.type "method-wrapper" == Value.type "builtin_function_or_method" || Value.type "method-wrapper" == Value.type "method-wrapper") = true from by decide, if_true]
  refine PySem.W.KFB.if_so (by decide) ?_
  refine wpAny_bind (PySem.W.check_bound_init PySem.F.excBase_LookupError.toExcCallFacts hC he rfl ?_)
  refine wpAny_bind (wpAny_pure (wpAny_pure ?_))
  refine ⟨plainId_quiet PySem.F.excBase_LookupError.init.plain _, codeAny_builtin PySem.F.excBase_LookupError.initEntry ?_⟩
  exact PySem.W.exc_init_tree (cls := .ref C) (t0 := t0) (dv := none) (c2 := .none) (c3 := .none) (b4 := .bool false) he hz fun h' k x _ => hq h' k x
theorem xinitL (XC : XFL P K C fI cc F fld x msg) (hs : mg "super" = none) (doc pm ctv : Value) (hfn : ∃ oc od osl, K.lookup fI = some ⟨oc, od, .func (F.fd doc pm ctv), osl⟩) :
    FnOk P w K mg base CX 2 fI (F.fd doc pm ctv) ["self", x] (spXI C fld) := by
  refine ⟨fun vs H Q E ⟨_, _, e, _⟩ => by rw [e]; rfl, fun A outer s H args us vs Q E hr e0 hb r hsp => ?_⟩
  obtain ⟨a, v, rfl, ha, hQ⟩ := hsp
  obtain ⟨oc, od, osl, lk⟩ := hfn
  have bk : ∀ b o, base.get? b = some o → s.heap.get? b = some o := fun b o e => (e0.bs b o e).1
  have KX : K.In s.heap := e0.mod.kin.keeps bk
  cases r with
  | @cons _ u0 _ ur ra rr =>
  cases rr with
  | @cons _ u1 _ ur2 rv rn =>
  cases rn
  obtain rfl : u0 = Value.ref a := ra
  obtain ⟨p0, p1, p2, p3, p4, p5, q0, q1, q2, q3, j, eb, hev⟩ := XC.body
  obtain ⟨ca, cb, cd, hcell⟩ := XC.cell
  refine PySem.ks_codeAny_call_defAt (fd := F.fd doc pm ctv) (body := F.body) (binds := ([("self" : Str), x]).zip [Value.ref a, u1]) hr.depth (KX _ _ lk) rfl (e0.mod.nolimit.keeps bk) (PySem.W.codeRec_of KX XC.code) rfl hb XC.scope.nocell (fun ⟨n, _⟩ hy => XC.scope.par n (List.of_mem_zip hy).1) (fun h₁ hns kp => ?_) XC.scope.co XC.scope.gen XC.scope.kind
  have cells : NdefX.CellsAt F.cl ["__class__"] [some (.ref C)] s.heap H := by
    have hl : ∀ y c, F.cl.lookup y = some c → c = cc ∧ y = ("__class__" : Str) := fun y c e => by
      rw [XC.cl] at e
      by_cases z : y = ("__class__" : Str)
      · rw [z] at e
        exact ⟨(Option.some.inj e).symm, z⟩
      · have : ([(("__class__" : Str), cc)] : List (Str × Addr)).lookup y = none := by
          show (match y == ("__class__" : Str) with | true => some cc | false => none) = none
          rw [beq_eq_false_iff_ne.mpr z]
        rw [this] at e
        cases e
    have hc : H cc = none := (e0.bs cc _ (e0.mod.kin _ _ hcell)).2
    refine ⟨rfl, fun y c e => ?_, fun y z c e1 e2 => ?_, fun i y e => ?_⟩
    · rw [(hl y c e).1]
      exact ⟨hc, _, _, KX _ _ hcell, rfl⟩
    · rw [(hl y c e1).2, (hl z c e2).2]
    · match i, e with
      | 0, e =>
        cases e
        refine ⟨cc, by rw [XC.cl]; rfl, fun v' e' => ?_⟩
        cases e'
        exact ⟨.ref C, rfl, _, KX _ _ hcell, rfl⟩
      | i + 1, e => simp at e
  have J := NdefX.inv_startN (CX := CX) (f := fI) (E := E) (tk := s.toks + (([("self" : Str), x]).zip [Value.ref a, u1]).length) XC.scope hr.hd e0 (vs := [V.ref a, v]) (us := [Value.ref a, u1]) rfl (show L2.Vals [V.ref a, v] [Value.ref a, u1] from .cons rfl (.cons rv .nil)) cells hns kp
  show PySem.wpAt _ (A.deeper (NdefX.envF F fI s.heap.objs.size)) (.func F.body (NdefX.envF F fI s.heap.objs.size)) (execs F.body (NdefX.envF F fI s.heap.objs.size)) _ _ _
  rw [eb]
  unfold xBody
  have KX1 : K.In h₁ := KX.keeps kp
  obtain ⟨t1, hoe⟩ := exo_at J.hok ha
  obtain ⟨ar, har, hself⟩ := XC.head
  obtain ⟨fa, fb, fvs, fd', ff, ft, hcode, hvs, hfile⟩ := XC.file
  have hfindc := XC.find
  unfold PySem.W.ks_superIn at hfindc
  obtain ⟨cdC, hcl, hal⟩ := Option.bind_eq_some_iff.mp hfindc
  obtain ⟨oC, hC1, hC2⟩ := clsObj KX1 hcl
  obtain ⟨mb, hmb, hbb⟩ := e0.mod.blt
  have k1 : ∀ b o, base.get? b = some o → h₁.get? b = some o := fun b o e => kp b o (bk b o e)
  obtain ⟨pl, hpl⟩ := hev s.heap.objs.size
  refine PySem.ks_wpAt_execs_cons (PySem.ks_wpAt_Expr_any (PySem.ks_wpAt_MethodCall (pl := pl) ?_ hpl) (by show (F.scope.kind == .module && _) = false; rw [XC.scope.kind]; rfl))
  refine PySem.ks_wpAt_super_base (f := fI) (cc := F.c) (ar := ar) XC.sup (XC.scope.frk _ (by simp)) (by decide) rfl (KX1 _ _ lk) rfl har rfl (KX1 _ _ hcode) rfl hvs hfile XC.top ?_
  refine PySem.W.ks_loadName_global XC.scope.kind XC.sup (Calls.loadGlobal_builtin (e0.mod.glob.keeps k1) hs (hmb.keeps k1) ((hbb _ (by decide +kernel)).trans PyProof.Rows.Boot.super) ⟨rfl, ?_⟩)
  refine wpAny_loadName_free XC.scope.kind (XC.scope.frk _ (by simp)) (by show F.cl.lookup _ = _; rw [XC.cl]; rfl) ⟨_, KX1 _ _ hcell, rfl⟩ ?_
  rw [hself]
  refine wpAny_loadName_local XC.scope.kind (XC.scope.par _ (by simp)) hns (by
    show (match ("self" : Str) == x with | true => some u1 | false => (match ("self" : Str) == ("self" : Str) with | true => some (Value.ref a) | false => none)) = some (Value.ref a)
    rw [beq_eq_false_iff_ne.mpr (Ne.symm XC.nx.1), beq_self_eq_true]) ?_
  refine PySem.ks_wpAny_isType_cls hC1 hC2 ⟨rfl, ?_⟩
  refine PySem.ks_wpAny_call_super hC1 hC2 hoe rfl (fun c e => by cases e) (PySem.W.looks_mroIn KX1 XC.sub) (fun h2 hso k2 => ?_)
  have KX2 : K.In h2 := KX1.keeps k2
  have I2 : PySem.W.InstAt h2 a { cls := .ref C, dict := none, data := .fields #[.ref t1, .none, .none, .none, .bool false, .none] } C none := ⟨k2 _ _ hoe, rfl, rfl, trivial⟩
  have hne : a ≠ C := fun z => by
    rw [z, hC1] at hoe
    cases hoe
    cases hC2
  refine PySem.W.kxs_getMethod PySem.W.kxs_LookupError hso (PySem.W.looks_opaque KX2 XC.opq) (l₀ := cdC.mro) (fun A' Q' E' s' k q => wpAny_bind ((PySem.W.looks_clsIn KX2 hcl) A' _ E' s' k (wpAny_pure q))) rfl KX2 hal (I2.type.andThen (PySem.W.looks_subIn KX2 XC.sve)) hne (by decide) ?_
  show wpAny _ _ (callWith p4 (.ref h2.objs.size) [] ((false, eval (.Constant (.str msg) j p3) (NdefX.envF F fI s.heap.objs.size)) :: []) []) _ _ _
  refine PySem.W.kxs_callWith (i := "LookupError.__init__") (x := a) rfl (Calls.evalArgs_plain (Calls.spliced_cons (Calls.Constant_str (Calls.spliced_nil ⟨Heap.get?_push_size _ rfl, ?_⟩))))
  obtain ⟨nm, q, N', bs, sn, sub, ab, col, dd, k0, k1', k2', k3, k5, hCo⟩ := XC.T.cls
  have up3 : ∀ b o, h2.get? b = some o → (h2.push (PySem.W.kxs_mw "LookupError.__init__" a)).get? b = some o := fun b o e => Heap.get?_push_of_some _ e
  refine call_mwL (rest := [.str msg _]) (Heap.get?_push_size _ rfl) (up3 _ _ (KX2 _ _ hCo)) (up3 _ _ (k2 _ _ hoe)) (by show 1 ≤ sizeLine; decide) (fun h' kh hx' => ?_)
  have k' : ∀ b o, b ≠ a → h₁.get? b = some o → h'.get? b = some o := fun b o n e => kh b o n (up3 _ _ (k2 _ _ e))
  have J5 : ∀ tk', Inv (NdefX.ncx CX P w K mg base ["self", x, "__class__"] F fI A outer s H E) [] (NdefX.startF ["self", x, "__class__"] [V.ref a, v] [some (.ref C)]) H { s with heap := h', toks := tk' } := fun tk' => by
    have W := J.write (t' := tk') (x := a) (e := a) (o := exo a C none) (by rw [ha]; exact True.intro) (.inl rfl) k' ⟨_, hx'⟩ (exo_ok hx')
    have eu : upd H a (exo a C none) = H := by
      funext b
      by_cases hb' : b = a
      · rw [hb', upd_same, ha]
      · rw [upd_ne hb']
    rw [eu] at W
    exact W
  refine wpAt_of_wpAny (wpAny_mono ((pss_one (ps_ostL (X := NdefX.ncx CX P w K mg base ["self", x, "__class__"] F fI A outer s H E) (pe_var (i := 0) rfl (.inl (XC.scope.par _ (by simp))) (by decide) (by decide)) (pe_var (i := 1) rfl (.inl (XC.scope.par _ (by simp))) XC.nx.2.1 XC.nx.2.2))).run [] _ _ H { nx := fun _ H' => Q .non H', rt := Q } (J5 _) ?_) (fun fl s' hs' => ?_) fun e s' z => z)
  · exact ⟨v, rfl, .ref a, rfl, a, C, rfl, XC.T, XC.noF, ha, fun dx hd hn => hQ dx hd hn⟩
  · cases fl with
    | next =>
      obtain ⟨σ', H', J', q'⟩ := hs'
      exact ⟨V.non, H', J'.os, J'.bare, J'.base, J'.hok, rfl, q'⟩
    | ret u' =>
      obtain ⟨v', σ', H', J', rv', q'⟩ := hs'
      exact ⟨v', H', J'.os, J'.bare, J'.base, J'.hok, rv', q'⟩
    | brk =>
      obtain ⟨_, _, _, q'⟩ := hs'
      exact q'.elim
    | cont =>
      obtain ⟨_, _, _, q'⟩ := hs'
      exact q'.elim
end
end DL
set_option Elab.async false
set_option linter.all false
set_option maxRecDepth 100000
set_option maxHeartbeats 4000000
set_option autoImplicit false
namespace DL
open PySem PySem.Spec L2
open PyProof.Rows hiding St
/-- the class named x is an error of the package: its number is c -/
structure XCls (P : Program) (K : PySem.W.Frag) (mg : Str → Option Value) (et : ET) (c : Nat) (x : Str) : Prop where
  ex : ∃ fI cc F a msg, mg x = some (.ref (et.cls c)) ∧ PySem.W.findIn K (.ref (et.cls c)) "__init__" = some (some (.ref fI)) ∧ PySem.W.typeIn K (.ref fI) = some (.type "function") ∧ (XF P K (et.cls c) fI cc F (et.fld c) a msg ∨ XFL P K (et.cls c) fI cc F (et.fld c) a msg) ∧
    (∀ (doc pm ctv : Value) (us : List Value), us.length = 2 → bindArgs (F.fd doc pm ctv) ⟨us, []⟩ = pure ([("self" : Str), a].zip us)) ∧
    (∀ (doc pm ctv s v : Value), bindArgs (F.fd doc pm ctv) ⟨[s], [(a, v)]⟩ = pure ([("self" : Str), a].zip [s, v])) ∧ a = et.fld c
def mRaise (c : Nat) (f : Sg → Rs Sg DV) (g : Sg) : Rs Sg Fl := (f g).bind fun d g1 => match d with
  | .pu p => .ex c p g1
  | _ => .no
section
variable {X : Cx} {et : ET} {W : WX}
theorem ds_raise {k c : Nat} {x : Str} {e : Expr} {p pos pos' : Pos} {f : Sg → Rs Sg DV} (C : Here X k W) (T : XCls X.prog X.K X.mg et c x) (hs : X.mg "super" = none) (h : DE X et W e f) (hk : 3 ≤ k := by decide) (hc : X.calm = true := by rfl) (hg : Gl X x := by rfl) (hdb : (x == ("__debug__" : Str)) = false := by decide)
    (he : starEach [e] X.env = (false, eval e X.env) :: starEach [] X.env := by exact star_ok rfl) : DS X et W (.Raise (some (.Call (.Name x p) [e] [] pos)) none pos') (mRaise c f) := fun am B F g σ H D R hq => by
  obtain ⟨fI, cc, Fn, a, msg, hm, iC, tI, XC, hb, _⟩ := T.ex
  refine ws_of (ps_raise hc C.tk (XC.elim
    (fun XC => match XC.fn with
      | ⟨oc, od, doc, pm, ctv, osl, lk⟩ => pmk_oex (ds := []) (dvs := []) XC.T iC tI (xinit (w := X.w) (base := X.base) (CX := L2.CX X.prog X.w) XC hs doc pm ctv ⟨oc, od, osl, lk⟩) (C.hr.mono hk) (.all fun us hl => hb doc pm ctv us hl) .nil (passes_call C.tk fun _ _ _ _ z => z.elim) hg hm (pa_cons pe_w pa_nil he) hdb he)
    (fun XC => match XC.fn with
      | ⟨oc, od, doc, pm, ctv, osl, lk⟩ => pmk_oexL XC.T iC tI (xinitL (w := X.w) (base := X.base) (CX := L2.CX X.prog X.w) XC hs doc pm ctv ⟨oc, od, osl, lk⟩) (C.hr.mono hk) (.all fun us hl => hb doc pm ctv us hl) (passes_call C.tk fun _ _ _ _ z => z.elim) hg hm (pa_cons pe_w pa_nil he) hdb he))) ?_
  refine h.then (goodF (D := D)) R hq fun d g1 v F1 H1 ex1 R1 dn1 hq1 => ?_
  cases d with
  | own _ => exact hq1.elim
  | m => exact hq1.elim
  | scr _ => exact hq1.elim
  | clo _ => exact hq1.elim
  | exc _ _ => exact hq1.elim
  | dic _ => exact hq1.elim
  | dki _ => exact hq1.elim
  | pu pd =>
    refine ⟨by show 1 ≤ 1000; decide, fun q hqn => ⟨q, v, rfl, upd_same, fun dx hd hn => ?_⟩⟩
    have hd1 : H1 dx = none := by rw [upd_ne hn] at hd; exact hd
    refine ⟨rfl, dx, [(et.fld c, v)], upd_same, by rw [upd_ne hn, upd_same], hd1, ?_⟩
    have eh : upd (del (upd (upd (upd H1 q (exo q (et.cls c) none)) dx (exd dx [(et.fld c, v)])) q (exo q (et.cls c) (some dx))) q) dx (.xd [(et.fld c, v)]) = upd H1 dx (.xd [(et.fld c, v)]) := by
      funext b
      by_cases h1 : b = dx
      · rw [h1, upd_same, upd_same]
      · rw [upd_ne h1, upd_ne h1]
        by_cases h2 : b = q
        · rw [h2, del_same, hqn]
        · rw [del_ne h2, upd_ne h2, upd_ne h1, upd_ne h2]
    rw [eh]
    obtain ⟨R2, ex2⟩ := R1.alloc hd1 (.xd [(et.fld c, v)])
    exact hq1 σ _ _ _ _ ex2 R2 ⟨rfl, dx, v, rfl, upd_same, Dn.up dn1 ex2.1⟩
end
end DL
set_option Elab.async false
set_option linter.all false
set_option maxRecDepth 100000
set_option maxHeartbeats 4000000
set_option autoImplicit false
namespace DL
open PySem PySem.Spec L2
open PyProof.Rows hiding St
def ExO (a : Addr) (o : Obj) : HO := .ext fun h => h.get? a = some o
theorem exO_own {a x : Addr} {o : Obj} : ExO a o ≠ .own x := fun z => by unfold ExO at z; cases z
theorem exO_tup {a : Addr} {o : Obj} {xs : List V} : ExO a o ≠ .tup xs := fun z => by unfold ExO at z; cases z
theorem exO_frz {a : Addr} {o b : Obj} {u : HO} : ExO a o ≠ .frz b u := fun z => by unfold ExO at z; cases z
theorem exO_tbl {a : Addr} {o : Obj} {ps : Array Value} : ExO a o ≠ .tbl ps := fun z => by unfold ExO at z; cases z
theorem exO_ok' {P : Program} {w : World} {H : Hp} {h : Heap} {a : Addr} {o : Obj} (e : h.get? a = some o) : ObjOk P w H h a (ExO a o) := ⟨e, ⟨o, e⟩, fun _ _ e1 k => k o e1⟩
theorem exO_at {P : Program} {w : World} {H : Hp} {h : Heap} {a : Addr} {o : Obj} (hok : HOk P w H h) (e : H a = some (ExO a o)) : h.get? a = some o := (hok a _ e).1
abbrev Obs := List (Addr × Obj)
def addC (H : Hp) (L : Obs) : Hp := fun b => match L.lookup b with
  | some o => some (ExO b o)
  | none => H b
def delC (H : Hp) (L : Obs) : Hp := fun b => match L.lookup b with
  | some _ => none
  | none => H b
theorem addC_in {H : Hp} {L : Obs} {b : Addr} {o : Obj} (h : L.lookup b = some o) : addC H L b = some (ExO b o) := by unfold addC; rw [h]
theorem addC_out {H : Hp} {L : Obs} {b : Addr} (h : L.lookup b = none) : addC H L b = H b := by unfold addC; rw [h]
theorem delC_in {H : Hp} {L : Obs} {b : Addr} {o : Obj} (h : L.lookup b = some o) : delC H L b = none := by unfold delC; rw [h]
theorem delC_out {H : Hp} {L : Obs} {b : Addr} (h : L.lookup b = none) : delC H L b = H b := by unfold delC; rw [h]
/-- untracked so far, and in the heap -/
def Cs (H : Hp) (h : Heap) (L : Obs) : Prop := ∀ b o, L.lookup b = some o → H b = none ∧ h.get? b = some o
/-- tracked -/
def Ct (H : Hp) (L : Obs) : Prop := ∀ b o, L.lookup b = some o → H b = some (ExO b o)
theorem Cs.out {H : Hp} {h : Heap} {L : Obs} (c : Cs H h L) {b : Addr} {u : HO} (e : H b = some u) : L.lookup b = none := by
  cases q : L.lookup b with
  | none => rfl
  | some o => rw [(c b o q).1] at e; cases e
theorem addC_same {H : Hp} {h : Heap} {L : Obs} (c : Cs H h L) : Same H (addC H L) := fun b u e => by rw [addC_out (c.out e)]; exact e
theorem Ct.out {H : Hp} {L : Obs} (c : Ct H L) {b : Addr} {u : HO} (e : H b = some u) (n : ∀ o, u ≠ ExO b o) : L.lookup b = none := by
  cases q : L.lookup b with
  | none => rfl
  | some o => rw [c b o q] at e; exact absurd (Option.some.inj e).symm (n o)
section
variable {P : Program} {w : World} {H H' : Hp} {h h' : Heap} {L : Obs} {fs : List Addr}
theorem addC_hok (hok : HOk P w H h) (c : Cs H h L) : HOk P w (addC H L) h := fun b u e => by
  cases q : L.lookup b with
  | some o =>
    rw [addC_in q] at e
    cases e
    exact exO_ok' (c b o q).2
  | none =>
    rw [addC_out q] at e
    exact (hok b u e).stay (fun _ _ _ y => y) (fun d y => addC_same c d _ y) fun d xs y => addC_same c d _ y
theorem delC_hok (hok : HOk P w H h) (c : Ct H L) : HOk P w (delC H L) h := fun b u e => by
  cases q : L.lookup b with
  | some o => rw [delC_in q] at e; cases e
  | none =>
    rw [delC_out q] at e
    refine (hok b u e).stay (fun _ _ _ y => y) (fun d y => ?_) fun d xs y => ?_
    · rw [delC_out (c.out y fun o z => exO_own z.symm)]; exact y
    · rw [delC_out (c.out y fun o z => exO_tup z.symm)]; exact y
/-- behind a call that knew them: forgotten again -/
theorem un_del (c : Cs H h L) (un : Un fs [] (addC H L) H' h h') (hok : HOk P w H' h') (t : Ct H' L) : Un fs [] H (delC H' L) h h' where
  keep := fun b o q n nf ne => by
    cases z : L.lookup b with
    | some o' =>
      have := (c b o' z).2
      rw [q] at this
      cases this
      exact exO_at hok (t b o z)
    | none => exact un.keep b o q (by rw [addC_out z]; exact n) nf ne
  slot := fun b o q n nf ne => by
    cases z : L.lookup b with
    | some o' =>
      have := (c b o' z).2
      rw [q] at this
      cases this
      exact ⟨o.slots, exO_at hok (t b o z)⟩
    | none => exact un.slot b o q (by rw [addC_out z]; exact n) nf ne
  free := fun b o q n ne => by
    cases z : L.lookup b with
    | some o' => exact delC_in z
    | none => rw [delC_out z]; exact un.free b o q (by rw [addC_out z]; exact n) ne
  there := fun b o q ne => un.there b o q ne
  tups := fun b xs q => by
    have z := c.out q
    rw [delC_out z]
    exact un.tups b xs (by rw [addC_out z]; exact q)
  frzs := fun b o u q => by
    have z := c.out q
    rw [delC_out z]
    exact un.frzs b o u (by rw [addC_out z]; exact q)
  tbls := fun b ps q => by
    have z := c.out q
    rw [delC_out z]
    exact un.tbls b ps (by rw [addC_out z]; exact q)
/-- behind a call that did not: known again -/
theorem un_add (hok : HOk P w H h) (t : Ct H L) (off : ∀ b ∈ fs, H b = none) (un : Un fs [] (delC H L) H' h h') : Un fs [] H (addC H' L) h h' ∧ Cs H' h' L := by
  have back : ∀ {b : Addr}, H b = none → L.lookup b = none := fun {b} n => by
    cases z : L.lookup b with
    | none => rfl
    | some o => rw [t b o z] at n; cases n
  refine ⟨⟨fun b o q n nf ne => ?_, fun b o q n nf ne => ?_, fun b o q n ne => ?_, fun b o q ne => un.there b o q ne, fun b xs q => ?_, fun b o u q => ?_, fun b ps q => ?_⟩, fun b o z => ?_⟩
  · exact un.keep b o q (by rw [delC_out (back n)]; exact n) nf ne
  · exact un.slot b o q (by rw [delC_out (back n)]; exact n) nf ne
  · rw [addC_out (back n)]
    exact un.free b o q (by rw [delC_out (back n)]; exact n) ne
  · have z := t.out q fun o z => exO_tup z.symm
    rw [addC_out z]
    exact un.tups b xs (by rw [delC_out z]; exact q)
  · have z := t.out q fun o z => exO_frz z.symm
    rw [addC_out z]
    exact un.frzs b o u (by rw [delC_out z]; exact q)
  · have z := t.out q fun o z => exO_tbl z.symm
    rw [addC_out z]
    exact un.tbls b ps (by rw [delC_out z]; exact q)
  · have e := exO_at hok (t b o z)
    have n : delC H L b = none := delC_in z
    have nf : b ∉ fs := fun hb => by
      have := off b hb
      rw [t b o z] at this
      cases this
    exact ⟨un.free b o e n (by simp), un.keep b o e n nf (by simp)⟩
end
theorem env0_add {P : Program} {w : World} {K : PySem.W.Frag} {mg : Str → Option Value} {base : Heap} {A : Around} {outer : List Env} {s : Shared} {H : Hp} {L : Obs} (e : Env0 P w K mg base A outer s H) (c : Cs H s.heap L) (nb : ∀ b o, L.lookup b = some o → base.get? b = none) (nf : ∀ b o, L.lookup b = some o → b ∉ frs outer) : Env0 P w K mg base A outer s (addC H L) :=
  ⟨e.frames, e.mod, fun b o q => by
    cases z : L.lookup b with
    | some o' => rw [nb b o' z] at q; cases q
    | none => rw [addC_out z]; exact e.bs b o q, e.bsz, e.funs, fun b q => by
    cases z : L.lookup b with
    | some o' => exact absurd q (nf b o' z)
    | none => rw [addC_out z]; exact e.frf b q, addC_hok e.hok c, e.bare⟩
theorem env0_del {P : Program} {w : World} {K : PySem.W.Frag} {mg : Str → Option Value} {base : Heap} {A : Around} {outer : List Env} {s : Shared} {H : Hp} {L : Obs} (e : Env0 P w K mg base A outer s H) (t : Ct H L) : Env0 P w K mg base A outer s (delC H L) :=
  ⟨e.frames, e.mod, fun b o q => by
    obtain ⟨h1, h2⟩ := e.bs b o q
    refine ⟨h1, ?_⟩
    cases z : L.lookup b with
    | some o' => exact delC_in z
    | none => rw [delC_out z]; exact h2, e.bsz, e.funs, fun b q => by
    cases z : L.lookup b with
    | some o' => exact delC_in z
    | none => rw [delC_out z]; exact e.frf b q, delC_hok e.hok t, e.bare⟩
/-- the errors and tables alone -/
def etB (et : ET) : ET := ⟨et.hs, et.cls, et.fld, et.T, fun _ _ _ _ => False, fun _ _ _ _ _ _ h => h⟩
def upR : Rs MS PyData → Rs MS DV
  | .ok d s => .ok (.pu d) s
  | .ex c p s => .ex c p s
  | .no => .no
def CloOk (P : Program) (w : World) (K : PySem.W.Frag) (mg : Str → Option Value) (base : Heap) (eb : ET) (k : Nat) (G : MS → Rs MS PyData) (am : Addr) (F : Hp) (v : V) : Prop :=
  ∃ f o, v = .ref f ∧ F f = some (ExO f o) ∧ (∀ h : Heap, h.get? f = some o → PySem.W.FnAt f h) ∧ ∀ (A : Around) (outer : List Env) (s : Shared) (H F' : Hp) (ms : MS) (Q : VK) (E : XK), Room k A → A.guards = some [] → Env0 P w K mg base A outer s H → Same F F' → Same F' H → Fz eb am F' H → MRel K eb am F' H ms →
    OkC K eb am F' H Q E (upR (G ms)) → codeAny (model P w) A (.call (.ref f) ⟨[], []⟩) (CR (L2.CX P w) outer P w H s Q E) s
theorem CloOk.mono {P : Program} {w : World} {K : PySem.W.Frag} {mg : Str → Option Value} {base : Heap} {eb : ET} {k : Nat} (G : MS → Rs MS PyData) (am : Addr) (F F' : Hp) (v : V) (s : Same F F') (h : CloOk P w K mg base eb k G am F v) : CloOk P w K mg base eb k G am F' v := by
  obtain ⟨f, o, e, e2, e3, r⟩ := h
  exact ⟨f, o, e, s _ _ e2, e3, fun A outer st H F2 ms Q E hr hg e0 s2 => r A outer st H F2 ms Q E hr hg e0 (Same.tr s s2)⟩
theorem Fz.b {et : ET} {am : Addr} {F H : Hp} (f : Fz et am F H) : Fz (etB et) am F H := ⟨f.am, f.tabs, f.off⟩
theorem Fz.ub {et : ET} {am : Addr} {F H : Hp} (f : Fz (etB et) am F H) : Fz et am F H := ⟨f.am, f.tabs, f.off⟩
theorem MRel.etc {K : PySem.W.Frag} {et et' : ET} {am : Addr} {F H : Hp} {s : MS} (q : et.hs = et'.hs ∧ et.cls = et'.cls ∧ et.fld = et'.fld) (h : MRel K et am F H s) : MRel K et' am F H s := by
  obtain ⟨ac, e, d⟩ := h
  exact ⟨ac, e, Dn.etc q d.1, d.2.etc q⟩
theorem ExRel.ub {K : PySem.W.Frag} {et : ET} {F H : Hp} {c : Nat} {p : PyData} {cls : Value} {d : Option Addr} (h : ExRel K (etB et) F H c p cls d) : ExRel K et F H c p cls d := by
  obtain ⟨e, da, v, h1, h2, h3⟩ := h
  exact ⟨e, da, v, h1, h2, Dn.etc (et := etB et) (et' := et) ⟨rfl, rfl, rfl⟩ h3⟩
theorem OkC.b {K : PySem.W.Frag} {et : ET} {am : Addr} {F H : Hp} {Q : VK} {E : XK} {r : Rs MS PyData} (h : OkC K et am F H Q E (upR r)) : OkC K (etB et) am F H Q E (upR r) := by
  cases r with
  | ok d s => exact fun v F' H' x1 x2 x3 x4 x5 x6 => h v F' H' x1 x2 x3.ub x4 (MRel.etc (et := etB et) (et' := et) ⟨rfl, rfl, rfl⟩ x5) (Dn.etc (et := etB et) (et' := et) ⟨rfl, rfl, rfl⟩ x6)
  | ex c p s => exact fun cls dx F' H' x1 x2 x3 x4 x5 x6 => h cls dx F' H' x1 x2 x3.ub x4 (MRel.etc (et := etB et) (et' := et) ⟨rfl, rfl, rfl⟩ x5) x6.ub
  | no => exact h
/-- call(), call being a lambda -/
def mCallC (i : Nat) (g : Sg) : Rs Sg DV := match g.r[i]? with
  | some (some (.clo G)) => (match G g.s with
    | .ok d s => .ok (.pu d) { g with s := s }
    | .ex c p s => .ex c p { g with s := s }
    | .no => .no)
  | _ => .no
section
variable {X : Cx} {et : ET} {W : WX}
theorem de_callC {k j i : Nat} {a : Str} {p1 p2 : Pos} (C : Here X k W) (hΦ : et.Φ = CloOk X.prog X.w X.K X.mg X.base (etB et) j) (hj : j ≤ k) (hN : X.N[i]? = some a := by rfl) (hv : Vis X.env.scope a := by first | exact Or.inl rfl | exact Or.inr (Or.inl rfl) | exact Or.inr (Or.inr rfl)) (hd : (a == ("__debug__" : Str)) = false := by decide) (hcd : (a == ("__classdict__" : Str)) = false := by decide) :
    DE X et W (.Call (.Name a p1) [] [] p2) (mCallC i) := fun am B F g σ H Q R hq => by
  unfold mCallC at hq
  split at hq
  · rename_i G e
    obtain ⟨v, e1, e2⟩ := R.slot i _ e
    have e2 : et.Φ G am F v := e2
    rw [hΦ] at e2
    obtain ⟨f, o, rfl, ef, hfn, run⟩ := e2
    refine ⟨fun pins s I => ?_⟩
    refine wpAny_Call_Name_kw (thn ((pe_var (pos := p1) (i := i) hN hv hd hcd).run pins s σ H (fun v H1 => v = .ref f ∧ H1 = H) I ⟨.ref f, e1, rfl, rfl⟩) fun u s1 ⟨v, H1, I1, r1, q1⟩ => ?_)
    obtain ⟨ev, eH⟩ := q1
    subst ev
    rw [eH] at I1
    obtain rfl : u = Value.ref f := r1
    have fo := exO_at I1.hok (R.sub _ _ ef)
    refine PySem.W.callWith_F0 (hfn _ fo) ?_
    have ok : OkC X.K et am F H Q (WE W σ) (upR (G g.s)) := by
      cases q : G g.s with
      | ok d s' =>
        simp only [q] at hq
        intro v F' H' ex sub fam fr mr dn
        obtain ⟨R', ex'⟩ := R.after ex sub fam fr mr
        exact hq v F' H' ex' R' dn
      | ex c p s' =>
        simp only [q] at hq
        intro cls dx F' H' ex sub fam fr mr r
        obtain ⟨R', ex'⟩ := R.after ex sub fam fr mr
        exact hq cls dx F' H' ex' R' r
      | no => simp only [q] at hq; exact hq
    refine wpAny_call (codeAny_mono (run X.A X.stack s1 H F g.s Q (WE W σ) (C.hr.mono hj) C.hg I1.env0 Same.rfl' R.sub R.fam.b (MRel.etc (et := et) (et' := etB et) ⟨rfl, rfl, rfl⟩ R.ms) ok.b) fun rr s' hq' => ?_)
    match rr, hq' with
    | .error e, hq' => exact passAt C.tk σ pins H s1 e s' I1 hq'
    | .ok (.ret u), hq' => exact I1.after hq'
    | .ok .next, hq' => exact hq'.elim
    | .ok .brk, hq' => exact hq'.elim
    | .ok .cont, hq' => exact hq'.elim
  · exact hq.elim
end
end DL
set_option Elab.async false
set_option linter.all false
set_option maxRecDepth 100000
set_option maxHeartbeats 4000000
set_option autoImplicit false
namespace DL
open PySem PySem.Spec L2
open PyProof.Rows hiding St
abbrev lamFn (qual : Str) (params : Arguments) (body : Expr) (scope : Scope) (cl : List (Str × Addr)) (dV pm cdv ct : Value) : FuncData :=
  { name := "<lambda>", qualname := qual, params := params, body := .expr body, scope := scope, globals := mainGlobals, closure := cl, defaults := dV, kwdefaults := .none, doc := .none, pyModule := pm, annotations := none, code := cdv, closureTuple := ct, builtins := builtinsNs }
abbrev lamObj (qual : Str) (params : Arguments) (body : Expr) (scope : Scope) (cl : List (Str × Addr)) (dV pm cdv ct : Value) : Obj :=
  { cls := .type "function", data := .func (lamFn qual params body scope cl dV pm cdv ct) }
section
variable {M : Model} {A : Around} {E : Value → Shared → Prop} {s : Shared} {qual : Str} {params : Arguments} {body : Expr} {scope : Scope} {env : Env} {c P : Addr} {ps : Array Value} {pos : Pos} {line : Nat} {mg : Str → Option Value} {cl : List (Str × Addr)} {dV : Value} {Q : Value → Shared → Prop}
/-- behind the code object -/
theorem lam_rest {h' : Heap} {tk : Nat} {cv ctv : Value} (hx : Heap.ExtBut P s.heap h') (hg : s.heap.Ns mainGlobals mg) (gP : mainGlobals ≠ P) (hb : s.heap.BuiltinsAt mg P) (eg : env.globals = mainGlobals)
    (h : Q (.ref h'.objs.size) { s with heap := h'.push (lamObj qual params body scope cl dV ((mg "__name__").getD .none) cv ctv), toks := tk }) :
    wpAny M A (do
      let bt ← builtinsFor env.globals env.builtins
      let nm ← nsGet env.globals "__name__"
      newObj (.type "function") (.func { name := "<lambda>", qualname := qual, params := params, body := .expr body, scope := scope, globals := env.globals, closure := cl, closureTuple := ctv, code := cv, builtins := bt, defaults := dV, kwdefaults := .none, annotations := none, pyModule := nm.getD .none, doc := .none })) Q E { s with heap := h', toks := tk } := by
  obtain ⟨bm, ob, b1, b2, _, b3, b4, b5, b6, b7⟩ := hb
  have g' := hg.extBut hx gP
  rw [eg]
  refine wpAny_bind (wpAny_builtinsFor g' b1 b2 (hx _ _ b3 b4) b5 b6 b7 ?_)
  refine wpAny_bind (wpAny_nsGet g' ?_)
  exact wpAny_newObj_type h (by size_fits)
theorem lam_tail (hcl : closureFor scope env = pure cl) (eg : env.globals = mainGlobals) (hg : s.heap.Ns mainGlobals mg) (hcode : env.code = .ref c) (C : PySem.W.CodeHd s.heap c P) (hP : s.heap.get? P = some { cls := .none, data := .fields ps }) (ht : TriplesOk ps.toList) (gP : mainGlobals ≠ P) (hb : s.heap.BuiltinsAt mg P)
    (new : codeAmong pos ps.toList = none → ∀ c' ctv h' tk, Heap.ExtBut P s.heap h' → s.heap.objs.size ≤ c' → c' < h'.objs.size → h'.CodeRec (.ref c') qual → h'.get? P = some { cls := .none, data := .fields (ps ++ #[rawInt pos.line, rawInt pos.col, .ref c']) } →
      Q (.ref h'.objs.size) { s with heap := h'.push (lamObj qual params body scope cl dV ((mg "__name__").getD .none) (.ref c') ctv), toks := tk })
    (hit : ∀ cv, codeAmong pos ps.toList = some cv → ∀ (ctv : Value) (h' : Heap) (tk : Nat), (∀ b o, s.heap.get? b = some o → h'.get? b = some o) → s.heap.objs.size ≤ h'.objs.size →
      Q (.ref h'.objs.size) { s with heap := h'.push (lamObj qual params body scope cl dV ((mg "__name__").getD .none) cv ctv), toks := tk }) :
    wpAny M A (makeTail "<lambda>" qual params (.expr body) scope env dV .none none pos line) Q E s := by
  unfold makeTail
  rw [hcl]
  refine wpAny_bind (wpAny_pure ?_)
  have go : ∀ (ctv : Value) (s1 : Shared) (hs : ∀ b o, s.heap.get? b = some o → s1.heap.get? b = some o) (hz : s.heap.objs.size ≤ s1.heap.objs.size) (e1 : s1 = { s with heap := s1.heap, toks := s1.toks }),
      wpAny M A (do
        let cv ← functionCode env pos line "<lambda>" qual params scope (.expr body)
        let bt ← builtinsFor env.globals env.builtins
        let nm ← nsGet env.globals "__name__"
        newObj (.type "function") (.func { name := "<lambda>", qualname := qual, params := params, body := .expr body, scope := scope, globals := env.globals, closure := cl, closureTuple := ctv, code := cv, builtins := bt, defaults := dV, kwdefaults := .none, annotations := none, pyModule := nm.getD .none, doc := .none })) Q E s1 := fun ctv s1 hs hz e1 => by
    have C1 := C.keeps hs
    have g1 := hg.keeps hs
    have b1 := hb.keeps hs
    cases q : codeAmong pos ps.toList with
    | none =>
      refine wpAny_bind (wpAny_functionCodeX hcode (C1.code (hs _ _ hP) ht) (C1.tab (hs _ _ hP)) q fun c' h' tk hx hge hlt _ hrec htb _ => ?_)
      refine lam_rest (s := s1) hx g1 gP b1 eg ?_
      rw [e1]
      exact new q c' ctv h' tk (fun b o hb e => hx b o hb (hs b o e)) (Nat.le_trans hz hge) hlt hrec htb.2
    | some cv =>
      refine wpAny_bind (wpAny_functionCode_hit hcode (C1.code (hs _ _ hP) ht) q ?_)
      refine lam_rest (s := s1) (h' := s1.heap) (tk := s1.toks) (fun b o _ e => e) g1 gP b1 eg ?_
      rw [e1]
      exact hit cv q ctv s1.heap s1.toks hs hz
  cases cl with
  | nil =>
    simp only [List.isEmpty_nil, if_true]
    exact wpAny_bind (wpAny_pure (go .none s (fun _ _ e => e) (Nat.le_refl _) rfl))
  | cons q r =>
    simp only [List.isEmpty_cons, Bool.false_eq_true, if_false]
    exact wpAny_bind (wpAny_newTextTuple (go _ _ (fun b o e => Heap.get?_push_of_some _ e) (by rw [Heap.size_push]; omega) rfl))
/-- the default, if there is one: a number -/
def DfOk (H : Hp) (df : Option Int) (dV : Value) : Prop := match df with
  | none => dV = .none
  | some i => ∃ T, dV = .ref T ∧ H T = some (.tup [.int i])
end
section
variable {X : Cx} {pins : List (Addr × Obj)} {σ : L2.St} {H : Hp} {s : Shared} {T : List (Addr × Str)} {c P : Addr}
theorem tabs_new {ps : Array Value} {q : Str} {c' : Addr} {pos : Pos} (hT : LamX.Tabs T H) (hP : H P = some (.tbl ps)) (ht : TriplesOk ps.toList) (ha : ∀ (pos : Pos) (cv : Value), codeAmong pos ps.toList = some cv → ∃ c, cv = .ref c ∧ H c = some (LamX.CodeO c q)) (hu : ∀ p ∈ T, p.1 = P → p.2 = q) (nC : H c' = none) :
    LamX.Tabs T (upd (upd H P (.tbl (ps ++ #[rawInt pos.line, rawInt pos.col, .ref c']))) c' (LamX.CodeO c' q)) ∧ ∀ b o, H b = some o → b ≠ P → (upd (upd H P (.tbl (ps ++ #[rawInt pos.line, rawInt pos.col, .ref c']))) c' (LamX.CodeO c' q)) b = some o := by
  have stays : ∀ b o, H b = some o → b ≠ P → (upd (upd H P (.tbl (ps ++ #[rawInt pos.line, rawInt pos.col, .ref c']))) c' (LamX.CodeO c' q)) b = some o := fun b o e n2 => by
    have n1 : b ≠ c' := ne_of_none e nC
    rw [upd_ne n1, upd_ne n2]
    exact e
  refine ⟨fun p hp => ?_, stays⟩
  have nl : (ps ++ #[rawInt pos.line, rawInt pos.col, .ref c']).toList = ps.toList ++ [rawInt pos.line, rawInt pos.col, .ref c'] := by simp
  by_cases z : p.1 = P
  · rw [hu p hp z, z]
    refine ⟨_, by rw [upd_ne (ne_of_none hP nC), upd_same], by rw [nl]; exact PySem.TriplesOk_snoc _ _ _ _ ht, fun p' cv hc => ?_⟩
    rw [nl] at hc
    rcases LamX.among_app _ ht hc with y | y
    · obtain ⟨d, e1, e2⟩ := ha p' cv y
      exact ⟨d, e1, stays _ _ e2 (ne_of e2 hP (LamX.codeO_ne _))⟩
    · exact ⟨c', y, upd_same⟩
  · obtain ⟨qs, a1, a2, a3⟩ := hT p hp
    refine ⟨qs, by rw [upd_ne (ne_of_none a1 nC), upd_ne z]; exact a1, a2, fun p' cv hc => ?_⟩
    obtain ⟨d, e1, e2⟩ := a3 p' cv hc
    exact ⟨d, e1, stays _ _ e2 (ne_of e2 hP (LamX.codeO_ne _))⟩
theorem lam_core {params : Arguments} {body : Expr} {scope : Scope} {pos : Pos} {line : Nat} {dV : Value} {E : Value → Shared → Prop} {Q : Value → Shared → Prop} (I : Inv X pins σ H s) (TB : LamX.TabB X.base X.mg c P) (hcode : X.env.code = .ref c)
    (hm : (P, X.env.qual ++ "<lambda>") ∈ T) (hu : ∀ p ∈ T, p.1 = P → p.2 = X.env.qual ++ "<lambda>") (hT : LamX.Tabs T H) (hfree : ∀ y ∈ scope.names, y.2 = .free → ∃ c, X.env.cells.lookup y.1 = some c)
    (h : ∀ (f c' : Addr) (pm ctv : Value) (H1 : Hp) (s' : Shared), Inv X pins σ H1 s' → (∀ b o, H b = some o → b ≠ P → H1 b = some o) → LamX.Tabs T H1 → H f = none → H1 f = some (ExO f (lamObj (X.env.qual ++ "<lambda>") params body scope (cloFrom X.env.cells scope.names []) dV pm (.ref c') ctv)) → H1 c' = some (LamX.CodeO c' (X.env.qual ++ "<lambda>")) → Q (.ref f) s') :
    wpAny (model X.prog X.w) X.A (makeTail "<lambda>" (X.env.qual ++ "<lambda>") params (.expr body) scope X.env dV .none none pos line) Q E s := by
  obtain ⟨ps, hP, ht, ha⟩ := hT _ hm
  have hP' : s.heap.get? P = some { cls := .none, data := .fields ps } := I.hok P _ hP
  refine lam_tail (mg := X.mg) (c := c) (P := P) (ps := ps) (closure_ok hfree) I.ok.glob (I.mod.glob.keeps I.bk) hcode (TB.code.keeps I.bk) hP' ht TB.gP (TB.bm.keeps I.bk) (fun hn c' ctv h' tk hx hge hlt hrec htb => ?_) (fun cv hc ctv h' tk hx hsz => ?_)
  · obtain ⟨c2, oc, us, t, e2, hoc, hd, hv⟩ := hrec
    cases e2
    have nC : H c' = none := I.hok.fresh hge
    obtain ⟨T1, eN⟩ := tabs_new (pos := pos) hT hP ht ha hu nC
    have I1 := LamX.inv_table (t' := tk) (more := #[rawInt pos.line, rawInt pos.col, .ref c']) (h' := h') (q := X.env.qual ++ "<lambda>") I hP hx htb hge ⟨oc, us, t, hoc, hd, hv⟩
    have nf : (upd (upd H P (.tbl (ps ++ #[rawInt pos.line, rawInt pos.col, .ref c']))) c' (LamX.CodeO c' (X.env.qual ++ "<lambda>"))) h'.objs.size = none := I1.hok.fresh (Nat.le_refl _)
    have hsz : s.heap.objs.size ≤ h'.objs.size := Nat.le_trans hge (Nat.le_of_lt hlt)
    have I2 := I1.laid (t' := tk) (a := h'.objs.size) (o := ExO h'.objs.size (lamObj (X.env.qual ++ "<lambda>") params body scope (cloFrom X.env.cells scope.names []) dV ((X.mg "__name__").getD .none) (.ref c') ctv)) (h' := h'.push _) (fun b u e => Heap.get?_push_of_some _ e) (Nat.le_refl _) (exO_ok' (Heap.get?_push_size _ rfl))
    refine h h'.objs.size c' _ ctv _ _ I2 (fun b o e n => ?_) (Tabs.new T1 nf _) (I.hok.fresh hsz) upd_same ?_
    · have y := eN b o e n
      rw [upd_ne (ne_of_none y nf)]
      exact y
    · rw [upd_ne (Nat.ne_of_lt hlt), upd_same]
  · obtain ⟨c', e, hco⟩ := ha pos cv hc
    subst e
    have I1 : Inv X pins σ H { s with heap := h', toks := tk } := I.kept hx
    have nf : H h'.objs.size = none := I.hok.fresh hsz
    have I2 := I1.laid (t' := tk) (a := h'.objs.size) (o := ExO h'.objs.size (lamObj (X.env.qual ++ "<lambda>") params body scope (cloFrom X.env.cells scope.names []) dV ((X.mg "__name__").getD .none) (.ref c') ctv)) (h' := h'.push _) (fun b u e => Heap.get?_push_of_some _ e) (Nat.le_refl _) (exO_ok' (Heap.get?_push_size _ rfl))
    refine h h'.objs.size c' _ ctv _ _ I2 (fun b o e _ => ?_) (Tabs.new hT nf _) nf upd_same ?_
    · rw [upd_ne (ne_of_none e nf)]
      exact e
    · rw [upd_ne (ne_of_none hco nf)]
      exact hco
/-- its default, written: a number, or none -/
def DfOf (params : Arguments) (env : Env) : Option Int → Prop
  | none => defaultsOf params env = ([], [])
  | some i => ∃ k p, defaultsOf params env = ([eval (.Constant (.int i) k p) env], [])
theorem lam_mk {params : Arguments} {body : Expr} {scope : Scope} {pos : Pos} {df : Option Int} {E : Value → Shared → Prop} {Q : Value → Shared → Prop} (I : Inv X pins σ H s) (TB : LamX.TabB X.base X.mg c P) (hcode : X.env.code = .ref c)
    (hm : (P, X.env.qual ++ "<lambda>") ∈ T) (hu : ∀ p ∈ T, p.1 = P → p.2 = X.env.qual ++ "<lambda>") (hT : LamX.Tabs T H) (hfree : ∀ y ∈ scope.names, y.2 = .free → ∃ c, X.env.cells.lookup y.1 = some c) (hdf : DfOf params X.env df)
    (h : ∀ (f c' : Addr) (dV pm ctv : Value) (H1 : Hp) (s' : Shared), Inv X pins σ H1 s' → (∀ b o, H b = some o → b ≠ P → H1 b = some o) → LamX.Tabs T H1 → H f = none → H1 f = some (ExO f (lamObj (X.env.qual ++ "<lambda>") params body scope (cloFrom X.env.cells scope.names []) dV pm (.ref c') ctv)) → H1 c' = some (LamX.CodeO c' (X.env.qual ++ "<lambda>")) → DfOk H1 df dV → (∀ T, dV = .ref T → H T = none) → Q (.ref f) s') :
    wpAny (model X.prog X.w) X.A (eval (.Lambda params body scope pos) X.env) Q E s := by
  rw [arm_eval_Lambda]
  cases df with
  | none =>
    rw [show defaultsOf params X.env = ([], []) from hdf]
    show wpAny _ _ (do let dv ← evalAll []; let kdv ← holding dv (evalAllOpt []); makeFunction "<lambda>" (X.env.qual ++ "<lambda>") params (.expr body) scope X.env dv kdv [] pos pos.line) Q E s
    refine wpAny_bind (wpAny_pure (wpAny_bind (wpAny_holding (wpAny_pure ?_))))
    rw [makeFunction_eq]
    simp only [List.zip_nil_right, List.filterMap_nil, List.isEmpty_nil, if_true, pure_bind]
    exact lam_core I TB hcode hm hu hT hfree fun f c' pm ctv H1 s' I1 eN T1 nf hf hc => h f c' .none pm ctv H1 s' I1 eN T1 nf hf hc rfl (fun T z => by cases z)
  | some i =>
    obtain ⟨k, p, e⟩ := hdf
    rw [e]
    show wpAny _ _ (do let dv ← evalAll [eval (.Constant (.int i) k p) X.env]; let kdv ← holding dv (evalAllOpt []); makeFunction "<lambda>" (X.env.qual ++ "<lambda>") params (.expr body) scope X.env dv kdv [] pos pos.line) Q E s
    refine wpAny_bind ?_
    unfold evalAll
    refine wpAny_bind (thn ((pe_int (X := X) (i := i) (j := k) (pos := p)).run pins s σ H (fun v H1 => v = .int i ∧ H1 = H) I ⟨rfl, rfl⟩) fun u s1 ⟨v, H1, I1, r1, q1⟩ => ?_)
    obtain ⟨ev, eH⟩ := q1
    subst ev
    rw [eH] at I1
    obtain ⟨t, rfl⟩ := r1
    refine wpAny_bind (wpAny_holding (wpAny_pure (wpAny_pure ?_)))
    refine wpAny_bind (wpAny_holding (wpAny_pure ?_))
    rw [makeFunction_eq]
    simp only [List.zip_nil_right, List.filterMap_nil, List.isEmpty_nil, List.isEmpty_cons, if_true, Bool.false_eq_true, if_false, pure_bind]
    refine wpAny_bind (wpAny_newTextTuple ?_)
    have nf : H s1.heap.objs.size = none := I1.hok.fresh (Nat.le_refl _)
    have I2 := I1.laid (t' := s1.toks) (a := s1.heap.objs.size) (o := .tup [.int i]) (h' := s1.heap.push { cls := .type "tuple", data := .seq [Value.int i t].toArray }) (fun b u e => Heap.get?_push_of_some _ e) (Nat.le_refl _) ⟨by show 1 ≤ sizeLine; decide, [Value.int i t], .cons ⟨t, rfl⟩ .nil, IsTup.new _ _⟩
    have nPt : s1.heap.objs.size ≠ P := fun z => by
      obtain ⟨ps, hP, _⟩ := hT _ hm
      rw [← z] at hP
      rw [show H s1.heap.objs.size = some (.tbl ps) from hP] at nf
      cases nf
    refine lam_core I2 TB hcode hm hu (Tabs.new hT nf _) hfree fun f c' pm ctv H1 s' J eN T1 nf1 hf hc => h f c' _ pm ctv H1 s' J (fun b o e n => eN b o (by rw [upd_ne (ne_of_none e nf)]; exact e) n) T1 ?_ hf hc ⟨_, rfl, eN _ _ upd_same nPt⟩ (fun T z => by cases z; exact nf)
    by_cases z : f = s1.heap.objs.size
    · rw [z]; exact nf
    · rw [upd_ne z] at nf1; exact nf1
end
end DL
set_option Elab.async false
set_option linter.all false
set_option maxRecDepth 100000
set_option maxHeartbeats 4000000
set_option autoImplicit false
namespace DL
open PySem PySem.Spec L2
open PyProof.Rows hiding St
structure Seqs (F F2 : Hp) : Prop where
  k : ∀ a xs, F a = some (.dK xs) → F2 a = some (.dK xs)
  l : ∀ a xs, F a = some (.lst xs) → F2 a = some (.lst xs)
  t : ∀ a xs, F a = some (.tup xs) → F2 a = some (.tup xs)
  z : ∀ a o u, F a = some (.frz o u) → F2 a = some (.frz o u)
  x : ∀ a e C d, F a = some (XO e C d) → F2 a = some (XO e C d)
  d : ∀ a fs, F a = some (.xd fs) → F2 a = some (.xd fs)
  o : ∀ a e C, F a = some (L2.ExO (.ref C) e) → F2 a = some (L2.ExO (.ref C) e)
theorem SqT.seqs {K : PySem.W.Frag} {F F2 : Hp} {a : Addr} {xs : List V} (s : Seqs F F2) (h : SqT K F a xs) : SqT K F2 a xs := by
  rcases h with (h | ⟨o, h⟩) | h
  · exact .inl (.inl (s.t _ _ h))
  · exact .inl (.inr ⟨o, s.z _ _ _ h⟩)
  · exact .inr h
mutual
theorem Dn.seqs {K : PySem.W.Frag} {et : ET} {F F2 : Hp} (s : Seqs F F2) : ∀ {v : V} {d : PyData}, Dn K et F v d → Dn K et F2 v d
  | _, _, .non => .non
  | _, _, .bl b => .bl b
  | _, _, .int i => .int i
  | _, _, .str x => .str x
  | _, _, .lst a b => .lst (s.l _ _ a) (DnAll.seqs s b)
  | _, _, .tup a b => .tup (SqT.seqs s a) (DnAll.seqs s b)
  | _, _, .dcx a b => .dcx (s.z _ _ _ a) (DnKv.seqs s b)
  | _, _, .dck n a b => .dck n (s.z _ _ _ a) (DnKk.seqs s b)
  | _, _, .err a b c => .err (s.x _ _ _ _ a) (s.d _ _ b) (Dn.seqs s c)
  | _, _, .er0 a => .er0 (s.o _ _ _ a)
  | _, _, .fil a => .fil (s.z _ _ _ a)
theorem DnAll.seqs {K : PySem.W.Frag} {et : ET} {F F2 : Hp} (s : Seqs F F2) : ∀ {vs : List V} {ds : List PyData}, DnAll K et F vs ds → DnAll K et F2 vs ds
  | _, _, .nil => .nil
  | _, _, .cons a b => .cons (Dn.seqs s a) (DnAll.seqs s b)
theorem DnKv.seqs {K : PySem.W.Frag} {et : ET} {F F2 : Hp} (s : Seqs F F2) : ∀ {es : List (NestedKey × Addr × V)} {kvs : List (PyData × PyData)}, DnKv K et F es kvs → DnKv K et F2 es kvs
  | _, _, .nil => .nil
  | _, _, .cons a a2 b c r => .cons a a2 (Dn.seqs s b) (Dn.seqs s c) (DnKv.seqs s r)
theorem DnKk.seqs {K : PySem.W.Frag} {et : ET} {F F2 : Hp} (s : Seqs F F2) : ∀ {es : List (Key × V)} {kvs : List (PyData × PyData)}, DnKk K et F es kvs → DnKk K et F2 es kvs
  | _, _, .nil => .nil
  | _, _, .int n c r => .int n (Dn.seqs s c) (DnKk.seqs s r)
  | _, _, .str c r => .str (Dn.seqs s c) (DnKk.seqs s r)
end
theorem exO_lst {a : Addr} {o : Obj} {xs : List V} : ExO a o ≠ .lst xs := fun z => by unfold ExO at z; cases z
theorem exO_dK {a : Addr} {o : Obj} {xs : List (Key × V)} : ExO a o ≠ .dK xs := fun z => by unfold ExO at z; cases z
theorem exO_xd {a : Addr} {o : Obj} {xs : List (Str × V)} : ExO a o ≠ .xd xs := fun z => by unfold ExO at z; cases z
/-- a heap of one kind of objects -/
def heapOf (c : Addr) (cl : Value) (d : Option Addr) (vs : Array Value) : Heap := { objs := Array.replicate (c + 1) { cls := cl, dict := d, data := .fields vs } }
theorem heapOf_get {c : Addr} {cl : Value} {d : Option Addr} {vs : Array Value} : (heapOf c cl d vs).get? c = some { cls := cl, dict := d, data := .fields vs } := by
  unfold heapOf Heap.get?
  simp [Array.getElem?_replicate]
theorem heapOf_any {c a : Addr} {cl : Value} {d : Option Addr} {vs : Array Value} {u : Obj} (e : (heapOf c cl d vs).get? a = some u) : u = { cls := cl, dict := d, data := .fields vs } := by
  unfold heapOf Heap.get? at e
  simp only [Array.getElem?_replicate] at e
  split at e
  · cases e
  · rename_i hq
    split at e
    · cases e; rfl
    · cases e
theorem exO_XO {a e C d : Addr} {o : Obj} : XO e C d ≠ ExO a o := fun z => by
  unfold XO ExO at z
  have y := HO.ext.inj z
  have y1 := congrFun y (heapOf e (.ref C) (some d) #[])
  have y2 := congrFun y (heapOf e (.ref C) (some d) #[.none])
  have w1 := heapOf_any (y1.mp ⟨_, _, heapOf_get, rfl, rfl, rfl⟩)
  have w2 := heapOf_any (y2.mp ⟨_, _, heapOf_get, rfl, rfl, rfl⟩)
  rw [w1] at w2
  have := congrArg Obj.data w2
  cases this
theorem exO_ExO {a e C : Addr} {o : Obj} : L2.ExO (.ref C) e ≠ ExO a o := fun z => by
  unfold L2.ExO ExO at z
  have y := HO.ext.inj z
  have y1 := congrFun y (heapOf e (.ref C) none #[.none, .none, .none, .none, .none])
  have y2 := congrFun y (heapOf e (.ref C) none #[.none, .none, .none, .none, .none, .none])
  have w1 := heapOf_any (y1.mp ⟨_, _, heapOf_get, ⟨rfl, rfl⟩, rfl, rfl, rfl, by decide⟩)
  have w2 := heapOf_any (y2.mp ⟨_, _, heapOf_get, ⟨rfl, rfl⟩, rfl, rfl, rfl, by decide⟩)
  rw [w1] at w2
  have := congrArg Obj.data w2
  cases this
theorem seqs_del {F : Hp} {L : Obs} (c : Ct F L) : Seqs F (delC F L) :=
  ⟨fun a xs e => by rw [delC_out (c.out e fun o z => exO_dK z.symm)]; exact e, fun a xs e => by rw [delC_out (c.out e fun o z => exO_lst z.symm)]; exact e, fun a xs e => by rw [delC_out (c.out e fun o z => exO_tup z.symm)]; exact e, fun a o u e => by rw [delC_out (c.out e fun o z => exO_frz z.symm)]; exact e,
    fun a e C d h => by rw [delC_out (c.out h fun o z => exO_XO z)]; exact h, fun a fs h => by rw [delC_out (c.out h fun o z => exO_xd z.symm)]; exact h, fun a e C h => by rw [delC_out (c.out h fun o z => exO_ExO z)]; exact h⟩
theorem FRel.del {K : PySem.W.Frag} {et : ET} {F H : Hp} {L : Obs} {ms : MS} (h : FRel K et F H ms) (tF : ∀ b o, L.lookup b = some o → F b = some (ExO b o)) : FRel K et (delC F L) (delC H L) ms := by
  have of : ∀ {a : Addr} {u : HO}, delC F L a = some u → F a = some u := fun {a u} e => by
    cases z : L.lookup a with
    | some o => rw [delC_in z] at e; cases e
    | none => rw [delC_out z] at e; exact e
  refine ⟨fun a dx i e => ?_, fun a dx a' dx' i e e' => h.one a dx a' dx' i (of e) (of e'), fun a dx i a' i' e e' => h.sep a dx i a' i' (of e) (of e')⟩
  obtain ⟨b, r, vb, vr, e1, e2, e3, e4, e5⟩ := h.at_ a dx i (of e)
  have z : L.lookup dx = none := by
    cases z : L.lookup dx with
    | some o => rw [tF dx o z] at e2; cases e2
    | none => rfl
  exact ⟨b, r, vb, vr, e1, by rw [delC_out z]; exact e2, by rw [delC_out z]; exact e3, Dn.seqs (seqs_del tF) e4, Dn.seqs (seqs_del tF) e5⟩
theorem FRel.add {K : PySem.W.Frag} {et : ET} {F H : Hp} {L : Obs} {ms : MS} (h : FRel K et F H ms) (sF : Same F (addC F L)) (hn : ∀ b o, L.lookup b = some o → H b = none) : FRel K et (addC F L) (addC H L) ms := by
  refine h.tr sF (fun a dx i e => ?_) fun dx fs e1 e2 => ?_
  · cases z : L.lookup a with
    | some o =>
      rw [addC_in z] at e
      have e := Option.some.inj e
      unfold ExO LkO at e
      cases e
    | none => rw [addC_out z] at e; exact e
  · have z : L.lookup dx = none := by
      cases z : L.lookup dx with
      | some o => rw [hn dx o z] at e2; cases e2
      | none => rfl
    exact ⟨by rw [addC_out z]; exact e1, by rw [addC_out z]; exact e2⟩
theorem Ct.up {F F' : Hp} {L : Obs} (c : Ct F L) (s : Same F F') : Ct F' L := fun b o e => s _ _ (c b o e)
theorem tabs_same {T : List (Addr × Str)} {H H' : Hp} (t : LamX.Tabs T H) (h1 : ∀ a ps, H a = some (.tbl ps) → H' a = some (.tbl ps)) (h2 : ∀ c q, H c = some (LamX.CodeO c q) → H' c = some (LamX.CodeO c q)) : LamX.Tabs T H' := fun p hp => by
  obtain ⟨ps, a1, a2, a3⟩ := t p hp
  refine ⟨ps, h1 _ _ a1, a2, fun pos cv hc => ?_⟩
  obtain ⟨c, e1, e2⟩ := a3 pos cv hc
  exact ⟨c, e1, h2 _ _ e2⟩
def lowR : Rs Sg DV → Rs MS PyData
  | .ok (.pu d) g => .ok d g.s
  | .ok _ _ => .no
  | .ex c p g => .ex c p g.s
  | .no => .no
def dfD : Option Int → List PyData
  | none => []
  | some i => [.int i]
def dfV : Option Int → List V
  | none => []
  | some i => [.int i]
def cloG (fb : Sg → Rs Sg DV) (dfl ws : List PyData) : MS → Rs MS PyData := fun ms => lowR (fb ⟨(dfl ++ ws).map fun d => some (.pu d), ms⟩)
/-- how the default is bound -/
def BindL (params : Arguments) (body : Expr) (scope : Scope) (q : Str) (ps : List Str) : Option Int → Prop
  | none => ps = [] ∧ ∀ (cl : List (Str × Addr)) (pm cdv ct : Value), bindArgs (lamFn q params body scope cl .none pm cdv ct) ⟨[], []⟩ = pure []
  | some i => ∃ a, ps = [a] ∧ ∀ (cl : List (Str × Addr)) (T : Addr) (pm cdv ct : Value), ∃ k, bindArgs (lamFn q params body scope cl (.ref T) pm cdv ct) ⟨[], []⟩ = (seqItems? (.ref T) >>= k) ∧ ∀ t, k (some #[.int i t]) = pure [(a, .int i t)]
theorem bindL_to {P : Program} {w : World} {H : Hp} {s : Shared} {params : Arguments} {body : Expr} {scope : Scope} {q : Str} {ps : List Str} {df : Option Int} {cl : List (Str × Addr)} {dV pm cdv ct : Value} (b : BindL params body scope q ps df) (hok : HOk P w H s.heap) (d : DfOk H df dV) :
    ∃ us, L2.Vals (dfV df) us ∧ us.length = ps.length ∧ BindsTo s (lamFn q params body scope cl dV pm cdv ct) ⟨[], []⟩ (ps.zip us) := by
  cases df with
  | none =>
    obtain ⟨rfl, hb⟩ := b
    obtain rfl : dV = .none := d
    exact ⟨[], .nil, rfl, .of_eq (hb cl pm cdv ct)⟩
  | some i =>
    obtain ⟨a, rfl, hb⟩ := b
    obtain ⟨T, rfl, eT⟩ := d
    obtain ⟨_, its, r, ⟨o, ho, _, n, hd⟩⟩ := hok T _ eT
    cases r with
    | @cons _ u _ ur ru rr =>
    cases rr
    obtain ⟨t, rfl⟩ := ru
    obtain ⟨k, h1, h2⟩ := hb cl T pm cdv ct
    exact ⟨[.int i t], .cons ⟨t, rfl⟩ .nil, rfl, .of_defaults rfl ho hd h1 (h2 t)⟩
/-- an error on its way out: what was forgotten is known again -/
theorem cx_add {P : Program} {w : World} {outer : List Env} {H : Hp} {s s' : Shared} {L : Obs} {E E' : XK} {u : Value} (hok : HOk P w H s.heap) (t : Ct H L) (off : ∀ b ∈ frs outer, H b = none) (h : L2.CX P w outer (delC H L) s E u s')
    (k : ∀ cls d H', (∀ b o, L.lookup b = some o → H' b = none) → E cls d H' → E' cls d (addC H' L)) : L2.CX P w outer H s E' u s' := by
  obtain ⟨a, B, H', cls, d, rfl, fl, hok', ub, na, os, ag, he⟩ := h
  have back : ∀ {b : Addr}, H b = none → L.lookup b = none := fun {b} n => by
    cases z : L.lookup b with
    | none => rfl
    | some o => rw [t b o z] at n; cases n
  have cs : Cs H' B L := fun b o z => by
    have e := exO_at hok (t b o z)
    have n : delC H L b = none := delC_in z
    have nf : b ∉ frs outer := fun hb => by
      have := off b hb
      rw [t b o z] at this
      cases this
    exact ⟨ub.free b o e n, ub.keep b o e n nf⟩
  have aL : L.lookup a = none := by
    cases z : L.lookup a with
    | none => rfl
    | some o =>
      have := (cs a o z).2
      rw [fl.2.1] at this
      cases this
  refine ⟨a, B, addC H' L, cls, d, rfl, fl, addC_hok hok' cs, ⟨fun b o q n nf => ?_, fun b o q nf => ub.slot b o q nf, fun b o q n => ?_, fun b o q nf => ub.there b o q nf, fun b xs q => ?_, fun b o xs q => ?_, fun b ps q => ?_⟩, by rw [addC_out aL]; exact na, os, ag, k cls d H' (fun b o z => (cs b o z).1) he⟩
  · exact ub.keep b o q (by rw [delC_out (back n)]; exact n) nf
  · rw [addC_out (back n)]
    exact ub.free b o q (by rw [delC_out (back n)]; exact n)
  · have z := t.out q fun o z => exO_tup z.symm
    rw [addC_out z]
    exact ub.tups b xs (by rw [delC_out z]; exact q)
  · have z := t.out q fun o z => exO_frz z.symm
    rw [addC_out z]
    exact ub.frzs b o xs (by rw [delC_out z]; exact q)
  · have z := t.out q fun o z => exO_tbl z.symm
    rw [addC_out z]
    exact ub.tbls b ps (by rw [delC_out z]; exact q)
/-- a lambda's value, by its body's derivation -/
theorem clo_ok {P : Program} {w : World} {K : PySem.W.Frag} {mg : Str → Option Value} {base : Heap} {et : ET} {j : Nat} {am : Addr} {F : Hp} {f c' : Addr} {q : Str} {params : Arguments} {body : Expr} {scope : Scope} {cl : List (Str × Addr)} {dV pm ctv : Value} {ps fr : List Str} {df : Option Int} {L : Obs} {vs : List V} {ws : List PyData} {fb : Sg → Rs Sg DV}
    (S : NdefX.NScope (ps ++ fr) ps fr scope) (hb : BindL params body scope q ps df)
    (hf : F f = some (ExO f (lamObj q params body scope cl dV pm (.ref c') ctv))) (hc : F c' = some (LamX.CodeO c' q)) (hd : DfOk F df dV) (hL : Ct F L)
    (all : ∀ y c, cl.lookup y = some c → ∃ oc v, L.lookup c = some oc ∧ oc.data = .cell v) (inj : ∀ x y c, cl.lookup x = some c → cl.lookup y = some c → x = y)
    (has : ∀ (i : Nat) (y : Str), fr[i]? = some y → ∃ c, cl.lookup y = some c ∧ ∀ v, vs[i]? = some v → ∃ oc u, L.lookup c = some oc ∧ oc.data = .cell (some u) ∧ L2.RelV v u) (hlen : vs.length = fr.length) (dn : DnAll K et F vs ws) (hcell : ∀ b o, L.lookup b = some o → ∃ v, o.data = .cell v)
    (hbody : ∀ (A : Around) (outer : List Env) (s : Shared) (H : Hp) (E : XK), Here (NdefX.ncx (L2.CX P w) P w K mg base (ps ++ fr) ⟨"<lambda>", q, params, [], scope, cl, c'⟩ f A outer s H E) j (fun cls d _ H => E cls d H) →
      DE (NdefX.ncx (L2.CX P w) P w K mg base (ps ++ fr) ⟨"<lambda>", q, params, [], scope, cl, c'⟩ f A outer s H E) et (fun cls d _ H => E cls d H) body fb) :
    CloOk P w K mg base (etB et) (j + 1) (cloG fb (dfD df) ws) am F (.ref f) := by
  refine ⟨f, _, rfl, hf, fun h e => ⟨_, _, _, _, e⟩, fun A outer s H F' ms Q E hr hg e0 s1 s2 fz mr ok => ?_⟩
  have tF : Ct F' L := hL.up s1
  have tH : Ct H L := tF.up s2
  have fo := exO_at e0.hok (s2 _ _ (s1 _ _ hf))
  have nL : ∀ {b : Addr} {u : HO}, H b = some u → (∀ o, u ≠ ExO b o) → L.lookup b = none := fun e n => tH.out e n
  obtain ⟨⟨oc, us0, t0, hoc, hdc, hvc⟩, _, _⟩ := e0.hok c' _ (s2 _ _ (s1 _ _ hc))
  have hdH : DfOk H df dV := by
    cases df with
    | none => exact hd
    | some i => obtain ⟨T, e1, e2⟩ := hd; exact ⟨T, e1, s2 _ _ (s1 _ _ e2)⟩
  obtain ⟨us, rus, lus, bt⟩ := bindL_to (cl := cl) (pm := pm) (cdv := .ref c') (ct := ctv) hb e0.hok hdH
  have hlp : (dfV df).length = ps.length := by rw [← lus]; exact rus.length
  refine PySem.W.kla_callFunE hr.depth fo rfl S.co S.gen rfl ⟨c', oc, us0, t0, rfl, hoc, hdc, hvc⟩ (bt _ _ _ _ ?_)
  refine wpAny_newFunctionEnv S.nocell (fun ⟨n, _⟩ hy => S.par n (List.of_mem_zip hy).1) (fun h₁ hns hsb => ⟨(e0.mod.nolimit.keeps fun b o e => (e0.bs b o e).1).fresh _ hsb, ?_⟩) S.kind
  show codeAny _ _ (.expr body (NdefX.envF ⟨"<lambda>", q, params, [], scope, cl, c'⟩ f s.heap.objs.size)) _ _
  have kp : ∀ b o, s.heap.get? b = some o → h₁.get? b = some o := fun b o e => hsb.extBut b o (Nat.ne_of_lt (Heap.lt_size e)) (Heap.get?_push_of_some _ e)
  have e2 := env0_del e0 tH
  have cells : NdefX.CellsAt cl fr (vs.map some) s.heap (delC H L) := by
    refine ⟨by rw [List.length_map]; exact hlen, fun y c e => ?_, inj, fun i y e => ?_⟩
    · obtain ⟨o, v, h1, h2⟩ := all y c e
      exact ⟨delC_in h1, v, o, exO_at e0.hok (tH c o h1), h2⟩
    · obtain ⟨c, h1, h2⟩ := has i y e
      refine ⟨c, h1, fun v hv => ?_⟩
      rw [List.getElem?_map] at hv
      cases qv : vs[i]? with
      | none => rw [qv] at hv; cases hv
      | some v' =>
        rw [qv] at hv
        cases hv
        obtain ⟨o, u, g1, g2, g3⟩ := h2 v qv
        exact ⟨u, g3, o, exO_at e0.hok (tH c o g1), g2⟩
  have J := NdefX.inv_startN (CX := L2.CX P w) (F := ⟨"<lambda>", q, params, [], scope, cl, c'⟩) (f := f) (E := fun cls d H' => (∀ b o, L.lookup b = some o → H' b = none) → E cls d (addC H' L)) (tk := s.toks + (ps.zip us).length) S hr.hd e2 hlp rus cells hns kp
  have here : Here (NdefX.ncx (L2.CX P w) P w K mg base (ps ++ fr) ⟨"<lambda>", q, params, [], scope, cl, c'⟩ f A outer s (delC H L) (fun cls d H' => (∀ b o, L.lookup b = some o → H' b = none) → E cls d (addC H' L))) j (fun cls d _ H' => (∀ b o, L.lookup b = some o → H' b = none) → E cls d (addC H' L)) :=
    ⟨hr.deeper _, hg, takes_of rfl rfl rfl rfl, passes_of rfl, S.nd⟩
  obtain ⟨ac, em, dm⟩ := mr
  have amL : L.lookup am = none := nL em fun o z => exO_dK z.symm
  have tabL : ∀ p ∈ et.T, L.lookup p.1 = none := fun p hp => by
    obtain ⟨pa, e, _⟩ := fz.tabs p hp
    exact nL e fun o z => exO_tbl z.symm
  have codL : ∀ c q, H c = some (LamX.CodeO c q) → L.lookup c = none := fun c q e => by
    cases z : L.lookup c with
    | none => rfl
    | some o =>
      obtain ⟨⟨o', us', t', h1, h2, _⟩, _, _⟩ := e0.hok c _ e
      obtain ⟨v, hv⟩ := hcell c o z
      rw [exO_at e0.hok (tH c o z)] at h1
      cases h1
      rw [hv] at h2
      cases h2
  have sq := seqs_del tF
  have R : RepF K et am (delC H L) (delC F' L) ⟨(dfD df ++ ws).map fun d => some (.pu d), ms⟩ (NdefX.startF (ps ++ fr) (dfV df) (vs.map some)) (delC H L) := by
    refine ⟨fun b u e => ?_, ⟨by rw [delC_out amL]; exact fz.am, tabs_same fz.tabs (fun a ps e => by rw [delC_out (nL e fun o z => exO_tbl z.symm)]; exact e) (fun c q e => by rw [delC_out (codL c q e)]; exact e), fun p hp => by rw [delC_out (tabL p hp)]; exact fz.off p hp⟩, fun _ _ e _ => KeepsO.of e, ?_, fun i y e => ?_, fun i j x1 x2 a e1 _ o1 _ _ _ => ?_, ac, by rw [delC_out amL]; exact em, Dn.seqs sq (Dn.etc (et := etB et) (et' := et) ⟨rfl, rfl, rfl⟩ dm.1), (dm.2.etc (et := etB et) (et' := et) ⟨rfl, rfl, rfl⟩).del tF⟩
    · cases z : L.lookup b with
      | some o => rw [delC_in z] at e; cases e
      | none => rw [delC_out z] at e ⊢; exact s2 _ _ e
    · show (NdefX.startF (ps ++ fr) (dfV df) (vs.map some)).length = ((dfD df ++ ws).map fun d => some (DV.pu d)).length
      unfold NdefX.startF
      have l1 := dn.length
      have l2 : (dfD df).length = (dfV df).length := by cases df <;> rfl
      simp only [List.length_append, List.length_map, List.length_replicate]
      omega
    · have e : ((dfD df ++ ws).map fun d => some (DV.pu d))[i]? = some (some y) := e
      rw [List.getElem?_map] at e
      cases qd : (dfD df ++ ws)[i]? with
      | none => rw [qd] at e; cases e
      | some d =>
        rw [qd] at e
        cases e
        have all2 : DnAll K et F (dfV df ++ vs) (dfD df ++ ws) := by
          cases df with
          | none => exact dn
          | some k => exact .cons (.int k) dn
        obtain ⟨v, e1, e2⟩ := all2.get qd
        refine ⟨v, ?_, Dn.seqs sq (Dn.up e2 s1)⟩
        have hi := (List.getElem?_eq_some_iff.mp e1).1
        unfold NdefX.startF
        rw [← List.append_assoc, List.getElem?_append_left (by rw [List.length_append, List.length_map, List.length_map, ← List.length_append]; exact hi), ← List.map_append, List.getElem?_map, e1]
        rfl
    · exfalso
      have e : ((dfD df ++ ws).map fun d => some (DV.pu d))[i]? = some (some x1) := e1
      rw [List.getElem?_map] at e
      cases qd : (dfD df ++ ws)[i]? with
      | none => rw [qd] at e; cases e
      | some d => rw [qd] at e; cases e; cases o1
  have back : ∀ (g : Sg) (F3 H3 : Hp), Ext (delC H L) (delC F' L) F3 → RepF K et am (delC H L) F3 g (NdefX.startF (ps ++ fr) (dfV df) (vs.map some)) H3 → (∀ b o, L.lookup b = some o → H3 b = none) →
      Ext H F' (addC F3 L) ∧ Same (addC F3 L) (addC H3 L) ∧ Fz (etB et) am (addC F3 L) (addC H3 L) ∧ (∀ a o, H a = some o → Fre (etB et) am a → KeepsO (addC H3 L) a o) ∧ MRel K (etB et) am (addC F3 L) (addC H3 L) g.s ∧ Same F3 (addC F3 L) ∧ Same H3 (addC H3 L) := fun g F3 H3 ex R3 hn => by
    have sH : Same H3 (addC H3 L) := fun b u e => by
      cases z : L.lookup b with
      | some o => rw [hn b o z] at e; cases e
      | none => rw [addC_out z]; exact e
    have sF : Same F3 (addC F3 L) := fun b u e => by
      cases z : L.lookup b with
      | some o => have := R3.sub b u e; rw [hn b o z] at this; cases this
      | none => rw [addC_out z]; exact e
    refine ⟨⟨fun b u e => ?_, fun b u e n => ?_⟩, fun b u e => ?_, ⟨by rw [addC_out amL]; exact R3.fam.am, R3.fam.tabs.ext sH, fun p hp => by rw [addC_out (tabL p hp)]; exact R3.fam.off p hp⟩, fun a o e fr' => ?_, ?_, sF, sH⟩
    · cases z : L.lookup b with
      | some o => rw [tF b o z] at e; rw [addC_in z]; exact e
      | none => rw [addC_out z]; exact ex.1 b u (by rw [delC_out z]; exact e)
    · cases z : L.lookup b with
      | some o => rw [tF b o z] at n; cases n
      | none =>
        rw [addC_out z] at e
        have := ex.2 b u e (by rw [delC_out z]; exact n)
        rw [delC_out z] at this
        exact this
    · cases z : L.lookup b with
      | some o => rw [addC_in z] at e ⊢; exact e
      | none => rw [addC_out z] at e ⊢; exact R3.sub b u e
    · cases z : L.lookup a with
      | some o' => rw [tH a o' z] at e; exact KeepsO.of (by rw [addC_in z]; exact e)
      | none => exact (R3.base a o (by rw [delC_out z]; exact e) fr').eq (addC_out z)
    · obtain ⟨ac', e1, e2⟩ := R3.ms
      exact ⟨ac', by rw [addC_out amL]; exact e1, Dn.etc (et := et) (et' := etB et) ⟨rfl, rfl, rfl⟩ (Dn.up e2.1 sF), (e2.2.add sF hn).etc (et := et) (et' := etB et) ⟨rfl, rfl, rfl⟩⟩
  refine PySem.W.kla_codeExpr (wpAny_mono ((hbody A outer s (delC H L) _ here am (delC H L) (delC F' L) _ _ (delC H L) (fun v H3 => (∀ b o, L.lookup b = some o → H3 b = none) → Q v (addC H3 L)) R ?_).run [] _ J) (fun u s' hq => ?_) fun e s' hx => ?_)
  · have ok : OkC K (etB et) am F' H Q E (upR (lowR (fb ⟨(dfD df ++ ws).map fun d => some (.pu d), ms⟩))) := ok
    cases qf : fb ⟨(dfD df ++ ws).map fun d => some (.pu d), ms⟩ with
    | no => rw [qf] at ok; exact ok
    | ex cc p g =>
      rw [qf] at ok
      intro cls d F3 H3 ex R3 r hn
      obtain ⟨x1, x2, x3, x4, x5, x6, x7⟩ := back g F3 H3 ex R3 hn
      obtain ⟨r1, da, v, r2, r3, r4⟩ := r
      exact ok cls d _ _ x1 x2 x3 x4 x5 ⟨r1, da, v, r2, x6 _ _ r3, Dn.etc (et := et) (et' := etB et) ⟨rfl, rfl, rfl⟩ (Dn.up r4 x6)⟩
    | ok d g =>
      rw [qf] at ok
      cases d with
      | pu d0 =>
        intro v F3 H3 ex R3 dn3 hn
        obtain ⟨x1, x2, x3, x4, x5, x6, x7⟩ := back g F3 H3 ex R3 hn
        exact ok v _ _ x1 x2 x3 x4 x5 (Dn.etc (et := et) (et' := etB et) ⟨rfl, rfl, rfl⟩ (Dn.up dn3 x6))
      | own _ => exact ok.elim
      | m => exact ok.elim
      | scr _ => exact ok.elim
      | clo _ => exact ok.elim
      | exc _ _ => exact ok.elim
      | dic _ => exact ok.elim
      | dki _ => exact ok.elim
  · obtain ⟨v, H3, J3, rv, q3⟩ := hq
    have hbase : Un (frs outer) [] (delC H L) H3 s.heap s'.heap := J3.base
    obtain ⟨un, cs⟩ := un_add e0.hok tH e0.frf hbase
    exact ⟨v, addC H3 L, J3.os, J3.bare, un, addC_hok J3.hok cs, rv, q3 fun b o z => (cs b o z).1⟩
  · refine wpAny_mono hx (fun _ s'' hx' => ?_) fun _ s'' hx' => ?_
    · exact cx_add e0.hok tH e0.frf hx' fun cls d H' n h => h n
    · exact cx_add e0.hok tH e0.frf hx' fun cls d H' n h => h n
end DL
set_option Elab.async false
set_option linter.all false
set_option maxRecDepth 100000
set_option maxHeartbeats 4000000
set_option autoImplicit false
namespace DL
open PySem PySem.Spec L2
open PyProof.Rows hiding St
def ov (B H : Hp) (M : List Addr) : Hp := fun b => if b ∈ M then H b else B b
theorem ov_in {B H : Hp} {M : List Addr} {b : Addr} (h : b ∈ M) : ov B H M b = H b := if_pos h
theorem ov_out {B H : Hp} {M : List Addr} {b : Addr} (h : b ∉ M) : ov B H M b = B b := if_neg h
def OvOk (H : Hp) (M : List Addr) : Prop := ∀ b ∈ M, ∃ φ, H b = some (.ext φ) ∧ ∀ hs es, HO.ext φ ≠ NDo hs b es
section
variable {K : PySem.W.Frag} {et : ET} {am : Addr} {B F H : Hp} {g : Sg} {σ : St} {M : List Addr}
theorem RepF.ov (R : RepF K et am B F g σ H) (o : OvOk H M) : RepF K et am (ov B H M) F g σ H := by
  refine ⟨R.sub, R.fam, fun a u e fr => ?_, R.len, fun i x e => ?_, R.inj, R.ms⟩
  · by_cases z : a ∈ M
    · rw [ov_in z] at e; exact KeepsO.of e
    · rw [ov_out z] at e; exact R.base a u e fr
  · obtain ⟨v, e1, e2⟩ := R.slot i x e
    refine ⟨v, e1, e2.keep Same.rfl' fun a u _ _ fa ba na ha ow => ⟨fa, ?_, ha⟩⟩
    by_cases z : a ∈ M
    · obtain ⟨u, hu, hn⟩ := o a z
      rw [ha] at hu
      cases hu
      rcases ow with ⟨_, e⟩ | ⟨hs, es, e⟩ | ⟨_, e⟩
      · cases e
      · exact absurd e (hn hs es)
      · cases e
    · rw [ov_out z]; exact ba
theorem RepF.unov {F2 H2 : Hp} {g2 : Sg} {σ2 : St} (R : RepF K et am B F g σ H) (o : OvOk H M) (R2 : RepF K et am (DL.ov B H M) F2 g2 σ2 H2) : RepF K et am B F2 g2 σ2 H2 := by
  refine ⟨R2.sub, R2.fam, fun a u e fr => R2.base a u ?_ fr, R2.len, fun i x e => ?_, R2.inj, R2.ms⟩
  · by_cases z : a ∈ M
    · rw [ov_in z]
      obtain ⟨φ, hu, _⟩ := o a z
      exact (R.base a u e fr).notx fun fs q => by rw [hu] at q; cases q
    · rw [ov_out z]; exact e
  · obtain ⟨v, e1, e2⟩ := R2.slot i x e
    refine ⟨v, e1, e2.keep Same.rfl' fun a u _ _ fa ba na ha ow => ⟨fa, ?_, ha⟩⟩
    by_cases z : a ∈ M
    · obtain ⟨u, hu, _⟩ := o a z
      rw [ov_in z, hu] at ba
      cases ba
    · rw [ov_out z] at ba; exact ba
theorem Ext.unov {F2 : Hp} (o : OvOk H M) (x : Ext (DL.ov B H M) F F2) : Ext B F F2 := ⟨x.1, fun a u e n => by
  have y := x.2 a u e n
  by_cases z : a ∈ M
  · obtain ⟨v, hv, _⟩ := o a z
    rw [ov_in z, hv] at y
    cases y
  · rw [ov_out z] at y; exact y⟩
theorem Good.ov {β : Type} {W : WX} {O : Hp → Rs Sg β → Prop} (G : Good K et W am B σ O) (R : RepF K et am B F g σ H) (o : OvOk H M) : Good K et W am (DL.ov B H M) σ O where
  weak := fun F F1 r x h => G.weak F F1 r (x.unov o) h
  ex := fun F0 c p g0 h => fun cls d F' H' e R' r => G.ex F0 c p g0 h cls d F' H' (e.unov o) (R.unov o R') r
  no := G.no
end
/-- a tracked tuple, frozen -/
theorem RepF.hold {K : PySem.W.Frag} {et : ET} {am : Addr} {B F H : Hp} {g : Sg} {σ : St} (R : RepF K et am B F g σ H) {p : Addr} {xs : List V} (hp : H p = some (.tup xs)) (bp : B p = none) (fp : F p = none) : RepF K et am B (upd F p (.tup xs)) g σ H ∧ Ext B F (upd F p (.tup xs)) := by
  have sm : Same F (upd F p (.tup xs)) := fun a u e => by
    rw [upd_ne (ne_of_none e fp)]
    exact e
  have npam : p ≠ am := fun z => by
    obtain ⟨ac, e, _⟩ := R.ms
    rw [z, e] at hp
    cases hp
  have npt : ∀ t ∈ et.T, p ≠ t.1 := fun t ht z => by
    obtain ⟨ps, e, _⟩ := R.fam.tabs t ht
    rw [← z, hp] at e
    cases e
  refine ⟨⟨fun a u e => ?_, ⟨by rw [upd_ne (Ne.symm npam)]; exact R.fam.am, R.fam.tabs, fun t ht => by rw [upd_ne (Ne.symm (npt t ht))]; exact R.fam.off t ht⟩, R.base, R.len, fun i x e => ?_, R.inj, ?_⟩, sm, fun a u e n => ?_⟩
  · by_cases z : a = p
    · rw [z, upd_same] at e
      rw [z]
      cases e
      exact hp
    · rw [upd_ne z] at e
      exact R.sub a u e
  · obtain ⟨v, e1, e2⟩ := R.slot i x e
    refine ⟨v, e1, e2.keep sm fun a u _ _ fa ba na ha ow => ⟨?_, ba, ha⟩⟩
    by_cases z : a = p
    · rw [z, hp] at ha
      cases ha
      rcases ow with ⟨_, e⟩ | ⟨hs, es, e⟩ | ⟨_, e⟩
      · cases e
      · unfold NDo at e; cases e
      · cases e
    · rw [upd_ne z]; exact fa
  · exact R.ms.putF sm (fun dx i z => by unfold LkO at z; cases z) fun fs z => by rw [hp] at z; cases z
  · by_cases z : a = p
    · rw [z]; exact bp
    · rw [upd_ne z, n] at e; cases e
/-- the tables' change is no change of what is told here -/
theorem RepF.tab {K : PySem.W.Frag} {et : ET} {am : Addr} {B F H H1 : Hp} {g : Sg} {σ : St} {P : Addr} {q : Str} (R : RepF K et am B F g σ H) (hm : (P, q) ∈ et.T) (eN : ∀ b o, H b = some o → b ≠ P → H1 b = some o) (T1 : LamX.Tabs et.T H1) : RepF K et am B F g σ H1 := by
  obtain ⟨ps, hP, _⟩ := R.fam.tabs _ hm
  have nP : ∀ {b : Addr} {u : HO}, H b = some u → (∀ ps, u ≠ .tbl ps) → b ≠ P := fun e n z => by
    rw [z] at e
    rw [show H P = some (.tbl ps) from hP] at e
    exact n ps (Option.some.inj e).symm
  have nF : ∀ {b : Addr} {u : HO}, F b = some u → b ≠ P := fun e z => by
    rw [z, R.fam.off _ hm] at e
    cases e
  refine ⟨fun b u e => eN b u (R.sub b u e) (nF e), ⟨R.fam.am, T1, R.fam.off⟩, fun a u e fr => (R.base a u e fr).tr fun u' eu => KeepsO.of (eN a u' eu (fr.2 _ hm)), R.len, fun i x e => ?_, R.inj, ?_⟩
  · obtain ⟨v, e1, e2⟩ := R.slot i x e
    exact ⟨v, e1, e2.keep Same.rfl' fun a u _ _ fa ba na ha ow => ⟨fa, ba, eN a _ ha (nP ha ow.tbl)⟩⟩
  · obtain ⟨ac, e1, _⟩ := R.ms
    exact R.ms.tr Same.rfl' NoLk.rfl (by rw [e1]; exact eN am _ e1 (nP e1 fun _ z => by cases z)) fun dx fs q1 q2 => ⟨q1, eN dx _ q2 (nP q2 fun _ z => by cases z)⟩
theorem exO_code {h : Heap} {c c2 : Addr} {q : Str} {o : Obj} {v : Option Value} (e : h.get? c = some o) (hd : o.data = .cell v) (hc : c = c2) : ExO c o ≠ LamX.CodeO c2 q := fun z => by
  unfold ExO LamX.CodeO at z
  have z' := congrFun (HO.ext.inj z) h
  have y : ∃ (oc : Obj) (vs : Array Value) (t : Tok), h.get? c2 = some oc ∧ oc.data = .fields vs ∧ vs[1]? = some (.str q t) := z' ▸ e
  obtain ⟨oc, us, t, h1, h2, _⟩ := y
  rw [← hc, e] at h1
  cases h1
  rw [hd] at h2
  cases h2
def caps (r : List (Option DV)) : List Nat → Option (List PyData)
  | [] => some []
  | j :: js => match r[j]? with
    | some (some (.pu d)) => (caps r js).map (d :: ·)
    | _ => none
def mCallL (fn : List DV → MS → Rs MS DV) (js : List Nat) (df : Option Int) (fb : Sg → Rs Sg DV) (fs : Sg → Rs Sg (List DV)) (g : Sg) : Rs Sg DV := (fs g).bind fun ds g1 => match caps g1.r js with
  | some ws => (match fn (.clo (cloG fb (dfD df) ws) :: ds) g1.s with
    | .ok (.pu d) s => .ok (.pu d) { g1 with s := s }
    | _ => .no)
  | none => .no
/-- the captured cells' objects -/
def cellsL (h : Heap) (cl : List (Str × Addr)) : List Str → Obs
  | [] => []
  | y :: r => match cl.lookup y with
    | some c => (match h.get? c with
      | some o => (c, o) :: cellsL h cl r
      | none => cellsL h cl r)
    | none => cellsL h cl r
theorem cellsL_of {h : Heap} {cl : List (Str × Addr)} {b : Addr} {o : Obj} : ∀ {l : List Str}, (cellsL h cl l).lookup b = some o → ∃ y, cl.lookup y = some b ∧ h.get? b = some o
  | [], e => by cases e
  | y :: r, e => by
    unfold cellsL at e
    cases q : cl.lookup y with
    | none => rw [q] at e; exact cellsL_of (l := r) e
    | some c =>
      rw [q] at e
      cases q2 : h.get? c with
      | none => simp only [q2] at e; exact cellsL_of (l := r) e
      | some o' =>
        simp only [q2] at e
        by_cases z : b = c
        · subst z
          rw [List.lookup_cons_self] at e
          cases e
          exact ⟨y, q, q2⟩
        · have : ((c, o') :: cellsL h cl r).lookup b = (cellsL h cl r).lookup b := by
            show (match b == c with | true => some o' | false => (cellsL h cl r).lookup b) = _
            rw [beq_eq_false_iff_ne.mpr z]
          rw [this] at e
          exact cellsL_of (l := r) e
theorem cellsL_in {h : Heap} {cl : List (Str × Addr)} {y : Str} {c : Addr} {o : Obj} (hc : cl.lookup y = some c) (ho : h.get? c = some o) : ∀ {l : List Str}, y ∈ l → (cellsL h cl l).lookup c = some o
  | [], m => by cases m
  | z :: r, m => by
    unfold cellsL
    rcases List.mem_cons.mp m with rfl | m
    · simp only [hc, ho]
      exact List.lookup_cons_self
    · have ih := cellsL_in hc ho m
      cases q : cl.lookup z with
      | none => exact ih
      | some c' =>
        cases q2 : h.get? c' with
        | none => simp only [q2]; exact ih
        | some o' =>
          simp only [q2]
          by_cases e : c = c'
          · subst e
            rw [ho] at q2
            cases q2
            exact List.lookup_cons_self
          · show (match c == c' with | true => some o' | false => (cellsL h cl r).lookup c) = some o
            rw [beq_eq_false_iff_ne.mpr e]
            exact ih
theorem lookup_key {cl : List (Str × Addr)} {y : Str} {c : Addr} (h : cl.lookup y = some c) : y ∈ cl.map (·.1) := List.mem_map.mpr ⟨(y, c), PySem.mem_of_lookup h, rfl⟩
theorem caps_vals {K : PySem.W.Frag} {et : ET} {am : Addr} {B F H : Hp} {g : Sg} {σ : St} (R : RepF K et am B F g σ H) : ∀ {js : List Nat} {ws : List PyData}, caps g.r js = some ws → ∃ vs, DnAll K et F vs ws ∧ vs.length = js.length ∧ ∀ (i j : Nat) (v : V), js[i]? = some j → vs[i]? = some v → σ[j]? = some (some v)
  | [], ws, h => by cases h; exact ⟨[], .nil, rfl, fun i j v e => by simp at e⟩
  | j :: js, ws, h => by
    unfold caps at h
    split at h
    · rename_i d e
      cases q : caps g.r js with
      | none => rw [q] at h; cases h
      | some ws' =>
        rw [q] at h
        cases h
        obtain ⟨vs, h1, h2, h3⟩ := caps_vals R q
        obtain ⟨v, e1, e2⟩ := R.slot j _ e
        refine ⟨v :: vs, .cons e2 h1, by rw [List.length_cons, List.length_cons, h2], fun i k u hk hu => ?_⟩
        cases i with
        | zero => cases hk; cases hu; exact e1
        | succ n => exact h3 n k u (by simpa using hk) (by simpa using hu)
    · cases h
end DL
set_option Elab.async false
set_option linter.all false
set_option maxRecDepth 100000
set_option maxHeartbeats 4000000
set_option autoImplicit false
namespace DL
open PySem PySem.Spec L2
open PyProof.Rows hiding St
/-- what a class of errors must say, so that isinstance asks its instances rightly, and fields can be read -/
structure XC (K : PySem.W.Frag) (D : Addr) : Prop where
  cl : (PySem.W.clsIn K D).isSome = true
  ga : PySem.W.findIn K (.ref D) "__getattribute__" = some (some (.builtin "BaseException.__getattribute__"))
  gg : PySem.W.findIn K (.ref D) "__getattr__" = some none
  sb : PySem.W.subIn K (.ref D) (.type "BaseException") = some true
  hd : PySem.W.hasDictIn K D = true
  ca : PySem.W.findIn K (.ref D) "__class__" = some (some (.builtin "object.__class__"))
  cg : PySem.W.specialIn K (.builtin "object.__class__") "__get__" = some (some (.builtin "getset_descriptor.__get__"))
  ct : PySem.W.takesIn K (.builtin "object.__class__") = some true
  ob : PySem.W.mroIn K D (.type "object") = some true
/-- the object of an error held as a value -/
theorem excV_at {P : Program} {w : World} {K : PySem.W.Frag} {et : ET} {F H : Hp} {h : Heap} {c : Nat} {p : PyData} {v : V} (x : ExcV K et F v c p) (sub : Same F H) (hok : HOk P w H h) :
    ∃ (e d : Addr) (u : V) (oe od : Obj) (mA : Str → Option Value), v = .ref e ∧ PySem.W.InstAt h e oe (et.cls c) (some od) ∧ PySem.W.lookIn (et.fld c) od = some (mA (et.fld c)) ∧ (∃ uv, mA (et.fld c) = some uv ∧ L2.RelV u uv) ∧ Dn K et F u p := by
  obtain ⟨e, d, u, rfl, h1, h2, h3⟩ := x
  obtain ⟨⟨oe, vs, a1, a2, a3, a4⟩, _, _⟩ := hok e _ (sub _ _ h1)
  obtain ⟨mA, hns, hr⟩ := hok d _ (sub _ _ h2)
  obtain ⟨od, ho, hl⟩ := lookIn_ns hns
  obtain ⟨uv, hu, ru⟩ := RelO.some_of (v := u) (o := mA (et.fld c)) (by
    have := hr (et.fld c)
    rw [show ([(et.fld c, u)] : List (Str × V)).lookup (et.fld c) = some u from by simp [List.lookup]] at this
    exact this)
  exact ⟨e, d, u, oe, od, mA, rfl, ⟨a1, a2, by unfold PySem.W.notCls; rw [a4], by rw [a3]; exact ho⟩, hl _, ⟨uv, hu, ru⟩, h3⟩
/-- isinstance(e, D), e an error, or something else -/
def mIsX (tab : Nat → Option Bool) (f : Sg → Rs Sg DV) (g : Sg) : Rs Sg DV := (f g).bind fun x g1 => match x with
  | .exc c _ => Rs.of ((tab c).map fun b => .pu (.bool b)) g1
  | _ => .no
/-- e.name, e an error -/
def mFld (ok : Nat → Bool) (f : Sg → Rs Sg DV) (g : Sg) : Rs Sg DV := (f g).bind fun x g1 => match x with
  | .exc c p => if ok c = true then .ok (.pu p) g1 else .no
  | _ => .no
/-- x is None, x an error or data -/
def mIsN (f : Sg → Rs Sg DV) (g : Sg) : Rs Sg Bool := (f g).bind fun x g1 => match x with
  | .exc _ _ => .ok false g1
  | .pu d => .ok (isNon d) g1
  | _ => .no
section
variable {X : Cx} {et : ET} {W : WX}
/-- isinstance of an error, one class -/
def rIsXc (K : PySem.W.Frag) (et : ET) (D : Addr) : List V → Hp → VK → Prop := fun xs H Q => ∃ (v : V) (F : Hp) (c : Nat) (p : PyData) (b : Bool), xs = [v, .ref D] ∧ Same F H ∧ ExcV K et F v c p ∧ XC K (et.cls c) ∧ PySem.W.kitOne K (.ref (et.cls c)) (.ref D) = some b ∧ Q (.bl b) H
theorem call_isXc {D : Addr} : CallR X (.builtin "isinstance") (rIsXc X.K et D) := by
  intro pins s σ H xs us Q I r h
  obtain ⟨v, F, c, p, b, rfl, sub, ev, C, e, q⟩ := h
  obtain ⟨ea, d, u, oe, od, mA, rfl, J, _, _, _⟩ := excV_at ev sub I.hok
  cases r with
  | cons rx rr =>
    cases rr with
    | cons rt rr =>
      cases rr
      cases rx
      cases rt
      exact PySem.W.kia_one (PySem.W.kitx_exc C.cl C.ga C.gg C.sb C.ca C.cg C.ct C.ob) I.kIn J e (fun z => nomatch z) fun tk => ⟨.bl b, H, I.kept (t' := tk) fun _ _ z => z, rfl, q⟩
theorem de_isX {D : Addr} {tx : Str} {tab : Nat → Option Bool} {p p2 pos : Pos} {e : Expr} {f : Sg → Rs Sg DV} (hm : X.mg "isinstance" = none) (hT : X.mg tx = some (.ref D)) (htab : ∀ c b, tab c = some b → XC X.K (et.cls c) ∧ PySem.W.kitOne X.K (.ref (et.cls c)) (.ref D) = some b) (ha : DE X et W e f) (hg : Gl X "isinstance" := by rfl) (hg2 : Gl X tx := by rfl)
    (hv : bootBuiltins "isinstance" = some (.builtin "isinstance") := by decide +kernel) (hd2 : (tx == ("__debug__" : Str)) = false := by decide)
    (he : starEach (e :: [.Name tx p2]) X.env = (false, eval e X.env) :: starEach [.Name tx p2] X.env := by exact star_ok rfl) : DE X et W (.Call (.Name "isinstance" p) [e, .Name tx p2] [] pos) (mIsX tab f) := fun am B F g σ H Q R hq => by
  refine w_of (pe_callB (call_isXc (et := et) (D := D)) hg hm hv (pa_cons pe_w (pa_cons (pe_glob (v := .ref D) hg2 hT rfl hd2) pa_nil) he) (he := he)) (ha.then (goodV (Q := Q)) R hq fun d g1 v F1 H1 ex1 R1 dn1 hq1 => ?_)
  cases d with
  | own _ => exact hq1.elim
  | m => exact hq1.elim
  | scr _ => exact hq1.elim
  | clo _ => exact hq1.elim
  | dic _ => exact hq1.elim
  | dki _ => exact hq1.elim
  | pu _ => exact hq1.elim
  | exc c pd =>
    cases qt : tab c with
    | none => simp only [qt] at hq1; exact hq1.elim
    | some b =>
      simp only [qt] at hq1
      obtain ⟨C, k⟩ := htab c b qt
      exact ⟨v, F1, c, pd, b, rfl, R1.sub, dn1, C, k, hq1 _ F1 H1 Ext.refl R1 (.bl _)⟩
theorem de_fld {n : Str} {ok : Nat → Bool} {pos : Pos} {e : Expr} {f : Sg → Rs Sg DV} (hok : ∀ c, ok c = true → et.fld c = n ∧ XC X.K (et.cls c) ∧ PySem.W.findIn X.K (.ref (et.cls c)) n = some none) (ha : DE X et W e f) (hb : attributeBase e n X.env (eval e X.env) = eval e X.env := by rfl) :
    DE X et W (.Attribute e n pos) (mFld ok f) := fun am B F g σ H Q R hq => by
  refine ⟨fun pins s I => ?_⟩
  refine attr_of hb (thn ((ha.then (goodV (Q := Q)) R hq (Q := fun v H1 => ∃ c pd F1 g1, Ext B F F1 ∧ RepF X.K et am B F1 g1 σ H1 ∧ ExcV X.K et F1 v c pd ∧ OkV X.K et W am B F1 σ Q (if ok c = true then .ok (.pu pd) g1 else .no : Rs Sg DV)) (fun d g1 v F1 H1 ex1 R1 dn1 hq1 => ?_)).run pins s I) fun u s1 hh => ?_)
  · cases d with
    | own _ => exact hq1.elim
    | m => exact hq1.elim
    | scr _ => exact hq1.elim
    | clo _ => exact hq1.elim
    | dic _ => exact hq1.elim
    | dki _ => exact hq1.elim
    | pu _ => exact hq1.elim
    | exc c pd => exact ⟨c, pd, F1, g1, ex1, R1, dn1, hq1⟩
  · obtain ⟨v, H1, I1, rv, c, pd, F1, g1, ex1, R1, ev, hq1⟩ := hh
    split at hq1
    · rename_i hc
      obtain ⟨en, C, hno⟩ := hok c hc
      obtain ⟨ea, d, w, oe, od, mA, rfl, J, hl, ⟨uv, hu, ru⟩, dn⟩ := excV_at ev R1.sub I1.hok
      obtain rfl : u = Value.ref ea := rv
      rw [en] at hl hu
      exact HandSPX.exc_get I1.kIn J C.ga C.gg C.sb (PySem.W.findObj_own C.hd hno rfl (by rw [hl, hu])) (handed_of ru) ⟨w, H1, I1.tok _, ru, hq1 _ F1 H1 Ext.refl R1 dn⟩
    · exact hq1.elim
theorem ExcV.ne_non {K : PySem.W.Frag} {F : Hp} {v : V} {c : Nat} {p : PyData} (h : ExcV K et F v c p) : decide (v = .non) = false := by
  obtain ⟨_, _, _, rfl, _⟩ := h
  exact decide_eq_false fun z => nomatch z
theorem dt_isN {e : Expr} {j : Nat} {p pos : Pos} {f : Sg → Rs Sg DV} (ha : DE X et W e f) (hm : behindInMarks .Is (.Constant .none j p) = false := by exact nomark _) : DT X et W (.Compare e [.Is] [.Constant .none j p] pos) (mIsN f) := fun am B F g σ H Q R hq => by
  refine wt_of (pt_cmpR op_isN pe_w pe_non hm) (ha.then (goodB (Q := Q)) R hq fun d g1 v F1 H1 ex1 R1 dn1 hq1 => ?_)
  refine ⟨rfl, ?_⟩
  cases d with
  | own _ => exact hq1.elim
  | m => exact hq1.elim
  | scr _ => exact hq1.elim
  | clo _ => exact hq1.elim
  | dic _ => exact hq1.elim
  | dki _ => exact hq1.elim
  | pu d => exact ⟨_, by rw [dec_non dn1], hq1 F1 H1 Ext.refl R1⟩
  | exc c pd => exact ⟨_, by rw [ExcV.ne_non dn1], hq1 F1 H1 Ext.refl R1⟩
end
end DL
set_option Elab.async false
set_option linter.all false
set_option maxRecDepth 100000
set_option maxHeartbeats 4000000
set_option autoImplicit false
namespace DL
open PySem PySem.Spec L2
open PyProof.Rows hiding St
theorem XO_ok {P : Program} {w : World} {H : Hp} {h : Heap} {a C d : Addr} {oe : Obj} {vs : Array Value} (e : h.get? a = some oe) (h1 : oe.cls = .ref C) (h2 : oe.dict = some d) (h3 : oe.data = .fields vs) : ObjOk P w H h a (XO a C d) :=
  ⟨⟨oe, vs, e, h1, h2, h3⟩, ⟨oe, e⟩, fun _ _ ⟨o, vs', e1, e2, e3, e4⟩ k => ⟨o, vs', k o e1, e2, e3, e4⟩⟩
theorem Inv.track {X : Cx} {pins : List (Addr × Obj)} {σ : L2.St} {H : Hp} {s : Shared} {a : Addr} {oe : Obj} {o : HO} (I : Inv X ((a, oe) :: pins) σ H s) (h0 : X.s_0.heap.get? a = none) (hp : ∀ p ∈ X.pn ++ pins, p.1 ≠ a) (new : ObjOk X.prog X.w (upd H a o) s.heap a o) : Inv X pins σ (upd H a o) s := by
  obtain ⟨ea, na, nl, nf, nc⟩ := I.pin (a, oe) (List.mem_append_right _ List.mem_cons_self)
  have up : ∀ {b : Addr} {u : HO}, H b = some u → upd H a o b = some u := fun {b u} e => by rw [upd_ne (ne_of_none e na)]; exact e
  refine ⟨I.ok, I.os, I.bare, ⟨I.base.keep, I.base.slot, fun b ob e n hx => ?_, I.base.there, fun b xs e => up (I.base.tups b xs e), fun b ob u e => up (I.base.frzs b ob u e), fun b ps e => ?_⟩, I.loc, I.cell, ?_, fun x c e => ?_, fun p hm => ?_, fun b u e => ?_, I.len⟩
  · rw [upd_ne (fun z => by rw [z, h0] at e; cases e)]
    exact I.base.free b ob e n hx
  · obtain ⟨more, e'⟩ := I.base.tbls b ps e
    exact ⟨more, up e'⟩
  · rw [upd_ne (Ne.symm nl)]; exact I.free
  · rw [upd_ne]
    · exact I.freeC x c e
    · intro z
      obtain ⟨v, oc, e1, e2⟩ := I.cell x c e
      rw [z, ea] at e1
      cases e1
      exact nc v e2
  · have hm' : p ∈ X.pn ++ ((a, oe) :: pins) := (List.mem_append.mp hm).elim (fun z => List.mem_append_left _ z) fun z => List.mem_append_right _ (List.mem_cons_of_mem _ z)
    obtain ⟨e1, e2, e3, e4, e5⟩ := I.pin p hm'
    exact ⟨e1, by rw [upd_ne (hp p hm)]; exact e2, e3, e4, e5⟩
  · by_cases hb : b = a
    · subst hb; rw [upd_same] at e; cases e; exact new
    · rw [upd_ne hb] at e
      exact (I.hok b u e).stay (fun _ _ _ y => y) (fun d y => up y) fun d xs y => up y
theorem flying_push {B h : Heap} {l : List Env} {a : Addr} {Z : Obj → Prop} (o : Obj) (fl : HandSPX.FlyingZ B l a Z h) : HandSPX.FlyingZ B l a Z (h.push o) := by
  obtain ⟨k1, k2, k3, oe, vs, T, oT, ts, e1, e2, e3, e4, e5, e6, e7, e8, e9⟩ := fl
  exact ⟨fun b u e => Heap.get?_push_of_some _ (k1 b u e), k2, Heap.FunFrames.of_keeps (fun b u e _ => ⟨u, Heap.get?_push_of_some _ e, rfl⟩) k3, oe, vs, T, oT, ts, Heap.get?_push_of_some _ e1, e2, e3, e4, e5, e6, Heap.get?_push_of_some _ e7, e8, e9⟩
/-- found = call(), or the error kept in slot j; slot i is the clause's name -/
def mTry (i j : Nat) (ok : Nat → Bool) (fb : Sg → Rs Sg Fl) (g : Sg) : Rs Sg Fl := match fb g with
  | .ok fl g1 => .ok fl g1
  | .ex c p g1 => if ok c = true then .ok .nx { g1 with r := (g1.r.set j (some (.exc c p))).set i none } else .no
  | .no => .no
theorem RepF.drop {K : PySem.W.Frag} {et : ET} {am : Addr} {B F : Hp} {g : Sg} {σ σ' : L2.St} {H : Hp} (R : RepF K et am B F g σ H) (i : Nat) (hl : σ'.length = σ.length) (h : ∀ k, k ≠ i → σ'[k]? = σ[k]?) : RepF K et am B F { g with r := g.r.set i none } σ' H := by
  have key : ∀ {k : Nat} {x : DV}, (g.r.set i none)[k]? = some (some x) → k ≠ i ∧ g.r[k]? = some (some x) := fun {k x} e => by
    by_cases z : i = k
    · subst z
      by_cases hl : i < g.r.length
      · rw [List.getElem?_set_self hl] at e; cases e
      · rw [List.getElem?_eq_none (by rw [List.length_set]; omega)] at e; cases e
    · rw [List.getElem?_set_ne z] at e
      exact ⟨Ne.symm z, e⟩
  refine ⟨R.sub, R.fam, R.base, by show σ'.length = (g.r.set i none).length; rw [List.length_set, hl]; exact R.len, fun k x e => ?_, fun k l x1 x2 a e1 e2 o1 o2 e3 e4 => ?_, R.ms⟩
  · obtain ⟨n, e'⟩ := key e
    obtain ⟨v, h1, h2⟩ := R.slot k x e'
    exact ⟨v, by rw [h k n]; exact h1, h2⟩
  · obtain ⟨n1, e1'⟩ := key e1
    obtain ⟨n2, e2'⟩ := key e2
    rw [h k n1] at e3
    rw [h l n2] at e4
    exact R.inj k l x1 x2 a e1' e2' o1 o2 e3 e4
section
variable {X : Cx} {et : ET} {W : WX}
theorem ds_try {k i j : Nat} {n er x1 x2 : Str} {D1 D2 : Addr} {ok : Nat → Bool} {body : List Stmt} {kt : Nat} {q1 q2 tp ep op sp pos' pos : Pos} {fb : Sg → Rs Sg Fl} (C : Here X k W) (hs : X.stack = X.env :: X.outer) (hf : X.env.frame = some X.env.locals) (hex : X.ex = [])
    (h1 : X.mg x1 = some (.ref D1)) (h2 : X.mg x2 = some (.ref D2)) (hok : ∀ c, ok c = true → PySem.W.exmAny X.K (.ref (et.cls c)) [.ref D1, .ref D2] = some true)
    (hb : ∀ (W' : WX) (pn : List (Addr × Obj)) (xe : Value → Shared → Prop), Here (X.tr pn xe) k W' → DSs (X.tr pn xe) et W' body fb)
    (hi : X.N[i]? = some n := by rfl) (hj : X.N[j]? = some er := by rfl) (hij : i ≠ j := by decide) (hln : X.env.kindOf n = some .local := by rfl) (hlj : Loc X.env.scope er := by first | exact Or.inl rfl | exact Or.inr rfl) (hdn : (n == ("__debug__" : Str)) = false := by decide) (hcn : (n == ("__classdict__" : Str)) = false := by decide)
    (hg1 : Gl X x1 := by rfl) (hg2 : Gl X x2 := by rfl) (hd1 : (x1 == ("__debug__" : Str)) = false := by decide) (hd2 : (x2 == ("__debug__" : Str)) = false := by decide)
    (hst : starEach [.Name x1 q1, .Name x2 q2] X.env = [(false, eval (.Name x1 q1) X.env), (false, eval (.Name x2 q2) X.env)] := by rfl)
    (hsw : swapsWith (.Name n ep) (some (.Name er op)) sp.line X.env = pure false := by rfl) (hfj : X.fn er = true ∨ X.env.scope.names.lookup er = some .local := by first | exact .inl rfl | exact .inr rfl | assumption) :
    DS X et W (.Try body [.ExceptHandler (some (.Tuple [.Name x1 q1, .Name x2 q2] kt tp)) (some n) [.Assign [.Name er op] (.Name n ep) sp] pos'] [] [] pos) (mTry i j ok fb) := fun am B F g σ H D R hq => by
  refine ⟨fun pins s I => ?_⟩
  have okx := I.ok
  have hfr : X.A.frames = some (X.env :: X.outer) := by rw [okx.frames, hs]
  have hloc : Loc X.env.scope n := .inl hln
  have hN := C.nd
  obtain ⟨Wc, hWc⟩ : ∃ Wc : WX, Wc = fun cls d σ1 H1 => ∃ c p g1 F1, fb g = .ex c p g1 ∧ Ext B F F1 ∧ RepF X.K et am B F1 g1 σ1 H1 ∧ ExRel X.K et F1 H1 c p cls d := ⟨_, rfl⟩
  have okb : OkF X.K et Wc am B F D (fb g) := by
    have hq : OkF X.K et W am B F D (match fb g with
      | .ok fl g1 => .ok fl g1
      | .ex c p g1 => if ok c = true then .ok .nx { g1 with r := (g1.r.set j (some (.exc c p))).set i none } else .no
      | .no => .no) := hq
    cases q : fb g with
    | no => rw [q] at hq; exact hq
    | ok fl g1 => rw [q] at hq; cases fl <;> exact hq
    | ex c p g1 =>
      intro σ1 cls d F1 H1 ex R1 r
      rw [hWc]
      exact ⟨c, p, g1, F1, q, ex, R1, r⟩
  refine wpAny_Try_except ?_
  refine wpAny_mono ((hb Wc (X.pn ++ pins) (fun e s₁ => wpAny (model X.prog X.w) X.A (noteFrame e X.env) (fun _ s₂ => wpAny (model X.prog X.w) X.A (setFlight e none) (fun _ s₃ =>
    wpAny (model X.prog X.w) X.A (handleBy e X.env [.ExceptHandler (some (.Tuple [.Name x1 q1, .Name x2 q2] kt tp)) (some n) [.Assign [.Name er op] (.Name n ep) sp] pos']) (SP X pins D) X.xe s₃) X.xe s₂) X.xe s₁) ⟨C.hr, C.hg, fun u s' xx => ?_, PassesOwn.looking, C.nd⟩ am B F g σ H D R okb).run [] s (I.toTry _)) (fun f s1 hsp => ?_) (fun e s1 he => he)
  · obtain ⟨a, Bg, sI, pins', σ', H', cls, d, rfl, J', nb, up, sky, na, os, ag, hw⟩ := xx
    rw [hWc] at hw
    obtain ⟨c, p, g1, F1, efb, ex1, R1, ecls, da, v0, ed, hxd, dn0⟩ := hw
    subst ecls
    subst ed
    have hq : OkF X.K et W am B F D (mTry i j ok fb g) := hq
    unfold mTry at hq
    rw [efb] at hq
    have hq : OkF X.K et W am B F D (if ok c = true then .ok .nx { g1 with r := (g1.r.set j (some (.exc c p))).set i none } else .no : Rs Sg Fl) := hq
    by_cases hc : ok c = true
    case neg => rw [if_neg hc] at hq; exact hq.elim
    rw [if_pos hc] at hq
    have J : Inv X pins σ' H' sI := J'.ofTry okx
    have sky' : Sky Bg (X.env :: X.outer) a (Zc (.ref (et.cls c)) (some da)) X.env.locals s'.heap := by rw [← hs]; exact sky
    show wpAny (model X.prog X.w) X.A (noteFrame (.ref a) X.env) _ _ _
    refine Sky.land Zc.steady hfr hf sky' fun h3 fl3 up3 => ?_
    have J3 : Inv X pins σ' H' { s' with heap := h3 } := J.landed nb fl3.1 (up.trans up3) os ag
    obtain ⟨oe3, vs3, he3, hz3, hd3⟩ := fl3.there
    have notFr : ∀ {h : Heap} {o : Obj} {vs : Array Value}, h.FunFrames Bg (X.env :: X.outer) → h.get? a = some o → o.data = .fields vs → a ∉ frs (X.env :: X.outer) := fun {h o vs} ff e dd hm => by
      obtain ⟨_, o', e', hnf⟩ := ff.mem hm
      rw [e] at e'; cases e'
      exact hnf _ dd
    have nfr := notFr fl3.2.2.1 he3 hd3
    have nL : a ≠ X.env.locals := fun z => nfr (List.mem_filterMap.mpr ⟨X.env, List.mem_cons_self, by rw [hf, z]⟩)
    have nF : a ∉ X.fs := fun hm => by
      obtain ⟨e, he, q⟩ := List.mem_filterMap.mp hm
      exact nfr (List.mem_filterMap.mpr ⟨e, List.mem_cons_of_mem _ he, q⟩)
    have naI : sI.heap.get? a = none := by
      cases q : sI.heap.get? a with
      | none => rfl
      | some o =>
        have := nb a o q (by rw [hs]; exact nfr)
        rw [fl3.2.1] at this
        cases this
    have na0 : X.s_0.heap.get? a = none := by
      cases q : X.s_0.heap.get? a with
      | none => rfl
      | some o =>
        by_cases hx : a ∈ X.ex
        · rw [hex] at hx; cases hx
        · obtain ⟨o', e'⟩ := J.base.there a o q hx
          rw [naI] at e'; cases e'
    have S3 := J3.suite he3 hd3 na nL nF
    refine wpAny_handleBy_cons (codeAny_handlers_test ?_) (by intro q; cases q)
    refine wpAny_Tuple_spliced ?_
    rw [hst]
    refine Calls.spliced_cons (ld_glob (X := X.suite a ((a, oe3) :: (X.pn ++ pins))) S3 hg1 h1 ?_ hd1)
    refine Calls.spliced_cons (ld_glob (X := X.suite a ((a, oe3) :: (X.pn ++ pins))) S3 hg2 h2 ?_ hd2)
    refine Calls.spliced_nil ⟨by show 2 ≤ sizeLine; decide, ?_⟩
    have flp := flying_push { cls := .type "tuple", data := .seq [Value.ref D1, Value.ref D2].toArray } fl3
    have LT : PySem.W.Looks (model X.prog X.w) (h3.push { cls := .type "tuple", data := .seq [Value.ref D1, Value.ref D2].toArray }) (typeOf (.ref a)) (.ref (et.cls c)) := fun A Q E s k q => wpAny_typeOf_ref (k _ _ (Heap.get?_push_of_some _ he3)) (by rw [hz3.1]; exact q)
    have LM := PySem.W.exm_tup2 (M := model X.prog X.w) (K := X.K) (J3.kIn.keeps fun b o e => Heap.get?_push_of_some _ e) LT (tp := h3.objs.size) (Heap.get?_push_size _ rfl) (hok c hc)
    refine LM.here ?_
    refine codeAny_handlers_suite_as ?_
    refine HandSPX.lands_againZ flp fun h4 fl4 up4 => ?_
    have upp : h3.UpToSlots (h3.push { cls := .type "tuple", data := .seq [Value.ref D1, Value.ref D2].toArray }) := Heap.UpToSlots.of_keeps fun b o e => Heap.get?_push_of_some _ e
    have J4 : Inv X pins σ' H' { s' with heap := h4 } := J.landed nb fl4.1 (((up.trans up3).trans upp).trans up4) os ag
    obtain ⟨oe4, vs4, he4, hz4, hd4⟩ := fl4.there
    have S4 := J4.suite he4 hd4 na nL nF
    refine store_ok (X := X.suite a ((a, oe4) :: (X.pn ++ pins))) (v := .ref a) S4 hN hi hloc rfl (fun s5 S5 => ?_) (.inr hln)
    refine wpAny_mono ((pss_one (ps_set (X := X.suite a ((a, oe4) :: (X.pn ++ pins))) hN hj hlj (pe_var (i := i) hi (.inl hln) hdn hcn) hsw hfj)).run [] s5 _ H' { nx := fun σ6 H6 => σ6 = (σ'.set i (some (.ref a))).set j (some (.ref a)) ∧ H6 = H', rt := fun _ _ => False } S5 ?_) (fun f s6 hsp => ?_) (fun _ _ z => False.elim z)
    · refine ⟨.ref a, ?_, rfl, rfl⟩
      have hl : i < σ'.length := by rw [J.len]; exact (List.getElem?_eq_some_iff.mp hi).1
      rw [List.getElem?_set_self hl]
    cases f with
    | brk => obtain ⟨_, _, _, z⟩ := hsp; exact z.elim
    | cont => obtain ⟨_, _, _, z⟩ := hsp; exact z.elim
    | ret u => obtain ⟨_, _, _, _, _, z⟩ := hsp; exact z.elim
    | next =>
    obtain ⟨σ6, H6, S6, e6, eH⟩ := hsp
    subst e6
    rw [eH] at S6
    have S6' : Inv X ((a, oe4) :: pins) ((σ'.set i (some (.ref a))).set j (some (.ref a))) H' s6 := ⟨okx, S6.os, S6.bare, S6.base, S6.loc, S6.cell, S6.free, S6.freeC, fun p hp => S6.pin p (by
      show p ∈ ((a, oe4) :: (X.pn ++ pins)) ++ []
      rw [List.append_nil]
      rcases List.mem_append.mp hp with z | z
      · exact List.mem_cons_of_mem _ (List.mem_append_left _ z)
      · rcases List.mem_cons.mp z with z | z
        · rw [z]; exact List.mem_cons_self
        · exact List.mem_cons_of_mem _ (List.mem_append_right _ z)), S6.hok, S6.len⟩
    refine gone_ok S6' hN hi hln fun s7 J7 => ?_
    obtain ⟨ea7, _⟩ := J7.pin (a, oe4) (List.mem_append_right _ List.mem_cons_self)
    have J8 := Inv.track (o := XO a (et.cls c) da) J7 na0 (fun q hq' z => by
      obtain ⟨e1, _⟩ := J.pin q hq'
      rw [z, naI] at e1
      cases e1) (XO_ok ea7 hz4.1 hz4.2 hd4)
    obtain ⟨R2, ex2⟩ := R1.alloc na (XO a (et.cls c) da)
    have ev : ExcV X.K et (upd F1 a (XO a (et.cls c) da)) (.ref a) c p := ⟨a, da, v0, rfl, upd_same, ex2.1 _ _ hxd, Dn.up dn0 ex2.1⟩
    have R3 := (R2.put j (show DenP X.K et am _ (.ref a) (.exc c p) from ev)).drop (σ' := ((σ'.set i (some (.ref a))).set j (some (.ref a))).set i none) i (by simp) (fun k hk => by
      rw [List.getElem?_set_ne (Ne.symm hk)]
      by_cases hkj : j = k
      · subst hkj
        have hl : j < σ'.length := by rw [J.len]; exact (List.getElem?_eq_some_iff.mp hj).1
        rw [List.getElem?_set_self (by rw [List.length_set]; exact hl), List.getElem?_set_self hl]
      · rw [List.getElem?_set_ne hkj, List.getElem?_set_ne hkj, List.getElem?_set_ne (Ne.symm hk)])
    exact ⟨_, _, J8, hq _ _ _ (ex1.trans ex2) R3⟩
  · cases f with
    | next =>
      obtain ⟨σ', H', J', q⟩ := hsp
      exact wpAny_execs_nil ⟨σ', H', J'.ofTry okx, q⟩
    | brk =>
      obtain ⟨σ', H', J', q⟩ := hsp
      exact ⟨σ', H', J'.ofTry okx, q⟩
    | cont =>
      obtain ⟨σ', H', J', q⟩ := hsp
      exact ⟨σ', H', J'.ofTry okx, q⟩
    | ret u =>
      obtain ⟨v, σ', H', J', r, q⟩ := hsp
      exact ⟨v, σ', H', J'.ofTry okx, r, q⟩
end
end DL
set_option Elab.async false
set_option linter.all false
set_option maxRecDepth 100000
set_option maxHeartbeats 4000000
set_option autoImplicit false
namespace DL
open PySem PySem.Spec L2
open PyProof.Rows hiding St
abbrev FnI : Type := Option (Str × Str × Arguments × FuncBody × Scope × Addr × List Str × Value × Value × Option Addr × Addr)
def iniObs (K : PySem.W.Frag) (x : Str) : FnI := match K.lookup (He.ma K (He.ga K x) "__init__") with
  | some ⟨_, _, .func fd, _⟩ => some (fd.name, fd.qualname, fd.params, fd.body, fd.scope, fd.globals, fd.closure.map (·.1), fd.defaults, fd.kwdefaults, fd.annotations, fd.builtins)
  | _ => none
/-- a class with its one def, its field, the parameter -/
structure IniD where
  x : Str
  st : Stmt
  fld : Str
  par : Str
  msg : Str
def iFun : Stmt → Stmt
  | .ClassDef _ _ _ (b :: _) _ _ _ _ _ _ _ => b
  | s => s
abbrev IniD.q (d : IniD) : Str := d.x ++ ".__init__"
def IniD.val (d : IniD) : FnI := some ("__init__", d.q, defArgs (iFun d.st), .stmts (defBody (iFun d.st)), defScope (iFun d.st), mainGlobals, ["__class__"], .none, .none, none, builtinsNs)
abbrev IniD.nf (d : IniD) (cl : List (Str × Addr)) (c : Addr) : NdefX.NF := ⟨"__init__", d.q, defArgs (iFun d.st), defBody (iFun d.st), defScope (iFun d.st), cl, c⟩
def oexB (K : PySem.W.Frag) (C : Addr) : Bool := match K.lookup C with
  | some ⟨.type t, _, .cls cd, sl⟩ => (match cd.mro, sl.toList with
    | .ref C' :: bm, [_, _, _, _, some (.builtin n), _] => decide (t = "type") && (decide (C' = C) && (decide (n = "ValueError.__new__") && (!cd.hasDel && (cd.hasDict && PySem.HandSPX.refsVE bm))))
    | _, _ => false)
  | _ => false
def oexBL (K : PySem.W.Frag) (C : Addr) : Bool := match K.lookup C with
  | some ⟨.type t, _, .cls cd, sl⟩ => (match cd.mro, sl.toList with
    | [.ref C', .type m1, .type m2, .type m3, .type m4], [_, _, _, _, some (.builtin n), _] => decide (t = "type") && (decide (C' = C) && (decide (n = "LookupError.__new__") && (!cd.hasDel && (cd.hasDict && (decide (m1 = "LookupError") && (decide (m2 = "Exception") && (decide (m3 = "BaseException") && decide (m4 = "object"))))))))
    | _, _ => false)
  | _ => false
def xcB (K : PySem.W.Frag) (D : Addr) : Bool := (PySem.W.clsIn K D).isSome && (He.eqO (PySem.W.findIn K (.ref D) "__getattribute__") (some (some (.builtin "BaseException.__getattribute__"))) && (He.eqO (PySem.W.findIn K (.ref D) "__getattr__") (some none) &&
  (decide (PySem.W.subIn K (.ref D) (.type "BaseException") = some true) && (PySem.W.hasDictIn K D && (He.eqO (PySem.W.findIn K (.ref D) "__class__") (some (some (.builtin "object.__class__"))) &&
  (He.eqO (PySem.W.specialIn K (.builtin "object.__class__") "__get__") (some (some (.builtin "getset_descriptor.__get__"))) && (decide (PySem.W.takesIn K (.builtin "object.__class__") = some true) && decide (PySem.W.mroIn K D (.type "object") = some true))))))))
def cellB (K : PySem.W.Frag) (C : Addr) (file : Str) (fI : Addr) : Bool := match K.lookup fI with
  | some ⟨_, _, .func fd, _⟩ => (match fd.closure, fd.code with
    | [(_, cc)], .ref c => (match K.lookup cc, K.lookup c with
      | some ⟨_, _, .cell (some (.ref C')), _⟩, some ⟨_, _, .fields vs, _⟩ => decide (C' = C) && (PySem.W.codeIn K (.ref c) fd.qualname && (match (vs[2]? : Option Value) with
        | some (.str f _) => file == f
        | _ => false))
      | _, _ => false)
    | _, _ => false)
  | _ => false
def iniB (file : Str) (K : PySem.W.Frag) (d : IniD) : Bool := He.eqO (PySem.W.nsIn K mainGlobals d.x) (some (some (.ref (He.ga K d.x)))) && (oexB K (He.ga K d.x) && (He.eqO (PySem.W.findIn K (.ref (He.ga K d.x)) "__setattr__") (some (some (.builtin "object.__setattr__"))) &&
  (decide (PySem.W.subIn K (.ref (He.ga K d.x)) (.type "BaseException") = some true) && (decide (PySem.W.typeIn K (.ref (He.ga K d.x)) = some (.type "type")) && (PySem.W.keepIn K (.ref (He.ga K d.x)) && (cellB K (He.ga K d.x) file (He.ma K (He.ga K d.x) "__init__") &&
  (He.eqO (PySem.W.findIn K (.ref (He.ga K d.x)) "__init__") (some (some (.ref (He.ma K (He.ga K d.x) "__init__")))) && (decide (PySem.W.typeIn K (.ref (He.ma K (He.ga K d.x) "__init__")) = some (.type "function")) && (He.eqO (PySem.W.nsIn K cStatics "thirdparty.any") (some none) &&
  (decide (PySem.W.mroIn K (He.ga K d.x) (.ref (He.ga K d.x)) = some true) && (decide (PySem.W.subIn K (.ref (He.ga K d.x)) (.type "ValueError") = some true) && (He.eqO (PySem.W.ks_superIn K (He.ga K d.x) (He.ga K d.x) "__init__") (some (some (.builtin "ValueError.__init__"))) &&
  He.eqO (PySem.W.findIn K (.ref (He.ga K d.x)) d.fld) (some none)))))))))))))
def iniBL (file : Str) (K : PySem.W.Frag) (d : IniD) : Bool := He.eqO (PySem.W.nsIn K mainGlobals d.x) (some (some (.ref (He.ga K d.x)))) && (oexBL K (He.ga K d.x) && (He.eqO (PySem.W.findIn K (.ref (He.ga K d.x)) "__setattr__") (some (some (.builtin "object.__setattr__"))) &&
  (decide (PySem.W.subIn K (.ref (He.ga K d.x)) (.type "BaseException") = some true) && (decide (PySem.W.typeIn K (.ref (He.ga K d.x)) = some (.type "type")) && (PySem.W.keepIn K (.ref (He.ga K d.x)) && (cellB K (He.ga K d.x) file (He.ma K (He.ga K d.x) "__init__") &&
  (He.eqO (PySem.W.findIn K (.ref (He.ga K d.x)) "__init__") (some (some (.ref (He.ma K (He.ga K d.x) "__init__")))) && (decide (PySem.W.typeIn K (.ref (He.ma K (He.ga K d.x) "__init__")) = some (.type "function")) && (He.eqO (PySem.W.nsIn K cStatics "thirdparty.any") (some none) &&
  (decide (PySem.W.mroIn K (He.ga K d.x) (.ref (He.ga K d.x)) = some true) && (decide (PySem.W.subIn K (.ref (He.ga K d.x)) (.type "LookupError") = some true) && (He.eqO (PySem.W.ks_superIn K (He.ga K d.x) (He.ga K d.x) "__init__") (some (some (.builtin "LookupError.__init__"))) &&
  He.eqO (PySem.W.findIn K (.ref (He.ga K d.x)) d.fld) (some none)))))))))))))
/-- by its base -/
def iniX (file : Str) (K : PySem.W.Frag) (d : IniD) : Bool := if decide (d.x = "Nothing") = true then iniBL file K d else iniB file K d
theorem oexB_ok {K : PySem.W.Frag} {C : Addr} (h : oexB K C = true) : ∃ nm q N bs bm sn sub ab col dd k0 k1 k2 k3 k5, K.lookup C = some (excClassObj nm q C N bs bm true sn sub ab col dd k0 k1 k2 k3 k5 "ValueError.__new__") ∧ PySem.HandSPX.refsVE bm = true := by
  unfold oexB at h
  split at h
  · rename_i t dd cd sl ho
    split at h
    · rename_i C' bm k0 k1 k2 k3 n k5 hm hs
      simp only [Bool.and_eq_true, decide_eq_true_eq, Bool.not_eq_true'] at h
      obtain ⟨rfl, rfl, rfl, hdel, hdct, hr⟩ := h
      obtain ⟨nm, bs, mro, ns, qn, hd, sn, sub, ab, col, del⟩ := cd
      dsimp only at hm hdel hdct
      subst hm hdel hdct
      have hsl : sl = #[k0, k1, k2, k3, some (.builtin "ValueError.__new__"), k5] := by
        obtain ⟨l⟩ := sl
        simp only at hs
        rw [hs]
      subst hsl
      exact ⟨nm, qn, ns, bs, bm, sn, sub, ab, col, dd, k0, k1, k2, k3, k5, ho, hr⟩
    · cases h
  · cases h
theorem oexBL_ok {K : PySem.W.Frag} {C : Addr} (h : oexBL K C = true) : ∃ nm q N bs sn sub ab col dd k0 k1 k2 k3 k5, K.lookup C = some (excClassObj nm q C N bs leT true sn sub ab col dd k0 k1 k2 k3 k5 "LookupError.__new__") := by
  unfold oexBL at h
  split at h
  · rename_i t dd cd sl ho
    split at h
    · rename_i C' m1 m2 m3 m4 k0 k1 k2 k3 n k5 hm hs
      simp only [Bool.and_eq_true, decide_eq_true_eq, Bool.not_eq_true'] at h
      obtain ⟨rfl, rfl, rfl, hdel, hdct, rfl, rfl, rfl, rfl⟩ := h
      obtain ⟨nm, bs, mro, ns, qn, hd, sn, sub, ab, col, del⟩ := cd
      dsimp only at hm hdel hdct
      subst hm hdel hdct
      have hsl : sl = #[k0, k1, k2, k3, some (.builtin "LookupError.__new__"), k5] := by
        obtain ⟨l⟩ := sl
        simp only at hs
        rw [hs]
      subst hsl
      exact ⟨nm, qn, ns, bs, sn, sub, ab, col, dd, k0, k1, k2, k3, k5, ho⟩
    · cases h
  · cases h
theorem xcB_ok {K : PySem.W.Frag} {D : Addr} (h : xcB K D = true) : XC K D := by
  unfold xcB at h
  simp only [Bool.and_eq_true, decide_eq_true_eq, He.eqO] at h
  obtain ⟨h1, h2, h3, h4, h5, h6, h7, h8, h9⟩ := h
  exact ⟨h1, h2, h3, h4, h5, h6, h7, h8, h9⟩
theorem cellB_ok {K : PySem.W.Frag} {C : Addr} {file : Str} {fI : Addr} (h : cellB K C file fI = true) : ∃ oc od fd osl y cc c, K.lookup fI = some ⟨oc, od, .func fd, osl⟩ ∧ fd.closure = [(y, cc)] ∧ fd.code = .ref c ∧ (∃ a b d, K.lookup cc = some ⟨a, b, .cell (some (.ref C)), d⟩) ∧ PySem.W.codeIn K (.ref c) fd.qualname = true ∧
    ∃ a b vs d f t, K.lookup c = some ⟨a, b, .fields vs, d⟩ ∧ vs[2]? = some (.str f t) ∧ (file == f) = true := by
  unfold cellB at h
  split at h
  · rename_i oc od fd osl ho
    split at h
    · rename_i y cc c hcl hcd
      split at h
      · rename_i a1 b1 C' d1 a2 b2 vs d2 e1 e2
        rw [Bool.and_eq_true, Bool.and_eq_true, decide_eq_true_eq] at h
        obtain ⟨rfl, hc, hf⟩ := h
        split at hf
        · rename_i f t e3
          exact ⟨oc, od, fd, osl, y, cc, c, ho, hcl, hcd, ⟨_, _, _, e1⟩, hc, _, _, _, _, _, _, e2, e3, hf⟩
        · cases hf
      · cases h
    · cases h
  · cases h
theorem IniD.fn {K : PySem.W.Frag} {d : IniD} {oc : Value} {od : Option Addr} {fd : FuncData} {osl : Array (Option Value)} {y : Str} {cc c : Addr} (e : iniObs K d.x = d.val) (lk : K.lookup (He.ma K (He.ga K d.x) "__init__") = some ⟨oc, od, .func fd, osl⟩) (hcl : fd.closure = [(y, cc)]) (hcd : fd.code = .ref c) :
    ∃ doc pm ctv, fd = (d.nf [("__class__", cc)] c).fd doc pm ctv := by
  unfold iniObs at e
  rw [lk] at e
  obtain ⟨n1, n2, n3, n4, n5, n6, n7, n8, n9, n10, n11, n12, n13, n14, n15⟩ := fd
  have e2 : (some (n1, n2, n3, n4, n5, n6, n7.map (·.1), n8, n9, n12, n15) : FnI) = (some ("__init__", d.q, defArgs (iFun d.st), .stmts (defBody (iFun d.st)), defScope (iFun d.st), mainGlobals, ["__class__"], .none, .none, none, builtinsNs) : FnI) := e
  dsimp only at hcl hcd
  subst hcl hcd
  simp only [Option.some.injEq, Prod.mk.injEq, List.map_cons, List.map_nil, List.cons.injEq, and_true] at e2
  obtain ⟨h1, h2, h3, h4, h5, h6, h7, h8, h9, h10, h11⟩ := e2
  subst h1 h2 h3 h4 h5 h6 h7 h8 h9 h10 h11
  exact ⟨n10, n11, n14, rfl⟩
/-- the text's own facts of such a class -/
structure IniT (P : Program) (d : IniD) : Prop where
  scope : NdefX.NScope ["self", d.par, "__class__"] ["self", d.par] ["__class__"] (defScope (iFun d.st))
  sup : (defScope (iFun d.st)).names.lookup ("super" : Str) = some .globalImplicit
  head : ∃ ar, ((defArgs (iFun d.st)).posonlyargs ++ (defArgs (iFun d.st)).args).head? = some ar ∧ ar.arg = ("self" : Str)
  body : ∃ p0 p1 p2 p3 p4 p5 q0 q1 q2 q3 j, defBody (iFun d.st) = xBody d.fld d.par d.msg p0 p1 p2 p3 p4 p5 q0 q1 q2 q3 j ∧ ∀ (cl : List (Str × Addr)) (c fI L : Addr), ∃ pl, eval (.Call (.Attribute (.Call (.Name "super" p0) [] [] p1) "__init__" p2) [.Constant (.str d.msg) j p3] [] p4) (NdefX.envF (d.nf cl c) fI L) = (do
      let ov ← attributeBase (.Call (.Name "super" p0) [] [] p1) "__init__" (NdefX.envF (d.nf cl c) fI L) (eval (.Call (.Name "super" p0) [] [] p1) (NdefX.envF (d.nf cl c) fI L))
      standAt p2.atName
      let (f, first) ← holding [ov] (getMethod ov "__init__" pl)
      callWith p4 f first (backTo p4 (starEach [.Constant (.str d.msg) j p3] (NdefX.envF (d.nf cl c) fI L))) [])
  top : (P.main.scope.names.lookup ("super" : Str)).isSome = false
  nx : d.par ≠ "self" ∧ (d.par == ("__debug__" : Str)) = false ∧ (d.par == ("__classdict__" : Str)) = false
  bind : ∀ (cl : List (Str × Addr)) (c : Addr) (doc pm ctv : Value) (us : List Value), us.length = 2 → bindArgs ((d.nf cl c).fd doc pm ctv) ⟨us, []⟩ = pure ([("self" : Str), d.par].zip us)
  bindK : ∀ (cl : List (Str × Addr)) (c : Addr) (doc pm ctv s v : Value), bindArgs ((d.nf cl c).fd doc pm ctv) ⟨[s], [(d.par, v)]⟩ = pure ([("self" : Str), d.par].zip [s, v])
  pf : d.par = d.fld
theorem IniD.xclsV {P : Program} {K : PySem.W.Frag} {h : Heap} {mg : Str → Option Value} {et : ET} {c : Nat} {d : IniD} (X : K.In h) (G : h.Ns mainGlobals mg) (T : IniT P d) (e : iniObs K d.x = d.val) (b : iniB P.main.file K d = true) (hc : et.cls c = He.ga K d.x) (hf : et.fld c = d.fld) : XCls P K mg et c d.x := by
  unfold iniB at b
  simp only [Bool.and_eq_true, decide_eq_true_eq, He.eqO] at b
  obtain ⟨b1, b2, b3, b4, b5, b6, b7, b8, b9, b10, b11, b12, b13, b14⟩ := b
  obtain ⟨oc, od, fd, osl, y, cc, co, lk, hcl, hcd, hcell, hcode, hfile⟩ := cellB_ok b7
  obtain ⟨doc, pm, ctv, rfl⟩ := IniD.fn e lk hcl hcd
  refine ⟨⟨He.ma K (He.ga K d.x) "__init__", cc, d.nf [("__class__", cc)] co, d.par, d.msg, ?_, ?_, b9, ?_, fun doc pm ctv us hl => T.bind _ _ doc pm ctv us hl, fun doc pm ctv s v => T.bindK _ _ doc pm ctv s v, T.pf.trans hf.symm⟩⟩
  · rw [hc]; exact PySem.W.mg_of X G b1
  · rw [hc]; exact b8
  · rw [hc, hf]
    obtain ⟨p0, p1, p2, p3, p4, p5, q0, q1, q2, q3, j, hb, hev⟩ := T.body
    exact .inl ⟨⟨oexB_ok b2, b3, b4, b5, b6⟩, rfl, T.scope, T.sup, T.head, ⟨oc, od, doc, pm, ctv, osl, lk⟩, hcode, hfile, hcell, ⟨p0, p1, p2, p3, p4, p5, q0, q1, q2, q3, j, hb, fun L => hev _ _ _ L⟩, T.top, b10, b11, b12, b13, b14, T.nx⟩
theorem IniD.xclsL {P : Program} {K : PySem.W.Frag} {h : Heap} {mg : Str → Option Value} {et : ET} {c : Nat} {d : IniD} (X : K.In h) (G : h.Ns mainGlobals mg) (T : IniT P d) (e : iniObs K d.x = d.val) (b : iniBL P.main.file K d = true) (hc : et.cls c = He.ga K d.x) (hf : et.fld c = d.fld) : XCls P K mg et c d.x := by
  unfold iniBL at b
  simp only [Bool.and_eq_true, decide_eq_true_eq, He.eqO] at b
  obtain ⟨b1, b2, b3, b4, b5, b6, b7, b8, b9, b10, b11, b12, b13, b14⟩ := b
  obtain ⟨oc, od, fd, osl, y, cc, co, lk, hcl, hcd, hcell, hcode, hfile⟩ := cellB_ok b7
  obtain ⟨doc, pm, ctv, rfl⟩ := IniD.fn e lk hcl hcd
  refine ⟨⟨He.ma K (He.ga K d.x) "__init__", cc, d.nf [("__class__", cc)] co, d.par, d.msg, ?_, ?_, b9, ?_, fun doc pm ctv us hl => T.bind _ _ doc pm ctv us hl, fun doc pm ctv s v => T.bindK _ _ doc pm ctv s v, T.pf.trans hf.symm⟩⟩
  · rw [hc]; exact PySem.W.mg_of X G b1
  · rw [hc]; exact b8
  · rw [hc, hf]
    obtain ⟨p0, p1, p2, p3, p4, p5, q0, q1, q2, q3, j, hb, hev⟩ := T.body
    exact .inr ⟨⟨oexBL_ok b2, b3, b4, b5, b6⟩, rfl, T.scope, T.sup, T.head, ⟨oc, od, doc, pm, ctv, osl, lk⟩, hcode, hfile, hcell, ⟨p0, p1, p2, p3, p4, p5, q0, q1, q2, q3, j, hb, fun L => hev _ _ _ L⟩, T.top, b10, b11, b12, b13, b14, T.nx⟩
theorem IniD.xcls {P : Program} {K : PySem.W.Frag} {h : Heap} {mg : Str → Option Value} {et : ET} {c : Nat} {d : IniD} (X : K.In h) (G : h.Ns mainGlobals mg) (T : IniT P d) (e : iniObs K d.x = d.val) (b : iniX P.main.file K d = true) (hc : et.cls c = He.ga K d.x) (hf : et.fld c = d.fld) : XCls P K mg et c d.x := by
  unfold iniX at b
  split at b
  · exact IniD.xclsL X G T e b hc hf
  · exact IniD.xclsV X G T e b hc hf
def sysB (K : PySem.W.Frag) : Bool := match K.lookup sysModules with
  | some o => decide (o.cls ≠ .type "list")
  | none => false
theorem sysB_ok {K : PySem.W.Frag} (h : sysB K = true) : SysOk K := by
  unfold sysB at h
  split at h
  · rename_i o e
    exact ⟨o, e, of_decide_eq_true h⟩
  · cases h
def asZ (g : Addr → Option Obj) (n : Nat) : List Addr := sysModules :: cStatics :: He.asD g n
abbrev AlZ : Type := He.AlD × Bool × List FnI
def obsZ (fa : List He.Fa) (fn : List He.DefD) (tf : List He.Defn) (ini : List IniD) (ex : PySem.W.Frag → Bool) (g : Addr → Option Obj) (K : PySem.W.Frag) : AlZ := (He.obsD fa fn K, ex K && He.tabsB g tf K, ini.map fun d => iniObs K d.x)
def valZ (fn : List He.DefD) (ini : List IniD) : AlZ := (He.valD fn, true, ini.map IniD.val)
structure SaysZ (fa : List He.Fa) (fn : List He.DefD) (tf : List He.Defn) (ini : List IniD) (ex : PySem.W.Frag → Bool) (h : Heap) (K : PySem.W.Frag) : Prop where
  d : He.SaysD fa fn K
  more : ex K = true
  hd : ∀ p ∈ tf, PySem.W.codeHdIn K (He.cT K p).1 (He.cT K p).2 = true
  out : ∀ p ∈ tf, K.lookup (He.cT K p).2 = none
  empty : ∀ p ∈ tf, h.get? (He.cT K p).2 = some { cls := .none, data := .fields #[] }
  ini : ini.map (fun d => iniObs K d.x) = ini.map IniD.val
section
variable {fa : List He.Fa} {fn : List He.DefD} {tf : List He.Defn} {ini : List IniD} {ex : PySem.W.Frag → Bool} {h : Heap} {K : PySem.W.Frag}
theorem SaysZ.ini_ (c : SaysZ fa fn tf ini ex h K) (i : Nat) {d : IniD} (hd : ini[i]? = some d := by rfl) : iniObs K d.x = d.val := by
  have e2 : (ini.map (fun d => iniObs K d.x))[i]? = (ini.map IniD.val)[i]? := by rw [c.ini]
  rw [List.getElem?_map, List.getElem?_map, hd] at e2
  exact Option.some.inj e2
/-- the tables of the defs with lambdas -/
def csOf (K : PySem.W.Frag) (tq : List (He.Defn × Str)) : TabL := tq.map fun p => ((He.cT K p.1).1, (He.cT K p.1).2, p.2)
theorem SaysZ.tabF {tq : List (He.Defn × Str)} (c : SaysZ fa fn (tq.map (·.1)) ini ex h K) (X : K.In h) : TabF K h (csOf K tq) := by
  have key : ∀ p ∈ csOf K tq, ∃ d ∈ tq.map (·.1), p.1 = (He.cT K d).1 ∧ p.2.1 = (He.cT K d).2 := fun p hp => by
    obtain ⟨q, hq, e⟩ := List.mem_map.mp hp
    exact ⟨q.1, List.mem_map.mpr ⟨q, hq, rfl⟩, by rw [← e], by rw [← e]⟩
  refine ⟨fun p hp => ?_, fun p hp => ?_, fun p hp => ?_⟩
  · obtain ⟨d, hd, _, e⟩ := key p hp
    rw [e]; exact c.empty d hd
  · obtain ⟨d, hd, _, e⟩ := key p hp
    rw [e]; exact c.out d hd
  · obtain ⟨d, hd, e1, e2⟩ := key p hp
    rw [e1, e2]; exact PySem.W.codeHd_of_K X (c.hd d hd)
end
end DL
set_option Elab.async false
set_option linter.all false
set_option maxRecDepth 100000
set_option maxHeartbeats 4000000
set_option autoImplicit false
namespace DL
open PySem PySem.Spec L2
open PyProof.Rows hiding St
/-- errors, tables, lambdas of a law -/
def etF (cls : Nat → Addr) (fld : Nat → Str) (T : List (Addr × Str)) (P : Program) (w : World) (K : PySem.W.Frag) (mg : Str → Option Value) (base : Heap) (j : Nat) : ET :=
  ⟨fun k => k.hash w, cls, fld, T, CloOk P w K mg base ⟨fun k => k.hash w, cls, fld, T, fun _ _ _ _ => False, fun _ _ _ _ _ _ h => h⟩ j, CloOk.mono⟩
def lamB (N : List Str) (sc lsc : Scope) (ps fr : List Str) (js : List Nat) : Bool :=
  NdefX.nscB (ps ++ fr) ps fr lsc && lsc.names.all (fun y => !decide (y.2 = NameKind.free) || (decide (sc.names.lookup y.1 = some .cell) || decide (sc.names.lookup y.1 = some .free))) && fr.all (fun y => decide ((y, NameKind.free) ∈ lsc.names)) && decide (js.map (fun j => N[j]?) = fr.map some)
theorem code_tab {K : PySem.W.Frag} {mg : Str → Option Value} {x q : Str} {st : Stmt} {f : Addr} {cdv : Value} {tq : List (He.Defn × Str)} (D : DefAt K mg x st) (g : mg x = some (.ref (He.ga K x))) (hm : mg x = some (.ref f)) (hc : CodeOf K f cdv) (ht : ((x, none), q) ∈ tq) : ∃ c P, cdv = .ref c ∧ (c, P, q) ∈ csOf K tq := by
  obtain ⟨f', fd', F, hm'⟩ := D
  rw [hm] at g hm'
  cases hm'
  have ef : f = He.ga K x := Value.ref.inj (Option.some.inj g)
  obtain ⟨oc, od, dV, kV, doc, pm, an, cdv', ct, osl, rfl, lk, hcd, _, _⟩ := F.ex
  obtain ⟨c, rfl⟩ := He.codeIn_ref hcd
  obtain ⟨oc2, od2, fd2, osl2, lk2, e2⟩ := hc
  rw [lk] at lk2
  cases lk2
  refine ⟨c, (He.cT K (x, none)).2, e2.symm, List.mem_map.mpr ⟨((x, none), q), ht, ?_⟩⟩
  have : He.codeOf K (x, none) = c := He.codeOf_eq (p := (x, none)) (by rw [show He.fAd K (x, none) = He.ga K x from rfl, ← ef]; exact lk) rfl
  show ((He.cT K (x, none)).1, (He.cT K (x, none)).2, q) = _
  rw [show (He.cT K (x, none)).1 = He.codeOf K (x, none) from rfl, this]
theorem tab_one : ∀ {cs : TabL}, (cs.map (·.2.1)).Nodup → ∀ {c P : Addr} {q : Str}, (c, P, q) ∈ cs → ∀ p ∈ cs.T, p.1 = P → p.2 = q := by
  intro cs hn c P q hin p hp e
  obtain ⟨r, hr, rfl⟩ := List.mem_map.mp hp
  have e : r.2.1 = P := e
  show r.2.2 = q
  have key : ∀ {l : TabL}, (l.map (·.2.1)).Nodup → ∀ {a b : Addr × Addr × Str}, a ∈ l → b ∈ l → a.2.1 = b.2.1 → a = b := by
    intro l
    induction l with
    | nil => intro _ a b ha; cases ha
    | cons z r ih =>
      intro hn a b ha hb e
      rw [List.map_cons, List.nodup_cons] at hn
      rcases List.mem_cons.mp ha with ha | ha <;> rcases List.mem_cons.mp hb with hb | hb
      · rw [ha, hb]
      · exact absurd (List.mem_map.mpr ⟨b, hb, by rw [← e, ha]⟩) hn.1
      · exact absurd (List.mem_map.mpr ⟨a, ha, by rw [e, hb]⟩) hn.1
      · exact ih hn.2 ha hb e
  rw [key hn hr hin e]
theorem XCls.at {P : Program} {K : PySem.W.Frag} {mg : Str → Option Value} {et et' : ET} {c : Nat} {x : Str} (h : XCls P K mg et c x) (h1 : et.cls c = et'.cls c) (h2 : et.fld c = et'.fld c) : XCls P K mg et' c x := by
  obtain ⟨fI, cc, F, a, msg, k1, k2, k3, k4, k5, k6, k7⟩ := h.ex
  rw [h1] at k1 k2 k4
  rw [h2] at k4
  exact ⟨⟨fI, cc, F, a, msg, k1, k2, k3, k4, k5, k6, k7.trans h2⟩⟩
/-- the package's errors, by number -/
def nmX : List Str := ["BadRule", "BadRow", "BadBill", "BadNumber", "BadKind", "BadPaper", "BadText", "Nothing"]
def flX : List Str := ["number", "number", "part", "value", "value", "part", "line", "value"]
/-- the classes of errors: told at once -/
def clsB (nm fl : List Str) (c1 c2 : Str) (K : PySem.W.Frag) : Bool := (nm.all fun x => xcB K (He.ga K x)) && (nm.all fun x => nm.all fun y => decide (PySem.W.kitOne K (.ref (He.ga K x)) (.ref (He.ga K y)) = some (decide (x = y)))) && (nm.all fun x => decide (PySem.W.exmAny K (.ref (He.ga K x)) [.ref (He.ga K c1), .ref (He.ga K c2)] = some true)) && ((nm.zip fl).all fun p => He.eqO (PySem.W.findIn K (.ref (He.ga K p.1)) p.2) (some none))
abbrev clsA (nm : List Str) (K : PySem.W.Frag) (c : Nat) : Addr := He.ga K (nm.getD c "")
abbrev fldA (fl : List Str) (c : Nat) : Str := fl.getD c ""
/-- isinstance of the class y, by the error's number -/
def tabX (nm : List Str) (y : Str) (c : Nat) : Option Bool := match nm[c]? with
  | some x => if y ∈ nm then some (decide (x = y)) else none
  | none => none
def okX (nm fl : List Str) (f : Str) (c : Nat) : Bool := match nm[c]?, fl[c]? with
  | some _, some g => decide (g = f)
  | _, _ => false
def okC (nm : List Str) (c : Nat) : Bool := (nm[c]?).isSome
section
variable {nm fl : List Str} {c1 c2 : Str} {K : PySem.W.Frag}
theorem clsB_isx (h : clsB nm fl c1 c2 K = true) {y : Str} {c : Nat} {b : Bool} (e : tabX nm y c = some b) : XC K (clsA nm K c) ∧ PySem.W.kitOne K (.ref (clsA nm K c)) (.ref (He.ga K y)) = some b := by
  unfold clsB at h
  rw [Bool.and_eq_true, Bool.and_eq_true, Bool.and_eq_true] at h
  obtain ⟨⟨⟨h1, h2⟩, _⟩, _⟩ := h
  unfold tabX at e
  split at e
  · rename_i x q
    split at e
    · rename_i hy
      cases e
      have hx : x ∈ nm := List.mem_of_getElem? q
      have ex : nm.getD c "" = x := by rw [List.getD_eq_getElem?_getD, q]; rfl
      unfold clsA
      rw [ex]
      exact ⟨xcB_ok (List.all_eq_true.mp h1 x hx), of_decide_eq_true (List.all_eq_true.mp (List.all_eq_true.mp h2 x hx) y hy)⟩
    · cases e
  · cases e
theorem clsB_fld (h : clsB nm fl c1 c2 K = true) {f : Str} {c : Nat} (e : okX nm fl f c = true) : fldA fl c = f ∧ XC K (clsA nm K c) ∧ PySem.W.findIn K (.ref (clsA nm K c)) f = some none := by
  unfold clsB at h
  rw [Bool.and_eq_true, Bool.and_eq_true, Bool.and_eq_true] at h
  obtain ⟨⟨⟨h1, h2⟩, _⟩, h4⟩ := h
  unfold okX at e
  split at e
  · rename_i x g q1 q2
    have eg : g = f := of_decide_eq_true e
    subst eg
    have ex : nm.getD c "" = x := by rw [List.getD_eq_getElem?_getD, q1]; rfl
    have ef : fl.getD c "" = g := by rw [List.getD_eq_getElem?_getD, q2]; rfl
    unfold clsA fldA
    rw [ex, ef]
    have hz : (x, g) ∈ nm.zip fl := List.mem_of_getElem? (i := c) (by rw [List.getElem?_zip_eq_some]; exact ⟨q1, q2⟩)
    exact ⟨rfl, xcB_ok (List.all_eq_true.mp h1 x (List.mem_of_getElem? q1)), of_decide_eq_true (List.all_eq_true.mp h4 _ hz)⟩
  · cases e
theorem clsB_exm (h : clsB nm fl c1 c2 K = true) {c : Nat} (e : okC nm c = true) : PySem.W.exmAny K (.ref (clsA nm K c)) [.ref (He.ga K c1), .ref (He.ga K c2)] = some true := by
  unfold clsB at h
  rw [Bool.and_eq_true, Bool.and_eq_true, Bool.and_eq_true] at h
  obtain ⟨⟨_, h3⟩, _⟩ := h
  obtain ⟨x, q⟩ := Option.isSome_iff_exists.mp e
  have ex : nm.getD c "" = x := by rw [List.getD_eq_getElem?_getD, q]; rfl
  unfold clsA
  rw [ex]
  exact of_decide_eq_true (List.all_eq_true.mp h3 x (List.mem_of_getElem? q))
end
end DL
set_option Elab.async false
set_option linter.all false
set_option maxRecDepth 100000
set_option maxHeartbeats 4000000
set_option autoImplicit false
namespace DL
open PySem PySem.Spec L2
open PyProof.Rows hiding St
mutual
def dnB (K : PySem.W.Frag) : PyData → Value → Bool
  | .none, .none => true
  | .bool a, .bool b => decide (a = b)
  | .int i, .int j _ => decide (i = j)
  | .str x, .str y _ => decide (x = y)
  | .tuple ds, .ref a => match K.lookup a with
    | some ⟨.type c, _, .seq its _, _⟩ => decide (c = "tuple") && (decide (its.size ≤ sizeLine) && dnAllB K ds its.toList)
    | _ => false
  | _, _ => false
def dnAllB (K : PySem.W.Frag) : List PyData → List Value → Bool
  | [], [] => true
  | d :: ds, v :: vs => dnB K d v && dnAllB K ds vs
  | _, _ => false
end
def gdB (K : PySem.W.Frag) (x : Str) (d : PyData) : Bool := match PySem.W.nsIn K mainGlobals x with
  | some (some u) => dnB K d u
  | _ => false
end DL
set_option Elab.async false
set_option linter.all false
set_option maxRecDepth 100000
set_option maxHeartbeats 4000000
set_option autoImplicit false
namespace DL
open PySem PySem.Spec L2
open PyProof.Rows hiding St
section
variable {X : Cx} {et : ET} {W : WX}
mutual
theorem Dn.key {pins : List (Addr × Obj)} {σ : L2.St} {F H : Hp} {s : Shared} (I : Inv X pins σ H s) (sub : Same F H) : ∀ {v : V} {d : PyData}, Dn X.K et F v d → ∀ {n : NestedKey}, keyN d = some n → ∀ {u : Value}, RelV v u → NestedIs s.heap n u
  | _, _, .non, n, e, _, r => by
    have e : some NestedKey.none = some n := e
    cases e
    cases r
    exact .none
  | _, _, .bl b, n, e, _, r => by
    have e : some (NestedKey.num (if b = true then 1 else 0)) = some n := e
    cases e
    cases r
    exact .bool rfl
  | _, _, .int i, n, e, _, r => by
    have e : some (NestedKey.num i) = some n := e
    cases e
    obtain ⟨t, rfl⟩ := r
    exact .int i t
  | _, _, .str x, n, e, _, r => by
    have e : some (NestedKey.text x) = some n := e
    cases e
    obtain ⟨t, rfl⟩ := r
    exact .text x t
  | _, _, .tup (ds := ds) hs ha, n, e, _, r => by
    have e : (keysN ds).map NestedKey.tup = some n := e
    cases q : keysN ds with
    | none => rw [q] at e; cases e
    | some ks =>
      rw [q] at e
      cases e
      cases r
      obtain ⟨its, rv, ⟨o, ho, hc, m, hd⟩, _⟩ := I.tuple (SqT.mono sub hs)
      exact .tup ho hc hd (DnAll.key I sub ha q rv)
  | _, _, .lst _ _, n, e, _, _ => by cases (show none = some n from e)
  | _, _, .dcx _ _, n, e, _, _ => by cases (show none = some n from e)
  | _, _, .dck _ _ _, n, e, _, _ => by cases (show none = some n from e)
  | _, _, .err _ _ _, n, e, _, _ => by cases (show none = some n from e)
  | _, _, .er0 _, n, e, _, _ => by cases (show none = some n from e)
  | _, _, .fil _, n, e, _, _ => by cases (show none = some n from e)
theorem DnAll.key {pins : List (Addr × Obj)} {σ : L2.St} {F H : Hp} {s : Shared} (I : Inv X pins σ H s) (sub : Same F H) : ∀ {vs : List V} {ds : List PyData}, DnAll X.K et F vs ds → ∀ {ks : List NestedKey}, keysN ds = some ks → ∀ {us : List Value}, Vals vs us → NestedAll s.heap ks us
  | _, _, .nil, ks, e, _, r => by
    have e : some [] = some ks := e
    cases e
    cases r
    exact .nil
  | _, _, .cons (d := d) (ds := ds) h1 h2, ks, e, _, r => by
    have e : (match keyN d, keysN ds with | some k, some ks => some (k :: ks) | _, _ => none) = some ks := e
    cases q1 : keyN d with
    | none => rw [q1] at e; cases e
    | some k =>
      cases q2 : keysN ds with
      | none => rw [q1, q2] at e; cases e
      | some kk =>
        rw [q1, q2] at e
        cases e
        cases r with
        | cons r1 r2 => exact .cons (Dn.key I sub h1 q1 r1) (DnAll.key I sub h2 q2 r2)
end
def keyEq (a b : PyData) : Bool := match keyN a, keyN b with
  | some x, some y => decide (x = y)
  | _, _ => false
def getD (kvs : List (PyData × PyData)) (k : PyData) : Option PyData := (kvs.find? fun p => keyEq p.1 k).map (·.2)
def EntR (p : NestedKey × Addr × V) (q : NestedKey × Addr × Value) : Prop := p.1 = q.1 ∧ p.2.1 = q.2.1 ∧ RelV p.2.2 q.2.2
theorem ent_keys : ∀ {es : List (NestedKey × Addr × V)} {ys : List (NestedKey × Addr × Value)}, Paired EntR es ys → es.map (·.1) = ys.map (·.1)
  | _, _, .nil => rfl
  | _, _, .cons h t => by rw [List.map_cons, List.map_cons, h.1, ent_keys t]
theorem ent_is {pins : List (Addr × Obj)} {σ : L2.St} {F H : Hp} {s : Shared} (I : Inv X pins σ H s) (sub : Same F H) : ∀ {es : List (NestedKey × Addr × V)} {kvs : List (PyData × PyData)} {ys : List (NestedKey × Addr × Value)}, DnKv X.K et F es kvs → Paired EntR es ys →
    ∀ y ∈ ys, (nestedKind X.prog X.w).is s.heap y.1 y.2.1
  | _, _, _, .nil, .nil, y, hy => by cases hy
  | _, _, _, .cons a a2 b c r, .cons h t, y, hy => by
    rcases List.mem_cons.mp hy with rfl | hy
    · obtain ⟨h1, h2, _⟩ := h
      refine ⟨?_, by rw [← h1]; exact a2⟩
      rw [← h1, ← h2]
      exact Dn.key I sub b a rfl
    · exact ent_is I sub r t y hy
theorem nd_dict {pins : List (Addr × Obj)} {σ : L2.St} {F H : Hp} {s : Shared} {a : Addr} {es : List (NestedKey × Addr × V)} {kvs : List (PyData × PyData)} (I : Inv X pins σ H s) (sub : Same F H) (hw : et.hs = fun k => k.hash X.w) (h : Rd H a (NDo et.hs a es)) (kv : DnKv X.K et F es kvs) :
    es.length ≤ sizeLine ∧ (a == sysModules) = false ∧ ∃ ys, Paired EntR es ys ∧ s.heap.DictOfH (nestedKind X.prog X.w) a ys := by
  obtain ⟨⟨h1, h2, h3, ys, o, ds, ep, pr, ho, hx, hd, hl⟩, _, _⟩ := (show ObjOk X.prog X.w H s.heap a (NDo et.hs a es) from h.ok I.hok)
  have pr : Paired EntR es ys := pr
  refine ⟨h1, h2, ys, pr, o, ds, ep, ho, hx, hd, ?_, ent_is I sub kv pr, by rw [← ent_keys pr]; exact h3⟩
  rw [hl, hw]
  rfl
theorem ent_find : ∀ {F : Hp} {es : List (NestedKey × Addr × V)} {kvs : List (PyData × PyData)} {ys : List (NestedKey × Addr × Value)} {k : PyData} {n : NestedKey}, DnKv X.K et F es kvs → Paired EntR es ys → keyN k = some n →
    (∃ d v b u, getD kvs k = some d ∧ atKey ys n = some (b, u) ∧ RelV v u ∧ Dn X.K et F v d) ∨ (getD kvs k = none ∧ atKey ys n = none)
  | F, _, _, _, k, n, .nil, .nil, _ => .inr ⟨rfl, rfl⟩
  | F, _, _, _, k, n, .cons (n := m) (k := k') (d := d) (kvs := kvs) a a2 b c r, .cons (b := y) h t, hk => by
    obtain ⟨h1, h2, h3⟩ := h
    have e1 : keyEq k' k = decide (m = n) := by unfold keyEq; rw [a, hk]
    by_cases z : m = n
    · refine .inl ⟨d, _, y.2.1, y.2.2, ?_, ?_, h3, c⟩
      · unfold getD
        rw [List.find?_cons_of_pos (by rw [e1]; exact decide_eq_true z)]
        rfl
      · unfold atKey
        rw [List.find?_cons_of_pos (by exact decide_eq_true (h1.symm.trans z))]
        rfl
    · have g1 : getD ((k', d) :: kvs) k = getD kvs k := by
        unfold getD
        rw [List.find?_cons_of_neg (by rw [e1]; simpa using z)]
      have g2 : ∀ l, atKey (y :: l) n = atKey l n := fun l => by
        unfold atKey
        rw [List.find?_cons_of_neg (by have : ¬ y.1 = n := fun e => z (h1.trans e); simpa using this)]
      rw [g1, g2]
      exact ent_find r t hk
theorem getD_key {kvs : List (PyData × PyData)} {k d : PyData} (h : getD kvs k = some d) : ∃ n, keyN k = some n := by
  unfold getD at h
  cases q : kvs.find? fun p => keyEq p.1 k with
  | none => rw [q] at h; cases h
  | some p =>
    have := List.find?_some q
    unfold keyEq at this
    split at this
    · rename_i x y e1 e2; exact ⟨_, e2⟩
    · cases this
/-- a tuple's value -/
theorem Dn.tup_ref {K : PySem.W.Frag} {F : Hp} {v : V} {ds : List PyData} (h : Dn K et F v (.tuple ds)) : ∃ b, v = .ref b := by
  cases h with
  | tup _ _ => exact ⟨_, rfl⟩
end
end DL
set_option Elab.async false
set_option linter.all false
set_option maxRecDepth 100000
set_option maxHeartbeats 4000000
set_option autoImplicit false
namespace DL
open PySem PySem.Spec L2
open PyProof.Rows hiding St
section
variable {X : Cx} {et : ET} {W : WX}
def rIxD (X : Cx) (et : ET) : R2 := fun x y H Q => ∃ (a b : Addr) (F : Hp) (es : List (NestedKey × Addr × V)) (kvs : List (PyData × PyData)) (k d : PyData), x = .ref a ∧ y = .ref b ∧ Same F H ∧ Rd H a (NDo et.hs a es) ∧ DnKv X.K et F es kvs ∧ Dn X.K et F (.ref b) k ∧ getD kvs k = some d ∧ ∀ v, Dn X.K et F v d → Q v H
theorem getD_deep {K : PySem.W.Frag} {F : Hp} : ∀ {es : List (NestedKey × Addr × V)} {kvs : List (PyData × PyData)} {k d : PyData} {n : NestedKey}, DnKv K et F es kvs → getD kvs k = some d → keyN k = some n → n.depth ≤ 8
  | _, _, _, _, _, .nil, e, _ => by cases e
  | _, _, k, d, n, .cons (k := k') (n := m) a a2 b c r, e, hk => by
    have e1 : keyEq k' k = decide (m = n) := by unfold keyEq; rw [a, hk]
    by_cases z : m = n
    · rw [← z]; exact a2
    · unfold getD at e
      rw [List.find?_cons_of_neg (by rw [e1]; simpa using z)] at e
      exact getD_deep r e hk
theorem nd_room (hu : X.A.units + 64 < cLine) : (nestedKind X.prog X.w).room X.A.in1 := by
  show X.A.units + 1 + 8 < cLine
  omega
theorem nd_type {pins : List (Addr × Obj)} {σ : L2.St} {H : Hp} {s : Shared} {a : Addr} {es : List (NestedKey × Addr × V)} (I : Inv X pins σ H s) (h : Rd H a (NDo et.hs a es)) : s.TypeIs (.ref a) "dict" := by
  obtain ⟨⟨h1, h2, h3, ys, o, ds, ep, pr, ho, hx, hd, hl⟩, _, _⟩ := (show ObjOk X.prog X.w H s.heap a (NDo et.hs a es) from h.ok I.hok)
  exact ⟨o, ho, hx.1⟩
theorem ix_nd (hw : et.hs = fun k => k.hash X.w) (hu : X.A.units + 64 < cLine) : IxR X (rIxD X et) := by
  intro value slice pins s σ H x y v u Q I rx ry h hs
  obtain ⟨a, b, F, es, kvs, k, d, rfl, rfl, sub, ha, kv, dk, e, q⟩ := h
  cases rx
  cases ry
  obtain ⟨n, hk⟩ := getD_key e
  have hdp := getD_deep kv e hk
  have hT := nd_type I ha
  obtain ⟨_, _, ys, pr, dd⟩ := nd_dict I sub hw ha kv
  rcases ent_find kv pr hk with ⟨d', w, b', u, g1, g2, rw', dw⟩ | ⟨g1, _⟩
  · rw [e] at g1
    cases g1
    unfold subscriptTail
    refine wpAny_bind ?_
    rw [getitemInPython_of_ne hT.not_modules]
    refine wpAny_bind (wpAny_specialOf hT PySem.F.slot_dict_getitem.lookup ?_)
    have fin : wpAny (model X.prog X.w) X.A (subscripted slice false (.ref a) (.ref b)) (fun r s₃ => wpAny (model X.prog X.w) X.A (letTemporaryGo value (.ref a) r >>= fun _ => pure r) (EP X pins σ Q) X.xe s₃) X.xe s := by
      rw [hs]
      refine wpAny_operating (wpAny_getItem_heap (nd_room hu) ⟨Dn.key I sub dk hk rfl, hdp⟩ dd g2 ?_)
      exact wpAny_bind (wpAny_letTemporaryGo (wpAny_pure ⟨w, H, I.tok _, rw', q w dw⟩))
    first
      | exact wpAny_pure (wpAny_bind fin)
      | exact wpAny_bind (wpAny_pure (wpAny_bind fin))
      | exact wpAny_bind fin
  · rw [e] at g1; cases g1
def dIx : PyData → PyData → Option PyData
  | .dict kvs, .tuple ds => getD kvs (.tuple ds)
  | .str z, .int i => if z.length ≤ bigN then (atI z.cps.toList i).map fun c => .str ⟨#[c]⟩ else none
  | a, b => dIxS a b
/-- a datum at a key -/
theorem dix_read {F2 H2 : Hp} {x y : V} {da db d : PyData} (q3 : dIx da db = some d) (dn1 : Dn X.K et F2 x da) (dn2 : Dn X.K et F2 y db) (sub : Same F2 H2) {Q : VK} (q : ∀ v, Dn X.K et F2 v d → Q v H2) :
    (rIx X.K x y H2 Q ∨ rIxD X et x y H2 Q) := by
  unfold dIx at q3
  split at q3
  · cases dn1 with
    | dcx hf kv =>
      obtain ⟨b, rfl⟩ := dn2.tup_ref
      exact .inr ⟨_, b, F2, _, _, _, d, rfl, rfl, sub, .inr ⟨_, sub _ _ hf⟩, kv, dn2, q3, q⟩
    | dck _ hf kv =>
      exfalso
      have key : ∀ {es : List (Key × V)} {kvs : List (PyData × PyData)} {ds : List PyData}, DnKk X.K et F2 es kvs → getD kvs (.tuple ds) = none := by
        intro es kvs
        induction kvs generalizing es with
        | nil => intro ds _; rfl
        | cons p r ih =>
          intro ds h
          have nk : keyEq p.1 (.tuple ds) = false := by
            unfold keyEq
            show (match keyN p.1, (keysN ds).map NestedKey.tup with | some x, some y => decide (x = y) | _, _ => false) = false
            cases h with
            | int _ _ _ =>
              cases keysN ds with
              | none => rfl
              | some ks => exact decide_eq_false (fun z => nomatch z)
            | str _ _ =>
              cases keysN ds with
              | none => rfl
              | some ks => exact decide_eq_false (fun z => nomatch z)
          unfold getD
          rw [List.find?_cons_of_neg (by rw [nk]; decide)]
          cases h with
          | int _ _ h => exact ih h
          | str _ h => exact ih h
      rw [key kv] at q3
      cases q3
    | err _ _ _ =>
      exfalso
      have key : ∀ (a b : PyData) (ds : List PyData), getD [(.int xMark, a), (.int xMark, b)] (.tuple ds) = none := fun a b ds => by
        have nk : keyEq (.int xMark) (.tuple ds) = false := by
          unfold keyEq
          show (match keyN (.int xMark), (keysN ds).map NestedKey.tup with | some x, some y => decide (x = y) | _, _ => false) = false
          cases keysN ds with
          | none => rfl
          | some ks => exact decide_eq_false (fun z => nomatch z)
        unfold getD
        rw [List.find?_cons_of_neg (by rw [nk]; decide), List.find?_cons_of_neg (by rw [nk]; decide)]
        rfl
      rw [key] at q3
      cases q3
    | er0 _ =>
      exfalso
      have key : ∀ (a : PyData) (ds : List PyData), getD [(.int xMark, a)] (.tuple ds) = none := fun a ds => by
        have nk : keyEq (.int xMark) (.tuple ds) = false := by
          unfold keyEq
          show (match keyN (.int xMark), (keysN ds).map NestedKey.tup with | some x, some y => decide (x = y) | _, _ => false) = false
          cases keysN ds with
          | none => rfl
          | some ks => exact decide_eq_false (fun z => nomatch z)
        unfold getD
        rw [List.find?_cons_of_neg (by rw [nk]; decide)]
        rfl
      rw [key] at q3
      cases q3
    | fil _ =>
      exfalso
      have key : ∀ (a b : PyData) (ds : List PyData), getD [(.int xMark, a), (.int xMark, b)] (.tuple ds) = none := fun a b ds => by
        have nk : keyEq (.int xMark) (.tuple ds) = false := by
          unfold keyEq
          show (match keyN (.int xMark), (keysN ds).map NestedKey.tup with | some x, some y => decide (x = y) | _, _ => false) = false
          cases keysN ds with
          | none => rfl
          | some ks => exact decide_eq_false (fun z => nomatch z)
        unfold getD
        rw [List.find?_cons_of_neg (by rw [nk]; decide), List.find?_cons_of_neg (by rw [nk]; decide)]
        rfl
      rw [key] at q3
      cases q3
  · rename_i z i
    split at q3
    · rename_i hz
      cases qa : atI z.cps.toList i with
      | none => rw [qa] at q3; cases q3
      | some c =>
        rw [qa] at q3
        cases q3
        exact .inl (.inr (.inr ⟨z, i, c, dn1.str_of, dn2.int_of, by rw [bigN_eq]; exact hz, qa, q _ (.str _)⟩))
    · cases q3
  · unfold dIxS at q3
    split at q3
    · cases dn1 with
      | lst sx dx =>
        obtain ⟨v, e1, e2⟩ := dx.at q3
        exact .inl (.inl ⟨_, _, _, v, rfl, Dn.int_of dn2, SqL.of (sub _ _ sx), e1, q v e2⟩)
    · cases dn1 with
      | tup sx dx =>
        obtain ⟨v, e1, e2⟩ := dx.at q3
        exact .inl (.inr (.inl ⟨_, _, _, v, rfl, Dn.int_of dn2, SqT.mono sub sx, e1, q v e2⟩))
    · cases q3
theorem de_ix {k : Nat} {a b : Expr} {pos : Pos} {fa fb : Sg → Rs Sg DV} (C : Here X k W) (ha : DE X et W a fa) (hb : DE X et W b fb) (hw : et.hs = fun k => k.hash X.w := by rfl) (hs : PlainIx b := by exact fun _ _ => rfl) : DE X et W (.Subscript a b pos) (mBin dIx fa fb) := fun am B F g σ H Q R hq => by
  refine w_of (pe_ix (ix_seq.or (ix_nd hw C.u64)) pe_w pe_w hs) (ha.then (goodV (Q := Q)) R hq fun dx g1 x F1 H1 ex1 R1 dn1 hq1 => hb.then (goodV (Q := Q)) R1 hq1 fun dy g2 y F2 H2 ex2 R2 dn2 hq2 => ?_)
  cases dx with
  | pu da =>
    cases dy with
    | pu db =>
      have hq2 : OkV X.K et W am B F2 σ Q (Rs.of ((dIx da db).map .pu) g2) := hq2
      cases q3 : dIx da db with
      | none => rw [q3] at hq2; exact hq2.elim
      | some d =>
        rw [q3] at hq2
        exact dix_read q3 (Dn.up dn1 ex2.1) dn2 R2.sub fun v dv => hq2 v F2 H2 Ext.refl R2 dv
    | _ => exact hq2.elim
  | _ => exact hq2.elim
def isDic (g : Sg) (i : Nat) : Bool := match g.r[i]? with
  | some (some (.dic _)) => true
  | _ => false
/-- x[k], x a name whose dict may be in the making -/
def mIxN (i : Nat) (fk : Sg → Rs Sg DV) (g : Sg) : Rs Sg DV := if isDic g i then (fk g).bind fun x g1 => match x, g1.r[i]? with
    | .pu (.tuple ds), some (some (.dic kvs)) => Rs.of ((getD kvs (.tuple ds)).map .pu) g1
    | _, _ => .no
  else if isOwn g i then (fk g).bind fun x g1 => match x, g1.r[i]? with
    | .pu (.int k), some (some (.own xs)) => Rs.of ((atI xs k).map .pu) g1
    | _, _ => .no
  else mBin dIx (mVar i) fk g
end
end DL
set_option Elab.async false
set_option linter.all false
set_option maxRecDepth 100000
set_option maxHeartbeats 4000000
set_option autoImplicit false
set_option Elab.async false
set_option linter.all false
set_option maxRecDepth 100000
set_option maxHeartbeats 4000000
set_option autoImplicit false
namespace DL
open PySem PySem.Spec L2
open PyProof.Rows hiding St
section
variable {X : Cx} {et : ET} {W : WX}
/-- x = {} for a dict that will be filled -/
def mNewD (i : Nat) (g : Sg) : Rs Sg Fl := .ok .nx (g.put i (.dic []))
end
end DL
set_option Elab.async false
set_option linter.all false
set_option maxRecDepth 100000
set_option maxHeartbeats 4000000
set_option autoImplicit false
set_option Elab.async false
set_option linter.all false
set_option maxRecDepth 100000
set_option maxHeartbeats 4000000
set_option autoImplicit false
set_option Elab.async false
set_option linter.all false
set_option maxRecDepth 100000
set_option maxHeartbeats 4000000
set_option autoImplicit false
namespace DL
open PySem PySem.Spec L2
open PyProof.Rows hiding St
section
variable {X : Cx} {et : ET} {W : WX}
def mStar (fa : Sg → Rs Sg DV) (fr : Sg → Rs Sg (List DV)) (g : Sg) : Rs Sg (List DV) := (fa g).bind fun x g1 => match seqOf x with
  | none => .no
  | some ds => (fr g1).bind fun es g2 => .ok (ds.map .pu ++ es) g2
theorem denL_pus {K : PySem.W.Frag} {am : Addr} {F : Hp} : ∀ {vs : List V} {ds : List PyData} {ws : List V} {es : List DV}, DnAll K et F vs ds → DenL K et am F ws es → DenL K et am F (vs ++ ws) (ds.map .pu ++ es)
  | _, _, _, _, .nil, h => h
  | _, _, _, _, .cons a b, h => .cons a (denL_pus b h)
theorem da_star {e : Expr} {p : Pos} {es : List Expr} {fa : Sg → Rs Sg DV} {fr : Sg → Rs Sg (List DV)} (ha : DE X et W e fa) (hr : DA X et W es fr) (hs : starEach (.Starred e p :: es) X.env = (true, eval e X.env) :: starEach es X.env := by rfl) : DA X et W (.Starred e p :: es) (mStar fa fr) := fun am B F g σ H Q R hq => by
  refine wa_of (StX.pa_star pe_w pa_w hs) (ha.then (goodL (Q := Q)) R hq fun d g1 v F1 H1 ex1 R1 dn1 hq1 => ?_)
  cases q : seqOf d with
  | none => simp only [q] at hq1; exact hq1.elim
  | some ds =>
    simp only [q] at hq1
    obtain ⟨b, a, vs, ev, sq, dn⟩ := dn1.seqX q
    refine ⟨a, vs, ev, ?_, hr.then (goodL (Q := Q)) R1 hq1 fun es g2 ws F2 H2 ex2 R2 dn2 hq2 => hq2 (vs ++ ws) F2 H2 Ext.refl R2 (denL_pus (dn.up ex2.1) dn2)⟩
    cases b with
    | true => exact .inl (SqT.mono R1.sub sq)
    | false => exact .inr (SqL.mono R1.sub sq)
end
end DL
set_option Elab.async false
set_option linter.all false
set_option maxRecDepth 100000
set_option maxHeartbeats 4000000
set_option autoImplicit false
namespace DL
open PySem PySem.Spec L2
open PyProof.Rows hiding St
structure wK (X : Cx) (kws : List Keyword) (σ : St) (H : Hp) (Q : List V → Hp → Prop) : Prop where
  run : ∀ (pos : Pos) (pins : List (Addr × Obj)) (s : Shared), Inv X pins σ H s → wpAny (model X.prog X.w) X.A (evalAll ((backToKw pos (keywordEach kws X.env)).map (·.2))) (AP X pins σ Q) X.xe s
section
variable {X : Cx} {et : ET} {W : WX}
theorem de_call0 {k j : Nat} {x : Str} {fn : List DV → MS → Rs MS DV} {p pos : Pos} (C : Here X k W) (G : FnC X.prog X.w X.K X.mg X.base et j x fn) (hj : j ≤ k) (hg : Gl X x := by rfl) (hdb : (x == ("__debug__" : Str)) = false := by decide) :
    DE X et W (.Call (.Name x p) [] [] pos) (mCallF fn mNil) := fun am B F g σ H Q R hq => by
  refine ⟨fun pins s I => ?_⟩
  obtain ⟨f, fd, ps, hlen, hm, kp, hb, G⟩ := G.ex
  refine wpAny_Call_Name_kw (ld_glob I hg hm ?_ hdb)
  have hq : OkV X.K et W am B F σ Q (match fn [] g.s with
    | .ok d s => .ok d { g with s := s }
    | .ex c p s => .ex c p { g with s := s }
    | .no => .no) := hq
  have sp : spD X.K et ps.length fn [] H Q (WE W σ) := by
    by_cases hl : ([] : List DV).length = ps.length
    · refine ⟨am, F, [], g.s, hl, R.sub, R.fam, R.ms, .nil, ?_⟩
      cases q3 : fn [] g.s with
      | no => simp only [q3] at hq; exact hq.elim
      | ok d s' =>
        simp only [q3] at hq
        intro v F' H' ex sub fam fr mr dn
        obtain ⟨R', ex'⟩ := R.after ex sub fam fr mr
        exact hq v F' H' ex' R' dn
      | ex c p s' =>
        simp only [q3] at hq
        intro cls dx F' H' ex sub fam fr mr r
        obtain ⟨R', ex'⟩ := R.after ex sub fam fr mr
        exact hq cls dx F' H' ex' R' r
    · rw [hlen _ g.s hl] at hq
      exact hq.elim
  have hl : ([] : List Value).length = ps.length := G.len _ _ _ _ sp
  have b := hb s [] I.kIn (by rw [List.append_nil]; exact hl)
  refine PySem.W.callWith_K0 I.kIn kp (wpAny_call (codeAny_mono (G.run X.A X.stack s H ⟨[], []⟩ [] [] Q (WE W σ) (C.hr.mono hj) C.hg I.env0 b .nil sp) fun rr s' hq => ?_))
  cases rr with
  | error e => exact passAt C.tk σ pins H s e s' I hq
  | ok fl =>
    cases fl with
    | ret u => exact I.after hq
    | next => exact hq.elim
    | brk => exact hq.elim
    | cont => exact hq.elim
end
end DL
set_option Elab.async false
set_option linter.all false
set_option maxRecDepth 100000
set_option maxHeartbeats 4000000
set_option autoImplicit false
set_option Elab.async false
set_option linter.all false
set_option maxRecDepth 100000
set_option maxHeartbeats 4000000
set_option autoImplicit false
set_option Elab.async false
set_option linter.all false
set_option maxRecDepth 100000
set_option maxHeartbeats 4000000
set_option autoImplicit false
set_option Elab.async false
set_option linter.all false
set_option maxRecDepth 100000
set_option maxHeartbeats 4000000
set_option autoImplicit false
set_option Elab.async false
set_option linter.all false
set_option maxRecDepth 100000
set_option maxHeartbeats 4000000
set_option autoImplicit false
set_option Elab.async false
set_option linter.all false
set_option maxRecDepth 100000
set_option maxHeartbeats 4000000
set_option autoImplicit false
set_option Elab.async false
set_option linter.all false
set_option maxRecDepth 100000
set_option maxHeartbeats 4000000
set_option autoImplicit false
namespace DL
open PySem PySem.Spec L2
open PyProof.Rows hiding St
section
variable {prog : Program} {w : World} {K : Type} [DecidableEq K] {knd : HeapKind prog w K} {A : Around} {E : Value → Shared → Prop} {s : Shared}
inductive HitsH {K : Type} [DecidableEq K] (A : Around) (s : Shared) (kb : List (K × Addr × Value)) : List (K × Addr × Value) → Bool → Prop
  | nil : HitsH A s kb [] true
  | miss {k : K} {a : Addr} {v : Value} {r : List (K × Addr × Value)} : atKey kb k = none → HitsH A s kb ((k, a, v) :: r) false
  | hit {k : K} {a b' : Addr} {v y : Value} {r : List (K × Addr × Value)} {e b : Bool} : atKey kb k = some (b', y) → SeqAt.EqAt A s v y e → HitsH A s kb r b → HitsH A s kb ((k, a, v) :: r) (e && b)
theorem HitsH.inv {kb : List (K × Addr × Value)} {k : K} {a : Addr} {v : Value} {r : List (K × Addr × Value)} {b : Bool} (h : HitsH A s kb ((k, a, v) :: r) b) :
    (atKey kb k = none ∧ b = false) ∨ ∃ b' y e b2, atKey kb k = some (b', y) ∧ SeqAt.EqAt A s v y e ∧ HitsH A s kb r b2 ∧ b = (e && b2) := by
  cases h with
  | miss hn => exact .inl ⟨hn, rfl⟩
  | hit hy he hr => exact .inr ⟨_, _, _, _, hy, he, hr, rfl⟩
theorem samePairsH {nm : String} {a b : Addr} {ka kb : List (K × Addr × Value)} {r : Bool} {Q : Bool → Shared → Prop} (hu : knd.room A) (ha : (a == sysModules) = false) (hb : (b == sysModules) = false)
    (da : s.heap.DictOfH knd a ka) (db : s.heap.DictOfH knd b kb) (hits : ka.length = kb.length → HitsH A s kb ka r) (h : Q (ka.length == kb.length && r) s) :
    wpAny (model prog w) A (Builtin.Dict.samePairs nm a b) Q E s := by
  obtain ⟨oa, es, ep, hoa, _, hda, hea, hia, _⟩ := da
  obtain ⟨ob, es', ep', hob, _, hdb, heb, hib, hnb⟩ := db
  have hla : ka.length = es.size := (size_of_entries hea).symm
  have hlb : kb.length = es'.size := (size_of_entries heb).symm
  rw [hla, hlb] at h
  unfold Builtin.Dict.samePairs Builtin.Dict.showsAll
  rw [if_neg (show ¬ (a == sysModules) = true by rw [ha]; exact Bool.false_ne_true), if_neg (show ¬ (b == sysModules) = true by rw [hb]; exact Bool.false_ne_true)]
  refine wpAny_bind (wpAny_pure (wpAny_bind (wpAny_pure ?_)))
  refine wpAny_bind (wpAny_dictEntries hoa hda ?_)
  dsimp only
  refine wpAny_bind (wpAny_dictEntries hob hdb ?_)
  by_cases hsz : es.size = es'.size
  case neg =>
    rw [if_pos (by simpa using hsz)]
    have hbf : (es.size == es'.size) = false := by simpa using hsz
    rw [hbf, Bool.false_and] at h
    exact wpAny_bind (wpAny_rule (wpAny_pure h))
  case pos =>
    have h' : Q r s := by simpa [hsz] using h
    have hits' := hits (by rw [hla, hlb]; exact hsz)
    rw [if_neg (by rw [hsz]; simp)]
    refine wpAny_bind (wpAny_dictEpoch hoa hda ?_)
    refine wpAny_bind ?_
    rw [Std.Legacy.Range.forIn_eq_forIn_range']
    simp only [Std.Legacy.Range.size, Nat.sub_zero, Nat.add_sub_cancel, Nat.div_one]
    refine wpAny_forIn_list _
      (fun rest q s' => s' = s ∧ q = (none, ()) ∧ ∃ i, rest = List.range' i (es.size - i) ∧ i ≤ es.size ∧ HitsH A s kb (ka.drop i) r)
      _ ?_ ?_ _ _ ⟨rfl, rfl, 0, by simp, Nat.zero_le _, hits'⟩
    · rintro x rest q s' ⟨rfl, rfl, i, hr, hi, hpre⟩
      have hlt : i < es.size := by
        rcases Nat.lt_or_ge i es.size with h | h
        · exact h
        · rw [Nat.sub_eq_zero_of_le h] at hr; simp at hr
      obtain ⟨rfl, hrest⟩ : x = i ∧ rest = List.range' (i + 1) (es.size - (i + 1)) := by
        have e : es.size - i = (es.size - (i + 1)) + 1 := by omega
        rw [e, List.range'_succ] at hr
        injection hr with h1 h2
        exact ⟨h1, h2⟩
      refine wpAny_bind (wpAny_dictEntries hoa hda ?_)
      rw [Array.getElem?_eq_getElem hlt]
      have hlt' : x < ka.length := by rw [hla]; exact hlt
      obtain ⟨k, p, v, hkv⟩ : ∃ k p v, ka[x] = (k, p, v) := ⟨_, _, _, rfl⟩
      have hdrop : ka.drop x = (k, p, v) :: ka.drop (x + 1) := by rw [← hkv]; exact List.drop_eq_getElem_cons hlt'
      have hent : es[x] = entryOfKey knd (k, p, v) := by
        have := entry_at hea x
        rw [Array.getElem?_eq_getElem hlt, List.getElem?_eq_getElem hlt', hkv] at this
        exact Option.some.inj this
      have hisx : knd.is s'.heap k p := by
        have := hia ka[x] (List.getElem_mem hlt')
        rw [hkv] at this
        exact this
      rw [hdrop] at hpre
      show wpAny _ _ (holding [es[x].key, es[x].val] _ >>= _) _ _ _
      rw [hent]
      refine wpAny_bind (wpAny_holding (wpAny_bind (wpAny_dictFind_heap hu hisx hob hdb heb hib hnb ?_ ?_)))
      · intro hno
        have hn := atKey_none_of_get hno
        rcases hpre.inv with ⟨_, er⟩ | ⟨_, y, _, _, hy, _⟩
        · rw [er] at h'
          refine wpAny_pure ?_
          show wpAny _ _ (if (!false) = true then _ else _) _ _ _
          rw [if_pos (by decide)]
          exact wpAny_pure (wpAny_pure h')
        · rw [hn] at hy; exact nomatch hy
      · intro j q hj
        have hv' := atKey_of_get hnb hj
        refine wpAny_bind (wpAny_dictEntries hob hdb ?_)
        rw [entry_at heb j, hj]
        rcases hpre.inv with ⟨hn, _⟩ | ⟨b2, y, e, b', hy, he, hrr, er⟩
        · rw [hv'] at hn; exact nomatch hn
        · have ey : q = (b2, y) := Option.some.inj (hv'.symm.trans hy)
          subst ey
          refine wpAny_holding (he prog w _ _ ?_)
          cases e with
          | false =>
            rw [er, Bool.false_and] at h'
            show wpAny _ _ (if (!false) = true then _ else _) _ _ _
            rw [if_pos (by decide)]
            exact wpAny_pure (wpAny_pure h')
          | true =>
            rw [Bool.true_and] at er
            rw [← er] at hrr
            show wpAny _ _ (if (!true) = true then _ else _) _ _ _
            rw [if_neg (by decide)]
            refine wpAny_bind (wpAny_dictEpoch hoa hda ?_)
            rw [if_neg (by simp)]
            exact wpAny_pure ⟨rfl, rfl, x + 1, hrest, hlt, hrr⟩
    · rintro q s' ⟨rfl, rfl, i, hr, hi, hpre⟩
      have hin : i = es.size := by
        rcases Nat.lt_or_ge i es.size with h | h
        · have e : es.size - i = (es.size - (i + 1)) + 1 := by omega
          rw [e, List.range'_succ] at hr; exact nomatch hr
        · exact Nat.le_antisymm hi h
      refine wpAny_pure ?_
      rw [hin, ← hla, List.drop_length] at hpre
      cases hpre
      exact h'
theorem eqH {a b : Addr} {ka kb : List (K × Addr × Value)} {r : Bool} {Q : Value → Shared → Prop} (hr : knd.room A.in1) (ha : (a == sysModules) = false) (hb : (b == sysModules) = false)
    (da : s.heap.DictOfH knd a ka) (db : s.heap.DictOfH knd b kb) (hu : A.units < cLine) (hits : ka.length = kb.length → HitsH A.in1 s kb ka r) (h : Q (.bool (ka.length == kb.length && r)) s) :
    wpAny (model prog w) A (compareOp .Eq (.ref a) (.ref b)) Q E s := by
  refine wpAny_richCompare_same_room (op := .Eq) da.typeIs db.typeIs PySem.F.slot_dict_eq (wpAny_call_entry PySem.F.slot_dict_eq da.typeIs PySem.F.entry_dict_eq ?_ (PySem.F.args_dict_eq_2 _ _)) hu
  show wpAny _ _ (Builtin.Dict.dictSlotArgs "__eq__" ⟨[.ref a, .ref b], []⟩ >>= _) _ _ s
  refine wpAny_bind ?_
  unfold Builtin.Dict.dictSlotArgs
  refine wpAny_bind (wpAny_notOrdered_dict da.typeIs ?_)
  show wpAny _ _ (pure (Value.ref a, Value.ref b)) _ _ s
  refine wpAny_pure ?_
  refine wpAny_bind (wpAny_isInstance (T := "dict") db.typeIs PySem.F.sub_dict_dict ?_)
  simp only [Bool.not_true, Bool.false_eq_true, if_false]
  refine wpAny_bind (wpAny_pure (wpAny_bind (wpAny_pure ?_)))
  refine wpAny_bind (samePairsH hr ha hb da db hits ?_)
  refine wpAny_pure ⟨_, rfl, ?_, ?_⟩
  · exact fun x => nomatch x
  · simpa using h
end
section
variable {X : Cx} {et : ET} {W : WX}
def sameKv (ka kb : List (PyData × PyData)) : Bool := ka.all fun p => match p.2, getD kb p.1 with
  | .int n, some (.int m) => decide (n = m)
  | _, _ => false
def intsKv (ka : List (PyData × PyData)) : Bool := tupKeys ka && ka.all fun p => match p.2 with
  | .int _ => true
  | _ => false
theorem hits_of {pins : List (Addr × Obj)} {σ : L2.St} {F H : Hp} {s : Shared} (hw : et.hs = fun k => k.hash X.w) {A : Around} {eb : List (NestedKey × Addr × V)} {kb : List (PyData × PyData)} {yb : List (NestedKey × Addr × Value)} (kvb : DnKv X.K et F eb kb) (pb : Paired EntR eb yb) (hib : intsKv kb = true) :
    ∀ {ea : List (NestedKey × Addr × V)} {ka : List (PyData × PyData)} {ya : List (NestedKey × Addr × Value)}, DnKv X.K et F ea ka → Paired EntR ea ya → intsKv ka = true → HitsH A s yb ya (sameKv ka kb)
  | _, _, _, .nil, .nil, _ => .nil
  | _, _, _, .cons (n := n) (k := k) (d := d) (es := es) (kvs := kvs) a a2 b c r, .cons (b := y) h t, hi => by
    obtain ⟨h1, h2, h3⟩ := h
    have hi' : intsKv kvs = true := by
      unfold intsKv tupKeys at hi ⊢
      rw [List.all_cons, List.all_cons, Bool.and_eq_true, Bool.and_eq_true, Bool.and_eq_true] at hi
      rw [hi.1.2, hi.2.2]; rfl
    have hd : ∃ i, d = .int i := by
      unfold intsKv at hi
      rw [Bool.and_eq_true, List.all_cons, Bool.and_eq_true] at hi
      have := hi.2.1
      cases d with
      | int i => exact ⟨i, rfl⟩
      | _ => cases this
    obtain ⟨i, rfl⟩ := hd
    have rest := hits_of (pins := pins) (σ := σ) (H := H) (s := s) hw (A := A) kvb pb hib r t hi'
    have e0 : sameKv ((k, .int i) :: kvs) kb = ((match getD kb k with | some (.int m) => decide (i = m) | _ => false) && sameKv kvs kb) := by
      unfold sameKv
      rw [List.all_cons]
      cases getD kb k with
      | none => rfl
      | some z => cases z <;> rfl
    rw [e0]
    obtain ⟨yk, ya, yv⟩ := y
    have h1 : n = yk := h1
    subst h1
    rcases ent_find kvb pb a with ⟨d', v', b', u', g1, g2, g3, g4⟩ | ⟨g1, g2⟩
    · have : ∃ m, d' = .int m := by
        unfold intsKv at hib
        rw [Bool.and_eq_true, List.all_eq_true] at hib
        unfold getD at g1
        cases q : kb.find? fun p => keyEq p.1 k with
        | none => rw [q] at g1; cases g1
        | some p =>
          rw [q] at g1
          cases g1
          have := hib.2 p (List.mem_of_find?_eq_some q)
          cases hp : p.2 with
          | int m => exact ⟨m, hp⟩
          | _ => rw [hp] at this; cases this
      obtain ⟨m, rfl⟩ := this
      rw [g1]
      have g3 : RelV v' u' := g3
      rw [g4.int_of] at g3
      have h3 : RelV _ yv := h3
      rw [c.int_of] at h3
      obtain ⟨t1, rfl⟩ := (show ∃ t, yv = Value.int i t from h3)
      obtain ⟨t2, rfl⟩ := (show ∃ t, u' = Value.int m t from g3)
      refine .hit g2 ?_ rest
      have := SeqAt.EqAt.int_int (A := A) (s := s) i t1 m t2
      show SeqAt.EqAt A s (.int i t1) (.int m t2) (decide (i = m))
      rw [show decide (i = m) = (i == m) from by cases q : (i == m) with | true => exact decide_eq_true (by simpa using q) | false => exact decide_eq_false (by simpa using q)]
      exact this
    · rw [g1]
      exact .miss g2
def rEqD (X : Cx) (et : ET) : R2 := fun x y H Q => ∃ (F : Hp) (ka kb : List (PyData × PyData)), Same F H ∧ Dn X.K et F x (.dict ka) ∧ Dn X.K et F y (.dict kb) ∧ intsKv ka = true ∧ intsKv kb = true ∧ Q (.bl (ka.length == kb.length && sameKv ka kb)) H
theorem op_eqD (hw : et.hs = fun k => k.hash X.w) (hu : X.A.units + 64 < cLine) : OpR X (compareOp .Eq) (rEqD X et) := by
  intro pins s σ H x y v u Q I rx ry h
  obtain ⟨F, ka, kb, sub, da, db, hia, hib, q⟩ := h
  have ta : tupKeys ka = true := by unfold intsKv at hia; rw [Bool.and_eq_true] at hia; exact hia.1
  have tb : tupKeys kb = true := by unfold intsKv at hib; rw [Bool.and_eq_true] at hib; exact hib.1
  obtain ⟨a, oa, ea, rfl, fa, kva⟩ := da.dict_nd ta
  obtain ⟨b, ob, eb, rfl, fb, kvb⟩ := db.dict_nd tb
  cases rx
  cases ry
  obtain ⟨_, hsa, ya, pa, dda⟩ := nd_dict I sub hw (.inr ⟨_, sub _ _ fa⟩) kva
  obtain ⟨_, hsb, yb, pb, ddb⟩ := nd_dict I sub hw (.inr ⟨_, sub _ _ fb⟩) kvb
  have la : ya.length = ka.length := by rw [← pa.length]; exact kva.length
  have lb : yb.length = kb.length := by rw [← pb.length]; exact kvb.length
  refine eqH (nd_room hu) hsa hsb dda ddb (by omega) (fun _ => hits_of (pins := pins) (σ := σ) (H := H) hw kvb pb hib kva pa hia) ⟨.bl _, H, I, ?_, q⟩
  rw [la, lb]
  rfl
end
end DL
set_option Elab.async false
set_option linter.all false
set_option maxRecDepth 100000
set_option maxHeartbeats 4000000
set_option autoImplicit false
set_option Elab.async false
set_option linter.all false
set_option maxRecDepth 100000
set_option maxHeartbeats 4000000
set_option autoImplicit false
namespace DL
open PySem PySem.Spec L2
open PyProof.Rows hiding St
section
variable {X : Cx} {et : ET} {W : WX}
def mNewL (i : Nat) (fs : Sg → Rs Sg (List DV)) (g : Sg) : Rs Sg Fl := (fs g).bind fun ds g1 => match allP ds with
  | some ps => if ps.length ≤ bigN then .ok .nx (g1.put i (.own ps)) else .no
  | none => .no
def mRevL (f : Sg → Rs Sg DV) (g : Sg) : Rs Sg DV := (f g).bind fun x g1 => match x with
  | .pu (.list xs) => .ok (.pu (.list xs.reverse)) g1
  | .pu (.tuple xs) => .ok (.pu (.tuple xs.reverse)) g1
  | _ => .no
end
end DL
set_option Elab.async false
set_option linter.all false
set_option maxRecDepth 100000
set_option maxHeartbeats 4000000
set_option autoImplicit false
set_option Elab.async false
set_option linter.all false
set_option maxRecDepth 100000
set_option maxHeartbeats 4000000
set_option autoImplicit false
set_option Elab.async false
set_option linter.all false
set_option maxRecDepth 100000
set_option maxHeartbeats 4000000
set_option autoImplicit false
namespace DL
open PySem PySem.Spec L2
open PyProof.Rows hiding St
section
variable {X : Cx} {et : ET} {W : WX}
def asS : DV → Option Str
  | .pu (.str a) => some a
  | _ => none
theorem DenP.str_of {K : PySem.W.Frag} {am : Addr} {F : Hp} {v : V} {x : DV} {a : Str} (h : DenP K et am F v x) (e : asS x = some a) : v = .str a := by
  unfold asS at e
  split at e
  · cases e
    exact Dn.str_of h
  · cases e
end
end DL
set_option Elab.async false
set_option linter.all false
set_option maxRecDepth 100000
set_option maxHeartbeats 4000000
set_option autoImplicit false
set_option Elab.async false
set_option linter.all false
set_option maxRecDepth 100000
set_option maxHeartbeats 4000000
set_option autoImplicit false
namespace DL
open PySem PySem.Spec L2
open PyProof.Rows hiding St
def Sat {S α : Type} (r : Rs S α) (Q : α → S → Prop) : Prop := ∃ a s, r = .ok a s ∧ Q a s
section
variable {S α β : Type}
theorem sat_ok {a : α} {s : S} {Q : α → S → Prop} (h : Q a s) : Sat (.ok a s) Q := ⟨a, s, rfl, h⟩
theorem sat_bind {r : Rs S α} {f : α → S → Rs S β} {Q : β → S → Prop} (h : Sat r fun a s => Sat (f a s) Q) : Sat (r.bind f) Q := by
  obtain ⟨a, s, e, b, s', e', q⟩ := h
  exact ⟨b, s', by rw [e]; exact e', q⟩
theorem Sat.mono {r : Rs S α} {P Q : α → S → Prop} (h : Sat r P) (k : ∀ a s, P a s → Q a s) : Sat r Q := by
  obtain ⟨a, s, e, p⟩ := h
  exact ⟨a, s, e, k a s p⟩
end
theorem sat_fnB {np n : Nat} {f : Sg → Rs Sg Fl} {ds : List DV} {s : MS} {Q : DV → MS → Prop} (hl : ds.length = np) (h : Sat (f ⟨startD n ds, s⟩) fun x g => ∃ d, x = .rt d ∧ Q d g.s) : Sat (fnB np n f ds s) Q := by
  obtain ⟨x, g, e, d, rfl, q⟩ := h
  refine ⟨d, g.s, ?_, q⟩
  unfold fnB
  rw [if_pos hl, e]
  rfl
theorem fnB_ok {np n : Nat} {f : Sg → Rs Sg Fl} {ds : List DV} {s : MS} {d : DV} {g : Sg} (hl : ds.length = np) (h : f ⟨startD n ds, s⟩ = .ok (.rt d) g) : fnB np n f ds s = .ok d g.s := by
  unfold fnB
  rw [if_pos hl, h]
  rfl
theorem for_inv {t : PyData → Sg → Option Sg} {body : Sg → Rs Sg Fl} (I : Nat → Sg → Prop) : ∀ (ds : List PyData) (k : Nat) (g : Sg), I k g →
    (∀ i d g, ds[i]? = some d → I (k + i) g → ∃ g1, t d g = some g1 ∧ Sat (body g1) fun x g2 => (x = .nx ∨ x = .ct) ∧ I (k + i + 1) g2) → ∃ g', mForL t body ds g = .ok .nx g' ∧ I (k + ds.length) g'
  | [], k, g, h, _ => ⟨g, rfl, h⟩
  | d :: ds, k, g, h, st => by
    obtain ⟨g1, e1, x, g2, e2, hx, h2⟩ := st 0 d g rfl h
    obtain ⟨g', e', h'⟩ := for_inv I ds (k + 1) g2 h2 fun i d' g hd hi => by
      have := st (i + 1) d' g (by simpa using hd) (by rw [← Nat.add_assoc, Nat.add_right_comm]; exact hi)
      rw [← Nat.add_assoc, Nat.add_right_comm k i 1] at this
      exact this
    refine ⟨g', ?_, by rw [List.length_cons, Nat.add_comm ds.length 1, ← Nat.add_assoc]; exact h'⟩
    unfold mForL
    rw [e1]
    show (match body g1 with
      | .ok .nx g2 => mForL t body ds g2
      | .ok .ct g2 => mForL t body ds g2
      | .ok .bk g2 => .ok .nx g2
      | .ok (.rt d) g2 => .ok (.rt d) g2
      | .ex c p g2 => .ex c p g2
      | .no => .no) = _
    rw [e2]
    rcases hx with rfl | rfl <;> exact e'
theorem sat_for {fi : Sg → Rs Sg (List PyData)} {t : PyData → Sg → Option Sg} {body : Sg → Rs Sg Fl} {g g0 : Sg} {ds : List PyData} {Q : Fl → Sg → Prop} (I : Nat → Sg → Prop) (hi : fi g = .ok ds g0) (h0 : I 0 g0)
    (st : ∀ i d g, ds[i]? = some d → I i g → ∃ g1, t d g = some g1 ∧ Sat (body g1) fun x g2 => (x = .nx ∨ x = .ct) ∧ I (i + 1) g2) (k : ∀ g', I ds.length g' → Q .nx g') : Sat (mFor fi t body g) Q := by
  obtain ⟨g', e, h'⟩ := for_inv (t := t) (body := body) I ds 0 g0 h0 fun i d g hd hi => by
    rw [Nat.zero_add] at hi ⊢
    exact st i d g hd hi
  refine ⟨.nx, g', ?_, k g' (by rw [Nat.zero_add] at h'; exact h')⟩
  unfold mFor
  rw [hi]
  exact e
/-- a comprehension that only reads -/
theorem lc_map {vs : List Nat} {t : PyData → Sg → Option Sg} {elt : Sg → Rs Sg DV} {g0 : Sg} (h : PyData → PyData) : ∀ (ds acc : List PyData), acc.length + ds.length ≤ bigN →
    (∀ d ∈ ds, ∃ g1 g3, t d g0 = some g1 ∧ elt g1 = .ok (.pu (h d)) g3 ∧ g3.wipe vs = g0) → lcLoop vs t mYes elt ds acc g0 = .ok (acc ++ ds.map h) g0
  | [], acc, _, _ => by unfold lcLoop; rw [List.map_nil, List.append_nil]
  | d :: ds, acc, hl, st => by
    have hl' : acc.length < bigN := by rw [List.length_cons] at hl; omega
    obtain ⟨g1, g3, e1, e3, e4⟩ := st d List.mem_cons_self
    unfold lcLoop
    rw [e1]
    show ((elt g1).nox.bind _) = _
    rw [e3]
    show (if acc.length < bigN then lcLoop vs t mYes elt ds (acc ++ [h d]) (g3.wipe vs) else .no) = _
    rw [if_pos hl', e4, lc_map h ds (acc ++ [h d]) (by rw [List.length_append, List.length_singleton]; rw [List.length_cons] at hl; omega) fun d' hd => st d' (List.mem_cons_of_mem _ hd), List.map_cons, List.append_assoc, List.singleton_append]
/-- with a test that only reads -/
theorem lc_filter {vs : List Nat} {t : PyData → Sg → Option Sg} {test : Sg → Rs Sg Bool} {elt : Sg → Rs Sg DV} {g0 : Sg} (p : PyData → Bool) (h : PyData → PyData) : ∀ (ds acc : List PyData), acc.length + ds.length ≤ bigN →
    (∀ d ∈ ds, ∃ g1 g2 g3, t d g0 = some g1 ∧ test g1 = .ok (p d) g2 ∧ g2.wipe vs = g0 ∧ (p d = true → elt g2 = .ok (.pu (h d)) g3 ∧ g3.wipe vs = g0)) → lcLoop vs t test elt ds acc g0 = .ok (acc ++ (ds.filter p).map h) g0
  | [], acc, _, _ => by unfold lcLoop; rw [List.filter_nil, List.map_nil, List.append_nil]
  | d :: ds, acc, hl, st => by
    have hl' : acc.length < bigN := by rw [List.length_cons] at hl; omega
    have hl2 : acc.length + ds.length ≤ bigN := by rw [List.length_cons] at hl; omega
    obtain ⟨g1, g2, g3, e1, e2, e3, e4⟩ := st d List.mem_cons_self
    unfold lcLoop
    rw [e1]
    show ((test g1).nox.bind _) = _
    rw [e2]
    show (if p d = true then _ else _) = _
    by_cases hp : p d = true
    · obtain ⟨e5, e6⟩ := e4 hp
      rw [if_pos hp, e5]
      show (if acc.length < bigN then lcLoop vs t test elt ds (acc ++ [h d]) (g3.wipe vs) else .no) = _
      rw [if_pos hl', e6, lc_filter p h ds (acc ++ [h d]) (by rw [List.length_append, List.length_singleton]; rw [List.length_cons] at hl; omega) fun d' hd => st d' (List.mem_cons_of_mem _ hd), List.filter_cons_of_pos hp, List.map_cons, List.append_assoc, List.singleton_append]
    · rw [if_neg hp, e3, lc_filter p h ds acc hl2 fun d' hd => st d' (List.mem_cons_of_mem _ hd), List.filter_cons_of_neg hp]
theorem mLc_of {vs : List Nat} {fi : Sg → Rs Sg (List PyData)} {t : PyData → Sg → Option Sg} {test : Sg → Rs Sg Bool} {elt : Sg → Rs Sg DV} {g g1 g2 : Sg} {ds acc : List PyData} (hi : fi g = .ok ds g1) (hl : lcLoop vs t test elt ds [] (g1.wipe vs) = .ok acc g2) :
    mLc vs fi t test elt g = .ok (.pu (.list acc)) { g2 with r := restR g1.r vs g2.r } := by
  unfold mLc
  rw [hi]
  show (lcLoop vs t test elt ds [] (g1.wipe vs)).bind _ = _
  rw [hl]
  rfl
theorem allI_ints : ∀ ns : List Int, allI (ns.map .int) = some ns
  | [] => rfl
  | n :: r => by rw [List.map_cons]; unfold allI; rw [allI_ints r]; rfl
theorem map_get {α β : Type} {f : α → β} {l : List α} {i : Nat} {b : β} (h : (l.map f)[i]? = some b) : ∃ a, l[i]? = some a ∧ f a = b := by
  rw [List.getElem?_map] at h
  cases e : l[i]? with
  | none => rw [e] at h; cases h
  | some a => rw [e] at h; cases h; exact ⟨a, rfl, rfl⟩
theorem rangeD_get {lo : Int} {n i : Nat} {d : PyData} (h : (rangeD lo n)[i]? = some d) : i < n ∧ d = .int (lo + (i : Nat)) := by
  unfold rangeD at h
  obtain ⟨a, e, rfl⟩ := map_get h
  rw [List.getElem?_eq_some_iff] at e
  obtain ⟨hl, e⟩ := e
  rw [List.getElem_range] at e
  subst e
  exact ⟨by simpa using hl, rfl⟩
theorem rangeD_mem {lo : Int} {n : Nat} {d : PyData} (h : d ∈ rangeD lo n) : ∃ i, i < n ∧ d = .int (lo + (i : Nat)) := by
  unfold rangeD at h
  rw [List.mem_map] at h
  obtain ⟨i, hi, rfl⟩ := h
  exact ⟨i, List.mem_range.mp hi, rfl⟩
theorem rangeD_length (lo : Int) (n : Nat) : (rangeD lo n).length = n := by unfold rangeD; simp
end DL
set_option Elab.async false
set_option linter.all false
set_option maxRecDepth 100000
set_option maxHeartbeats 4000000
set_option autoImplicit false
namespace DL
open PySem PySem.Spec L2
open PyProof.Rows hiding St
structure Fit (n k : Nat) (d : PyData) : Prop where
  lay : d.canLay0 = true
  short : d.leavesShort 30 = true
  show_ : d.showable = true
  dep : d.depth ≤ k
  bulk : d.bulk ≤ n
structure FitL (n k : Nat) (ds : List PyData) : Prop where
  lay : PyData.canLayAll0 ds = true
  short : PyData.leavesShortAll 30 ds = true
  show_ : PyData.showableAll ds = true
  dep : PyData.depthAll ds ≤ k
  bulk : PyData.bulkAll ds ≤ n
theorem Fit.mono {n k n' k' : Nat} {d : PyData} (h : Fit n k d) (a : n ≤ n') (b : k ≤ k') : Fit n' k' d := ⟨h.lay, h.short, h.show_, Nat.le_trans h.dep b, Nat.le_trans h.bulk a⟩
theorem FitL.mono {n k n' k' : Nat} {d : List PyData} (h : FitL n k d) (a : n ≤ n') (b : k ≤ k') : FitL n' k' d := ⟨h.lay, h.short, h.show_, Nat.le_trans h.dep b, Nat.le_trans h.bulk a⟩
theorem fit_non : Fit 0 0 .none := ⟨rfl, rfl, rfl, Nat.le_refl _, Nat.le_refl _⟩
theorem log2_lt_of {n : Nat} (h : n < 10 ^ 29) : n.log2 < 1920 := by
  by_cases e : n = 0
  · subst e; decide
  · rw [Nat.log2_lt e]
    exact Nat.lt_of_lt_of_le h (Nat.le_trans (show 10 ^ 29 ≤ 2 ^ 200 by decide) (Nat.pow_le_pow_right (by decide) (by decide)))
theorem fit_int {i : Int} (h : i.natAbs < 10 ^ 29) : Fit 0 0 (.int i) := by
  refine ⟨rfl, ?_, ?_, Nat.le_refl _, Nat.le_refl _⟩
  · have e := int_text_length_le10 (k := 29) (by decide) h
    have f : (PyData.shown (.int i)).length ≤ 30 := by
      show (Str.ofString (toString i)).length ≤ 30
      rw [PySem.ofString_length]
      exact e
    unfold PyData.leavesShort
    exact decide_eq_true f
  · unfold PyData.showable
    exact decide_eq_true (log2_lt_of h)
theorem fitL_nil {k : Nat} : FitL 0 k [] := ⟨rfl, rfl, rfl, Nat.zero_le _, Nat.le_refl _⟩
theorem fitL_cons {n m k : Nat} {d : PyData} {ds : List PyData} (a : Fit n k d) (b : FitL m k ds) : FitL (n + 1 + m) k (d :: ds) := by
  refine ⟨?_, ?_, ?_, ?_, ?_⟩
  · unfold PyData.canLayAll0; rw [a.lay, b.lay]; rfl
  · unfold PyData.leavesShortAll; rw [a.short, b.short]; rfl
  · unfold PyData.showableAll; rw [a.show_, b.show_]; rfl
  · unfold PyData.depthAll; exact Nat.max_le.mpr ⟨a.dep, b.dep⟩
  · unfold PyData.bulkAll; have := a.bulk; have := b.bulk; omega
theorem fitL_all {n k : Nat} : ∀ {ds : List PyData}, (∀ d ∈ ds, Fit n k d) → FitL (ds.length * (n + 1)) k ds
  | [], _ => (fitL_nil (k := k)).mono (Nat.zero_le _) (Nat.le_refl _)
  | d :: r, h => (fitL_cons (h d List.mem_cons_self) (fitL_all fun x hx => h x (List.mem_cons_of_mem _ hx))).mono (by rw [List.length_cons, Nat.add_mul]; omega) (Nat.le_refl _)
theorem FitL.lst {n k : Nat} {ds : List PyData} (h : FitL n k ds) : Fit n (k + 1) (.list ds) := by
  refine ⟨?_, ?_, ?_, ?_, ?_⟩
  · unfold PyData.canLay0; exact h.lay
  · unfold PyData.leavesShort; exact h.short
  · unfold PyData.showable; exact h.show_
  · unfold PyData.depth; exact Nat.add_le_add_right h.dep 1
  · unfold PyData.bulk; exact h.bulk
theorem FitL.tup {n k : Nat} {ds : List PyData} (h : FitL n k ds) : Fit n (k + 1) (.tuple ds) := by
  refine ⟨?_, ?_, ?_, ?_, ?_⟩
  · unfold PyData.canLay0; exact h.lay
  · unfold PyData.leavesShort; exact h.short
  · unfold PyData.showable; exact h.show_
  · unfold PyData.depth; exact Nat.add_le_add_right h.dep 1
  · unfold PyData.bulk; exact h.bulk
theorem fitL_ints {m : Nat} {ns : List Int} (hl : ns.length ≤ m) (h : ∀ n ∈ ns, n.natAbs < 10 ^ 29) : FitL m 0 (ns.map .int) :=
  (fitL_all (n := 0) (k := 0) fun d hd => by
    rw [List.mem_map] at hd
    obtain ⟨n, hn, rfl⟩ := hd
    exact fit_int (h n hn)).mono (by rw [List.length_map]; omega) (Nat.le_refl _)
theorem Fit.ok {n k : Nat} {d : PyData} (h : Fit n k d) (hn : n ≤ 400000 := by decide) (hk : k ≤ 64 := by decide) : okShow d = true := by
  unfold okShow
  have hs := PyData.shown_le_bulk 30 (by decide) d h.short
  have hb := h.bulk
  have hp := h.dep
  rw [h.show_]
  simp only [Bool.true_and, Bool.and_eq_true, decide_eq_true_eq]
  refine ⟨by omega, ?_⟩
  unfold bigN
  omega
theorem Fit.shaped {n k : Nat} {d : PyData} (h : Fit n k d) (hk : k ≤ 64 := by decide) : SeqAt.shaped d = true := by
  unfold SeqAt.shaped
  rw [h.lay]
  exact decide_eq_true (Nat.le_trans h.dep hk)
theorem Fit.eqv {n k : Nat} {d : PyData} (h : Fit n k d) : PyData.eqv d d = true := SeqAt.eqv_refl d h.lay
theorem bRepr_ok {d : PyData} (h : okShow d = true) : bRepr [.pu d] = some (.str d.shown) := if_pos h
end DL
set_option Elab.async false
set_option linter.all false
set_option maxRecDepth 100000
set_option maxHeartbeats 4000000
set_option autoImplicit false
namespace DL
open PySem PySem.Spec L2
open PyProof.Rows hiding St
theorem fn_eq {np n : Nat} {f : Sg → Rs Sg Fl} {ds : List DV} {s : MS} {d : DV} (hl : ds.length = np) (h : Sat (f ⟨startD n ds, s⟩) fun x g => x = .rt d ∧ g.s = s) : fnB np n f ds s = .ok d s := by
  obtain ⟨x, g, e, rfl, e2⟩ := h
  rw [fnB_ok hl e, e2]
/-- a loop that ends at the first item that is asked for -/
theorem for_find {t : PyData → Sg → Option Sg} {body : Sg → Rs Sg Fl} (C : Sg → Prop) (p : PyData → Bool) (r : PyData → DV) : ∀ (ds : List PyData) (g : Sg), C g →
    (∀ d g, d ∈ ds → C g → ∃ g1, t d g = some g1 ∧ Sat (body g1) fun x g2 => C g2 ∧ x = if p d = true then .rt (r d) else .nx) → Sat (mForL t body ds g) fun x g' => C g' ∧ x = match ds.find? p with | some d => .rt (r d) | none => .nx
  | [], g, h, _ => ⟨.nx, g, rfl, h, rfl⟩
  | d :: ds, g, h, st => by
    obtain ⟨g1, e1, x, g2, e2, h2, hx⟩ := st d g List.mem_cons_self h
    unfold mForL
    rw [e1]
    show Sat (match body g1 with
      | .ok .nx g2 => mForL t body ds g2
      | .ok .ct g2 => mForL t body ds g2
      | .ok .bk g2 => .ok .nx g2
      | .ok (.rt d) g2 => .ok (.rt d) g2
      | .ex c p g2 => .ex c p g2
      | .no => .no) _
    rw [e2]
    by_cases hp : p d = true
    · rw [if_pos hp] at hx
      subst hx
      exact ⟨_, g2, rfl, h2, by rw [List.find?_cons_of_pos hp]⟩
    · rw [if_neg hp] at hx
      subst hx
      rw [List.find?_cons_of_neg hp]
      exact for_find C p r ds g2 h2 fun d' g hd => st d' g (List.mem_cons_of_mem _ hd)
theorem sat_forF {fi : Sg → Rs Sg (List PyData)} {t : PyData → Sg → Option Sg} {body : Sg → Rs Sg Fl} {g g0 : Sg} {ds : List PyData} {Q : Fl → Sg → Prop} (C : Sg → Prop) (p : PyData → Bool) (r : PyData → DV) (hi : fi g = .ok ds g0) (h0 : C g0)
    (st : ∀ d g, d ∈ ds → C g → ∃ g1, t d g = some g1 ∧ Sat (body g1) fun x g2 => C g2 ∧ x = if p d = true then .rt (r d) else .nx) (k : ∀ g', C g' → Q (match ds.find? p with | some d => .rt (r d) | none => .nx) g') : Sat (mFor fi t body g) Q := by
  obtain ⟨x, g', e, h, rfl⟩ := for_find C p r ds g0 h0 st
  refine ⟨_, g', ?_, k g' h⟩
  unfold mFor
  rw [hi]
  exact e
def isW (lo hi : Int) : PyData → Bool
  | .int a => leB lo a && leB a hi
  | _ => false
def secI : PyData → PyData
  | .tuple [_, d] => d
  | d => d
def fstI : PyData → PyData
  | .tuple [d, _] => d
  | d => d
def firstW (lo hi : Int) (ds : List PyData) : PyData := match (enumFrom 0 ds).find? fun d => !isW lo hi (secI d) with
  | some d => fstI d
  | none => .none
theorem enum_mem : ∀ {ds : List PyData} {k : Nat} {d : PyData}, d ∈ enumFrom k ds → ∃ i e, d = .tuple [.int (i : Nat), e] ∧ e ∈ ds
  | [], _, _, h => by cases h
  | x :: r, k, d, h => by
    unfold enumFrom at h
    rcases List.mem_cons.mp h with rfl | h
    · exact ⟨k, x, rfl, List.mem_cons_self⟩
    · obtain ⟨i, e, a, b⟩ := enum_mem h
      exact ⟨i, e, a, List.mem_cons_of_mem _ b⟩
end DL
set_option Elab.async false
set_option linter.all false
set_option maxRecDepth 100000
set_option maxHeartbeats 4000000
set_option autoImplicit false
namespace DL
open PySem PySem.Spec L2
open PyProof.Rows hiding St
theorem isNon_non : isNon .none = true := rfl
theorem isNon_int {i : Int} : isNon (.int i) = false := rfl
theorem firstW_isNon (lo hi : Int) (ds : List PyData) : isNon (firstW lo hi ds) = ds.all (isW lo hi) := by
  unfold firstW
  cases e : (enumFrom 0 ds).find? fun d => !isW lo hi (secI d) with
  | none =>
    rw [List.find?_eq_none] at e
    show true = _
    have h : ∀ (l : List PyData) (k : Nat), (∀ d ∈ enumFrom k l, ¬(!isW lo hi (secI d)) = true) → l.all (isW lo hi) = true := by
      intro l
      induction l with
      | nil => intro _ _; rfl
      | cons x r ih =>
        intro k h
        unfold enumFrom at h
        rw [List.all_cons, ih (k + 1) fun d hd => h d (List.mem_cons_of_mem _ hd), Bool.and_true]
        have := h _ List.mem_cons_self
        rw [show secI (.tuple [.int (k : Nat), x]) = x from rfl] at this
        cases hx : isW lo hi x with
        | true => rfl
        | false => rw [hx] at this; exact absurd rfl this
    exact (h ds 0 e).symm
  | some d =>
    have hm := List.mem_of_find?_eq_some e
    have hp := List.find?_some e
    obtain ⟨i, x, rfl, hx⟩ := enum_mem hm
    show false = _
    rw [show secI (.tuple [.int (i : Nat), x]) = x from rfl] at hp
    symm
    rw [List.all_eq_false]
    exact ⟨x, hx, by cases q : isW lo hi x with | true => rw [q] at hp; cases hp | false => decide⟩
def isRuleD : PyData → Bool
  | .tuple ds => leB 1 (ds.length : Int) && leB (ds.length : Int) 6 && ds.all (isW (-20) 20)
  | _ => false
theorem sumI_append : ∀ (a b : List Int), (a ++ b).sum = a.sum + b.sum
  | [], b => by simp
  | x :: r, b => by rw [List.cons_append, List.sum_cons, List.sum_cons, sumI_append r b]; omega
theorem sum_take {l : List Int} {k : Nat} {a : Int} (h : l[k]? = some a) : (l.take (k + 1)).sum = (l.take k).sum + a := by
  rw [List.take_add_one, h, sumI_append]
  simp
/-- weights on a sorted row -/
def idx (ws ns : List Int) : Int := (List.zipWith (· * ·) ws (sortI ns)).sum
def mulT : PyData → PyData
  | .tuple [.int a, .int b] => .int (a * b)
  | d => d
theorem zip_mul : ∀ (a b : List Int), (zipD (a.map .int) (b.map .int)).map mulT = (List.zipWith (· * ·) a b).map .int
  | [], _ => rfl
  | _ :: _, [] => rfl
  | x :: r, y :: q => by
    have := zip_mul r q
    unfold zipD at this ⊢
    rw [List.map_cons, List.map_cons, List.zipWith_cons_cons, List.zipWith_cons_cons, List.map_cons, List.map_cons, this]
    rfl
theorem zipD_mem : ∀ {a b : List Int} {d : PyData}, d ∈ zipD (a.map .int) (b.map .int) → ∃ x y, d = .tuple [.int x, .int y] ∧ x ∈ a ∧ y ∈ b
  | [], _, _, h => by unfold zipD at h; simp at h
  | _ :: _, [], _, h => by unfold zipD at h; simp at h
  | x :: r, y :: q, d, h => by
    unfold zipD at h
    rw [List.map_cons, List.map_cons, List.zipWith_cons_cons] at h
    rcases List.mem_cons.mp h with rfl | h
    · exact ⟨x, y, rfl, List.mem_cons_self, List.mem_cons_self⟩
    · obtain ⟨u, v, e, hu, hv⟩ := zipD_mem (a := r) (b := q) h
      exact ⟨u, v, e, List.mem_cons_of_mem _ hu, List.mem_cons_of_mem _ hv⟩
theorem atI_nat {α : Type} {l : List α} {k : Nat} {a : α} (h : l[k]? = some a) : atI l (k : Int) = some a := by
  have hk : k < l.length := (List.getElem?_eq_some_iff.mp h).1
  unfold atI ixN
  rw [if_pos (by omega), if_pos (by omega), Option.bind_some, Int.toNat_natCast]
  exact h
theorem atI_z {α : Type} {l : List α} {k : Int} {a : α} (h0 : 0 ≤ k) (h : l[k.toNat]? = some a) : atI l k = some a := by
  have := atI_nat h
  rw [Int.toNat_of_nonneg h0] at this
  exact this
theorem okRng_of {j : Int} (h0 : -1000000000 ≤ j) (h : j ≤ 1000000000) : okRng j = true := by
  unfold okRng
  exact decide_eq_true (by omega)
theorem rng1_of {j : Int} {n : Nat} (e : j = (n : Nat)) (h : n ≤ 1000000000) : rng1 [.pu (.int j)] = some (0, n) := by
  subst e
  have := okRng_of (j := (n : Nat)) (by omega) (by omega)
  show (if okRng (n : Nat) = true then some ((0 : Int), ((n : Nat) : Int).toNat) else none) = _
  rw [if_pos this, Int.toNat_natCast]
theorem rng2_of {i j : Int} (hi0 : -1000000000 ≤ i) (hi : i ≤ 1000000000) (hj0 : -1000000000 ≤ j) (hj : j ≤ 1000000000) : rng2 [.pu (.int i), .pu (.int j)] = some (i, (j - i).toNat) := by
  show (if (okRng i && okRng j) = true then some (i, (j - i).toNat) else none) = _
  rw [okRng_of hi0 hi, okRng_of hj0 hj]; rfl
def Nxt (h : Sg → Rs Sg Fl) (Q : Fl → Sg → Prop) (x : Fl) (g1 : Sg) : Prop := x = .nx ∧ Sat (h g1) Q
theorem sat_seq {f h : Sg → Rs Sg Fl} {g : Sg} {Q : Fl → Sg → Prop} (H : Sat (f g) (Nxt h Q)) : Sat (mSeqS f h g) Q := by
  obtain ⟨x, g1, e, rfl, y, g2, e2, q⟩ := H
  refine ⟨y, g2, ?_, q⟩
  unfold mSeqS
  rw [e]
  exact e2
theorem sat_nxt {h : Sg → Rs Sg Fl} {g : Sg} {Q : Fl → Sg → Prop} (H : Sat (h g) Q) : Sat (.ok .nx g) (Nxt h Q) := ⟨_, _, rfl, rfl, H⟩
end DL
set_option Elab.async false
set_option linter.all false
set_option maxRecDepth 100000
set_option maxHeartbeats 4000000
set_option autoImplicit false
namespace DL
open PySem PySem.Spec L2
open PyProof.Rows hiding St
theorem mLc_map {vs : List Nat} {fi : Sg → Rs Sg (List PyData)} {t : PyData → Sg → Option Sg} {elt : Sg → Rs Sg DV} {g : Sg} {ds : List PyData} (h : PyData → PyData) (hi : fi g = .ok ds g) (hl : ds.length ≤ bigN)
    (he : ∀ d ∈ ds, ∃ g1 g3, t d (g.wipe vs) = some g1 ∧ elt g1 = .ok (.pu (h d)) g3 ∧ g3.wipe vs = g.wipe vs) (hr : restR g.r vs (wipeR vs g.r) = g.r := by rfl) : mLc vs fi t mYes elt g = .ok (.pu (.list (ds.map h))) g := by
  rw [mLc_of hi (lc_map h ds [] (by rw [List.length_nil]; omega) he), List.nil_append]
  show Rs.ok _ (Sg.mk (restR g.r vs (wipeR vs g.r)) g.s) = _
  rw [hr]
theorem mLc_filter {vs : List Nat} {fi : Sg → Rs Sg (List PyData)} {t : PyData → Sg → Option Sg} {test : Sg → Rs Sg Bool} {elt : Sg → Rs Sg DV} {g : Sg} {ds : List PyData} (p : PyData → Bool) (h : PyData → PyData) (hi : fi g = .ok ds g) (hl : ds.length ≤ bigN)
    (he : ∀ d ∈ ds, ∃ g1 g2 g3, t d (g.wipe vs) = some g1 ∧ test g1 = .ok (p d) g2 ∧ g2.wipe vs = g.wipe vs ∧ (p d = true → elt g2 = .ok (.pu (h d)) g3 ∧ g3.wipe vs = g.wipe vs)) (hr : restR g.r vs (wipeR vs g.r) = g.r := by rfl) : mLc vs fi t test elt g = .ok (.pu (.list ((ds.filter p).map h))) g := by
  rw [mLc_of hi (lc_filter p h ds [] (by rw [List.length_nil]; omega) he), List.nil_append]
  show Rs.ok _ (Sg.mk (restR g.r vs (wipeR vs g.r)) g.s) = _
  rw [hr]
theorem cutL_map {α β : Type} (f : α → β) (xs : List α) (lo hi : Option Int) : cutL (xs.map f) lo hi = (cutL xs lo hi).map f := by
  unfold cutL
  rw [List.length_map, List.map_take, List.map_drop]
theorem sIx_nn {n d : Nat} {i : Int} (h0 : 0 ≤ i) (h : i ≤ n) : HT.sIx n d (some i) = i.toNat := by
  unfold HT.sIx
  first
    | (simp only []; split <;> omega)
    | (split <;> omega)
    | (rw [if_neg (by omega)]; omega)
theorem cutL_nn {α : Type} {xs : List α} {lo hi : Int} (h0 : 0 ≤ lo) (h1 : lo ≤ hi) (h2 : hi ≤ xs.length) : cutL xs (some lo) (some hi) = (xs.drop lo.toNat).take (hi.toNat - lo.toNat) := by
  unfold cutL
  rw [sIx_nn h0 (by omega), sIx_nn (by omega) h2]
theorem abs_sum {M : Nat} : ∀ {l : List Int}, (∀ x ∈ l, x.natAbs ≤ M) → l.sum.natAbs ≤ l.length * M
  | [], _ => by simp
  | x :: r, h => by
    have h1 := h x List.mem_cons_self
    have h2 := abs_sum (l := r) fun y hy => h y (List.mem_cons_of_mem _ hy)
    rw [List.sum_cons, List.length_cons, Nat.add_mul, Nat.one_mul]
    omega
theorem abs_mul {a b : Int} {m n : Nat} (h1 : a.natAbs ≤ m) (h2 : b.natAbs ≤ n) : (a * b).natAbs ≤ m * n := by
  rw [Int.natAbs_mul]
  exact Nat.mul_le_mul h1 h2
theorem sortI_mem {ns : List Int} {x : Int} : x ∈ sortI ns ↔ x ∈ ns := by
  unfold sortI
  exact (List.mergeSort_perm ns leI).mem_iff
theorem zipW_abs {m n : Nat} : ∀ {a b : List Int}, (∀ x ∈ a, x.natAbs ≤ m) → (∀ x ∈ b, x.natAbs ≤ n) → ∀ z ∈ List.zipWith (· * ·) a b, z.natAbs ≤ m * n
  | [], _, _, _, z, h => by cases h
  | _ :: _, [], _, _, z, h => by cases h
  | x :: a, y :: b, h1, h2, z, h => by
    rw [List.zipWith_cons_cons] at h
    rcases List.mem_cons.mp h with rfl | h
    · exact abs_mul (h1 x List.mem_cons_self) (h2 y List.mem_cons_self)
    · exact zipW_abs (fun u hu => h1 u (List.mem_cons_of_mem _ hu)) (fun u hu => h2 u (List.mem_cons_of_mem _ hu)) z h
theorem idx_abs {m n : Nat} {ws ns : List Int} (h1 : ∀ x ∈ ws, x.natAbs ≤ m) (h2 : ∀ x ∈ ns, x.natAbs ≤ n) : (idx ws ns).natAbs ≤ ws.length * (m * n) := by
  unfold idx
  refine Nat.le_trans (abs_sum (zipW_abs h1 fun x hx => h2 x (sortI_mem.mp hx))) ?_
  rw [List.length_zipWith]
  exact Nat.mul_le_mul_right _ (Nat.min_le_left _ _)
theorem getD_mem {l : List Int} {i : Nat} (h : i < l.length) : l.getD i 0 ∈ l := by
  rw [List.getD_eq_getElem?_getD, List.getElem?_eq_getElem h]
  exact List.getElem_mem h
theorem ix_row {R : List Int} {k : Int} (h0 : 0 ≤ k) (h : k < R.length) : dIx (.tuple (R.map .int)) (.int k) = some (.int (R.getD k.toNat 0)) := by
  refine atI_z (l := R.map PyData.int) h0 ?_
  have hk : k.toNat < R.length := by omega
  rw [List.getElem?_map, List.getElem?_eq_getElem hk, List.getD_eq_getElem?_getD, List.getElem?_eq_getElem hk]
  rfl
theorem big0 : (0 : Nat) ≤ bigN := by decide
theorem big1 : (1 : Nat) ≤ bigN := by decide
theorem big2 : (2 : Nat) ≤ bigN := by decide
theorem big3 : (3 : Nat) ≤ bigN := by decide
theorem big4 : (4 : Nat) ≤ bigN := by decide
theorem big5 : (5 : Nat) ≤ bigN := by decide
theorem big6 : (6 : Nat) ≤ bigN := by decide
theorem big7 : (7 : Nat) ≤ bigN := by decide
theorem big8 : (8 : Nat) ≤ bigN := by decide
theorem big9 : (9 : Nat) ≤ bigN := by decide
theorem big10 : (10 : Nat) ≤ bigN := by decide
theorem big11 : (11 : Nat) ≤ bigN := by decide
theorem big12 : (12 : Nat) ≤ bigN := by decide
theorem len0 {α : Type} : ([] : List α).length = 0 := rfl
theorem cst0 : ((0 : Nat) : Int) = 0 := rfl
theorem len1 {α : Type} {a : α} : ([a] : List α).length = 1 := rfl
theorem cst1 : ((1 : Nat) : Int) = 1 := rfl
theorem len2 {α : Type} {a b : α} : ([a, b] : List α).length = 2 := rfl
theorem cst2 : ((2 : Nat) : Int) = 2 := rfl
theorem len3 {α : Type} {a b c : α} : ([a, b, c] : List α).length = 3 := rfl
theorem cst3 : ((3 : Nat) : Int) = 3 := rfl
theorem len4 {α : Type} {a b c d : α} : ([a, b, c, d] : List α).length = 4 := rfl
theorem cst4 : ((4 : Nat) : Int) = 4 := rfl
theorem len5 {α : Type} {a b c d e : α} : ([a, b, c, d, e] : List α).length = 5 := rfl
theorem cst5 : ((5 : Nat) : Int) = 5 := rfl
theorem len6 {α : Type} {a b c d e f : α} : ([a, b, c, d, e, f] : List α).length = 6 := rfl
theorem cst6 : ((6 : Nat) : Int) = 6 := rfl
theorem len7 {α : Type} {a b c d e f g : α} : ([a, b, c, d, e, f, g] : List α).length = 7 := rfl
theorem cst7 : ((7 : Nat) : Int) = 7 := rfl
theorem len8 {α : Type} {a b c d e f g h : α} : ([a, b, c, d, e, f, g, h] : List α).length = 8 := rfl
theorem cst8 : ((8 : Nat) : Int) = 8 := rfl
theorem len9 {α : Type} {a b c d e f g h i : α} : ([a, b, c, d, e, f, g, h, i] : List α).length = 9 := rfl
theorem cst9 : ((9 : Nat) : Int) = 9 := rfl
theorem len10 {α : Type} {a b c d e f g h i j : α} : ([a, b, c, d, e, f, g, h, i, j] : List α).length = 10 := rfl
theorem cst10 : ((10 : Nat) : Int) = 10 := rfl
theorem len11 {α : Type} {a b c d e f g h i j k : α} : ([a, b, c, d, e, f, g, h, i, j, k] : List α).length = 11 := rfl
theorem cst11 : ((11 : Nat) : Int) = 11 := rfl
theorem len12 {α : Type} {a b c d e f g h i j k l : α} : ([a, b, c, d, e, f, g, h, i, j, k, l] : List α).length = 12 := rfl
theorem cst12 : ((12 : Nat) : Int) = 12 := rfl
end DL
set_option Elab.async false
set_option linter.all false
set_option maxRecDepth 100000
set_option maxHeartbeats 4000000
set_option autoImplicit false
namespace DL
open PySem PySem.Spec L2
open PyProof.Rows hiding St
section
variable {f fa fb fc : Sg → Rs Sg DV} {fs : Sg → Rs Sg (List DV)} {c d : Sg → Rs Sg Bool} {g g1 g2 g3 : Sg} {x y : DV} {xs : List DV} {b b1 b2 : Bool} {p q r : PyData} {l l1 l2 : List (Option DV)} {s s1 s2 : MS} {st st2 : Sg → Rs Sg Fl}
def OpR (h : PyData → PyData → Option PyData) (p q r : PyData) : Prop := h p q = some r
theorem op_h {h : PyData → PyData → Option PyData} (e : h p q = some r) : OpR h p q r := e
def BlR (h : List DV → Option PyData) (xs : List DV) (p : PyData) : Prop := h xs = some p
theorem bl_h {h : List DV → Option PyData} (e : h xs = some p) : BlR h xs p := e
def CtR (p : PyData) (lo hi : Option Int) (r : PyData) : Prop := dCut p lo hi = some r
theorem ct_h {lo hi : Option Int} (e : dCut p lo hi = some r) : CtR p lo hi r := e
def IsR (T : String) (p : PyData) (b : Bool) : Prop := isiT T p = b
theorem is_t {T : String} (e : isiT T p = true) : IsR T p true := e
theorem is_f {T : String} (e : isiT T p = false) : IsR T p false := e
theorem is_h {T : String} (e : isiT T p = b) : IsR T p b := e
def BeR (b b1 : Bool) : Prop := b = b1
theorem be_h (e : b = b1) : BeR b b1 := e
theorem be_t (e : b = true) : BeR b true := e
theorem be_f (e : b = false) : BeR b false := e
def SqR (x : DV) (ds : List PyData) : Prop := seqOf x = some ds
theorem sq_h {ds : List PyData} (e : seqOf x = some ds) : SqR x ds := e
def LnR (n : Nat) : Prop := n ≤ bigN
theorem ln_h {n : Nat} (e : n ≤ bigN) : LnR n := e
theorem ln_b {n : Nat} (e : Nat.ble n bigN = true) : LnR n := Nat.le_of_ble_eq_true e
def TgR (t : PyData → Sg → Option Sg) (p : PyData) (g g1 : Sg) : Prop := t p g = some g1
theorem tg_h {t : PyData → Sg → Option Sg} (e : t p g = some g1) : TgR t p g g1 := e
theorem own_at {l : List (Option DV)} {i : Nat} {v : Option (Option DV)} (h : l[i]? = v) : l[i]? = v := h
theorem set_r {l l' : List (Option DV)} {i : Nat} {v : Option DV} (h : l.set i v = l') : l.set i v = l' := h
theorem set_z {α : Type} {a x : α} {l : List α} : (a :: l).set 0 x = x :: l := rfl
theorem set_s {α : Type} {a x : α} {l l' : List α} {i : Nat} (h : l.set i x = l') : (a :: l).set (i + 1) x = a :: l' := by rw [← h]; rfl
theorem e_var {i : Nat} {u : DV} (h : g.r[i]? = some (some u)) (hn : isOwnV u = false) : mVar i g = .ok u g := by
  unfold mVar
  rw [h]
  cases u <;> first | rfl | cases hn
theorem e_c : mC p g = .ok (.pu p) g := rfl
theorem e_nil : mNil g = .ok [] g := rfl
theorem e_cons (e : fa g = .ok x g1) (e2 : fs g1 = .ok xs g2) : mCons fa fs g = .ok (x :: xs) g2 := by
  unfold mCons
  rw [e]
  show (fs g1).bind _ = _
  rw [e2]
  rfl
theorem e_star {ds : List PyData} (e : fa g = .ok x g1) (h : SqR x ds) (e2 : fs g1 = .ok xs g2) : mStar fa fs g = .ok (ds.map .pu ++ xs) g2 := by
  have h : seqOf x = some ds := h
  simp only [mStar, e, Rs.bind_ok, h, e2]
theorem e_bin {h : PyData → PyData → Option PyData} (ea : fa g = .ok (.pu p) g1) (eb : fb g1 = .ok (.pu q) g2) (er : OpR h p q r) : mBin h fa fb g = .ok (.pu r) g2 := by
  unfold mBin
  rw [ea]
  show (fb g1).bind _ = _
  rw [eb]
  show Rs.of ((h p q).map DV.pu) g2 = _
  rw [er]
  rfl
def callK (l : List (Option DV)) : Rs MS DV → Rs Sg DV
  | .ok y s => .ok y ⟨l, s⟩
  | .ex k p s => .ex k p ⟨l, s⟩
  | .no => .no
theorem e_call {fn : List DV → MS → Rs MS DV} {r1 : Rs MS DV} {r : Rs Sg DV} (e : fs g = .ok xs ⟨l, s⟩) (ef : fn xs s = r1) (h : callK l r1 = r) : mCallF fn fs g = r := by
  subst h
  unfold mCallF
  rw [e, ← ef]
  show (match fn xs s with | .ok d s => Rs.ok d (Sg.mk l s) | .ex c p s => .ex c p (Sg.mk l s) | .no => .no) = _
  cases fn xs s <;> rfl
theorem ck_ok : callK l (.ok y s) = .ok y ⟨l, s⟩ := rfl
theorem ck_ex {k : Nat} : callK l (.ex k p s) = .ex k p ⟨l, s⟩ := rfl
theorem e_callB {h : List DV → Option PyData} (e : fs g = .ok xs g1) (eh : BlR h xs p) : mCallB h fs g = .ok (.pu p) g1 := by
  unfold mCallB
  rw [e]
  show Rs.of ((h xs).map DV.pu) g1 = _
  rw [eh]
  rfl
theorem e_seq {mk : List PyData → PyData} {ps : List PyData} (e : fs g = .ok xs g1) (h : allP xs = some ps) (hl : LnR ps.length) : mSeq mk fs g = .ok (.pu (mk ps)) g1 := by
  unfold mSeq
  rw [e]
  show (match allP xs with | some ps => if ps.length ≤ bigN then Rs.ok (DV.pu (mk ps)) g1 else .no | none => .no) = _
  rw [h]
  exact if_pos hl
theorem allP_z : allP [] = some [] := rfl
theorem allP_s {ps : List PyData} (h : allP xs = some ps) : allP (.pu p :: xs) = some (p :: ps) := by
  show (allP xs).map (p :: ·) = _
  rw [h]
  rfl
theorem e_part {i : Int} (e : f g = .ok (.pu (.int i)) g1) : mPart f g = .ok (some i) g1 := by
  unfold mPart
  rw [e]
  rfl
theorem e_nopart : mNoPart g = .ok none g := rfl
theorem e_cut {fl fh : Sg → Rs Sg (Option Int)} {lo hi : Option Int} (e : f g = .ok (.pu p) g1) (el : fl g1 = .ok lo g2) (eh : fh g2 = .ok hi g3) (er : CtR p lo hi r) : mCut f fl fh g = .ok (.pu r) g3 := by
  unfold mCut
  rw [e]
  show (fl g1).bind _ = _
  rw [el]
  show (fh g2).bind _ = _
  rw [eh]
  show Rs.of ((dCut p lo hi).map DV.pu) g3 = _
  rw [er]
  rfl
theorem e_rev {ds : List PyData} (e : f g = .ok (.pu (.tuple ds)) g1) : mRevL f g = .ok (.pu (.tuple ds.reverse)) g1 := by
  unfold mRevL
  rw [e]
  rfl
theorem e_revL {ds : List PyData} (e : f g = .ok (.pu (.list ds)) g1) : mRevL f g = .ok (.pu (.list ds.reverse)) g1 := by
  unfold mRevL
  rw [e]
  rfl
theorem e_neg {i : Int} (e : f g = .ok (.pu (.int i)) g1) : mNeg f g = .ok (.pu (.int (-i))) g1 := by
  unfold mNeg
  rw [e]
  rfl
theorem e_isi {T : String} (e : f g = .ok (.pu p) g1) (hd : isDct p = false) (hb : IsR T p b) : mIsi T f g = .ok (.pu (.bool b)) g1 := by
  unfold mIsi
  rw [e, ← hb]
  show (if isDct p = true then Rs.no else _) = _
  rw [hd]
  rfl
theorem e_test (e : f g = .ok (.pu (.bool b)) g1) (hb : BeR b b1) : mTest f g = .ok b1 g1 := by
  cases hb
  unfold mTest
  rw [e]
  rfl
theorem e_notB (e : c g = .ok b g1) (hb : BeR (!b) b1) : mNotB c g = .ok b1 g1 := by
  cases hb
  unfold mNotB
  rw [e]
  rfl
theorem e_notV (e : f g = .ok (.pu (.bool b)) g1) (hb : BeR (!b) b1) : mNotV f g = .ok (.pu (.bool b1)) g1 := by
  cases hb
  unfold mNotV
  rw [e]
  rfl
theorem not_t : (!true) = false := rfl
theorem not_f : (!false) = true := rfl
theorem iteB_t {α : Type} {a b r : α} (h : a = r) : (if true = true then a else b) = r := h
theorem iteB_f {α : Type} {a b r : α} (h : b = r) : (if false = true then a else b) = r := h
theorem e_if {α : Type} {p q : Sg → Rs Sg α} {r : Rs Sg α} (e : c g = .ok b g1) (h : (if b = true then p g1 else q g1) = r) : mIf c p q g = r := by
  unfold mIf
  rw [e]
  exact h
theorem e_orB {r : Rs Sg Bool} (e : c g = .ok b g1) (h : (if b = true then .ok true g1 else d g1) = r) : mOrB c d g = r := by
  unfold mOrB
  rw [e]
  exact h
theorem e_andB {r : Rs Sg Bool} (e : c g = .ok b g1) (h : (if b = true then d g1 else .ok false g1) = r) : mAndB c d g = r := by
  unfold mAndB
  rw [e]
  exact h
theorem e_andV {r : Rs Sg DV} (e : fa g = .ok (.pu (.bool b)) g1) (hb : BeR b b1) (h : (if b1 = true then fb g1 else .ok (.pu (.bool false)) g1) = r) : mAndV fa fb g = r := by
  cases hb
  unfold mAndV
  rw [e]
  exact h
theorem e_orV {r : Rs Sg DV} (e : fa g = .ok (.pu (.bool b)) g1) (hb : BeR b b1) (h : (if b1 = true then .ok (.pu (.bool true)) g1 else fb g1) = r) : mOrV fa fb g = r := by
  cases hb
  unfold mOrV
  rw [e]
  exact h
theorem e_chain {h h' : PyData → PyData → Option PyData} {rr : Rs Sg DV} (ea : fa g = .ok (.pu p) g1) (eb : fb g1 = .ok (.pu q) g2) (er : OpR h p q (.bool b)) (hb : BeR b b1) (k : (if b1 = true then (mBin (fun _ z => h' q z) (mC q) fc) g2 else .ok (.pu (.bool false)) g2) = rr) : mChain h h' fa fb fc g = rr := by
  cases hb
  subst k
  unfold mChain
  rw [ea]
  show (fb g1).bind _ = _
  rw [eb]
  show (Rs.of ((h p q).bind fun d => asB (.pu d)) g2).bind _ = _
  rw [er]
  show (if b = true then _ else _) = _
  cases b with
  | true =>
    show (fc g2).bind _ = (fc g2).bind _
    congr 1
    funext z g4
    cases z <;> rfl
  | false => rfl
theorem e_chainI {i j k : Int} (ea : fa g = .ok (.pu (.int i)) g) (eb : fb g = .ok (.pu (.int j)) g) (ec : fc g = .ok (.pu (.int k)) g) : mChain dLe dLe fa fb fc g = .ok (.pu (.bool (leB i j && leB j k))) g := by
  unfold mChain
  simp only [ea, eb, Rs.bind_ok, dLe, Option.bind_some, asB, Rs.of_some]
  cases leB i j with
  | true => simp only [if_true, ec, Rs.bind_ok, Option.map_some, Rs.of_some, Bool.true_and]
  | false => rfl
def retK : Rs Sg DV → Rs Sg Fl
  | .ok x g => .ok (.rt x) g
  | .ex k p g => .ex k p g
  | .no => .no
theorem e_ret {r1 : Rs Sg DV} {r : Rs Sg Fl} (e : f g = r1) (h : retK r1 = r) : mRet f g = r := by
  subst h
  subst e
  unfold mRet
  cases f g <;> rfl
theorem rk_ok : retK (.ok x g) = .ok (.rt x) g := rfl
theorem rk_ex {k : Nat} : retK (.ex k p g) = .ex k p g := rfl
def dropK : Rs Sg DV → Rs Sg Fl
  | .ok _ g => .ok .nx g
  | .ex k p g => .ex k p g
  | .no => .no
theorem e_drop {r1 : Rs Sg DV} {r : Rs Sg Fl} (e : f g = r1) (h : dropK r1 = r) : mDrop f g = r := by
  subst h
  subst e
  unfold mDrop
  cases f g <;> rfl
theorem dk_ok : dropK (.ok x g) = .ok .nx g := rfl
theorem dk_ex {k : Nat} : dropK (.ex k p g) = .ex k p g := rfl
def setK (i : Nat) : Rs Sg DV → Rs Sg Fl
  | .ok x g => .ok .nx (g.put i x)
  | .ex k p g => .ex k p g
  | .no => .no
theorem e_mset {i : Nat} {r1 : Rs Sg DV} {r : Rs Sg Fl} (e : f g = r1) (h : setK i r1 = r) : mSet i f g = r := by
  subst h
  subst e
  unfold mSet
  cases f g <;> rfl
theorem tk_ok {i : Nat} (h : l.set i (some x) = l1) : setK i (.ok x ⟨l, s⟩) = .ok .nx ⟨l1, s⟩ := by
  subst h
  rfl
theorem tk_ex {i k : Nat} : setK i (.ex k p g) = .ex k p g := rfl
theorem e_newL {i : Nat} {ps : List PyData} (e : fs g = .ok xs ⟨l, s⟩) (h : allP xs = some ps) (hl : LnR ps.length) (hs : l.set i (some (.own ps)) = l1) : mNewL i fs g = .ok .nx ⟨l1, s⟩ := by
  subst hs
  have hl : ps.length ≤ bigN := hl
  simp only [mNewL, e, Rs.bind_ok, h, hl, if_true]
  rfl
theorem e_varO {i : Nat} {ds : List PyData} (h : l[i]? = some (some (.own ds))) (hs : l.set i (some (.pu (.list ds))) = l1) : mVar i ⟨l, s⟩ = .ok (.pu (.list ds)) ⟨l1, s⟩ := by
  subst hs
  unfold mVar
  simp only [h]
theorem e_ixN {i : Nat} {ds : List PyData} {k : Int} (hx : g.r[i]? = some (some (.own ds))) (e : f g = .ok (.pu (.int k)) g) (h : atI ds k = some p) : mIxN i f g = .ok (.pu p) g := by
  have hd : isDic g i = false := by unfold isDic; rw [hx]
  have ho : isOwn g i = true := by unfold isOwn; rw [hx]
  unfold mIxN
  rw [hd, ho]
  simp only [Bool.false_eq_true, if_false, if_true, e, Rs.bind_ok, hx, h, Option.map_some, Rs.of_some]
theorem e_new {i : Nat} (h : l.set i (some (.own [])) = l1) : mNew i ⟨l, s⟩ = .ok .nx ⟨l1, s⟩ := by
  subst h
  rfl
theorem e_newD {i : Nat} (h : l.set i (some (.dic [])) = l1) : mNewD i ⟨l, s⟩ = .ok .nx ⟨l1, s⟩ := by
  subst h
  rfl
theorem e_raise {k : Nat} (e : f g = .ok (.pu p) g1) : mRaise k f g = .ex k p g1 := by
  unfold mRaise
  rw [e]
  rfl
theorem e_par2 {i j : Nat} (e : fs g = .ok [x, y] ⟨l, s⟩) (h : l.set i (some x) = l1) (h2 : l1.set j (some y) = l2) : mPar2 i j fs g = .ok .nx ⟨l2, s⟩ := by
  subst h
  subst h2
  unfold mPar2
  rw [e]
  rfl
theorem e_app {i : Nat} {ds : List PyData} (ho : isOwn g i = true) (e : f g = .ok (.pu p) ⟨l, s⟩) (hi : l[i]? = some (some (.own ds))) (hl : LnR (ds.length + 1)) (h : l.set i (some (.own (ds ++ [p]))) = l1) : mApp i f g = .ok .nx ⟨l1, s⟩ := by
  subst h
  have hl : ds.length < bigN := hl
  simp only [mApp, ho, if_true, e, Rs.bind_ok, hi, hl]
  rfl
theorem e_aug {i : Nat} {h : PyData → PyData → Option PyData} (hi : g.r[i]? = some (some (.pu p))) (e : f g = .ok (.pu q) ⟨l, s⟩) (er : OpR h p q r) (hs : l.set i (some (.pu r)) = l1) : mAug i h f g = .ok .nx ⟨l1, s⟩ := by
  subst hs
  unfold mAug
  rw [hi]
  show (f g).bind _ = _
  rw [e]
  have er : h p q = some r := er
  simp only [Rs.bind_ok, er, Rs.of_some]
  rfl
theorem e_asg {t : PyData → Sg → Option Sg} (e : f g = .ok (.pu p) g1) (h : TgR t p g1 g2) : mAsg f t g = .ok .nx g2 := by
  unfold mAsg
  rw [e]
  show (Rs.of (t p g1) g1).bind _ = _
  rw [h]
  rfl
theorem e_gtName {i : Nat} (h : l.set i (some (.pu p)) = l1) : gtName i p ⟨l, s⟩ = some ⟨l1, s⟩ := by
  subst h
  rfl
theorem e_gtTup {n : Nat} {t : List PyData → Sg → Option Sg} {ds : List PyData} (hl : ds.length = n) (h : t ds g = some g1) : gtTup n t (.tuple ds) g = some g1 := by
  show (if ds.length = n then t ds g else none) = _
  rw [if_pos hl]
  exact h
theorem e_gtCons {t : PyData → Sg → Option Sg} {t2 : List PyData → Sg → Option Sg} {ds : List PyData} (h : t p g = some g1) (h2 : t2 ds g1 = some g2) : gtCons t t2 (p :: ds) g = some g2 := by
  show (t p g).bind (fun g1 => t2 ds g1) = _
  rw [h]
  exact h2
theorem e_gtNil : gtNil [] g = some g := rfl
theorem ok_r {α : Type} {a : α} : (Rs.ok a g : Rs Sg α) = .ok a g := rfl
theorem ex_r {α : Type} {k : Nat} : (Rs.ex k p g : Rs Sg α) = .ex k p g := rfl
theorem e_nx : (fun g : Sg => (Rs.ok Fl.nx g : Rs Sg Fl)) g = .ok .nx g := rfl
def seqK (h : Sg → Rs Sg Fl) : Rs Sg Fl → Rs Sg Fl
  | .ok .nx g => h g
  | r => r
theorem e_seqS {r1 r : Rs Sg Fl} (e : st g = r1) (h : seqK st2 r1 = r) : mSeqS st st2 g = r := by
  subst e
  subst h
  unfold mSeqS
  cases q : st g with
  | ok x g1 => cases x <;> rfl
  | ex _ _ _ => rfl
  | no => rfl
theorem sk_nx {r : Rs Sg Fl} (h : st g = r) : seqK st (.ok .nx g) = r := h
theorem sk_rt : seqK st (.ok (.rt x) g) = .ok (.rt x) g := rfl
theorem sk_ct : seqK st (.ok .ct g) = .ok .ct g := rfl
theorem sk_bk : seqK st (.ok .bk g) = .ok .bk g := rfl
theorem sk_ex {k : Nat} : seqK st (.ex k p g) = .ex k p g := rfl
theorem wipe_z : wipeR [] l = l := rfl
theorem wipe_s {v : Nat} {vs : List Nat} (h : wipeR vs l = l1) (h2 : l1.set v none = l2) : wipeR (v :: vs) l = l2 := by
  subst h
  exact h2
theorem e_seqI {ds : List PyData} (e : f g = .ok x g1) (h : SqR x ds) : mSeqI f g = .ok ds g1 := by
  unfold mSeqI
  rw [e]
  cases x with
  | pu d =>
    cases d with
    | dict _ => cases h
    | _ => exact (by rw [h]; rfl : Rs.of (seqOf _) g1 = Rs.ok ds g1)
  | _ => exact (by rw [h]; rfl : Rs.of (seqOf _) g1 = Rs.ok ds g1)
theorem e_rng1 {a : Int} {n : Nat} (e : fs g = .ok xs g1) (h : rng1 xs = some (a, n)) : mRange1 fs g = .ok (rangeD a n) g1 := by
  unfold mRange1
  rw [e]
  show Rs.of ((rng1 xs).map _) g1 = _
  rw [h]
  rfl
theorem e_rng2 {a : Int} {n : Nat} (e : fs g = .ok xs g1) (h : rng2 xs = some (a, n)) : mRange2 fs g = .ok (rangeD a n) g1 := by
  unfold mRange2
  rw [e]
  show Rs.of ((rng2 xs).map _) g1 = _
  rw [h]
  rfl
theorem e_enum {ds : List PyData} (e : f g = .ok x g1) (h : SqR x ds) : mEnum f g = .ok (enumFrom 0 ds) g1 := by
  unfold mEnum
  rw [e]
  show Rs.of ((seqOf x).map _) g1 = _
  rw [h]
  rfl
theorem e_zip {ds : List PyData} (e : fs g = .ok xs g1) (h : zip2 xs = some ds) : mZip fs g = .ok ds g1 := by
  unfold mZip
  rw [e]
  show Rs.of (zip2 xs) g1 = _
  rw [h]
  rfl
theorem for_cons {t : PyData → Sg → Option Sg} {body : Sg → Rs Sg Fl} {u : PyData} {ds : List PyData} {rr : Rs Sg Fl} (h : t u g = some g1) (e : body g1 = .ok .nx g2) (ih : mForL t body ds g2 = rr) : mForL t body (u :: ds) g = rr := by
  unfold mForL
  rw [h]
  show (match body g1 with
    | .ok .nx g2 => mForL t body ds g2
    | .ok .ct g2 => mForL t body ds g2
    | .ok .bk g2 => .ok .nx g2
    | .ok (.rt d) g2 => .ok (.rt d) g2
    | .ex c p g2 => .ex c p g2
    | .no => .no) = _
  rw [e]
  exact ih
theorem e_for {fi : Sg → Rs Sg (List PyData)} {t : PyData → Sg → Option Sg} {body : Sg → Rs Sg Fl} {ds : List PyData} {rr : Rs Sg Fl} (hi : fi g = .ok ds g1) (h : mForL t body ds g1 = rr) : mFor fi t body g = rr := by
  unfold mFor
  rw [hi]
  exact h
/-- a function's body, step by step -/
theorem fn_run {np n : Nat} {bd : Sg → Rs Sg Fl} {ds : List DV} (hl : ds.length = np) (e : bd ⟨startD n ds, s⟩ = .ok (.rt y) ⟨l, s2⟩) : fnB np n bd ds s = .ok y s2 := fnB_ok hl e
theorem fn_runX {np n : Nat} {bd : Sg → Rs Sg Fl} {ds : List DV} {k : Nat} (hl : ds.length = np) (e : bd ⟨startD n ds, s⟩ = .ex k p ⟨l, s2⟩) : fnB np n bd ds s = .ex k p s2 := by
  unfold fnB
  rw [if_pos hl, e]
  rfl
theorem sat_step {Q : Fl → Sg → Prop} (e : st g = .ok .nx g1) (h : Sat (st2 g1) Q) : Sat (mSeqS st st2 g) Q := by
  obtain ⟨x, g2, e2, q⟩ := h
  refine ⟨x, g2, ?_, q⟩
  unfold mSeqS
  rw [e]
  exact e2
end
end DL
set_option Elab.async false
set_option linter.all false
set_option maxRecDepth 100000
set_option maxHeartbeats 4000000
set_option autoImplicit false
namespace DL
open PySem PySem.Spec L2
open PyProof.Rows hiding St
def filN : PyData → Option Nat
  | .dict [(.int j, .bool true), (.int _, .int c)] => if j = xMark then some c.toNat else none
  | _ => none
theorem filN_D (i : Nat) : filN (fileD i) = some i := by
  show (if xMark = xMark then some (Int.toNat (i : Int)) else none) = some i
  rw [if_pos rfl, Int.toNat_natCast]
abbrev fC (K : PySem.W.Frag) : Addr := He.ga K "File"
def fldsF (vb vr : V) : List (Str × V) := [("own_bill", vb), ("own_row", vr)]
/-- what the class is -/
structure FilK (K : PySem.W.Frag) : Prop where
  cls : Cls K (fC K)
  nb : NoAttr K (fC K) "own_bill"
  nr : NoAttr K (fC K) "own_row"
section
variable {K : PySem.W.Frag} {et : ET} {F : Hp} {v : V} {d : PyData} {i : Nat}
theorem Dn.ofF (h : Dn K et F v d) (q : filN d = some i) : ∃ a dx, v = .ref a ∧ F a = some (LkO K dx i) := by
  have key : ∀ (j c e : Int), filN (.dict [(.int j, .bool true), (.int e, .int c)]) = some i → j = xMark := fun j c e q => by
    have q : (if j = xMark then some c.toNat else none) = some i := q
    by_cases z : j = xMark
    · exact z
    · rw [if_neg z] at q; cases q
  cases h with
  | non => cases q
  | bl b => cases q
  | int i => cases q
  | str x => cases q
  | lst a b => cases q
  | tup a b => cases q
  | dcx a kv =>
    cases kv with
    | nil => cases q
    | cons hk hd hb hv hr =>
      cases hb with
      | lst _ _ => cases q
      | tup _ _ => cases q
      | dcx _ _ => cases q
      | dck _ _ _ => cases q
      | err _ _ _ => cases q
      | er0 _ => cases q
      | fil _ => cases q
  | dck n a kk =>
    cases kk with
    | nil => cases q
    | str hv hr => cases q
    | int ni hv hr =>
      cases hv with
      | bl b =>
        cases b with
        | false => cases q
        | true =>
          cases hr with
          | nil => cases q
          | str _ _ => cases q
          | int n2 hv2 hr2 =>
            cases hr2 with
            | nil =>
              cases hv2 with
              | int c => exact absurd (key _ _ _ q) ni
              | non => cases q
              | bl _ => cases q
              | str _ => cases q
              | lst _ _ => cases q
              | tup _ _ => cases q
              | dcx _ _ => cases q
              | dck _ _ _ => cases q
              | err _ _ _ => cases q
              | er0 _ => cases q
              | fil _ => cases q
            | int _ _ _ => cases hv2 <;> cases q
            | str _ _ => cases hv2 <;> cases q
      | int i => cases q
      | non => cases q
      | str x => cases q
      | lst a b => cases q
      | tup a b => cases q
      | dcx _ _ => cases q
      | dck _ _ _ => cases q
      | err _ _ _ => cases q
      | er0 _ => cases q
      | fil _ => cases q
  | err a b hp => cases hp <;> cases q
  | er0 a => cases q
  | @fil a dx j e =>
    have q : (if xMark = xMark then some (Int.toNat (j : Int)) else none) = some i := q
    rw [if_pos rfl, Int.toNat_natCast] at q
    cases q
    exact ⟨a, dx, rfl, e⟩
end
section
variable {X : Cx} {pins : List (Addr × Obj)} {σ : L2.St} {H : Hp} {s : Shared} {a dx : Addr} {i : Nat} {vb vr : V} {A : Around} {E : Value → Shared → Prop} {f : Str}
theorem fil_obj (I : Inv X pins σ H s) (ea : H a = some (LkO X.K dx i)) (ed : H dx = some (.xd (fldsF vb vr))) : ∃ mA, ObjM s.heap a dx (fC X.K) mA ∧ ∀ f, RelO ((fldsF vb vr).lookup f) (mA f) := by
  obtain ⟨ob, _⟩ := (show ObjOk X.prog X.w H s.heap a (.frz (PySem.W.instObj (fC X.K) dx) (.own i)) from I.hok a _ ea)
  obtain ⟨mA, n, r⟩ := (show ObjOk X.prog X.w H s.heap dx (.xd (fldsF vb vr)) from I.hok dx _ ed)
  exact ⟨mA, ⟨ob, n, fun z => by rw [z, ea] at ed; unfold LkO at ed; cases ed⟩, r⟩
theorem fgetattr {b : Bool} {v : V} {Q : Value → Shared → Prop} (I : Inv X pins σ H s) (ea : H a = some (LkO X.K dx i)) (ed : H dx = some (.xd (fldsF vb vr))) (c : Cls X.K (fC X.K)) (n : NoAttr X.K (fC X.K) f) (l : (fldsF vb vr).lookup f = some v)
    (h : ∀ u s', Inv X pins σ H s' → RelV v u → Q u s') : wpAny (model X.prog X.w) A (getAttr (.ref a) f b) Q E s := by
  obtain ⟨mA, O, r⟩ := fil_obj I ea ed
  obtain ⟨u, hu, ru⟩ := RelO.some_of (v := v) (o := mA f) (by rw [← l]; exact r f)
  exact get_map I.kIn O (c.get f) c.hd n hu (handed_of ru) (h u _ (I.tok _) ru)
theorem fgetmeth {m : Str} {g : Addr} {pl : Sem Bool} {Q : Value × List Value → Shared → Prop} (I : Inv X pins σ H s) (ea : H a = some (LkO X.K dx i)) (ed : H dx = some (.xd (fldsF vb vr))) (c : Cls X.K (fC X.K)) (k : Meth X.K (fC X.K) m g) (l : (fldsF vb vr).lookup m = none)
    (h : Q (.ref g, [.ref a]) s) : wpAny (model X.prog X.w) A (getMethod (.ref a) m pl) Q E s := by
  obtain ⟨mA, O, r⟩ := fil_obj I ea ed
  have hn : mA m = none := RelO.none_of (by rw [← l]; exact r m)
  exact get_meth I.kIn O (c.get m) k.at_ k.fn hn h
theorem inv_writeX {x : Addr} {fs fs' : List (Str × V)} {h' : Heap} {t' : Nat} (I : Inv X pins σ H s) (hx : H x = some (.xd fs)) (k : ∀ b u, b ≠ x → s.heap.get? b = some u → h'.get? b = some u) (heo : ∃ u, h'.get? x = some u)
    (new : ObjOk X.prog X.w (upd H x (.xd fs')) h' x (.xd fs')) : Inv X pins σ (upd H x (.xd fs')) { s with heap := h', toks := t' } := by
  have nx : ∀ b, H b = none → b ≠ x := fun b n z => by subst z; rw [n] at hx; cases hx
  refine I.un ⟨fun b u q n _ _ => k b u (nx b n) q, fun b u q n _ _ => ⟨u.slots, k b u (nx b n) q⟩, fun b u q n _ => by rw [upd_ne (nx b n)]; exact n, fun b u q _ => ?_, fun b xs q => ?_, fun b o u q => ?_, fun b ps q => ⟨#[], ?_⟩⟩ fun b u q => ?_
  · by_cases hb : b = x
    · subst hb; exact heo
    · exact ⟨u, k b u hb q⟩
  · rw [upd_ne (fun z => by rw [z, hx] at q; cases q)]; exact q
  · rw [upd_ne (fun z => by rw [z, hx] at q; cases q)]; exact q
  · rw [upd_ne (fun z => by rw [z, hx] at q; cases q), q]; simp
  · by_cases hb : b = x
    · subst hb; rw [upd_same] at q; cases q; exact new
    · rw [upd_ne hb] at q
      refine (I.hok b u q).stay (fun c v hc r => k c v ?_ r) (fun c r => by rw [upd_ne (fun z => by rw [z, hx] at r; cases r)]; exact r) fun c xs r => by rw [upd_ne (fun z => by rw [z, hx] at r; cases r)]; exact r
      rcases hc with rfl | hc
      · exact hb
      · intro z; rw [z, hx] at hc; cases hc
theorem fsetrow {y : V} {u : Value} {Q : Unit → Shared → Prop} (I : Inv X pins σ H s) (ea : H a = some (LkO X.K dx i)) (ed : H dx = some (.xd (fldsF vb vr))) (c : FilK X.K) (ry : RelV y u)
    (h : ∀ s', Inv X pins σ (upd H dx (.xd (fldsF vb y))) s' → Q () s') : wpAny (model X.prog X.w) A (setAttr (.ref a) "own_row" u) Q E s := by
  obtain ⟨mA, O, r⟩ := fil_obj I ea ed
  have wi : PySem.Within mA ((fldsF vb vr).map (·.1)) := fun g hg => by
    have rg := r g
    cases z : (fldsF vb vr).lookup g with
    | none =>
      rw [z] at rg
      exact absurd (RelO.none_of rg) hg
    | some w => exact List.mem_map.mpr ⟨(g, w), PySem.mem_of_lookup z, rfl⟩
  refine set_map I.kIn O c.cls.sa c.cls.po c.nr.taker c.cls.hd wi (show (2 : Nat) ≤ sizeLine by rw [sizeLine_eq]; decide) fun h' O' sb => h _ ?_
  have hd : ∃ o, h'.get? dx = some o := let ⟨o, _, _, e', _⟩ := O'.ns; ⟨o, e'⟩
  refine inv_writeX I ed (fun b q hb z => (sb.2 b hb).trans z) hd ⟨_, O'.ns, fun g => ?_⟩
  show RelO ((fldsF vb y).lookup g) (if g = "own_row" then some u else mA g)
  have hl : (fldsF vb y).lookup g = if g = ("own_row" : Str) then some y else (fldsF vb vr).lookup g := by
    by_cases q : g = ("own_row" : Str)
    · rw [if_pos q, q]; rfl
    · rw [if_neg q]
      unfold fldsF
      have nq : (g == ("own_row" : Str)) = false := beq_eq_false_iff_ne.mpr q
      simp only [List.lookup_cons, nq]
  rw [hl]
  by_cases q : g = ("own_row" : Str)
  · rw [if_pos q, if_pos q]; exact ry
  · rw [if_neg q, if_neg q]; exact r g
end
end DL
set_option Elab.async false
set_option linter.all false
set_option maxRecDepth 100000
set_option maxHeartbeats 4000000
set_option autoImplicit false
namespace DL
open PySem PySem.Spec L2
open PyProof.Rows hiding St
def filV (g : Sg) : DV → Option (Nat × PyData × PyData)
  | .pu x => (filN x).bind fun i => (g.s.files[i]?).map fun p => (i, p.1, p.2)
  | _ => none
theorem filV_of {g : Sg} {d : DV} {i : Nat} {b r : PyData} (h : filV g d = some (i, b, r)) : ∃ x, d = .pu x ∧ filN x = some i ∧ g.s.files[i]? = some (b, r) := by
  unfold filV at h
  split at h
  · rename_i x
    cases q : filN x with
    | none => rw [q] at h; cases h
    | some j =>
      rw [q] at h
      cases q2 : g.s.files[j]? with
      | none =>
        have h : (g.s.files[j]?).map (fun p => (j, p.1, p.2)) = some (i, b, r) := h
        rw [q2] at h; cases h
      | some p =>
        have h : (g.s.files[j]?).map (fun p => (j, p.1, p.2)) = some (i, b, r) := h
        rw [q2] at h
        cases h
        exact ⟨x, rfl, q, q2⟩
  · cases h
section
variable {K : PySem.W.Frag} {et : ET} {am : Addr} {B F H : Hp} {g : Sg} {σ : L2.St} {v : V} {d : DV} {i : Nat} {b r : PyData}
theorem RepF.fil (R : RepF K et am B F g σ H) (dn : DenP K et am F v d) (h : filV g d = some (i, b, r)) :
    ∃ a dx vb vr, v = .ref a ∧ F a = some (LkO K dx i) ∧ H a = some (LkO K dx i) ∧ F dx = none ∧ H dx = some (.xd (fldsF vb vr)) ∧ Dn K et F vb b ∧ Dn K et F vr r ∧ b.canLay0 = true ∧ r.canLay0 = true := by
  obtain ⟨x, rfl, q, q2⟩ := filV_of h
  obtain ⟨a, dx, ev, ea⟩ := Dn.ofF dn q
  obtain ⟨ac, _, _, fr⟩ := R.ms
  obtain ⟨b', r', vb, vr, ⟨e1, l1, l2⟩, e2, e3, e4, e5⟩ := fr.at_ a dx i ea
  rw [q2] at e1
  cases e1
  exact ⟨a, dx, vb, vr, ev, ea, R.sub _ _ ea, e2, e3, e4, e5, l1, l2⟩
theorem own_nx {a : Addr} {u : HO} (h : OwnO a u) : ∀ fs, u ≠ .xd fs := fun fs z => by
  rcases h with ⟨vs, e⟩ | ⟨hs, es, e⟩ | ⟨kvs, e⟩
  · rw [e] at z; cases z
  · rw [e] at z; unfold NDo at z; cases z
  · rw [e] at z; cases z
/-- a file's row is another one -/
theorem RepF.setF (R : RepF K et am B F g σ H) {a dx : Addr} {vb vr v' : V} {r' : PyData} (ea : F a = some (LkO K dx i)) (fd : F dx = none) (hd : H dx = some (.xd (fldsF vb vr))) (hf : g.s.files[i]? = some (b, r)) (d1 : Dn K et F vb b) (lb : b.canLay0 = true) (d2 : Dn K et F v' r') (lr : r'.canLay0 = true) :
    RepF K et am B F { g with s := { g.s with files := g.s.files.set i (b, r') } } σ (upd H dx (.xd (fldsF vb v'))) := by
  have hi : i < g.s.files.length := (List.getElem?_eq_some_iff.mp hf).1
  refine ⟨fun c u e => by rw [upd_ne (ne_of_none e fd)]; exact R.sub c u e, ⟨R.fam.am, Tabs.put R.fam.tabs hd (fun _ z => by cases z) (fun c q z => by unfold LamX.CodeO at z; cases z) _, R.fam.off⟩, fun c u e na => ?_, R.len, fun j x e => ?_, R.inj, ?_⟩
  · by_cases z : c = dx
    · have h := R.base c u e na
      rw [z] at h ⊢
      cases u with
      | xd fs => exact ⟨_, upd_same⟩
      | _ => rw [show H dx = some _ from h] at hd; cases hd
    · exact (R.base c u e na).ne z
  · obtain ⟨w, e1, e2⟩ := R.slot j x e
    exact ⟨w, e1, e2.keep Same.rfl' fun c u _ _ fa ba na ha ow => ⟨fa, ba, by rw [upd_ne (fun z => own_nx ow _ (Option.some.inj (ha.symm.trans (by rw [z]; exact hd))))]; exact ha⟩⟩
  · obtain ⟨ac, e1, e2, e3⟩ := R.ms
    refine ⟨ac, by rw [upd_ne (fun z => by rw [z, hd] at e1; cases e1)]; exact e1, e2, ⟨fun a' dx' i' e => ?_, e3.one, e3.sep⟩⟩
    obtain ⟨b0, r0, vb0, vr0, ⟨q1, l1, l2⟩, q2, q3, q4, q5⟩ := e3.at_ a' dx' i' e
    by_cases z : dx' = dx
    · subst z
      obtain rfl := e3.sep a dx' i a' i' ea e
      rw [ea] at e
      have e := Option.some.inj e
      unfold LkO at e
      injection e with _ e
      injection e with e
      subst e
      exact ⟨b, r', vb, v', ⟨List.getElem?_set_self hi, lb, lr⟩, fd, upd_same, d1, d2⟩
    · have ni : i ≠ i' := fun y => by
        subst y
        have := e3.one a dx a' dx' i ea e
        subst this
        rw [ea] at e
        have e := Option.some.inj e
        unfold LkO at e
        injection e with e _
        unfold PySem.W.instObj at e
        injection e with _ e _ _
        exact z (Option.some.inj e).symm
      exact ⟨b0, r0, vb0, vr0, ⟨by rw [List.getElem?_set_ne ni]; exact q1, l1, l2⟩, q2, by rw [upd_ne z]; exact q3, q4, q5⟩
end
def mFBill (fe : Sg → Rs Sg DV) (g : Sg) : Rs Sg DV := (fe g).bind fun d g1 => match filV g1 d with
  | some (_, b, _) => .ok (.pu b) g1
  | none => .no
def mFRow (fe : Sg → Rs Sg DV) (g : Sg) : Rs Sg DV := (fe g).bind fun d g1 => match filV g1 d with
  | some (_, _, r) => .ok (.pu r) g1
  | none => .no
def mFSet (fo fv : Sg → Rs Sg DV) (g : Sg) : Rs Sg Fl := (fv g).bind fun d g1 => (fo g1).bind fun o g2 => match d, filV g2 o with
  | .pu r', some (i, b, _) => if r'.canLay0 = true then .ok .nx { g2 with s := { g2.s with files := g2.s.files.set i (b, r') } } else .no
  | _, _ => .no
section
variable {X : Cx} {et : ET} {W : WX}
theorem de_fbill {e : Expr} {pos : Pos} {fe : Sg → Rs Sg DV} (c : FilK X.K) (h : DE X et W e fe) (hb : attributeBase e "own_bill" X.env (eval e X.env) = eval e X.env := by rfl) : DE X et W (.Attribute e "own_bill" pos) (mFBill fe) := fun am B F g σ H Q R hq => by
  refine ⟨fun pins s I => ?_⟩
  have P : wE X e σ H fun x H1 => ∃ a dx i vb vr, x = .ref a ∧ H1 a = some (LkO X.K dx i) ∧ H1 dx = some (.xd (fldsF vb vr)) ∧ Q vb H1 := by
    refine h.then (goodV (Q := Q)) R hq fun d g1 v F1 H1 ex1 R1 dn1 hq1 => ?_
    cases q : filV g1 d with
    | none => simp only [q] at hq1; exact hq1.elim
    | some p =>
      obtain ⟨i, b, r⟩ := p
      simp only [q] at hq1
      obtain ⟨a, dx, vb, vr, ev, _, ea, _, ed, d1, d2, _, _⟩ := R1.fil dn1 q
      exact ⟨a, dx, i, vb, vr, ev, ea, ed, hq1 vb F1 H1 Ext.refl R1 d1⟩
  refine attr_of hb (thn (P.run pins s I) fun u s1 ⟨x, H1, I1, rx, a, dx, i, vb, vr, ex, ea, ed, q⟩ => ?_)
  subst ex
  obtain rfl : u = Value.ref a := rx
  exact fgetattr I1 ea ed c.cls c.nb rfl fun u' s2 I2 ru => ⟨vb, H1, I2, ru, q⟩
theorem de_frow {e : Expr} {pos : Pos} {fe : Sg → Rs Sg DV} (c : FilK X.K) (h : DE X et W e fe) (hb : attributeBase e "own_row" X.env (eval e X.env) = eval e X.env := by rfl) : DE X et W (.Attribute e "own_row" pos) (mFRow fe) := fun am B F g σ H Q R hq => by
  refine ⟨fun pins s I => ?_⟩
  have P : wE X e σ H fun x H1 => ∃ a dx i vb vr, x = .ref a ∧ H1 a = some (LkO X.K dx i) ∧ H1 dx = some (.xd (fldsF vb vr)) ∧ Q vr H1 := by
    refine h.then (goodV (Q := Q)) R hq fun d g1 v F1 H1 ex1 R1 dn1 hq1 => ?_
    cases q : filV g1 d with
    | none => simp only [q] at hq1; exact hq1.elim
    | some p =>
      obtain ⟨i, b, r⟩ := p
      simp only [q] at hq1
      obtain ⟨a, dx, vb, vr, ev, _, ea, _, ed, d1, d2, _, _⟩ := R1.fil dn1 q
      exact ⟨a, dx, i, vb, vr, ev, ea, ed, hq1 vr F1 H1 Ext.refl R1 d2⟩
  refine attr_of hb (thn (P.run pins s I) fun u s1 ⟨x, H1, I1, rx, a, dx, i, vb, vr, ex, ea, ed, q⟩ => ?_)
  subst ex
  obtain rfl : u = Value.ref a := rx
  exact fgetattr I1 ea ed c.cls c.nr rfl fun u' s2 I2 ru => ⟨vr, H1, I2, ru, q⟩
/-- o.own_row = e -/
theorem ds_frow {o e : Expr} {pos pos' : Pos} {fo fv : Sg → Rs Sg DV} (c : FilK X.K) (ho : DE X et W o fo) (hv : DE X et W e fv) (hs : swapsWith e (some (.Attribute o "own_row" pos')) pos.line X.env = pure false := by rfl) : DS X et W (.Assign [.Attribute o "own_row" pos'] e pos) (mFSet fo fv) := fun am B F g σ H D R hq => by
  refine ⟨fun pins s I => ?_⟩
  have P : wE X e σ H fun y H1 => wE X o σ H1 fun x H2 => ∃ a dx i vb vr, x = .ref a ∧ H2 a = some (LkO X.K dx i) ∧ H2 dx = some (.xd (fldsF vb vr)) ∧ D.nx σ (upd H2 dx (.xd (fldsF vb y))) := by
    refine hv.then (goodF (D := D)) R hq fun d g1 y F1 H1 ex1 R1 dn1 hq1 => ?_
    refine ho.then (goodF (D := D)) R1 hq1 fun o g2 x F2 H2 ex2 R2 dn2 hq2 => ?_
    cases d with
    | pu r' =>
      cases q : filV g2 o with
      | none => simp only [q] at hq2; exact hq2.elim
      | some p =>
        obtain ⟨i, b, r⟩ := p
        simp only [q] at hq2
        split at hq2
        · rename_i lr
          obtain ⟨a, dx, vb, vr, ev, fa, ea, fd, ed, d1, d2, lb, _⟩ := R2.fil dn2 q
          obtain ⟨_, _, _, hf⟩ := filV_of q
          exact ⟨a, dx, i, vb, vr, ev, ea, ed, hq2 σ F2 _ Ext.refl (R2.setF fa fd ed hf d1 lb (Dn.up dn1 ex2.1) lr)⟩
        · exact hq2.elim
    | own _ => exact hq2.elim
    | m => exact hq2.elim
    | scr _ => exact hq2.elim
    | clo _ => exact hq2.elim
    | exc _ _ => exact hq2.elim
    | dic _ => exact hq2.elim
    | dki _ => exact hq2.elim
  refine plainObj_wpAny_Assign_Attribute (thn (P.run pins s I) fun u s1 ⟨y, H1, I1, ry, q⟩ => thn (q.run pins s1 I1) fun ov s2 ⟨x, H2, I2, rx, a, dx, i, vb, vr, ex, ea, ed, q2⟩ => ?_) hs
  subst ex
  obtain rfl : ov = Value.ref a := rx
  exact fsetrow I2 ea ed c ry fun s3 I3 => ⟨σ, _, I3, q2⟩
end
end DL
set_option Elab.async false
set_option linter.all false
set_option maxRecDepth 100000
set_option maxHeartbeats 4000000
set_option autoImplicit false
namespace DL
open PySem PySem.Spec L2
open PyProof.Rows hiding St
structure FnM (P : Program) (w : World) (K : PySem.W.Frag) (mg : Str → Option Value) (base : Heap) (et : ET) (k : Nat) (m : Str) (fn : List DV → MS → Rs MS DV) : Prop where
  ex : ∃ (f : Addr) (fd : FuncData) (ps : List Str), (∀ ds s, ds.length ≠ ps.length → fn ds s = .no) ∧ Meth K (fC K) m f ∧ Binds K fd ps [] ∧ FnG P w K mg base k f fd ps (spD K et ps.length fn)
/-- the def m of the class File -/
def DefM (K : PySem.W.Frag) (m : Str) (st : Stmt) : Prop := ∃ f fd, FunD K m ("File." ++ m) (defArgs st) (defBody st) (defScope st) [] [] f fd ∧ Meth K (fC K) m f
theorem fnM_of {P : Program} {w : World} {K : PySem.W.Frag} {mg : Str → Option Value} {base : Heap} {k : Nat} {m : Str} {st : Stmt} {N ps : List Str} {et : ET} {fb : Sg → Rs Sg Fl}
    (T : DefM K m st) (S : FnScope N ps (defScope st))
    (hb : ∀ (kV doc pm : Value) (an : Option Addr) (cdv ct : Value) (us : List Value), us.length = ps.length → bindArgs (PySem.W.fnOf m ("File." ++ m) (defArgs st) (defBody st) (defScope st) .none kV doc pm an cdv ct) ⟨us, []⟩ = pure (ps.zip us))
    (hbody : ∀ (f : Addr) (cdv : Value) (A : Around) (outer : List Env) (s : Shared) (H : Hp) (E : XK), Here (cxOf (L2.CX P w) P w K mg base N ("File." ++ m) (defScope st) f cdv A outer s H E) k (fun cls d _ H => E cls d H) →
      DSs (cxOf (L2.CX P w) P w K mg base N ("File." ++ m) (defScope st) f cdv A outer s H E) et (fun cls d _ H => E cls d H) (defBody st) fb) : FnM P w K mg base et (k + 1) m (fnB ps.length N.length fb) := by
  obtain ⟨f, fd, F, hm⟩ := T
  exact ⟨f, fd, ps, fun ds s h => if_neg h, hm, F.bindsN hb, fnD_of F S fun cdv A outer s H E here => hbody f cdv A outer s H E here⟩
section
variable {X : Cx} {et : ET} {W : WX}
/-- the callee runs -/
theorem meth_run {k j : Nat} {A : Around} {pins : List (Addr × Obj)} {σ : L2.St} {H : Hp} {s : Shared} {Q : VK} {f : Addr} {fd : FuncData} {ps : List Str} {fn : List DV → MS → Rs MS DV} {vs : List V} {us : List Value} (C : Here X k W) (hA : Room j A) (gA : A.guards = some []) (eA : Env0 X.prog X.w X.K X.mg X.base A X.stack s H)
    (hb : Binds X.K fd ps []) (G : FnG X.prog X.w X.K X.mg X.base j f fd ps (spD X.K et ps.length fn)) (I : Inv X pins σ H s) (r : Vals vs us) (q : spD X.K et ps.length fn vs H Q (WE W σ)) :
    codeAny (model X.prog X.w) A (.call (.ref f) ⟨us, []⟩) (fun rr s' => match rr with
      | .ok (.ret u) => EP X pins σ Q u s'
      | .ok _ => False
      | .error e => X.xe e s') s := by
  have hl : us.length = ps.length := by rw [← r.length]; exact G.len _ _ _ _ q
  have b := hb s us I.kIn (by rw [List.append_nil]; exact hl)
  rw [List.append_nil] at b
  refine codeAny_mono (G.run A X.stack s H ⟨us, []⟩ us vs Q (WE W σ) hA gA eA b r q) fun rr s' hq => ?_
  cases rr with
  | error e => exact passAt C.tk σ pins H s e s' I hq
  | ok fl =>
    cases fl with
    | ret u => exact I.after hq
    | next => exact hq.elim
    | brk => exact hq.elim
    | cont => exact hq.elim
theorem call_run {k j : Nat} {A : Around} {pins : List (Addr × Obj)} {σ : L2.St} {H : Hp} {s : Shared} {Q : VK} {f : Addr} {fd : FuncData} {ps : List Str} {fn : List DV → MS → Rs MS DV} {vs : List V} {us : List Value} (C : Here X k W) (hA : Room j A) (gA : A.guards = some []) (eA : Env0 X.prog X.w X.K X.mg X.base A X.stack s H)
    (hb : Binds X.K fd ps []) (G : FnG X.prog X.w X.K X.mg X.base j f fd ps (spD X.K et ps.length fn)) (I : Inv X pins σ H s) (r : Vals vs us) (q : spD X.K et ps.length fn vs H Q (WE W σ)) :
    wpAny (model X.prog X.w) A (call (.ref f) us) (EP X pins σ Q) X.xe s := by
  refine wpAny_call (codeAny_mono (meth_run C hA gA eA hb G I r q) fun rr s' hq => ?_)
  cases rr with
  | error e => exact hq
  | ok fl =>
    cases fl with
    | ret u => exact hq
    | next => exact False.elim hq
    | brk => exact False.elim hq
    | cont => exact False.elim hq
def endS (g : Sg) : Rs MS DV → Rs Sg DV
  | .ok d s => .ok d { g with s := s }
  | .ex c p s => .ex c p { g with s := s }
  | .no => .no
theorem sp_of {am : Addr} {B F H : Hp} {g : Sg} {σ : L2.St} {n : Nat} {Q : VK} {vs : List V} {ds : List DV} {fn : List DV → MS → Rs MS DV} (R : RepF X.K et am B F g σ H) (dn : DenL X.K et am F vs ds) (hn : ∀ ds s, ds.length ≠ n → fn ds s = .no) (hq : OkV X.K et W am B F σ Q (endS g (fn ds g.s))) :
    spD X.K et n fn vs H Q (WE W σ) := by
  by_cases hl : ds.length = n
  · refine ⟨am, F, ds, g.s, by rw [dn.length]; exact hl, R.sub, R.fam, R.ms, dn, ?_⟩
    cases q : fn ds g.s with
    | no => rw [q] at hq; exact hq.elim
    | ok d s' =>
      rw [q] at hq
      intro v F' H' ex sub fam fr mr dn
      obtain ⟨R', ex'⟩ := R.after ex sub fam fr mr
      exact hq v F' H' ex' R' dn
    | ex c p s' =>
      rw [q] at hq
      intro cls dx F' H' ex sub fam fr mr r
      obtain ⟨R', ex'⟩ := R.after ex sub fam fr mr
      exact hq cls dx F' H' ex' R' r
  · rw [hn ds g.s hl] at hq
    exact hq.elim
def isFil (g : Sg) (d : DV) : Bool := (filV g d).isSome
/-- o.m(e, ..) -/
def mMeth (fn : List DV → MS → Rs MS DV) (fo : Sg → Rs Sg DV) (fs : Sg → Rs Sg (List DV)) (g : Sg) : Rs Sg DV := (fo g).bind fun d g1 => if isFil g1 d = true then (fs g1).bind fun ds g2 => endS g2 (fn (d :: ds) g2.s) else .no
/-- the object, told by what stands at it -/
def FilAt (K : PySem.W.Frag) (H : Hp) (x : V) : Prop := ∃ a dx i vb vr, x = .ref a ∧ H a = some (LkO K dx i) ∧ H dx = some (.xd (fldsF vb vr))
theorem RepF.filAt {am : Addr} {B F H : Hp} {g : Sg} {σ : L2.St} {v : V} {d : DV} (R : RepF X.K et am B F g σ H) (dn : DenP X.K et am F v d) (h : isFil g d = true) : FilAt X.K H v := by
  unfold isFil at h
  obtain ⟨⟨i, b, r⟩, q⟩ := Option.isSome_iff_exists.mp h
  obtain ⟨a, dx, vb, vr, ev, _, ea, _, ed, _⟩ := R.fil dn q
  exact ⟨a, dx, i, vb, vr, ev, ea, ed⟩
theorem de_meth {k j : Nat} {m : Str} {fn : List DV → MS → Rs MS DV} {o e : Expr} {es : List Expr} {apos pos : Pos} {fo : Sg → Rs Sg DV} {fs : Sg → Rs Sg (List DV)} (C : Here X k W) (c : FilK X.K) (G : FnM X.prog X.w X.K X.mg X.base et j m fn) (hj : j ≤ k) (ho : DE X et W o fo) (ha : DA X et W (e :: es) fs)
    (hl : ∀ vb vr, (fldsF vb vr).lookup m = none := by intro _ _; rfl) {pl : Sem Bool} (hst : starEach (e :: es) X.env = (false, eval e X.env) :: starEach es X.env := by exact star_ok rfl) (hpl : (backTo pos (starEach es X.env)).any (·.1) = false := by exact plain_ok rfl)
    (ht : eval (.Call (.Attribute o m apos) (e :: es) [] pos) X.env = (do
      let ov ← eval o X.env
      standAt apos.atName
      let (f, first) ← holding [ov] (getMethod ov m pl)
      callWith pos f first (backTo pos (starEach (e :: es) X.env)) (backToKw pos (keywordEach [] X.env))) := by rfl) :
    DE X et W (.Call (.Attribute o m apos) (e :: es) [] pos) (mMeth fn fo fs) := fun am B F g σ H Q R hq => by
  refine ⟨fun pins s I => ?_⟩
  obtain ⟨f, fd, ps, hlen, hm, hb, G⟩ := G.ex
  have P : wE X o σ H fun x H1 => FilAt X.K H1 x ∧ wA X (e :: es) σ H1 fun vs H2 => spD X.K et ps.length fn (x :: vs) H2 Q (WE W σ) := by
    refine ho.then (goodV (Q := Q)) R hq fun d g1 v F1 H1 ex1 R1 dn1 hq1 => ?_
    split at hq1
    · rename_i hf
      refine ⟨R1.filAt dn1 hf, ha.then (goodV (Q := Q)) R1 hq1 fun ds g2 vs F2 H2 ex2 R2 dn2 hq2 => ?_⟩
      exact sp_of R2 (.cons (dn1.up ex2.1) dn2) hlen hq2
    · exact hq1.elim
  refine PySem.W.methodCall_KW (pl := pl) (thn (P.run pins s I) fun u s1 ⟨x, H1, I1, rx, ⟨a, dx, i, vb, vr, ex, ea, ed⟩, q⟩ => ?_) ht
  subst ex
  obtain rfl : u = Value.ref a := rx
  refine fgetmeth I1 ea ed c.cls hm (hl vb vr) ?_
  refine PySem.W.callWith_K (first := [.ref a]) (h₀ := X.base) I.ok.mod.kin hm.kp (thn (q.run pos pins s1 I1) fun us s2 ⟨vs, H2, I2, r, q2⟩ => ⟨I2.kIn, ?_⟩) hst hpl
  exact call_run C (C.hr.mono hj) C.hg I2.env0 hb G I2 (us := .ref a :: us) (vs := .ref a :: vs) (.cons rfl r) q2
end
end DL
set_option Elab.async false
set_option linter.all false
set_option maxRecDepth 100000
set_option maxHeartbeats 4000000
set_option autoImplicit false
namespace DL
open PySem PySem.Spec L2
open PyProof.Rows hiding St
structure FnP (P : Program) (w : World) (K : PySem.W.Frag) (mg : Str → Option Value) (base : Heap) (et : ET) (k : Nat) (m : Str) (fn : List DV → MS → Rs MS DV) : Prop where
  ex : ∃ (p f : Addr) (fd : FuncData) (ps : List Str), (∀ ds s, ds.length ≠ ps.length → fn ds s = .no) ∧ PropOf K (fC K) m p f ∧ Binds K fd ps [] ∧ FnG P w K mg base k f fd ps (spD K et ps.length fn)
def DefP (K : PySem.W.Frag) (m : Str) (st : Stmt) : Prop := ∃ p f fd, FunD K m ("File." ++ m) (defArgs st) (defBody st) (defScope st) [] [] f fd ∧ PropOf K (fC K) m p f
theorem fnP_of {P : Program} {w : World} {K : PySem.W.Frag} {mg : Str → Option Value} {base : Heap} {k : Nat} {m : Str} {st : Stmt} {N ps : List Str} {et : ET} {fb : Sg → Rs Sg Fl}
    (T : DefP K m st) (S : FnScope N ps (defScope st))
    (hb : ∀ (kV doc pm : Value) (an : Option Addr) (cdv ct : Value) (us : List Value), us.length = ps.length → bindArgs (PySem.W.fnOf m ("File." ++ m) (defArgs st) (defBody st) (defScope st) .none kV doc pm an cdv ct) ⟨us, []⟩ = pure (ps.zip us))
    (hbody : ∀ (f : Addr) (cdv : Value) (A : Around) (outer : List Env) (s : Shared) (H : Hp) (E : XK), Here (cxOf (L2.CX P w) P w K mg base N ("File." ++ m) (defScope st) f cdv A outer s H E) k (fun cls d _ H => E cls d H) →
      DSs (cxOf (L2.CX P w) P w K mg base N ("File." ++ m) (defScope st) f cdv A outer s H E) et (fun cls d _ H => E cls d H) (defBody st) fb) : FnP P w K mg base et (k + 1) m (fnB ps.length N.length fb) := by
  obtain ⟨p, f, fd, F, hm⟩ := T
  exact ⟨p, f, fd, ps, fun ds s h => if_neg h, hm, F.bindsN hb, fnD_of F S fun cdv A outer s H E here => hbody f cdv A outer s H E here⟩
section
variable {X : Cx} {et : ET} {W : WX}
theorem in1_guards {A : Around} (h : A.guards = some []) : A.in1.guards = some [] := h
def okSg (g : Sg) : Rs MS DV → Rs Sg DV
  | .ok d s => .ok d { g with s := s }
  | _ => .no
def mProp (fn : List DV → MS → Rs MS DV) (fo : Sg → Rs Sg DV) (g : Sg) : Rs Sg DV := (fo g).bind fun d g1 => if isFil g1 d = true then okSg g1 (fn [d] g1.s) else .no
theorem sp_ofN {am : Addr} {B F H : Hp} {g : Sg} {σ : L2.St} {n : Nat} {Q : VK} {vs : List V} {ds : List DV} {fn : List DV → MS → Rs MS DV} (R : RepF X.K et am B F g σ H) (dn : DenL X.K et am F vs ds) (hn : ∀ ds s, ds.length ≠ n → fn ds s = .no) (hq : OkV X.K et W am B F σ Q (okSg g (fn ds g.s))) :
    spD X.K et n fn vs H Q (fun _ _ _ => False) := by
  by_cases hl : ds.length = n
  · refine ⟨am, F, ds, g.s, by rw [dn.length]; exact hl, R.sub, R.fam, R.ms, dn, ?_⟩
    cases q : fn ds g.s with
    | no => rw [q] at hq; exact hq.elim
    | ok d s' =>
      rw [q] at hq
      intro v F' H' ex sub fam fr mr dn
      obtain ⟨R', ex'⟩ := R.after ex sub fam fr mr
      exact hq v F' H' ex' R' dn
    | ex c p s' => rw [q] at hq; exact hq.elim
  · rw [hn ds g.s hl] at hq
    exact hq.elim
theorem de_prop {k j : Nat} {m : Str} {fn : List DV → MS → Rs MS DV} {o : Expr} {pos : Pos} {fo : Sg → Rs Sg DV} (C : Here X k W) (c : FilK X.K) (G : FnP X.prog X.w X.K X.mg X.base et j m fn) (hj : j + 1 ≤ k) (ho : DE X et W o fo)
    (hab : attributeBase o m X.env (eval o X.env) = eval o X.env := by rfl) : DE X et W (.Attribute o m pos) (mProp fn fo) := fun am B F g σ H Q R hq => by
  refine ⟨fun pins s I => ?_⟩
  obtain ⟨p, f, fd, ps, hlen, hp, hb, G⟩ := G.ex
  have P : wE X o σ H fun x H1 => FilAt X.K H1 x ∧ spD X.K et ps.length fn [x] H1 Q (fun _ _ _ => False) := by
    refine ho.then (goodV (Q := Q)) R hq fun d g1 v F1 H1 ex1 R1 dn1 hq1 => ?_
    split at hq1
    · rename_i hf
      exact ⟨R1.filAt dn1 hf, sp_ofN R1 (.cons dn1 .nil) hlen hq1⟩
    · exact hq1.elim
  refine attr_of hab (thn (P.run pins s I) fun u s1 ⟨x, H1, I1, rx, ⟨a, dx, i, vb, vr, ex, ea, ed⟩, q⟩ => ?_)
  subst ex
  obtain rfl : u = Value.ref a := rx
  obtain ⟨mA, O, _⟩ := fil_obj I1 ea ed
  obtain ⟨od, J, _⟩ := O.look
  obtain ⟨rest, hrec⟩ := hp.rec_
  have I2 := I1.tok (s1.toks + 1)
  have hc : (PySem.W.clsIn X.K (fC X.K)).isSome = true := by
    obtain ⟨cd, hc, _⟩ := PySem.W.any_some c.cls.hd
    rw [hc]
    rfl
  have hr : Room (j + 1) X.A := C.hr.mono hj
  refine PySem.W.get_bind I1.kIn J (PySem.W.plainGet_of (c.cls.get m)).1 (PySem.W.findObj_data hc hp.at_ hp.get hp.tak) (PySem.W.plainGet_of (c.cls.get m)).2 (wpAny_call (PySem.W.prop_get (s := { s1 with toks := s1.toks + 1 }) I1.kIn hrec ?_))
  have hl : ([Value.ref a] : List Value).length = ps.length := G.len _ _ _ _ q
  have b := hb { s1 with toks := s1.toks + 1 } [.ref a] I2.kIn (by rw [List.append_nil]; exact hl)
  rw [List.append_nil] at b
  refine codeAny_mono (G.run X.A.in1 X.stack { s1 with toks := s1.toks + 1 } H1 ⟨[.ref a], []⟩ [.ref a] [.ref a] Q (fun _ _ _ => False) hr.in1 (in1_guards C.hg) I2.env0.in1 b (.cons rfl .nil) q) fun rr s' hq' => ?_
  cases rr with
  | error er =>
    obtain ⟨_, _, _, _, _, _, _, _, _, _, _, _, hE⟩ := hq'
    exact False.elim hE
  | ok fl =>
    cases fl with
    | ret u =>
      obtain ⟨v, H', I3, rv, q3⟩ := I2.after hq'
      show wpAny _ _ (handedOut u) _ _ _
      rw [PySem.W.handedOut_of (handed_of rv)]
      exact wpAny_pure ⟨v, H', I3, rv, q3⟩
    | next => exact False.elim hq'
    | brk => exact False.elim hq'
    | cont => exact False.elim hq'
/-- one(), one in a slot -/
theorem de_fcall {k j : Nat} {n : Nat} {x : Str} {fn : List DV → MS → Rs MS DV} {p1 p2 : Pos} {fo : Sg → Rs Sg DV} (C : Here X k W) (G : FnM X.prog X.w X.K X.mg X.base et j "__call__" fn) (hfn : ∀ f, Meth X.K (fC X.K) "__call__" f → PySem.W.fnIn X.K f = true) (hj : j ≤ k) (ho : DE X et W (.Name x p1) fo) :
    DE X et W (.Call (.Name x p1) [] [] p2) (mMeth fn fo mNil) := fun am B F g σ H Q R hq => by
  refine ⟨fun pins s I => ?_⟩
  obtain ⟨f, fd, ps, hlen, hm, hb, G⟩ := G.ex
  have P : wE X (.Name x p1) σ H fun x H1 => FilAt X.K H1 x ∧ spD X.K et ps.length fn [x] H1 Q (WE W σ) := by
    refine ho.then (goodV (Q := Q)) R hq fun d g1 v F1 H1 ex1 R1 dn1 hq1 => ?_
    split at hq1
    · rename_i hf
      exact ⟨R1.filAt dn1 hf, sp_of R1 (.cons dn1 .nil) hlen hq1⟩
    · exact hq1.elim
  refine wpAny_Call_Name_kw (thn (P.run pins s I) fun u s1 ⟨x, H1, I1, rx, ⟨a, dx, i, vb, vr, ex, ea, ed⟩, q⟩ => ?_)
  subst ex
  obtain rfl : u = Value.ref a := rx
  obtain ⟨mA, O, _⟩ := fil_obj I1 ea ed
  obtain ⟨od, J, _⟩ := O.look
  refine PySem.W.kco_callWith0 (first := []) I1.kIn J rfl hm.at_ ?_
  refine wpAny_call (PySem.W.kco_code I1.kIn J rfl hm.at_ hm.fn (hfn f hm) ?_)
  refine codeAny_mono (meth_run C (C.hr.mono hj) C.hg I1.env0 hb G I1 (us := [.ref a]) (vs := [.ref a]) (.cons rfl .nil) q) fun rr s' hq' => ?_
  cases rr with
  | error er => exact hq'
  | ok fl =>
    cases fl with
    | ret u => exact hq'
    | next => exact False.elim hq'
    | brk => exact False.elim hq'
    | cont => exact False.elim hq'
/-- len(one) -/
def mLenF (fn : List DV → MS → Rs MS DV) (fo : Sg → Rs Sg DV) (g : Sg) : Rs Sg DV := (fo g).bind fun d g1 => if isFil g1 d = true then (endS g1 (fn [d] g1.s)).bind fun y g2 => match y with
  | .pu (.int n) => if 0 ≤ n ∧ n < 2 ^ 63 then .ok (.pu (.int n)) g2 else .no
  | _ => .no else .no
theorem okV_bind {am : Addr} {B F : Hp} {σ : L2.St} {Q Q' : VK} {r : Rs Sg DV} {k : DV → Sg → Rs Sg DV} (hq : OkV X.K et W am B F σ Q (r.bind k)) (h : ∀ d g v F' H', Ext B F F' → RepF X.K et am B F' g σ H' → DenP X.K et am F' v d → OkV X.K et W am B F' σ Q (k d g) → Q' v H') : OkV X.K et W am B F σ Q' r := by
  cases r with
  | no => exact hq.elim
  | ex c p g => exact hq
  | ok d g => exact fun v F' H' ex R' dn => h d g v F' H' ex R' dn ((goodV (Q := Q)).weak F F' _ ex hq)
theorem de_lenF {k j : Nat} {fn : List DV → MS → Rs MS DV} {o : Expr} {p pos : Pos} {fo : Sg → Rs Sg DV} (C : Here X k W) (G : FnM X.prog X.w X.K X.mg X.base et j "__len__" fn) (hj : j + 1 ≤ k) (hm : X.mg "len" = none) (ho : DE X et W o fo)
    (hg : Gl X "len" := by rfl) (he : starEach [o] X.env = (false, eval o X.env) :: starEach [] X.env := by exact star_ok rfl) : DE X et W (.Call (.Name "len" p) [o] [] pos) (mLenF fn fo) := fun am B F g σ H Q R hq => by
  refine ⟨fun pins s I => ?_⟩
  obtain ⟨f, fd, ps, hlen, hme, hb, G⟩ := G.ex
  have P : wA X [o] σ H fun xs H1 => ∃ x, xs = [x] ∧ FilAt X.K H1 x ∧ spD X.K et ps.length fn [x] H1 (fun v H' => ∃ n : Int, v = .int n ∧ (0 ≤ n ∧ n < 2 ^ 63) ∧ Q (.int n) H') (WE W σ) := by
    refine wa_of (pa_cons pe_w pa_nil he) ?_
    refine ho.then (goodV (Q := Q)) R hq fun d g1 v F1 H1 ex1 R1 dn1 hq1 => ?_
    split at hq1
    · rename_i hf
      refine ⟨v, rfl, R1.filAt dn1 hf, sp_of R1 (.cons dn1 .nil) hlen (okV_bind hq1 fun d g v F' H' ex R' dn hq2 => ?_)⟩
      split at hq2
      · rename_i n
        split at hq2
        · rename_i hn
          rw [Dn.int_of dn]
          exact ⟨n, rfl, hn, hq2 _ F' H' Ext.refl R' (.int n)⟩
        · exact hq2.elim
      · exact hq2.elim
    · exact hq1.elim
  refine wpAny_Call_Name_kw (ld_blt I hg hm (by decide +kernel : bootBuiltins "len" = some (.builtin "len")) ?_ (by decide) (by decide))
  refine PyProof.Rows.callWith_builtin1 (thn (P.run pos pins s I) fun us s1 ⟨vs, H1, I1, r1, x, ex, ⟨a, dx, i, vb, vr, ex2, ea, ed⟩, q⟩ => ?_) he rfl
  subst ex ex2
  obtain ⟨u, rfl, ru⟩ := Vals.one r1
  obtain rfl : u = Value.ref a := ru
  obtain ⟨mA, O, _⟩ := fil_obj I1 ea ed
  obtain ⟨od, J, _⟩ := O.look
  obtain ⟨m, Fm⟩ := I1.fr
  have hr : Room (j + 1) X.A := C.hr.mono hj
  refine PySem.W.len_K Fm I1.ok.mod.kin J hme.at_ hme.fn (wpAny_mono (call_run C hr.in1 (in1_guards C.hg) I1.env0.in1 hb G I1 (us := [.ref a]) (vs := [.ref a]) (.cons rfl .nil) q) (fun u s' hq' => ?_) fun _ _ z => z)
  obtain ⟨v, H', I3, rv, n, ev, hn, q3⟩ := hq'
  subst ev
  obtain ⟨t, rfl⟩ := (show ∃ t, u = Value.int n t from rv)
  exact ⟨hn, .int n, H', I3.tok _, ⟨_, rfl⟩, q3⟩
/-- x in one -/
def mInF (fn : List DV → MS → Rs MS DV) (fa fo : Sg → Rs Sg DV) (g : Sg) : Rs Sg DV := (fa g).bind fun x g1 => (fo g1).bind fun d g2 => if isFil g2 d = true then (endS g2 (fn [d, x] g2.s)).bind fun y g3 => match y with
  | .pu (.bool b) => .ok (.pu (.bool b)) g3
  | _ => .no else .no
end
end DL
set_option Elab.async false
set_option linter.all false
set_option maxRecDepth 100000
set_option maxHeartbeats 4000000
set_option autoImplicit false
namespace DL
open PySem PySem.Spec L2
open PyProof.Rows hiding St
section
variable {X : Cx} {pins : List (Addr × Obj)} {σ : L2.St} {H : Hp} {s : Shared}
theorem inv_close {x dx : Addr} {fs : List (Str × V)} (i : Nat) (I : Inv X pins σ H s) (hx : H x = some (.ins (fC X.K) dx fs)) : Inv X pins σ (upd (upd H dx (.xd fs)) x (LkO X.K dx i)) s := by
  obtain ⟨hd, z, ne, ob, mA, n, r, wi⟩ := (show ObjOk X.prog X.w H s.heap x (.ins (fC X.K) dx fs) from I.hok x _ hx)
  have nx : ∀ b, H b = none → b ≠ x ∧ b ≠ dx := fun b e => ⟨fun z => (by rw [z, hx] at e; cases e), fun z => (by rw [z, hd] at e; cases e)⟩
  have at_ : ∀ b, b ≠ x → b ≠ dx → (upd (upd H dx (.xd fs)) x (LkO X.K dx i)) b = H b := fun b n1 n2 => by rw [upd_ne n1, upd_ne n2]
  have old : ∀ {b : Addr} {u : HO}, H b = some u → (∀ C d f, u ≠ .ins C d f) → (∀ y, u ≠ .own y) → (upd (upd H dx (.xd fs)) x (LkO X.K dx i)) b = some u := fun {b u} e n1 n2 => by
    rw [at_ b (fun z => by rw [z, hx] at e; exact n1 _ _ _ (Option.some.inj e).symm) (fun z => by rw [z, hd] at e; exact n2 _ (Option.some.inj e).symm)]
    exact e
  have hxx : (upd (upd H dx (.xd fs)) x (LkO X.K dx i)) x = some (LkO X.K dx i) := upd_same
  have hdd : (upd (upd H dx (.xd fs)) x (LkO X.K dx i)) dx = some (.xd fs) := by rw [upd_ne ne, upd_same]
  refine I.un (t' := s.toks) (h' := s.heap) ⟨fun b u q _ _ _ => q, fun b u q _ _ _ => ⟨u.slots, q⟩, fun b u q e _ => by rw [at_ b (nx b e).1 (nx b e).2]; exact e, fun b u q _ => ⟨u, q⟩, fun b xs q => old q (fun _ _ _ z => by cases z) (fun _ z => by cases z), fun b o u q => old q (fun _ _ _ z => by cases z) (fun _ z => by cases z), fun b ps q => ⟨#[], by rw [old q (fun _ _ _ z => by cases z) (fun _ z => by cases z)]; simp⟩⟩ fun b u q => ?_
  by_cases h1 : b = x
  · subst h1
    rw [hxx] at q
    cases q
    exact ⟨ob, ⟨_, ob⟩⟩
  · by_cases h2 : b = dx
    · subst h2
      rw [hdd] at q
      cases q
      exact ⟨mA, n, r⟩
    · rw [at_ b h1 h2] at q
      refine (I.hok b u q).stay (fun _ _ _ z => z) (fun c e => ?_) fun c xs e => old e (fun _ _ _ z => by cases z) (fun _ z => by cases z)
      have n1 : c ≠ x := fun z => by rw [z, hx] at e; cases e
      have n2 : c ≠ dx := fun z => by rw [z, hd] at e; cases e; exact h1 rfl
      rw [at_ c n1 n2]
      exact e
end
section
variable {K : PySem.W.Frag} {et : ET} {am : Addr} {B F H : Hp} {g : Sg} {σ : L2.St}
theorem lk_inj {dx dx' : Addr} {i i' : Nat} (h : LkO K dx i = LkO K dx' i') : dx = dx' ∧ i = i' := by
  unfold LkO at h
  injection h with h1 h2
  injection h2 with h2
  unfold PySem.W.instObj at h1
  injection h1 with _ h1 _ _
  exact ⟨Option.some.inj h1, h2⟩
theorem RepF.addF (R : RepF K et am B F g σ H) {x dx C0 dx0 x0 : Addr} {fs0 : List (Str × V)} {vb vr : V} {b r : PyData} (hx : H x = some (.ins C0 dx0 fs0)) (hdx : H dx = some (.own x0)) (fx : F x = none) (fd : F dx = none) (bx : B x = none) (bd : B dx = none)
    (d1 : Dn K et F vb b) (d2 : Dn K et F vr r) (lb : b.canLay0 = true) (lr : r.canLay0 = true) :
    RepF K et am B (upd F x (LkO K dx g.s.files.length)) { g with s := { g.s with files := g.s.files ++ [(b, r)] } } σ (upd (upd H dx (.xd (fldsF vb vr))) x (LkO K dx g.s.files.length)) ∧ Ext B F (upd F x (LkO K dx g.s.files.length)) := by
  have nxd : x ≠ dx := fun z => by rw [z, hdx] at hx; cases hx
  have sm : Same F (upd F x (LkO K dx g.s.files.length)) := fun a u e => by rw [upd_ne (ne_of_none e fx)]; exact e
  have old : ∀ {a : Addr} {u : HO}, H a = some u → (∀ C d f, u ≠ .ins C d f) → (∀ y, u ≠ .own y) → a ≠ x ∧ a ≠ dx := fun {a u} e n1 n2 =>
    ⟨fun z => by rw [z, hx] at e; exact n1 _ _ _ (Option.some.inj e).symm, fun z => by rw [z, hdx] at e; exact n2 _ (Option.some.inj e).symm⟩
  have at_ : ∀ {a : Addr}, a ≠ x → a ≠ dx → (upd (upd H dx (.xd (fldsF vb vr))) x (LkO K dx g.s.files.length)) a = H a := fun n1 n2 => by rw [upd_ne n1, upd_ne n2]
  obtain ⟨ac, m1, m2, m3⟩ := R.ms
  obtain ⟨nam1, nam2⟩ := old m1 (fun _ _ _ z => by cases z) (fun _ z => by cases z)
  have tab : ∀ t ∈ et.T, t.1 ≠ x ∧ t.1 ≠ dx := fun t ht => by
    obtain ⟨ps, e, _⟩ := R.fam.tabs t ht
    exact old e (fun _ _ _ z => by cases z) (fun _ z => by cases z)
  refine ⟨⟨fun a u e => ?_, ⟨by rw [upd_ne nam1]; exact R.fam.am, ?_, fun t ht => by rw [upd_ne (tab t ht).1]; exact R.fam.off t ht⟩, fun a u e na => ?_, R.len, fun j y e => ?_, R.inj, ?_⟩, sm, fun a u e n => ?_⟩
  · by_cases z : a = x
    · rw [z, upd_same] at e; rw [z, upd_same]; exact e
    · rw [upd_ne z] at e
      rw [at_ z (fun y => by rw [y, fd] at e; cases e)]
      exact R.sub a u e
  · refine Tabs.put (Tabs.put R.fam.tabs hdx (fun _ z => by cases z) (fun c q z => by unfold LamX.CodeO at z; cases z) _) (a := x) (u := .ins C0 dx0 fs0) (by rw [upd_ne nxd]; exact hx) (fun _ z => by cases z) (fun c q z => by unfold LamX.CodeO at z; cases z) _
  · exact (R.base a u e na).eq (at_ (fun z => by rw [z, bx] at e; cases e) (fun z => by rw [z, bd] at e; cases e))
  · obtain ⟨w, e1, e2⟩ := R.slot j y e
    refine ⟨w, e1, e2.keep sm fun a u _ _ fa ba na ha ow => ?_⟩
    have no : (∀ C d f, u ≠ HO.ins C d f) ∧ ∀ y, u ≠ .own y := by
      rcases ow with ⟨vs, q⟩ | ⟨hs, es, q⟩ | ⟨kvs, q⟩
      · exact ⟨fun _ _ _ z => (by rw [q] at z; cases z), fun _ z => by rw [q] at z; cases z⟩
      · exact ⟨fun _ _ _ z => (by rw [q] at z; unfold NDo at z; cases z), fun _ z => by rw [q] at z; unfold NDo at z; cases z⟩
      · exact ⟨fun _ _ _ z => (by rw [q] at z; cases z), fun _ z => by rw [q] at z; cases z⟩
    obtain ⟨n1, n2⟩ := old ha no.1 no.2
    exact ⟨by rw [upd_ne n1]; exact fa, ba, by rw [at_ n1 n2]; exact ha⟩
  · have oldL : ∀ {a dx' : Addr} {i : Nat}, (upd F x (LkO K dx g.s.files.length)) a = some (LkO K dx' i) → (a = x ∧ dx' = dx ∧ i = g.s.files.length) ∨ (a ≠ x ∧ F a = some (LkO K dx' i) ∧ i < g.s.files.length ∧ dx' ≠ dx ∧ dx' ≠ x) := fun {a dx' i} e => by
      by_cases z : a = x
      · rw [z, upd_same] at e
        obtain ⟨h1, h2⟩ := lk_inj (Option.some.inj e)
        exact .inl ⟨z, h1.symm, h2.symm⟩
      · rw [upd_ne z] at e
        obtain ⟨_, _, _, _, ⟨q1, _⟩, q2, q3, _⟩ := m3.at_ a dx' i e
        obtain ⟨n1, n2⟩ := old q3 (fun _ _ _ z => by cases z) (fun _ z => by cases z)
        exact .inr ⟨z, e, (List.getElem?_eq_some_iff.mp q1).1, n2, n1⟩
    refine ⟨ac, by rw [at_ nam1 nam2]; exact m1, Dn.up m2 sm, ⟨fun a dx' i e => ?_, fun a d a' d' i e e' => ?_, fun a d i a' i' e e' => ?_⟩⟩
    · rcases oldL e with ⟨rfl, rfl, rfl⟩ | ⟨na, e, hi, n2, n1⟩
      · refine ⟨b, r, vb, vr, ⟨by rw [List.getElem?_append_right (Nat.le_refl _), Nat.sub_self]; rfl, lb, lr⟩, by rw [upd_ne (Ne.symm nxd)]; exact fd, by rw [upd_ne (Ne.symm nxd), upd_same]; rfl, Dn.up d1 sm, Dn.up d2 sm⟩
      · obtain ⟨b0, r0, vb0, vr0, ⟨q1, l1, l2⟩, q2, q3, q4, q5⟩ := m3.at_ a dx' i e
        exact ⟨b0, r0, vb0, vr0, ⟨by rw [List.getElem?_append_left hi]; exact q1, l1, l2⟩, by rw [upd_ne n1]; exact q2, by rw [at_ n1 n2]; exact q3, Dn.up q4 sm, Dn.up q5 sm⟩
    · rcases oldL e with ⟨h1, h2, h3⟩ | ⟨na, e, hi, n2, n1⟩
      · rcases oldL e' with ⟨h1', _, _⟩ | ⟨_, _, hi', _, _⟩
        · exact h1.trans h1'.symm
        · omega
      · rcases oldL e' with ⟨_, _, h3'⟩ | ⟨_, e', _, _, _⟩
        · omega
        · exact m3.one a d a' d' i e e'
    · rcases oldL e with ⟨h1, h2, h3⟩ | ⟨na, e, hi, n2, n1⟩
      · rcases oldL e' with ⟨h1', _, _⟩ | ⟨_, _, _, n2', _⟩
        · exact h1.trans h1'.symm
        · exact absurd h2 n2'
      · rcases oldL e' with ⟨_, h2', _⟩ | ⟨_, e', _, _, _⟩
        · exact absurd h2' n2
        · exact m3.sep a d i a' i' e e'
  · by_cases z : a = x
    · rw [z]; exact bx
    · rw [upd_ne z, n] at e; cases e
end
end DL
set_option Elab.async false
set_option linter.all false
set_option maxRecDepth 100000
set_option maxHeartbeats 4000000
set_option autoImplicit false
namespace DL
open PySem PySem.Spec L2
open PyProof.Rows hiding St
/-- what __init__ promises: nf judges the bill -/
def spInit (K : PySem.W.Frag) (et : ET) (nf : List DV → MS → Rs MS DV) : Sp := fun vs H Q E => ∃ (x dx : Addr) (v : V), vs = [.ref x, v] ∧ H x = some (.ins (fC K) dx []) ∧
  spD K et 1 nf [v] H (fun w H' => H' x = some (.ins (fC K) dx []) ∧ ∀ p, upd H' x (.ins (fC K) dx [("own_bill", w)]) p = none → Q .non (upd (upd (upd H' x (.ins (fC K) dx [("own_bill", w)])) p (.tup [])) x (.ins (fC K) dx (fldsF w (.ref p))))) E
def initB (nd : Str) (p1 p2 p3 p4 p5 p6 q1 q2 q3 q4 : Pos) (x1 : Nat) : List Stmt :=
  [.Assign [.Attribute (.Name "self" p1) "own_bill" p2] (.Call (.Name nd p3) [.Name "bill" p4] [] p5) p6, .Assign [.Attribute (.Name "self" q1) "own_row" q2] (.Tuple [] x1 q3) q4]
structure FnFile (P : Program) (w : World) (K : PySem.W.Frag) (mg : Str → Option Value) (base : Heap) (et : ET) (k : Nat) (nf : List DV → MS → Rs MS DV) : Prop where
  ex : ∃ (f : Addr) (fd : FuncData), Mk K (fC K) f ∧ mg "File" = some (.ref (fC K)) ∧ Binds K fd ["self", "bill"] [] ∧ FnG P w K mg base k f fd ["self", "bill"] (spInit K et nf)
/-- the def __init__ of File -/
def DefI (K : PySem.W.Frag) (mg : Str → Option Value) (st : Stmt) : Prop := ∃ f fd, FunD K "__init__" "File.__init__" (defArgs st) (defBody st) (defScope st) [] [] f fd ∧ Mk K (fC K) f ∧ mg "File" = some (.ref (fC K))
theorem fnFile_of {P : Program} {w : World} {K : PySem.W.Frag} {mg : Str → Option Value} {base : Heap} {k j : Nat} {st : Stmt} {et : ET} {nd : Str} {nf : List DV → MS → Rs MS DV} (T : DefI K mg st) (c : FilK K) (S : FnScope ["self", "bill"] ["self", "bill"] (defScope st))
    (hb : ∀ (kV doc pm : Value) (an : Option Addr) (cdv ct : Value) (us : List Value), us.length = 2 → bindArgs (PySem.W.fnOf "__init__" "File.__init__" (defArgs st) (defBody st) (defScope st) .none kV doc pm an cdv ct) ⟨us, []⟩ = pure ((["self", "bill"] : List Str).zip us))
    (hbo : ∃ p1 p2 p3 p4 p5 p6 q1 q2 q3 q4 x1, defBody st = initB nd p1 p2 p3 p4 p5 p6 q1 q2 q3 q4 x1)
    (G : FnC P w K mg base et j nd nf) (hj : j ≤ k) (hnd : (nd == ("__debug__" : Str)) = false) (hgl : ∀ (f : Addr) (cdv : Value) (A : Around) (outer : List Env) (s : Shared) (H : Hp) (E : XK), Gl (cxOf (L2.CX P w) P w K mg base ["self", "bill"] "File.__init__" (defScope st) f cdv A outer s H E) nd)
    (hn1 : ∀ ds s, ds.length ≠ 1 → nf ds s = .no) : FnFile P w K mg base et (k + 1) nf := by
  obtain ⟨f, fd, F, M, hm⟩ := T
  refine ⟨f, fd, M, hm, F.bindsN hb, fnG_of F S (fun vs H Q E ⟨_, _, _, h, _⟩ => by rw [h]; rfl) fun cdv A outer s H vs Q E hr hgd hsp => ?_⟩
  obtain ⟨x, dx, v, rfl, hx, hq⟩ := hsp
  obtain ⟨p1, p2, p3, p4, p5, p6, q1, q2, q3, q4, x1, eb⟩ := hbo
  obtain ⟨f2, fd2, ps2, hlen2, hm2, kp2, hb2, G2⟩ := G.ex
  have here : Here (cxOf (L2.CX P w) P w K mg base ["self", "bill"] "File.__init__" (defScope st) f cdv A outer s H E) k (fun cls d _ H => E cls d H) := ⟨hr, hgd, takes_of rfl rfl rfl rfl, passes_of rfl, S.nd⟩
  have v0 : Vis (cxOf (L2.CX P w) P w K mg base ["self", "bill"] "File.__init__" (defScope st) f cdv A outer s H E).env.scope "self" := (S.par "self" (List.Mem.head _)).elim (fun z => .inl z) (fun z => .inr (.inl z))
  have v1 : Vis (cxOf (L2.CX P w) P w K mg base ["self", "bill"] "File.__init__" (defScope st) f cdv A outer s H E).env.scope "bill" := (S.par "bill" (List.Mem.tail _ (List.Mem.head _))).elim (fun z => .inl z) (fun z => .inr (.inl z))
  rw [eb]
  have P1 := pe_callG (p := p3) (pos := p5) here G2 hj hm2 kp2 hb2 (pa_cons (pe_var (i := 1) (pos := p4) (x := "bill") rfl v1) pa_nil) (hgl f cdv A outer s H E) hnd
  have hl2 : ps2.length = 1 := by
    obtain ⟨am, Fz, ds, ms, hl, _, _, _, dn, ok⟩ := hq
    have h1 : ds.length = 1 := by rw [← dn.length]; rfl
    by_cases z : ps2.length = 1
    · exact z
    · rw [hlen2 ds ms (by rw [h1]; exact fun y => z y.symm)] at ok
      exact ok.elim
  refine wss_of (pss_cons (ps_fld (pe_var (i := 0) (pos := p1) (x := "self") rfl v0) P1 (by rfl)) (pss_one (ps_fld (pe_var (i := 0) (pos := q1) (x := "self") rfl v0) (pe_tup pa_nil) (by rfl)))) ?_
  refine ⟨v, rfl, ?_⟩
  rw [hl2]
  obtain ⟨am, Fz, ds, ms, hl, sub, fam, mr, dn, ok⟩ := hq
  refine ⟨am, Fz, ds, ms, hl, sub, fam, mr, dn, ?_⟩
  cases q : nf ds ms with
  | no => rw [q] at ok; exact ok
  | ex c p s' => rw [q] at ok; exact ok
  | ok d s' =>
    rw [q] at ok
    intro y F' H' e1 e2 e3 e4 e5 e6
    obtain ⟨hx', k2⟩ := ok y F' H' e1 e2 e3 e4 e5 e6
    refine ⟨.ref x, rfl, x, fC K, dx, [], rfl, hx', c.cls, c.nb, by decide, ?_⟩
    refine ⟨by decide, fun p hp => ⟨.ref x, rfl, x, fC K, dx, [("own_bill", y)], rfl, ?_, c.cls, c.nr, (show (1 : Nat) < 1000 by decide), k2 p hp⟩⟩
    rw [upd_ne (fun z => by rw [← z, upd_same] at hp; cases hp), upd_same]
    rfl
/-- File(e) -/
def mNewF (nf : List DV → MS → Rs MS DV) (fe : Sg → Rs Sg DV) (g : Sg) : Rs Sg DV := (fe g).bind fun d g1 => match nf [d] g1.s with
  | .ok (.pu b) s' => if b.canLay0 = true then .ok (.pu (fileD s'.files.length)) { g1 with s := { s' with files := s'.files ++ [(b, .tuple [])] } } else .no
  | .ex c p s' => .ex c p { g1 with s := s' }
  | _ => .no
theorem under_guards {A : Around} {C : Addr} {us : List Value} {kw : List (Str × Value)} (h : A.guards = some []) : (A.under (.builtin "type.__call__" ⟨.ref C :: us, kw⟩)).guards = some [] := by
  first | exact h | simpa [Around.under, Code.isGuard, guardIds] using h
section
variable {X : Cx} {et : ET} {W : WX}
theorem de_newF {k j : Nat} {nf : List DV → MS → Rs MS DV} {e : Expr} {p pos : Pos} {fe : Sg → Rs Sg DV} (C : Here X k W) (G : FnFile X.prog X.w X.K X.mg X.base et j nf) (hn1 : ∀ ds s, ds.length ≠ 1 → nf ds s = .no) (hj : j + 1 ≤ k) (he1 : DE X et W e fe)
    (hg : Gl X "File" := by rfl) (he : starEach [e] X.env = (false, eval e X.env) :: starEach [] X.env := by exact star_ok rfl) : DE X et W (.Call (.Name "File" p) [e] [] pos) (mNewF nf fe) := fun am B F g σ H Q R hq => by
  refine ⟨fun pins s I => ?_⟩
  obtain ⟨f, fd, M, hm, hb, G⟩ := G.ex
  have P : wA X [e] σ H fun vs H1 => ∃ v, vs = [v] ∧ ∀ x dx, H1 x = none → H1 dx = none → dx ≠ x → spInit X.K et nf [.ref x, v] (upd (upd H1 dx (.own x)) x (.ins (fC X.K) dx []))
      (fun w H2 => w = .non ∧ ∃ vb p, H2 x = some (.ins (fC X.K) dx (fldsF vb (.ref p))) ∧ H2 dx = some (.own x) ∧ ∃ i, Q (.ref x) (upd (upd H2 dx (.xd (fldsF vb (.ref p)))) x (LkO X.K dx i))) (WE W σ) := by
    refine wa_of (pa_cons pe_w pa_nil he) ?_
    refine he1.then (goodV (Q := Q)) R hq fun d g1 v F1 H1 ex1 R1 dn1 hq1 => ?_
    refine ⟨v, rfl, fun x dx hx hdx ne => ⟨x, dx, v, rfl, upd_same, ?_⟩⟩
    obtain ⟨bx, fx, nxa⟩ := R1.bnone hx
    obtain ⟨bd, fd', nda⟩ := R1.bnone hdx
    have Ra := R1.fresh hdx (.own x)
    have Rb := Ra.fresh (p := x) (by rw [upd_ne (Ne.symm ne)]; exact hx) (.ins (fC X.K) dx [])
    have hxx : (upd (upd H1 dx (.own x)) x (.ins (fC X.K) dx [])) x = some (.ins (fC X.K) dx []) := upd_same
    have hdd : (upd (upd H1 dx (.own x)) x (.ins (fC X.K) dx [])) dx = some (.own x) := by rw [upd_ne ne, upd_same]
    have key : ∀ {F' H' : Hp}, Ext (upd (upd H1 dx (.own x)) x (.ins (fC X.K) dx [])) F1 F' → (∀ a o, (upd (upd H1 dx (.own x)) x (.ins (fC X.K) dx [])) a = some o → Fre et am a → KeepsO H' a o) → Fz et am F' H' →
        H' x = some (.ins (fC X.K) dx []) ∧ H' dx = some (.own x) ∧ F' x = none ∧ F' dx = none := fun {F' H'} ex fr fz => by
      have n1 : ∀ {a : Addr} {o : HO}, (upd (upd H1 dx (.own x)) x (.ins (fC X.K) dx [])) a = some o → F1 a = none → F' a = none := fun {a o} q1 q2 => by
        cases q : F' a with
        | none => rfl
        | some u => rw [ex.2 a u q q2] at q1; cases q1
      refine ⟨fr x _ hxx (Rb.fam.fre nxa hxx (fun _ z => by cases z)), fr dx _ hdd (Rb.fam.fre nda hdd (fun _ z => by cases z)), n1 hxx fx, n1 hdd fd'⟩
    by_cases hl : ([d] : List DV).length = 1
    · refine ⟨am, F1, [d], g1.s, rfl, Rb.sub, Rb.fam, Rb.ms, .cons dn1 .nil, ?_⟩
      cases q : nf [d] g1.s with
      | no => simp only [q] at hq1; exact hq1.elim
      | ex c p s' =>
        simp only [q] at hq1
        intro cls da F' H' ex sub fam fr mr r
        obtain ⟨R', ex'⟩ := Rb.after ex sub fam fr mr
        exact hq1 cls da F' H' ex' R' r
      | ok y s' =>
        cases y with
        | pu b =>
          simp only [q] at hq1
          split at hq1
          · rename_i lb
            intro w F' H' ex sub fam fr mr dw
            obtain ⟨R', ex'⟩ := Rb.after ex sub fam fr mr
            obtain ⟨k1, k2, k3, k4⟩ := key ex fr fam
            refine ⟨k1, fun p hp => ?_⟩
            have npx : p ≠ x := fun z => by rw [z, upd_same] at hp; cases hp
            have hp' : H' p = none := by rw [upd_ne npx] at hp; exact hp
            have npd : p ≠ dx := fun z => by rw [z, k2] at hp'; cases hp'
            obtain ⟨R2, ex2⟩ := R'.alloc hp' (.tup [])
            have e2x : (upd H' p (.tup [])) x = some (.ins (fC X.K) dx []) := by rw [upd_ne (Ne.symm npx)]; exact k1
            have e2d : (upd H' p (.tup [])) dx = some (.own x) := by rw [upd_ne (Ne.symm npd)]; exact k2
            have dp : Dn X.K et (upd F' p (.tup [])) (.ref p) (.tuple []) := .tup (.inl (.inl upd_same)) .nil
            obtain ⟨R3, ex3⟩ := R2.addF (vb := w) (vr := .ref p) (b := b) (r := .tuple []) e2x e2d (by rw [upd_ne (Ne.symm npx)]; exact k3) (by rw [upd_ne (Ne.symm npd)]; exact k4) bx bd (Dn.up dw ex2.1) dp lb rfl
            refine ⟨rfl, w, p, upd_same, ?_, s'.files.length, ?_⟩
            · rw [upd_ne ne, upd_ne (Ne.symm npd), upd_ne ne]; exact k2
            · have eH : (upd (upd (upd (upd (upd H' x (.ins (fC X.K) dx [("own_bill", w)])) p (.tup [])) x (.ins (fC X.K) dx (fldsF w (.ref p)))) dx (.xd (fldsF w (.ref p)))) x (LkO X.K dx s'.files.length)) = upd (upd (upd H' p (.tup [])) dx (.xd (fldsF w (.ref p)))) x (LkO X.K dx s'.files.length) := by
                funext a
                by_cases ha : a = x
                · rw [ha, upd_same, upd_same]
                · rw [upd_ne ha, upd_ne ha]
                  by_cases hb : a = dx
                  · rw [hb, upd_same, upd_same]
                  · rw [upd_ne hb, upd_ne hb, upd_ne ha]
                    by_cases hc : a = p
                    · rw [hc, upd_same, upd_same]
                    · rw [upd_ne hc, upd_ne hc, upd_ne ha]
              rw [eH]
              exact hq1 (.ref x) _ _ ((ex'.trans ex2).trans ex3) R3 (Dn.fil upd_same)
          · exact hq1.elim
        | own _ => simp only [q] at hq1; exact hq1.elim
        | m => simp only [q] at hq1; exact hq1.elim
        | scr _ => simp only [q] at hq1; exact hq1.elim
        | clo _ => simp only [q] at hq1; exact hq1.elim
        | exc _ _ => simp only [q] at hq1; exact hq1.elim
        | dic _ => simp only [q] at hq1; exact hq1.elim
        | dki _ => simp only [q] at hq1; exact hq1.elim
    · exact absurd rfl hl
  refine wpAny_Call_Name_kw (ld_glob I hg hm ?_ (by decide))
  refine PySem.W.callWith_K (h₀ := X.base) I.ok.mod.kin M.kp (thn (P.run pos pins s I) fun us s1 ⟨vs, H1, I1, r, v, ev, hsp⟩ => ⟨I1.kIn, ?_⟩) he rfl
  subst ev
  have hq := hsp (s1.heap.objs.size + 1) s1.heap.objs.size (I1.hok.fresh (Nat.le_succ _)) (I1.hok.fresh (Nat.le_refl _)) (Nat.ne_of_lt (Nat.lt_succ_self _))
  have I2 := Inv.made (C := fC X.K) I1
  have r2 : Vals [V.ref (s1.heap.objs.size + 1), v] (Value.ref (s1.heap.objs.size + 1) :: us) := .cons rfl r
  have hl : (Value.ref (s1.heap.objs.size + 1) :: us).length = 2 := by rw [← r2.length]; rfl
  have b := hb { s1 with heap := (s1.heap.push PySem.W.emptyDict).push (PySem.W.instObj (fC X.K) s1.heap.objs.size) } (Value.ref (s1.heap.objs.size + 1) :: us) I2.kIn (by rw [List.append_nil]; exact hl)
  rw [List.append_nil] at b
  have hr : Room (j + 1) X.A := C.hr.mono hj
  refine wpAny_call (make_map (f := f) I1.kIn M.makes M.init (beq_iff_eq.mp M.fn) (codeAny_mono (G.run _ X.stack _ _ ⟨Value.ref (s1.heap.objs.size + 1) :: us, []⟩ (Value.ref (s1.heap.objs.size + 1) :: us) _ _ (WE W σ) (hr.make (fC X.K) us []) (under_guards C.hg)
    (I2.env0.make (fC X.K) us []) b r2 hq) fun rr s' hq' => ?_))
  cases rr with
  | error e => exact passAt C.tk σ pins _ _ e s' I2 hq'
  | ok fl =>
    cases fl with
    | ret u =>
      obtain ⟨w, H', I3, rv, ew, vb, p, ex, ed, i, q3⟩ := I2.after hq'
      subst ew
      exact ⟨rv, ⟨V.ref (s1.heap.objs.size + 1), _, inv_close i I3 ex, rfl, q3⟩⟩
    | next => exact False.elim hq'
    | brk => exact False.elim hq'
    | cont => exact False.elim hq'
end
end DL
set_option Elab.async false
set_option linter.all false
set_option maxRecDepth 100000
set_option maxHeartbeats 4000000
set_option autoImplicit false
namespace DL
open PySem PySem.Spec L2
open PyProof.Rows hiding St
def kwB : List (Str × V) := [("many", .int 1)]
structure FnMK (P : Program) (w : World) (K : PySem.W.Frag) (mg : Str → Option Value) (base : Heap) (et : ET) (k : Nat) (m : Str) (fn : List DV → MS → Rs MS DV) : Prop where
  ex : ∃ (f : Addr) (fd : FuncData), (∀ ds s, ds.length ≠ 2 → fn ds s = .no) ∧ Meth K (fC K) m f ∧ (∃ ds, Vals [.int 1] ds ∧ Binds K fd ["self", "many"] ds) ∧ KBn K fd ["self", "many"] 1 ["many"] (fun us ws => us ++ ws) (fun vs zs => vs ++ zs) ∧ FnG P w K mg base k f fd ["self", "many"] (spD K et 2 fn)
def DefMK (K : PySem.W.Frag) (m : Str) (st : Stmt) : Prop := ∃ f fd, FunD K m ("File." ++ m) (defArgs st) (defBody st) (defScope st) [] kwB f fd ∧ Meth K (fC K) m f
theorem fnMK_of {P : Program} {w : World} {K : PySem.W.Frag} {mg : Str → Option Value} {base : Heap} {k : Nat} {m : Str} {st : Stmt} {N : List Str} {et : ET} {fb : Sg → Rs Sg Fl}
    (T : DefMK K m st) (S : FnScope N ["self", "many"] (defScope st))
    (hb0 : ∀ (D : Addr) (doc pm : Value) (an : Option Addr) (cdv ct : Value) (us ks : List Value), us.length = 1 → ks.length = 1 →
      KwChain D ((["many"] : List Str).zip ks) (bindArgs (PySem.W.fnOf m ("File." ++ m) (defArgs st) (defBody st) (defScope st) .none (.ref D) doc pm an cdv ct) ⟨us, []⟩) ((["self", "many"] : List Str).zip (us ++ ks)))
    (hbk : ∀ (D : Addr) (doc pm : Value) (an : Option Addr) (cdv ct : Value) (us ws : List Value), us.length = 1 → ws.length = 1 →
      bindArgs (PySem.W.fnOf m ("File." ++ m) (defArgs st) (defBody st) (defScope st) .none (.ref D) doc pm an cdv ct) ⟨us, (["many"] : List Str).zip ws⟩ = pure ((["self", "many"] : List Str).zip (us ++ ws)))
    (hbody : ∀ (f : Addr) (cdv : Value) (A : Around) (outer : List Env) (s : Shared) (H : Hp) (E : XK), Here (cxOf (L2.CX P w) P w K mg base N ("File." ++ m) (defScope st) f cdv A outer s H E) k (fun cls d _ H => E cls d H) →
      DSs (cxOf (L2.CX P w) P w K mg base N ("File." ++ m) (defScope st) f cdv A outer s H E) et (fun cls d _ H => E cls d H) (defBody st) fb) : FnMK P w K mg base et (k + 1) m (fnB 2 N.length fb) := by
  obtain ⟨f, fd, F, hm⟩ := T
  refine ⟨f, fd, fun ds s h => if_neg h, hm, F.binds0 1 (by decide) rfl hb0, ?_, fnD_of F S fun cdv A outer s H E here => hbody f cdv A outer s H E here⟩
  obtain ⟨mv, hk⟩ := F.kbinds0 (ps := ["self", "many"]) 1 ["many"] [] (fun {α} (us _ ws : List α) => us ++ ws) (by decide) (fun q hq => by cases hq) (fun a _ c => a.append c) (fun D doc pm an cdv ct us mv ws l1 l2 l3 => hbk D doc pm an cdv ct us ws l1 l3)
  exact hk
section
variable {X : Cx} {et : ET} {W : WX}
/-- o.back() -/
def mBack0 (fn : List DV → MS → Rs MS DV) (fo : Sg → Rs Sg DV) (g : Sg) : Rs Sg DV := (fo g).bind fun d g1 => if isFil g1 d = true then endS g1 (fn [d, .pu (.int 1)] g1.s) else .no
/-- o.back(many=e) -/
def mBackK (fn : List DV → MS → Rs MS DV) (fo fe : Sg → Rs Sg DV) (g : Sg) : Rs Sg DV := (fo g).bind fun d g1 => if isFil g1 d = true then (fe g1).bind fun y g2 => endS g2 (fn [d, y] g2.s) else .no
theorem de_back0 {k j : Nat} {m : Str} {fn : List DV → MS → Rs MS DV} {o : Expr} {apos pos : Pos} {fo : Sg → Rs Sg DV} (C : Here X k W) (c : FilK X.K) (G : FnMK X.prog X.w X.K X.mg X.base et j m fn) (hj : j ≤ k) (ho : DE X et W o fo)
    (hl : ∀ vb vr, (fldsF vb vr).lookup m = none := by intro _ _; rfl) {pl : Sem Bool}
    (ht : eval (.Call (.Attribute o m apos) [] [] pos) X.env = (do
      let ov ← eval o X.env
      standAt apos.atName
      let (f, first) ← holding [ov] (getMethod ov m pl)
      callWith pos f first (backTo pos (starEach [] X.env)) (backToKw pos (keywordEach [] X.env))) := by rfl) :
    DE X et W (.Call (.Attribute o m apos) [] [] pos) (mBack0 fn fo) := fun am B F g σ H Q R hq => by
  refine ⟨fun pins s I => ?_⟩
  obtain ⟨f, fd, hlen, hm, ⟨ds, rd, hb⟩, _, G⟩ := G.ex
  have P : wE X o σ H fun x H1 => FilAt X.K H1 x ∧ spD X.K et 2 fn [x, .int 1] H1 Q (WE W σ) := by
    refine ho.then (goodV (Q := Q)) R hq fun d g1 v F1 H1 ex1 R1 dn1 hq1 => ?_
    split at hq1
    · rename_i hf
      exact ⟨R1.filAt dn1 hf, sp_of R1 (.cons dn1 (.cons (show DenP X.K et am F1 (.int 1) (.pu (.int 1)) from Dn.int 1) .nil)) hlen hq1⟩
    · exact hq1.elim
  refine PySem.W.methodCall_KW (pl := pl) (thn (P.run pins s I) fun u s1 ⟨x, H1, I1, rx, ⟨a, dx, i, vb, vr, ex, ea, ed⟩, q⟩ => ?_) ht
  subst ex
  obtain rfl : u = Value.ref a := rx
  refine fgetmeth I1 ea ed c.cls hm (hl vb vr) ?_
  refine PySem.W.callWith_K0 (first := [.ref a]) I1.kIn hm.kp ?_
  have r : Vals [.ref a, .int 1] (.ref a :: ds) := .cons rfl rd
  have hlu : (([.ref a] : List Value) ++ ds).length = 2 := by
    have := rd.length
    rw [List.length_append, ← this]; rfl
  have b := hb s1 [.ref a] I1.kIn hlu
  refine wpAny_call (codeAny_mono (G.run X.A X.stack s1 H1 ⟨[.ref a], []⟩ ([.ref a] ++ ds) [.ref a, .int 1] Q (WE W σ) (C.hr.mono hj) C.hg I1.env0 b r q) fun rr s' hq' => ?_)
  cases rr with
  | error e => exact passAt C.tk σ pins H1 s1 e s' I1 hq'
  | ok fl =>
    cases fl with
    | ret u => exact I1.after hq'
    | next => exact False.elim hq'
    | brk => exact False.elim hq'
    | cont => exact False.elim hq'
theorem de_backK {k j : Nat} {m : Str} {fn : List DV → MS → Rs MS DV} {o e : Expr} {apos pos kp : Pos} {fo fe : Sg → Rs Sg DV} (C : Here X k W) (c : FilK X.K) (G : FnMK X.prog X.w X.K X.mg X.base et j m fn) (hj : j ≤ k) (ho : DE X et W o fo) (he : DE X et W e fe)
    (hl : ∀ vb vr, (fldsF vb vr).lookup m = none := by intro _ _; rfl) {pl : Sem Bool}
    (ht : eval (.Call (.Attribute o m apos) [] [⟨some "many", e, kp⟩] pos) X.env = (do
      let ov ← eval o X.env
      standAt apos.atName
      let (f, first) ← holding [ov] (getMethod ov m pl)
      callWith pos f first (backTo pos (starEach [] X.env)) (backToKw pos (keywordEach [⟨some "many", e, kp⟩] X.env))) := by rfl)
    (hall : (backToKw pos (keywordEach [⟨some "many", e, kp⟩] X.env)).all (·.1.isSome) = true := by rfl) (hks : (backToKw pos (keywordEach [⟨some "many", e, kp⟩] X.env)).filterMap (·.1) = (["many"] : List Str) := by rfl)
    (hpl : ((backTo pos (starEach [] X.env)).any (·.1) || (backToKw pos (keywordEach [⟨some "many", e, kp⟩] X.env)).any (·.1.isNone)) = false := by rfl) :
    DE X et W (.Call (.Attribute o m apos) [] [⟨some "many", e, kp⟩] pos) (mBackK fn fo fe) := fun am B F g σ H Q R hq => by
  refine ⟨fun pins s I => ?_⟩
  obtain ⟨f, fd, hlen, hm, _, hb, G⟩ := G.ex
  have P : wE X o σ H fun x H1 => FilAt X.K H1 x ∧ wK X [⟨some "many", e, kp⟩] σ H1 fun zs H2 => zs.length = 1 ∧ spD X.K et 2 fn (x :: zs) H2 Q (WE W σ) := by
    refine ho.then (goodV (Q := Q)) R hq fun d g1 v F1 H1 ex1 R1 dn1 hq1 => ?_
    split at hq1
    · rename_i hf
      refine ⟨R1.filAt dn1 hf, ⟨fun pos pins s I => (pk_cons pe_w pk_nil).run pos pins s σ H1 _ I ?_⟩⟩
      refine he.then (goodV (Q := Q)) R1 hq1 fun y g2 vy F2 H2 ex2 R2 dn2 hq2 => ?_
      exact ⟨rfl, sp_of R2 (.cons (dn1.up ex2.1) (.cons dn2 .nil)) hlen hq2⟩
    · exact hq1.elim
  refine PySem.W.methodCall_KW (pl := pl) (thn (P.run pins s I) fun u s1 ⟨x, H1, I1, rx, ⟨a, dx, i, vb, vr, ex, ea, ed⟩, q⟩ => ?_) ht
  subst ex
  obtain rfl : u = Value.ref a := rx
  refine fgetmeth I1 ea ed c.cls hm (hl vb vr) ?_
  refine PySem.W.callWith_KW0 (first := [.ref a]) (h₀ := X.base) I1.ok.mod.kin hm.kp hall (thn (q.run pos pins s1 I1) fun ws s2 ⟨zs, H2, I2, rz, lz, q2⟩ => ⟨I2.kIn, ?_⟩) hpl
  rw [hks]
  have b := hb.to s2 [.ref a] ws I2.kIn rfl (rz.length.symm.trans lz)
  refine wpAny_call (codeAny_mono (G.run X.A X.stack s2 H2 ⟨[.ref a], (["many"] : List Str).zip ws⟩ ([.ref a] ++ ws) (.ref a :: zs) Q (WE W σ) (C.hr.mono hj) C.hg I2.env0 b (show Vals (.ref a :: zs) (.ref a :: ws) from .cons rfl rz) q2) fun rr s' hq' => ?_)
  cases rr with
  | error e => exact passAt C.tk σ pins H2 s2 e s' I2 hq'
  | ok fl =>
    cases fl with
    | ret u => exact I2.after hq'
    | next => exact False.elim hq'
    | brk => exact False.elim hq'
    | cont => exact False.elim hq'
end
end DL
set_option Elab.async false
set_option linter.all false
set_option maxRecDepth 100000
set_option maxHeartbeats 4000000
set_option autoImplicit false
namespace DL
open PySem PySem.Spec L2
open PyProof.Rows hiding St
structure PrD where
  m : Str
  st : Stmt
def prP (K : PySem.W.Frag) (m : Str) : Addr := match PySem.W.findIn K (.ref (fC K)) m with
  | some (some (.ref p)) => p
  | _ => 0
def prA (K : PySem.W.Frag) (m : Str) : Addr := match PySem.W.recIn K (prP K m) "property" with
  | some (.ref g :: _) => g
  | _ => 0
def prW (K : PySem.W.Frag) (m : Str) : He.FnW := match K.lookup (prA K m) with
  | some ⟨_, _, .func fd, _⟩ => some (fd.name, fd.qualname, fd.params, fd.body, fd.scope, fd.globals, fd.closure, fd.builtins)
  | _ => none
def PrD.val (d : PrD) : He.FnW := some (d.m, "File." ++ d.m, defArgs d.st, .stmts (defBody d.st), defScope d.st, mainGlobals, [], builtinsNs)
def recB (K : PySem.W.Frag) (m : Str) : Bool := match PySem.W.recIn K (prP K m) "property" with
  | some (.ref _ :: _) => true
  | _ => false
def PrD.ok (K : PySem.W.Frag) (d : PrD) : Bool := He.eqO (PySem.W.findIn K (.ref (fC K)) d.m) (some (some (.ref (prP K d.m)))) && (He.eqO (PySem.W.specialIn K (.ref (prP K d.m)) "__get__") (some (some (.builtin "property.__get__"))) &&
  (decide (PySem.W.takesIn K (.ref (prP K d.m)) = some true) && (recB K d.m && (PySem.W.keepIn K (.ref (prA K d.m)) && (match K.lookup (prA K d.m) with
  | some ⟨_, _, .func fd, _⟩ => PySem.W.codeIn K fd.code ("File." ++ d.m) && (He.dflB K fd.defaults [] && He.kwdB K fd.kwdefaults [])
  | _ => false)))))
theorem PrD.def_ {K : PySem.W.Frag} {d : PrD} (e : prW K d.m = d.val) (c : d.ok K = true) : DefP K d.m d.st := by
  unfold PrD.ok at c
  obtain ⟨c1, c⟩ := He.ba c
  obtain ⟨c2, c⟩ := He.ba c
  obtain ⟨c3, c⟩ := He.ba c
  obtain ⟨c4, c⟩ := He.ba c
  obtain ⟨kp, c5⟩ := He.ba c
  have rec_ : ∃ rest, PySem.W.recIn K (prP K d.m) "property" = some (.ref (prA K d.m) :: rest) := by
    unfold recB at c4
    unfold prA
    split at c4
    · rename_i g r q
      rw [q]
      exact ⟨r, rfl⟩
    · cases c4
  refine ⟨prP K d.m, prA K d.m, ?_⟩
  unfold prW at e
  cases q : K.lookup (prA K d.m) with
  | none =>
    rw [q] at c5
    cases c5
  | some o =>
    obtain ⟨oc, od, dt, osl⟩ := o
    rw [q] at c5 e
    cases dt with
    | func fd =>
      obtain ⟨n1, n2, n3, n4, n5, n6, n7, n8, n9, n10, n11, n12, n13, n14, n15⟩ := fd
      have e2 : (some (n1, n2, n3, n4, n5, n6, n7, n15) : He.FnW) = some (d.m, "File." ++ d.m, defArgs d.st, .stmts (defBody d.st), defScope d.st, mainGlobals, [], builtinsNs) := e
      simp only [Option.some.injEq, Prod.mk.injEq] at e2
      obtain ⟨h1, h2, h3, h4, h5, h6, h7, h8⟩ := e2
      subst h1 h2 h3 h4 h5 h6 h7 h8
      have c6 : (PySem.W.codeIn K n13 ("File." ++ d.m) && (He.dflB K n8 [] && He.kwdB K n9 [])) = true := c5
      obtain ⟨k1, k2⟩ := He.ba c6
      obtain ⟨k3, k4⟩ := He.ba k2
      exact ⟨_, ⟨⟨oc, od, n8, n9, n10, n11, n12, n13, n14, osl, rfl, q, k1, He.dflB_ok k3, He.kwdB_ok k4⟩, kp⟩, He.eqO_ok c1, He.eqO_ok c2, of_decide_eq_true c3, rec_⟩
    | _ => cases c5
/-- the def __call__ is a def -/
def callB (K : PySem.W.Frag) : Bool := PySem.W.fnIn K (He.ma K (fC K) "__call__")
theorem callB_ok {K : PySem.W.Frag} (h : callB K = true) : ∀ f, Meth K (fC K) "__call__" f → PySem.W.fnIn K f = true := fun f hm => by
  unfold callB He.ma at h
  rw [hm.at_] at h
  exact h
abbrev AlP : Type := AlZ × List He.FnW
def obsP (fa : List He.Fa) (fn : List He.DefD) (tf : List He.Defn) (ini : List IniD) (pr : List PrD) (ex : PySem.W.Frag → Bool) (g : Addr → Option Obj) (K : PySem.W.Frag) : AlP := (obsZ fa fn tf ini ex g K, pr.map fun d => prW K d.m)
def obsPG (n : Nat) (fa : List He.Fa) (fn : List He.DefD) (tf : List He.Defn) (ini : List IniD) (pr : List PrD) (ex : PySem.W.Frag → Bool) (g : Addr → Option Obj) : AlP := obsP fa fn tf ini pr ex g (He.frT g (asZ g n))
def valP (fn : List He.DefD) (ini : List IniD) (pr : List PrD) : AlP := (valZ fn ini, pr.map PrD.val)
theorem saysZ_of {fa : List He.Fa} {fn : List He.DefD} {tf : List He.Defn} {ini : List IniD} {ex : PySem.W.Frag → Bool} {h : Heap} {as : List Addr} (e : obsZ fa fn tf ini ex h.get? (He.frT h.get? as) = valZ fn ini) : SaysZ fa fn tf ini ex h (He.frT h.get? as) := by
  have e1 : He.obsD fa fn (He.frT h.get? as) = He.valD fn := congrArg (fun z : AlZ => z.1) e
  have e2 : (ex (He.frT h.get? as) && He.tabsB h.get? tf (He.frT h.get? as)) = true := congrArg (fun z : AlZ => z.2.1) e
  have e3 : ini.map (fun d => iniObs (He.frT h.get? as) d.x) = ini.map IniD.val := congrArg (fun z : AlZ => z.2.2) e
  obtain ⟨h1, h2⟩ := He.ba e2
  refine ⟨e1, h1, fun p hp => (He.ba (List.all_eq_true.mp h2 p hp)).1, fun p hp => ?_, fun p hp => ?_, e3⟩
  · have h4 := (He.ba (List.all_eq_true.mp h2 p hp)).2
    split at h4
    · rename_i o q
      exact He.frT_none q h4
    · cases h4
  · have h4 := (He.ba (List.all_eq_true.mp h2 p hp)).2
    split at h4
    · rename_i o q
      rw [q, He.emptyTab_eq h4]
    · cases h4
structure SaysP (fa : List He.Fa) (fn : List He.DefD) (tf : List He.Defn) (ini : List IniD) (pr : List PrD) (ex : PySem.W.Frag → Bool) (h : Heap) (K : PySem.W.Frag) : Prop extends SaysZ fa fn tf ini ex h K where
  pr_ : pr.map (fun d => prW K d.m) = pr.map PrD.val
def hookP (n : Nat) (fa : List He.Fa) (fn : List He.DefD) (tf : List He.Defn) (ini : List IniD) (pr : List PrD) (ex : PySem.W.Frag → Bool) : PySem.W.Hook where
  α := AlP
  obs := fun s => obsPG n fa fn tf ini pr ex s.heap.get?
  val := fun _ => valP fn ini pr
  says := fun _ h => ∃ K : PySem.W.Frag, K.In h ∧ SaysP fa fn tf ini pr ex h K
  of := fun _ s e => ⟨_, He.frT_in, ⟨saysZ_of (congrArg (fun z : AlP => z.1) e), congrArg (fun z : AlP => z.2) e⟩⟩
  keeps := fun _ _ _ ⟨K, hK, c⟩ k => ⟨K, PySem.W.Frag.In.keeps hK k, ⟨⟨c.d, c.more, c.hd, c.out, fun p hp => k _ _ (c.empty p hp), c.ini⟩, c.pr_⟩⟩
theorem obsPG_eq {n : Nat} {fa : List He.Fa} {fn : List He.DefD} {tf : List He.Defn} {ini : List IniD} {pr : List PrD} {ex : PySem.W.Frag → Bool} {g : Addr → Option Obj} {s : Shared} (h : ∀ a, g a = s.heap.get? a) : obsPG n fa fn tf ini pr ex g = (hookP n fa fn tf ini pr ex).obs s := by
  have e : g = s.heap.get? := funext h
  rw [e] <;> rfl
theorem SaysP.prop {fa : List He.Fa} {fn : List He.DefD} {tf : List He.Defn} {ini : List IniD} {pr : List PrD} {ex : PySem.W.Frag → Bool} {h : Heap} {K : PySem.W.Frag} (c : SaysP fa fn tf ini pr ex h K) (i : Nat) {d : PrD} (ok : d.ok K = true) (hd : pr[i]? = some d := by rfl) : DefP K d.m d.st := by
  have e2 : (pr.map (fun d => prW K d.m))[i]? = (pr.map PrD.val)[i]? := by rw [c.pr_]
  rw [List.getElem?_map, List.getElem?_map, hd] at e2
  exact PrD.def_ (Option.some.inj e2) ok
end DL
set_option Elab.async false
set_option linter.all false
set_option maxRecDepth 100000
set_option maxHeartbeats 4000000
set_option autoImplicit false
namespace DL
open PySem PySem.Spec L2
open PyProof.Rows hiding St
def topS (i : Nat) : Stmt := PySem.Challenge.pw_bestoflast_k17_files_refused.main.body.getD i (.Pass ⟨0, 0, 0, 0⟩)
abbrev s_is_whole : Stmt := topS 16
abbrev s_first_wrong : Stmt := topS 17
abbrev s_is_rule : Stmt := topS 18
abbrev s_index_in : Stmt := topS 19
abbrev s_is_term : Stmt := topS 23
abbrev s_fault_of : Stmt := topS 24
abbrev s_need_bill : Stmt := topS 25
abbrev s_width_of : Stmt := topS 26
abbrev s_paid_at : Stmt := topS 27
abbrev s_pays_in : Stmt := topS 28
abbrev s__law_begun : Stmt := topS 32
abbrev s__law_draw : Stmt := topS 33
abbrev s__law_of : Stmt := topS 34
abbrev s__law_weights : Stmt := topS 35
abbrev s__law_drawn_bill : Stmt := topS 36
abbrev s__law_word : Stmt := topS 37
abbrev s__law_outcome : Stmt := topS 38
abbrev s__law_refused : Stmt := topS 39
abbrev s__law_right : Stmt := topS 40
abbrev s__law_full_right : Stmt := topS 41
abbrev s_law : Stmt := topS 42
def clsS_ (i : Nat) : Stmt := match topS 30 with
  | .ClassDef (body := b) .. => b.getD i (.Pass ⟨0, 0, 0, 0⟩)
  | s => s
abbrev s_File___init__ : Stmt := clsS_ 0
abbrev s_File_bill : Stmt := clsS_ 1
abbrev s_File_row : Stmt := clsS_ 2
abbrev s_File_add : Stmt := clsS_ 3
abbrev s_File___call__ : Stmt := clsS_ 4
abbrev s_File_index : Stmt := clsS_ 5
abbrev s_File_back : Stmt := clsS_ 6
abbrev s_File___len__ : Stmt := clsS_ 9
abbrev s_File___contains__ : Stmt := clsS_ 10
abbrev s_BadRule : Stmt := topS 3
abbrev s_BadRow : Stmt := topS 4
abbrev s_BadBill : Stmt := topS 5
abbrev s_BadNumber : Stmt := topS 6
abbrev s_BadKind : Stmt := topS 7
abbrev s_BadPaper : Stmt := topS 8
abbrev s_BadText : Stmt := topS 9
abbrev s_Nothing : Stmt := topS 10
def tqL : List (He.Defn × Str) := [(("_law_right", none), ("_law_right" : Str) ++ ".<locals>." ++ "<lambda>"), (("_law_full_right", none), ("_law_full_right" : Str) ++ ".<locals>." ++ "<lambda>"), (("law", none), ("law" : Str) ++ ".<locals>." ++ "<lambda>")]
def i_BadRule : IniD := ⟨"BadRule", s_BadRule, "number", "number", "refused"⟩
def i_BadRow : IniD := ⟨"BadRow", s_BadRow, "number", "number", "refused"⟩
def i_BadBill : IniD := ⟨"BadBill", s_BadBill, "part", "part", "refused"⟩
def i_BadNumber : IniD := ⟨"BadNumber", s_BadNumber, "value", "value", "refused"⟩
def i_BadKind : IniD := ⟨"BadKind", s_BadKind, "value", "value", "refused"⟩
def i_BadPaper : IniD := ⟨"BadPaper", s_BadPaper, "part", "part", "refused"⟩
def i_BadText : IniD := ⟨"BadText", s_BadText, "line", "line", "refused"⟩
def i_Nothing : IniD := ⟨"Nothing", s_Nothing, "value", "value", "nothing"⟩
def mkD (x : Str) (st : Stmt) : He.DefD := ⟨(x, none), x, x, defArgs st, defBody st, defScope st, [], []⟩
def fnL : List He.DefD := ([mkD "is_whole" s_is_whole, mkD "first_wrong" s_first_wrong, mkD "is_rule" s_is_rule, mkD "index_in" s_index_in, mkD "is_term" s_is_term, mkD "fault_of" s_fault_of, mkD "need_bill" s_need_bill, mkD "width_of" s_width_of, mkD "paid_at" s_paid_at, mkD "pays_in" s_pays_in, mkD "_law_begun" s__law_begun, mkD "_law_draw" s__law_draw, mkD "_law_of" s__law_of, mkD "_law_weights" s__law_weights, mkD "_law_drawn_bill" s__law_drawn_bill] : List He.DefD) ++ ([mkD "_law_word" s__law_word, mkD "_law_outcome" s__law_outcome, mkD "_law_refused" s__law_refused, mkD "_law_right" s__law_right, mkD "_law_full_right" s__law_full_right, mkD "law" s_law, ⟨("File", some "__init__"), "__init__", "File.__init__", defArgs s_File___init__, defBody s_File___init__, defScope s_File___init__, [], []⟩, ⟨("File", some "add"), "add", "File." ++ "add", defArgs s_File_add, defBody s_File_add, defScope s_File_add, [], []⟩, ⟨("File", some "__call__"), "__call__", "File." ++ "__call__", defArgs s_File___call__, defBody s_File___call__, defScope s_File___call__, [], []⟩, ⟨("File", some "index"), "index", "File." ++ "index", defArgs s_File_index, defBody s_File_index, defScope s_File_index, [], []⟩, ⟨("File", some "back"), "back", "File." ++ "back", defArgs s_File_back, defBody s_File_back, defScope s_File_back, [], [("many", .int 1)]⟩, ⟨("File", some "__len__"), "__len__", "File." ++ "__len__", defArgs s_File___len__, defBody s_File___len__, defScope s_File___len__, [], []⟩, ⟨("File", some "__contains__"), "__contains__", "File." ++ "__contains__", defArgs s_File___contains__, defBody s_File___contains__, defScope s_File___contains__, [], []⟩] : List He.DefD)
def prL : List PrD := [⟨"bill", s_File_bill⟩, ⟨"row", s_File_row⟩]
def faL : List He.Fa := ([.glo "is_whole", .glo "first_wrong", .glo "is_rule", .glo "index_in", .glo "is_term", .glo "fault_of", .glo "need_bill", .glo "width_of", .glo "paid_at", .glo "pays_in", .glo "_law_begun", .glo "_law_draw", .glo "_law_of", .glo "_law_weights", .glo "_law_drawn_bill"] : List He.Fa) ++ ([.glo "_law_word", .glo "_law_outcome", .glo "_law_refused", .glo "_law_right", .glo "_law_full_right", .glo "law", .glo "ResultError", .glo "BadRule", .glo "BadRow", .glo "BadBill", .glo "BadNumber", .glo "BadKind", .glo "BadPaper", .glo "BadText", .glo "Nothing"] : List He.Fa) ++ ([.glo "File", .free "bool", .free "enumerate", .free "int", .free "isinstance", .free "len", .free "list", .free "max", .free "min", .free "range", .free "repr", .free "sorted", .free "sum", .free "super", .free "tuple"] : List He.Fa) ++ ([.free "zip", .int "MOST_OWN" (50), .int "MOST_RESULT" (1000000), .int "MOST_RESULTS" (200), .int "MOST_TERMS" (2), .int "MOST_WEIGHT" (20), .int "MOST_WEIGHTS" (6), .cls "File", .noat "File" "own_bill", .noat "File" "own_row", .mkr "File", .meth "File" "add", .meth "File" "__call__", .meth "File" "index", .meth "File" "back"] : List He.Fa) ++ ([.meth "File" "__len__", .meth "File" "__contains__"] : List He.Fa)
abbrev rowR : PySem.W.OpenRow := PySem.W.OpenLaw.row PySem.Challenge.rw_bestoflast_k17_files_refused
def inL : List IniD := [i_BadRule, i_BadRow, i_BadBill, i_BadNumber, i_BadKind, i_BadPaper, i_BadText, i_Nothing]
def gdL : List (Str × PyData) := []
def exL (K : PySem.W.Frag) : Bool := (inL.all fun d => iniX PySem.Challenge.pw_bestoflast_k17_files_refused.main.file K d) && (clsB nmX flX "ResultError" "Nothing" K && (sysB K && (decide ((csOf K tqL).map (·.2.1)).Nodup && ((gdL.all fun p => gdB K p.1 p.2) && (callB K && prL.all fun d => d.ok K)))))
theorem it_BadRule : IniT PySem.Challenge.pw_bestoflast_k17_files_refused i_BadRule := ⟨NdefX.nscope_by (by decide +kernel), by decide +kernel, ⟨_, rfl, rfl⟩, ⟨_, _, _, _, _, _, _, _, _, _, _, rfl, fun _ _ _ _ => ⟨_, rfl⟩⟩, by decide +kernel, ⟨by decide, by decide, by decide⟩, fun _ _ _ _ _ us hl => match us, hl with | [_, _], _ => rfl, fun _ _ _ _ _ _ _ => rfl, rfl⟩
theorem it_BadRow : IniT PySem.Challenge.pw_bestoflast_k17_files_refused i_BadRow := ⟨NdefX.nscope_by (by decide +kernel), by decide +kernel, ⟨_, rfl, rfl⟩, ⟨_, _, _, _, _, _, _, _, _, _, _, rfl, fun _ _ _ _ => ⟨_, rfl⟩⟩, by decide +kernel, ⟨by decide, by decide, by decide⟩, fun _ _ _ _ _ us hl => match us, hl with | [_, _], _ => rfl, fun _ _ _ _ _ _ _ => rfl, rfl⟩
theorem it_BadBill : IniT PySem.Challenge.pw_bestoflast_k17_files_refused i_BadBill := ⟨NdefX.nscope_by (by decide +kernel), by decide +kernel, ⟨_, rfl, rfl⟩, ⟨_, _, _, _, _, _, _, _, _, _, _, rfl, fun _ _ _ _ => ⟨_, rfl⟩⟩, by decide +kernel, ⟨by decide, by decide, by decide⟩, fun _ _ _ _ _ us hl => match us, hl with | [_, _], _ => rfl, fun _ _ _ _ _ _ _ => rfl, rfl⟩
theorem it_BadNumber : IniT PySem.Challenge.pw_bestoflast_k17_files_refused i_BadNumber := ⟨NdefX.nscope_by (by decide +kernel), by decide +kernel, ⟨_, rfl, rfl⟩, ⟨_, _, _, _, _, _, _, _, _, _, _, rfl, fun _ _ _ _ => ⟨_, rfl⟩⟩, by decide +kernel, ⟨by decide, by decide, by decide⟩, fun _ _ _ _ _ us hl => match us, hl with | [_, _], _ => rfl, fun _ _ _ _ _ _ _ => rfl, rfl⟩
theorem it_BadKind : IniT PySem.Challenge.pw_bestoflast_k17_files_refused i_BadKind := ⟨NdefX.nscope_by (by decide +kernel), by decide +kernel, ⟨_, rfl, rfl⟩, ⟨_, _, _, _, _, _, _, _, _, _, _, rfl, fun _ _ _ _ => ⟨_, rfl⟩⟩, by decide +kernel, ⟨by decide, by decide, by decide⟩, fun _ _ _ _ _ us hl => match us, hl with | [_, _], _ => rfl, fun _ _ _ _ _ _ _ => rfl, rfl⟩
theorem it_BadPaper : IniT PySem.Challenge.pw_bestoflast_k17_files_refused i_BadPaper := ⟨NdefX.nscope_by (by decide +kernel), by decide +kernel, ⟨_, rfl, rfl⟩, ⟨_, _, _, _, _, _, _, _, _, _, _, rfl, fun _ _ _ _ => ⟨_, rfl⟩⟩, by decide +kernel, ⟨by decide, by decide, by decide⟩, fun _ _ _ _ _ us hl => match us, hl with | [_, _], _ => rfl, fun _ _ _ _ _ _ _ => rfl, rfl⟩
theorem it_BadText : IniT PySem.Challenge.pw_bestoflast_k17_files_refused i_BadText := ⟨NdefX.nscope_by (by decide +kernel), by decide +kernel, ⟨_, rfl, rfl⟩, ⟨_, _, _, _, _, _, _, _, _, _, _, rfl, fun _ _ _ _ => ⟨_, rfl⟩⟩, by decide +kernel, ⟨by decide, by decide, by decide⟩, fun _ _ _ _ _ us hl => match us, hl with | [_, _], _ => rfl, fun _ _ _ _ _ _ _ => rfl, rfl⟩
theorem it_Nothing : IniT PySem.Challenge.pw_bestoflast_k17_files_refused i_Nothing := ⟨NdefX.nscope_by (by decide +kernel), by decide +kernel, ⟨_, rfl, rfl⟩, ⟨_, _, _, _, _, _, _, _, _, _, _, rfl, fun _ _ _ _ => ⟨_, rfl⟩⟩, by decide +kernel, ⟨by decide, by decide, by decide⟩, fun _ _ _ _ _ us hl => match us, hl with | [_, _], _ => rfl, fun _ _ _ _ _ _ _ => rfl, rfl⟩
abbrev hkL : PySem.W.Hook := hookP 5 faL fnL (tqL.map (·.1)) inL prL exL
def obL (s : PySem.W.SharedT) : AlP := obsPG 5 faL fnL (tqL.map (·.1)) inL prL exL (HandSHeadRun.getT s)
theorem obL_eq (s : PySem.W.SharedT) : obL s = hkL.obs s.abs := obsPG_eq (HandSHeadRun.getT_eq s)
def namesL : List Str := (["_wall", "ResultError", "BadRule", "BadRow", "BadBill", "BadNumber", "BadKind", "BadPaper", "BadText", "Nothing", "MOST_RESULT", "MOST_RESULTS", "MOST_WEIGHTS", "MOST_WEIGHT", "is_whole"] : List Str) ++ (["first_wrong", "is_rule", "index_in", "MOST_OWN", "MOST_TERMS", "is_term", "fault_of", "need_bill", "width_of", "paid_at", "pays_in", "File", "_law_begun", "_law_draw", "_law_of"] : List Str) ++ (["_law_weights", "_law_drawn_bill", "_law_word", "_law_outcome", "_law_refused", "_law_right", "_law_full_right"] : List Str)
set_option maxHeartbeats 0 in
theorem runL (w : World) : HandSHeadRun.RunEq rowR (PySem.W.view rowR.prog [42]) hkL obL 6880 namesL w := by
  intro os
  kernel_rfl
end DL
set_option Elab.async false
set_option linter.all false
set_option maxRecDepth 100000
set_option maxHeartbeats 4000000
set_option autoImplicit false
namespace DL
open PySem PySem.Spec L2
open PyProof.Rows hiding St
theorem codeO_xd {c : Addr} {q : Str} {xs : List (Str × V)} : LamX.CodeO c q ≠ .xd xs := fun z => by unfold LamX.CodeO at z; cases z
theorem codeO_XO {e C d c : Addr} {q : Str} : XO e C d ≠ LamX.CodeO c q := fun z => by
  unfold XO LamX.CodeO at z
  have y1 := congrFun (HO.ext.inj z) (heapOf e (.ref C) (some d) #[])
  obtain ⟨oc, vs, t, h1, h2, h3⟩ := y1.mp ⟨_, _, heapOf_get, rfl, rfl, rfl⟩
  rw [heapOf_any h1] at h2
  cases h2
  cases h3
theorem codeO_ExO {e C c : Addr} {q : Str} : L2.ExO (.ref C) e ≠ LamX.CodeO c q := fun z => by
  unfold L2.ExO LamX.CodeO at z
  have y1 := congrFun (HO.ext.inj z) (heapOf e (.ref C) none #[.none, .none, .none, .none, .none])
  obtain ⟨oc, vs, t, h1, h2, h3⟩ := y1.mp ⟨_, _, heapOf_get, ⟨rfl, rfl⟩, rfl, rfl, rfl, by decide⟩
  rw [heapOf_any h1] at h2
  cases h2
  cases h3
theorem star12_ok {a b : Expr} {es : List Expr} {env : Env} (h : isStar a = false) (h2 : isStar b = false) : starEach (a :: b :: es) env = (false, eval a env) :: (false, eval b env) :: starEach es env := (star_ok h).trans (by rw [star_ok h2])
def mCallL1 (fn : List DV → MS → Rs MS DV) (fo : Sg → Rs Sg DV) (js : List Nat) (df : Option Int) (fb : Sg → Rs Sg DV) (fs : Sg → Rs Sg (List DV)) (g : Sg) : Rs Sg DV := (fo g).bind fun d0 g0 => (fs g0).bind fun ds g1 => match caps g1.r js with
  | some ws => (match fn (d0 :: .clo (cloG fb (dfD df) ws) :: ds) g1.s with
    | .ok (.pu d) s => .ok (.pu d) { g1 with s := s }
    | _ => .no)
  | none => .no
section
variable {X : Cx} {et : ET} {W : WX}
theorem de_callLam {k j jl : Nat} {x : Str} {fn : List DV → MS → Rs MS DV} {p pos lpos : Pos} {params : Arguments} {body : Expr} {scope : Scope} {es : List Expr} {fs : Sg → Rs Sg (List DV)} {ps fr : List Str} {js : List Nat} {df : Option Int} {fb : Sg → Rs Sg DV} {c P : Addr}
    (C : Here X k W) (G : FnC X.prog X.w X.K X.mg X.base et j x fn) (hj : j ≤ k) (hΦ : et.Φ = CloOk X.prog X.w X.K X.mg X.base (etB et) (jl + 1)) (TB : LamX.TabB X.base X.mg c P) (hcode : X.env.code = .ref c)
    (hm : (P, X.env.qual ++ "<lambda>") ∈ et.T) (hu : ∀ p ∈ et.T, p.1 = P → p.2 = X.env.qual ++ "<lambda>") (S : NdefX.NScope (ps ++ fr) ps fr scope)
    (hfree : ∀ y ∈ scope.names, y.2 = .free → X.env.scope.names.lookup y.1 = some .cell ∨ X.env.scope.names.lookup y.1 = some .free) (hfr : ∀ y ∈ fr, (y, NameKind.free) ∈ scope.names) (hjs : js.map (fun j => X.N[j]?) = fr.map some)
    (hdf : DfOf params X.env df) (hb : BindL params body scope (X.env.qual ++ "<lambda>") ps df) (ha : DA X et W es fs)
    (hbody : ∀ (f c' : Addr) (A : Around) (outer : List Env) (s : Shared) (H : Hp) (E : XK), Here (NdefX.ncx (L2.CX X.prog X.w) X.prog X.w X.K X.mg X.base (ps ++ fr) ⟨"<lambda>", X.env.qual ++ "<lambda>", params, [], scope, cloFrom X.env.cells scope.names [], c'⟩ f A outer s H E) jl (fun cls d _ H => E cls d H) →
      DE (NdefX.ncx (L2.CX X.prog X.w) X.prog X.w X.K X.mg X.base (ps ++ fr) ⟨"<lambda>", X.env.qual ++ "<lambda>", params, [], scope, cloFrom X.env.cells scope.names [], c'⟩ f A outer s H E) et (fun cls d _ H => E cls d H) body fb)
    (hfn : ∀ y, X.fn y = true := by intro _; rfl) (hg : Gl X x := by rfl) (hdb : (x == ("__debug__" : Str)) = false := by decide) (he : starEach (.Lambda params body scope lpos :: es) X.env = (false, eval (.Lambda params body scope lpos) X.env) :: starEach es X.env := by exact star_ok rfl) (hpl : (backTo pos (starEach es X.env)).any (·.1) = false := by exact plain_ok rfl) :
    DE X et W (.Call (.Name x p) (.Lambda params body scope lpos :: es) [] pos) (mCallL fn js df fb fs) := fun am B F g σ H Q R hq => by
  refine ⟨fun pins s I => ?_⟩
  obtain ⟨f0, fd, pn, hlen, hmx, kp, hbd, G⟩ := G.ex
  refine wpAny_Call_Name_kw (ld_glob I hg hmx ?_ hdb)
  have hfree' : ∀ y ∈ scope.names, y.2 = .free → ∃ c, X.env.cells.lookup y.1 = some c := fun y hy e => (hfree y hy e).elim (fun z => I.ok.has _ (.inl z)) fun z => I.ok.has _ (.inr z)
  refine PySem.W.callWith_K (h₀ := X.base) I.ok.mod.kin kp ?_ he hpl
  rw [he]
  show wpAny _ _ (spliced ((false, eval (.Lambda params body scope lpos) X.env) :: backTo pos (starEach es X.env))) _ _ s
  refine Calls.spliced_cons (lam_mk (T := et.T) (df := df) I TB hcode hm hu R.fam.tabs hfree' hdf fun f c' dV pm ctv H1 s1 I1 eN T1 nf hf hc hd hT0 => ?_)
  have R1a := R.tab hm eN T1
  obtain ⟨F1, exF, R1, hdF⟩ : ∃ F1, Ext B F F1 ∧ RepF X.K et am B F1 g σ H1 ∧ DfOk F1 df dV := by
    cases df with
    | none => exact ⟨F, Ext.refl, R1a, hd⟩
    | some i =>
      obtain ⟨Tt, e1, e2⟩ := hd
      have nT := hT0 Tt e1
      obtain ⟨b1, b2, _⟩ := R.bnone nT
      obtain ⟨R2, ex2⟩ := R1a.hold e2 b1 b2
      exact ⟨_, ex2, R2, Tt, e1, upd_same⟩
  have o : OvOk H1 [f, c'] := fun b hb' => by
    rcases List.mem_cons.mp hb' with e | hb'
    · rw [e]; exact ⟨_, hf, fun hs es => ext_nd (exO_at I1.hok hf) (exO_at I1.hok hf) (fun _ _ z => by cases z)⟩
    · rcases List.mem_cons.mp hb' with e | hb'
      · rw [e]
        exact ⟨_, hc, fun hs es => Ne.symm (nd_code _ _)⟩
      · cases hb'
  have G1 : Good X.K et W am B σ (fun F r => OkV X.K et W am B F σ Q r) := goodV (Q := Q)
  refine thn ((ha.then (G1.ov R1 o) (R1.ov o) (G1.weak F F1 _ exF hq) (Q := fun vs H2 => ∃ ds g1 F2, Ext B F1 F2 ∧ RepF X.K et am (ov B H1 [f, c']) F2 g1 σ H2 ∧ DenL X.K et am F2 vs ds ∧
      OkV X.K et W am B F2 σ Q (match caps g1.r js with
        | some ws => (match fn (.clo (cloG fb (dfD df) ws) :: ds) g1.s with
          | .ok (.pu d) s => (.ok (.pu d) { g1 with s := s } : Rs Sg DV)
          | _ => .no)
        | none => .no)) (fun ds g1 vs F2 H2 ex2 R2 dn2 hq2 => ⟨ds, g1, F2, ex2.unov o, R2, dn2, hq2⟩)).run pos pins s1 I1) fun us s2 ⟨vs, H2, I2, rv, ds, g1, F2, ex2, R2', dn2, hq2⟩ => ?_
  have R2 := R1.unov o R2'
  refine ⟨I2.kIn, ?_⟩
  cases qc : caps g1.r js with
  | none => rw [qc] at hq2; exact hq2.elim
  | some ws =>
  simp only [qc] at hq2
  have fre : ∀ {b : Addr} {φ : Heap → Prop}, H1 b = some (.ext φ) → Fre et am b := fun {b φ} e => R1.fam.fre (fun z => by
    obtain ⟨ac, e', _⟩ := R1.ms
    rw [z, e'] at e
    cases e) e (fun _ z => by cases z)
  have hf2 : H2 f = some (ExO f (lamObj (X.env.qual ++ "<lambda>") params body scope (cloFrom X.env.cells scope.names []) dV pm (.ref c') ctv)) := (R2'.base f _ (by rw [ov_in (by simp)]; exact hf) (fre hf)).nx (fun fs => exO_xd)
  have hc2 : H2 c' = some (LamX.CodeO c' (X.env.qual ++ "<lambda>")) := (R2'.base c' _ (by rw [ov_in (by simp)]; exact hc) (fre hc)).nx (fun fs => codeO_xd)
  have o2 : OvOk H2 [f, c'] := fun b hb' => by
    rcases List.mem_cons.mp hb' with e | hb'
    · rw [e]; exact ⟨_, hf2, fun hs es => ext_nd (exO_at I2.hok hf2) (exO_at I2.hok hf2) (fun _ _ z => by cases z)⟩
    · rcases List.mem_cons.mp hb' with e | hb'
      · rw [e]; exact ⟨_, hc2, fun hs es => Ne.symm (nd_code _ _)⟩
      · cases hb'
  have cK := NdefX.Caps.made I2.ok hfree hfr hjs
  have cells := NdefX.cells_of I2 cK
  generalize hcl : cloFrom X.env.cells scope.names [] = cl at hf hf2 cK cells hbody
  obtain ⟨L, hL⟩ : ∃ L, L = cellsL s2.heap cl (cl.map (·.1)) := ⟨_, rfl⟩
  have Lof : ∀ b ob, L.lookup b = some ob → ∃ y, cl.lookup y = some b ∧ s2.heap.get? b = some ob := fun b ob e => by rw [hL] at e; exact cellsL_of e
  have Lin : ∀ y b ob, cl.lookup y = some b → s2.heap.get? b = some ob → L.lookup b = some ob := fun y b ob e1 e2 => by rw [hL]; exact cellsL_in e1 e2 (lookup_key e1)
  have cs : Cs H2 s2.heap L := fun b ob e => by
    obtain ⟨y, e1, e2⟩ := Lof b ob e
    exact ⟨(cells.all y b e1).1, e2⟩
  have hcell : ∀ b ob, L.lookup b = some ob → ∃ v, ob.data = .cell v := fun b ob e => by
    obtain ⟨y, e1, e2⟩ := Lof b ob e
    obtain ⟨_, v, ob', e3, e4⟩ := cells.all y b e1
    rw [e2] at e3
    cases e3
    exact ⟨v, e4⟩
  have big : ∀ b ob, L.lookup b = some ob → X.s_0.heap.objs.size ≤ b ∧ b ≠ X.env.locals := fun b ob e => by
    obtain ⟨y, e1, _⟩ := Lof b ob e
    exact ⟨I2.ok.cab y b (hfn y) (cK.sub y b e1), I2.cne y b (cK.sub y b e1)⟩
  have eZ := env0_add I2.env0 cs (fun b ob e => Heap.get?_none_of_le (Nat.le_trans I2.ok.bsz (big b ob e).1)) (fun b ob e hb' => by
    rcases List.mem_cons.mp (I2.stkSub b hb') with z | z
    · exact (big b ob e).2 z
    · obtain ⟨_, o', ho', _⟩ := I2.ok.funs.mem z
      exact absurd (Heap.lt_size ho') (Nat.not_lt.mpr (big b ob e).1))
  have LM : ∀ {b : Addr} {u : HO}, H2 b = some u → L.lookup b = none := fun e => cs.out e
  have sF : Same F2 (ov (addC F2 L) H2 [f, c']) := fun b u e => by
    by_cases z : b ∈ [f, c']
    · rw [ov_in z]; exact R2.sub b u e
    · rw [ov_out z, addC_out (LM (R2.sub b u e))]; exact e
  have sZ : Same (ov (addC F2 L) H2 [f, c']) (addC H2 L) := fun b u e => by
    by_cases z : b ∈ [f, c']
    · rw [ov_in z] at e; exact addC_same cs b u e
    · rw [ov_out z] at e
      cases q : L.lookup b with
      | some ob => rw [addC_in q] at e ⊢; exact e
      | none => rw [addC_out q] at e ⊢; exact R2.sub b u e
  obtain ⟨ac, em, dm⟩ := R2.ms
  have nM : ∀ {b : Addr} {u : HO}, H2 b = some u → (∀ φ, u ≠ .ext φ) → b ∉ [f, c'] := fun e n z => by
    obtain ⟨φ, y, _⟩ := o2 _ z
    rw [e] at y
    exact n φ (Option.some.inj y)
  have amM := nM em (fun _ z => by cases z)
  have tbM : ∀ p ∈ et.T, p.1 ∉ [f, c'] ∧ L.lookup p.1 = none := fun p hp => by
    obtain ⟨ps', e, _⟩ := R2.fam.tabs p hp
    exact ⟨nM e (fun _ z => by cases z), LM e⟩
  have fzZ : Fz et am (ov (addC F2 L) H2 [f, c']) (addC H2 L) := ⟨by rw [ov_out amM, addC_out (LM em)]; exact R2.fam.am, R2.fam.tabs.ext (addC_same cs), fun p hp => by rw [ov_out (tbM p hp).1, addC_out (tbM p hp).2]; exact R2.fam.off p hp⟩
  have mrZ : MRel X.K et am (ov (addC F2 L) H2 [f, c']) (addC H2 L) g1.s := ⟨ac, addC_same cs _ _ em, Dn.up dm.1 sF, dm.2.tr sF (fun a dx i e => by
      by_cases z : a ∈ [f, c']
      · rw [ov_in z] at e
        obtain ⟨φ, y, _⟩ := o2 a z
        rw [y] at e
        unfold LkO at e
        cases e
      · rw [ov_out z] at e
        cases q : L.lookup a with
        | some ob =>
          rw [addC_in q] at e
          have e := Option.some.inj e
          unfold ExO LkO at e
          cases e
        | none => rw [addC_out q] at e; exact e) fun dx fs e1 e2 => by
      have z : dx ∉ [f, c'] := fun z => by
        obtain ⟨φ, y, _⟩ := o2 dx z
        rw [e2] at y
        cases y
      exact ⟨by rw [ov_out z, addC_out (LM e2)]; exact e1, addC_same cs _ _ e2⟩⟩
  obtain ⟨vc, dvc, lvc, gvc⟩ := caps_vals R2 qc
  have ctZ : Ct (ov (addC F2 L) H2 [f, c']) L := fun b ob e => by
    have z : b ∉ [f, c'] := fun z => by
      obtain ⟨φ, y, _⟩ := o2 _ z
      rw [(cs b ob e).1] at y
      cases y
    rw [ov_out z, addC_in e]
  have hlf : fr.length = js.length := by
    have := congrArg List.length hjs
    rw [List.length_map, List.length_map] at this
    exact this.symm
  have clo : et.Φ (cloG fb (dfD df) ws) am (ov (addC F2 L) H2 [f, c']) (.ref f) := by
    rw [hΦ]
    have sE : Same F1 (ov (addC F2 L) H2 [f, c']) := Same.tr ex2.1 sF
    refine clo_ok (cl := cl) (c' := c') (dV := dV) (pm := pm) (ctv := ctv) (L := L) (vs := vc) S hb (by rw [ov_in (by simp)]; exact hf2) (by rw [ov_in (by simp)]; exact hc2) ?_ ctZ (fun y b e => ?_) cells.inj (fun i y e => ?_) (by rw [lvc, hlf]) (DnAll.up dvc sF) hcell (fun A outer s H E => hbody f c' A outer s H E)
    · cases df with
      | none => exact hdF
      | some i => obtain ⟨Tt, e1, e2⟩ := hdF; exact ⟨Tt, e1, sE _ _ e2⟩
    · obtain ⟨_, v, ob, e3, e4⟩ := cells.all y b e
      exact ⟨ob, v, Lin y b ob e e3, e4⟩
    · obtain ⟨b, e1, e2⟩ := cells.has i y e
      refine ⟨b, e1, fun v hv => ?_⟩
      have hi : i < js.length := by rw [← lvc]; exact (List.getElem?_eq_some_iff.mp hv).1
      have hji : js[i]? = some js[i] := List.getElem?_eq_getElem hi
      obtain ⟨u, r1, ob, e3, e4⟩ := e2 v (by rw [List.getElem?_map, hji]; exact congrArg some (NdefX.slotAt_of (gvc i _ v hji hv)))
      exact ⟨ob, u, Lin y b ob e1 e3, e4, r1⟩
  have dl : DenL X.K et am (ov (addC F2 L) H2 [f, c']) (.ref f :: vs) (.clo (cloG fb (dfD df) ws) :: ds) := .cons clo (DenL.up sF dn2)
  have hlp : (DV.clo (cloG fb (dfD df) ws) :: ds).length = pn.length := by
    cases qn : fn (.clo (cloG fb (dfD df) ws) :: ds) g1.s with
    | no => simp only [qn] at hq2; exact hq2.elim
    | ex c p s' => simp only [qn] at hq2; exact hq2.elim
    | ok d s' =>
      by_cases z : (DV.clo (cloG fb (dfD df) ws) :: ds).length = pn.length
      · exact z
      · rw [hlen _ _ z] at qn; cases qn
  have hlv : (V.ref f :: vs).length = pn.length := by rw [dl.length]; exact hlp
  have rvv : L2.Vals (V.ref f :: vs) (Value.ref f :: us) := .cons rfl rv
  have hbt : BindsTo s2 fd ⟨Value.ref f :: us, []⟩ (pn.zip (Value.ref f :: us)) := by
    have b := hbd s2 (Value.ref f :: us) I2.kIn (by rw [List.append_nil, ← rvv.length]; exact hlv)
    rw [List.append_nil] at b
    exact b
  refine wpAny_call (codeAny_mono (G.run X.A X.stack s2 (addC H2 L) ⟨Value.ref f :: us, []⟩ (Value.ref f :: us) (V.ref f :: vs) (fun v H' => Ct H' L ∧ Q v (delC H' L)) (fun _ _ _ => False) (C.hr.mono hj) C.hg eZ hbt rvv ⟨am, _, _, g1.s, hlv, sZ, fzZ, mrZ, dl, ?_⟩) fun rr s3 h3 => ?_)
  · cases qn : fn (.clo (cloG fb (dfD df) ws) :: ds) g1.s with
    | no => simp only [qn] at hq2; exact hq2.elim
    | ex c p s' => simp only [qn] at hq2; exact hq2.elim
    | ok d s' =>
    cases d with
    | own _ => simp only [qn] at hq2; exact hq2.elim
    | m => simp only [qn] at hq2; exact hq2.elim
    | scr _ => simp only [qn] at hq2; exact hq2.elim
    | clo _ => simp only [qn] at hq2; exact hq2.elim
    | exc _ _ => simp only [qn] at hq2; exact hq2.elim
    | dic _ => simp only [qn] at hq2; exact hq2.elim
    | dki _ => simp only [qn] at hq2; exact hq2.elim
    | pu d0 =>
    simp only [qn] at hq2
    intro v F' H' ex sub fam frm mr dn
    have freL : ∀ b ob, L.lookup b = some ob → Fre et am b := fun b ob e => ⟨fun z => (by rw [z, LM em] at e; cases e), fun p hp z => (by rw [z, (tbM p hp).2] at e; cases e)⟩
    have ct : Ct H' L := fun b ob e => (frm b _ (addC_in e) (freL b ob e)).nx (fun fs => exO_xd)
    refine ⟨ct, ?_⟩
    have sp : ∀ b, b ∉ [f, c'] → L.lookup b = none → ov (addC F2 L) H2 [f, c'] b = F2 b := fun b z1 z2 => by rw [ov_out z1, addC_out z2]
    obtain ⟨F3, hF3⟩ : ∃ F3 : Hp, F3 = fun b => if b ∈ [f, c'] ∨ (L.lookup b).isSome = true then F2 b else F' b := ⟨_, rfl⟩
    have f3s : ∀ {b : Addr}, (b ∈ [f, c'] ∨ (L.lookup b).isSome = true) → F3 b = F2 b := fun h => by rw [hF3]; exact if_pos h
    have f3n : ∀ {b : Addr}, ¬ (b ∈ [f, c'] ∨ (L.lookup b).isSome = true) → F3 b = F' b := fun h => by rw [hF3]; exact if_neg h
    have nL : ∀ {b : Addr}, ¬ (b ∈ [f, c'] ∨ (L.lookup b).isSome = true) → b ∉ [f, c'] ∧ L.lookup b = none := fun {b} h => ⟨fun z => h (.inl z), by
      cases q : L.lookup b with
      | none => rfl
      | some ob => exact absurd (.inr (by rw [q]; rfl)) h⟩
    have fre2 : ∀ {b : Addr} {u : HO}, F2 b = some u → Fre et am b := fun {b u} e => ⟨fun z => (by rw [z, R2.fam.am] at e; cases e), fun p hp z => (by rw [z, R2.fam.off p hp] at e; cases e)⟩
    have frm2 : ∀ a ob, H2 a = some ob → Fre et am a → KeepsO (delC H' L) a ob := fun a ob e h => (frm a ob (addC_same cs a ob e) h).eq (delC_out (LM e))
    have sq : Seqs F' F3 := by
      have key : ∀ (a : Addr) (u : HO), F' a = some u → (∀ φ, u ≠ .ext φ) → F3 a = some u := fun a u e n => by
        refine (f3n fun h => ?_).trans e
        rcases h with h | h
        · obtain ⟨φ, y, _⟩ := o2 a h
          have := ex.1 a _ (by rw [ov_in h]; exact y)
          rw [e] at this
          exact n φ (Option.some.inj this)
        · obtain ⟨ob, y⟩ := Option.isSome_iff_exists.mp h
          have := ex.1 a _ (ctZ a ob y)
          rw [e] at this
          exact n _ (Option.some.inj this)
      have key2 : ∀ (a : Addr) (u : HO), F' a = some u → (∀ a o, u ≠ ExO a o) → (∀ c q, u ≠ LamX.CodeO c q) → F3 a = some u := fun a u e n1 n2 => by
        refine (f3n fun h => ?_).trans e
        rcases h with h | h
        · have y := ex.1 a _ (by rw [ov_in h]; exact (o2 a h).choose_spec.1)
          rw [e] at y
          rcases List.mem_cons.mp h with w | w
          · have y2 := (o2 a h).choose_spec.1
            rw [← y, w, hf2] at y2
            exact n1 _ _ (Option.some.inj y2).symm
          · rcases List.mem_cons.mp w with w | w
            · have y2 := (o2 a h).choose_spec.1
              rw [← y, w, hc2] at y2
              exact n2 _ _ (Option.some.inj y2).symm
            · cases w
        · obtain ⟨ob, y⟩ := Option.isSome_iff_exists.mp h
          have := ex.1 a _ (ctZ a ob y)
          rw [e] at this
          exact n1 _ _ (Option.some.inj this)
      exact ⟨fun a xs e => key a _ e (fun _ z => by cases z), fun a xs e => key a _ e (fun _ z => by cases z), fun a xs e => key a _ e (fun _ z => by cases z), fun a ob u e => key a _ e (fun _ z => by cases z),
        fun a e1 C1 d1 e => key2 a _ e (fun _ _ => exO_XO) (fun _ _ => codeO_XO), fun a fs e => key a _ e (fun _ z => by cases z), fun a e1 C1 e => key2 a _ e (fun _ _ => exO_ExO) (fun _ _ => codeO_ExO)⟩
    have exH : Ext H2 F2 F3 := ⟨fun b u e => by
      by_cases z : b ∈ [f, c'] ∨ (L.lookup b).isSome = true
      · rw [f3s z]; exact e
      · rw [f3n z]
        exact ex.1 b u (by rw [sp b (nL z).1 (nL z).2]; exact e), fun b u e n => by
      by_cases z : b ∈ [f, c'] ∨ (L.lookup b).isSome = true
      · rw [f3s z, n] at e; cases e
      · rw [f3n z] at e
        have y := ex.2 b u e (by rw [sp b (nL z).1 (nL z).2]; exact n)
        rw [addC_out (nL z).2] at y
        exact y⟩
    have sub3 : Same F3 (delC H' L) := fun b u e => by
      by_cases z : b ∈ [f, c'] ∨ (L.lookup b).isSome = true
      · rw [f3s z] at e
        refine (frm2 b u (R2.sub b u e) (fre2 e)).nx fun fs w => ?_
        rcases z with z | z
        · obtain ⟨φ, y, _⟩ := o2 b z
          rw [R2.sub b u e, w] at y
          cases y
        · rw [LM (R2.sub b u e)] at z
          cases z
      · rw [f3n z] at e
        rw [delC_out (nL z).2]
        exact sub b u e
    have amz : ¬ (am ∈ [f, c'] ∨ (L.lookup am).isSome = true) := fun h => by
      rcases h with h | h
      · exact amM h
      · rw [LM em] at h; cases h
    have fz3 : Fz et am F3 (delC H' L) := ⟨by rw [f3n amz]; exact fam.am, tabs_same fam.tabs (fun a ps e => by rw [delC_out (ct.out e fun ob z => exO_tbl z.symm)]; exact e) (fun c q e => by
        cases z : L.lookup c with
        | none => rw [delC_out z]; exact e
        | some ob =>
          have y := ct c ob z
          rw [e] at y
          obtain ⟨v', hv'⟩ := hcell c ob z
          exact absurd (Option.some.inj y).symm (exO_code (cs c ob z).2 hv' rfl)), fun p hp => by
        by_cases z : p.1 ∈ [f, c'] ∨ (L.lookup p.1).isSome = true
        · rw [f3s z]; exact R2.fam.off p hp
        · rw [f3n z]; exact fam.off p hp⟩
    obtain ⟨ac', em', dm'⟩ := mr
    have spc : ∀ b, (b ∈ [f, c'] ∨ (L.lookup b).isSome = true) → F' b ≠ none := fun b h => by
      rcases h with h | h
      · obtain ⟨φ, y, _⟩ := o2 b h
        rw [ex.1 b _ (by rw [ov_in h]; exact y)]
        exact fun z => by cases z
      · obtain ⟨ob, y⟩ := Option.isSome_iff_exists.mp h
        rw [ex.1 b _ (ctZ b ob y)]
        exact fun z => by cases z
    have nlk : ∀ a dx i, F3 a = some (LkO X.K dx i) → F' a = some (LkO X.K dx i) := fun a dx i e => by
      by_cases z : a ∈ [f, c'] ∨ (L.lookup a).isSome = true
      · rw [f3s z] at e
        rcases z with z | z
        · obtain ⟨φ, y, _⟩ := o2 a z
          rw [R2.sub a _ e] at y
          unfold LkO at y
          cases y
        · rw [LM (R2.sub a _ e)] at z
          cases z
      · rw [f3n z] at e
        exact e
    have fr3 : FRel X.K et F3 (delC H' L) s' := ⟨fun a dx i e => by
      obtain ⟨b, r, vb, vr, e1, e2, e3, e4, e5⟩ := dm'.2.at_ a dx i (nlk a dx i e)
      have z : ¬ (dx ∈ [f, c'] ∨ (L.lookup dx).isSome = true) := fun z => spc dx z e2
      exact ⟨b, r, vb, vr, e1, by rw [f3n z]; exact e2, by rw [delC_out (nL z).2]; exact e3, Dn.seqs sq e4, Dn.seqs sq e5⟩, fun a dx a' dx' i e e' => dm'.2.one a dx a' dx' i (nlk _ _ _ e) (nlk _ _ _ e'), fun a dx i a' i' e e' => dm'.2.sep a dx i a' i' (nlk _ _ _ e) (nlk _ _ _ e')⟩
    obtain ⟨R3, ex3⟩ := R2.after exH sub3 fz3 frm2 ⟨ac', by rw [delC_out (LM em)]; exact em', Dn.seqs sq dm'.1, fr3⟩
    exact hq2 v F3 (delC H' L) ex3 R3 (Dn.seqs sq dn)
  · match rr, h3 with
    | .error e, h3 =>
      obtain ⟨_, _, _, _, _, _, _, _, _, _, _, _, z⟩ := h3
      exact z.elim
    | .ok .next, h3 => exact h3.elim
    | .ok .brk, h3 => exact h3.elim
    | .ok .cont, h3 => exact h3.elim
    | .ok (.ret u), h3 =>
      obtain ⟨v, H', os, bare, un, hok, r, ct, q⟩ := h3
      exact I2.after ⟨v, delC H' L, os, bare, un_del cs un hok ct, delC_hok hok ct, r, q⟩
theorem de_callLam1 {k j jl : Nat} {x : Str} {fn : List DV → MS → Rs MS DV} {p pos lpos : Pos} {params : Arguments} {body : Expr} {scope : Scope} {es : List Expr} {fs : Sg → Rs Sg (List DV)} {e0 : Expr} {fo : Sg → Rs Sg DV} {ps fr : List Str} {js : List Nat} {df : Option Int} {fb : Sg → Rs Sg DV} {c P : Addr}
    (C : Here X k W) (G : FnC X.prog X.w X.K X.mg X.base et j x fn) (hj : j ≤ k) (hΦ : et.Φ = CloOk X.prog X.w X.K X.mg X.base (etB et) (jl + 1)) (TB : LamX.TabB X.base X.mg c P) (hcode : X.env.code = .ref c)
    (hm : (P, X.env.qual ++ "<lambda>") ∈ et.T) (hu : ∀ p ∈ et.T, p.1 = P → p.2 = X.env.qual ++ "<lambda>") (S : NdefX.NScope (ps ++ fr) ps fr scope)
    (hfree : ∀ y ∈ scope.names, y.2 = .free → X.env.scope.names.lookup y.1 = some .cell ∨ X.env.scope.names.lookup y.1 = some .free) (hfr : ∀ y ∈ fr, (y, NameKind.free) ∈ scope.names) (hjs : js.map (fun j => X.N[j]?) = fr.map some)
    (hdf : DfOf params X.env df) (hb : BindL params body scope (X.env.qual ++ "<lambda>") ps df) (he0 : DE X et W e0 fo) (ha : DA X et W es fs)
    (hbody : ∀ (f c' : Addr) (A : Around) (outer : List Env) (s : Shared) (H : Hp) (E : XK), Here (NdefX.ncx (L2.CX X.prog X.w) X.prog X.w X.K X.mg X.base (ps ++ fr) ⟨"<lambda>", X.env.qual ++ "<lambda>", params, [], scope, cloFrom X.env.cells scope.names [], c'⟩ f A outer s H E) jl (fun cls d _ H => E cls d H) →
      DE (NdefX.ncx (L2.CX X.prog X.w) X.prog X.w X.K X.mg X.base (ps ++ fr) ⟨"<lambda>", X.env.qual ++ "<lambda>", params, [], scope, cloFrom X.env.cells scope.names [], c'⟩ f A outer s H E) et (fun cls d _ H => E cls d H) body fb)
    (hfn : ∀ y, X.fn y = true := by intro _; rfl) (hg : Gl X x := by rfl) (hdb : (x == ("__debug__" : Str)) = false := by decide) (he : starEach (e0 :: .Lambda params body scope lpos :: es) X.env = (false, eval e0 X.env) :: (false, eval (.Lambda params body scope lpos) X.env) :: starEach es X.env := by exact star12_ok rfl rfl) (hpl : (backTo pos (starEach es X.env)).any (·.1) = false := by exact plain_ok rfl) :
    DE X et W (.Call (.Name x p) (e0 :: .Lambda params body scope lpos :: es) [] pos) (mCallL1 fn fo js df fb fs) := fun am B F g σ H Q R hq => by
  refine ⟨fun pins s I => ?_⟩
  obtain ⟨f0, fd, pn, hlen, hmx, kp, hbd, G⟩ := G.ex
  refine wpAny_Call_Name_kw (ld_glob I hg hmx ?_ hdb)
  refine PySem.W.callWith_K (h₀ := X.base) I.ok.mod.kin kp ?_ he hpl
  rw [he]
  show wpAny _ _ (spliced ((false, eval e0 X.env) :: (false, eval (.Lambda params body scope lpos) X.env) :: backTo pos (starEach es X.env))) _ _ s
  have P0 : wE X e0 σ H fun v0 H0 => ∃ d0 g0 F0, Ext B F F0 ∧ RepF X.K et am B F0 g0 σ H0 ∧ DenP X.K et am F0 v0 d0 ∧ OkV X.K et W am B F0 σ Q ((fs g0).bind fun ds g1 => match caps g1.r js with
        | some ws => (match fn (d0 :: .clo (cloG fb (dfD df) ws) :: ds) g1.s with
          | .ok (.pu d) s => (.ok (.pu d) { g1 with s := s } : Rs Sg DV)
          | _ => .no)
        | none => .no) := he0.then (goodV (Q := Q)) R hq fun d0 g0 v0 F0 H0 ex0 R0 dn0 hq0 => ⟨d0, g0, F0, ex0, R0, dn0, hq0⟩
  refine Calls.spliced_cons (thn (P0.run pins s I) fun u0 s0 ⟨v0, H0, I0, ru0, d0, g0, F0, ex0, R0, dn0, hq0⟩ => ?_)
  have hfree' : ∀ y ∈ scope.names, y.2 = .free → ∃ c, X.env.cells.lookup y.1 = some c := fun y hy e => (hfree y hy e).elim (fun z => I0.ok.has _ (.inl z)) fun z => I0.ok.has _ (.inr z)
  clear hq R I
  clear P0
  obtain ⟨F, eF⟩ : ∃ F1, F1 = F0 := ⟨_, rfl⟩
  rw [← eF] at R0 dn0 hq0
  obtain ⟨g, eg⟩ : ∃ g1, g1 = g0 := ⟨_, rfl⟩
  rw [← eg] at R0 hq0
  have R := R0
  have I := I0
  have hq := hq0
  refine Calls.spliced_cons (lam_mk (T := et.T) (df := df) I TB hcode hm hu R.fam.tabs hfree' hdf fun f c' dV pm ctv H1 s1 I1 eN T1 nf hf hc hd hT0 => ?_)
  have R1a := R.tab hm eN T1
  obtain ⟨F1, exF, R1, hdF⟩ : ∃ F1, Ext B F F1 ∧ RepF X.K et am B F1 g σ H1 ∧ DfOk F1 df dV := by
    cases df with
    | none => exact ⟨F, Ext.refl, R1a, hd⟩
    | some i =>
      obtain ⟨Tt, e1, e2⟩ := hd
      have nT := hT0 Tt e1
      obtain ⟨b1, b2, _⟩ := R.bnone nT
      obtain ⟨R2, ex2⟩ := R1a.hold e2 b1 b2
      exact ⟨_, ex2, R2, Tt, e1, upd_same⟩
  have o : OvOk H1 [f, c'] := fun b hb' => by
    rcases List.mem_cons.mp hb' with e | hb'
    · rw [e]; exact ⟨_, hf, fun hs es => ext_nd (exO_at I1.hok hf) (exO_at I1.hok hf) (fun _ _ z => by cases z)⟩
    · rcases List.mem_cons.mp hb' with e | hb'
      · rw [e]
        exact ⟨_, hc, fun hs es => Ne.symm (nd_code _ _)⟩
      · cases hb'
  have G1 : Good X.K et W am B σ (fun F r => OkV X.K et W am B F σ Q r) := goodV (Q := Q)
  refine thn ((ha.then (G1.ov R1 o) (R1.ov o) (G1.weak F F1 _ exF hq) (Q := fun vs H2 => ∃ ds g1 F2, Ext B F1 F2 ∧ RepF X.K et am (ov B H1 [f, c']) F2 g1 σ H2 ∧ DenL X.K et am F2 vs ds ∧
      OkV X.K et W am B F2 σ Q (match caps g1.r js with
        | some ws => (match fn (d0 :: .clo (cloG fb (dfD df) ws) :: ds) g1.s with
          | .ok (.pu d) s => (.ok (.pu d) { g1 with s := s } : Rs Sg DV)
          | _ => .no)
        | none => .no)) (fun ds g1 vs F2 H2 ex2 R2 dn2 hq2 => ⟨ds, g1, F2, ex2.unov o, R2, dn2, hq2⟩)).run pos pins s1 I1) fun us s2 ⟨vs, H2, I2, rv, ds, g1, F2, ex2, R2', dn2, hq2⟩ => ?_
  have R2 := R1.unov o R2'
  refine ⟨I2.kIn, ?_⟩
  cases qc : caps g1.r js with
  | none => rw [qc] at hq2; exact hq2.elim
  | some ws =>
  simp only [qc] at hq2
  have fre : ∀ {b : Addr} {φ : Heap → Prop}, H1 b = some (.ext φ) → Fre et am b := fun {b φ} e => R1.fam.fre (fun z => by
    obtain ⟨ac, e', _⟩ := R1.ms
    rw [z, e'] at e
    cases e) e (fun _ z => by cases z)
  have hf2 : H2 f = some (ExO f (lamObj (X.env.qual ++ "<lambda>") params body scope (cloFrom X.env.cells scope.names []) dV pm (.ref c') ctv)) := (R2'.base f _ (by rw [ov_in (by simp)]; exact hf) (fre hf)).nx (fun fs => exO_xd)
  have hc2 : H2 c' = some (LamX.CodeO c' (X.env.qual ++ "<lambda>")) := (R2'.base c' _ (by rw [ov_in (by simp)]; exact hc) (fre hc)).nx (fun fs => codeO_xd)
  have o2 : OvOk H2 [f, c'] := fun b hb' => by
    rcases List.mem_cons.mp hb' with e | hb'
    · rw [e]; exact ⟨_, hf2, fun hs es => ext_nd (exO_at I2.hok hf2) (exO_at I2.hok hf2) (fun _ _ z => by cases z)⟩
    · rcases List.mem_cons.mp hb' with e | hb'
      · rw [e]; exact ⟨_, hc2, fun hs es => Ne.symm (nd_code _ _)⟩
      · cases hb'
  have cK := NdefX.Caps.made I2.ok hfree hfr hjs
  have cells := NdefX.cells_of I2 cK
  generalize hcl : cloFrom X.env.cells scope.names [] = cl at hf hf2 cK cells hbody
  obtain ⟨L, hL⟩ : ∃ L, L = cellsL s2.heap cl (cl.map (·.1)) := ⟨_, rfl⟩
  have Lof : ∀ b ob, L.lookup b = some ob → ∃ y, cl.lookup y = some b ∧ s2.heap.get? b = some ob := fun b ob e => by rw [hL] at e; exact cellsL_of e
  have Lin : ∀ y b ob, cl.lookup y = some b → s2.heap.get? b = some ob → L.lookup b = some ob := fun y b ob e1 e2 => by rw [hL]; exact cellsL_in e1 e2 (lookup_key e1)
  have cs : Cs H2 s2.heap L := fun b ob e => by
    obtain ⟨y, e1, e2⟩ := Lof b ob e
    exact ⟨(cells.all y b e1).1, e2⟩
  have hcell : ∀ b ob, L.lookup b = some ob → ∃ v, ob.data = .cell v := fun b ob e => by
    obtain ⟨y, e1, e2⟩ := Lof b ob e
    obtain ⟨_, v, ob', e3, e4⟩ := cells.all y b e1
    rw [e2] at e3
    cases e3
    exact ⟨v, e4⟩
  have big : ∀ b ob, L.lookup b = some ob → X.s_0.heap.objs.size ≤ b ∧ b ≠ X.env.locals := fun b ob e => by
    obtain ⟨y, e1, _⟩ := Lof b ob e
    exact ⟨I2.ok.cab y b (hfn y) (cK.sub y b e1), I2.cne y b (cK.sub y b e1)⟩
  have eZ := env0_add I2.env0 cs (fun b ob e => Heap.get?_none_of_le (Nat.le_trans I2.ok.bsz (big b ob e).1)) (fun b ob e hb' => by
    rcases List.mem_cons.mp (I2.stkSub b hb') with z | z
    · exact (big b ob e).2 z
    · obtain ⟨_, o', ho', _⟩ := I2.ok.funs.mem z
      exact absurd (Heap.lt_size ho') (Nat.not_lt.mpr (big b ob e).1))
  have LM : ∀ {b : Addr} {u : HO}, H2 b = some u → L.lookup b = none := fun e => cs.out e
  have sF : Same F2 (ov (addC F2 L) H2 [f, c']) := fun b u e => by
    by_cases z : b ∈ [f, c']
    · rw [ov_in z]; exact R2.sub b u e
    · rw [ov_out z, addC_out (LM (R2.sub b u e))]; exact e
  have sZ : Same (ov (addC F2 L) H2 [f, c']) (addC H2 L) := fun b u e => by
    by_cases z : b ∈ [f, c']
    · rw [ov_in z] at e; exact addC_same cs b u e
    · rw [ov_out z] at e
      cases q : L.lookup b with
      | some ob => rw [addC_in q] at e ⊢; exact e
      | none => rw [addC_out q] at e ⊢; exact R2.sub b u e
  obtain ⟨ac, em, dm⟩ := R2.ms
  have nM : ∀ {b : Addr} {u : HO}, H2 b = some u → (∀ φ, u ≠ .ext φ) → b ∉ [f, c'] := fun e n z => by
    obtain ⟨φ, y, _⟩ := o2 _ z
    rw [e] at y
    exact n φ (Option.some.inj y)
  have amM := nM em (fun _ z => by cases z)
  have tbM : ∀ p ∈ et.T, p.1 ∉ [f, c'] ∧ L.lookup p.1 = none := fun p hp => by
    obtain ⟨ps', e, _⟩ := R2.fam.tabs p hp
    exact ⟨nM e (fun _ z => by cases z), LM e⟩
  have fzZ : Fz et am (ov (addC F2 L) H2 [f, c']) (addC H2 L) := ⟨by rw [ov_out amM, addC_out (LM em)]; exact R2.fam.am, R2.fam.tabs.ext (addC_same cs), fun p hp => by rw [ov_out (tbM p hp).1, addC_out (tbM p hp).2]; exact R2.fam.off p hp⟩
  have mrZ : MRel X.K et am (ov (addC F2 L) H2 [f, c']) (addC H2 L) g1.s := ⟨ac, addC_same cs _ _ em, Dn.up dm.1 sF, dm.2.tr sF (fun a dx i e => by
      by_cases z : a ∈ [f, c']
      · rw [ov_in z] at e
        obtain ⟨φ, y, _⟩ := o2 a z
        rw [y] at e
        unfold LkO at e
        cases e
      · rw [ov_out z] at e
        cases q : L.lookup a with
        | some ob =>
          rw [addC_in q] at e
          have e := Option.some.inj e
          unfold ExO LkO at e
          cases e
        | none => rw [addC_out q] at e; exact e) fun dx fs e1 e2 => by
      have z : dx ∉ [f, c'] := fun z => by
        obtain ⟨φ, y, _⟩ := o2 dx z
        rw [e2] at y
        cases y
      exact ⟨by rw [ov_out z, addC_out (LM e2)]; exact e1, addC_same cs _ _ e2⟩⟩
  obtain ⟨vc, dvc, lvc, gvc⟩ := caps_vals R2 qc
  have ctZ : Ct (ov (addC F2 L) H2 [f, c']) L := fun b ob e => by
    have z : b ∉ [f, c'] := fun z => by
      obtain ⟨φ, y, _⟩ := o2 _ z
      rw [(cs b ob e).1] at y
      cases y
    rw [ov_out z, addC_in e]
  have hlf : fr.length = js.length := by
    have := congrArg List.length hjs
    rw [List.length_map, List.length_map] at this
    exact this.symm
  have clo : et.Φ (cloG fb (dfD df) ws) am (ov (addC F2 L) H2 [f, c']) (.ref f) := by
    rw [hΦ]
    have sE : Same F1 (ov (addC F2 L) H2 [f, c']) := Same.tr ex2.1 sF
    refine clo_ok (cl := cl) (c' := c') (dV := dV) (pm := pm) (ctv := ctv) (L := L) (vs := vc) S hb (by rw [ov_in (by simp)]; exact hf2) (by rw [ov_in (by simp)]; exact hc2) ?_ ctZ (fun y b e => ?_) cells.inj (fun i y e => ?_) (by rw [lvc, hlf]) (DnAll.up dvc sF) hcell (fun A outer s H E => hbody f c' A outer s H E)
    · cases df with
      | none => exact hdF
      | some i => obtain ⟨Tt, e1, e2⟩ := hdF; exact ⟨Tt, e1, sE _ _ e2⟩
    · obtain ⟨_, v, ob, e3, e4⟩ := cells.all y b e
      exact ⟨ob, v, Lin y b ob e e3, e4⟩
    · obtain ⟨b, e1, e2⟩ := cells.has i y e
      refine ⟨b, e1, fun v hv => ?_⟩
      have hi : i < js.length := by rw [← lvc]; exact (List.getElem?_eq_some_iff.mp hv).1
      have hji : js[i]? = some js[i] := List.getElem?_eq_getElem hi
      obtain ⟨u, r1, ob, e3, e4⟩ := e2 v (by rw [List.getElem?_map, hji]; exact congrArg some (NdefX.slotAt_of (gvc i _ v hji hv)))
      exact ⟨ob, u, Lin y b ob e1 e3, e4, r1⟩
  have dl0 : DenL X.K et am F [v0] [d0] := .cons dn0 .nil
  have dl : DenL X.K et am (ov (addC F2 L) H2 [f, c']) (v0 :: .ref f :: vs) (d0 :: .clo (cloG fb (dfD df) ws) :: ds) := by
    have z := DenL.up (Same.tr exF.1 (Same.tr ex2.1 sF)) dl0
    cases z with
    | cons z _ => exact .cons z (.cons clo (DenL.up sF dn2))
  have hlp : (d0 :: DV.clo (cloG fb (dfD df) ws) :: ds).length = pn.length := by
    cases qn : fn (d0 :: .clo (cloG fb (dfD df) ws) :: ds) g1.s with
    | no => simp only [qn] at hq2; exact hq2.elim
    | ex c p s' => simp only [qn] at hq2; exact hq2.elim
    | ok d s' =>
      by_cases z : (d0 :: DV.clo (cloG fb (dfD df) ws) :: ds).length = pn.length
      · exact z
      · rw [hlen _ _ z] at qn; cases qn
  have hlv : (v0 :: V.ref f :: vs).length = pn.length := by rw [dl.length]; exact hlp
  have rvv : L2.Vals (v0 :: V.ref f :: vs) (u0 :: Value.ref f :: us) := .cons ru0 (.cons rfl rv)
  have hbt : BindsTo s2 fd ⟨u0 :: Value.ref f :: us, []⟩ (pn.zip (u0 :: Value.ref f :: us)) := by
    have b := hbd s2 (u0 :: Value.ref f :: us) I2.kIn (by rw [List.append_nil, ← rvv.length]; exact hlv)
    rw [List.append_nil] at b
    exact b
  refine wpAny_call (codeAny_mono (G.run X.A X.stack s2 (addC H2 L) ⟨u0 :: Value.ref f :: us, []⟩ (u0 :: Value.ref f :: us) (v0 :: V.ref f :: vs) (fun v H' => Ct H' L ∧ Q v (delC H' L)) (fun _ _ _ => False) (C.hr.mono hj) C.hg eZ hbt rvv ⟨am, _, _, g1.s, hlv, sZ, fzZ, mrZ, dl, ?_⟩) fun rr s3 h3 => ?_)
  · cases qn : fn (d0 :: .clo (cloG fb (dfD df) ws) :: ds) g1.s with
    | no => simp only [qn] at hq2; exact hq2.elim
    | ex c p s' => simp only [qn] at hq2; exact hq2.elim
    | ok d s' =>
    cases d with
    | own _ => simp only [qn] at hq2; exact hq2.elim
    | m => simp only [qn] at hq2; exact hq2.elim
    | scr _ => simp only [qn] at hq2; exact hq2.elim
    | clo _ => simp only [qn] at hq2; exact hq2.elim
    | exc _ _ => simp only [qn] at hq2; exact hq2.elim
    | dic _ => simp only [qn] at hq2; exact hq2.elim
    | dki _ => simp only [qn] at hq2; exact hq2.elim
    | pu d0 =>
    simp only [qn] at hq2
    intro v F' H' ex sub fam frm mr dn
    have freL : ∀ b ob, L.lookup b = some ob → Fre et am b := fun b ob e => ⟨fun z => (by rw [z, LM em] at e; cases e), fun p hp z => (by rw [z, (tbM p hp).2] at e; cases e)⟩
    have ct : Ct H' L := fun b ob e => (frm b _ (addC_in e) (freL b ob e)).nx (fun fs => exO_xd)
    refine ⟨ct, ?_⟩
    have sp : ∀ b, b ∉ [f, c'] → L.lookup b = none → ov (addC F2 L) H2 [f, c'] b = F2 b := fun b z1 z2 => by rw [ov_out z1, addC_out z2]
    obtain ⟨F3, hF3⟩ : ∃ F3 : Hp, F3 = fun b => if b ∈ [f, c'] ∨ (L.lookup b).isSome = true then F2 b else F' b := ⟨_, rfl⟩
    have f3s : ∀ {b : Addr}, (b ∈ [f, c'] ∨ (L.lookup b).isSome = true) → F3 b = F2 b := fun h => by rw [hF3]; exact if_pos h
    have f3n : ∀ {b : Addr}, ¬ (b ∈ [f, c'] ∨ (L.lookup b).isSome = true) → F3 b = F' b := fun h => by rw [hF3]; exact if_neg h
    have nL : ∀ {b : Addr}, ¬ (b ∈ [f, c'] ∨ (L.lookup b).isSome = true) → b ∉ [f, c'] ∧ L.lookup b = none := fun {b} h => ⟨fun z => h (.inl z), by
      cases q : L.lookup b with
      | none => rfl
      | some ob => exact absurd (.inr (by rw [q]; rfl)) h⟩
    have fre2 : ∀ {b : Addr} {u : HO}, F2 b = some u → Fre et am b := fun {b u} e => ⟨fun z => (by rw [z, R2.fam.am] at e; cases e), fun p hp z => (by rw [z, R2.fam.off p hp] at e; cases e)⟩
    have frm2 : ∀ a ob, H2 a = some ob → Fre et am a → KeepsO (delC H' L) a ob := fun a ob e h => (frm a ob (addC_same cs a ob e) h).eq (delC_out (LM e))
    have sq : Seqs F' F3 := by
      have key : ∀ (a : Addr) (u : HO), F' a = some u → (∀ φ, u ≠ .ext φ) → F3 a = some u := fun a u e n => by
        refine (f3n fun h => ?_).trans e
        rcases h with h | h
        · obtain ⟨φ, y, _⟩ := o2 a h
          have := ex.1 a _ (by rw [ov_in h]; exact y)
          rw [e] at this
          exact n φ (Option.some.inj this)
        · obtain ⟨ob, y⟩ := Option.isSome_iff_exists.mp h
          have := ex.1 a _ (ctZ a ob y)
          rw [e] at this
          exact n _ (Option.some.inj this)
      have key2 : ∀ (a : Addr) (u : HO), F' a = some u → (∀ a o, u ≠ ExO a o) → (∀ c q, u ≠ LamX.CodeO c q) → F3 a = some u := fun a u e n1 n2 => by
        refine (f3n fun h => ?_).trans e
        rcases h with h | h
        · have y := ex.1 a _ (by rw [ov_in h]; exact (o2 a h).choose_spec.1)
          rw [e] at y
          rcases List.mem_cons.mp h with w | w
          · have y2 := (o2 a h).choose_spec.1
            rw [← y, w, hf2] at y2
            exact n1 _ _ (Option.some.inj y2).symm
          · rcases List.mem_cons.mp w with w | w
            · have y2 := (o2 a h).choose_spec.1
              rw [← y, w, hc2] at y2
              exact n2 _ _ (Option.some.inj y2).symm
            · cases w
        · obtain ⟨ob, y⟩ := Option.isSome_iff_exists.mp h
          have := ex.1 a _ (ctZ a ob y)
          rw [e] at this
          exact n1 _ _ (Option.some.inj this)
      exact ⟨fun a xs e => key a _ e (fun _ z => by cases z), fun a xs e => key a _ e (fun _ z => by cases z), fun a xs e => key a _ e (fun _ z => by cases z), fun a ob u e => key a _ e (fun _ z => by cases z),
        fun a e1 C1 d1 e => key2 a _ e (fun _ _ => exO_XO) (fun _ _ => codeO_XO), fun a fs e => key a _ e (fun _ z => by cases z), fun a e1 C1 e => key2 a _ e (fun _ _ => exO_ExO) (fun _ _ => codeO_ExO)⟩
    have exH : Ext H2 F2 F3 := ⟨fun b u e => by
      by_cases z : b ∈ [f, c'] ∨ (L.lookup b).isSome = true
      · rw [f3s z]; exact e
      · rw [f3n z]
        exact ex.1 b u (by rw [sp b (nL z).1 (nL z).2]; exact e), fun b u e n => by
      by_cases z : b ∈ [f, c'] ∨ (L.lookup b).isSome = true
      · rw [f3s z, n] at e; cases e
      · rw [f3n z] at e
        have y := ex.2 b u e (by rw [sp b (nL z).1 (nL z).2]; exact n)
        rw [addC_out (nL z).2] at y
        exact y⟩
    have sub3 : Same F3 (delC H' L) := fun b u e => by
      by_cases z : b ∈ [f, c'] ∨ (L.lookup b).isSome = true
      · rw [f3s z] at e
        refine (frm2 b u (R2.sub b u e) (fre2 e)).nx fun fs w => ?_
        rcases z with z | z
        · obtain ⟨φ, y, _⟩ := o2 b z
          rw [R2.sub b u e, w] at y
          cases y
        · rw [LM (R2.sub b u e)] at z
          cases z
      · rw [f3n z] at e
        rw [delC_out (nL z).2]
        exact sub b u e
    have amz : ¬ (am ∈ [f, c'] ∨ (L.lookup am).isSome = true) := fun h => by
      rcases h with h | h
      · exact amM h
      · rw [LM em] at h; cases h
    have fz3 : Fz et am F3 (delC H' L) := ⟨by rw [f3n amz]; exact fam.am, tabs_same fam.tabs (fun a ps e => by rw [delC_out (ct.out e fun ob z => exO_tbl z.symm)]; exact e) (fun c q e => by
        cases z : L.lookup c with
        | none => rw [delC_out z]; exact e
        | some ob =>
          have y := ct c ob z
          rw [e] at y
          obtain ⟨v', hv'⟩ := hcell c ob z
          exact absurd (Option.some.inj y).symm (exO_code (cs c ob z).2 hv' rfl)), fun p hp => by
        by_cases z : p.1 ∈ [f, c'] ∨ (L.lookup p.1).isSome = true
        · rw [f3s z]; exact R2.fam.off p hp
        · rw [f3n z]; exact fam.off p hp⟩
    obtain ⟨ac', em', dm'⟩ := mr
    have spc : ∀ b, (b ∈ [f, c'] ∨ (L.lookup b).isSome = true) → F' b ≠ none := fun b h => by
      rcases h with h | h
      · obtain ⟨φ, y, _⟩ := o2 b h
        rw [ex.1 b _ (by rw [ov_in h]; exact y)]
        exact fun z => by cases z
      · obtain ⟨ob, y⟩ := Option.isSome_iff_exists.mp h
        rw [ex.1 b _ (ctZ b ob y)]
        exact fun z => by cases z
    have nlk : ∀ a dx i, F3 a = some (LkO X.K dx i) → F' a = some (LkO X.K dx i) := fun a dx i e => by
      by_cases z : a ∈ [f, c'] ∨ (L.lookup a).isSome = true
      · rw [f3s z] at e
        rcases z with z | z
        · obtain ⟨φ, y, _⟩ := o2 a z
          rw [R2.sub a _ e] at y
          unfold LkO at y
          cases y
        · rw [LM (R2.sub a _ e)] at z
          cases z
      · rw [f3n z] at e
        exact e
    have fr3 : FRel X.K et F3 (delC H' L) s' := ⟨fun a dx i e => by
      obtain ⟨b, r, vb, vr, e1, e2, e3, e4, e5⟩ := dm'.2.at_ a dx i (nlk a dx i e)
      have z : ¬ (dx ∈ [f, c'] ∨ (L.lookup dx).isSome = true) := fun z => spc dx z e2
      exact ⟨b, r, vb, vr, e1, by rw [f3n z]; exact e2, by rw [delC_out (nL z).2]; exact e3, Dn.seqs sq e4, Dn.seqs sq e5⟩, fun a dx a' dx' i e e' => dm'.2.one a dx a' dx' i (nlk _ _ _ e) (nlk _ _ _ e'), fun a dx i a' i' e e' => dm'.2.sep a dx i a' i' (nlk _ _ _ e) (nlk _ _ _ e')⟩
    obtain ⟨R3, ex3⟩ := R2.after exH sub3 fz3 frm2 ⟨ac', by rw [delC_out (LM em)]; exact em', Dn.seqs sq dm'.1, fr3⟩
    exact hq2 v F3 (delC H' L) ex3 R3 (Dn.seqs sq dn)
  · match rr, h3 with
    | .error e, h3 =>
      obtain ⟨_, _, _, _, _, _, _, _, _, _, _, _, z⟩ := h3
      exact z.elim
    | .ok .next, h3 => exact h3.elim
    | .ok .brk, h3 => exact h3.elim
    | .ok .cont, h3 => exact h3.elim
    | .ok (.ret u), h3 =>
      obtain ⟨v, H', os, bare, un, hok, r, ct, q⟩ := h3
      exact I2.after ⟨v, delC H' L, os, bare, un_del cs un hok ct, delC_hok hok ct, r, q⟩
end
section
variable {X : Cx} {et : ET} {W : WX}
theorem de_lam {k j jl : Nat} {x : Str} {fn : List DV → MS → Rs MS DV} {p pos lpos : Pos} {params : Arguments} {body : Expr} {scope : Scope} {es : List Expr} {fs : Sg → Rs Sg (List DV)} (N ps fr : List Str) (sc : Scope) (js : List Nat) {df : Option Int} {fb : Sg → Rs Sg DV} {c P : Addr}
    (C : Here X k W) (G : FnC X.prog X.w X.K X.mg X.base et j x fn) (hΦ : et.Φ = CloOk X.prog X.w X.K X.mg X.base (etB et) (jl + 1)) (TB : LamX.TabB X.base X.mg c P) (hcode : X.env.code = .ref c) (hm : (P, X.env.qual ++ "<lambda>") ∈ et.T) (hu : ∀ p ∈ et.T, p.1 = P → p.2 = X.env.qual ++ "<lambda>")
    (hdf : DfOf params X.env df) (hb : BindL params body scope (X.env.qual ++ "<lambda>") ps df) (ha : DA X et W es fs)
    (hbody : ∀ (f c' : Addr) (A : Around) (outer : List Env) (s : Shared) (H : Hp) (E : XK), Here (NdefX.ncx (L2.CX X.prog X.w) X.prog X.w X.K X.mg X.base (ps ++ fr) ⟨"<lambda>", X.env.qual ++ "<lambda>", params, [], scope, cloFrom X.env.cells scope.names [], c'⟩ f A outer s H E) jl (fun cls d _ H => E cls d H) →
      DE (NdefX.ncx (L2.CX X.prog X.w) X.prog X.w X.K X.mg X.base (ps ++ fr) ⟨"<lambda>", X.env.qual ++ "<lambda>", params, [], scope, cloFrom X.env.cells scope.names [], c'⟩ f A outer s H E) et (fun cls d _ H => E cls d H) body fb)
    (hB : lamB N sc scope ps fr js = true := by decide +kernel) (hj : j ≤ k := by decide) (hXN : X.N = N := by rfl) (hXs : X.env.scope = sc := by rfl)
    (hfn : ∀ y, X.fn y = true := by intro _; rfl) (hg : Gl X x := by rfl) (hdb : (x == ("__debug__" : Str)) = false := by decide) (he : starEach (.Lambda params body scope lpos :: es) X.env = (false, eval (.Lambda params body scope lpos) X.env) :: starEach es X.env := by exact star_ok rfl) (hpl : (backTo pos (starEach es X.env)).any (·.1) = false := by exact plain_ok rfl) :
    DE X et W (.Call (.Name x p) (.Lambda params body scope lpos :: es) [] pos) (mCallL fn js df fb fs) := by
  unfold lamB at hB
  rw [Bool.and_eq_true, Bool.and_eq_true, Bool.and_eq_true] at hB
  obtain ⟨⟨⟨b1, b2⟩, b3⟩, b4⟩ := hB
  subst hXN
  subst hXs
  refine de_callLam C G hj hΦ TB hcode hm hu (NdefX.nscope_by b1) (fun y hy e => ?_) (fun y hy => ?_) (of_decide_eq_true b4) hdf hb ha hbody hfn hg hdb he hpl
  · have z := List.all_eq_true.mp b2 y hy
    simp only [Bool.or_eq_true, Bool.not_eq_true', decide_eq_false_iff_not, decide_eq_true_eq] at z
    rcases z with z | z
    · exact absurd e z
    · exact z
  · exact of_decide_eq_true (List.all_eq_true.mp b3 y hy)
theorem de_lam1 {k j jl : Nat} {x : Str} {fn : List DV → MS → Rs MS DV} {p pos lpos : Pos} {params : Arguments} {body : Expr} {scope : Scope} {es : List Expr} {fs : Sg → Rs Sg (List DV)} {e0 : Expr} {fo : Sg → Rs Sg DV} (N ps fr : List Str) (sc : Scope) (js : List Nat) {df : Option Int} {fb : Sg → Rs Sg DV} {c P : Addr}
    (C : Here X k W) (G : FnC X.prog X.w X.K X.mg X.base et j x fn) (hΦ : et.Φ = CloOk X.prog X.w X.K X.mg X.base (etB et) (jl + 1)) (TB : LamX.TabB X.base X.mg c P) (hcode : X.env.code = .ref c) (hm : (P, X.env.qual ++ "<lambda>") ∈ et.T) (hu : ∀ p ∈ et.T, p.1 = P → p.2 = X.env.qual ++ "<lambda>")
    (hdf : DfOf params X.env df) (hb : BindL params body scope (X.env.qual ++ "<lambda>") ps df) (he0 : DE X et W e0 fo) (ha : DA X et W es fs)
    (hbody : ∀ (f c' : Addr) (A : Around) (outer : List Env) (s : Shared) (H : Hp) (E : XK), Here (NdefX.ncx (L2.CX X.prog X.w) X.prog X.w X.K X.mg X.base (ps ++ fr) ⟨"<lambda>", X.env.qual ++ "<lambda>", params, [], scope, cloFrom X.env.cells scope.names [], c'⟩ f A outer s H E) jl (fun cls d _ H => E cls d H) →
      DE (NdefX.ncx (L2.CX X.prog X.w) X.prog X.w X.K X.mg X.base (ps ++ fr) ⟨"<lambda>", X.env.qual ++ "<lambda>", params, [], scope, cloFrom X.env.cells scope.names [], c'⟩ f A outer s H E) et (fun cls d _ H => E cls d H) body fb)
    (hB : lamB N sc scope ps fr js = true := by decide +kernel) (hj : j ≤ k := by decide) (hXN : X.N = N := by rfl) (hXs : X.env.scope = sc := by rfl)
    (hfn : ∀ y, X.fn y = true := by intro _; rfl) (hg : Gl X x := by rfl) (hdb : (x == ("__debug__" : Str)) = false := by decide) (he : starEach (e0 :: .Lambda params body scope lpos :: es) X.env = (false, eval e0 X.env) :: (false, eval (.Lambda params body scope lpos) X.env) :: starEach es X.env := by exact star12_ok rfl rfl) (hpl : (backTo pos (starEach es X.env)).any (·.1) = false := by exact plain_ok rfl) :
    DE X et W (.Call (.Name x p) (e0 :: .Lambda params body scope lpos :: es) [] pos) (mCallL1 fn fo js df fb fs) := by
  unfold lamB at hB
  rw [Bool.and_eq_true, Bool.and_eq_true, Bool.and_eq_true] at hB
  obtain ⟨⟨⟨b1, b2⟩, b3⟩, b4⟩ := hB
  subst hXN
  subst hXs
  refine de_callLam1 C G hj hΦ TB hcode hm hu (NdefX.nscope_by b1) (fun y hy e => ?_) (fun y hy => ?_) (of_decide_eq_true b4) hdf hb he0 ha hbody hfn hg hdb he hpl
  · have z := List.all_eq_true.mp b2 y hy
    simp only [Bool.or_eq_true, Bool.not_eq_true', decide_eq_false_iff_not, decide_eq_true_eq] at z
    rcases z with z | z
    · exact absurd e z
    · exact z
  · exact of_decide_eq_true (List.all_eq_true.mp b3 y hy)
end
end DL
set_option Elab.async false
set_option linter.all false
set_option maxRecDepth 100000
set_option maxHeartbeats 4000000
set_option autoImplicit false
namespace DL
open PySem PySem.Spec L2
open PyProof.Rows hiding St
section
variable {X : Cx} {et : ET} {W : WX}
def rgL (i j : Int) : List Int := (List.range (j - i).toNat).map fun m => i + (m : Nat)
theorem rgV_L (i j : Int) : rgV i j = (rgL i j).map V.int := by
  unfold rgV rgL
  rw [List.map_map]
  rfl
theorem de_listC {i j : Int} {x1 x2 : Nat} {q1 q2 p pr pos ps : Pos} (ml : X.mg "list" = none) (mr : X.mg "range" = none) (hc : X.calm = true := by rfl) (ok : RgOk i j := by exact ⟨by decide, by decide, by decide, by decide, by decide⟩) (gl : Gl X "list" := by rfl) (gr : Gl X "range" := by rfl)
    (na : starEach [Expr.Constant (.int i) x1 q1, .Constant (.int j) x2 q2] X.env = (false, eval (Expr.Constant (.int i) x1 q1) X.env) :: starEach [Expr.Constant (.int j) x2 q2] X.env := by rfl)
    (st : starEach [Expr.Call (.Name "range" pr) [.Constant (.int i) x1 q1, .Constant (.int j) x2 q2] [] ps] X.env = (false, eval (Expr.Call (.Name "range" pr) [.Constant (.int i) x1 q1, .Constant (.int j) x2 q2] [] ps) X.env) :: starEach [] X.env := by rfl) :
    DE X et W (.Call (.Name "list" p) [.Call (.Name "range" pr) [.Constant (.int i) x1 q1, .Constant (.int j) x2 q2] [] ps] [] pos) (mC (.list ((rgL i j).map .int))) := fun am B F g σ H Q R hq => by
  refine w_of (pe_listRg hc gl ml (prg_2 gr mr pe_int pe_int) st) ⟨i, j, rfl, rfl, ok, fun q hp => ?_⟩
  rw [rgV_L]
  obtain ⟨R', ex⟩ := R.alloc hp (.lst ((rgL i j).map V.int))
  exact hq _ _ _ ex R' (.lst upd_same (DnAll.ofInts _))
end
end DL
set_option Elab.async false
set_option linter.all false
set_option maxRecDepth 100000
set_option maxHeartbeats 4000000
set_option autoImplicit false
namespace DL
open PySem PySem.Spec L2
open PyProof.Rows hiding St
theorem law_ofK {P : Program} {w : World} {K : PySem.W.Frag} {mg : Str → Option Value} {base : Heap} {k : Nat} {st : Stmt} {N : List Str} {et : ET} {fb : Sg → Rs Sg Fl} {f : Addr} {fd : FuncData} (im : Nat) (h0 : 0 < im) (hlt : im < N.length)
    (F : FunD K "law" "law" (defArgs st) (defBody st) (defScope st) [] [] f fd) (S : FnScope N ["script"] (defScope st))
    (pure : ∀ ns : List Int, ns.length ≤ 63 → ∃ g, fb ⟨(startD N.length [.scr ns]).set im (some .m), ms0 ns⟩ = .ok (.rt (.pu (.bool true))) g)
    (hbody : ∀ (cdv : Value), CodeOf K f cdv → ∀ (A : Around) (outer : List Env) (s : Shared) (H : Hp) (E : XK), Here (cxOf (L2.CX P w) P w K mg base N "law" (defScope st) f cdv A outer s H E) k (fun cls d _ H => E cls d H) →
      ∃ s1 rest, defBody st = s1 :: rest ∧ PS (cxOf (L2.CX P w) P w K mg base N "law" (defScope st) f cdv A outer s H E) s1 (tAsg (tCallS (spBegun K) (WE fun cls d _ H => E cls d H) (tCons (tVar 0) tNil)) (gName im)) ∧
        DSs (cxOf (L2.CX P w) P w K mg base N "law" (defScope st) f cdv A outer s H E) et (fun cls d _ H => E cls d H) rest fb) : FnG P w K mg base (k + 1) f fd ["script"] (spLaw K et.T) := by
  refine fnG_ofK F S (fun vs H Q E ⟨_, _, h, _⟩ => by rw [h]; rfl) fun cdv hcv A outer s H vs Q E hr hgd hsp => ?_
  obtain ⟨a, ns, rfl, hS, hl, hT, hQ⟩ := hsp
  have here : Here (cxOf (L2.CX P w) P w K mg base N "law" (defScope st) f cdv A outer s H E) k (fun cls d _ H => E cls d H) := ⟨hr, hgd, takes_of rfl rfl rfl rfl, passes_of rfl, S.nd⟩
  obtain ⟨s1, rest, eb, h1, h2⟩ := hbody cdv hcv A outer s H E here
  rw [eb]
  obtain ⟨g, pg⟩ := pure ns hl
  refine wss_of (pss_cons h1 pss_w) ⟨.ref a, start_get rfl, a, ns, rfl, hS, hl, fun p ac H' sm hp npac e1 e2 => ?_⟩
  have hap : ∀ {b : Addr} {u : HO}, H b = some u → b ≠ p := fun e => ne_of_none e hp
  have ntb : ∀ {b : Addr} {u : HO}, H' b = some u → (∀ ps, u ≠ .tbl ps) → ∀ t ∈ et.T, b ≠ t.1 := fun e n t ht z => by
    have := sm _ _ (hT t ht)
    rw [← z, e] at this
    exact n _ (Option.some.inj this)
  have sq : SqL K (cutH et.T H' p) a (ns.map V.int) := by
    rcases hS with h | h
    · refine .inl ?_
      rcases h with h | ⟨o, h⟩
      · exact .inl (by rw [cutH_ne (hap h) (ntb (sm _ _ h) (fun _ z => by cases z)) (by rw [sm _ _ h]; rfl)]; exact sm _ _ h)
      · exact .inr ⟨o, by rw [cutH_ne (hap h) (ntb (sm _ _ h) (fun _ z => by cases z)) (by rw [sm _ _ h]; rfl)]; exact sm _ _ h⟩
    · exact .inr h
  have hlN : ((startD N.length [DV.scr ns]).set im (some .m)).length = N.length := by
    rw [List.length_set]
    unfold startD
    rw [List.length_append, List.length_map, List.length_replicate]
    show 1 + (N.length - 1) = N.length
    omega
  have R : RepF K et p (cutH et.T H' p) (cutH et.T H' p) ⟨(startD N.length [DV.scr ns]).set im (some .m), ms0 ns⟩ ((L2.start N [.ref a]).set im (some (.ref p))) H' := by
    refine ⟨fun b u e => cutH_of e, ⟨cutH_self, fun t ht => LamX.TabS.nil (sm _ _ (hT t ht)), fun t ht => cutH_tab ht⟩, fun b u e nb => KeepsO.of (cutH_of e), ?_, fun i x e => ?_, fun i j x1 x2 b q1 q2 o1 o2 _ _ => ?_, ac, e1, .lst (by rw [cutH_ne (Ne.symm npac) (ntb e2 (fun _ z => by cases z)) (by rw [e2]; rfl)]; exact e2) (DnAll.ofInts _), FRel.cut⟩
    · rw [hlN, List.length_set]
      unfold L2.start
      rw [List.length_append, List.length_map, List.length_replicate]
      show 1 + (N.length - 1) = N.length
      omega
    · have e : ((startD N.length [DV.scr ns]).set im (some .m))[i]? = some (some x) := e
      by_cases hi : im = i
      · subst hi
        rw [List.getElem?_set_self (by rw [List.length_set] at hlN; omega)] at e
        cases e
        refine ⟨.ref p, ?_, rfl⟩
        rw [List.getElem?_set_self]
        unfold L2.start
        rw [List.length_append, List.length_map, List.length_replicate]
        show im < 1 + (N.length - 1)
        omega
      · rw [List.getElem?_set_ne hi] at e
        have q := startD_get e
        have i0 : i = 0 := by
          cases i with
          | zero => rfl
          | succ n => simp at q
        subst i0
        simp at q
        subst q
        refine ⟨.ref a, ?_, a, rfl, sq⟩
        rw [List.getElem?_set_ne hi]
        exact start_get rfl
    · exfalso
      have e : ((startD N.length [DV.scr ns]).set im (some .m))[i]? = some (some x1) := q1
      by_cases hi : im = i
      · subst hi
        rw [List.getElem?_set_self (by rw [List.length_set] at hlN; omega)] at e
        cases e
        cases o1
      · rw [List.getElem?_set_ne hi] at e
        have q := startD_get e
        cases i with
        | zero =>
          simp at q
          subst q
          cases o1
        | succ n => simp at q
  refine h2 p _ _ _ _ H' _ R ?_
  rw [pg]
  intro v σ F' H2 _ _ dn
  have dn : Dn K et F' v (.bool true) := dn
  rw [dn.bl_of]
  exact hQ H2
end DL
set_option Elab.async false
set_option linter.all false
set_option maxRecDepth 100000
set_option maxHeartbeats 4000000
set_option autoImplicit false
namespace DL
open PySem PySem.Spec L2
open PyProof.Rows hiding St
def b_is_whole : Sg → Rs Sg Fl := mRet (mAndV (mIsi "int" (mVar 0)) (mAndV (mNotV (mIsi "bool" (mVar 0))) (mChain dLe dLe (mVar 1) (mVar 0) (mVar 2))))
def f_is_whole : List DV → MS → Rs MS DV := fnB 3 3 b_is_whole
def b_index_in : Sg → Rs Sg Fl := mRet (mCallB bSum (mCons (mLc [2, 3] (mZip (mCons (mVar 0) (mCons (mCallB bSorted (mCons (mVar 1) (mNil))) (mNil)))) (gtTup 2 (gtCons (gtName 2) (gtCons (gtName 3) (gtNil)))) (mYes) (mBin dMul (mVar 2) (mVar 3))) (mNil)))
def f_index_in : List DV → MS → Rs MS DV := fnB 2 4 b_index_in
def b_width_of : Sg → Rs Sg Fl := mRet (mCallB bMax (mCons (mBin dAdd (mSeq .list (mCons (mC (.int 1)) (mNil))) (mLc [1, 2, 3] (mSeqI (mBin dIx (mVar 0) (mC (.int 1)))) (gtTup 3 (gtCons (gtName 1) (gtCons (gtName 2) (gtCons (gtName 3) (gtNil))))) (mYes) (mCallB bLen (mCons (mVar 1) (mNil))))) (mNil)))
def f_width_of : List DV → MS → Rs MS DV := fnB 1 4 b_width_of
def b__law_draw : Sg → Rs Sg Fl := mSeqS (mIf (mTest (mBin dGt (mMget 0 dLeft) (mC (.int 0)))) (mSeqS (mSet 5 (mBin dMod (mCallB bInt (mCons (mMget 0 dLeft) (mNil))) (mVar 1))) (mSeqS (mMset 0 (fun s n => { s with left := n }) (mBin dDiv (mMget 0 dLeft) (mVar 1))) (mRet (mVar 5)))) ((fun g => .ok .nx g))) (mSeqS (mSet 2 (mBin dAdd (mMget 0 dSpot) (mC (.int 1)))) (mSeqS (mMset 0 (fun s n => { s with spot := n }) (mVar 2)) (mSeqS (mSet 3 (mBin dIx (mMget 0 dCells) (mBin dMod (mCallB bInt (mCons (mVar 2) (mNil))) (mCallB bLen (mCons (mMget 0 dCells) (mNil)))))) (mSeqS (mSet 4 (mBin dMul (mCallB bInt (mCons (mBin dAdd (mBin dAdd (mBin dMod (mCallB bInt (mCons (mVar 3) (mNil))) (mC (.int 2147483629))) (mBin dMul (mC (.int 6133)) (mVar 2))) (mBin dMul (mBin dMul (mC (.int 23)) (mVar 2)) (mVar 2))) (mNil))) (mC (.int 48271)))) (mSeqS (mSet 4 (mBin dMul (mCallB bInt (mCons (mBin dAdd (mBin dMod (mCallB bInt (mCons (mVar 4) (mNil))) (mC (.int 2147483647))) (mBin dMul (mC (.int 93241)) (mVar 2))) (mNil))) (mC (.int 69621)))) (mRet (mBin dMod (mCallB bInt (mCons (mBin dDiv (mBin dMod (mCallB bInt (mCons (mVar 4) (mNil))) (mC (.int 2147483587))) (mC (.int 13))) (mNil))) (mVar 1))))))))
def f__law_draw : List DV → MS → Rs MS DV := fnB 2 6 b__law_draw
def b_first_wrong : Sg → Rs Sg Fl := mSeqS (mFor (mEnum (mVar 0)) (gtTup 2 (gtCons (gtName 3) (gtCons (gtName 4) (gtNil)))) (mIf (mNotB (mTest (mCallF f_is_whole (mCons (mVar 4) (mCons (mVar 1) (mCons (mVar 2) (mNil))))))) (mRet (mVar 3)) ((fun g => .ok .nx g)))) (mRet (mC .none))
def f_first_wrong : List DV → MS → Rs MS DV := fnB 3 5 b_first_wrong
def b_paid_at : Sg → Rs Sg Fl := mSeqS (mSet 3 (mBin dMul (mBin dIx (mVar 0) (mC (.int 0))) (mBin dIx (mVar 1) (mVar 2)))) (mSeqS (mFor (mSeqI (mBin dIx (mVar 0) (mC (.int 1)))) (gtTup 3 (gtCons (gtName 4) (gtCons (gtName 5) (gtCons (gtName 6) (gtNil))))) (mSeqS (mAug 3 dAddI (mBin dMul (mVar 5) (mCallF f_index_in (mCons (mVar 4) (mCons (mCut (mVar 1) (mPart (mBin dSub (mVar 2) (mCallB bLen (mCons (mVar 4) (mNil))))) (mPart (mVar 2))) (mNil)))))) (mAug 3 dAddI (mBin dMul (mVar 6) (mCallF f_index_in (mCons (mVar 4) (mCons (mCut (mVar 1) (mPart (mBin dSub (mBin dAdd (mVar 2) (mC (.int 1))) (mCallB bLen (mCons (mVar 4) (mNil))))) (mPart (mBin dAdd (mVar 2) (mC (.int 1))))) (mNil)))))))) (mRet (mVar 3)))
def f_paid_at : List DV → MS → Rs MS DV := fnB 3 7 b_paid_at
def b__law_of : Sg → Rs Sg Fl := mRet (mBin dIx (mVar 1) (mCallF f__law_draw (mCons (mVar 0) (mCons (mCallB bLen (mCons (mVar 1) (mNil))) (mNil)))))
def f__law_of : List DV → MS → Rs MS DV := fnB 2 2 b__law_of
def b__law_weights : Sg → Rs Sg Fl := mSeqS (mSet 2 (mCallF f__law_draw (mCons (mVar 0) (mCons (mC (.int 2)) (mNil))))) (mSeqS (mSet 3 (mLc [4] (mRange1 (mCons (mBin dAdd (mC (.int 1)) (mCallF f__law_draw (mCons (mVar 0) (mCons (mVar 1) (mNil))))) (mNil))) (gtName 4) (mYes) (mIf (mTest (mBin dEq (mVar 2) (mC (.int 1)))) (mBin dSub (mCallF f__law_draw (mCons (mVar 0) (mCons (mC (.int 41)) (mNil)))) (mC (.int 20))) (mCallF f__law_draw (mCons (mVar 0) (mCons (mC (.int 4)) (mNil))))))) (mRet (mCallB bTuple (mCons (mVar 3) (mNil)))))
def f__law_weights : List DV → MS → Rs MS DV := fnB 2 5 b__law_weights
def b_is_rule : Sg → Rs Sg Fl := mSeqS (mIf (mOrB (mNotB (mTest (mIsi "tuple" (mVar 0)))) (mNotB (mTest (mChain dLe dLe (mC (.int 1)) (mCallB bLen (mCons (mVar 0) (mNil))) (mC (.int (6))))))) (mRet (mC (.bool false))) ((fun g => .ok .nx g))) (mRet (mBin dIs (mCallF f_first_wrong (mCons (mVar 0) (mCons (mBin dSub (mC (.int 0)) (mC (.int (20)))) (mCons (mC (.int (20))) (mNil))))) (mC .none)))
def f_is_rule : List DV → MS → Rs MS DV := fnB 1 1 b_is_rule
def b_pays_in : Sg → Rs Sg Fl := mRet (mLc [2] (mRange2 (mCons (mCallF f_width_of (mCons (mVar 0) (mNil))) (mCons (mCallB bLen (mCons (mVar 1) (mNil))) (mNil)))) (gtName 2) (mYes) (mCallF f_paid_at (mCons (mVar 0) (mCons (mVar 1) (mCons (mVar 2) (mNil))))))
def f_pays_in : List DV → MS → Rs MS DV := fnB 2 3 b_pays_in
def b__law_drawn_bill : Sg → Rs Sg Fl := mSeqS (mParEN 3 4 (mCallF f__law_of (mCons (mVar 0) (mCons (mSeq .list (mCons (mC (.int 0)) (mCons (mC (.int 1)) (mCons (mC (.int 2)) (mCons (mNeg (mC (.int 1))) (mCons (mBin dSub (mCallF f__law_draw (mCons (mVar 0) (mCons (mC (.int 101)) (mNil)))) (mC (.int 50))) (mNil))))))) (mNil))))) (mSeqS (mFor (mRange1 (mCons (mCallF f__law_draw (mCons (mVar 0) (mCons (mC (.int 3)) (mNil)))) (mNil))) (gtName 2) (mApp 4 (mSeq .tuple (mCons (mCallF f__law_weights (mCons (mVar 0) (mCons (mVar 1) (mNil)))) (mCons (mBin dSub (mCallF f__law_draw (mCons (mVar 0) (mCons (mC (.int 7)) (mNil)))) (mC (.int 3))) (mCons (mBin dSub (mCallF f__law_draw (mCons (mVar 0) (mCons (mC (.int 7)) (mNil)))) (mC (.int 3))) (mNil))))))) (mRet (mSeq .tuple (mCons (mVar 3) (mCons (mCallB bTuple (mCons (mVar 4) (mNil))) (mNil))))))
def f__law_drawn_bill : List DV → MS → Rs MS DV := fnB 2 5 b__law_drawn_bill
def b_is_term : Sg → Rs Sg Fl := mSeqS (mIf (mOrB (mNotB (mTest (mIsi "tuple" (mVar 0)))) (mOrB (mTest (mBin dNe (mCallB bLen (mCons (mVar 0) (mNil))) (mC (.int 3)))) (mNotB (mTest (mCallF f_is_rule (mCons (mBin dIx (mVar 0) (mC (.int 0))) (mNil))))))) (mRet (mC (.bool false))) ((fun g => .ok .nx g))) (mRet (mAndV (mCallF f_is_whole (mCons (mBin dIx (mVar 0) (mC (.int 1))) (mCons (mBin dSub (mC (.int 0)) (mC (.int (50)))) (mCons (mC (.int (50))) (mNil))))) (mCallF f_is_whole (mCons (mBin dIx (mVar 0) (mC (.int 2))) (mCons (mBin dSub (mC (.int 0)) (mC (.int (50)))) (mCons (mC (.int (50))) (mNil)))))))
def f_is_term : List DV → MS → Rs MS DV := fnB 1 1 b_is_term
def b_fault_of : Sg → Rs Sg Fl := mSeqS (mIf (mOrB (mNotB (mTest (mIsi "tuple" (mVar 0)))) (mTest (mBin dNe (mCallB bLen (mCons (mVar 0) (mNil))) (mC (.int 2))))) (mRet (mSeq .list (mCons (mC (.str "form")) (mNil)))) ((fun g => .ok .nx g))) (mSeqS (mIf (mNotB (mTest (mCallF f_is_whole (mCons (mBin dIx (mVar 0) (mC (.int 0))) (mCons (mBin dSub (mC (.int 0)) (mC (.int (50)))) (mCons (mC (.int (50))) (mNil))))))) (mRet (mSeq .list (mCons (mC (.str "own")) (mNil)))) ((fun g => .ok .nx g))) (mSeqS (mIf (mOrB (mNotB (mTest (mIsi "tuple" (mBin dIx (mVar 0) (mC (.int 1)))))) (mTest (mBin dGt (mCallB bLen (mCons (mBin dIx (mVar 0) (mC (.int 1))) (mNil))) (mC (.int (2)))))) (mRet (mSeq .list (mCons (mC (.str "terms")) (mNil)))) ((fun g => .ok .nx g))) (mRet (mCut (mLc [1, 2] (mEnum (mBin dIx (mVar 0) (mC (.int 1)))) (gtTup 2 (gtCons (gtName 1) (gtCons (gtName 2) (gtNil)))) (mNotB (mTest (mCallF f_is_term (mCons (mVar 2) (mNil))))) (mVar 1)) (mNoPart) (mPart (mC (.int 1)))))))
def f_fault_of : List DV → MS → Rs MS DV := fnB 1 3 b_fault_of
def b_need_bill : Sg → Rs Sg Fl := mSeqS (mSet 1 (mCallF f_fault_of (mCons (mVar 0) (mNil)))) (mSeqS (mIf (mTest (mBin dNe (mVar 1) (mSeq .list (mNil)))) (mRaise 2 (mBin dIx (mVar 1) (mC (.int 0)))) ((fun g => .ok .nx g))) (mRet (mVar 0)))
def f_need_bill : List DV → MS → Rs MS DV := fnB 1 2 b_need_bill
def b__law_word : Sg → Rs Sg Fl := mSeqS (mNew 1) (mSeqS (mIf (mTest (mIsX (tabX nmX "BadRule") (mVar 0))) (mApp 1 (mSeq .tuple (mCons (mC (.str "rule")) (mCons (mFld (okX nmX flX "number") (mVar 0)) (mNil))))) ((fun g => .ok .nx g))) (mSeqS (mIf (mTest (mIsX (tabX nmX "BadRow") (mVar 0))) (mApp 1 (mSeq .tuple (mCons (mC (.str "row")) (mCons (mFld (okX nmX flX "number") (mVar 0)) (mNil))))) ((fun g => .ok .nx g))) (mSeqS (mIf (mTest (mIsX (tabX nmX "BadBill") (mVar 0))) (mApp 1 (mSeq .tuple (mCons (mC (.str "bill")) (mCons (mFld (okX nmX flX "part") (mVar 0)) (mNil))))) ((fun g => .ok .nx g))) (mSeqS (mIf (mTest (mIsX (tabX nmX "BadNumber") (mVar 0))) (mApp 1 (mSeq .tuple (mCons (mC (.str "number")) (mCons (mFld (okX nmX flX "value") (mVar 0)) (mNil))))) ((fun g => .ok .nx g))) (mSeqS (mIf (mTest (mIsX (tabX nmX "BadKind") (mVar 0))) (mApp 1 (mSeq .tuple (mCons (mC (.str "kind")) (mCons (mFld (okX nmX flX "value") (mVar 0)) (mNil))))) ((fun g => .ok .nx g))) (mSeqS (mIf (mTest (mIsX (tabX nmX "BadPaper") (mVar 0))) (mApp 1 (mSeq .tuple (mCons (mC (.str "paper")) (mCons (mFld (okX nmX flX "part") (mVar 0)) (mNil))))) ((fun g => .ok .nx g))) (mSeqS (mIf (mTest (mIsX (tabX nmX "BadText") (mVar 0))) (mApp 1 (mSeq .tuple (mCons (mC (.str "text")) (mCons (mFld (okX nmX flX "line") (mVar 0)) (mNil))))) ((fun g => .ok .nx g))) (mSeqS (mIf (mTest (mIsX (tabX nmX "Nothing") (mVar 0))) (mApp 1 (mSeq .tuple (mCons (mC (.str "nothing")) (mCons (mFld (okX nmX flX "value") (mVar 0)) (mNil))))) ((fun g => .ok .nx g))) (mRet (mIf (mTest (mBin dEq (mCallB bLen (mCons (mVar 1) (mNil))) (mC (.int 1)))) (mBin dIx (mVar 1) (mC (.int 0))) (mSeq .tuple (mCons (mC (.str "other")) (mCons (mC .none) (mNil))))))))))))))
def f__law_word : List DV → MS → Rs MS DV := fnB 1 2 b__law_word
def b__law_outcome : Sg → Rs Sg Fl := mSeqS (mAsg (mSeq .tuple (mCons (mC .none) (mCons (mC .none) (mNil)))) (gtTup 2 (gtCons (gtName 1) (gtCons (gtName 2) (gtNil))))) (mSeqS (mTry 3 2 (okC nmX) (mSet 1 (mCallC 0))) (mRet (mIf (mIsN (mVar 2)) (mSeq .list (mCons (mVar 1) (mNil))) (mCallF f__law_word (mCons (mVar 2) (mNil))))))
def f__law_outcome : List DV → MS → Rs MS DV := fnB 1 4 b__law_outcome
end DL
set_option Elab.async false
set_option linter.all false
set_option maxRecDepth 100000
set_option maxHeartbeats 4000000
set_option autoImplicit false
namespace DL
open PySem PySem.Spec L2
open PyProof.Rows hiding St
theorem p_is_whole (d : PyData) (lo hi : Int) (s : MS) (nd : isDct d = false) : f_is_whole [.pu d, .pu (.int lo), .pu (.int hi)] s = .ok (.pu (.bool (isW lo hi d))) s := by
  refine fn_eq rfl ?_
  show Sat (b_is_whole ⟨[some (.pu d), some (.pu (.int lo)), some (.pu (.int hi))], s⟩) _
  unfold b_is_whole
  cases d with
  | int a =>
    cases h : leB lo a with
    | true =>
      simp only [nd0, nd1, nd2, nd3, nd4, nd5, mSeqS, mIf, mTest, mBin, mMget, mC, mVar, mSet, mMset, mRet, mDrop, mCallB, mCons, mNil, mSeq, mNeg, mNotB, mNotV, mAndB, mOrB, mAndV, mOrV, mChain, mIsi, mPar2, mParNE, mParEN, mNew, mAug, mPart, mNoPart, mCut, mRange1, mRange2, mEnum, mZip, mSeqI, mCallF, Rs.bind_ok, Rs.of_some, Option.map_some, Option.bind_some, isM, asB, isOwn, dLt, dLe, dGt, dGe, dEq, dNe, dIs, dIsNot, isNon_non, isNon_int, dAdd, dAddI, dSub, dMul, dMod, dDiv, dPow, bInt, bLen, bTuple, bList, allP, Sg.put, List.getElem?_cons_zero, List.getElem?_cons_succ, List.set_cons_zero, List.set_cons_succ, if_true, if_false, Bool.false_eq_true, decide_true, decide_false, Bool.not_true, Bool.not_false, Bool.and_true, Bool.true_and, Bool.or_true, Bool.true_or, dLeft, dSpot, dCells, isiT, tyN, Bool.or_false, Bool.false_or, Bool.false_and, Bool.and_false, len0, cst0, len1, cst1, len2, cst2, len3, cst3, len4, cst4, len5, cst5, len6, cst6, len7, cst7, len8, cst8, len9, cst9, len10, cst10, len11, cst11, len12, cst12, big0, big1, big2, big3, big4, big5, big6, big7, big8, big9, big10, big11, big12, h, isW, reduceCtorEq]
      exact sat_ok ⟨rfl, rfl⟩
    | false =>
      simp only [nd0, nd1, nd2, nd3, nd4, nd5, mSeqS, mIf, mTest, mBin, mMget, mC, mVar, mSet, mMset, mRet, mDrop, mCallB, mCons, mNil, mSeq, mNeg, mNotB, mNotV, mAndB, mOrB, mAndV, mOrV, mChain, mIsi, mPar2, mParNE, mParEN, mNew, mAug, mPart, mNoPart, mCut, mRange1, mRange2, mEnum, mZip, mSeqI, mCallF, Rs.bind_ok, Rs.of_some, Option.map_some, Option.bind_some, isM, asB, isOwn, dLt, dLe, dGt, dGe, dEq, dNe, dIs, dIsNot, isNon_non, isNon_int, dAdd, dAddI, dSub, dMul, dMod, dDiv, dPow, bInt, bLen, bTuple, bList, allP, Sg.put, List.getElem?_cons_zero, List.getElem?_cons_succ, List.set_cons_zero, List.set_cons_succ, if_true, if_false, Bool.false_eq_true, decide_true, decide_false, Bool.not_true, Bool.not_false, Bool.and_true, Bool.true_and, Bool.or_true, Bool.true_or, dLeft, dSpot, dCells, isiT, tyN, Bool.or_false, Bool.false_or, Bool.false_and, Bool.and_false, len0, cst0, len1, cst1, len2, cst2, len3, cst3, len4, cst4, len5, cst5, len6, cst6, len7, cst7, len8, cst8, len9, cst9, len10, cst10, len11, cst11, len12, cst12, big0, big1, big2, big3, big4, big5, big6, big7, big8, big9, big10, big11, big12, h, isW, reduceCtorEq]
      exact sat_ok ⟨rfl, rfl⟩
  | _ =>
    simp only [nd0, nd1, nd2, nd3, nd4, nd5, mSeqS, mIf, mTest, mBin, mMget, mC, mVar, mSet, mMset, mRet, mDrop, mCallB, mCons, mNil, mSeq, mNeg, mNotB, mNotV, mAndB, mOrB, mAndV, mOrV, mChain, mIsi, mPar2, mParNE, mParEN, mNew, mAug, mPart, mNoPart, mCut, mRange1, mRange2, mEnum, mZip, mSeqI, mCallF, Rs.bind_ok, Rs.of_some, Option.map_some, Option.bind_some, isM, asB, isOwn, dLt, dLe, dGt, dGe, dEq, dNe, dIs, dIsNot, isNon_non, isNon_int, dAdd, dAddI, dSub, dMul, dMod, dDiv, dPow, bInt, bLen, bTuple, bList, allP, Sg.put, List.getElem?_cons_zero, List.getElem?_cons_succ, List.set_cons_zero, List.set_cons_succ, if_true, if_false, Bool.false_eq_true, decide_true, decide_false, Bool.not_true, Bool.not_false, Bool.and_true, Bool.true_and, Bool.or_true, Bool.true_or, dLeft, dSpot, dCells, isiT, tyN, Bool.or_false, Bool.false_or, Bool.false_and, Bool.and_false, len0, cst0, len1, cst1, len2, cst2, len3, cst3, len4, cst4, len5, cst5, len6, cst6, len7, cst7, len8, cst8, len9, cst9, len10, cst10, len11, cst11, len12, cst12, big0, big1, big2, big3, big4, big5, big6, big7, big8, big9, big10, big11, big12, isW, reduceCtorEq, nd]
    exact sat_ok ⟨rfl, rfl⟩
theorem p_first_wrong_at (x : DV) (ds : List PyData) (hx : seqOf x = some ds) (hv : x = .pu (.tuple ds) ∨ x = .pu (.list ds)) (lo hi : Int) (s : MS) (nd : ∀ d ∈ ds, isDct d = false) : f_first_wrong [x, .pu (.int lo), .pu (.int hi)] s = .ok (.pu (firstW lo hi ds)) s := by
  refine fn_eq rfl ?_
  show Sat (b_first_wrong ⟨[some x, some (.pu (.int lo)), some (.pu (.int hi)), none, none], s⟩) _
  unfold b_first_wrong mSeqS
  refine sat_bind (sat_forF (ds := enumFrom 0 ds) (g0 := ⟨[some x, some (.pu (.int lo)), some (.pu (.int hi)), none, none], s⟩) (fun g => ∃ y z, g = ⟨[some x, some (.pu (.int lo)), some (.pu (.int hi)), y, z], s⟩) (fun d => !isW lo hi (secI d)) (fun d => .pu (fstI d)) ?_ ⟨_, _, rfl⟩ ?_ ?_)
  · rcases hv with rfl | rfl <;> simp only [nd0, nd1, nd2, nd3, nd4, nd5, mSeqS, mIf, mTest, mBin, mMget, mC, mVar, mSet, mMset, mRet, mDrop, mCallB, mCons, mNil, mSeq, mNeg, mNotB, mNotV, mAndB, mOrB, mAndV, mOrV, mChain, mIsi, mPar2, mParNE, mParEN, mNew, mAug, mPart, mNoPart, mCut, mRange1, mRange2, mEnum, mZip, mSeqI, mCallF, Rs.bind_ok, Rs.of_some, Option.map_some, Option.bind_some, isM, asB, isOwn, dLt, dLe, dGt, dGe, dEq, dNe, dIs, dIsNot, isNon_non, isNon_int, dAdd, dAddI, dSub, dMul, dMod, dDiv, dPow, bInt, bLen, bTuple, bList, allP, Sg.put, List.getElem?_cons_zero, List.getElem?_cons_succ, List.set_cons_zero, List.set_cons_succ, if_true, if_false, Bool.false_eq_true, decide_true, decide_false, Bool.not_true, Bool.not_false, Bool.and_true, Bool.true_and, Bool.or_true, Bool.true_or, dLeft, dSpot, dCells, isiT, tyN, Bool.or_false, Bool.false_or, Bool.false_and, Bool.and_false, len0, cst0, len1, cst1, len2, cst2, len3, cst3, len4, cst4, len5, cst5, len6, cst6, len7, cst7, len8, cst8, len9, cst9, len10, cst10, len11, cst11, len12, cst12, big0, big1, big2, big3, big4, big5, big6, big7, big8, big9, big10, big11, big12, hx]
  · rintro d g hd ⟨y, z, rfl⟩
    obtain ⟨i, e, rfl, he⟩ := enum_mem hd
    refine ⟨_, rfl, ?_⟩
    show Sat (mIf _ _ _ ⟨[some x, some (.pu (.int lo)), some (.pu (.int hi)), some (.pu (.int (i : Nat))), some (.pu e)], s⟩) _
    cases hw : isW lo hi e with
    | true =>
      simp only [nd0, nd1, nd2, nd3, nd4, nd5, mSeqS, mIf, mTest, mBin, mMget, mC, mVar, mSet, mMset, mRet, mDrop, mCallB, mCons, mNil, mSeq, mNeg, mNotB, mNotV, mAndB, mOrB, mAndV, mOrV, mChain, mIsi, mPar2, mParNE, mParEN, mNew, mAug, mPart, mNoPart, mCut, mRange1, mRange2, mEnum, mZip, mSeqI, mCallF, Rs.bind_ok, Rs.of_some, Option.map_some, Option.bind_some, isM, asB, isOwn, dLt, dLe, dGt, dGe, dEq, dNe, dIs, dIsNot, isNon_non, isNon_int, dAdd, dAddI, dSub, dMul, dMod, dDiv, dPow, bInt, bLen, bTuple, bList, allP, Sg.put, List.getElem?_cons_zero, List.getElem?_cons_succ, List.set_cons_zero, List.set_cons_succ, if_true, if_false, Bool.false_eq_true, decide_true, decide_false, Bool.not_true, Bool.not_false, Bool.and_true, Bool.true_and, Bool.or_true, Bool.true_or, dLeft, dSpot, dCells, isiT, tyN, Bool.or_false, Bool.false_or, Bool.false_and, Bool.and_false, len0, cst0, len1, cst1, len2, cst2, len3, cst3, len4, cst4, len5, cst5, len6, cst6, len7, cst7, len8, cst8, len9, cst9, len10, cst10, len11, cst11, len12, cst12, big0, big1, big2, big3, big4, big5, big6, big7, big8, big9, big10, big11, big12, p_is_whole _ _ _ _ (nd e he), hw, secI, fstI]
      exact sat_ok ⟨⟨_, _, rfl⟩, rfl⟩
    | false =>
      simp only [nd0, nd1, nd2, nd3, nd4, nd5, mSeqS, mIf, mTest, mBin, mMget, mC, mVar, mSet, mMset, mRet, mDrop, mCallB, mCons, mNil, mSeq, mNeg, mNotB, mNotV, mAndB, mOrB, mAndV, mOrV, mChain, mIsi, mPar2, mParNE, mParEN, mNew, mAug, mPart, mNoPart, mCut, mRange1, mRange2, mEnum, mZip, mSeqI, mCallF, Rs.bind_ok, Rs.of_some, Option.map_some, Option.bind_some, isM, asB, isOwn, dLt, dLe, dGt, dGe, dEq, dNe, dIs, dIsNot, isNon_non, isNon_int, dAdd, dAddI, dSub, dMul, dMod, dDiv, dPow, bInt, bLen, bTuple, bList, allP, Sg.put, List.getElem?_cons_zero, List.getElem?_cons_succ, List.set_cons_zero, List.set_cons_succ, if_true, if_false, Bool.false_eq_true, decide_true, decide_false, Bool.not_true, Bool.not_false, Bool.and_true, Bool.true_and, Bool.or_true, Bool.true_or, dLeft, dSpot, dCells, isiT, tyN, Bool.or_false, Bool.false_or, Bool.false_and, Bool.and_false, len0, cst0, len1, cst1, len2, cst2, len3, cst3, len4, cst4, len5, cst5, len6, cst6, len7, cst7, len8, cst8, len9, cst9, len10, cst10, len11, cst11, len12, cst12, big0, big1, big2, big3, big4, big5, big6, big7, big8, big9, big10, big11, big12, p_is_whole _ _ _ _ (nd e he), hw, secI, fstI]
      exact sat_ok ⟨⟨_, _, rfl⟩, rfl⟩
  · rintro g' ⟨y, z, rfl⟩
    unfold firstW
    cases (enumFrom 0 ds).find? fun d => !isW lo hi (secI d) with
    | none => exact sat_ok ⟨rfl, rfl⟩
    | some d => exact sat_ok ⟨rfl, rfl⟩
theorem p_first_wrong (ds : List PyData) (lo hi : Int) (s : MS) (nd : ∀ d ∈ ds, isDct d = false) : f_first_wrong [.pu (.tuple ds), .pu (.int lo), .pu (.int hi)] s = .ok (.pu (firstW lo hi ds)) s := p_first_wrong_at _ ds rfl (.inl rfl) lo hi s nd
end DL
set_option Elab.async false
set_option linter.all false
set_option maxRecDepth 100000
set_option maxHeartbeats 4000000
set_option autoImplicit false
namespace DL
open PySem PySem.Spec L2
open PyProof.Rows hiding St
structure Ok (F : List (PyData × PyData)) (n : Nat) (s : MS) : Prop where
  cells : s.cells ≠ []
  pos : 0 ≤ s.spot
  room : s.spot + (n : Int) ≤ 2 ^ 62
  files : s.files = F
variable {F : List (PyData × PyData)}
theorem Ok.less {n m : Nat} {s : MS} (h : Ok F n s) (k : m ≤ n) : Ok F m s := ⟨h.cells, h.pos, by have := h.room; omega, h.files⟩
theorem ixN_nn {n : Nat} {i : Int} (h0 : 0 ≤ i) (h : i < n) : ixN n i = some i.toNat := by
  unfold ixN
  rw [if_pos h0, if_pos h]
theorem cell_at (l : List Int) (h : l ≠ []) (k : Int) : ∃ c, dIx (.list (l.map .int)) (.int (k % ((l.map PyData.int).length : Nat))) = some (.int c) := by
  have hl := List.length_pos_iff.mpr h
  have h0 := Int.emod_nonneg k (b := ((l.map PyData.int).length : Nat)) (by rw [List.length_map]; omega)
  have h1 := Int.emod_lt_of_pos k (b := ((l.map PyData.int).length : Nat)) (by rw [List.length_map]; omega)
  show ∃ c, atI _ _ = _
  unfold atI
  simp only [ixN_nn h0 h1, Option.bind_some, List.getElem?_map]
  rw [List.length_map] at *
  have h2 : (k % (l.length : Int)).toNat < l.length := by omega
  rw [List.getElem?_eq_getElem h2]
  exact ⟨_, rfl⟩
theorem draw_ok {n : Nat} {s : MS} {k : Int} (h : Ok F (n + 1) s) (hk0 : 0 < k) (hk20 : k < 1073741824) :
    Sat (f__law_draw [.m, .pu (.int k)] s) fun d s' => ∃ v, d = .pu (.int v) ∧ 0 ≤ v ∧ v < k ∧ Ok F n s' := by
  refine sat_fnB rfl ?_
  show Sat (b__law_draw ⟨[some .m, some (.pu (.int k)), none, none, none, none], s⟩) _
  unfold b__law_draw
  have hk := ltB_t hk0
  have hk2 := ltB_t hk20
  by_cases hl0 : 0 < s.left
  · have hl := ltB_t hl0
    simp only [nd0, nd1, nd2, nd3, nd4, nd5, mSeqS, mIf, mTest, mBin, mMget, mC, mVar, mSet, mMset, mRet, mDrop, mCallB, mCons, mNil, mSeq, mNeg, mNotB, mNotV, mAndB, mOrB, mAndV, mOrV, mChain, mIsi, mPar2, mParNE, mParEN, mNew, mAug, mPart, mNoPart, mCut, mRange1, mRange2, mEnum, mZip, mSeqI, mCallF, Rs.bind_ok, Rs.of_some, Option.map_some, Option.bind_some, isM, asB, isOwn, dLt, dLe, dGt, dGe, dEq, dNe, dIs, dIsNot, isNon_non, isNon_int, dAdd, dAddI, dSub, dMul, dMod, dDiv, dPow, bInt, bLen, bTuple, bList, allP, Sg.put, List.getElem?_cons_zero, List.getElem?_cons_succ, List.set_cons_zero, List.set_cons_succ, if_true, if_false, Bool.false_eq_true, decide_true, decide_false, Bool.not_true, Bool.not_false, Bool.and_true, Bool.true_and, Bool.or_true, Bool.true_or, dLeft, dSpot, dCells, isiT, tyN, Bool.or_false, Bool.false_or, Bool.false_and, Bool.and_false, len0, cst0, len1, cst1, len2, cst2, len3, cst3, len4, cst4, len5, cst5, len6, cst6, len7, cst7, len8, cst8, len9, cst9, len10, cst10, len11, cst11, len12, cst12, big0, big1, big2, big3, big4, big5, big6, big7, big8, big9, big10, big11, big12, hl, hk, hk2]
    refine sat_ok ⟨_, rfl, _, rfl, Int.emod_nonneg _ (by omega), Int.emod_lt_of_pos _ hk0, h.cells, h.pos, by have := h.room; simp only []; omega, h.files⟩
  · have hl := ltB_f (a := 0) (b := s.left) (by omega)
    have hc : ltB 0 (((s.cells.map PyData.int).length : Nat) : Int) = true := by
      rw [List.length_map]
      have := List.length_pos_iff.mpr h.cells
      exact ltB_t (by omega)
    obtain ⟨c, hx⟩ := cell_at s.cells h.cells (s.spot + 1)
    have hp := h.pos
    have hr := h.room
    have hm := small_of (a := s.spot + 1) (by omega) (by omega)
    have c1 : small 6133 = true := rfl
    have c2 : small 23 = true := rfl
    have c3 : small 48271 = true := rfl
    have c4 : small 93241 = true := rfl
    have c5 : small 69621 = true := rfl
    simp only [nd0, nd1, nd2, nd3, nd4, nd5, mSeqS, mIf, mTest, mBin, mMget, mC, mVar, mSet, mMset, mRet, mDrop, mCallB, mCons, mNil, mSeq, mNeg, mNotB, mNotV, mAndB, mOrB, mAndV, mOrV, mChain, mIsi, mPar2, mParNE, mParEN, mNew, mAug, mPart, mNoPart, mCut, mRange1, mRange2, mEnum, mZip, mSeqI, mCallF, Rs.bind_ok, Rs.of_some, Option.map_some, Option.bind_some, isM, asB, isOwn, dLt, dLe, dGt, dGe, dEq, dNe, dIs, dIsNot, isNon_non, isNon_int, dAdd, dAddI, dSub, dMul, dMod, dDiv, dPow, bInt, bLen, bTuple, bList, allP, Sg.put, List.getElem?_cons_zero, List.getElem?_cons_succ, List.set_cons_zero, List.set_cons_succ, if_true, if_false, Bool.false_eq_true, decide_true, decide_false, Bool.not_true, Bool.not_false, Bool.and_true, Bool.true_and, Bool.or_true, Bool.true_or, dLeft, dSpot, dCells, isiT, tyN, Bool.or_false, Bool.false_or, Bool.false_and, Bool.and_false, len0, cst0, len1, cst1, len2, cst2, len3, cst3, len4, cst4, len5, cst5, len6, cst6, len7, cst7, len8, cst8, len9, cst9, len10, cst10, len11, cst11, len12, cst12, big0, big1, big2, big3, big4, big5, big6, big7, big8, big9, big10, big11, big12, hl, hk, hk2, hc, hx, hm, c1, c2, c3, c4, c5, show ltB 0 2147483629 = true from rfl, show ltB 0 2147483647 = true from rfl, show ltB 0 2147483587 = true from rfl, show ltB 0 13 = true from rfl, show ltB 13 1073741824 = true from rfl]
    refine sat_ok ⟨_, rfl, _, rfl, Int.emod_nonneg _ (by omega), Int.emod_lt_of_pos _ hk0, h.cells, by simp only []; omega, by simp only []; omega, h.files⟩
end DL
set_option Elab.async false
set_option linter.all false
set_option maxRecDepth 100000
set_option maxHeartbeats 4000000
set_option autoImplicit false
namespace DL
open PySem PySem.Spec L2
open PyProof.Rows hiding St
theorem p_is_rule (d : PyData) (s : MS) (sh : d.showable = true) : f_is_rule [.pu d] s = .ok (.pu (.bool (isRuleD d))) s := by
  refine fn_eq rfl ?_
  show Sat (b_is_rule ⟨[some (.pu d)], s⟩) _
  unfold b_is_rule
  cases d with
  | tuple ds =>
    cases h1 : leB 1 (ds.length : Int) with
    | true =>
      cases h2 : leB (ds.length : Int) 6 with
      | true =>
        simp only [nd0, nd1, nd2, nd3, nd4, nd5, mSeqS, mIf, mTest, mBin, mMget, mC, mVar, mSet, mMset, mRet, mDrop, mCallB, mCons, mNil, mSeq, mNeg, mNotB, mNotV, mAndB, mOrB, mAndV, mOrV, mChain, mIsi, mPar2, mParNE, mParEN, mNew, mAug, mPart, mNoPart, mCut, mRange1, mRange2, mEnum, mZip, mSeqI, mCallF, Rs.bind_ok, Rs.of_some, Option.map_some, Option.bind_some, isM, asB, isOwn, dLt, dLe, dGt, dGe, dEq, dNe, dIs, dIsNot, isNon_non, isNon_int, dAdd, dAddI, dSub, dMul, dMod, dDiv, dPow, bInt, bLen, bTuple, bList, allP, Sg.put, List.getElem?_cons_zero, List.getElem?_cons_succ, List.set_cons_zero, List.set_cons_succ, if_true, if_false, Bool.false_eq_true, decide_true, decide_false, Bool.not_true, Bool.not_false, Bool.and_true, Bool.true_and, Bool.or_true, Bool.true_or, dLeft, dSpot, dCells, isiT, tyN, Bool.or_false, Bool.false_or, Bool.false_and, Bool.and_false, len0, cst0, len1, cst1, len2, cst2, len3, cst3, len4, cst4, len5, cst5, len6, cst6, len7, cst7, len8, cst8, len9, cst9, len10, cst10, len11, cst11, len12, cst12, big0, big1, big2, big3, big4, big5, big6, big7, big8, big9, big10, big11, big12, h1, h2, isRuleD, reduceCtorEq, p_first_wrong _ _ _ _ (fun e he => isDct_show (show_tup sh e he)), firstW_isNon, show (0 : Int) - 20 = -20 from rfl]
        exact sat_ok ⟨rfl, rfl⟩
      | false =>
        simp only [nd0, nd1, nd2, nd3, nd4, nd5, mSeqS, mIf, mTest, mBin, mMget, mC, mVar, mSet, mMset, mRet, mDrop, mCallB, mCons, mNil, mSeq, mNeg, mNotB, mNotV, mAndB, mOrB, mAndV, mOrV, mChain, mIsi, mPar2, mParNE, mParEN, mNew, mAug, mPart, mNoPart, mCut, mRange1, mRange2, mEnum, mZip, mSeqI, mCallF, Rs.bind_ok, Rs.of_some, Option.map_some, Option.bind_some, isM, asB, isOwn, dLt, dLe, dGt, dGe, dEq, dNe, dIs, dIsNot, isNon_non, isNon_int, dAdd, dAddI, dSub, dMul, dMod, dDiv, dPow, bInt, bLen, bTuple, bList, allP, Sg.put, List.getElem?_cons_zero, List.getElem?_cons_succ, List.set_cons_zero, List.set_cons_succ, if_true, if_false, Bool.false_eq_true, decide_true, decide_false, Bool.not_true, Bool.not_false, Bool.and_true, Bool.true_and, Bool.or_true, Bool.true_or, dLeft, dSpot, dCells, isiT, tyN, Bool.or_false, Bool.false_or, Bool.false_and, Bool.and_false, len0, cst0, len1, cst1, len2, cst2, len3, cst3, len4, cst4, len5, cst5, len6, cst6, len7, cst7, len8, cst8, len9, cst9, len10, cst10, len11, cst11, len12, cst12, big0, big1, big2, big3, big4, big5, big6, big7, big8, big9, big10, big11, big12, h1, h2, isRuleD, reduceCtorEq]
        exact sat_ok ⟨rfl, rfl⟩
    | false =>
      simp only [nd0, nd1, nd2, nd3, nd4, nd5, mSeqS, mIf, mTest, mBin, mMget, mC, mVar, mSet, mMset, mRet, mDrop, mCallB, mCons, mNil, mSeq, mNeg, mNotB, mNotV, mAndB, mOrB, mAndV, mOrV, mChain, mIsi, mPar2, mParNE, mParEN, mNew, mAug, mPart, mNoPart, mCut, mRange1, mRange2, mEnum, mZip, mSeqI, mCallF, Rs.bind_ok, Rs.of_some, Option.map_some, Option.bind_some, isM, asB, isOwn, dLt, dLe, dGt, dGe, dEq, dNe, dIs, dIsNot, isNon_non, isNon_int, dAdd, dAddI, dSub, dMul, dMod, dDiv, dPow, bInt, bLen, bTuple, bList, allP, Sg.put, List.getElem?_cons_zero, List.getElem?_cons_succ, List.set_cons_zero, List.set_cons_succ, if_true, if_false, Bool.false_eq_true, decide_true, decide_false, Bool.not_true, Bool.not_false, Bool.and_true, Bool.true_and, Bool.or_true, Bool.true_or, dLeft, dSpot, dCells, isiT, tyN, Bool.or_false, Bool.false_or, Bool.false_and, Bool.and_false, len0, cst0, len1, cst1, len2, cst2, len3, cst3, len4, cst4, len5, cst5, len6, cst6, len7, cst7, len8, cst8, len9, cst9, len10, cst10, len11, cst11, len12, cst12, big0, big1, big2, big3, big4, big5, big6, big7, big8, big9, big10, big11, big12, h1, isRuleD, reduceCtorEq]
      exact sat_ok ⟨rfl, rfl⟩
  | _ =>
    simp only [nd0, nd1, nd2, nd3, nd4, nd5, mSeqS, mIf, mTest, mBin, mMget, mC, mVar, mSet, mMset, mRet, mDrop, mCallB, mCons, mNil, mSeq, mNeg, mNotB, mNotV, mAndB, mOrB, mAndV, mOrV, mChain, mIsi, mPar2, mParNE, mParEN, mNew, mAug, mPart, mNoPart, mCut, mRange1, mRange2, mEnum, mZip, mSeqI, mCallF, Rs.bind_ok, Rs.of_some, Option.map_some, Option.bind_some, isM, asB, isOwn, dLt, dLe, dGt, dGe, dEq, dNe, dIs, dIsNot, isNon_non, isNon_int, dAdd, dAddI, dSub, dMul, dMod, dDiv, dPow, bInt, bLen, bTuple, bList, allP, Sg.put, List.getElem?_cons_zero, List.getElem?_cons_succ, List.set_cons_zero, List.set_cons_succ, if_true, if_false, Bool.false_eq_true, decide_true, decide_false, Bool.not_true, Bool.not_false, Bool.and_true, Bool.true_and, Bool.or_true, Bool.true_or, dLeft, dSpot, dCells, isiT, tyN, Bool.or_false, Bool.false_or, Bool.false_and, Bool.and_false, len0, cst0, len1, cst1, len2, cst2, len3, cst3, len4, cst4, len5, cst5, len6, cst6, len7, cst7, len8, cst8, len9, cst9, len10, cst10, len11, cst11, len12, cst12, big0, big1, big2, big3, big4, big5, big6, big7, big8, big9, big10, big11, big12, isRuleD, reduceCtorEq, isDct_show sh]
    exact sat_ok ⟨rfl, rfl⟩
theorem p_index_in (ws ns : List Int) (s : MS) (hl : ws.length ≤ bigN) (hs : ∀ w ∈ ws, small w = true) : f_index_in [.pu (.tuple (ws.map .int)), .pu (.tuple (ns.map .int))] s = .ok (.pu (.int (idx ws ns))) s := by
  refine fn_eq rfl ?_
  show Sat (b_index_in ⟨[some (.pu (.tuple (ws.map .int))), some (.pu (.tuple (ns.map .int))), none, none], s⟩) _
  unfold b_index_in
  have hi : mZip (mCons (mVar 0) (mCons (mCallB bSorted (mCons (mVar 1) mNil)) mNil)) ⟨[some (.pu (.tuple (ws.map .int))), some (.pu (.tuple (ns.map .int))), none, none], s⟩ = .ok (zipD (ws.map .int) ((sortI ns).map .int)) ⟨[some (.pu (.tuple (ws.map .int))), some (.pu (.tuple (ns.map .int))), none, none], s⟩ := by
    simp only [nd0, nd1, nd2, nd3, nd4, nd5, mSeqS, mIf, mTest, mBin, mMget, mC, mVar, mSet, mMset, mRet, mDrop, mCallB, mCons, mNil, mSeq, mNeg, mNotB, mNotV, mAndB, mOrB, mAndV, mOrV, mChain, mIsi, mPar2, mParNE, mParEN, mNew, mAug, mPart, mNoPart, mCut, mRange1, mRange2, mEnum, mZip, mSeqI, mCallF, Rs.bind_ok, Rs.of_some, Option.map_some, Option.bind_some, isM, asB, isOwn, dLt, dLe, dGt, dGe, dEq, dNe, dIs, dIsNot, isNon_non, isNon_int, dAdd, dAddI, dSub, dMul, dMod, dDiv, dPow, bInt, bLen, bTuple, bList, allP, Sg.put, List.getElem?_cons_zero, List.getElem?_cons_succ, List.set_cons_zero, List.set_cons_succ, if_true, if_false, Bool.false_eq_true, decide_true, decide_false, Bool.not_true, Bool.not_false, Bool.and_true, Bool.true_and, Bool.or_true, Bool.true_or, dLeft, dSpot, dCells, isiT, tyN, Bool.or_false, Bool.false_or, Bool.false_and, Bool.and_false, len0, cst0, len1, cst1, len2, cst2, len3, cst3, len4, cst4, len5, cst5, len6, cst6, len7, cst7, len8, cst8, len9, cst9, len10, cst10, len11, cst11, len12, cst12, big0, big1, big2, big3, big4, big5, big6, big7, big8, big9, big10, big11, big12, bSorted, allI_ints, zip2, seqOf]
  have hc := mLc_of (t := gtTup 2 (gtCons (gtName 2) (gtCons (gtName 3) gtNil))) (test := mYes) (elt := mBin dMul (mVar 2) (mVar 3)) (vs := [2, 3]) hi (lc_map mulT _ [] (by
    unfold zipD
    rw [List.length_zipWith, List.length_map, List.length_map]
    have := Nat.min_le_left ws.length (sortI ns).length
    rw [List.length_nil]
    omega) fun d hd => by
      obtain ⟨x, y, rfl, hx, hy⟩ := zipD_mem hd
      refine ⟨_, ⟨[some (.pu (.tuple (ws.map .int))), some (.pu (.tuple (ns.map .int))), some (.pu (.int x)), some (.pu (.int y))], s⟩, rfl, ?_, rfl⟩
      show mBin dMul (mVar 2) (mVar 3) ⟨[some (.pu (.tuple (ws.map .int))), some (.pu (.tuple (ns.map .int))), some (.pu (.int x)), some (.pu (.int y))], s⟩ = _
      simp only [nd0, nd1, nd2, nd3, nd4, nd5, mSeqS, mIf, mTest, mBin, mMget, mC, mVar, mSet, mMset, mRet, mDrop, mCallB, mCons, mNil, mSeq, mNeg, mNotB, mNotV, mAndB, mOrB, mAndV, mOrV, mChain, mIsi, mPar2, mParNE, mParEN, mNew, mAug, mPart, mNoPart, mCut, mRange1, mRange2, mEnum, mZip, mSeqI, mCallF, Rs.bind_ok, Rs.of_some, Option.map_some, Option.bind_some, isM, asB, isOwn, dLt, dLe, dGt, dGe, dEq, dNe, dIs, dIsNot, isNon_non, isNon_int, dAdd, dAddI, dSub, dMul, dMod, dDiv, dPow, bInt, bLen, bTuple, bList, allP, Sg.put, List.getElem?_cons_zero, List.getElem?_cons_succ, List.set_cons_zero, List.set_cons_succ, if_true, if_false, Bool.false_eq_true, decide_true, decide_false, Bool.not_true, Bool.not_false, Bool.and_true, Bool.true_and, Bool.or_true, Bool.true_or, dLeft, dSpot, dCells, isiT, tyN, Bool.or_false, Bool.false_or, Bool.false_and, Bool.and_false, len0, cst0, len1, cst1, len2, cst2, len3, cst3, len4, cst4, len5, cst5, len6, cst6, len7, cst7, len8, cst8, len9, cst9, len10, cst10, len11, cst11, len12, cst12, big0, big1, big2, big3, big4, big5, big6, big7, big8, big9, big10, big11, big12, hs x hx, mulT])
  rw [List.nil_append, zip_mul] at hc
  simp only [mRet, mCallB, mCons, mNil, hc, Rs.bind_ok, bSum, allI_ints, Option.map_some, Rs.of_some]
  exact sat_ok ⟨rfl, rfl⟩
end DL
set_option Elab.async false
set_option linter.all false
set_option maxRecDepth 100000
set_option maxHeartbeats 4000000
set_option autoImplicit false
namespace DL
open PySem PySem.Spec L2
open PyProof.Rows hiding St
abbrev Term := List Int × Int × Int
def ruleD (ws : List Int) : PyData := .tuple (ws.map .int)
def termD (t : Term) : PyData := .tuple [ruleD t.1, .int t.2.1, .int t.2.2]
def billD (own : Int) (ts : List Term) : PyData := .tuple [.int own, .tuple (ts.map termD)]
structure GRule (ws : List Int) : Prop where
  lo : 1 ≤ ws.length
  hi : ws.length ≤ 6
  ws : ∀ w ∈ ws, w.natAbs ≤ 20
structure GTerm (t : Term) : Prop where
  rule : GRule t.1
  a : t.2.1.natAbs ≤ 50
  b : t.2.2.natAbs ≤ 50
structure GBill (own : Int) (ts : List Term) : Prop where
  own : own.natAbs ≤ 50
  len : ts.length ≤ 2
  ts : ∀ t ∈ ts, GTerm t
structure GRow (R : List Int) : Prop where
  len : R.length ≤ 200
  ns : ∀ n ∈ R, 0 ≤ n ∧ n ≤ 1000000
theorem GRow.d {R : List Int} (h : GRow R) : ∀ d ∈ R.map PyData.int, isW 0 1000000 d = true := fun d hd => by
  rw [List.mem_map] at hd
  obtain ⟨n, hn, rfl⟩ := hd
  show (leB 0 n && leB n 1000000) = true
  rw [leB_t (h.ns n hn).1, leB_t (h.ns n hn).2]; rfl
theorem GRule.d {ws : List Int} (h : GRule ws) : isRuleD (ruleD ws) = true := by
  show (leB 1 ((ws.map PyData.int).length : Int) && leB ((ws.map PyData.int).length : Int) 6 && (ws.map PyData.int).all (isW (-20) 20)) = true
  have := h.lo
  have := h.hi
  rw [List.length_map, leB_t (by omega), leB_t (by omega), Bool.true_and, Bool.true_and, List.all_eq_true]
  intro d hd
  rw [List.mem_map] at hd
  obtain ⟨n, hn, rfl⟩ := hd
  have := h.ws n hn
  show (leB (-20) n && leB n 20) = true
  rw [leB_t (by omega), leB_t (by omega)]; rfl
theorem GRule.small {ws : List Int} (h : GRule ws) : ∀ w ∈ ws, small w = true := fun w hw => small_of (by have := h.ws w hw; omega) (by have := h.ws w hw; omega)
def isTermD : PyData → Bool
  | .tuple [a, b, c] => isRuleD a && isW (-50) 50 b && isW (-50) 50 c
  | _ => false
theorem isW_t {lo hi n : Int} (h1 : lo ≤ n) (h2 : n ≤ hi) : isW lo hi (.int n) = true := by
  show (leB lo n && leB n hi) = true
  rw [leB_t h1, leB_t h2]; rfl
theorem GTerm.d {t : Term} (h : GTerm t) : isTermD (termD t) = true := by
  have := h.a
  have := h.b
  show (isRuleD (ruleD t.1) && isW (-50) 50 (.int t.2.1) && isW (-50) 50 (.int t.2.2)) = true
  rw [h.rule.d, isW_t (by omega) (by omega), isW_t (by omega) (by omega)]; rfl
theorem p_is_term (d : PyData) (s : MS) (sh : d.showable = true) : f_is_term [.pu d] s = .ok (.pu (.bool (isTermD d))) s := by
  refine fn_eq rfl ?_
  show Sat (b_is_term ⟨[some (.pu d)], s⟩) _
  unfold b_is_term
  cases d with
  | tuple ds =>
    match ds with
    | [a, b, c] =>
      have e0 : dIx (.tuple [a, b, c]) (.int 0) = some a := rfl
      have e1 : dIx (.tuple [a, b, c]) (.int 1) = some b := rfl
      have e2 : dIx (.tuple [a, b, c]) (.int 2) = some c := rfl
      have sa := show_tup sh a (by simp)
      have sb := isDct_show (show_tup sh b (by simp))
      have sc := isDct_show (show_tup sh c (by simp))
      cases h1 : isRuleD a with
      | false =>
        simp only [nd0, nd1, nd2, nd3, nd4, nd5, mSeqS, mIf, mTest, mBin, mMget, mC, mVar, mSet, mMset, mRet, mDrop, mCallB, mCons, mNil, mSeq, mNeg, mNotB, mNotV, mAndB, mOrB, mAndV, mOrV, mChain, mIsi, mPar2, mParNE, mParEN, mNew, mAug, mPart, mNoPart, mCut, mRange1, mRange2, mEnum, mZip, mSeqI, mCallF, Rs.bind_ok, Rs.of_some, Option.map_some, Option.bind_some, isM, asB, isOwn, dLt, dLe, dGt, dGe, dEq, dNe, dIs, dIsNot, isNon_non, isNon_int, dAdd, dAddI, dSub, dMul, dMod, dDiv, dPow, bInt, bLen, bTuple, bList, allP, Sg.put, List.getElem?_cons_zero, List.getElem?_cons_succ, List.set_cons_zero, List.set_cons_succ, if_true, if_false, Bool.false_eq_true, decide_true, decide_false, Bool.not_true, Bool.not_false, Bool.and_true, Bool.true_and, Bool.or_true, Bool.true_or, dLeft, dSpot, dCells, isiT, tyN, Bool.or_false, Bool.false_or, Bool.false_and, Bool.and_false, len0, cst0, len1, cst1, len2, cst2, len3, cst3, len4, cst4, len5, cst5, len6, cst6, len7, cst7, len8, cst8, len9, cst9, len10, cst10, len11, cst11, len12, cst12, big0, big1, big2, big3, big4, big5, big6, big7, big8, big9, big10, big11, big12, e0, e1, e2, p_is_rule _ _ sa, h1, isTermD, reduceCtorEq]
        exact sat_ok ⟨rfl, rfl⟩
      | true =>
        cases h2 : isW (-50) 50 b with
        | false =>
          simp only [nd0, nd1, nd2, nd3, nd4, nd5, mSeqS, mIf, mTest, mBin, mMget, mC, mVar, mSet, mMset, mRet, mDrop, mCallB, mCons, mNil, mSeq, mNeg, mNotB, mNotV, mAndB, mOrB, mAndV, mOrV, mChain, mIsi, mPar2, mParNE, mParEN, mNew, mAug, mPart, mNoPart, mCut, mRange1, mRange2, mEnum, mZip, mSeqI, mCallF, Rs.bind_ok, Rs.of_some, Option.map_some, Option.bind_some, isM, asB, isOwn, dLt, dLe, dGt, dGe, dEq, dNe, dIs, dIsNot, isNon_non, isNon_int, dAdd, dAddI, dSub, dMul, dMod, dDiv, dPow, bInt, bLen, bTuple, bList, allP, Sg.put, List.getElem?_cons_zero, List.getElem?_cons_succ, List.set_cons_zero, List.set_cons_succ, if_true, if_false, Bool.false_eq_true, decide_true, decide_false, Bool.not_true, Bool.not_false, Bool.and_true, Bool.true_and, Bool.or_true, Bool.true_or, dLeft, dSpot, dCells, isiT, tyN, Bool.or_false, Bool.false_or, Bool.false_and, Bool.and_false, len0, cst0, len1, cst1, len2, cst2, len3, cst3, len4, cst4, len5, cst5, len6, cst6, len7, cst7, len8, cst8, len9, cst9, len10, cst10, len11, cst11, len12, cst12, big0, big1, big2, big3, big4, big5, big6, big7, big8, big9, big10, big11, big12, e0, e1, e2, p_is_rule _ _ sa, p_is_whole _ _ _ _ sb, p_is_whole _ _ _ _ sc, h1, h2, isTermD, reduceCtorEq, show (0 : Int) - 50 = -50 from rfl]
          exact sat_ok ⟨rfl, rfl⟩
        | true =>
          simp only [nd0, nd1, nd2, nd3, nd4, nd5, mSeqS, mIf, mTest, mBin, mMget, mC, mVar, mSet, mMset, mRet, mDrop, mCallB, mCons, mNil, mSeq, mNeg, mNotB, mNotV, mAndB, mOrB, mAndV, mOrV, mChain, mIsi, mPar2, mParNE, mParEN, mNew, mAug, mPart, mNoPart, mCut, mRange1, mRange2, mEnum, mZip, mSeqI, mCallF, Rs.bind_ok, Rs.of_some, Option.map_some, Option.bind_some, isM, asB, isOwn, dLt, dLe, dGt, dGe, dEq, dNe, dIs, dIsNot, isNon_non, isNon_int, dAdd, dAddI, dSub, dMul, dMod, dDiv, dPow, bInt, bLen, bTuple, bList, allP, Sg.put, List.getElem?_cons_zero, List.getElem?_cons_succ, List.set_cons_zero, List.set_cons_succ, if_true, if_false, Bool.false_eq_true, decide_true, decide_false, Bool.not_true, Bool.not_false, Bool.and_true, Bool.true_and, Bool.or_true, Bool.true_or, dLeft, dSpot, dCells, isiT, tyN, Bool.or_false, Bool.false_or, Bool.false_and, Bool.and_false, len0, cst0, len1, cst1, len2, cst2, len3, cst3, len4, cst4, len5, cst5, len6, cst6, len7, cst7, len8, cst8, len9, cst9, len10, cst10, len11, cst11, len12, cst12, big0, big1, big2, big3, big4, big5, big6, big7, big8, big9, big10, big11, big12, e0, e1, e2, p_is_rule _ _ sa, p_is_whole _ _ _ _ sb, p_is_whole _ _ _ _ sc, h1, h2, isTermD, reduceCtorEq, show (0 : Int) - 50 = -50 from rfl]
          exact sat_ok ⟨rfl, rfl⟩
    | [] => exact sat_ok ⟨rfl, rfl⟩
    | [_] => exact sat_ok ⟨rfl, rfl⟩
    | [_, _] => exact sat_ok ⟨rfl, rfl⟩
    | x :: y :: z :: u :: r =>
      have h : decide ((((x :: y :: z :: u :: r).length : Nat) : Int) = 3) = false := decide_eq_false (by simp only [List.length_cons]; omega)
      simp only [nd0, nd1, nd2, nd3, nd4, nd5, mSeqS, mIf, mTest, mBin, mMget, mC, mVar, mSet, mMset, mRet, mDrop, mCallB, mCons, mNil, mSeq, mNeg, mNotB, mNotV, mAndB, mOrB, mAndV, mOrV, mChain, mIsi, mPar2, mParNE, mParEN, mNew, mAug, mPart, mNoPart, mCut, mRange1, mRange2, mEnum, mZip, mSeqI, mCallF, Rs.bind_ok, Rs.of_some, Option.map_some, Option.bind_some, isM, asB, isOwn, dLt, dLe, dGt, dGe, dEq, dNe, dIs, dIsNot, isNon_non, isNon_int, dAdd, dAddI, dSub, dMul, dMod, dDiv, dPow, bInt, bLen, bTuple, bList, allP, Sg.put, List.getElem?_cons_zero, List.getElem?_cons_succ, List.set_cons_zero, List.set_cons_succ, if_true, if_false, Bool.false_eq_true, decide_true, decide_false, Bool.not_true, Bool.not_false, Bool.and_true, Bool.true_and, Bool.or_true, Bool.true_or, dLeft, dSpot, dCells, isiT, tyN, Bool.or_false, Bool.false_or, Bool.false_and, Bool.and_false, len0, cst0, len1, cst1, len2, cst2, len3, cst3, len4, cst4, len5, cst5, len6, cst6, len7, cst7, len8, cst8, len9, cst9, len10, cst10, len11, cst11, len12, cst12, big0, big1, big2, big3, big4, big5, big6, big7, big8, big9, big10, big11, big12, isTermD, reduceCtorEq, h]
      exact sat_ok ⟨rfl, rfl⟩
  | _ =>
    simp only [nd0, nd1, nd2, nd3, nd4, nd5, mSeqS, mIf, mTest, mBin, mMget, mC, mVar, mSet, mMset, mRet, mDrop, mCallB, mCons, mNil, mSeq, mNeg, mNotB, mNotV, mAndB, mOrB, mAndV, mOrV, mChain, mIsi, mPar2, mParNE, mParEN, mNew, mAug, mPart, mNoPart, mCut, mRange1, mRange2, mEnum, mZip, mSeqI, mCallF, Rs.bind_ok, Rs.of_some, Option.map_some, Option.bind_some, isM, asB, isOwn, dLt, dLe, dGt, dGe, dEq, dNe, dIs, dIsNot, isNon_non, isNon_int, dAdd, dAddI, dSub, dMul, dMod, dDiv, dPow, bInt, bLen, bTuple, bList, allP, Sg.put, List.getElem?_cons_zero, List.getElem?_cons_succ, List.set_cons_zero, List.set_cons_succ, if_true, if_false, Bool.false_eq_true, decide_true, decide_false, Bool.not_true, Bool.not_false, Bool.and_true, Bool.true_and, Bool.or_true, Bool.true_or, dLeft, dSpot, dCells, isiT, tyN, Bool.or_false, Bool.false_or, Bool.false_and, Bool.and_false, len0, cst0, len1, cst1, len2, cst2, len3, cst3, len4, cst4, len5, cst5, len6, cst6, len7, cst7, len8, cst8, len9, cst9, len10, cst10, len11, cst11, len12, cst12, big0, big1, big2, big3, big4, big5, big6, big7, big8, big9, big10, big11, big12, isTermD, reduceCtorEq, isDct_show sh]
    exact sat_ok ⟨rfl, rfl⟩
def badTerms (ts : List PyData) : List PyData := cutL (((enumFrom 0 ts).filter fun d => !isTermD (secI d)).map fstI) none (some 1)
def faultD : PyData → List PyData
  | .tuple [own, .tuple ts] => if isW (-50) 50 own then if ltB 2 (ts.length : Int) then [.str "terms"] else badTerms ts else [.str "own"]
  | .tuple [own, _] => if isW (-50) 50 own then [.str "terms"] else [.str "own"]
  | _ => [.str "form"]
theorem enum_len : ∀ (k : Nat) (ds : List PyData), (enumFrom k ds).length = ds.length
  | _, [] => rfl
  | k, _ :: r => by unfold enumFrom; rw [List.length_cons, List.length_cons, enum_len (k + 1) r]
theorem p_fault_of (d : PyData) (s : MS) (sh : d.showable = true) : f_fault_of [.pu d] s = .ok (.pu (.list (faultD d))) s := by
  refine fn_eq rfl ?_
  show Sat (b_fault_of ⟨[some (.pu d), none, none], s⟩) _
  unfold b_fault_of
  cases d with
  | tuple ds =>
    match ds with
    | [own, t] =>
      have e0 : dIx (.tuple [own, t]) (.int 0) = some own := rfl
      have e1 : dIx (.tuple [own, t]) (.int 1) = some t := rfl
      have e4 : (0 : Int) - 50 = -50 := rfl
      have so := isDct_show (show_tup sh own (by simp))
      have s2 := show_tup sh t (by simp)
      cases h1 : isW (-50) 50 own with
      | false =>
        simp only [nd0, nd1, nd2, nd3, nd4, nd5, mSeqS, mIf, mTest, mBin, mMget, mC, mVar, mSet, mMset, mRet, mDrop, mCallB, mCons, mNil, mSeq, mNeg, mNotB, mNotV, mAndB, mOrB, mAndV, mOrV, mChain, mIsi, mPar2, mParNE, mParEN, mNew, mAug, mPart, mNoPart, mCut, mRange1, mRange2, mEnum, mZip, mSeqI, mCallF, Rs.bind_ok, Rs.of_some, Option.map_some, Option.bind_some, isM, asB, isOwn, dLt, dLe, dGt, dGe, dEq, dNe, dIs, dIsNot, isNon_non, isNon_int, dAdd, dAddI, dSub, dMul, dMod, dDiv, dPow, bInt, bLen, bTuple, bList, allP, Sg.put, List.getElem?_cons_zero, List.getElem?_cons_succ, List.set_cons_zero, List.set_cons_succ, if_true, if_false, Bool.false_eq_true, decide_true, decide_false, Bool.not_true, Bool.not_false, Bool.and_true, Bool.true_and, Bool.or_true, Bool.true_or, dLeft, dSpot, dCells, isiT, tyN, Bool.or_false, Bool.false_or, Bool.false_and, Bool.and_false, len0, cst0, len1, cst1, len2, cst2, len3, cst3, len4, cst4, len5, cst5, len6, cst6, len7, cst7, len8, cst8, len9, cst9, len10, cst10, len11, cst11, len12, cst12, big0, big1, big2, big3, big4, big5, big6, big7, big8, big9, big10, big11, big12, e0, e1, e4, p_is_whole _ _ _ _ so, h1, reduceCtorEq]
        exact sat_ok ⟨by cases t <;> simp only [faultD, h1, Bool.false_eq_true, if_false], rfl⟩
      | true =>
        cases t with
        | tuple ts =>
          cases h2 : ltB 2 (ts.length : Int) with
          | true =>
            simp only [nd0, nd1, nd2, nd3, nd4, nd5, mSeqS, mIf, mTest, mBin, mMget, mC, mVar, mSet, mMset, mRet, mDrop, mCallB, mCons, mNil, mSeq, mNeg, mNotB, mNotV, mAndB, mOrB, mAndV, mOrV, mChain, mIsi, mPar2, mParNE, mParEN, mNew, mAug, mPart, mNoPart, mCut, mRange1, mRange2, mEnum, mZip, mSeqI, mCallF, Rs.bind_ok, Rs.of_some, Option.map_some, Option.bind_some, isM, asB, isOwn, dLt, dLe, dGt, dGe, dEq, dNe, dIs, dIsNot, isNon_non, isNon_int, dAdd, dAddI, dSub, dMul, dMod, dDiv, dPow, bInt, bLen, bTuple, bList, allP, Sg.put, List.getElem?_cons_zero, List.getElem?_cons_succ, List.set_cons_zero, List.set_cons_succ, if_true, if_false, Bool.false_eq_true, decide_true, decide_false, Bool.not_true, Bool.not_false, Bool.and_true, Bool.true_and, Bool.or_true, Bool.true_or, dLeft, dSpot, dCells, isiT, tyN, Bool.or_false, Bool.false_or, Bool.false_and, Bool.and_false, len0, cst0, len1, cst1, len2, cst2, len3, cst3, len4, cst4, len5, cst5, len6, cst6, len7, cst7, len8, cst8, len9, cst9, len10, cst10, len11, cst11, len12, cst12, big0, big1, big2, big3, big4, big5, big6, big7, big8, big9, big10, big11, big12, e0, e1, e4, p_is_whole _ _ _ _ so, h1, h2, reduceCtorEq]
            exact sat_ok ⟨by simp only [faultD, h1, h2, if_true], rfl⟩
          | false =>
            refine sat_seq ?_
            simp only [nd0, nd1, nd2, nd3, nd4, nd5, mSeqS, mIf, mTest, mBin, mMget, mC, mVar, mSet, mMset, mRet, mDrop, mCallB, mCons, mNil, mSeq, mNeg, mNotB, mNotV, mAndB, mOrB, mAndV, mOrV, mChain, mIsi, mPar2, mParNE, mParEN, mNew, mAug, mPart, mNoPart, mCut, mRange1, mRange2, mEnum, mZip, mSeqI, mCallF, Rs.bind_ok, Rs.of_some, Option.map_some, Option.bind_some, isM, asB, isOwn, dLt, dLe, dGt, dGe, dEq, dNe, dIs, dIsNot, isNon_non, isNon_int, dAdd, dAddI, dSub, dMul, dMod, dDiv, dPow, bInt, bLen, bTuple, bList, allP, Sg.put, List.getElem?_cons_zero, List.getElem?_cons_succ, List.set_cons_zero, List.set_cons_succ, if_true, if_false, Bool.false_eq_true, decide_true, decide_false, Bool.not_true, Bool.not_false, Bool.and_true, Bool.true_and, Bool.or_true, Bool.true_or, dLeft, dSpot, dCells, isiT, tyN, Bool.or_false, Bool.false_or, Bool.false_and, Bool.and_false, len0, cst0, len1, cst1, len2, cst2, len3, cst3, len4, cst4, len5, cst5, len6, cst6, len7, cst7, len8, cst8, len9, cst9, len10, cst10, len11, cst11, len12, cst12, big0, big1, big2, big3, big4, big5, big6, big7, big8, big9, big10, big11, big12, e0, e1, e4, p_is_whole _ _ _ _ so, h1, h2, reduceCtorEq]
            refine sat_nxt (sat_seq ?_)
            simp only [nd0, nd1, nd2, nd3, nd4, nd5, mSeqS, mIf, mTest, mBin, mMget, mC, mVar, mSet, mMset, mRet, mDrop, mCallB, mCons, mNil, mSeq, mNeg, mNotB, mNotV, mAndB, mOrB, mAndV, mOrV, mChain, mIsi, mPar2, mParNE, mParEN, mNew, mAug, mPart, mNoPart, mCut, mRange1, mRange2, mEnum, mZip, mSeqI, mCallF, Rs.bind_ok, Rs.of_some, Option.map_some, Option.bind_some, isM, asB, isOwn, dLt, dLe, dGt, dGe, dEq, dNe, dIs, dIsNot, isNon_non, isNon_int, dAdd, dAddI, dSub, dMul, dMod, dDiv, dPow, bInt, bLen, bTuple, bList, allP, Sg.put, List.getElem?_cons_zero, List.getElem?_cons_succ, List.set_cons_zero, List.set_cons_succ, if_true, if_false, Bool.false_eq_true, decide_true, decide_false, Bool.not_true, Bool.not_false, Bool.and_true, Bool.true_and, Bool.or_true, Bool.true_or, dLeft, dSpot, dCells, isiT, tyN, Bool.or_false, Bool.false_or, Bool.false_and, Bool.and_false, len0, cst0, len1, cst1, len2, cst2, len3, cst3, len4, cst4, len5, cst5, len6, cst6, len7, cst7, len8, cst8, len9, cst9, len10, cst10, len11, cst11, len12, cst12, big0, big1, big2, big3, big4, big5, big6, big7, big8, big9, big10, big11, big12, e0, e1, e4, p_is_whole _ _ _ _ so, h1, h2, reduceCtorEq]
            refine sat_nxt (sat_seq ?_)
            simp only [nd0, nd1, nd2, nd3, nd4, nd5, mSeqS, mIf, mTest, mBin, mMget, mC, mVar, mSet, mMset, mRet, mDrop, mCallB, mCons, mNil, mSeq, mNeg, mNotB, mNotV, mAndB, mOrB, mAndV, mOrV, mChain, mIsi, mPar2, mParNE, mParEN, mNew, mAug, mPart, mNoPart, mCut, mRange1, mRange2, mEnum, mZip, mSeqI, mCallF, Rs.bind_ok, Rs.of_some, Option.map_some, Option.bind_some, isM, asB, isOwn, dLt, dLe, dGt, dGe, dEq, dNe, dIs, dIsNot, isNon_non, isNon_int, dAdd, dAddI, dSub, dMul, dMod, dDiv, dPow, bInt, bLen, bTuple, bList, allP, Sg.put, List.getElem?_cons_zero, List.getElem?_cons_succ, List.set_cons_zero, List.set_cons_succ, if_true, if_false, Bool.false_eq_true, decide_true, decide_false, Bool.not_true, Bool.not_false, Bool.and_true, Bool.true_and, Bool.or_true, Bool.true_or, dLeft, dSpot, dCells, isiT, tyN, Bool.or_false, Bool.false_or, Bool.false_and, Bool.and_false, len0, cst0, len1, cst1, len2, cst2, len3, cst3, len4, cst4, len5, cst5, len6, cst6, len7, cst7, len8, cst8, len9, cst9, len10, cst10, len11, cst11, len12, cst12, big0, big1, big2, big3, big4, big5, big6, big7, big8, big9, big10, big11, big12, e0, e1, e4, p_is_whole _ _ _ _ so, h1, h2, reduceCtorEq]
            refine sat_nxt ?_
            unfold mRet mCut
            rw [mLc_filter (ds := enumFrom 0 ts) (fun d => !isTermD (secI d)) fstI]
            · simp only [nd0, nd1, nd2, nd3, nd4, nd5, mSeqS, mIf, mTest, mBin, mMget, mC, mVar, mSet, mMset, mRet, mDrop, mCallB, mCons, mNil, mSeq, mNeg, mNotB, mNotV, mAndB, mOrB, mAndV, mOrV, mChain, mIsi, mPar2, mParNE, mParEN, mNew, mAug, mPart, mNoPart, mCut, mRange1, mRange2, mEnum, mZip, mSeqI, mCallF, Rs.bind_ok, Rs.of_some, Option.map_some, Option.bind_some, isM, asB, isOwn, dLt, dLe, dGt, dGe, dEq, dNe, dIs, dIsNot, isNon_non, isNon_int, dAdd, dAddI, dSub, dMul, dMod, dDiv, dPow, bInt, bLen, bTuple, bList, allP, Sg.put, List.getElem?_cons_zero, List.getElem?_cons_succ, List.set_cons_zero, List.set_cons_succ, if_true, if_false, Bool.false_eq_true, decide_true, decide_false, Bool.not_true, Bool.not_false, Bool.and_true, Bool.true_and, Bool.or_true, Bool.true_or, dLeft, dSpot, dCells, isiT, tyN, Bool.or_false, Bool.false_or, Bool.false_and, Bool.and_false, len0, cst0, len1, cst1, len2, cst2, len3, cst3, len4, cst4, len5, cst5, len6, cst6, len7, cst7, len8, cst8, len9, cst9, len10, cst10, len11, cst11, len12, cst12, big0, big1, big2, big3, big4, big5, big6, big7, big8, big9, big10, big11, big12, dCut]
              exact sat_ok ⟨by simp only [faultD, h1, h2, if_true, Bool.false_eq_true, if_false, badTerms], rfl⟩
            · simp only [nd0, nd1, nd2, nd3, nd4, nd5, mSeqS, mIf, mTest, mBin, mMget, mC, mVar, mSet, mMset, mRet, mDrop, mCallB, mCons, mNil, mSeq, mNeg, mNotB, mNotV, mAndB, mOrB, mAndV, mOrV, mChain, mIsi, mPar2, mParNE, mParEN, mNew, mAug, mPart, mNoPart, mCut, mRange1, mRange2, mEnum, mZip, mSeqI, mCallF, Rs.bind_ok, Rs.of_some, Option.map_some, Option.bind_some, isM, asB, isOwn, dLt, dLe, dGt, dGe, dEq, dNe, dIs, dIsNot, isNon_non, isNon_int, dAdd, dAddI, dSub, dMul, dMod, dDiv, dPow, bInt, bLen, bTuple, bList, allP, Sg.put, List.getElem?_cons_zero, List.getElem?_cons_succ, List.set_cons_zero, List.set_cons_succ, if_true, if_false, Bool.false_eq_true, decide_true, decide_false, Bool.not_true, Bool.not_false, Bool.and_true, Bool.true_and, Bool.or_true, Bool.true_or, dLeft, dSpot, dCells, isiT, tyN, Bool.or_false, Bool.false_or, Bool.false_and, Bool.and_false, len0, cst0, len1, cst1, len2, cst2, len3, cst3, len4, cst4, len5, cst5, len6, cst6, len7, cst7, len8, cst8, len9, cst9, len10, cst10, len11, cst11, len12, cst12, big0, big1, big2, big3, big4, big5, big6, big7, big8, big9, big10, big11, big12, e0, e1, seqOf]
            · rw [enum_len]
              have : ¬ (2 : Int) < ts.length := fun z => by rw [ltB_t z] at h2; cases h2
              unfold bigN
              omega
            · intro d hd
              obtain ⟨i, e, rfl, he⟩ := enum_mem hd
              refine ⟨_, ⟨[some (.pu (.tuple [own, .tuple ts])), some (.pu (.int (i : Nat))), some (.pu e)], s⟩, ⟨[some (.pu (.tuple [own, .tuple ts])), some (.pu (.int (i : Nat))), some (.pu e)], s⟩, rfl, ?_, rfl, fun _ => ⟨rfl, rfl⟩⟩
              show mNotB _ (Sg.mk [some (.pu (.tuple [own, .tuple ts])), some (.pu (.int (i : Nat))), some (.pu e)] s) = _
              simp only [nd0, nd1, nd2, nd3, nd4, nd5, mSeqS, mIf, mTest, mBin, mMget, mC, mVar, mSet, mMset, mRet, mDrop, mCallB, mCons, mNil, mSeq, mNeg, mNotB, mNotV, mAndB, mOrB, mAndV, mOrV, mChain, mIsi, mPar2, mParNE, mParEN, mNew, mAug, mPart, mNoPart, mCut, mRange1, mRange2, mEnum, mZip, mSeqI, mCallF, Rs.bind_ok, Rs.of_some, Option.map_some, Option.bind_some, isM, asB, isOwn, dLt, dLe, dGt, dGe, dEq, dNe, dIs, dIsNot, isNon_non, isNon_int, dAdd, dAddI, dSub, dMul, dMod, dDiv, dPow, bInt, bLen, bTuple, bList, allP, Sg.put, List.getElem?_cons_zero, List.getElem?_cons_succ, List.set_cons_zero, List.set_cons_succ, if_true, if_false, Bool.false_eq_true, decide_true, decide_false, Bool.not_true, Bool.not_false, Bool.and_true, Bool.true_and, Bool.or_true, Bool.true_or, dLeft, dSpot, dCells, isiT, tyN, Bool.or_false, Bool.false_or, Bool.false_and, Bool.and_false, len0, cst0, len1, cst1, len2, cst2, len3, cst3, len4, cst4, len5, cst5, len6, cst6, len7, cst7, len8, cst8, len9, cst9, len10, cst10, len11, cst11, len12, cst12, big0, big1, big2, big3, big4, big5, big6, big7, big8, big9, big10, big11, big12, p_is_term _ _ (show_tup s2 e he), secI]
        | _ =>
          simp only [nd0, nd1, nd2, nd3, nd4, nd5, mSeqS, mIf, mTest, mBin, mMget, mC, mVar, mSet, mMset, mRet, mDrop, mCallB, mCons, mNil, mSeq, mNeg, mNotB, mNotV, mAndB, mOrB, mAndV, mOrV, mChain, mIsi, mPar2, mParNE, mParEN, mNew, mAug, mPart, mNoPart, mCut, mRange1, mRange2, mEnum, mZip, mSeqI, mCallF, Rs.bind_ok, Rs.of_some, Option.map_some, Option.bind_some, isM, asB, isOwn, dLt, dLe, dGt, dGe, dEq, dNe, dIs, dIsNot, isNon_non, isNon_int, dAdd, dAddI, dSub, dMul, dMod, dDiv, dPow, bInt, bLen, bTuple, bList, allP, Sg.put, List.getElem?_cons_zero, List.getElem?_cons_succ, List.set_cons_zero, List.set_cons_succ, if_true, if_false, Bool.false_eq_true, decide_true, decide_false, Bool.not_true, Bool.not_false, Bool.and_true, Bool.true_and, Bool.or_true, Bool.true_or, dLeft, dSpot, dCells, isiT, tyN, Bool.or_false, Bool.false_or, Bool.false_and, Bool.and_false, len0, cst0, len1, cst1, len2, cst2, len3, cst3, len4, cst4, len5, cst5, len6, cst6, len7, cst7, len8, cst8, len9, cst9, len10, cst10, len11, cst11, len12, cst12, big0, big1, big2, big3, big4, big5, big6, big7, big8, big9, big10, big11, big12, e0, e1, e4, p_is_whole _ _ _ _ so, h1, reduceCtorEq, isDct_show s2]
          exact sat_ok ⟨by simp only [faultD, h1, if_true], rfl⟩
    | [] => exact sat_ok ⟨rfl, rfl⟩
    | [_] => exact sat_ok ⟨rfl, rfl⟩
    | x :: y :: z :: r =>
      have h : decide ((((x :: y :: z :: r).length : Nat) : Int) = 2) = false := decide_eq_false (by simp only [List.length_cons]; omega)
      simp only [nd0, nd1, nd2, nd3, nd4, nd5, mSeqS, mIf, mTest, mBin, mMget, mC, mVar, mSet, mMset, mRet, mDrop, mCallB, mCons, mNil, mSeq, mNeg, mNotB, mNotV, mAndB, mOrB, mAndV, mOrV, mChain, mIsi, mPar2, mParNE, mParEN, mNew, mAug, mPart, mNoPart, mCut, mRange1, mRange2, mEnum, mZip, mSeqI, mCallF, Rs.bind_ok, Rs.of_some, Option.map_some, Option.bind_some, isM, asB, isOwn, dLt, dLe, dGt, dGe, dEq, dNe, dIs, dIsNot, isNon_non, isNon_int, dAdd, dAddI, dSub, dMul, dMod, dDiv, dPow, bInt, bLen, bTuple, bList, allP, Sg.put, List.getElem?_cons_zero, List.getElem?_cons_succ, List.set_cons_zero, List.set_cons_succ, if_true, if_false, Bool.false_eq_true, decide_true, decide_false, Bool.not_true, Bool.not_false, Bool.and_true, Bool.true_and, Bool.or_true, Bool.true_or, dLeft, dSpot, dCells, isiT, tyN, Bool.or_false, Bool.false_or, Bool.false_and, Bool.and_false, len0, cst0, len1, cst1, len2, cst2, len3, cst3, len4, cst4, len5, cst5, len6, cst6, len7, cst7, len8, cst8, len9, cst9, len10, cst10, len11, cst11, len12, cst12, big0, big1, big2, big3, big4, big5, big6, big7, big8, big9, big10, big11, big12, reduceCtorEq, h]
      exact sat_ok ⟨by cases y <;> rfl, rfl⟩
  | _ =>
    simp only [nd0, nd1, nd2, nd3, nd4, nd5, mSeqS, mIf, mTest, mBin, mMget, mC, mVar, mSet, mMset, mRet, mDrop, mCallB, mCons, mNil, mSeq, mNeg, mNotB, mNotV, mAndB, mOrB, mAndV, mOrV, mChain, mIsi, mPar2, mParNE, mParEN, mNew, mAug, mPart, mNoPart, mCut, mRange1, mRange2, mEnum, mZip, mSeqI, mCallF, Rs.bind_ok, Rs.of_some, Option.map_some, Option.bind_some, isM, asB, isOwn, dLt, dLe, dGt, dGe, dEq, dNe, dIs, dIsNot, isNon_non, isNon_int, dAdd, dAddI, dSub, dMul, dMod, dDiv, dPow, bInt, bLen, bTuple, bList, allP, Sg.put, List.getElem?_cons_zero, List.getElem?_cons_succ, List.set_cons_zero, List.set_cons_succ, if_true, if_false, Bool.false_eq_true, decide_true, decide_false, Bool.not_true, Bool.not_false, Bool.and_true, Bool.true_and, Bool.or_true, Bool.true_or, dLeft, dSpot, dCells, isiT, tyN, Bool.or_false, Bool.false_or, Bool.false_and, Bool.and_false, len0, cst0, len1, cst1, len2, cst2, len3, cst3, len4, cst4, len5, cst5, len6, cst6, len7, cst7, len8, cst8, len9, cst9, len10, cst10, len11, cst11, len12, cst12, big0, big1, big2, big3, big4, big5, big6, big7, big8, big9, big10, big11, big12, reduceCtorEq, isDct_show sh]
    exact sat_ok ⟨rfl, rfl⟩
theorem fit_rule {ws : List Int} (h : GRule ws) : Fit 6 1 (ruleD ws) := (fitL_ints (m := 6) h.hi fun n hn => by have := h.ws n hn; omega).tup
theorem fit_term {t : Term} (h : GTerm t) : Fit 9 2 (termD t) :=
  (fitL_cons (fit_rule h.rule) (fitL_cons (d := .int t.2.1) ((fit_int (by have := h.a; omega)).mono (Nat.zero_le 0) (Nat.zero_le 1)) (fitL_cons (d := .int t.2.2) ((fit_int (by have := h.b; omega)).mono (Nat.zero_le 0) (Nat.zero_le 1)) fitL_nil))).tup
theorem fit_bill {own : Int} {ts : List Term} (h : GBill own ts) : Fit 22 4 (billD own ts) := by
  have a := (fitL_all (n := 9) (k := 2) (ds := ts.map termD) fun d hd => by
    rw [List.mem_map] at hd
    obtain ⟨t, ht, rfl⟩ := hd
    exact fit_term (h.ts t ht)).tup
  rw [List.length_map] at a
  have := h.len
  exact (fitL_cons (d := .int own) ((fit_int (by have := h.own; omega)).mono (Nat.zero_le 0) (Nat.zero_le 3)) (fitL_cons (a.mono (n' := 20) (by omega) (Nat.le_refl 3)) fitL_nil)).tup.mono (by omega) (Nat.le_refl _)
end DL
set_option Elab.async false
set_option linter.all false
set_option maxRecDepth 100000
set_option maxHeartbeats 4000000
set_option autoImplicit false
namespace DL
open PySem PySem.Spec L2
open PyProof.Rows hiding St
theorem badTerms_nil {ts : List PyData} (h : ∀ t ∈ ts, isTermD t = true) : badTerms ts = [] := by
  unfold badTerms
  have e : (enumFrom 0 ts).filter (fun d => !isTermD (secI d)) = [] := by
    rw [List.filter_eq_nil_iff]
    intro d hd
    obtain ⟨i, e, rfl, he⟩ := enum_mem hd
    rw [show secI (.tuple [.int (i : Nat), e]) = e from rfl, h e he]
    decide
  rw [e]
  rfl
theorem GBill.fault {own : Int} {ts : List Term} (h : GBill own ts) : faultD (billD own ts) = [] := by
  have := h.own
  have := h.len
  show (if isW (-50) 50 (.int own) = true then if ltB 2 ((ts.map termD).length : Int) = true then _ else badTerms (ts.map termD) else _) = _
  rw [isW_t (by omega) (by omega), if_pos rfl, List.length_map, ltB_f (by omega), if_neg (by decide)]
  refine badTerms_nil fun t ht => ?_
  rw [List.mem_map] at ht
  obtain ⟨t, ht, rfl⟩ := ht
  exact (h.ts t ht).d
theorem shaped_nil : SeqAt.shaped (.list []) = true := by rfl
theorem eqv_nil : PyData.eqv (.list []) (.list []) = true := by rfl
theorem p_need_bill {own : Int} {ts : List Term} (h : GBill own ts) (s : MS) : f_need_bill [.pu (billD own ts)] s = .ok (.pu (billD own ts)) s := by
  refine fn_eq rfl ?_
  show Sat (b_need_bill ⟨[some (.pu (billD own ts)), none], s⟩) _
  unfold b_need_bill
  simp only [nd0, nd1, nd2, nd3, nd4, nd5, mSeqS, mIf, mTest, mBin, mMget, mC, mVar, mSet, mMset, mRet, mDrop, mCallB, mCons, mNil, mSeq, mNeg, mNotB, mNotV, mAndB, mOrB, mAndV, mOrV, mChain, mIsi, mPar2, mParNE, mParEN, mNew, mAug, mPart, mNoPart, mCut, mRange1, mRange2, mEnum, mZip, mSeqI, mCallF, Rs.bind_ok, Rs.of_some, Option.map_some, Option.bind_some, isM, asB, isOwn, dLt, dLe, dGt, dGe, dEq, dNe, dIs, dIsNot, isNon_non, isNon_int, dAdd, dAddI, dSub, dMul, dMod, dDiv, dPow, bInt, bLen, bTuple, bList, allP, Sg.put, List.getElem?_cons_zero, List.getElem?_cons_succ, List.set_cons_zero, List.set_cons_succ, if_true, if_false, Bool.false_eq_true, decide_true, decide_false, Bool.not_true, Bool.not_false, Bool.and_true, Bool.true_and, Bool.or_true, Bool.true_or, dLeft, dSpot, dCells, isiT, tyN, Bool.or_false, Bool.false_or, Bool.false_and, Bool.and_false, len0, cst0, len1, cst1, len2, cst2, len3, cst3, len4, cst4, len5, cst5, len6, cst6, len7, cst7, len8, cst8, len9, cst9, len10, cst10, len11, cst11, len12, cst12, big0, big1, big2, big3, big4, big5, big6, big7, big8, big9, big10, big11, big12, p_fault_of _ _ (fit_bill h).show_, h.fault, shaped_nil, eqv_nil]
  exact sat_ok ⟨rfl, rfl⟩
def wid (ts : List Term) : Int := (ts.map fun t => (t.1.length : Int)).foldl max 1
def lenT : PyData → PyData
  | .tuple [.tuple ds, _, _] => .int ds.length
  | d => d
theorem lenT_map (ts : List Term) : (ts.map termD).map lenT = (ts.map fun t => (t.1.length : Int)).map PyData.int := by
  rw [List.map_map, List.map_map]
  refine List.map_congr_left fun t _ => ?_
  show PyData.int (((t.1.map PyData.int).length : Nat) : Int) = PyData.int ((t.1.length : Nat) : Int)
  rw [List.length_map]
theorem len_le_wid {ts : List Term} {t : Term} (h : t ∈ ts) : (t.1.length : Int) ≤ wid ts := (foldl_max_mem _ 1).2 _ (List.mem_cons_of_mem _ (List.mem_map.mpr ⟨t, h, rfl⟩))
theorem one_le_wid (ts : List Term) : 1 ≤ wid ts := (foldl_max_mem _ 1).2 1 List.mem_cons_self
theorem wid_le {own : Int} {ts : List Term} (h : GBill own ts) : wid ts ≤ 6 := by
  rcases List.mem_cons.mp (foldl_max_mem (ts.map fun t => (t.1.length : Int)) 1).1 with e | e
  · unfold wid; rw [e]; decide
  · rw [List.mem_map] at e
    obtain ⟨t, ht, e⟩ := e
    unfold wid
    rw [← e]
    have := (h.ts t ht).rule.hi
    omega
theorem p_width_of {own : Int} {ts : List Term} (h : GBill own ts) (s : MS) : f_width_of [.pu (billD own ts)] s = .ok (.pu (.int (wid ts))) s := by
  refine fn_eq rfl ?_
  show Sat (b_width_of ⟨[some (.pu (billD own ts)), none, none, none], s⟩) _
  unfold b_width_of
  have e1 : dIx (billD own ts) (.int 1) = some (.tuple (ts.map termD)) := rfl
  have hl := h.len
  have hb : 1 + (ts.map fun t => (t.1.length : Int)).length ≤ bigN := by rw [List.length_map]; unfold bigN; omega
  simp only [mRet, mCallB, mCons, mNil, mBin, mSeq, mC, Rs.bind_ok, allP, Option.map_some, len1, big1, if_true]
  rw [mLc_map (ds := ts.map termD) lenT]
  · simp only [nd0, nd1, nd2, nd3, nd4, nd5, mSeqS, mIf, mTest, mBin, mMget, mC, mVar, mSet, mMset, mRet, mDrop, mCallB, mCons, mNil, mSeq, mNeg, mNotB, mNotV, mAndB, mOrB, mAndV, mOrV, mChain, mIsi, mPar2, mParNE, mParEN, mNew, mAug, mPart, mNoPart, mCut, mRange1, mRange2, mEnum, mZip, mSeqI, mCallF, Rs.bind_ok, Rs.of_some, Option.map_some, Option.bind_some, isM, asB, isOwn, dLt, dLe, dGt, dGe, dEq, dNe, dIs, dIsNot, isNon_non, isNon_int, dAdd, dAddI, dSub, dMul, dMod, dDiv, dPow, bInt, bLen, bTuple, bList, allP, Sg.put, List.getElem?_cons_zero, List.getElem?_cons_succ, List.set_cons_zero, List.set_cons_succ, if_true, if_false, Bool.false_eq_true, decide_true, decide_false, Bool.not_true, Bool.not_false, Bool.and_true, Bool.true_and, Bool.or_true, Bool.true_or, dLeft, dSpot, dCells, isiT, tyN, Bool.or_false, Bool.false_or, Bool.false_and, Bool.and_false, len0, cst0, len1, cst1, len2, cst2, len3, cst3, len4, cst4, len5, cst5, len6, cst6, len7, cst7, len8, cst8, len9, cst9, len10, cst10, len11, cst11, len12, cst12, big0, big1, big2, big3, big4, big5, big6, big7, big8, big9, big10, big11, big12, lenT_map, List.length_map, hb, bMax]
    have hb' : 1 + ts.length ≤ bigN := by unfold bigN; omega
    have ha : allI ([PyData.int 1] ++ (ts.map fun t => (t.1.length : Int)).map PyData.int) = some (1 :: ts.map fun t => (t.1.length : Int)) := allI_ints (1 :: _)
    simp only [nd0, nd1, nd2, nd3, nd4, nd5, mSeqS, mIf, mTest, mBin, mMget, mC, mVar, mSet, mMset, mRet, mDrop, mCallB, mCons, mNil, mSeq, mNeg, mNotB, mNotV, mAndB, mOrB, mAndV, mOrV, mChain, mIsi, mPar2, mParNE, mParEN, mNew, mAug, mPart, mNoPart, mCut, mRange1, mRange2, mEnum, mZip, mSeqI, mCallF, Rs.bind_ok, Rs.of_some, Option.map_some, Option.bind_some, isM, asB, isOwn, dLt, dLe, dGt, dGe, dEq, dNe, dIs, dIsNot, isNon_non, isNon_int, dAdd, dAddI, dSub, dMul, dMod, dDiv, dPow, bInt, bLen, bTuple, bList, allP, Sg.put, List.getElem?_cons_zero, List.getElem?_cons_succ, List.set_cons_zero, List.set_cons_succ, if_true, if_false, Bool.false_eq_true, decide_true, decide_false, Bool.not_true, Bool.not_false, Bool.and_true, Bool.true_and, Bool.or_true, Bool.true_or, dLeft, dSpot, dCells, isiT, tyN, Bool.or_false, Bool.false_or, Bool.false_and, Bool.and_false, len0, cst0, len1, cst1, len2, cst2, len3, cst3, len4, cst4, len5, cst5, len6, cst6, len7, cst7, len8, cst8, len9, cst9, len10, cst10, len11, cst11, len12, cst12, big0, big1, big2, big3, big4, big5, big6, big7, big8, big9, big10, big11, big12, hb', ha, maxI]
    exact sat_ok ⟨rfl, rfl⟩
  · simp only [nd0, nd1, nd2, nd3, nd4, nd5, mSeqS, mIf, mTest, mBin, mMget, mC, mVar, mSet, mMset, mRet, mDrop, mCallB, mCons, mNil, mSeq, mNeg, mNotB, mNotV, mAndB, mOrB, mAndV, mOrV, mChain, mIsi, mPar2, mParNE, mParEN, mNew, mAug, mPart, mNoPart, mCut, mRange1, mRange2, mEnum, mZip, mSeqI, mCallF, Rs.bind_ok, Rs.of_some, Option.map_some, Option.bind_some, isM, asB, isOwn, dLt, dLe, dGt, dGe, dEq, dNe, dIs, dIsNot, isNon_non, isNon_int, dAdd, dAddI, dSub, dMul, dMod, dDiv, dPow, bInt, bLen, bTuple, bList, allP, Sg.put, List.getElem?_cons_zero, List.getElem?_cons_succ, List.set_cons_zero, List.set_cons_succ, if_true, if_false, Bool.false_eq_true, decide_true, decide_false, Bool.not_true, Bool.not_false, Bool.and_true, Bool.true_and, Bool.or_true, Bool.true_or, dLeft, dSpot, dCells, isiT, tyN, Bool.or_false, Bool.false_or, Bool.false_and, Bool.and_false, len0, cst0, len1, cst1, len2, cst2, len3, cst3, len4, cst4, len5, cst5, len6, cst6, len7, cst7, len8, cst8, len9, cst9, len10, cst10, len11, cst11, len12, cst12, big0, big1, big2, big3, big4, big5, big6, big7, big8, big9, big10, big11, big12, e1, seqOf]
  · rw [List.length_map]; unfold bigN; omega
  · intro d hd
    rw [List.mem_map] at hd
    obtain ⟨t, ht, rfl⟩ := hd
    refine ⟨_, ⟨[some (.pu (billD own ts)), some (.pu (ruleD t.1)), some (.pu (.int t.2.1)), some (.pu (.int t.2.2))], s⟩, rfl, ?_, rfl⟩
    show mCallB bLen _ (Sg.mk [some (.pu (billD own ts)), some (.pu (.tuple (t.1.map .int))), some (.pu (.int t.2.1)), some (.pu (.int t.2.2))] s) = _
    simp only [nd0, nd1, nd2, nd3, nd4, nd5, mSeqS, mIf, mTest, mBin, mMget, mC, mVar, mSet, mMset, mRet, mDrop, mCallB, mCons, mNil, mSeq, mNeg, mNotB, mNotV, mAndB, mOrB, mAndV, mOrV, mChain, mIsi, mPar2, mParNE, mParEN, mNew, mAug, mPart, mNoPart, mCut, mRange1, mRange2, mEnum, mZip, mSeqI, mCallF, Rs.bind_ok, Rs.of_some, Option.map_some, Option.bind_some, isM, asB, isOwn, dLt, dLe, dGt, dGe, dEq, dNe, dIs, dIsNot, isNon_non, isNon_int, dAdd, dAddI, dSub, dMul, dMod, dDiv, dPow, bInt, bLen, bTuple, bList, allP, Sg.put, List.getElem?_cons_zero, List.getElem?_cons_succ, List.set_cons_zero, List.set_cons_succ, if_true, if_false, Bool.false_eq_true, decide_true, decide_false, Bool.not_true, Bool.not_false, Bool.and_true, Bool.true_and, Bool.or_true, Bool.true_or, dLeft, dSpot, dCells, isiT, tyN, Bool.or_false, Bool.false_or, Bool.false_and, Bool.and_false, len0, cst0, len1, cst1, len2, cst2, len3, cst3, len4, cst4, len5, cst5, len6, cst6, len7, cst7, len8, cst8, len9, cst9, len10, cst10, len11, cst11, len12, cst12, big0, big1, big2, big3, big4, big5, big6, big7, big8, big9, big10, big11, big12]
    rfl
end DL
set_option Elab.async false
set_option linter.all false
set_option maxRecDepth 100000
set_option maxHeartbeats 4000000
set_option autoImplicit false
namespace DL
open PySem PySem.Spec L2
open PyProof.Rows hiding St
def win (R : List Int) (e n : Nat) : List Int := (R.drop (e - n)).take n
theorem win_sub {R : List Int} {e n : Nat} {x : Int} (h : x ∈ win R e n) : x ∈ R := List.mem_of_mem_drop (List.mem_of_mem_take h)
theorem cut_win {R : List Int} {e n : Nat} {lo hi : Int} (hlo : lo = (e : Int) - (n : Int)) (hhi : hi = (e : Int)) (h : n ≤ e) (h2 : e ≤ R.length) : cutL (R.map PyData.int) (some lo) (some hi) = (win R e n).map .int := by
  subst hlo hhi
  rw [cutL_map, cutL_nn (by omega) (by omega) (by omega)]
  unfold win
  rw [show ((e : Int) - (n : Int)).toNat = e - n by omega, show (e : Int).toNat - (e - n) = n by omega]
def termAt (R : List Int) (i : Nat) (t : Term) : Int := t.2.1 * idx t.1 (win R i t.1.length) + t.2.2 * idx t.1 (win R (i + 1) t.1.length)
def paidAt (own : Int) (ts : List Term) (R : List Int) (i : Nat) : Int := own * R.getD i 0 + (ts.map (termAt R i)).sum
def widN (ts : List Term) : Nat := (wid ts).toNat
theorem wid_cast (ts : List Term) : wid ts = (widN ts : Int) := by
  have := one_le_wid ts
  unfold widN
  omega
theorem len_le_widN {ts : List Term} {t : Term} (h : t ∈ ts) : t.1.length ≤ widN ts := by
  have := len_le_wid h
  rw [wid_cast] at this
  omega
theorem widN_le {own : Int} {ts : List Term} (h : GBill own ts) : widN ts ≤ 6 := by
  have := wid_le h
  rw [wid_cast] at this
  omega
def paysL (own : Int) (ts : List Term) (R : List Int) : List Int := (List.range (R.length - widN ts)).map fun k => paidAt own ts R (widN ts + k)
def rowD (R : List Int) : PyData := .tuple (R.map .int)
theorem small_abs {a : Int} {n : Nat} (h : a.natAbs ≤ n) (hn : n ≤ 1000000 := by decide) : small a = true := small_of (by omega) (by omega)
theorem p_paid_at {own : Int} {ts : List Term} {R : List Int} (h : GBill own ts) (i : Nat) (h1 : widN ts ≤ i) (h2 : i < R.length) (s : MS) :
    f_paid_at [.pu (billD own ts), .pu (rowD R), .pu (.int (i : Int))] s = .ok (.pu (.int (paidAt own ts R i))) s := by
  refine fn_eq rfl ?_
  show Sat (b_paid_at ⟨[some (.pu (billD own ts)), some (.pu (rowD R)), some (.pu (.int (i : Int))), none, none, none, none], s⟩) _
  unfold b_paid_at
  have e0 : dIx (billD own ts) (.int 0) = some (.int own) := rfl
  have e1 : dIx (billD own ts) (.int 1) = some (.tuple (ts.map termD)) := rfl
  have e2 : dIx (rowD R) (.int (i : Int)) = some (.int (R.getD i 0)) := by
    have := ix_row (R := R) (k := (i : Int)) (by omega) (by omega)
    rw [Int.toNat_natCast] at this
    exact this
  have so := small_abs h.own
  refine sat_seq ?_
  simp only [nd0, nd1, nd2, nd3, nd4, nd5, mSeqS, mIf, mTest, mBin, mMget, mC, mVar, mSet, mMset, mRet, mDrop, mCallB, mCons, mNil, mSeq, mNeg, mNotB, mNotV, mAndB, mOrB, mAndV, mOrV, mChain, mIsi, mPar2, mParNE, mParEN, mNew, mAug, mPart, mNoPart, mCut, mRange1, mRange2, mEnum, mZip, mSeqI, mCallF, Rs.bind_ok, Rs.of_some, Option.map_some, Option.bind_some, isM, asB, isOwn, dLt, dLe, dGt, dGe, dEq, dNe, dIs, dIsNot, isNon_non, isNon_int, dAdd, dAddI, dSub, dMul, dMod, dDiv, dPow, bInt, bLen, bTuple, bList, allP, Sg.put, List.getElem?_cons_zero, List.getElem?_cons_succ, List.set_cons_zero, List.set_cons_succ, if_true, if_false, Bool.false_eq_true, decide_true, decide_false, Bool.not_true, Bool.not_false, Bool.and_true, Bool.true_and, Bool.or_true, Bool.true_or, dLeft, dSpot, dCells, isiT, tyN, Bool.or_false, Bool.false_or, Bool.false_and, Bool.and_false, len0, cst0, len1, cst1, len2, cst2, len3, cst3, len4, cst4, len5, cst5, len6, cst6, len7, cst7, len8, cst8, len9, cst9, len10, cst10, len11, cst11, len12, cst12, big0, big1, big2, big3, big4, big5, big6, big7, big8, big9, big10, big11, big12, e0, e2, so]
  refine sat_nxt (sat_seq ?_)
  refine (sat_for (ds := ts.map termD) (g0 := ⟨[some (.pu (billD own ts)), some (.pu (rowD R)), some (.pu (.int (i : Int))), some (.pu (.int (own * R.getD i 0))), none, none, none], s⟩)
    (fun k g => ∃ y z u, g = ⟨[some (.pu (billD own ts)), some (.pu (rowD R)), some (.pu (.int (i : Int))), some (.pu (.int (own * R.getD i 0 + ((ts.map (termAt R i)).take k).sum))), y, z, u], s⟩) ?_ ⟨none, none, none, by rw [List.take_zero]; simp⟩ ?_ ?_)
  · simp only [nd0, nd1, nd2, nd3, nd4, nd5, mSeqS, mIf, mTest, mBin, mMget, mC, mVar, mSet, mMset, mRet, mDrop, mCallB, mCons, mNil, mSeq, mNeg, mNotB, mNotV, mAndB, mOrB, mAndV, mOrV, mChain, mIsi, mPar2, mParNE, mParEN, mNew, mAug, mPart, mNoPart, mCut, mRange1, mRange2, mEnum, mZip, mSeqI, mCallF, Rs.bind_ok, Rs.of_some, Option.map_some, Option.bind_some, isM, asB, isOwn, dLt, dLe, dGt, dGe, dEq, dNe, dIs, dIsNot, isNon_non, isNon_int, dAdd, dAddI, dSub, dMul, dMod, dDiv, dPow, bInt, bLen, bTuple, bList, allP, Sg.put, List.getElem?_cons_zero, List.getElem?_cons_succ, List.set_cons_zero, List.set_cons_succ, if_true, if_false, Bool.false_eq_true, decide_true, decide_false, Bool.not_true, Bool.not_false, Bool.and_true, Bool.true_and, Bool.or_true, Bool.true_or, dLeft, dSpot, dCells, isiT, tyN, Bool.or_false, Bool.false_or, Bool.false_and, Bool.and_false, len0, cst0, len1, cst1, len2, cst2, len3, cst3, len4, cst4, len5, cst5, len6, cst6, len7, cst7, len8, cst8, len9, cst9, len10, cst10, len11, cst11, len12, cst12, big0, big1, big2, big3, big4, big5, big6, big7, big8, big9, big10, big11, big12, e1, seqOf]
  · rintro k d g hd ⟨y, z, u, rfl⟩
    obtain ⟨t, ht, rfl⟩ := map_get hd
    have hm := List.mem_of_getElem? ht
    have gt := h.ts t hm
    have hw := len_le_widN hm
    refine ⟨_, rfl, ?_⟩
    have e3 := sum_take (l := ts.map (termAt R i)) (k := k) (a := termAt R i t) (by rw [List.getElem?_map, ht]; rfl)
    show Sat (mSeqS _ _ ⟨[some (.pu (billD own ts)), some (.pu (.tuple (R.map .int))), some (.pu (.int (i : Int))), some (.pu (.int (own * R.getD i 0 + ((ts.map (termAt R i)).take k).sum))), some (.pu (.tuple (t.1.map .int))), some (.pu (.int t.2.1)), some (.pu (.int t.2.2))], s⟩) _
    have c1 := cut_win (R := R) (e := i) (n := t.1.length) rfl rfl (by omega) (by omega)
    have c2 := cut_win (R := R) (e := i + 1) (n := t.1.length) (lo := (i : Int) + 1 - (t.1.length : Int)) (hi := (i : Int) + 1) (by omega) (by omega) (by omega) (by omega)
    have p1 := p_index_in t.1 (win R i t.1.length) s (by have := gt.rule.hi; unfold bigN; omega) gt.rule.small
    have p2 := p_index_in t.1 (win R (i + 1) t.1.length) s (by have := gt.rule.hi; unfold bigN; omega) gt.rule.small
    simp only [nd0, nd1, nd2, nd3, nd4, nd5, mSeqS, mIf, mTest, mBin, mMget, mC, mVar, mSet, mMset, mRet, mDrop, mCallB, mCons, mNil, mSeq, mNeg, mNotB, mNotV, mAndB, mOrB, mAndV, mOrV, mChain, mIsi, mPar2, mParNE, mParEN, mNew, mAug, mPart, mNoPart, mCut, mRange1, mRange2, mEnum, mZip, mSeqI, mCallF, Rs.bind_ok, Rs.of_some, Option.map_some, Option.bind_some, isM, asB, isOwn, dLt, dLe, dGt, dGe, dEq, dNe, dIs, dIsNot, isNon_non, isNon_int, dAdd, dAddI, dSub, dMul, dMod, dDiv, dPow, bInt, bLen, bTuple, bList, allP, Sg.put, List.getElem?_cons_zero, List.getElem?_cons_succ, List.set_cons_zero, List.set_cons_succ, if_true, if_false, Bool.false_eq_true, decide_true, decide_false, Bool.not_true, Bool.not_false, Bool.and_true, Bool.true_and, Bool.or_true, Bool.true_or, dLeft, dSpot, dCells, isiT, tyN, Bool.or_false, Bool.false_or, Bool.false_and, Bool.and_false, len0, cst0, len1, cst1, len2, cst2, len3, cst3, len4, cst4, len5, cst5, len6, cst6, len7, cst7, len8, cst8, len9, cst9, len10, cst10, len11, cst11, len12, cst12, big0, big1, big2, big3, big4, big5, big6, big7, big8, big9, big10, big11, big12, dCut, List.length_map, c1, c2, p1, p2, small_abs gt.a, small_abs gt.b]
    have e4 : own * R.getD i 0 + ((ts.map (termAt R i)).take (k + 1)).sum = own * R.getD i 0 + ((ts.map (termAt R i)).take k).sum + t.2.1 * idx t.1 (win R i t.1.length) + t.2.2 * idx t.1 (win R (i + 1) t.1.length) := by
      rw [e3]
      unfold termAt
      omega
    exact sat_ok ⟨.inl rfl, _, _, _, by rw [e4]; rfl⟩
  · rintro g' ⟨y, z, u, rfl⟩
    rw [List.length_map, show ts.length = (ts.map (termAt R i)).length by rw [List.length_map], List.take_length]
    exact ⟨rfl, sat_ok ⟨rfl, rfl⟩⟩
theorem rangeD_map {lo : Int} {n : Nat} {h : PyData → PyData} {f : Nat → PyData} (e : ∀ i, i < n → h (.int (lo + (i : Nat))) = f i) : (rangeD lo n).map h = (List.range n).map f := by
  unfold rangeD
  rw [List.map_map]
  refine List.map_congr_left fun i hi => ?_
  exact e i (List.mem_range.mp hi)
def onI (f : Nat → Int) : PyData → PyData
  | .int k => .int (f k.toNat)
  | d => d
theorem p_pays_in {own : Int} {ts : List Term} {R : List Int} (h : GBill own ts) (hl : R.length ≤ 100000) (s : MS) :
    f_pays_in [.pu (billD own ts), .pu (rowD R)] s = .ok (.pu (.list ((paysL own ts R).map .int))) s := by
  refine fn_eq rfl ?_
  show Sat (b_pays_in ⟨[some (.pu (billD own ts)), some (.pu (.tuple (R.map .int))), none], s⟩) _
  unfold b_pays_in mRet
  have hw := widN_le h
  rw [mLc_map (ds := rangeD (wid ts) (R.length - widN ts)) (onI (paidAt own ts R))]
  · have e := rangeD_map (lo := wid ts) (n := R.length - widN ts) (h := onI (paidAt own ts R)) (f := fun k => .int (paidAt own ts R (widN ts + k))) fun i hi => by
      show PyData.int _ = _
      rw [wid_cast, show ((widN ts : Int) + (i : Nat)).toNat = widN ts + i by omega]
    rw [e]
    simp only [nd0, nd1, nd2, nd3, nd4, nd5, mSeqS, mIf, mTest, mBin, mMget, mC, mVar, mSet, mMset, mRet, mDrop, mCallB, mCons, mNil, mSeq, mNeg, mNotB, mNotV, mAndB, mOrB, mAndV, mOrV, mChain, mIsi, mPar2, mParNE, mParEN, mNew, mAug, mPart, mNoPart, mCut, mRange1, mRange2, mEnum, mZip, mSeqI, mCallF, Rs.bind_ok, Rs.of_some, Option.map_some, Option.bind_some, isM, asB, isOwn, dLt, dLe, dGt, dGe, dEq, dNe, dIs, dIsNot, isNon_non, isNon_int, dAdd, dAddI, dSub, dMul, dMod, dDiv, dPow, bInt, bLen, bTuple, bList, allP, Sg.put, List.getElem?_cons_zero, List.getElem?_cons_succ, List.set_cons_zero, List.set_cons_succ, if_true, if_false, Bool.false_eq_true, decide_true, decide_false, Bool.not_true, Bool.not_false, Bool.and_true, Bool.true_and, Bool.or_true, Bool.true_or, dLeft, dSpot, dCells, isiT, tyN, Bool.or_false, Bool.false_or, Bool.false_and, Bool.and_false, len0, cst0, len1, cst1, len2, cst2, len3, cst3, len4, cst4, len5, cst5, len6, cst6, len7, cst7, len8, cst8, len9, cst9, len10, cst10, len11, cst11, len12, cst12, big0, big1, big2, big3, big4, big5, big6, big7, big8, big9, big10, big11, big12]
    refine sat_ok ⟨?_, rfl⟩
    unfold paysL
    rw [List.map_map]
    rfl
  · have := rng2_of (i := wid ts) (j := (R.length : Int)) (by rw [wid_cast]; omega) (by rw [wid_cast]; omega) (by omega) (by omega)
    simp only [nd0, nd1, nd2, nd3, nd4, nd5, mSeqS, mIf, mTest, mBin, mMget, mC, mVar, mSet, mMset, mRet, mDrop, mCallB, mCons, mNil, mSeq, mNeg, mNotB, mNotV, mAndB, mOrB, mAndV, mOrV, mChain, mIsi, mPar2, mParNE, mParEN, mNew, mAug, mPart, mNoPart, mCut, mRange1, mRange2, mEnum, mZip, mSeqI, mCallF, Rs.bind_ok, Rs.of_some, Option.map_some, Option.bind_some, isM, asB, isOwn, dLt, dLe, dGt, dGe, dEq, dNe, dIs, dIsNot, isNon_non, isNon_int, dAdd, dAddI, dSub, dMul, dMod, dDiv, dPow, bInt, bLen, bTuple, bList, allP, Sg.put, List.getElem?_cons_zero, List.getElem?_cons_succ, List.set_cons_zero, List.set_cons_succ, if_true, if_false, Bool.false_eq_true, decide_true, decide_false, Bool.not_true, Bool.not_false, Bool.and_true, Bool.true_and, Bool.or_true, Bool.true_or, dLeft, dSpot, dCells, isiT, tyN, Bool.or_false, Bool.false_or, Bool.false_and, Bool.and_false, len0, cst0, len1, cst1, len2, cst2, len3, cst3, len4, cst4, len5, cst5, len6, cst6, len7, cst7, len8, cst8, len9, cst9, len10, cst10, len11, cst11, len12, cst12, big0, big1, big2, big3, big4, big5, big6, big7, big8, big9, big10, big11, big12, p_width_of h, List.length_map, this]
    rw [show ((R.length : Int) - wid ts).toNat = R.length - widN ts by rw [wid_cast]; omega]
  · rw [rangeD_length]; unfold bigN; omega
  · intro d hd
    obtain ⟨i, hi, rfl⟩ := rangeD_mem hd
    have e : wid ts + (i : Nat) = ((widN ts + i : Nat) : Int) := by rw [wid_cast]; omega
    have p := p_paid_at (R := R) h (widN ts + i) (by omega) (by omega) s
    rw [e]
    refine ⟨_, ⟨[some (.pu (billD own ts)), some (.pu (rowD R)), some (.pu (.int ((widN ts + i : Nat) : Int)))], s⟩, rfl, ?_, rfl⟩
    show mCallF f_paid_at _ (Sg.mk [some (.pu (billD own ts)), some (.pu (rowD R)), some (.pu (.int ((widN ts + i : Nat) : Int)))] s) = _
    simp only [nd0, nd1, nd2, nd3, nd4, nd5, mSeqS, mIf, mTest, mBin, mMget, mC, mVar, mSet, mMset, mRet, mDrop, mCallB, mCons, mNil, mSeq, mNeg, mNotB, mNotV, mAndB, mOrB, mAndV, mOrV, mChain, mIsi, mPar2, mParNE, mParEN, mNew, mAug, mPart, mNoPart, mCut, mRange1, mRange2, mEnum, mZip, mSeqI, mCallF, Rs.bind_ok, Rs.of_some, Option.map_some, Option.bind_some, isM, asB, isOwn, dLt, dLe, dGt, dGe, dEq, dNe, dIs, dIsNot, isNon_non, isNon_int, dAdd, dAddI, dSub, dMul, dMod, dDiv, dPow, bInt, bLen, bTuple, bList, allP, Sg.put, List.getElem?_cons_zero, List.getElem?_cons_succ, List.set_cons_zero, List.set_cons_succ, if_true, if_false, Bool.false_eq_true, decide_true, decide_false, Bool.not_true, Bool.not_false, Bool.and_true, Bool.true_and, Bool.or_true, Bool.true_or, dLeft, dSpot, dCells, isiT, tyN, Bool.or_false, Bool.false_or, Bool.false_and, Bool.and_false, len0, cst0, len1, cst1, len2, cst2, len3, cst3, len4, cst4, len5, cst5, len6, cst6, len7, cst7, len8, cst8, len9, cst9, len10, cst10, len11, cst11, len12, cst12, big0, big1, big2, big3, big4, big5, big6, big7, big8, big9, big10, big11, big12, p]
    rfl
end DL
set_option Elab.async false
set_option linter.all false
set_option maxRecDepth 100000
set_option maxHeartbeats 4000000
set_option autoImplicit false
namespace DL
open PySem PySem.Spec L2
open PyProof.Rows hiding St
theorem win_ns {R : List Int} {e n : Nat} (h : GRow R) : ∀ x ∈ win R e n, x.natAbs ≤ 1000000 := fun x hx => by have := h.ns x (win_sub hx); omega
theorem termAt_abs {R : List Int} {i : Nat} {t : Term} (h : GTerm t) (hR : GRow R) : (termAt R i t).natAbs ≤ 12000000000 := by
  unfold termAt
  have a1 := abs_mul h.a (Nat.le_trans (idx_abs h.rule.ws (win_ns (e := i) (n := t.1.length) hR)) (Nat.mul_le_mul_right _ h.rule.hi))
  have a2 := abs_mul h.b (Nat.le_trans (idx_abs h.rule.ws (win_ns (e := i + 1) (n := t.1.length) hR)) (Nat.mul_le_mul_right _ h.rule.hi))
  omega
theorem paidAt_abs {own : Int} {ts : List Term} {R : List Int} (h : GBill own ts) (hR : GRow R) {i : Nat} (hi : i < R.length) : (paidAt own ts R i).natAbs ≤ 24050000000 := by
  unfold paidAt
  have a1 := abs_mul (b := R.getD i 0) (n := 1000000) h.own (by have := hR.ns _ (getD_mem hi); omega)
  have a2 := abs_sum (l := ts.map (termAt R i)) (M := 12000000000) fun x hx => by
    rw [List.mem_map] at hx
    obtain ⟨t, ht, rfl⟩ := hx
    exact termAt_abs (h.ts t ht) hR
  have := h.len
  rw [List.length_map] at a2
  have a3 : ts.length * 12000000000 ≤ 24000000000 := by omega
  omega
theorem paysL_len (own : Int) (ts : List Term) (R : List Int) : (paysL own ts R).length = R.length - widN ts := by unfold paysL; rw [List.length_map, List.length_range]
theorem paysL_abs {own : Int} {ts : List Term} {R : List Int} (h : GBill own ts) (hR : GRow R) : ∀ x ∈ paysL own ts R, x.natAbs ≤ 24050000000 := fun x hx => by
  unfold paysL at hx
  rw [List.mem_map] at hx
  obtain ⟨k, hk, rfl⟩ := hx
  have := List.mem_range.mp hk
  exact paidAt_abs h hR (by omega)
theorem worth_abs {own : Int} {ts : List Term} {R : List Int} (h : GBill own ts) (hR : GRow R) : (paysL own ts R).sum.natAbs < 10 ^ 29 := by
  have a := abs_sum (paysL_abs h hR)
  rw [paysL_len] at a
  have := hR.len
  have b : (R.length - widN ts) * 24050000000 ≤ 200 * 24050000000 := Nat.mul_le_mul_right _ (by omega)
  omega
theorem fit_row {R : List Int} (h : GRow R) : Fit 200 1 (rowD R) := (fitL_ints (m := 200) h.len fun n hn => by have := h.ns n hn; omega).tup
end DL
set_option Elab.async false
set_option linter.all false
set_option maxRecDepth 100000
set_option maxHeartbeats 4000000
set_option autoImplicit false
namespace DL
open PySem PySem.Spec L2
open PyProof.Rows hiding St
def NxR (h : Sg → Rs Sg Fl) (Q : Fl → Sg → Prop) : Fl → Sg → Prop
  | .nx, g => Sat (h g) Q
  | x, g => Q x g
theorem sat_seqR {f h : Sg → Rs Sg Fl} {g : Sg} {Q : Fl → Sg → Prop} (H : Sat (f g) (NxR h Q)) : Sat (mSeqS f h g) Q := by
  obtain ⟨x, g1, e, q⟩ := H
  unfold mSeqS
  rw [e]
  cases x with
  | nx => exact q
  | _ => exact ⟨_, _, rfl, q⟩
theorem sat_nxR {h : Sg → Rs Sg Fl} {g : Sg} {Q : Fl → Sg → Prop} (H : Sat (h g) Q) : Sat (.ok .nx g) (NxR h Q) := ⟨_, _, rfl, H⟩
instance decGRule (ws : List Int) : Decidable (GRule ws) := decidable_of_iff (1 ≤ ws.length ∧ ws.length ≤ 6 ∧ ∀ w ∈ ws, w.natAbs ≤ 20) ⟨fun ⟨a, b, c⟩ => ⟨a, b, c⟩, fun h => ⟨h.1, h.2, h.3⟩⟩
instance decGTerm (t : Term) : Decidable (GTerm t) := decidable_of_iff (GRule t.1 ∧ t.2.1.natAbs ≤ 50 ∧ t.2.2.natAbs ≤ 50) ⟨fun ⟨a, b, c⟩ => ⟨a, b, c⟩, fun h => ⟨h.1, h.2, h.3⟩⟩
instance decGBill (own : Int) (ts : List Term) : Decidable (GBill own ts) := decidable_of_iff (own.natAbs ≤ 50 ∧ ts.length ≤ 2 ∧ ∀ t ∈ ts, GTerm t) ⟨fun ⟨a, b, c⟩ => ⟨a, b, c⟩, fun h => ⟨h.1, h.2, h.3⟩⟩
instance decGRow (R : List Int) : Decidable (GRow R) := decidable_of_iff (R.length ≤ 200 ∧ ∀ n ∈ R, 0 ≤ n ∧ n ≤ 1000000) ⟨fun ⟨a, b⟩ => ⟨a, b⟩, fun h => ⟨h.1, h.2⟩⟩
theorem dNe_LL {xs ys : List PyData} (h : SeqAt.shaped (.list xs) = true) (h' : SeqAt.shaped (.list ys) = true) : dNe (.list xs) (.list ys) = some (.bool (!PyData.eqv (.list xs) (.list ys))) := by
  show (if (SeqAt.shaped (.list xs) && SeqAt.shaped (.list ys)) = true then some (PyData.bool (!PyData.eqv (.list xs) (.list ys))) else eqLen true (.list xs) (.list ys)) = _
  rw [h, h']; rfl
theorem rep2 (x : PyData) : dMul (.list [x]) (.int 2) = some (.list [x, x]) := rfl
theorem ms0_ok {ns : List Int} {n : Nat} (h : n ≤ 2 ^ 62) : Ok [] n (ms0 ns) := by
  refine ⟨?_, Int.le_refl 0, ?_, rfl⟩
  · show cellsOf ns ≠ []
    unfold cellsOf
    simp
  · show (0 : Int) + _ ≤ _
    have : (2 : Int) ^ 62 = ((2 ^ 62 : Nat) : Int) := by decide
    omega
end DL
set_option Elab.async false
set_option linter.all false
set_option maxRecDepth 100000
set_option maxHeartbeats 4000000
set_option autoImplicit false
namespace DL
open PySem PySem.Spec L2
open PyProof.Rows hiding St
variable {F : List (PyData × PyData)}
theorem lc_invK {vs : List Nat} {t : PyData → Sg → Option Sg} {elt : Sg → Rs Sg DV} (I : List PyData → Sg → Prop) : ∀ (ds acc : List PyData) (g : Sg), I acc g → acc.length + ds.length ≤ bigN →
    (∀ i d acc' g, ds[i]? = some d → acc'.length = acc.length + i → I acc' g → ∃ g1, t d g = some g1 ∧ Sat (elt g1) fun x g3 => ∃ y, x = .pu y ∧ I (acc' ++ [y]) (g3.wipe vs)) → ∃ acc' g', lcLoop vs t mYes elt ds acc g = .ok acc' g' ∧ acc'.length = acc.length + ds.length ∧ I acc' g'
  | [], acc, g, h, _, _ => ⟨acc, g, rfl, rfl, h⟩
  | d :: ds, acc, g, h, hl, st => by
    have hl' : acc.length < bigN := by rw [List.length_cons] at hl; omega
    obtain ⟨g1, e1, x, g3, e3, y, rfl, h3⟩ := st 0 d acc g rfl rfl h
    obtain ⟨acc', g', e', hn, h'⟩ := lc_invK (vs := vs) (t := t) (elt := elt) I ds (acc ++ [y]) (g3.wipe vs) h3 (by rw [List.length_append, List.length_singleton]; rw [List.length_cons] at hl; omega) fun i d' a g hd hk => st (i + 1) d' a g (by simpa using hd) (by rw [hk, List.length_append, List.length_singleton]; omega)
    refine ⟨acc', g', ?_, by rw [hn, List.length_append, List.length_singleton, List.length_cons]; omega, h'⟩
    unfold lcLoop
    rw [e1]
    show ((elt g1).nox.bind _) = _
    rw [e3]
    show (if acc.length < bigN then lcLoop vs t mYes elt ds (acc ++ [y]) (g3.wipe vs) else .no) = _
    rw [if_pos hl']
    exact e'
theorem lc_invN {vs : List Nat} {t : PyData → Sg → Option Sg} {elt : Sg → Rs Sg DV} (I : List PyData → Sg → Prop) (ds : List PyData) (g : Sg) (h0 : I [] g) (hl : ds.length ≤ bigN)
    (st : ∀ d acc g, ds[acc.length]? = some d → acc.length < ds.length → I acc g → ∃ g1, t d g = some g1 ∧ Sat (elt g1) fun x g3 => ∃ y, x = .pu y ∧ I (acc ++ [y]) (g3.wipe vs)) : ∃ acc' g', lcLoop vs t mYes elt ds [] g = .ok acc' g' ∧ acc'.length = ds.length ∧ I acc' g' := by
  obtain ⟨a, g', e, hn, hi⟩ := lc_invK (vs := vs) (t := t) (elt := elt) I ds [] g h0 (by rw [List.length_nil]; omega) fun i d acc g hd hk hi => by
    rw [List.length_nil, Nat.zero_add] at hk
    exact st d acc g (by rw [hk]; exact hd) (by rw [hk]; exact (List.getElem?_eq_some_iff.mp hd).1) hi
  exact ⟨a, g', e, by rw [hn, List.length_nil, Nat.zero_add], hi⟩
theorem map_snoc {α β : Type} (f : α → β) (l : List α) (a : α) : l.map f ++ [f a] = (l ++ [a]).map f := by rw [List.map_append]; rfl
theorem mem_snoc {α : Type} {l : List α} {a x : α} (h : x ∈ l ++ [a]) : x ∈ l ∨ x = a := by simpa using h
theorem p__law_of {n : Nat} {s : MS} {ds : List PyData} (h : Ok F (n + 1) s) (h0 : ds ≠ []) (h1 : ds.length < 1000000) :
    Sat (f__law_of [.m, .pu (.list ds)] s) fun d s' => ∃ x, x ∈ ds ∧ d = .pu x ∧ Ok F n s' := by
  have hl : 0 < ds.length := List.length_pos_iff.mpr h0
  obtain ⟨d, s', e, v, rfl, hv0, hv, ok⟩ := draw_ok (k := (ds.length : Int)) h (by omega) (by omega)
  have hk : v.toNat < ds.length := by omega
  have hx : dIx (.list ds) (.int v) = some ds[v.toNat] := atI_z hv0 (List.getElem?_eq_getElem hk)
  refine sat_fnB rfl ?_
  show Sat (b__law_of ⟨[some .m, some (.pu (.list ds))], s⟩) _
  unfold b__law_of
  simp only [nd0, nd1, nd2, nd3, nd4, nd5, mSeqS, mIf, mTest, mBin, mMget, mC, mVar, mSet, mMset, mRet, mDrop, mCallB, mCons, mNil, mSeq, mNeg, mNotB, mNotV, mAndB, mOrB, mAndV, mOrV, mChain, mIsi, mPar2, mParNE, mParEN, mNew, mAug, mPart, mNoPart, mCut, mRange1, mRange2, mEnum, mZip, mSeqI, mCallF, Rs.bind_ok, Rs.of_some, Option.map_some, Option.bind_some, isM, asB, isOwn, dLt, dLe, dGt, dGe, dEq, dNe, dIs, dIsNot, isNon_non, isNon_int, dAdd, dAddI, dSub, dMul, dMod, dDiv, dPow, bInt, bLen, bTuple, bList, allP, Sg.put, List.getElem?_cons_zero, List.getElem?_cons_succ, List.set_cons_zero, List.set_cons_succ, if_true, if_false, Bool.false_eq_true, decide_true, decide_false, Bool.not_true, Bool.not_false, Bool.and_true, Bool.true_and, Bool.or_true, Bool.true_or, dLeft, dSpot, dCells, isiT, tyN, Bool.or_false, Bool.false_or, Bool.false_and, Bool.and_false, len0, cst0, len1, cst1, len2, cst2, len3, cst3, len4, cst4, len5, cst5, len6, cst6, len7, cst7, len8, cst8, len9, cst9, len10, cst10, len11, cst11, len12, cst12, big0, big1, big2, big3, big4, big5, big6, big7, big8, big9, big10, big11, big12, e, hx]
  exact sat_ok ⟨_, rfl, _, List.getElem_mem hk, rfl, ok⟩
theorem draw_eq {n : Nat} {s : MS} {k : Int} (h : Ok F (n + 1) s) (hk0 : 0 < k) (hk20 : k < 1073741824) :
    ∃ v s', f__law_draw [.m, .pu (.int k)] s = .ok (.pu (.int v)) s' ∧ 0 ≤ v ∧ v < k ∧ Ok F n s' := by
  obtain ⟨d, s', e, v, rfl, a, b, c⟩ := draw_ok h hk0 hk20
  exact ⟨v, s', e, a, b, c⟩
theorem p__law_weights {n : Nat} {s : MS} {k : Int} (h : Ok F (n + 1000) s) (hk0 : 0 < k) (hk : k ≤ 6) :
    Sat (f__law_weights [.m, .pu (.int k)] s) fun d s' => ∃ ws, d = .pu (ruleD ws) ∧ GRule ws ∧ (ws.length : Int) ≤ k ∧ Ok F n s' := by
  obtain ⟨v, s1, e1, v0, vk, ok1⟩ := draw_eq (n := n + 999) (k := 2) h (by omega) (by omega)
  obtain ⟨u, s2, e2, u0, uk, ok2⟩ := draw_eq (n := n + 998) (k := k) ok1 (by omega) (by omega)
  refine sat_fnB rfl ?_
  show Sat (b__law_weights ⟨[some .m, some (.pu (.int k)), none, none, none], s⟩) _
  unfold b__law_weights
  refine sat_seqR ?_
  simp only [nd0, nd1, nd2, nd3, nd4, nd5, mSeqS, mIf, mTest, mBin, mMget, mC, mVar, mSet, mMset, mRet, mDrop, mCallB, mCons, mNil, mSeq, mNeg, mNotB, mNotV, mAndB, mOrB, mAndV, mOrV, mChain, mIsi, mPar2, mParNE, mParEN, mNew, mAug, mPart, mNoPart, mCut, mRange1, mRange2, mEnum, mZip, mSeqI, mCallF, Rs.bind_ok, Rs.of_some, Option.map_some, Option.bind_some, isM, asB, isOwn, dLt, dLe, dGt, dGe, dEq, dNe, dIs, dIsNot, isNon_non, isNon_int, dAdd, dAddI, dSub, dMul, dMod, dDiv, dPow, bInt, bLen, bTuple, bList, allP, Sg.put, List.getElem?_cons_zero, List.getElem?_cons_succ, List.set_cons_zero, List.set_cons_succ, if_true, if_false, Bool.false_eq_true, decide_true, decide_false, Bool.not_true, Bool.not_false, Bool.and_true, Bool.true_and, Bool.or_true, Bool.true_or, dLeft, dSpot, dCells, isiT, tyN, Bool.or_false, Bool.false_or, Bool.false_and, Bool.and_false, len0, cst0, len1, cst1, len2, cst2, len3, cst3, len4, cst4, len5, cst5, len6, cst6, len7, cst7, len8, cst8, len9, cst9, len10, cst10, len11, cst11, len12, cst12, big0, big1, big2, big3, big4, big5, big6, big7, big8, big9, big10, big11, big12, e1]
  refine sat_nxR (sat_seqR ?_)
  have hi : mRange1 (mCons (mBin dAdd (mC (.int 1)) (mCallF f__law_draw (mCons (mVar 0) (mCons (mVar 1) mNil)))) mNil) ⟨[some .m, some (.pu (.int k)), some (.pu (.int v)), none, none], s1⟩ = .ok (rangeD 0 (1 + u.toNat)) ⟨[some .m, some (.pu (.int k)), some (.pu (.int v)), none, none], s2⟩ := by
    simp only [nd0, nd1, nd2, nd3, nd4, nd5, mSeqS, mIf, mTest, mBin, mMget, mC, mVar, mSet, mMset, mRet, mDrop, mCallB, mCons, mNil, mSeq, mNeg, mNotB, mNotV, mAndB, mOrB, mAndV, mOrV, mChain, mIsi, mPar2, mParNE, mParEN, mNew, mAug, mPart, mNoPart, mCut, mRange1, mRange2, mEnum, mZip, mSeqI, mCallF, Rs.bind_ok, Rs.of_some, Option.map_some, Option.bind_some, isM, asB, isOwn, dLt, dLe, dGt, dGe, dEq, dNe, dIs, dIsNot, isNon_non, isNon_int, dAdd, dAddI, dSub, dMul, dMod, dDiv, dPow, bInt, bLen, bTuple, bList, allP, Sg.put, List.getElem?_cons_zero, List.getElem?_cons_succ, List.set_cons_zero, List.set_cons_succ, if_true, if_false, Bool.false_eq_true, decide_true, decide_false, Bool.not_true, Bool.not_false, Bool.and_true, Bool.true_and, Bool.or_true, Bool.true_or, dLeft, dSpot, dCells, isiT, tyN, Bool.or_false, Bool.false_or, Bool.false_and, Bool.and_false, len0, cst0, len1, cst1, len2, cst2, len3, cst3, len4, cst4, len5, cst5, len6, cst6, len7, cst7, len8, cst8, len9, cst9, len10, cst10, len11, cst11, len12, cst12, big0, big1, big2, big3, big4, big5, big6, big7, big8, big9, big10, big11, big12, e2, rng1_of (j := 1 + u) (n := 1 + u.toNat) (by omega) (by omega)]
  obtain ⟨acc, g', el, hn, ws, rfl, hw, s3, rfl, ok3⟩ := lc_invN (vs := [4]) (t := gtName 4) (elt := mIf (mTest (mBin dEq (mVar 2) (mC (.int 1)))) (mBin dSub (mCallF f__law_draw (mCons (mVar 0) (mCons (mC (.int 41)) mNil))) (mC (.int 20))) (mCallF f__law_draw (mCons (mVar 0) (mCons (mC (.int 4)) mNil))))
    (fun acc g => ∃ ws : List Int, acc = ws.map .int ∧ (∀ w ∈ ws, w.natAbs ≤ 20) ∧ ∃ s3, g = ⟨[some .m, some (.pu (.int k)), some (.pu (.int v)), none, none], s3⟩ ∧ Ok F (n + 998 - ws.length) s3)
    (rangeD 0 (1 + u.toNat)) ⟨[some .m, some (.pu (.int k)), some (.pu (.int v)), none, none], s2⟩ ⟨[], rfl, fun _ h => (by cases h), s2, rfl, ok2⟩ (by rw [rangeD_length]; unfold bigN; omega) (by
      rintro d acc g hd hlt ⟨ws, rfl, hw, s3, rfl, ok3⟩
      obtain ⟨hi, rfl⟩ := rangeD_get hd
      rw [List.length_map, rangeD_length] at hlt
      refine ⟨_, rfl, ?_⟩
      show Sat (mIf _ _ _ ⟨[some .m, some (.pu (.int k)), some (.pu (.int v)), none, some (.pu (.int (0 + ((ws.map PyData.int).length : Nat))))], s3⟩) _
      by_cases hv : v = 1
      · subst hv
        obtain ⟨x, s4, e4, x0, x1, ok4⟩ := draw_eq (n := n + 998 - (ws.length + 1)) (k := 41) (ok3.less (by omega)) (by omega) (by omega)
        simp only [nd0, nd1, nd2, nd3, nd4, nd5, mSeqS, mIf, mTest, mBin, mMget, mC, mVar, mSet, mMset, mRet, mDrop, mCallB, mCons, mNil, mSeq, mNeg, mNotB, mNotV, mAndB, mOrB, mAndV, mOrV, mChain, mIsi, mPar2, mParNE, mParEN, mNew, mAug, mPart, mNoPart, mCut, mRange1, mRange2, mEnum, mZip, mSeqI, mCallF, Rs.bind_ok, Rs.of_some, Option.map_some, Option.bind_some, isM, asB, isOwn, dLt, dLe, dGt, dGe, dEq, dNe, dIs, dIsNot, isNon_non, isNon_int, dAdd, dAddI, dSub, dMul, dMod, dDiv, dPow, bInt, bLen, bTuple, bList, allP, Sg.put, List.getElem?_cons_zero, List.getElem?_cons_succ, List.set_cons_zero, List.set_cons_succ, if_true, if_false, Bool.false_eq_true, decide_true, decide_false, Bool.not_true, Bool.not_false, Bool.and_true, Bool.true_and, Bool.or_true, Bool.true_or, dLeft, dSpot, dCells, isiT, tyN, Bool.or_false, Bool.false_or, Bool.false_and, Bool.and_false, len0, cst0, len1, cst1, len2, cst2, len3, cst3, len4, cst4, len5, cst5, len6, cst6, len7, cst7, len8, cst8, len9, cst9, len10, cst10, len11, cst11, len12, cst12, big0, big1, big2, big3, big4, big5, big6, big7, big8, big9, big10, big11, big12, e4]
        refine sat_ok ⟨_, rfl, ws ++ [x - 20], map_snoc _ _ _, fun w hw' => ?_, s4, rfl, by rw [List.length_append]; exact ok4⟩
        rcases mem_snoc hw' with h | rfl
        · exact hw w h
        · omega
      · obtain ⟨x, s4, e4, x0, x1, ok4⟩ := draw_eq (n := n + 998 - (ws.length + 1)) (k := 4) (ok3.less (by omega)) (by omega) (by omega)
        simp only [nd0, nd1, nd2, nd3, nd4, nd5, mSeqS, mIf, mTest, mBin, mMget, mC, mVar, mSet, mMset, mRet, mDrop, mCallB, mCons, mNil, mSeq, mNeg, mNotB, mNotV, mAndB, mOrB, mAndV, mOrV, mChain, mIsi, mPar2, mParNE, mParEN, mNew, mAug, mPart, mNoPart, mCut, mRange1, mRange2, mEnum, mZip, mSeqI, mCallF, Rs.bind_ok, Rs.of_some, Option.map_some, Option.bind_some, isM, asB, isOwn, dLt, dLe, dGt, dGe, dEq, dNe, dIs, dIsNot, isNon_non, isNon_int, dAdd, dAddI, dSub, dMul, dMod, dDiv, dPow, bInt, bLen, bTuple, bList, allP, Sg.put, List.getElem?_cons_zero, List.getElem?_cons_succ, List.set_cons_zero, List.set_cons_succ, if_true, if_false, Bool.false_eq_true, decide_true, decide_false, Bool.not_true, Bool.not_false, Bool.and_true, Bool.true_and, Bool.or_true, Bool.true_or, dLeft, dSpot, dCells, isiT, tyN, Bool.or_false, Bool.false_or, Bool.false_and, Bool.and_false, len0, cst0, len1, cst1, len2, cst2, len3, cst3, len4, cst4, len5, cst5, len6, cst6, len7, cst7, len8, cst8, len9, cst9, len10, cst10, len11, cst11, len12, cst12, big0, big1, big2, big3, big4, big5, big6, big7, big8, big9, big10, big11, big12, e4, decide_eq_false hv]
        refine sat_ok ⟨_, rfl, ws ++ [x], map_snoc _ _ _, fun w hw' => ?_, s4, rfl, by rw [List.length_append]; exact ok4⟩
        rcases mem_snoc hw' with h | rfl
        · exact hw w h
        · omega)
  rw [List.length_map, rangeD_length] at hn
  have hc := mLc_of hi el
  unfold mSet
  rw [hc]
  simp only [nd0, nd1, nd2, nd3, nd4, nd5, mSeqS, mIf, mTest, mBin, mMget, mC, mVar, mSet, mMset, mRet, mDrop, mCallB, mCons, mNil, mSeq, mNeg, mNotB, mNotV, mAndB, mOrB, mAndV, mOrV, mChain, mIsi, mPar2, mParNE, mParEN, mNew, mAug, mPart, mNoPart, mCut, mRange1, mRange2, mEnum, mZip, mSeqI, mCallF, Rs.bind_ok, Rs.of_some, Option.map_some, Option.bind_some, isM, asB, isOwn, dLt, dLe, dGt, dGe, dEq, dNe, dIs, dIsNot, isNon_non, isNon_int, dAdd, dAddI, dSub, dMul, dMod, dDiv, dPow, bInt, bLen, bTuple, bList, allP, Sg.put, List.getElem?_cons_zero, List.getElem?_cons_succ, List.set_cons_zero, List.set_cons_succ, if_true, if_false, Bool.false_eq_true, decide_true, decide_false, Bool.not_true, Bool.not_false, Bool.and_true, Bool.true_and, Bool.or_true, Bool.true_or, dLeft, dSpot, dCells, isiT, tyN, Bool.or_false, Bool.false_or, Bool.false_and, Bool.and_false, len0, cst0, len1, cst1, len2, cst2, len3, cst3, len4, cst4, len5, cst5, len6, cst6, len7, cst7, len8, cst8, len9, cst9, len10, cst10, len11, cst11, len12, cst12, big0, big1, big2, big3, big4, big5, big6, big7, big8, big9, big10, big11, big12]
  refine sat_nxR ?_
  simp only [nd0, nd1, nd2, nd3, nd4, nd5, mSeqS, mIf, mTest, mBin, mMget, mC, mVar, mSet, mMset, mRet, mDrop, mCallB, mCons, mNil, mSeq, mNeg, mNotB, mNotV, mAndB, mOrB, mAndV, mOrV, mChain, mIsi, mPar2, mParNE, mParEN, mNew, mAug, mPart, mNoPart, mCut, mRange1, mRange2, mEnum, mZip, mSeqI, mCallF, Rs.bind_ok, Rs.of_some, Option.map_some, Option.bind_some, isM, asB, isOwn, dLt, dLe, dGt, dGe, dEq, dNe, dIs, dIsNot, isNon_non, isNon_int, dAdd, dAddI, dSub, dMul, dMod, dDiv, dPow, bInt, bLen, bTuple, bList, allP, Sg.put, List.getElem?_cons_zero, List.getElem?_cons_succ, List.set_cons_zero, List.set_cons_succ, if_true, if_false, Bool.false_eq_true, decide_true, decide_false, Bool.not_true, Bool.not_false, Bool.and_true, Bool.true_and, Bool.or_true, Bool.true_or, dLeft, dSpot, dCells, isiT, tyN, Bool.or_false, Bool.false_or, Bool.false_and, Bool.and_false, len0, cst0, len1, cst1, len2, cst2, len3, cst3, len4, cst4, len5, cst5, len6, cst6, len7, cst7, len8, cst8, len9, cst9, len10, cst10, len11, cst11, len12, cst12, big0, big1, big2, big3, big4, big5, big6, big7, big8, big9, big10, big11, big12]
  exact sat_ok ⟨_, rfl, ws, rfl, ⟨by omega, by omega, hw⟩, by omega, ok3.less (by omega)⟩
theorem p__law_drawn_bill {n : Nat} {s : MS} {k : Int} (h : Ok F (n + 4000) s) (hk0 : 0 < k) (hk : k ≤ 6) :
    Sat (f__law_drawn_bill [.m, .pu (.int k)] s) fun d s' => ∃ own ts, d = .pu (billD own ts) ∧ GBill own ts ∧ wid ts ≤ k ∧ (∀ t ∈ ts, t.2.1.natAbs ≤ 3 ∧ t.2.2.natAbs ≤ 3) ∧ Ok F n s' := by
  obtain ⟨v, s1, e1, v0, vk, ok1⟩ := draw_eq (n := n + 3999) (k := 101) h (by omega) (by omega)
  obtain ⟨d, s2, e2, x, hx, rfl, ok2⟩ := p__law_of (n := n + 3998) (s := s1) (ds := [.int 0, .int 1, .int 2, .int (-1), .int (v - 50)]) ok1 (by simp) (by simp)
  obtain ⟨own, rfl, ho⟩ : ∃ own : Int, x = .int own ∧ own.natAbs ≤ 50 := by
    simp only [List.mem_cons, List.not_mem_nil, or_false] at hx
    rcases hx with rfl | rfl | rfl | rfl | rfl
    · exact ⟨_, rfl, by omega⟩
    · exact ⟨_, rfl, by omega⟩
    · exact ⟨_, rfl, by omega⟩
    · exact ⟨_, rfl, by omega⟩
    · exact ⟨_, rfl, by omega⟩
  obtain ⟨u, s3, e3, u0, uk, ok3⟩ := draw_eq (n := n + 3997) (k := 3) ok2 (by omega) (by omega)
  refine sat_fnB rfl ?_
  show Sat (b__law_drawn_bill ⟨[some .m, some (.pu (.int k)), none, none, none], s⟩) _
  unfold b__law_drawn_bill
  refine sat_seqR ?_
  simp only [nd0, nd1, nd2, nd3, nd4, nd5, mSeqS, mIf, mTest, mBin, mMget, mC, mVar, mSet, mMset, mRet, mDrop, mCallB, mCons, mNil, mSeq, mNeg, mNotB, mNotV, mAndB, mOrB, mAndV, mOrV, mChain, mIsi, mPar2, mParNE, mParEN, mNew, mAug, mPart, mNoPart, mCut, mRange1, mRange2, mEnum, mZip, mSeqI, mCallF, Rs.bind_ok, Rs.of_some, Option.map_some, Option.bind_some, isM, asB, isOwn, dLt, dLe, dGt, dGe, dEq, dNe, dIs, dIsNot, isNon_non, isNon_int, dAdd, dAddI, dSub, dMul, dMod, dDiv, dPow, bInt, bLen, bTuple, bList, allP, Sg.put, List.getElem?_cons_zero, List.getElem?_cons_succ, List.set_cons_zero, List.set_cons_succ, if_true, if_false, Bool.false_eq_true, decide_true, decide_false, Bool.not_true, Bool.not_false, Bool.and_true, Bool.true_and, Bool.or_true, Bool.true_or, dLeft, dSpot, dCells, isiT, tyN, Bool.or_false, Bool.false_or, Bool.false_and, Bool.and_false, len0, cst0, len1, cst1, len2, cst2, len3, cst3, len4, cst4, len5, cst5, len6, cst6, len7, cst7, len8, cst8, len9, cst9, len10, cst10, len11, cst11, len12, cst12, big0, big1, big2, big3, big4, big5, big6, big7, big8, big9, big10, big11, big12, e1, e2]
  refine sat_nxR (sat_seqR ?_)
  refine (sat_for (ds := rangeD 0 u.toNat) (g0 := ⟨[some .m, some (.pu (.int k)), none, some (.pu (.int own)), some (.own [])], s3⟩)
    (fun j g => ∃ y ts s4, g = ⟨[some .m, some (.pu (.int k)), y, some (.pu (.int own)), some (.own (ts.map termD))], s4⟩ ∧ ts.length = j ∧ (∀ t ∈ ts, GTerm t ∧ (t.1.length : Int) ≤ k ∧ t.2.1.natAbs ≤ 3 ∧ t.2.2.natAbs ≤ 3) ∧ Ok F (n + 3997 - 1002 * j) s4) ?_ ⟨none, [], s3, rfl, rfl, fun _ h => (by cases h), ok3⟩ ?_ ?_)
  · simp only [nd0, nd1, nd2, nd3, nd4, nd5, mSeqS, mIf, mTest, mBin, mMget, mC, mVar, mSet, mMset, mRet, mDrop, mCallB, mCons, mNil, mSeq, mNeg, mNotB, mNotV, mAndB, mOrB, mAndV, mOrV, mChain, mIsi, mPar2, mParNE, mParEN, mNew, mAug, mPart, mNoPart, mCut, mRange1, mRange2, mEnum, mZip, mSeqI, mCallF, Rs.bind_ok, Rs.of_some, Option.map_some, Option.bind_some, isM, asB, isOwn, dLt, dLe, dGt, dGe, dEq, dNe, dIs, dIsNot, isNon_non, isNon_int, dAdd, dAddI, dSub, dMul, dMod, dDiv, dPow, bInt, bLen, bTuple, bList, allP, Sg.put, List.getElem?_cons_zero, List.getElem?_cons_succ, List.set_cons_zero, List.set_cons_succ, if_true, if_false, Bool.false_eq_true, decide_true, decide_false, Bool.not_true, Bool.not_false, Bool.and_true, Bool.true_and, Bool.or_true, Bool.true_or, dLeft, dSpot, dCells, isiT, tyN, Bool.or_false, Bool.false_or, Bool.false_and, Bool.and_false, len0, cst0, len1, cst1, len2, cst2, len3, cst3, len4, cst4, len5, cst5, len6, cst6, len7, cst7, len8, cst8, len9, cst9, len10, cst10, len11, cst11, len12, cst12, big0, big1, big2, big3, big4, big5, big6, big7, big8, big9, big10, big11, big12, e3, rng1_of (j := u) (n := u.toNat) (by omega) (by omega)]
  · rintro i d g hd ⟨y, ts, s4, rfl, hl, hts, ok4⟩
    obtain ⟨hi, rfl⟩ := rangeD_get hd
    refine ⟨_, rfl, ?_⟩
    show Sat (mApp 4 _ ⟨[some .m, some (.pu (.int k)), some (.pu (.int (0 + (i : Nat)))), some (.pu (.int own)), some (.own (ts.map termD))], s4⟩) _
    obtain ⟨d5, s5, e5, ws, rfl, gw, hw, ok5⟩ := p__law_weights (n := n + 3997 - 1002 * i - 1000) (s := s4) (k := k) (ok4.less (by omega)) hk0 hk
    obtain ⟨p, s6, e6, p0, pk, ok6⟩ := draw_eq (n := n + 3997 - 1002 * i - 1001) (k := 7) (ok5.less (by omega)) (by omega) (by omega)
    obtain ⟨q, s7, e7, q0, qk, ok7⟩ := draw_eq (n := n + 3997 - 1002 * i - 1002) (k := 7) (ok6.less (by omega)) (by omega) (by omega)
    have hb : (ts.map termD).length < bigN := by rw [List.length_map]; unfold bigN; omega
    unfold mApp
    simp only [nd0, nd1, nd2, nd3, nd4, nd5, mSeqS, mIf, mTest, mBin, mMget, mC, mVar, mSet, mMset, mRet, mDrop, mCallB, mCons, mNil, mSeq, mNeg, mNotB, mNotV, mAndB, mOrB, mAndV, mOrV, mChain, mIsi, mPar2, mParNE, mParEN, mNew, mAug, mPart, mNoPart, mCut, mRange1, mRange2, mEnum, mZip, mSeqI, mCallF, Rs.bind_ok, Rs.of_some, Option.map_some, Option.bind_some, isM, asB, isOwn, dLt, dLe, dGt, dGe, dEq, dNe, dIs, dIsNot, isNon_non, isNon_int, dAdd, dAddI, dSub, dMul, dMod, dDiv, dPow, bInt, bLen, bTuple, bList, allP, Sg.put, List.getElem?_cons_zero, List.getElem?_cons_succ, List.set_cons_zero, List.set_cons_succ, if_true, if_false, Bool.false_eq_true, decide_true, decide_false, Bool.not_true, Bool.not_false, Bool.and_true, Bool.true_and, Bool.or_true, Bool.true_or, dLeft, dSpot, dCells, isiT, tyN, Bool.or_false, Bool.false_or, Bool.false_and, Bool.and_false, len0, cst0, len1, cst1, len2, cst2, len3, cst3, len4, cst4, len5, cst5, len6, cst6, len7, cst7, len8, cst8, len9, cst9, len10, cst10, len11, cst11, len12, cst12, big0, big1, big2, big3, big4, big5, big6, big7, big8, big9, big10, big11, big12, e5, e6, e7, hb]
    refine sat_ok ⟨.inl rfl, _, ts ++ [(ws, p - 3, q - 3)], s7, by rw [← map_snoc]; rfl, by rw [List.length_append, hl]; rfl, fun t ht => ?_, ok7.less (by omega)⟩
    rcases mem_snoc ht with h | rfl
    · exact hts t h
    · exact ⟨⟨gw, by show (p - 3).natAbs ≤ 50; omega, by show (q - 3).natAbs ≤ 50; omega⟩, hw, by show (p - 3).natAbs ≤ 3; omega, by show (q - 3).natAbs ≤ 3; omega⟩
  · rintro g' ⟨y, ts, s4, rfl, hl, hts, ok4⟩
    rw [rangeD_length] at hl ok4
    have gb : GBill own ts := ⟨ho, by omega, fun t ht => (hts t ht).1⟩
    have hw : wid ts ≤ k := by
      rcases List.mem_cons.mp (foldl_max_mem (ts.map fun t => (t.1.length : Int)) 1).1 with e | e
      · unfold wid; rw [e]; omega
      · rw [List.mem_map] at e
        obtain ⟨t, ht, e⟩ := e
        unfold wid
        rw [← e]
        exact (hts t ht).2.1
    show Sat (mRet _ _) _
    simp only [nd0, nd1, nd2, nd3, nd4, nd5, mSeqS, mIf, mTest, mBin, mMget, mC, mVar, mSet, mMset, mRet, mDrop, mCallB, mCons, mNil, mSeq, mNeg, mNotB, mNotV, mAndB, mOrB, mAndV, mOrV, mChain, mIsi, mPar2, mParNE, mParEN, mNew, mAug, mPart, mNoPart, mCut, mRange1, mRange2, mEnum, mZip, mSeqI, mCallF, Rs.bind_ok, Rs.of_some, Option.map_some, Option.bind_some, isM, asB, isOwn, dLt, dLe, dGt, dGe, dEq, dNe, dIs, dIsNot, isNon_non, isNon_int, dAdd, dAddI, dSub, dMul, dMod, dDiv, dPow, bInt, bLen, bTuple, bList, allP, Sg.put, List.getElem?_cons_zero, List.getElem?_cons_succ, List.set_cons_zero, List.set_cons_succ, if_true, if_false, Bool.false_eq_true, decide_true, decide_false, Bool.not_true, Bool.not_false, Bool.and_true, Bool.true_and, Bool.or_true, Bool.true_or, dLeft, dSpot, dCells, isiT, tyN, Bool.or_false, Bool.false_or, Bool.false_and, Bool.and_false, len0, cst0, len1, cst1, len2, cst2, len3, cst3, len4, cst4, len5, cst5, len6, cst6, len7, cst7, len8, cst8, len9, cst9, len10, cst10, len11, cst11, len12, cst12, big0, big1, big2, big3, big4, big5, big6, big7, big8, big9, big10, big11, big12]
    exact sat_ok ⟨_, rfl, own, ts, rfl, gb, hw, fun t ht => (hts t ht).2.2, ok4.less (by omega)⟩
end DL
set_option Elab.async false
set_option linter.all false
set_option maxRecDepth 100000
set_option maxHeartbeats 4000000
set_option autoImplicit false
set_option Elab.async false
set_option linter.all false
set_option maxRecDepth 100000
set_option maxHeartbeats 4000000
set_option autoImplicit false
namespace DL
open PySem PySem.Spec L2
open PyProof.Rows hiding St
def wordN (c : Nat) : Str := match c with
  | 0 => "rule"
  | 1 => "row"
  | 2 => "bill"
  | 3 => "number"
  | 4 => "kind"
  | 5 => "paper"
  | 6 => "text"
  | _ => "nothing"
def wordD (c : Nat) (p : PyData) : PyData := .tuple [.str (wordN c), p]
theorem p__law_word {c : Nat} (hc : c < 8) (p : PyData) (s : MS) : f__law_word [.exc c p] s = .ok (.pu (wordD c p)) s := by
  show endB (b__law_word ⟨[some (.exc c p), none], s⟩) = _
  match c, hc with
  | 0, _ => rfl
  | 1, _ => rfl
  | 2, _ => rfl
  | 3, _ => rfl
  | 4, _ => rfl
  | 5, _ => rfl
  | 6, _ => rfl
  | 7, _ => rfl
/-- what a call tells -/
def outR : Rs MS PyData → Rs MS DV
  | .ok d s => .ok (.pu (.list [d])) s
  | .ex c p s => .ok (.pu (wordD c p)) s
  | .no => .no
theorem p__law_outcome {G : MS → Rs MS PyData} {s : MS} (h : ∀ c p s', G s = .ex c p s' → c < 8) : f__law_outcome [.clo G] s = outR (G s) := by
  show endB (b__law_outcome ⟨[some (.clo G), none, none, none], s⟩) = _
  unfold b__law_outcome
  have h0 : mAsg (mSeq .tuple (mCons (mC .none) (mCons (mC .none) (mNil)))) (gtTup 2 (gtCons (gtName 1) (gtCons (gtName 2) (gtNil)))) ⟨[some (.clo G), none, none, none], s⟩ = .ok .nx ⟨[some (.clo G), some (.pu .none), some (.pu .none), none], s⟩ := rfl
  simp only [mSeqS, h0, Rs.bind_ok]
  cases q : G s with
  | ok d s' =>
    have h1 : mTry 3 2 (okC nmX) (mSet 1 (mCallC 0)) ⟨[some (.clo G), some (.pu .none), some (.pu .none), none], s⟩ = .ok .nx ⟨[some (.clo G), some (.pu d), some (.pu .none), none], s'⟩ := by
      simp only [mTry, mSet, mCallC, List.getElem?_cons_zero, q, Rs.bind_ok, Sg.put, List.set_cons_succ, List.set_cons_zero]
    simp only [h1, Rs.bind_ok]
    rfl
  | ex c p s' =>
    have hc := h c p s' q
    have h1 : mTry 3 2 (okC nmX) (mSet 1 (mCallC 0)) ⟨[some (.clo G), some (.pu .none), some (.pu .none), none], s⟩ = .ok .nx ⟨[some (.clo G), some (.pu .none), some (.exc c p), none], s'⟩ := by
      have ok : okC nmX c = true := by
        match c, hc with
        | 0, _ => rfl
        | 1, _ => rfl
        | 2, _ => rfl
        | 3, _ => rfl
        | 4, _ => rfl
        | 5, _ => rfl
        | 6, _ => rfl
        | 7, _ => rfl
      simp only [mTry, mSet, mCallC, List.getElem?_cons_zero, q, Rs.bind_ex, ok, if_true, List.set_cons_succ, List.set_cons_zero]
    simp only [h1, Rs.bind_ok]
    have h2 := p__law_word hc p s'
    simp only [mRet, mIf, mIsN, mVar, List.getElem?_cons_zero, List.getElem?_cons_succ, Rs.bind_ok, Bool.false_eq_true, if_false, mCallF, mCons, mNil, h2, endB, outR]
  | no =>
    have h1 : mTry 3 2 (okC nmX) (mSet 1 (mCallC 0)) ⟨[some (.clo G), some (.pu .none), some (.pu .none), none], s⟩ = .no := by
      simp only [mTry, mSet, mCallC, List.getElem?_cons_zero, q, Rs.bind_no]
    simp only [h1, Rs.bind_no, endB, outR]
end DL
set_option Elab.async false
set_option linter.all false
set_option maxRecDepth 100000
set_option maxHeartbeats 4000000
set_option autoImplicit false
namespace DL
open PySem PySem.Spec L2
open PyProof.Rows hiding St
theorem Fit.up {n k : Nat} {d : PyData} (h : Fit 0 0 d) : Fit n k d := h.mono (Nat.zero_le _) (Nat.zero_le _)
structure FitD (n k : Nat) (d : PyData) : Prop where
  short : d.leavesShort 50 = true
  show_ : d.showable = true
  dep : d.depth ≤ k
  bulk : d.bulk ≤ n
structure FitDL (n k : Nat) (ds : List PyData) : Prop where
  short : PyData.leavesShortAll 50 ds = true
  show_ : PyData.showableAll ds = true
  dep : PyData.depthAll ds ≤ k
  bulk : PyData.bulkAll ds ≤ n
theorem FitD.mono {n k n' k' : Nat} {d : PyData} (h : FitD n k d) (a : n ≤ n') (b : k ≤ k') : FitD n' k' d := ⟨h.short, h.show_, Nat.le_trans h.dep b, Nat.le_trans h.bulk a⟩
theorem FitDL.mono {n k n' k' : Nat} {d : List PyData} (h : FitDL n k d) (a : n ≤ n') (b : k ≤ k') : FitDL n' k' d := ⟨h.short, h.show_, Nat.le_trans h.dep b, Nat.le_trans h.bulk a⟩
theorem fitd_non {n k : Nat} : FitD n k .none := ⟨rfl, rfl, Nat.zero_le _, Nat.zero_le _⟩
theorem fitd_bool {n k : Nat} {b : Bool} : FitD n k (.bool b) := ⟨rfl, rfl, Nat.zero_le _, Nat.zero_le _⟩
theorem fitd_dict {n k : Nat} (hk : 1 ≤ k := by decide) : FitD n k (.dict []) := ⟨rfl, rfl, by simpa [PyData.depth, PyData.depthKv] using hk, by simp [PyData.bulk, PyData.bulkKv]⟩
theorem log2_lt_of49 {n : Nat} (h : n < 10 ^ 49) : n.log2 < 1920 := by
  by_cases e : n = 0
  · subst e; decide
  · rw [Nat.log2_lt e]
    exact Nat.lt_of_lt_of_le h (Nat.le_trans (show 10 ^ 49 ≤ 2 ^ 200 by decide) (Nat.pow_le_pow_right (by decide) (by decide)))
theorem fitd_int {n k : Nat} {i : Int} (h : i.natAbs < 10 ^ 49) : FitD n k (.int i) := by
  refine ⟨?_, ?_, Nat.zero_le _, Nat.zero_le _⟩
  · have e := int_text_length_le10 (k := 49) (by decide) h
    have f : (PyData.shown (.int i)).length ≤ 50 := by
      show (Str.ofString (toString i)).length ≤ 50
      rw [PySem.ofString_length]
      exact e
    unfold PyData.leavesShort
    exact decide_eq_true f
  · unfold PyData.showable
    exact decide_eq_true (log2_lt_of49 h)
theorem fitd_str {n k : Nat} {x : Str} (h : (x.cps.toList.all fun c => decide (c < 16 ^ 8)) = true := by decide +kernel) (hn : x.cps.size ≤ n := by decide +kernel) : FitD n k (.str x) := ⟨by unfold PyData.leavesShort; exact h, rfl, Nat.zero_le _, hn⟩
theorem fitdl_nil {n k : Nat} : FitDL n k [] := ⟨rfl, rfl, Nat.zero_le _, Nat.zero_le _⟩
theorem fitdl_cons {n m k : Nat} {d : PyData} {ds : List PyData} (a : FitD n k d) (b : FitDL m k ds) : FitDL (n + 1 + m) k (d :: ds) := by
  refine ⟨?_, ?_, ?_, ?_⟩
  · unfold PyData.leavesShortAll; rw [a.short, b.short]; rfl
  · unfold PyData.showableAll; rw [a.show_, b.show_]; rfl
  · unfold PyData.depthAll; exact Nat.max_le.mpr ⟨a.dep, b.dep⟩
  · unfold PyData.bulkAll; have := a.bulk; have := b.bulk; omega
theorem FitDL.lst {n k : Nat} {ds : List PyData} (h : FitDL n k ds) : FitD n (k + 1) (.list ds) := by
  refine ⟨?_, ?_, ?_, ?_⟩
  · unfold PyData.leavesShort; exact h.short
  · unfold PyData.showable; exact h.show_
  · unfold PyData.depth; exact Nat.add_le_add_right h.dep 1
  · unfold PyData.bulk; exact h.bulk
theorem FitDL.tup {n k : Nat} {ds : List PyData} (h : FitDL n k ds) : FitD n (k + 1) (.tuple ds) := by
  refine ⟨?_, ?_, ?_, ?_⟩
  · unfold PyData.leavesShort; exact h.short
  · unfold PyData.showable; exact h.show_
  · unfold PyData.depth; exact Nat.add_le_add_right h.dep 1
  · unfold PyData.bulk; exact h.bulk
theorem FitD.ok {n k : Nat} {d : PyData} (h : FitD n k d) (hn : n ≤ 200000 := by decide) (hk : k ≤ 64 := by decide) : okShow d = true := by
  unfold okShow
  have hs := PyData.shown_le_bulk 50 (by decide) d h.short
  have hb := h.bulk
  have hp := h.dep
  rw [h.show_]
  simp only [Bool.true_and, Bool.and_eq_true, decide_eq_true_eq]
  refine ⟨by omega, ?_⟩
  unfold bigN
  omega
theorem fitd_word {n k c : Nat} {p : PyData} (h : FitD n k p) : FitD (n + 12) (k + 1) (wordD c p) := by
  have f : FitD 10 k (.str (wordN c)) := by
    match c with
    | 0 => exact fitd_str
    | 1 => exact fitd_str
    | 2 => exact fitd_str
    | 3 => exact fitd_str
    | 4 => exact fitd_str
    | 5 => exact fitd_str
    | 6 => exact fitd_str
    | _ + 7 => exact fitd_str (x := "nothing")
  exact ((fitdl_cons f (fitdl_cons h (fitdl_nil (n := 0)))).mono (by omega) (Nat.le_refl _)).tup
end DL
set_option Elab.async false
set_option linter.all false
set_option maxRecDepth 100000
set_option maxHeartbeats 4000000
set_option autoImplicit false
namespace DL
open PySem PySem.Spec L2
open PyProof.Rows hiding St
def b_File_row : Sg → Rs Sg Fl := mRet (mFRow (mVar 0))
def f_File_row : List DV → MS → Rs MS DV := fnB 1 1 b_File_row
def b_File___len__ : Sg → Rs Sg Fl := mRet (mCallB bLen (mCons (mFRow (mVar 0)) (mNil)))
def f_File___len__ : List DV → MS → Rs MS DV := fnB 1 1 b_File___len__
def b_File_add : Sg → Rs Sg Fl := mSeqS (mIf (mNotB (mTest (mCallF f_is_whole (mCons (mVar 1) (mCons (mC (.int 0)) (mCons (mC (.int (1000000))) (mNil))))))) (mRaise 3 (mVar 1)) ((fun g => .ok .nx g))) (mSeqS (mIf (mTest (mBin dEq (mCallB bLen (mCons (mFRow (mVar 0)) (mNil))) (mC (.int (200))))) (mRaise 7 (mC (.int (200)))) ((fun g => .ok .nx g))) (mSeqS (mSet 2 (mCallB bLen (mCons (mFRow (mVar 0)) (mNil)))) (mSeqS (mFSet (mVar 0) (mSeq .tuple (mStar (mFRow (mVar 0)) (mCons (mVar 1) (mNil))))) (mRet (mIf (mTest (mBin dGe (mVar 2) (mCallF f_width_of (mCons (mFBill (mVar 0)) (mNil))))) (mCallF f_paid_at (mCons (mFBill (mVar 0)) (mCons (mFRow (mVar 0)) (mCons (mVar 2) (mNil))))) (mC .none))))))
def f_File_add : List DV → MS → Rs MS DV := fnB 2 3 b_File_add
def b_File___call__ : Sg → Rs Sg Fl := mSeqS (mIf (mTest (mBin dLt (mCallB bLen (mCons (mFRow (mVar 0)) (mNil))) (mCallF f_width_of (mCons (mFBill (mVar 0)) (mNil))))) (mRet (mC .none)) ((fun g => .ok .nx g))) (mRet (mCallB bSum (mCons (mCallF f_pays_in (mCons (mFBill (mVar 0)) (mCons (mFRow (mVar 0)) (mNil)))) (mNil))))
def f_File___call__ : List DV → MS → Rs MS DV := fnB 1 1 b_File___call__
def b_File_index : Sg → Rs Sg Fl := mSeqS (mIf (mNotB (mTest (mCallF f_is_whole (mCons (mVar 1) (mCons (mC (.int 0)) (mCons (mBin dSub (mCallB bLen (mCons (mBin dIx (mFBill (mVar 0)) (mC (.int 1))) (mNil))) (mC (.int 1))) (mNil))))))) (mRaise 3 (mVar 1)) ((fun g => .ok .nx g))) (mSeqS (mSet 2 (mBin dIx (mBin dIx (mBin dIx (mFBill (mVar 0)) (mC (.int 1))) (mVar 1)) (mC (.int 0)))) (mSeqS (mIf (mTest (mBin dLt (mCallB bLen (mCons (mFRow (mVar 0)) (mNil))) (mCallB bLen (mCons (mVar 2) (mNil))))) (mRet (mC .none)) ((fun g => .ok .nx g))) (mRet (mCallF f_index_in (mCons (mVar 2) (mCons (mCut (mFRow (mVar 0)) (mPart (mBin dSub (mCallB bLen (mCons (mFRow (mVar 0)) (mNil))) (mCallB bLen (mCons (mVar 2) (mNil))))) (mNoPart)) (mNil)))))))
def f_File_index : List DV → MS → Rs MS DV := fnB 2 3 b_File_index
def b_File_back : Sg → Rs Sg Fl := mSeqS (mIf (mOrB (mNotB (mTest (mIsi "int" (mVar 1)))) (mOrB (mTest (mIsi "bool" (mVar 1))) (mTest (mBin dLt (mVar 1) (mC (.int 1)))))) (mRaise 3 (mVar 1)) ((fun g => .ok .nx g))) (mSeqS (mIf (mTest (mBin dGt (mVar 1) (mCallB bLen (mCons (mFRow (mVar 0)) (mNil))))) (mRaise 7 (mVar 1)) ((fun g => .ok .nx g))) (mFSet (mVar 0) (mCut (mFRow (mVar 0)) (mNoPart) (mPart (mBin dSub (mCallB bLen (mCons (mFRow (mVar 0)) (mNil))) (mVar 1))))))
def f_File_back : List DV → MS → Rs MS DV := fnB 2 2 b_File_back
end DL
set_option Elab.async false
set_option linter.all false
set_option maxRecDepth 100000
set_option maxHeartbeats 4000000
set_option autoImplicit false
namespace DL
open PySem PySem.Spec L2
open PyProof.Rows hiding St
section
variable {fo fe fv : Sg → Rs Sg DV} {fs : Sg → Rs Sg (List DV)} {g g1 g2 : Sg} {x y : DV} {xs : List DV} {p : PyData} {l l0 : List (Option DV)} {s s0 s1 : MS} {i : Nat} {b r : PyData} {fn : List DV → MS → Rs MS DV} {k : Nat}
def fsetS (s : MS) (i : Nat) (b r : PyData) : MS := { s with files := s.files.set i (b, r) }
def fnewS (s : MS) (b : PyData) : MS := { s with files := s.files ++ [(b, .tuple [])] }
structure FR (s : MS) (x : DV) (i : Nat) (b r : PyData) : Prop where
  e : ∀ l, filV ⟨l, s⟩ x = some (i, b, r)
  m : s.files[i]? = some (b, r)
theorem FR.of (h : s.files[i]? = some (b, r)) : FR s (.pu (fileD i)) i b r := ⟨fun l => by
  show (filN (fileD i)).bind (fun j => (s.files[j]?).map fun p => (j, p.1, p.2)) = _
  rw [filN_D]
  show (s.files[i]?).map (fun p => (i, p.1, p.2)) = _
  rw [h]
  rfl, h⟩
theorem FR.name (h : FR s x i b r) : x = .pu (fileD i) ∨ True := .inr trivial
theorem FR.isF (h : FR s x i b r) (l : List (Option DV)) : isFil ⟨l, s⟩ x = true := by
  unfold isFil
  rw [h.e l]
  rfl
theorem FR.set (h : s.files[i]? = some (b, r)) (b2 r2 : PyData) : FR (fsetS s i b2 r2) (.pu (fileD i)) i b2 r2 := FR.of (by
  show (s.files.set i (b2, r2))[i]? = _
  have : i < s.files.length := by
    rcases Nat.lt_or_ge i s.files.length with z | z
    · exact z
    · rw [List.getElem?_eq_none z] at h
      cases h
  rw [List.getElem?_set_self this])
theorem e_fbill (e : fe g = .ok x ⟨l, s⟩) (h : FR s x i b r) : mFBill fe g = .ok (.pu b) ⟨l, s⟩ := by
  unfold mFBill
  rw [e]
  simp only [Rs.bind_ok, h.e l]
theorem e_frow (e : fe g = .ok x ⟨l, s⟩) (h : FR s x i b r) : mFRow fe g = .ok (.pu r) ⟨l, s⟩ := by
  unfold mFRow
  rw [e]
  simp only [Rs.bind_ok, h.e l]
theorem e_fset (e : fv g = .ok (.pu p) g1) (eo : fo g1 = .ok x ⟨l, s⟩) (h : FR s x i b r) (hc : p.canLay0 = true) : mFSet fo fv g = .ok .nx ⟨l, fsetS s i b p⟩ := by
  unfold mFSet
  rw [e]
  show (fo g1).bind _ = _
  rw [eo]
  simp only [Rs.bind_ok, h.e l, hc, if_true]
  rfl
theorem endS_callK (g : Sg) (r1 : Rs MS DV) : endS g r1 = callK g.r r1 := by cases r1 <;> rfl
theorem e_meth {r1 : Rs MS DV} {rr : Rs Sg DV} (eo : fo g = .ok x ⟨l0, s0⟩) (h : FR s0 x i b r) (ea : fs ⟨l0, s0⟩ = .ok xs ⟨l, s⟩) (ef : fn (x :: xs) s = r1) (hk : callK l r1 = rr) : mMeth fn fo fs g = rr := by
  unfold mMeth
  rw [eo]
  simp only [Rs.bind_ok, h.isF l0, if_true, ea, ef, endS_callK]
  exact hk
theorem e_prop (eo : fo g = .ok x ⟨l, s⟩) (h : FR s x i b r) (ef : fn [x] s = .ok y s1) : mProp fn fo g = .ok y ⟨l, s1⟩ := by
  unfold mProp
  rw [eo]
  simp only [Rs.bind_ok, h.isF l, if_true, ef, okSg]
theorem len63 {n : Nat} (h : n ≤ 16777216) : (0 : Int) ≤ ((n : Nat) : Int) ∧ ((n : Nat) : Int) < 9223372036854775808 := by omega
theorem pow63 : (2 : Int) ^ 63 = 9223372036854775808 := by decide
theorem e_lenF1 {n : Nat} (eo : fo g = .ok x ⟨l, s⟩) (h : FR s x i b r) (ef : fn [x] s = .ok (.pu (.int (n : Nat))) s1) (M : Int) (h2 : (0 : Int) ≤ ((n : Nat) : Int) ∧ ((n : Nat) : Int) < M) : ((fo g).bind fun d g1 => if isFil g1 d = true then (endS g1 (fn [d] g1.s)).bind fun y g2 => match y with
  | .pu (.int n) => if 0 ≤ n ∧ n < M then .ok (.pu (.int n)) g2 else .no
  | _ => .no else .no) = (Rs.ok (.pu (.int (n : Nat))) ⟨l, s1⟩ : Rs Sg DV) := by
  rw [eo]
  simp only [Rs.bind_ok, h.isF l, if_true, ef, endS, if_pos h2]
theorem e_lenF2 {n : Nat} (eo : fo g = .ok x ⟨l, s⟩) (h : FR s x i b r) (ef : fn [x] s = .ok (.pu (.int (n : Nat))) s1) (h2 : (0 : Int) ≤ ((n : Nat) : Int) ∧ ((n : Nat) : Int) < 2 ^ 63) : mLenF fn fo g = .ok (.pu (.int (n : Nat))) ⟨l, s1⟩ := by
  unfold mLenF
  exact e_lenF1 eo h ef _ h2
theorem ln63 {n : Nat} (hn : LnR n) : (0 : Int) ≤ ((n : Nat) : Int) ∧ ((n : Nat) : Int) < 2 ^ 63 := by
  have hn : n ≤ bigN := hn
  unfold bigN at hn
  rw [pow63]
  exact len63 hn
theorem e_lenF {n : Nat} (eo : fo g = .ok x ⟨l, s⟩) (h : FR s x i b r) (ef : fn [x] s = .ok (.pu (.int (n : Nat))) s1) (hn : LnR n) : mLenF fn fo g = .ok (.pu (.int (n : Nat))) ⟨l, s1⟩ := e_lenF2 eo h ef (ln63 hn)
theorem e_inF {b1 : Bool} (ea : fv g = .ok y g1) (eo : fo g1 = .ok x ⟨l, s⟩) (h : FR s x i b r) (ef : fn [x, y] s = .ok (.pu (.bool b1)) s1) : mInF fn fv fo g = .ok (.pu (.bool b1)) ⟨l, s1⟩ := by
  unfold mInF
  rw [ea]
  simp only [Rs.bind_ok, eo, h.isF l, if_true, ef, endS]
theorem e_back0 {r1 : Rs MS DV} {rr : Rs Sg DV} (eo : fo g = .ok x ⟨l, s⟩) (h : FR s x i b r) (ef : fn [x, .pu (.int 1)] s = r1) (hk : callK l r1 = rr) : mBack0 fn fo g = rr := by
  unfold mBack0
  rw [eo]
  simp only [Rs.bind_ok, h.isF l, if_true, ef, endS_callK]
  exact hk
theorem e_backK {r1 : Rs MS DV} {rr : Rs Sg DV} (eo : fo g = .ok x ⟨l0, s0⟩) (h : FR s0 x i b r) (ee : fe ⟨l0, s0⟩ = .ok y ⟨l, s⟩) (ef : fn [x, y] s = r1) (hk : callK l r1 = rr) : mBackK fn fo fe g = rr := by
  unfold mBackK
  rw [eo]
  simp only [Rs.bind_ok, h.isF l0, if_true, ee, ef, endS_callK]
  exact hk
theorem e_newF (e : fe g = .ok x ⟨l, s⟩) (ef : fn [x] s = .ok (.pu b) s1) (hc : b.canLay0 = true) : mNewF fn fe g = .ok (.pu (fileD s1.files.length)) ⟨l, fnewS s1 b⟩ := by
  unfold mNewF
  rw [e]
  simp only [Rs.bind_ok, ef, hc, if_true]
  rfl
theorem FR.new (b : PyData) : FR (fnewS s b) (.pu (fileD s.files.length)) s.files.length b (.tuple []) := FR.of (by
  show (s.files ++ [(b, PyData.tuple [])])[s.files.length]? = _
  rw [List.getElem?_append_right (Nat.le_refl _), Nat.sub_self]
  rfl)
theorem fn_runN {np n : Nat} {bd : Sg → Rs Sg Fl} {ds : List DV} {s2 : MS} (hl : ds.length = np) (e : bd ⟨startD n ds, s⟩ = .ok .nx ⟨l, s2⟩) : fnB np n bd ds s = .ok (.pu .none) s2 := by
  unfold fnB
  rw [if_pos hl, e]
  rfl
end
end DL
set_option Elab.async false
set_option linter.all false
set_option maxRecDepth 100000
set_option maxHeartbeats 4000000
set_option autoImplicit false
namespace DL
open PySem PySem.Spec L2
open PyProof.Rows hiding St
local macro_rules
  | `(tactic| decreasing_with $ts:tacticSeq) => `(tactic| repeat (first
    | with_reducible assumption
    | with_reducible exact e_nil
    | with_reducible exact e_c
    | with_reducible exact e_nopart
    | with_reducible exact e_nx
    | with_reducible exact set_z
    | with_reducible exact allP_z
    | with_reducible exact wipe_z
    | with_reducible exact e_gtNil
    | with_reducible exact ck_ok
    | with_reducible exact ck_ex
    | with_reducible exact rk_ok
    | with_reducible exact rk_ex
    | with_reducible exact dk_ok
    | with_reducible exact dk_ex
    | with_reducible exact tk_ex
    | with_reducible exact sk_rt
    | with_reducible exact sk_ex
    | with_reducible exact sk_ct
    | with_reducible exact sk_bk
    | with_reducible apply sk_nx
    | with_reducible apply tk_ok
    | with_reducible apply set_s
    | with_reducible apply allP_s
    | with_reducible apply wipe_s
    | with_reducible apply iteB_t
    | with_reducible apply iteB_f
    | ((with_reducible apply e_var); rfl; rfl)
    | ((with_reducible apply e_varO); rfl)
    | with_reducible apply e_cons
    | with_reducible apply e_bin
    | with_reducible apply e_call
    | with_reducible apply e_callB
    | with_reducible apply e_seq
    | with_reducible apply e_test
    | with_reducible apply e_notB
    | with_reducible apply e_notV
    | with_reducible apply e_isi
    | with_reducible apply e_if
    | with_reducible apply e_orB
    | with_reducible apply e_andB
    | with_reducible apply e_andV
    | with_reducible apply e_orV
    | with_reducible apply e_chainI
    | with_reducible apply e_chain
    | with_reducible apply e_part
    | with_reducible apply e_cut
    | with_reducible apply e_mset
    | with_reducible apply e_ret
    | with_reducible apply e_drop
    | with_reducible apply e_seqS
    | with_reducible apply e_raise
    | with_reducible apply e_new
    | with_reducible apply e_newL
    | ((with_reducible apply e_ixN); rfl)
    | with_reducible apply e_newD
    | with_reducible apply e_par2
    | with_reducible apply e_asg
    | with_reducible apply e_gtName
    | ((with_reducible apply e_gtTup); rfl)
    | with_reducible apply e_gtCons
    | ((with_reducible apply e_aug); rfl)
    | ((with_reducible apply e_app); rfl)
    | ((with_reducible apply own_at); rfl)
    | ((with_reducible apply set_r); rfl)
    | with_reducible apply e_for
    | with_reducible apply e_seqI
    | with_reducible apply e_rng1
    | with_reducible apply e_rng2
    | with_reducible apply e_enum
    | with_reducible apply e_zip
    | with_reducible apply e_star
    | with_reducible apply e_neg
    | with_reducible apply e_rev
    | with_reducible apply e_revL
    | with_reducible apply e_fbill
    | with_reducible apply e_frow
    | with_reducible apply e_fset
    | with_reducible apply e_meth
    | with_reducible apply e_prop
    | with_reducible apply e_lenF
    | with_reducible apply e_inF
    | with_reducible apply e_back0
    | with_reducible apply e_backK
    | with_reducible apply e_newF
    | with_reducible exact ok_r
    | with_reducible exact ex_r
    | ((with_reducible apply op_h); first | with_reducible assumption | ($ts) | exact rfl)
    | ((with_reducible apply bl_h); first | with_reducible assumption | ($ts) | exact rfl)
    | ((with_reducible apply ct_h); first | with_reducible assumption | ($ts) | exact rfl)
    | ((with_reducible apply sq_h); first | with_reducible assumption | ($ts) | exact rfl)
    | ((with_reducible apply ln_h); first | with_reducible assumption | ($ts) | exact ln_b rfl | omega)
    | ((with_reducible apply tg_h); first | with_reducible assumption | ($ts))
    | with_reducible apply tg_h
    | ((with_reducible apply is_h); with_reducible assumption)
    | exact is_t rfl
    | exact is_f rfl
    | ((with_reducible apply is_h); first | ($ts) | exact rfl)
    | ((with_reducible apply be_h); first
      | with_reducible exact not_t
      | with_reducible exact not_f
      | with_reducible assumption)
    | exact be_t rfl
    | exact be_f rfl
    | ((with_reducible apply be_h); first
      | with_reducible exact not_t
      | with_reducible exact not_f
      | with_reducible assumption
      | with_reducible exact (rfl : true = true)
      | with_reducible exact (rfl : false = false)
      | ($ts)
      | with_reducible exact decide_eq_true (by first | with_reducible assumption | with_reducible rfl | omega)
      | with_reducible exact decide_eq_false (by first | with_reducible assumption | omega)
      | with_reducible exact leB_t (by omega)
      | with_reducible exact leB_f (by omega)
      | exact rfl)
    | ($ts)
    | exact rk_ok
    | exact ok_r))
section
variable {own : Int} {ts : List Term} {R : List Int} {s : MS} {i : Nat} {D b r : PyData}
theorem p_File_row (h : FR s (.pu D) i b r) : f_File_row [.pu D] s = .ok (.pu r) s := by
  refine fn_run (l := [some (.pu D)]) rfl ?_
  show b_File_row ⟨[some (.pu D)], s⟩ = _
  unfold b_File_row
  decreasing_with fail
theorem bl_row (R : List Int) : BlR bLen [.pu (rowD R)] (.int (R.length : Nat)) := by
  show some (PyData.int (((R.map PyData.int).length : Nat) : Int)) = _
  rw [List.length_map]
theorem p_File_len (h : FR s (.pu D) i b (rowD R)) : f_File___len__ [.pu D] s = .ok (.pu (.int (R.length : Nat))) s := by
  have q := bl_row R
  refine fn_run (l := [some (.pu D)]) rfl ?_
  show b_File___len__ ⟨[some (.pu D)], s⟩ = _
  unfold b_File___len__
  generalize rowD R = RD at *
  decreasing_with fail
def worthV (own : Int) (ts : List Term) (R : List Int) : PyData := if widN ts ≤ R.length then .int (paysL own ts R).sum else .none
theorem p_widthN (g : GBill own ts) (s : MS) : f_width_of [.pu (billD own ts)] s = .ok (.pu (.int (widN ts : Nat))) s := by rw [p_width_of g s, wid_cast]
theorem p_File_call (g : GBill own ts) (gr : R.length ≤ 200) (h : FR s (.pu D) i (billD own ts) (rowD R)) : f_File___call__ [.pu D] s = .ok (.pu (worthV own ts R)) s := by
  have q := bl_row R
  have w := p_widthN g s
  have ps := p_pays_in (R := R) g (by omega) s
  have su : BlR bSum [.pu (.list ((paysL own ts R).map .int))] (.int (paysL own ts R).sum) := by
    show (allI ((paysL own ts R).map .int)).map _ = _
    rw [allI_ints]
    rfl
  refine fn_run (l := [some (.pu D)]) rfl ?_
  show b_File___call__ ⟨[some (.pu D)], s⟩ = _
  unfold b_File___call__ worthV
  generalize billD own ts = BD at *
  generalize rowD R = RD at *
  by_cases z : widN ts ≤ R.length
  · rw [if_pos z]
    have lt : OpR dLt (.int (R.length : Nat)) (.int (widN ts : Nat)) (.bool false) := by
      show some (PyData.bool (ltB _ _)) = _
      rw [ltB_f (by omega)]
    decreasing_with fail
  · rw [if_neg z]
    have lt : OpR dLt (.int (R.length : Nat)) (.int (widN ts : Nat)) (.bool true) := by
      show some (PyData.bool (ltB _ _)) = _
      rw [ltB_t (by omega)]
    decreasing_with fail
def payV (own : Int) (ts : List Term) (R : List Int) : PyData := if widN ts < R.length then .int (paidAt own ts R (R.length - 1)) else .none
theorem whole_t (x : Int) (h : 0 ≤ x ∧ x ≤ 1000000) (s : MS) : f_is_whole [.pu (.int x), .pu (.int 0), .pu (.int 1000000)] s = .ok (.pu (.bool true)) s := by
  rw [p_is_whole _ _ _ _ rfl, isW_t h.1 h.2]
theorem row_snoc {x : Int} (gr : GRow R) (hx : 0 ≤ x ∧ x ≤ 1000000) (hl : R.length < 200) : GRow (R ++ [x]) := ⟨by rw [List.length_append]; show R.length + 1 ≤ 200; omega, fun n hn => by
  rcases List.mem_append.mp hn with z | z
  · exact gr.ns n z
  · rw [List.mem_singleton.mp z]
    exact hx⟩
theorem allP_pu : ∀ (ds : List PyData) (d : PyData), allP (ds.map DV.pu ++ [DV.pu d]) = some (ds ++ [d])
  | [], _ => rfl
  | e :: ds, d => by
    show (allP (ds.map DV.pu ++ [DV.pu d])).map (e :: ·) = _
    rw [allP_pu ds d]
    rfl
theorem p_File_add {x : Int} (g : GBill own ts) (gr : GRow R) (hx : 0 ≤ x ∧ x ≤ 1000000) (hl : R.length < 200) (h : FR s (.pu (fileD i)) i (billD own ts) (rowD R)) :
    f_File_add [.pu (fileD i), .pu (.int x)] s = .ok (.pu (payV own ts (R ++ [x]))) (fsetS s i (billD own ts) (rowD (R ++ [x]))) := by
  have q := bl_row R
  have iw := whole_t x hx s
  have h2 := FR.set h.m (billD own ts) (rowD (R ++ [x]))
  have w := p_widthN g (fsetS s i (billD own ts) (rowD (R ++ [x])))
  have cl : (rowD (R ++ [x])).canLay0 = true := (fit_row (row_snoc gr hx hl)).lay
  have rl : (R ++ [x]).length = R.length + 1 := by rw [List.length_append]; rfl
  have e200 : OpR dEq (.int (R.length : Nat)) (.int 200) (.bool false) := by
    show some (PyData.bool (decide _)) = _
    rw [decide_eq_false (by omega)]
  have sq : ∀ a2, mSeq .tuple (mStar (mFRow (mVar 0)) (mCons (mVar 1) (mNil))) ⟨[some (.pu (fileD i)), some (.pu (.int x)), a2], s⟩ = .ok (.pu (rowD (R ++ [x]))) ⟨[some (.pu (fileD i)), some (.pu (.int x)), a2], s⟩ := fun a2 => by
    have e1 : mStar (mFRow (mVar 0)) (mCons (mVar 1) (mNil)) ⟨[some (.pu (fileD i)), some (.pu (.int x)), a2], s⟩ = .ok ((R.map PyData.int).map DV.pu ++ [.pu (.int x)]) ⟨[some (.pu (fileD i)), some (.pu (.int x)), a2], s⟩ := by
      have sr : SqR (.pu (rowD R)) (R.map .int) := rfl
      generalize rowD R = RD at *
      generalize fileD i = D at *
      decreasing_with fail
    have e2 := e_seq (mk := .tuple) e1 (allP_pu _ _) (by show _ ≤ bigN; rw [List.length_append, List.length_map]; show R.length + 1 ≤ _; unfold bigN; omega)
    rw [e2, rowD, List.map_append]
    rfl
  have sq := sq (some (.pu (.int (R.length : Nat))))
  refine fn_run (l := [some (.pu (fileD i)), some (.pu (.int x)), some (.pu (.int (R.length : Nat)))]) rfl ?_
  show b_File_add ⟨[some (.pu (fileD i)), some (.pu (.int x)), none], s⟩ = _
  unfold b_File_add payV
  rw [rl]
  by_cases z : widN ts ≤ R.length
  · rw [if_pos (by omega), Nat.add_sub_cancel]
    have pa := p_paid_at (R := R ++ [x]) g R.length z (by omega) (fsetS s i (billD own ts) (rowD (R ++ [x])))
    have ge : OpR dGe (.int (R.length : Nat)) (.int (widN ts : Nat)) (.bool true) := by
      show some (PyData.bool (leB _ _)) = _
      rw [leB_t (by omega)]
    generalize billD own ts = BD at *
    generalize rowD R = RD at *
    generalize rowD (R ++ [x]) = RX at *
    generalize fileD i = D at *
    decreasing_with fail
  · rw [if_neg (by omega)]
    have ge : OpR dGe (.int (R.length : Nat)) (.int (widN ts : Nat)) (.bool false) := by
      show some (PyData.bool (leB _ _)) = _
      rw [leB_f (by omega)]
    generalize billD own ts = BD at *
    generalize rowD R = RD at *
    generalize rowD (R ++ [x]) = RX at *
    generalize fileD i = D at *
    decreasing_with fail
theorem bl_terms (ts : List Term) : BlR bLen [.pu (.tuple (ts.map termD))] (.int (ts.length : Nat)) := by
  show some (PyData.int (((ts.map termD).length : Nat) : Int)) = _
  rw [List.length_map]
theorem cut_back {R : List Int} {m : Nat} (hm : m ≤ R.length) : dCut (rowD R) none (some ((R.length : Int) - (m : Int))) = some (rowD (R.take (R.length - m))) := by
  show some (PyData.tuple (cutL (R.map PyData.int) none (some ((R.length : Int) - (m : Int))))) = _
  rw [show ((R.length : Int) - (m : Int)) = ((R.length - m : Nat) : Int) by omega]
  unfold cutL
  rw [sIx_nn (by omega) (by rw [List.length_map]; omega)]
  show some (PyData.tuple (((R.map PyData.int).drop 0).take (((R.length - m : Nat) : Int).toNat - 0))) = _
  rw [List.drop_zero, Nat.sub_zero, Int.toNat_natCast, ← List.map_take]
  rfl
theorem p_File_back {m : Nat} (g : GBill own ts) (gr : GRow R) (h1 : 1 ≤ m) (hm : m ≤ R.length) (h : FR s (.pu (fileD i)) i (billD own ts) (rowD R)) :
    f_File_back [.pu (fileD i), .pu (.int (m : Nat))] s = .ok (.pu .none) (fsetS s i (billD own ts) (rowD (R.take (R.length - m)))) := by
  have q := bl_row R
  have gt : OpR dGt (.int (m : Nat)) (.int (R.length : Nat)) (.bool false) := by
    show some (PyData.bool (ltB _ _)) = _
    rw [ltB_f (by omega)]
  have lt : OpR dLt (.int (m : Nat)) (.int 1) (.bool false) := by
    show some (PyData.bool (ltB _ _)) = _
    rw [ltB_f (by omega)]
  have ct : CtR (rowD R) none (some ((R.length : Int) - (m : Int))) (rowD (R.take (R.length - m))) := cut_back hm
  have cl : (rowD (R.take (R.length - m))).canLay0 = true := (fit_row (R := R.take (R.length - m)) ⟨by rw [List.length_take]; have := gr.len; omega, fun n hn => gr.ns n (List.mem_of_mem_take hn)⟩).lay
  refine fn_runN (l := [some (.pu (fileD i)), some (.pu (.int (m : Nat)))]) rfl ?_
  show b_File_back ⟨[some (.pu (fileD i)), some (.pu (.int (m : Nat)))], s⟩ = _
  unfold b_File_back
  generalize billD own ts = BD at *
  generalize rowD R = RD at *
  generalize rowD (R.take (R.length - m)) = RX at *
  generalize fileD i = D at *
  decreasing_with fail
end
end DL
set_option Elab.async false
set_option linter.all false
set_option maxRecDepth 100000
set_option maxHeartbeats 4000000
set_option autoImplicit false
namespace DL
open PySem PySem.Spec L2
open PyProof.Rows hiding St
local macro_rules
  | `(tactic| decreasing_with $ts:tacticSeq) => `(tactic| repeat (first
    | with_reducible assumption
    | with_reducible exact e_nil
    | with_reducible exact e_c
    | with_reducible exact e_nopart
    | with_reducible exact e_nx
    | with_reducible exact set_z
    | with_reducible exact allP_z
    | with_reducible exact wipe_z
    | with_reducible exact e_gtNil
    | with_reducible exact ck_ok
    | with_reducible exact ck_ex
    | with_reducible exact rk_ok
    | with_reducible exact rk_ex
    | with_reducible exact dk_ok
    | with_reducible exact dk_ex
    | with_reducible exact tk_ex
    | with_reducible exact sk_rt
    | with_reducible exact sk_ex
    | with_reducible exact sk_ct
    | with_reducible exact sk_bk
    | with_reducible apply sk_nx
    | with_reducible apply tk_ok
    | with_reducible apply set_s
    | with_reducible apply allP_s
    | with_reducible apply wipe_s
    | with_reducible apply iteB_t
    | with_reducible apply iteB_f
    | ((with_reducible apply e_var); rfl; rfl)
    | ((with_reducible apply e_varO); rfl)
    | with_reducible apply e_cons
    | with_reducible apply e_bin
    | with_reducible apply e_call
    | with_reducible apply e_callB
    | with_reducible apply e_seq
    | with_reducible apply e_test
    | with_reducible apply e_notB
    | with_reducible apply e_notV
    | with_reducible apply e_isi
    | with_reducible apply e_if
    | with_reducible apply e_orB
    | with_reducible apply e_andB
    | with_reducible apply e_andV
    | with_reducible apply e_orV
    | with_reducible apply e_chainI
    | with_reducible apply e_chain
    | with_reducible apply e_part
    | with_reducible apply e_cut
    | with_reducible apply e_mset
    | with_reducible apply e_ret
    | with_reducible apply e_drop
    | with_reducible apply e_seqS
    | with_reducible apply e_raise
    | with_reducible apply e_new
    | with_reducible apply e_newL
    | ((with_reducible apply e_ixN); rfl)
    | with_reducible apply e_newD
    | with_reducible apply e_par2
    | with_reducible apply e_asg
    | with_reducible apply e_gtName
    | ((with_reducible apply e_gtTup); rfl)
    | with_reducible apply e_gtCons
    | ((with_reducible apply e_aug); rfl)
    | ((with_reducible apply e_app); rfl)
    | ((with_reducible apply own_at); rfl)
    | ((with_reducible apply set_r); rfl)
    | with_reducible apply e_for
    | with_reducible apply e_seqI
    | with_reducible apply e_rng1
    | with_reducible apply e_rng2
    | with_reducible apply e_enum
    | with_reducible apply e_zip
    | with_reducible apply e_star
    | with_reducible apply e_neg
    | with_reducible apply e_rev
    | with_reducible apply e_revL
    | with_reducible apply e_fbill
    | with_reducible apply e_frow
    | with_reducible apply e_fset
    | with_reducible apply e_meth
    | with_reducible apply e_prop
    | with_reducible apply e_lenF
    | with_reducible apply e_inF
    | with_reducible apply e_back0
    | with_reducible apply e_backK
    | with_reducible apply e_newF
    | with_reducible exact ok_r
    | with_reducible exact ex_r
    | ((with_reducible apply op_h); first | with_reducible assumption | ($ts) | exact rfl)
    | ((with_reducible apply bl_h); first | with_reducible assumption | ($ts) | exact rfl)
    | ((with_reducible apply ct_h); first | with_reducible assumption | ($ts) | exact rfl)
    | ((with_reducible apply sq_h); first | with_reducible assumption | ($ts) | exact rfl)
    | ((with_reducible apply ln_h); first | with_reducible assumption | ($ts) | exact ln_b rfl | omega)
    | ((with_reducible apply tg_h); first | with_reducible assumption | ($ts))
    | with_reducible apply tg_h
    | ((with_reducible apply is_h); with_reducible assumption)
    | exact is_t rfl
    | exact is_f rfl
    | ((with_reducible apply is_h); first | ($ts) | exact rfl)
    | ((with_reducible apply be_h); first
      | with_reducible exact not_t
      | with_reducible exact not_f
      | with_reducible assumption)
    | exact be_t rfl
    | exact be_f rfl
    | ((with_reducible apply be_h); first
      | with_reducible exact not_t
      | with_reducible exact not_f
      | with_reducible assumption
      | with_reducible exact (rfl : true = true)
      | with_reducible exact (rfl : false = false)
      | ($ts)
      | with_reducible exact decide_eq_true (by first | with_reducible assumption | with_reducible rfl | omega)
      | with_reducible exact decide_eq_false (by first | with_reducible assumption | omega)
      | with_reducible exact leB_t (by omega)
      | with_reducible exact leB_f (by omega)
      | exact rfl)
    | ($ts)
    | exact rk_ok
    | exact ok_r))
section
variable {own : Int} {ts : List Term} {R : List Int} {s : MS} {i n : Nat} {F : List (PyData × PyData)}
theorem Ok.fset {j : Nat} {b r : PyData} (h : Ok F n s) : Ok (F.set j (b, r)) n (fsetS s j b r) := ⟨h.cells, h.pos, h.room, by show s.files.set j (b, r) = _; rw [h.files]⟩
theorem Ok.fnew {b : PyData} (h : Ok F n s) : Ok (F ++ [(b, .tuple [])]) n (fnewS s b) := ⟨h.cells, h.pos, h.room, by show s.files ++ _ = _; rw [h.files]⟩
theorem Ok.fr {b r : PyData} (h : Ok F n s) (e : F[i]? = some (b, r)) : FR s (.pu (fileD i)) i b r := FR.of (by rw [h.files]; exact e)
theorem ne_strT (w : Str) : dNe (.str w) (.str w) = some (.bool false) := by
  show some (PyData.bool (!decide (w = w))) = _
  rw [decide_eq_true rfl]
  rfl
theorem fit_worthV (g : GBill own ts) (gr : GRow R) : Fit 0 0 (worthV own ts R) := by
  unfold worthV
  split
  · exact fit_int (worth_abs g gr)
  · exact fit_non
end
theorem g_one : GBill 1 [] := ⟨by decide, by decide, fun t h => by cases h⟩
theorem gRow {R : List Int} (h : R.length ≤ 200 ∧ R.all (fun n => decide (0 ≤ n) && decide (n ≤ 1000000)) = true) : GRow R := ⟨h.1, fun n hn => by
  have := List.all_eq_true.mp h.2 n hn
  rw [Bool.and_eq_true] at this
  exact ⟨of_decide_eq_true this.1, of_decide_eq_true this.2⟩⟩
end DL
set_option Elab.async false
set_option linter.all false
set_option maxRecDepth 100000
set_option maxHeartbeats 4000000
set_option autoImplicit false
namespace DL
open PySem PySem.Spec L2
open PyProof.Rows hiding St
def bx17__law_refused : Sg → Rs Sg Fl := mSeqS (mSet 3 (mCallB bRepr (mCons (mSeq .list (mCons (mProp f_File_row (mVar 0)) (mCons (mMeth f_File___call__ (mVar 0) mNil) (mNil)))) (mNil)))) (mRet (mAndV (mBin dEq (mCallB bRepr (mCons (mSeq .list (mCons (mCallF f__law_outcome (mCons (mVar 1) (mNil))) (mCons (mCallF f__law_outcome (mCons (mVar 1) (mNil))) (mNil)))) (mNil))) (mCallB bRepr (mCons (mSeq .list (mCons (mVar 2) (mCons (mVar 2) (mNil)))) (mNil)))) (mBin dEq (mCallB bRepr (mCons (mSeq .list (mCons (mProp f_File_row (mVar 0)) (mCons (mMeth f_File___call__ (mVar 0) mNil) (mNil)))) (mNil))) (mVar 3))))
def fx17__law_refused : List DV → MS → Rs MS DV := fnB 3 4 bx17__law_refused
def b__law_right : Sg → Rs Sg Fl := mSeqS (mSet 1 (mNewF f_need_bill (mVar 0))) (mSeqS (mFor (mSeqI (mSeq .tuple (mCons (mC (.int 3)) (mCons (mC (.int 0)) (mCons (mBin dPow (mC (.int 10)) (mC (.int 6))) (mCons (mC (.int 3)) (mNil))))))) (gtName 2) (mDrop (mMeth f_File_add (mVar 1) (mCons (mVar 2) (mNil))))) (mSeqS (mFor (mSeqI (mSeq .tuple (mCons (mC .none) (mCons (mC (.bool true)) (mCons (mNeg (mC (.int 1))) (mCons (mBin dAdd (mBin dPow (mC (.int 10)) (mC (.int 6))) (mC (.int 1))) (mCons (mC (.str "3")) (mCons (mSeq .tuple (mCons (mC (.int 3)) (mNil))) (mCons (mSeq .list (mCons (mC (.int 3)) (mNil))) (mCons (mC (.dict [])) (mNil))))))))))) (gtName 3) (mIf (mNotB (mTest (mCallL1 fx17__law_refused (mVar 1) [3, 1] none (mMeth f_File_add (mVar 1) (mCons (mVar 0) (mNil))) (mCons (mSeq .tuple (mCons (mC (.str "number")) (mCons (mVar 3) (mNil)))) (mNil))))) (mRet (mC (.bool false))) ((fun g => .ok .nx g)))) (mSeqS (mFor (mSeqI (mSeq .tuple (mCons (mC .none) (mCons (mC (.bool true)) (mCons (mNeg (mC (.int 1))) (mCons (mCallB bLen (mCons (mBin dIx (mVar 0) (mC (.int 1))) (mNil))) (mCons (mC (.str "0")) (mCons (mSeq .tuple (mCons (mC (.int 0)) (mNil))) (mCons (mSeq .list (mCons (mC (.int 0)) (mNil))) (mNil)))))))))) (gtName 3) (mIf (mNotB (mTest (mCallL1 fx17__law_refused (mVar 1) [3, 1] none (mMeth f_File_index (mVar 1) (mCons (mVar 0) (mNil))) (mCons (mSeq .tuple (mCons (mC (.str "number")) (mCons (mVar 3) (mNil)))) (mNil))))) (mRet (mC (.bool false))) ((fun g => .ok .nx g)))) (mSeqS (mFor (mSeqI (mSeq .tuple (mCons (mC .none) (mCons (mC (.bool true)) (mCons (mC (.int 0)) (mCons (mNeg (mC (.int 1))) (mCons (mC (.str "1")) (mCons (mSeq .tuple (mCons (mC (.int 1)) (mNil))) (mCons (mSeq .list (mNil)) (mNil)))))))))) (gtName 3) (mIf (mNotB (mTest (mCallL1 fx17__law_refused (mVar 1) [1, 3] none (mBackK f_File_back (mVar 0) (mVar 1)) (mCons (mSeq .tuple (mCons (mC (.str "number")) (mCons (mVar 3) (mNil)))) (mNil))))) (mRet (mC (.bool false))) ((fun g => .ok .nx g)))) (mSeqS (mFor (mSeqI (mSeq .tuple (mCons (mC (.int 5)) (mCons (mC (.int 6)) (mCons (mBin dPow (mC (.int 10)) (mC (.int 40))) (mNil)))))) (gtName 3) (mIf (mNotB (mTest (mCallL1 fx17__law_refused (mVar 1) [1, 3] none (mBackK f_File_back (mVar 0) (mVar 1)) (mCons (mSeq .tuple (mCons (mC (.str "nothing")) (mCons (mVar 3) (mNil)))) (mNil))))) (mRet (mC (.bool false))) ((fun g => .ok .nx g)))) (mSeqS (mIf (mTest (mBin dNe (mCallL f__law_outcome [1] none (mBackK f_File_back (mVar 0) (mC (.int 4))) (mNil)) (mSeq .list (mCons (mC .none) (mNil))))) (mRet (mC (.bool false))) ((fun g => .ok .nx g))) (mRet (mCallL1 fx17__law_refused (mVar 1) [1] none (mBack0 f_File_back (mVar 0)) (mCons (mSeq .tuple (mCons (mC (.str "nothing")) (mCons (mC (.int 1)) (mNil)))) (mNil))))))))))
def f__law_right : List DV → MS → Rs MS DV := fnB 1 4 b__law_right
def b__law_full_right : Sg → Rs Sg Fl := mSeqS (mSet 0 (mNewF f_need_bill (mSeq .tuple (mCons (mC (.int 1)) (mCons (mSeq .tuple (mNil)) (mNil)))))) (mSeqS (mSet 1 (mLc [2] (mRange1 (mCons (mC (.int 200)) (mNil))) (gtName 2) (mYes) (mMeth f_File_add (mVar 0) (mCons (mVar 2) (mNil))))) (mSeqS (mIf (mOrB (mTest (mBin dNe (mVar 1) (mBin dAdd (mSeq .list (mCons (mC .none) (mNil))) (mC (.list ((rgL 1 200).map .int)))))) (mNotB (mTest (mCallL1 fx17__law_refused (mVar 0) [0] none (mMeth f_File_add (mVar 0) (mCons (mC (.int 0)) (mNil))) (mCons (mSeq .tuple (mCons (mC (.str "nothing")) (mCons (mC (.int 200)) (mNil)))) (mNil)))))) (mRet (mC (.bool false))) ((fun g => .ok .nx g))) (mSeqS (mIf (mNotB (mTest (mCallL1 fx17__law_refused (mVar 0) [0] none (mMeth f_File_add (mVar 0) (mCons (mNeg (mC (.int 1))) (mNil))) (mCons (mSeq .tuple (mCons (mC (.str "number")) (mCons (mNeg (mC (.int 1))) (mNil)))) (mNil))))) (mRet (mC (.bool false))) ((fun g => .ok .nx g))) (mSeqS (mDrop (mBack0 f_File_back (mVar 0))) (mRet (mAndV (mBin dEq (mMeth f_File_add (mVar 0) (mCons (mC (.int 7)) (mNil))) (mC (.int 7))) (mBin dEq (mLenF f_File___len__ (mVar 0)) (mC (.int 200)))))))))
def f__law_full_right : List DV → MS → Rs MS DV := fnB 0 3 b__law_full_right
def b_law : Sg → Rs Sg Fl := mSeqS (mFor (mSeqI (mSeq .list (mCons (mSeq .tuple (mCons (mC .none) (mCons (mC (.str "form")) (mNil)))) (mCons (mSeq .tuple (mCons (mSeq .tuple (mNil)) (mCons (mC (.str "form")) (mNil)))) (mCons (mSeq .tuple (mCons (mSeq .tuple (mCons (mC (.int 51)) (mCons (mC .none) (mNil)))) (mCons (mC (.str "own")) (mNil)))) (mCons (mSeq .tuple (mCons (mBin dMul (mSeq .tuple (mCons (mC (.int 0)) (mCons (mSeq .tuple (mNil)) (mNil)))) (mC (.int 2))) (mCons (mC (.str "form")) (mNil)))) (mCons (mSeq .tuple (mCons (mSeq .tuple (mCons (mC (.int 0)) (mCons (mSeq .list (mCons (mSeq .tuple (mNil)) (mNil))) (mNil)))) (mCons (mC (.str "terms")) (mNil)))) (mNil)))))))) (gtTup 2 (gtCons (gtName 3) (gtCons (gtName 4) (gtNil)))) (mIf (mTest (mBin dNe (mCallB bRepr (mCons (mBin dMul (mSeq .list (mCons (mCallL f__law_outcome [3] none (mNewF f_need_bill (mVar 0)) (mNil)) (mNil))) (mC (.int 2))) (mNil))) (mCallB bRepr (mCons (mBin dMul (mSeq .list (mCons (mSeq .tuple (mCons (mC (.str "bill")) (mCons (mVar 4) (mNil)))) (mNil))) (mC (.int 2))) (mNil))))) (mRet (mC (.bool false))) ((fun g => .ok .nx g)))) (mSeqS (mFor (mRange1 (mCons (mBin dAdd (mC (.int 2)) (mCallB bMin (mCons (mCallB bLen (mCons (mVar 0) (mNil))) (mCons (mC (.int 5)) (mNil))))) (mNil))) (gtName 2) (mIf (mNotB (mTest (mCallF f__law_right (mCons (mCallF f__law_drawn_bill (mCons (mVar 1) (mCons (mC (.int 4)) (mNil)))) (mNil))))) (mRet (mC (.bool false))) ((fun g => .ok .nx g)))) (mRet (mCallF f__law_full_right mNil)))
def law_slots : Nat := 5
def law_m : Nat := 1
end DL
set_option Elab.async false
set_option linter.all false
set_option maxRecDepth 100000
set_option maxHeartbeats 4000000
set_option autoImplicit false
namespace DL
open PySem PySem.Spec L2
open PyProof.Rows hiding St
local macro_rules
  | `(tactic| decreasing_with $ts:tacticSeq) => `(tactic| repeat (first
    | with_reducible assumption
    | with_reducible exact e_nil
    | with_reducible exact e_c
    | with_reducible exact e_nopart
    | with_reducible exact e_nx
    | with_reducible exact set_z
    | with_reducible exact allP_z
    | with_reducible exact wipe_z
    | with_reducible exact e_gtNil
    | with_reducible exact ck_ok
    | with_reducible exact ck_ex
    | with_reducible exact rk_ok
    | with_reducible exact rk_ex
    | with_reducible exact dk_ok
    | with_reducible exact dk_ex
    | with_reducible exact tk_ex
    | with_reducible exact sk_rt
    | with_reducible exact sk_ex
    | with_reducible exact sk_ct
    | with_reducible exact sk_bk
    | with_reducible apply sk_nx
    | with_reducible apply tk_ok
    | with_reducible apply set_s
    | with_reducible apply allP_s
    | with_reducible apply wipe_s
    | with_reducible apply iteB_t
    | with_reducible apply iteB_f
    | ((with_reducible apply e_var); rfl; rfl)
    | ((with_reducible apply e_varO); rfl)
    | with_reducible apply e_cons
    | with_reducible apply e_bin
    | with_reducible apply e_call
    | with_reducible apply e_callB
    | with_reducible apply e_seq
    | with_reducible apply e_test
    | with_reducible apply e_notB
    | with_reducible apply e_notV
    | with_reducible apply e_isi
    | with_reducible apply e_if
    | with_reducible apply e_orB
    | with_reducible apply e_andB
    | with_reducible apply e_andV
    | with_reducible apply e_orV
    | with_reducible apply e_chainI
    | with_reducible apply e_chain
    | with_reducible apply e_part
    | with_reducible apply e_cut
    | with_reducible apply e_mset
    | with_reducible apply e_ret
    | with_reducible apply e_drop
    | with_reducible apply e_seqS
    | with_reducible apply e_raise
    | with_reducible apply e_new
    | with_reducible apply e_newL
    | ((with_reducible apply e_ixN); rfl)
    | with_reducible apply e_newD
    | with_reducible apply e_par2
    | with_reducible apply e_asg
    | with_reducible apply e_gtName
    | ((with_reducible apply e_gtTup); rfl)
    | with_reducible apply e_gtCons
    | ((with_reducible apply e_aug); rfl)
    | ((with_reducible apply e_app); rfl)
    | ((with_reducible apply own_at); rfl)
    | ((with_reducible apply set_r); rfl)
    | with_reducible apply e_for
    | with_reducible apply e_seqI
    | with_reducible apply e_rng1
    | with_reducible apply e_rng2
    | with_reducible apply e_enum
    | with_reducible apply e_zip
    | with_reducible apply e_star
    | with_reducible apply e_neg
    | with_reducible apply e_rev
    | with_reducible apply e_revL
    | with_reducible apply e_fbill
    | with_reducible apply e_frow
    | with_reducible apply e_fset
    | with_reducible apply e_meth
    | with_reducible apply e_prop
    | with_reducible apply e_lenF
    | with_reducible apply e_inF
    | with_reducible apply e_back0
    | with_reducible apply e_backK
    | with_reducible apply e_newF
    | with_reducible exact ok_r
    | with_reducible exact ex_r
    | ((with_reducible apply op_h); first | with_reducible assumption | ($ts) | exact rfl)
    | ((with_reducible apply bl_h); first | with_reducible assumption | ($ts) | exact rfl)
    | ((with_reducible apply ct_h); first | with_reducible assumption | ($ts) | exact rfl)
    | ((with_reducible apply sq_h); first | with_reducible assumption | ($ts) | exact rfl)
    | ((with_reducible apply ln_h); first | with_reducible assumption | ($ts) | exact ln_b rfl | omega)
    | ((with_reducible apply tg_h); first | with_reducible assumption | ($ts))
    | with_reducible apply tg_h
    | ((with_reducible apply is_h); with_reducible assumption)
    | exact is_t rfl
    | exact is_f rfl
    | ((with_reducible apply is_h); first | ($ts) | exact rfl)
    | ((with_reducible apply be_h); first
      | with_reducible exact not_t
      | with_reducible exact not_f
      | with_reducible assumption)
    | exact be_t rfl
    | exact be_f rfl
    | ((with_reducible apply be_h); first
      | with_reducible exact not_t
      | with_reducible exact not_f
      | with_reducible assumption
      | with_reducible exact (rfl : true = true)
      | with_reducible exact (rfl : false = false)
      | ($ts)
      | with_reducible exact decide_eq_true (by first | with_reducible assumption | with_reducible rfl | omega)
      | with_reducible exact decide_eq_false (by first | with_reducible assumption | omega)
      | with_reducible exact leB_t (by omega)
      | with_reducible exact leB_f (by omega)
      | exact rfl)
    | ($ts)
    | exact rk_ok
    | exact ok_r))
theorem e_forC {t : PyData → Sg → Option Sg} {body : Sg → Rs Sg Fl} {s : MS} (I : List (Option DV) → Prop) : ∀ (ds : List PyData) (l : List (Option DV)), I l →
    (∀ d ∈ ds, ∀ l, I l → ∃ l1 l2, t d ⟨l, s⟩ = some ⟨l1, s⟩ ∧ body ⟨l1, s⟩ = .ok .nx ⟨l2, s⟩ ∧ I l2) → ∃ l2, mForL t body ds ⟨l, s⟩ = .ok .nx ⟨l2, s⟩ ∧ I l2
  | [], l, h, _ => ⟨l, rfl, h⟩
  | d :: ds, l, h, st => by
    obtain ⟨l1, l2, e1, e2, h2⟩ := st d List.mem_cons_self l h
    obtain ⟨l3, e3, h3⟩ := e_forC I ds l2 h2 fun d hd => st d (List.mem_cons_of_mem _ hd)
    exact ⟨l3, for_cons e1 e2 e3, h3⟩
section
variable {own : Int} {ts : List Term} {R : List Int} {s : MS} {i : Nat} {D b r odd : PyData}
theorem add_bad (nd : isDct odd = false) (h : isW 0 1000000 odd = false) : f_File_add [.pu D, .pu odd] s = .ex 3 odd s := by
  have iw := p_is_whole odd 0 1000000 s nd
  rw [h] at iw
  refine fn_runX (l := [some (.pu D), some (.pu odd), none]) rfl ?_
  show b_File_add ⟨[some (.pu D), some (.pu odd), none], s⟩ = _
  unfold b_File_add
  decreasing_with fail
theorem add_full {x : Int} (hx : 0 ≤ x ∧ x ≤ 1000000) (hl : R.length = 200) (h : FR s (.pu D) i b (rowD R)) : f_File_add [.pu D, .pu (.int x)] s = .ex 7 (.int 200) s := by
  have q := bl_row R
  have iw := whole_t x hx s
  have eq : OpR dEq (.int (R.length : Nat)) (.int 200) (.bool true) := by
    show some (PyData.bool (decide _)) = _
    rw [hl]
    rfl
  refine fn_runX (l := [some (.pu D), some (.pu (.int x)), none]) rfl ?_
  show b_File_add ⟨[some (.pu D), some (.pu (.int x)), none], s⟩ = _
  unfold b_File_add
  generalize rowD R = RD at *
  decreasing_with fail
theorem index_bad (nd : isDct odd = false) (ho : isW 0 ((ts.length : Int) - 1) odd = false) (h : FR s (.pu D) i (billD own ts) r) : f_File_index [.pu D, .pu odd] s = .ex 3 odd s := by
  have qt := bl_terms ts
  have i1 : OpR dIx (billD own ts) (.int 1) (.tuple (ts.map termD)) := rfl
  have iw := p_is_whole odd 0 ((ts.length : Int) - 1) s nd
  rw [ho] at iw
  refine fn_runX (l := [some (.pu D), some (.pu odd), none]) rfl ?_
  show b_File_index ⟨[some (.pu D), some (.pu odd), none], s⟩ = _
  unfold b_File_index
  generalize billD own ts = BD at *
  decreasing_with fail
/-- what is no whole number from 1 on -/
def noMany : PyData → Bool
  | .int n => ltB n 1
  | _ => true
theorem back_bad (nd : isDct odd = false) (ho : noMany odd = true) : f_File_back [.pu D, .pu odd] s = .ex 3 odd s := by
  refine fn_runX (l := [some (.pu D), some (.pu odd)]) rfl ?_
  show b_File_back ⟨[some (.pu D), some (.pu odd)], s⟩ = _
  unfold b_File_back
  cases odd with
  | int n =>
    have h1 : OpR dLt (.int n) (.int 1) (.bool true) := by
      show some (PyData.bool (ltB n 1)) = _
      rw [show ltB n 1 = true from ho]
    decreasing_with fail
  | bool v =>
    have t1 : IsR "int" (.bool v) true := rfl
    have t2 : IsR "bool" (.bool v) true := rfl
    decreasing_with fail
  | none =>
    have t1 : IsR "int" .none false := rfl
    decreasing_with fail
  | str x =>
    have t1 : IsR "int" (.str x) false := rfl
    decreasing_with fail
  | list x =>
    have t1 : IsR "int" (.list x) false := rfl
    decreasing_with fail
  | tuple x =>
    have t1 : IsR "int" (.tuple x) false := rfl
    decreasing_with fail
  | dict x =>
    have t1 : IsR "int" (.dict x) false := rfl
    decreasing_with fail
theorem back_none {m : Int} (hm : (R.length : Int) < m) (h : FR s (.pu D) i b (rowD R)) : f_File_back [.pu D, .pu (.int m)] s = .ex 7 (.int m) s := by
  have q := bl_row R
  have h1 : OpR dLt (.int m) (.int 1) (.bool false) := by
    show some (PyData.bool (ltB m 1)) = _
    rw [ltB_f (by omega)]
  have h2 : OpR dGt (.int m) (.int (R.length : Nat)) (.bool true) := by
    show some (PyData.bool (ltB _ m)) = _
    rw [ltB_t (by omega)]
  refine fn_runX (l := [some (.pu D), some (.pu (.int m))]) rfl ?_
  show b_File_back ⟨[some (.pu D), some (.pu (.int m))], s⟩ = _
  unfold b_File_back
  generalize rowD R = RD at *
  decreasing_with fail
theorem need_bill_ex {d x : PyData} (sh : d.showable = true) (h : faultD d = [x]) (hn : dNe (.list [x]) (.list []) = some (.bool true)) (s : MS) : f_need_bill [.pu d] s = .ex 2 x s := by
  have p := p_fault_of d s sh
  rw [h] at p
  have i0 : OpR dIx (.list [x]) (.int 0) x := rfl
  have hn : OpR dNe (.list [x]) (.list []) (.bool true) := hn
  refine fn_runX (l := [some (.pu d), some (.pu (.list [x]))]) rfl ?_
  show b_need_bill ⟨[some (.pu d), none], s⟩ = _
  unfold b_need_bill
  decreasing_with fail
theorem out_exW {G : MS → Rs MS PyData} {c : Nat} {p : PyData} (h : G s = .ex c p s) (hc : c < 8 := by decide) : f__law_outcome [.clo G] s = .ok (.pu (wordD c p)) s := by
  rw [p__law_outcome (fun c' p' s' e => by rw [h] at e; cases e; exact hc), h]
  rfl
theorem eq_strT (w : Str) : dEq (.str w) (.str w) = some (.bool true) := by
  show some (PyData.bool (decide (w = w))) = _
  rw [decide_eq_true rfl]
theorem refused17 {G : MS → Rs MS PyData} {c : Nat} {p : PyData} (g : GBill own ts) (gr : GRow R) (h : FR s (.pu D) i (billD own ts) (rowD R)) (hG : G s = .ex c p s) (ho : okShow (.list [wordD c p, wordD c p]) = true) (hc : c < 8 := by decide) :
    fx17__law_refused [.pu D, .clo G, .pu (wordD c p)] s = .ok (.pu (.bool true)) s := by
  have o := out_exW hG hc
  have m1 := p_File_row h
  have m2 := p_File_call g gr.len h
  have fs : Fit 400 3 (.list [rowD R, worthV own ts R]) := ((fitL_cons (fit_row gr) (fitL_cons ((fit_worthV g gr).mono (Nat.le_refl _) (by decide : 0 ≤ 1)) fitL_nil)).lst).mono (by decide) (by decide)
  have b1 : BlR bRepr [.pu (.list [rowD R, worthV own ts R])] (.str (PyData.list [rowD R, worthV own ts R]).shown) := bRepr_ok fs.ok
  have b2 : BlR bRepr [.pu (.list [wordD c p, wordD c p])] (.str (PyData.list [wordD c p, wordD c p]).shown) := bRepr_ok ho
  have e1 : OpR dEq (.str (PyData.list [rowD R, worthV own ts R]).shown) (.str (PyData.list [rowD R, worthV own ts R]).shown) (.bool true) := eq_strT _
  have e2 : OpR dEq (.str (PyData.list [wordD c p, wordD c p]).shown) (.str (PyData.list [wordD c p, wordD c p]).shown) (.bool true) := eq_strT _
  refine fn_run (l := [some (.pu D), some (.clo G), some (.pu (wordD c p)), some (.pu (.str (PyData.list [rowD R, worthV own ts R]).shown))]) rfl ?_
  show bx17__law_refused ⟨[some (.pu D), some (.clo G), some (.pu (wordD c p)), none], s⟩ = _
  unfold bx17__law_refused
  generalize (PyData.list [rowD R, worthV own ts R]).shown = W1 at *
  generalize (PyData.list [wordD c p, wordD c p]).shown = W2 at *
  generalize wordD c p = WD at *
  generalize worthV own ts R = WV at *
  generalize billD own ts = BD at *
  generalize rowD R = RD at *
  decreasing_with fail
theorem callL1_ok {fo fb : Sg → Rs Sg DV} {fd : Sg → Rs Sg (List DV)} {js : List Nat} {l : List (Option DV)} {ws : List PyData} {c : Nat} {p : PyData} (g : GBill own ts) (gr : GRow R) (h : FR s (.pu D) i (billD own ts) (rowD R))
    (hf : fo ⟨l, s⟩ = .ok (.pu D) ⟨l, s⟩) (hd : fd ⟨l, s⟩ = .ok [.pu (wordD c p)] ⟨l, s⟩) (hcap : caps l js = some ws) (hG : lowR (fb ⟨ws.map fun d => some (.pu d), s⟩) = .ex c p s) (ho : okShow (.list [wordD c p, wordD c p]) = true) (hc : c < 8 := by decide) :
    mCallL1 fx17__law_refused fo js none fb fd ⟨l, s⟩ = .ok (.pu (.bool true)) ⟨l, s⟩ := by
  have q := refused17 (G := cloG fb [] ws) g gr h hG ho hc
  unfold mCallL1
  simp only [hf, Rs.bind_ok, hd, hcap, dfD, q]
end
end DL
set_option Elab.async false
set_option linter.all false
set_option maxRecDepth 100000
set_option maxHeartbeats 4000000
set_option autoImplicit false
namespace DL
open PySem PySem.Spec L2
open PyProof.Rows hiding St
local macro_rules
  | `(tactic| decreasing_with $ts:tacticSeq) => `(tactic| repeat (first
    | with_reducible assumption
    | with_reducible exact e_nil
    | with_reducible exact e_c
    | with_reducible exact e_nopart
    | with_reducible exact e_nx
    | with_reducible exact set_z
    | with_reducible exact allP_z
    | with_reducible exact wipe_z
    | with_reducible exact e_gtNil
    | with_reducible exact ck_ok
    | with_reducible exact ck_ex
    | with_reducible exact rk_ok
    | with_reducible exact rk_ex
    | with_reducible exact dk_ok
    | with_reducible exact dk_ex
    | with_reducible exact tk_ex
    | with_reducible exact sk_rt
    | with_reducible exact sk_ex
    | with_reducible exact sk_ct
    | with_reducible exact sk_bk
    | with_reducible apply sk_nx
    | with_reducible apply tk_ok
    | with_reducible apply set_s
    | with_reducible apply allP_s
    | with_reducible apply wipe_s
    | with_reducible apply iteB_t
    | with_reducible apply iteB_f
    | ((with_reducible apply e_var); rfl; rfl)
    | ((with_reducible apply e_varO); rfl)
    | with_reducible apply e_cons
    | with_reducible apply e_bin
    | with_reducible apply e_call
    | with_reducible apply e_callB
    | with_reducible apply e_seq
    | with_reducible apply e_test
    | with_reducible apply e_notB
    | with_reducible apply e_notV
    | with_reducible apply e_isi
    | with_reducible apply e_if
    | with_reducible apply e_orB
    | with_reducible apply e_andB
    | with_reducible apply e_andV
    | with_reducible apply e_orV
    | with_reducible apply e_chainI
    | with_reducible apply e_chain
    | with_reducible apply e_part
    | with_reducible apply e_cut
    | with_reducible apply e_mset
    | with_reducible apply e_ret
    | with_reducible apply e_drop
    | with_reducible apply e_seqS
    | with_reducible apply e_raise
    | with_reducible apply e_new
    | with_reducible apply e_newL
    | ((with_reducible apply e_ixN); rfl)
    | with_reducible apply e_newD
    | with_reducible apply e_par2
    | with_reducible apply e_asg
    | with_reducible apply e_gtName
    | ((with_reducible apply e_gtTup); rfl)
    | with_reducible apply e_gtCons
    | ((with_reducible apply e_aug); rfl)
    | ((with_reducible apply e_app); rfl)
    | ((with_reducible apply own_at); rfl)
    | ((with_reducible apply set_r); rfl)
    | with_reducible apply e_for
    | with_reducible apply e_seqI
    | with_reducible apply e_rng1
    | with_reducible apply e_rng2
    | with_reducible apply e_enum
    | with_reducible apply e_zip
    | with_reducible apply e_star
    | with_reducible apply e_neg
    | with_reducible apply e_rev
    | with_reducible apply e_revL
    | with_reducible apply e_fbill
    | with_reducible apply e_frow
    | with_reducible apply e_fset
    | with_reducible apply e_meth
    | with_reducible apply e_prop
    | with_reducible apply e_lenF
    | with_reducible apply e_inF
    | with_reducible apply e_back0
    | with_reducible apply e_backK
    | with_reducible apply e_newF
    | with_reducible exact ok_r
    | with_reducible exact ex_r
    | ((with_reducible apply op_h); first | with_reducible assumption | ($ts) | exact rfl)
    | ((with_reducible apply bl_h); first | with_reducible assumption | ($ts) | exact rfl)
    | ((with_reducible apply ct_h); first | with_reducible assumption | ($ts) | exact rfl)
    | ((with_reducible apply sq_h); first | with_reducible assumption | ($ts) | exact rfl)
    | ((with_reducible apply ln_h); first | with_reducible assumption | ($ts) | exact ln_b rfl | omega)
    | ((with_reducible apply tg_h); first | with_reducible assumption | ($ts))
    | with_reducible apply tg_h
    | ((with_reducible apply is_h); with_reducible assumption)
    | exact is_t rfl
    | exact is_f rfl
    | ((with_reducible apply is_h); first | ($ts) | exact rfl)
    | ((with_reducible apply be_h); first
      | with_reducible exact not_t
      | with_reducible exact not_f
      | with_reducible assumption)
    | exact be_t rfl
    | exact be_f rfl
    | ((with_reducible apply be_h); first
      | with_reducible exact not_t
      | with_reducible exact not_f
      | with_reducible assumption
      | with_reducible exact (rfl : true = true)
      | with_reducible exact (rfl : false = false)
      | ($ts)
      | with_reducible exact decide_eq_true (by first | with_reducible assumption | with_reducible rfl | omega)
      | with_reducible exact decide_eq_false (by first | with_reducible assumption | omega)
      | with_reducible exact leB_t (by omega)
      | with_reducible exact leB_f (by omega)
      | exact rfl)
    | ($ts)
    | exact rk_ok
    | exact ok_r))
section
variable {own : Int} {ts : List Term} {R : List Int} {s : MS} {i : Nat} {D b r odd : PyData}
/-- the draws go on as they did -/
def Goes (s s2 : MS) : Prop := ∀ F n, Ok F n s → ∃ F2, Ok F2 n s2
theorem Goes.rfl' : Goes s s := fun F _ h => ⟨F, h⟩
theorem Goes.tr {s1 s2 : MS} (a : Goes s s1) (b : Goes s1 s2) : Goes s s2 := fun F n h => by
  obtain ⟨F1, h1⟩ := a F n h
  exact b F1 n h1
theorem goes_set {b r : PyData} : Goes s (fsetS s i b r) := fun _ _ h => ⟨_, h.fset⟩
theorem goes_new {b : PyData} : Goes s (fnewS s b) := fun _ _ h => ⟨_, h.fnew⟩
theorem add_y {x : Int} (g : GBill own ts) (gr : GRow R) (hx : 0 ≤ x ∧ x ≤ 1000000) (hl : R.length < 200) (h : FR s (.pu (fileD i)) i (billD own ts) (rowD R)) :
    ∃ s2, f_File_add [.pu (fileD i), .pu (.int x)] s = .ok (.pu (payV own ts (R ++ [x]))) s2 ∧ FR s2 (.pu (fileD i)) i (billD own ts) (rowD (R ++ [x])) ∧ Goes s s2 :=
  ⟨_, p_File_add g gr hx hl h, FR.set h.m _ _, goes_set⟩
theorem back_y {m : Nat} (g : GBill own ts) (gr : GRow R) (h1 : 1 ≤ m) (hm : m ≤ R.length) (h : FR s (.pu (fileD i)) i (billD own ts) (rowD R)) :
    ∃ s2, f_File_back [.pu (fileD i), .pu (.int (m : Nat))] s = .ok (.pu .none) s2 ∧ FR s2 (.pu (fileD i)) i (billD own ts) (rowD (R.take (R.length - m))) ∧ Goes s s2 := ⟨_, p_File_back g gr h1 hm h, FR.set h.m _ _, goes_set⟩
theorem new_y (g : GBill own ts) (s : MS) : ∃ i s2, (∀ (fe : Sg → Rs Sg DV) (l0 l : List (Option DV)) (s0 : MS), fe ⟨l0, s0⟩ = .ok (.pu (billD own ts)) ⟨l, s⟩ → mNewF f_need_bill fe ⟨l0, s0⟩ = .ok (.pu (fileD i)) ⟨l, s2⟩) ∧ FR s2 (.pu (fileD i)) i (billD own ts) (rowD []) ∧ Goes s s2 :=
  ⟨s.files.length, fnewS s (billD own ts), fun fe l0 l s0 e => e_newF e (p_need_bill g s) (fit_bill g).lay, FR.new _, goes_new⟩
theorem lowEx {fb : Sg → Rs Sg DV} {g : Sg} {l : List (Option DV)} {c : Nat} {p : PyData} (h : fb g = .ex c p ⟨l, s⟩) : lowR (fb g) = .ex c p s := by
  rw [h]
  rfl
theorem lowOk {fb : Sg → Rs Sg DV} {g : Sg} {l : List (Option DV)} {p : PyData} (h : fb g = .ok (.pu p) ⟨l, s⟩) : lowR (fb g) = .ok p s := by
  rw [h]
  rfl
theorem show17 {c : Nat} {p : PyData} (h : FitD 10 2 p) : okShow (.list [wordD c p, wordD c p]) = true := ((fitdl_cons (fitd_word (c := c) h) (fitdl_cons (fitd_word (c := c) h) (fitdl_nil (n := 0)))).lst).ok
def odds1 : List PyData := [.none, .bool true, .int (-1), .int 1000001, .str "3", .tuple [.int 3], .list [.int 3], .dict []]
def odds2 (n : Nat) : List PyData := [.none, .bool true, .int (-1), .int (n : Nat), .str "0", .tuple [.int 0], .list [.int 0]]
def odds3 : List PyData := [.none, .bool true, .int 0, .int (-1), .str "1", .tuple [.int 1], .list []]
theorem fitd_l1 {i : Int} (h : i.natAbs < 10 ^ 49) : FitD 10 2 (.list [.int i]) := ((fitdl_cons (fitd_int (n := 0) (k := 1) h) (fitdl_nil (n := 0))).mono (by decide) (Nat.le_refl _)).lst
theorem fitd_t1 {i : Int} (h : i.natAbs < 10 ^ 49) : FitD 10 2 (.tuple [.int i]) := ((fitdl_cons (fitd_int (n := 0) (k := 1) h) (fitdl_nil (n := 0))).mono (by decide) (Nat.le_refl _)).tup
theorem odds1_ok : ∀ d ∈ odds1, isDct d = false ∧ isW 0 1000000 d = false ∧ FitD 10 2 d := fun d hd => by
  simp only [odds1, List.mem_cons, List.not_mem_nil, or_false] at hd
  rcases hd with rfl | rfl | rfl | rfl | rfl | rfl | rfl | rfl
  · exact ⟨rfl, rfl, fitd_non⟩
  · exact ⟨rfl, rfl, fitd_bool⟩
  · exact ⟨rfl, rfl, fitd_int (by decide)⟩
  · exact ⟨rfl, rfl, fitd_int (by decide)⟩
  · exact ⟨rfl, rfl, fitd_str⟩
  · exact ⟨rfl, rfl, fitd_t1 (by decide)⟩
  · exact ⟨rfl, rfl, fitd_l1 (by decide)⟩
  · exact ⟨rfl, rfl, fitd_dict⟩
theorem odds2_ok {n : Nat} (h : n ≤ 2) : ∀ d ∈ odds2 n, isDct d = false ∧ isW 0 ((n : Int) - 1) d = false ∧ FitD 10 2 d := fun d hd => by
  simp only [odds2, List.mem_cons, List.not_mem_nil, or_false] at hd
  rcases hd with rfl | rfl | rfl | rfl | rfl | rfl | rfl
  · exact ⟨rfl, rfl, fitd_non⟩
  · exact ⟨rfl, rfl, fitd_bool⟩
  · exact ⟨rfl, rfl, fitd_int (by decide)⟩
  · exact ⟨rfl, by
      show (leB 0 (n : Int) && leB (n : Int) ((n : Int) - 1)) = false
      rw [leB_f (a := (n : Int)) (b := (n : Int) - 1) (by omega), Bool.and_false], fitd_int (by omega)⟩
  · exact ⟨rfl, rfl, fitd_str⟩
  · exact ⟨rfl, rfl, fitd_t1 (by decide)⟩
  · exact ⟨rfl, rfl, fitd_l1 (by decide)⟩
theorem odds3_ok : ∀ d ∈ odds3, isDct d = false ∧ noMany d = true ∧ FitD 10 2 d := fun d hd => by
  simp only [odds3, List.mem_cons, List.not_mem_nil, or_false] at hd
  rcases hd with rfl | rfl | rfl | rfl | rfl | rfl | rfl
  · exact ⟨rfl, rfl, fitd_non⟩
  · exact ⟨rfl, rfl, fitd_bool⟩
  · exact ⟨rfl, rfl, fitd_int (by decide)⟩
  · exact ⟨rfl, rfl, fitd_int (by decide)⟩
  · exact ⟨rfl, rfl, fitd_str⟩
  · exact ⟨rfl, rfl, fitd_t1 (by decide)⟩
  · exact ⟨rfl, rfl, (fitdl_nil (n := 10) (k := 1)).lst⟩
theorem loop1 (g : GBill own ts) (gr : GRow R) (h : FR s (.pu D) i (billD own ts) (rowD R)) (a2 a3 : Option DV) : ∃ b3, mForL (gtName 3) (mIf (mNotB (mTest (mCallL1 fx17__law_refused (mVar 1) [3, 1] none (mMeth f_File_add (mVar 1) (mCons (mVar 0) (mNil))) (mCons (mSeq .tuple (mCons (mC (.str "number")) (mCons (mVar 3) (mNil)))) (mNil))))) (mRet (mC (.bool false))) ((fun g => .ok .nx g))) odds1 ⟨[some (.pu (billD own ts)), some (.pu D), a2, a3], s⟩ = .ok .nx ⟨[some (.pu (billD own ts)), some (.pu D), a2, b3], s⟩ := by
  obtain ⟨_, e, b3, rfl⟩ := e_forC (s := s) (t := gtName 3) (body := (mIf (mNotB (mTest (mCallL1 fx17__law_refused (mVar 1) [3, 1] none (mMeth f_File_add (mVar 1) (mCons (mVar 0) (mNil))) (mCons (mSeq .tuple (mCons (mC (.str "number")) (mCons (mVar 3) (mNil)))) (mNil))))) (mRet (mC (.bool false))) ((fun g => .ok .nx g)))) (fun l => ∃ a3, l = [some (.pu (billD own ts)), some (.pu D), a2, a3]) odds1 _ ⟨a3, rfl⟩ (by
    rintro d hd l ⟨a3, rfl⟩
    obtain ⟨h1, h2, h3⟩ := odds1_ok d hd
    have ab := add_bad (s := s) (D := D) h1 h2
    have lw : lowR ((mMeth f_File_add (mVar 1) (mCons (mVar 0) (mNil))) ⟨[some (.pu d), some (.pu D)], s⟩) = .ex 3 d s := lowEx (l := [some (.pu d), some (.pu D)]) (by decreasing_with fail)
    have c : mCallL1 fx17__law_refused (mVar 1) [3, 1] none (mMeth f_File_add (mVar 1) (mCons (mVar 0) (mNil))) (mCons (mSeq .tuple (mCons (mC (.str "number")) (mCons (mVar 3) (mNil)))) (mNil)) ⟨[some (.pu (billD own ts)), some (.pu D), a2, some (.pu d)], s⟩ = .ok (.pu (.bool true)) ⟨[some (.pu (billD own ts)), some (.pu D), a2, some (.pu d)], s⟩ := callL1_ok g gr h rfl rfl rfl lw (show17 (c := 3) h3)
    refine ⟨[some (.pu (billD own ts)), some (.pu D), a2, some (.pu d)], _, rfl, ?_, some (.pu d), rfl⟩
    generalize billD own ts = BD at *
    generalize fx17__law_refused = F4 at *
    decreasing_with fail)
  exact ⟨b3, e⟩
theorem loop2 (g : GBill own ts) (gr : GRow R) (h : FR s (.pu D) i (billD own ts) (rowD R)) (a2 a3 : Option DV) : ∃ b3, mForL (gtName 3) (mIf (mNotB (mTest (mCallL1 fx17__law_refused (mVar 1) [3, 1] none (mMeth f_File_index (mVar 1) (mCons (mVar 0) (mNil))) (mCons (mSeq .tuple (mCons (mC (.str "number")) (mCons (mVar 3) (mNil)))) (mNil))))) (mRet (mC (.bool false))) ((fun g => .ok .nx g))) (odds2 ts.length) ⟨[some (.pu (billD own ts)), some (.pu D), a2, a3], s⟩ = .ok .nx ⟨[some (.pu (billD own ts)), some (.pu D), a2, b3], s⟩ := by
  obtain ⟨_, e, b3, rfl⟩ := e_forC (s := s) (t := gtName 3) (body := (mIf (mNotB (mTest (mCallL1 fx17__law_refused (mVar 1) [3, 1] none (mMeth f_File_index (mVar 1) (mCons (mVar 0) (mNil))) (mCons (mSeq .tuple (mCons (mC (.str "number")) (mCons (mVar 3) (mNil)))) (mNil))))) (mRet (mC (.bool false))) ((fun g => .ok .nx g)))) (fun l => ∃ a3, l = [some (.pu (billD own ts)), some (.pu D), a2, a3]) (odds2 ts.length) _ ⟨a3, rfl⟩ (by
    rintro d hd l ⟨a3, rfl⟩
    obtain ⟨h1, h2, h3⟩ := odds2_ok g.len d hd
    have ab := index_bad (s := s) (D := D) h1 h2 h
    have lw : lowR ((mMeth f_File_index (mVar 1) (mCons (mVar 0) (mNil))) ⟨[some (.pu d), some (.pu D)], s⟩) = .ex 3 d s := lowEx (l := [some (.pu d), some (.pu D)]) (by decreasing_with fail)
    have c : mCallL1 fx17__law_refused (mVar 1) [3, 1] none (mMeth f_File_index (mVar 1) (mCons (mVar 0) (mNil))) (mCons (mSeq .tuple (mCons (mC (.str "number")) (mCons (mVar 3) (mNil)))) (mNil)) ⟨[some (.pu (billD own ts)), some (.pu D), a2, some (.pu d)], s⟩ = .ok (.pu (.bool true)) ⟨[some (.pu (billD own ts)), some (.pu D), a2, some (.pu d)], s⟩ := callL1_ok g gr h rfl rfl rfl lw (show17 (c := 3) h3)
    refine ⟨[some (.pu (billD own ts)), some (.pu D), a2, some (.pu d)], _, rfl, ?_, some (.pu d), rfl⟩
    generalize billD own ts = BD at *
    generalize fx17__law_refused = F4 at *
    decreasing_with fail)
  exact ⟨b3, e⟩
theorem loop3 (g : GBill own ts) (gr : GRow R) (h : FR s (.pu D) i (billD own ts) (rowD R)) (a2 a3 : Option DV) : ∃ b3, mForL (gtName 3) (mIf (mNotB (mTest (mCallL1 fx17__law_refused (mVar 1) [1, 3] none (mBackK f_File_back (mVar 0) (mVar 1)) (mCons (mSeq .tuple (mCons (mC (.str "number")) (mCons (mVar 3) (mNil)))) (mNil))))) (mRet (mC (.bool false))) ((fun g => .ok .nx g))) odds3 ⟨[some (.pu (billD own ts)), some (.pu D), a2, a3], s⟩ = .ok .nx ⟨[some (.pu (billD own ts)), some (.pu D), a2, b3], s⟩ := by
  obtain ⟨_, e, b3, rfl⟩ := e_forC (s := s) (t := gtName 3) (body := (mIf (mNotB (mTest (mCallL1 fx17__law_refused (mVar 1) [1, 3] none (mBackK f_File_back (mVar 0) (mVar 1)) (mCons (mSeq .tuple (mCons (mC (.str "number")) (mCons (mVar 3) (mNil)))) (mNil))))) (mRet (mC (.bool false))) ((fun g => .ok .nx g)))) (fun l => ∃ a3, l = [some (.pu (billD own ts)), some (.pu D), a2, a3]) odds3 _ ⟨a3, rfl⟩ (by
    rintro d hd l ⟨a3, rfl⟩
    obtain ⟨h1, h2, h3⟩ := odds3_ok d hd
    have ab := back_bad (s := s) (D := D) h1 h2
    have lw : lowR ((mBackK f_File_back (mVar 0) (mVar 1)) ⟨[some (.pu D), some (.pu d)], s⟩) = .ex 3 d s := lowEx (l := [some (.pu D), some (.pu d)]) (by decreasing_with fail)
    have c : mCallL1 fx17__law_refused (mVar 1) [1, 3] none (mBackK f_File_back (mVar 0) (mVar 1)) (mCons (mSeq .tuple (mCons (mC (.str "number")) (mCons (mVar 3) (mNil)))) (mNil)) ⟨[some (.pu (billD own ts)), some (.pu D), a2, some (.pu d)], s⟩ = .ok (.pu (.bool true)) ⟨[some (.pu (billD own ts)), some (.pu D), a2, some (.pu d)], s⟩ := callL1_ok g gr h rfl rfl rfl lw (show17 (c := 3) h3)
    refine ⟨[some (.pu (billD own ts)), some (.pu D), a2, some (.pu d)], _, rfl, ?_, some (.pu d), rfl⟩
    generalize billD own ts = BD at *
    generalize fx17__law_refused = F4 at *
    decreasing_with fail)
  exact ⟨b3, e⟩
def odds4 : List PyData := [.int 5, .int 6, .int 10000000000000000000000000000000000000000]
theorem loop4 (g : GBill own ts) (gr : GRow R) (hl : R.length = 4) (h : FR s (.pu D) i (billD own ts) (rowD R)) (a2 a3 : Option DV) : ∃ b3, mForL (gtName 3) (mIf (mNotB (mTest (mCallL1 fx17__law_refused (mVar 1) [1, 3] none (mBackK f_File_back (mVar 0) (mVar 1)) (mCons (mSeq .tuple (mCons (mC (.str "nothing")) (mCons (mVar 3) (mNil)))) (mNil))))) (mRet (mC (.bool false))) ((fun g => .ok .nx g))) odds4 ⟨[some (.pu (billD own ts)), some (.pu D), a2, a3], s⟩ = .ok .nx ⟨[some (.pu (billD own ts)), some (.pu D), a2, b3], s⟩ := by
  obtain ⟨_, e, b3, rfl⟩ := e_forC (s := s) (t := gtName 3) (body := (mIf (mNotB (mTest (mCallL1 fx17__law_refused (mVar 1) [1, 3] none (mBackK f_File_back (mVar 0) (mVar 1)) (mCons (mSeq .tuple (mCons (mC (.str "nothing")) (mCons (mVar 3) (mNil)))) (mNil))))) (mRet (mC (.bool false))) ((fun g => .ok .nx g)))) (fun l => ∃ a3, l = [some (.pu (billD own ts)), some (.pu D), a2, a3]) odds4 _ ⟨a3, rfl⟩ (by
    rintro d hd l ⟨a3, rfl⟩
    obtain ⟨m, rfl, hm, h3⟩ : ∃ m : Int, d = .int m ∧ 4 < m ∧ FitD 10 2 (.int m) := by
      simp only [odds4, List.mem_cons, List.not_mem_nil, or_false] at hd
      rcases hd with rfl | rfl | rfl
      · exact ⟨_, rfl, by decide, fitd_int (by decide)⟩
      · exact ⟨_, rfl, by decide, fitd_int (by decide)⟩
      · exact ⟨_, rfl, by decide, fitd_int (by decide)⟩
    have ab := back_none (s := s) (D := D) (m := m) (by rw [hl]; exact hm) h
    have lw : lowR ((mBackK f_File_back (mVar 0) (mVar 1)) ⟨[some (.pu D), some (.pu (.int m))], s⟩) = .ex 7 (.int m) s := lowEx (l := [some (.pu D), some (.pu (.int m))]) (by decreasing_with fail)
    have c : mCallL1 fx17__law_refused (mVar 1) [1, 3] none (mBackK f_File_back (mVar 0) (mVar 1)) (mCons (mSeq .tuple (mCons (mC (.str "nothing")) (mCons (mVar 3) (mNil)))) (mNil)) ⟨[some (.pu (billD own ts)), some (.pu D), a2, some (.pu (.int m))], s⟩ = .ok (.pu (.bool true)) ⟨[some (.pu (billD own ts)), some (.pu D), a2, some (.pu (.int m))], s⟩ := callL1_ok g gr h rfl rfl rfl lw (show17 (c := 7) h3)
    refine ⟨[some (.pu (billD own ts)), some (.pu D), a2, some (.pu (.int m))], _, rfl, ?_, some (.pu (.int m)), rfl⟩
    generalize billD own ts = BD at *
    generalize fx17__law_refused = F4 at *
    decreasing_with fail)
  exact ⟨b3, e⟩
theorem p__law_right (g : GBill own ts) (s : MS) : ∃ s2, Goes s s2 ∧ f__law_right [.pu (billD own ts)] s = .ok (.pu (.bool true)) s2 := by
  obtain ⟨i, s1, n1, r1, o1⟩ := new_y g s
  obtain ⟨s2, c2, r2, o2⟩ := add_y (x := 3) g (gRow (R := []) ⟨by decide, by decide⟩) (by decide) (by decide) r1
  obtain ⟨s3, c3, r3, o3⟩ := add_y (x := 0) g (gRow (R := [] ++ [3]) ⟨by decide, by decide⟩) (by decide) (by decide) r2
  obtain ⟨s4, c4, r4, o4⟩ := add_y (x := 1000000) g (gRow (R := [] ++ [3] ++ [0]) ⟨by decide, by decide⟩) (by decide) (by decide) r3
  obtain ⟨s5, c5, r5, o5⟩ := add_y (x := 3) g (gRow (R := [] ++ [3] ++ [0] ++ [1000000]) ⟨by decide, by decide⟩) (by decide) (by decide) r4
  have g5 : GRow ([] ++ [3] ++ [0] ++ [1000000] ++ [3]) := gRow ⟨by decide, by decide⟩
  obtain ⟨b1, k1⟩ := loop1 g g5 r5 (some (.pu (.int 3))) none
  obtain ⟨b2, k2⟩ := loop2 g g5 r5 (some (.pu (.int 3))) b1
  obtain ⟨b3, k3⟩ := loop3 g g5 r5 (some (.pu (.int 3))) b2
  obtain ⟨b4, k4⟩ := loop4 g g5 rfl r5 (some (.pu (.int 3))) b3
  obtain ⟨s6, c6, r6, o6⟩ := back_y (m := 4) g g5 (by decide) (by decide) r5
  have r6 : FR s6 (.pu (fileD i)) i (billD own ts) (rowD []) := r6
  have ab := back_none (m := 1) (by decide) r6
  have c6 : f_File_back [.pu (fileD i), .pu (.int 4)] s5 = .ok (.pu .none) s6 := c6
  have m1 := n1 (mVar 0) [some (.pu (billD own ts)), none, none, none] _ s rfl
  have lk : mCallL f__law_outcome [1] none (mBackK f_File_back (mVar 0) (mC (.int 4))) (mNil) ⟨[some (.pu (billD own ts)), some (.pu (fileD i)), some (.pu (.int 3)), b4], s5⟩ = .ok (.pu (.list [.none])) ⟨[some (.pu (billD own ts)), some (.pu (fileD i)), some (.pu (.int 3)), b4], s6⟩ := by
    have lw : lowR ((mBackK f_File_back (mVar 0) (mC (.int 4))) ⟨[some (.pu (fileD i))], s5⟩) = .ok .none s6 := lowOk (l := [some (.pu (fileD i))]) (by
      generalize fileD i = D at *
      decreasing_with fail)
    have q : f__law_outcome [.clo (cloG (mBackK f_File_back (mVar 0) (mC (.int 4))) (dfD none) [fileD i])] s5 = .ok (.pu (.list [.none])) s6 := by
      rw [p__law_outcome (fun c' p' s' e => by
        have e : lowR ((mBackK f_File_back (mVar 0) (mC (.int 4))) ⟨[some (.pu (fileD i))], s5⟩) = .ex c' p' s' := e
        rw [lw] at e
        cases e)]
      show outR (lowR ((mBackK f_File_back (mVar 0) (mC (.int 4))) ⟨[some (.pu (fileD i))], s5⟩)) = _
      rw [lw]
      rfl
    have cp : caps [some (.pu (billD own ts)), some (.pu (fileD i)), some (.pu (.int 3)), b4] [1] = some [fileD i] := rfl
    unfold mCallL
    simp only [mNil, Rs.bind_ok, cp, q]
  have lz : mCallL1 fx17__law_refused (mVar 1) [1] none (mBack0 f_File_back (mVar 0)) (mCons (mSeq .tuple (mCons (mC (.str "nothing")) (mCons (mC (.int 1)) (mNil)))) (mNil)) ⟨[some (.pu (billD own ts)), some (.pu (fileD i)), some (.pu (.int 3)), b4], s6⟩ = .ok (.pu (.bool true)) ⟨[some (.pu (billD own ts)), some (.pu (fileD i)), some (.pu (.int 3)), b4], s6⟩ := by
    have lw : lowR ((mBack0 f_File_back (mVar 0)) ⟨[some (.pu (fileD i))], s6⟩) = .ex 7 (.int 1) s6 := lowEx (l := [some (.pu (fileD i))]) (by
      generalize fileD i = D at *
      decreasing_with fail)
    exact callL1_ok g (gRow (R := []) ⟨by decide, by decide⟩) r6 rfl rfl rfl lw (show17 (c := 7) (fitd_int (by decide)))
  have ne : OpR dNe (.list [.none]) (.list [.none]) (.bool false) := by unfold OpR; kernel_rfl
  have qt := bl_terms ts
  have i1 : OpR dIx (billD own ts) (.int 1) (.tuple (ts.map termD)) := rfl
  have q1 : mFor (mSeqI (mSeq .tuple (mCons (mC .none) (mCons (mC (.bool true)) (mCons (mNeg (mC (.int 1))) (mCons (mBin dAdd (mBin dPow (mC (.int 10)) (mC (.int 6))) (mC (.int 1))) (mCons (mC (.str "3")) (mCons (mSeq .tuple (mCons (mC (.int 3)) (mNil))) (mCons (mSeq .list (mCons (mC (.int 3)) (mNil))) (mCons (mC (.dict [])) (mNil))))))))))) (gtName 3) (mIf (mNotB (mTest (mCallL1 fx17__law_refused (mVar 1) [3, 1] none (mMeth f_File_add (mVar 1) (mCons (mVar 0) (mNil))) (mCons (mSeq .tuple (mCons (mC (.str "number")) (mCons (mVar 3) (mNil)))) (mNil))))) (mRet (mC (.bool false))) ((fun g => .ok .nx g))) ⟨[some (.pu (billD own ts)), some (.pu (fileD i)), some (.pu (.int 3)), none], s5⟩ = .ok .nx ⟨[some (.pu (billD own ts)), some (.pu (fileD i)), some (.pu (.int 3)), b1], s5⟩ := e_for (ds := odds1) (g1 := ⟨_, s5⟩) rfl k1
  have q2 : mFor (mSeqI (mSeq .tuple (mCons (mC .none) (mCons (mC (.bool true)) (mCons (mNeg (mC (.int 1))) (mCons (mCallB bLen (mCons (mBin dIx (mVar 0) (mC (.int 1))) (mNil))) (mCons (mC (.str "0")) (mCons (mSeq .tuple (mCons (mC (.int 0)) (mNil))) (mCons (mSeq .list (mCons (mC (.int 0)) (mNil))) (mNil)))))))))) (gtName 3) (mIf (mNotB (mTest (mCallL1 fx17__law_refused (mVar 1) [3, 1] none (mMeth f_File_index (mVar 1) (mCons (mVar 0) (mNil))) (mCons (mSeq .tuple (mCons (mC (.str "number")) (mCons (mVar 3) (mNil)))) (mNil))))) (mRet (mC (.bool false))) ((fun g => .ok .nx g))) ⟨[some (.pu (billD own ts)), some (.pu (fileD i)), some (.pu (.int 3)), b1], s5⟩ = .ok .nx ⟨[some (.pu (billD own ts)), some (.pu (fileD i)), some (.pu (.int 3)), b2], s5⟩ := by
    refine e_for (ds := odds2 ts.length) (g1 := ⟨_, s5⟩) ?_ k2
    have sq : SqR (.pu (.tuple (odds2 ts.length))) (odds2 ts.length) := rfl
    unfold odds2 at *
    generalize billD own ts = BD at *
    generalize fileD i = D at *
    decreasing_with fail
  have q3 : mFor (mSeqI (mSeq .tuple (mCons (mC .none) (mCons (mC (.bool true)) (mCons (mC (.int 0)) (mCons (mNeg (mC (.int 1))) (mCons (mC (.str "1")) (mCons (mSeq .tuple (mCons (mC (.int 1)) (mNil))) (mCons (mSeq .list (mNil)) (mNil)))))))))) (gtName 3) (mIf (mNotB (mTest (mCallL1 fx17__law_refused (mVar 1) [1, 3] none (mBackK f_File_back (mVar 0) (mVar 1)) (mCons (mSeq .tuple (mCons (mC (.str "number")) (mCons (mVar 3) (mNil)))) (mNil))))) (mRet (mC (.bool false))) ((fun g => .ok .nx g))) ⟨[some (.pu (billD own ts)), some (.pu (fileD i)), some (.pu (.int 3)), b2], s5⟩ = .ok .nx ⟨[some (.pu (billD own ts)), some (.pu (fileD i)), some (.pu (.int 3)), b3], s5⟩ := e_for (ds := odds3) (g1 := ⟨_, s5⟩) rfl k3
  have q4 : mFor (mSeqI (mSeq .tuple (mCons (mC (.int 5)) (mCons (mC (.int 6)) (mCons (mBin dPow (mC (.int 10)) (mC (.int 40))) (mNil)))))) (gtName 3) (mIf (mNotB (mTest (mCallL1 fx17__law_refused (mVar 1) [1, 3] none (mBackK f_File_back (mVar 0) (mVar 1)) (mCons (mSeq .tuple (mCons (mC (.str "nothing")) (mCons (mVar 3) (mNil)))) (mNil))))) (mRet (mC (.bool false))) ((fun g => .ok .nx g))) ⟨[some (.pu (billD own ts)), some (.pu (fileD i)), some (.pu (.int 3)), b3], s5⟩ = .ok .nx ⟨[some (.pu (billD own ts)), some (.pu (fileD i)), some (.pu (.int 3)), b4], s5⟩ := e_for (ds := odds4) (g1 := ⟨_, s5⟩) (by kernel_rfl) k4
  have q0 : mFor (mSeqI (mSeq .tuple (mCons (mC (.int 3)) (mCons (mC (.int 0)) (mCons (mBin dPow (mC (.int 10)) (mC (.int 6))) (mCons (mC (.int 3)) (mNil))))))) (gtName 2) (mDrop (mMeth f_File_add (mVar 1) (mCons (mVar 2) (mNil)))) ⟨[some (.pu (billD own ts)), some (.pu (fileD i)), none, none], s1⟩ = .ok .nx ⟨[some (.pu (billD own ts)), some (.pu (fileD i)), some (.pu (.int 3)), none], s5⟩ := by
    refine e_for (ds := [.int 3, .int 0, .int 1000000, .int 3]) (g1 := ⟨_, s1⟩) rfl ?_
    have st : ∀ (x : Int) (v : PyData) (s s' : MS), f_File_add [.pu (fileD i), .pu (.int x)] s = .ok (.pu v) s' → (∃ b r, FR s (.pu (fileD i)) i b r) → ((mDrop (mMeth f_File_add (mVar 1) (mCons (mVar 2) (mNil))))) ⟨[some (.pu (billD own ts)), some (.pu (fileD i)), some (.pu (.int x)), none], s⟩ = .ok .nx ⟨[some (.pu (billD own ts)), some (.pu (fileD i)), some (.pu (.int x)), none], s'⟩ := fun x v s s' h ⟨b, r, hr⟩ => by
      generalize fileD i = D at *
      generalize billD own ts = BD at *
      decreasing_with fail
    exact for_cons (g1 := ⟨[some (.pu (billD own ts)), some (.pu (fileD i)), some (.pu (.int 3)), none], s1⟩) rfl (st 3 _ _ _ c2 ⟨_, _, r1⟩) (for_cons (g1 := ⟨[some (.pu (billD own ts)), some (.pu (fileD i)), some (.pu (.int 0)), none], s2⟩) rfl (st 0 _ _ _ c3 ⟨_, _, r2⟩) (for_cons (g1 := ⟨[some (.pu (billD own ts)), some (.pu (fileD i)), some (.pu (.int 1000000)), none], s3⟩) rfl (st 1000000 _ _ _ c4 ⟨_, _, r3⟩) (for_cons (g1 := ⟨[some (.pu (billD own ts)), some (.pu (fileD i)), some (.pu (.int 3)), none], s4⟩) rfl (st 3 _ _ _ c5 ⟨_, _, r4⟩) rfl)))
  refine ⟨s6, o1.tr (o2.tr (o3.tr (o4.tr (o5.tr o6)))), ?_⟩
  refine fn_run (l := [some (.pu (billD own ts)), some (.pu (fileD i)), some (.pu (.int 3)), b4]) rfl ?_
  show b__law_right ⟨[some (.pu (billD own ts)), none, none, none], s⟩ = _
  unfold b__law_right
  generalize billD own ts = BD at *
  generalize fileD i = D at *
  generalize fx17__law_refused = F4 at *
  generalize f__law_outcome = F5 at *
  decreasing_with fail
end
end DL
set_option Elab.async false
set_option linter.all false
set_option maxRecDepth 100000
set_option maxHeartbeats 4000000
set_option autoImplicit false
namespace DL
open PySem PySem.Spec L2
open PyProof.Rows hiding St
local macro_rules
  | `(tactic| decreasing_with $ts:tacticSeq) => `(tactic| repeat (first
    | with_reducible assumption
    | with_reducible exact e_nil
    | with_reducible exact e_c
    | with_reducible exact e_nopart
    | with_reducible exact e_nx
    | with_reducible exact set_z
    | with_reducible exact allP_z
    | with_reducible exact wipe_z
    | with_reducible exact e_gtNil
    | with_reducible exact ck_ok
    | with_reducible exact ck_ex
    | with_reducible exact rk_ok
    | with_reducible exact rk_ex
    | with_reducible exact dk_ok
    | with_reducible exact dk_ex
    | with_reducible exact tk_ex
    | with_reducible exact sk_rt
    | with_reducible exact sk_ex
    | with_reducible exact sk_ct
    | with_reducible exact sk_bk
    | with_reducible apply sk_nx
    | with_reducible apply tk_ok
    | with_reducible apply set_s
    | with_reducible apply allP_s
    | with_reducible apply wipe_s
    | with_reducible apply iteB_t
    | with_reducible apply iteB_f
    | ((with_reducible apply e_var); rfl; rfl)
    | ((with_reducible apply e_varO); rfl)
    | with_reducible apply e_cons
    | with_reducible apply e_bin
    | with_reducible apply e_call
    | with_reducible apply e_callB
    | with_reducible apply e_seq
    | with_reducible apply e_test
    | with_reducible apply e_notB
    | with_reducible apply e_notV
    | with_reducible apply e_isi
    | with_reducible apply e_if
    | with_reducible apply e_orB
    | with_reducible apply e_andB
    | with_reducible apply e_andV
    | with_reducible apply e_orV
    | with_reducible apply e_chainI
    | with_reducible apply e_chain
    | with_reducible apply e_part
    | with_reducible apply e_cut
    | with_reducible apply e_mset
    | with_reducible apply e_ret
    | with_reducible apply e_drop
    | with_reducible apply e_seqS
    | with_reducible apply e_raise
    | with_reducible apply e_new
    | with_reducible apply e_newL
    | ((with_reducible apply e_ixN); rfl)
    | with_reducible apply e_newD
    | with_reducible apply e_par2
    | with_reducible apply e_asg
    | with_reducible apply e_gtName
    | ((with_reducible apply e_gtTup); rfl)
    | with_reducible apply e_gtCons
    | ((with_reducible apply e_aug); rfl)
    | ((with_reducible apply e_app); rfl)
    | ((with_reducible apply own_at); rfl)
    | ((with_reducible apply set_r); rfl)
    | with_reducible apply e_for
    | with_reducible apply e_seqI
    | with_reducible apply e_rng1
    | with_reducible apply e_rng2
    | with_reducible apply e_enum
    | with_reducible apply e_zip
    | with_reducible apply e_star
    | with_reducible apply e_neg
    | with_reducible apply e_rev
    | with_reducible apply e_revL
    | with_reducible apply e_fbill
    | with_reducible apply e_frow
    | with_reducible apply e_fset
    | with_reducible apply e_meth
    | with_reducible apply e_prop
    | with_reducible apply e_lenF
    | with_reducible apply e_inF
    | with_reducible apply e_back0
    | with_reducible apply e_backK
    | with_reducible apply e_newF
    | with_reducible exact ok_r
    | with_reducible exact ex_r
    | ((with_reducible apply op_h); first | with_reducible assumption | ($ts) | exact rfl)
    | ((with_reducible apply bl_h); first | with_reducible assumption | ($ts) | exact rfl)
    | ((with_reducible apply ct_h); first | with_reducible assumption | ($ts) | exact rfl)
    | ((with_reducible apply sq_h); first | with_reducible assumption | ($ts) | exact rfl)
    | ((with_reducible apply ln_h); first | with_reducible assumption | ($ts) | exact ln_b rfl | omega)
    | ((with_reducible apply tg_h); first | with_reducible assumption | ($ts))
    | with_reducible apply tg_h
    | ((with_reducible apply is_h); with_reducible assumption)
    | exact is_t rfl
    | exact is_f rfl
    | ((with_reducible apply is_h); first | ($ts) | exact rfl)
    | ((with_reducible apply be_h); first
      | with_reducible exact not_t
      | with_reducible exact not_f
      | with_reducible assumption)
    | exact be_t rfl
    | exact be_f rfl
    | ((with_reducible apply be_h); first
      | with_reducible exact not_t
      | with_reducible exact not_f
      | with_reducible assumption
      | with_reducible exact (rfl : true = true)
      | with_reducible exact (rfl : false = false)
      | ($ts)
      | with_reducible exact decide_eq_true (by first | with_reducible assumption | with_reducible rfl | omega)
      | with_reducible exact decide_eq_false (by first | with_reducible assumption | omega)
      | with_reducible exact leB_t (by omega)
      | with_reducible exact leB_f (by omega)
      | exact rfl)
    | ($ts)
    | exact rk_ok
    | exact ok_r))
def upTo (n : Nat) : List Int := (List.range n).map fun (k : Nat) => (k : Int)
theorem upTo_len (n : Nat) : (upTo n).length = n := by unfold upTo; rw [List.length_map, List.length_range]
theorem upTo_succ (n : Nat) : upTo (n + 1) = upTo n ++ [(n : Int)] := by
  unfold upTo
  rw [List.range_succ, List.map_append]
  rfl
theorem upTo_row {n : Nat} (h : n ≤ 200) : GRow (upTo n) := ⟨by rw [upTo_len]; exact h, fun x hx => by
  unfold upTo at hx
  obtain ⟨k, hk, rfl⟩ := List.mem_map.mp hx
  have := List.mem_range.mp hk
  omega⟩
def heardD (k : Nat) : PyData := if k = 0 then .none else .int (k : Nat)
def heardL (n : Nat) : List PyData := (List.range n).map heardD
theorem heardL_succ (n : Nat) : heardL (n + 1) = heardL n ++ [heardD n] := by
  unfold heardL
  rw [List.range_succ, List.map_append]
  rfl
theorem pay_one (R : List Int) (x : Int) : payV 1 [] (R ++ [x]) = if R.length = 0 then .none else .int x := by
  unfold payV
  have w : widN [] = 1 := rfl
  rw [w, List.length_append, List.length_singleton]
  by_cases z : R.length = 0
  · rw [if_pos z, if_neg (by omega)]
  · rw [if_neg z, if_pos (by omega), Nat.add_sub_cancel]
    unfold paidAt
    rw [List.getD_eq_getElem?_getD, List.getElem?_append_right (Nat.le_refl _), Nat.sub_self]
    show PyData.int (1 * x + 0) = _
    rw [Int.one_mul, Int.add_zero]
section
variable {s : MS} {i : Nat} {D : PyData}
theorem heard_ok (h : FR s (.pu (fileD i)) i (billD 1 []) (rowD [])) : ∃ s2, FR s2 (.pu (fileD i)) i (billD 1 []) (rowD (upTo 200)) ∧ Goes s s2 ∧
    mLc [2] (mRange1 (mCons (mC (.int 200)) (mNil))) (gtName 2) (mYes) (mMeth f_File_add (mVar 0) (mCons (mVar 2) (mNil))) ⟨[some (.pu (fileD i)), none, none], s⟩ = .ok (.pu (.list (heardL 200))) ⟨[some (.pu (fileD i)), none, none], s2⟩ := by
  obtain ⟨acc, g', e, hn, s2, rfl, ha, hr, ho⟩ := lc_invN (vs := [2]) (t := gtName 2) (elt := mMeth f_File_add (mVar 0) (mCons (mVar 2) (mNil)))
    (fun acc g => ∃ s2, g = ⟨[some (.pu (fileD i)), none, none], s2⟩ ∧ acc = heardL acc.length ∧ FR s2 (.pu (fileD i)) i (billD 1 []) (rowD (upTo acc.length)) ∧ Goes s s2) (rangeD 0 200) ⟨[some (.pu (fileD i)), none, none], s⟩ ⟨s, rfl, rfl, h, Goes.rfl'⟩ (by rw [rangeD_length]; decide) (by
    rintro d acc g hd hl ⟨s2, rfl, ha, hr, ho⟩
    obtain ⟨hk, rfl⟩ := rangeD_get hd
    rw [rangeD_length] at hl
    obtain ⟨s3, c3, r3, o3⟩ := add_y (x := (acc.length : Int)) g_one (upTo_row (by omega)) (by omega) (by rw [upTo_len]; omega) hr
    rw [pay_one, upTo_len] at c3
    rw [← upTo_succ] at r3
    refine ⟨⟨[some (.pu (fileD i)), none, some (.pu (.int (0 + (acc.length : Nat))))], s2⟩, rfl, ?_⟩
    rw [Int.zero_add]
    refine ⟨.pu (heardD acc.length), ⟨[some (.pu (fileD i)), none, some (.pu (.int (acc.length : Nat)))], s3⟩, ?_, heardD acc.length, rfl, s3, rfl, ?_, ?_, ho.tr o3⟩
    · unfold heardD
      generalize (if acc.length = 0 then PyData.none else .int (acc.length : Nat)) = HV at *
      generalize fileD i = D at *
      decreasing_with fail
    · rw [List.length_append, List.length_singleton, heardL_succ, ← ha]
    · rw [List.length_append, List.length_singleton]
      exact r3)
  rw [rangeD_length] at hn
  rw [hn] at ha hr
  refine ⟨s2, hr, ho, ?_⟩
  rw [← ha]
  have fi : mRange1 (mCons (mC (.int 200)) (mNil)) ⟨[some (.pu (fileD i)), none, none], s⟩ = .ok (rangeD 0 200) ⟨[some (.pu (fileD i)), none, none], s⟩ := e_rng1 (xs := [.pu (.int 200)]) rfl (rng1_of (j := 200) (n := 200) rfl (by decide))
  exact mLc_of fi e
theorem heard_eq : PyData.none :: (rgL 1 200).map PyData.int = heardL 200 := by kernel_rfl
theorem heard_ne : dNe (.list (heardL 200)) (.list (heardL 200)) = some (.bool false) := by
  have f : Fit 300 1 (.list (heardL 200)) := ((fitL_all (n := 0) (k := 0) (ds := heardL 200) fun d hd => by
    unfold heardL at hd
    obtain ⟨k, hk, rfl⟩ := List.mem_map.mp hd
    have := List.mem_range.mp hk
    unfold heardD
    split
    · exact fit_non
    · exact fit_int (by omega)).lst).mono (by
      have : (heardL 200).length = 200 := by unfold heardL; rw [List.length_map, List.length_range]
      rw [this]
      decide) (by decide)
  rw [dNe_LL f.shaped f.shaped, f.eqv]
  rfl
theorem p__law_full_right (s : MS) : ∃ s2, f__law_full_right [] s = .ok (.pu (.bool true)) s2 := by
  obtain ⟨i, s1, n1, r1, o1⟩ := new_y g_one s
  obtain ⟨s2, r2, o2, k2⟩ := heard_ok r1
  have gr2 := upTo_row (n := 200) (Nat.le_refl _)
  have af := add_full (x := 0) (by decide) (upTo_len 200) r2
  have ab := add_bad (s := s2) (D := fileD i) (odd := .int (-1)) rfl rfl
  obtain ⟨s3, c3, r3, o3⟩ := back_y (m := 1) g_one gr2 (by decide) (by rw [upTo_len]; decide) r2
  have tk : (upTo 200).take ((upTo 200).length - 1) = upTo 199 := by
    rw [upTo_len, upTo_succ, List.take_append_of_le_length (by rw [upTo_len]; decide), List.take_of_length_le (by rw [upTo_len]; decide)]
  rw [tk] at r3
  obtain ⟨s4, c4, r4, o4⟩ := add_y (x := 7) g_one (upTo_row (n := 199) (by decide)) (by decide) (by rw [upTo_len]; decide) r3
  rw [pay_one, upTo_len, if_neg (by decide)] at c4
  have ln := p_File_len r4
  rw [List.length_append, upTo_len] at ln
  have ln : f_File___len__ [.pu (fileD i)] s4 = .ok (.pu (.int (200 : Nat))) s4 := ln
  have c3 : f_File_back [.pu (fileD i), .pu (.int 1)] s2 = .ok (.pu .none) s3 := c3
  have c1 : mCallL1 fx17__law_refused (mVar 0) [0] none (mMeth f_File_add (mVar 0) (mCons (mC (.int 0)) (mNil))) (mCons (mSeq .tuple (mCons (mC (.str "nothing")) (mCons (mC (.int 200)) (mNil)))) (mNil)) ⟨[some (.pu (fileD i)), some (.pu (.list (heardL 200))), none], s2⟩ = .ok (.pu (.bool true)) ⟨[some (.pu (fileD i)), some (.pu (.list (heardL 200))), none], s2⟩ := by
    have lw : lowR ((mMeth f_File_add (mVar 0) (mCons (mC (.int 0)) (mNil))) ⟨[some (.pu (fileD i))], s2⟩) = .ex 7 (.int 200) s2 := lowEx (l := [some (.pu (fileD i))]) (by
      generalize fileD i = D at *
      generalize rowD (upTo 200) = RR at *
      decreasing_with fail)
    exact callL1_ok g_one gr2 r2 rfl rfl rfl lw (show17 (c := 7) (fitd_int (by decide)))
  have c2 : mCallL1 fx17__law_refused (mVar 0) [0] none (mMeth f_File_add (mVar 0) (mCons (mNeg (mC (.int 1))) (mNil))) (mCons (mSeq .tuple (mCons (mC (.str "number")) (mCons (mNeg (mC (.int 1))) (mNil)))) (mNil)) ⟨[some (.pu (fileD i)), some (.pu (.list (heardL 200))), none], s2⟩ = .ok (.pu (.bool true)) ⟨[some (.pu (fileD i)), some (.pu (.list (heardL 200))), none], s2⟩ := by
    have lw : lowR ((mMeth f_File_add (mVar 0) (mCons (mNeg (mC (.int 1))) (mNil))) ⟨[some (.pu (fileD i))], s2⟩) = .ex 3 (.int (-1)) s2 := lowEx (l := [some (.pu (fileD i))]) (by
      generalize fileD i = D at *
      generalize rowD (upTo 200) = RR at *
      decreasing_with fail)
    exact callL1_ok g_one gr2 r2 rfl rfl rfl lw (show17 (c := 3) (fitd_int (by decide)))
  have ne : OpR dNe (.list (heardL 200)) (.list (heardL 200)) (.bool false) := heard_ne
  have da : OpR dAdd (.list [.none]) (.list ((rgL 1 200).map .int)) (.list (heardL 200)) := by
    rw [← heard_eq]
    have ll : ((rgL 1 200).map PyData.int).length = 199 := by
      unfold rgL
      rw [List.length_map, List.length_map, List.length_range]
      rfl
    show (if [PyData.none].length + ((rgL 1 200).map PyData.int).length ≤ bigN then some (PyData.list ([PyData.none] ++ (rgL 1 200).map .int)) else none) = some _
    rw [ll, if_pos (by decide)]
    rfl
  have m1 := n1 (mSeq .tuple (mCons (mC (.int 1)) (mCons (mSeq .tuple (mNil)) (mNil)))) [none, none, none] _ s rfl
  refine ⟨s4, fn_run (l := [some (.pu (fileD i)), some (.pu (.list (heardL 200))), none]) rfl ?_⟩
  show b__law_full_right ⟨[none, none, none], s⟩ = _
  unfold b__law_full_right
  generalize heardL 200 = HL at *
  generalize (rgL 1 200).map PyData.int = RL at *
  generalize fileD i = D at *
  generalize fx17__law_refused = F4 at *
  generalize rowD (upTo 200) = RR at *
  generalize rowD (upTo 199) = RS at *
  generalize rowD (upTo 199 ++ [7]) = RT at *
  decreasing_with fail
theorem e_newFX {fe : Sg → Rs Sg DV} {g : Sg} {x : DV} {l : List (Option DV)} {fn : List DV → MS → Rs MS DV} {c : Nat} {p : PyData} {s s1 : MS} (e : fe g = .ok x ⟨l, s⟩) (ef : fn [x] s = .ex c p s1) : mNewF fn fe g = .ex c p ⟨l, s1⟩ := by
  unfold mNewF
  rw [e]
  simp only [Rs.bind_ok, ef]
end
theorem bill_odd {odd part : PyData} (sh : odd.showable = true) (h : faultD odd = [part]) (hn : dNe (.list [part]) (.list []) = some (.bool true)) (hp : FitD 10 2 part) (ns : List Int) (s : MS) (a2 : Option DV) :
    (mIf (mTest (mBin dNe (mCallB bRepr (mCons (mBin dMul (mSeq .list (mCons (mCallL f__law_outcome [3] none (mNewF f_need_bill (mVar 0)) (mNil)) (mNil))) (mC (.int 2))) (mNil))) (mCallB bRepr (mCons (mBin dMul (mSeq .list (mCons (mSeq .tuple (mCons (mC (.str "bill")) (mCons (mVar 4) (mNil)))) (mNil))) (mC (.int 2))) (mNil))))) (mRet (mC (.bool false))) ((fun g => .ok .nx g))) ⟨[some (.scr ns), some .m, a2, some (.pu odd), some (.pu part)], s⟩ = .ok .nx ⟨[some (.scr ns), some .m, a2, some (.pu odd), some (.pu part)], s⟩ := by
  have nb := need_bill_ex sh h hn s
  have lw : lowR ((mNewF f_need_bill (mVar 0)) ⟨[some (.pu odd)], s⟩) = .ex 2 part s := lowEx (l := [some (.pu odd)]) (e_newFX rfl nb)
  have c : mCallL f__law_outcome [3] none (mNewF f_need_bill (mVar 0)) (mNil) ⟨[some (.scr ns), some .m, a2, some (.pu odd), some (.pu part)], s⟩ = .ok (.pu (wordD 2 part)) ⟨[some (.scr ns), some .m, a2, some (.pu odd), some (.pu part)], s⟩ := by
    have q := out_exW (G := cloG (mNewF f_need_bill (mVar 0)) (dfD none) [odd]) lw
    have cp : caps [some (.scr ns), some .m, a2, some (.pu odd), some (.pu part)] [3] = some [odd] := rfl
    unfold mCallL
    simp only [mNil, Rs.bind_ok, cp, q]
  have o := show17 (c := 2) hp
  have b2 : BlR bRepr [.pu (.list [wordD 2 part, wordD 2 part])] (.str (PyData.list [wordD 2 part, wordD 2 part]).shown) := bRepr_ok o
  have ne : OpR dNe (.str (PyData.list [wordD 2 part, wordD 2 part]).shown) (.str (PyData.list [wordD 2 part, wordD 2 part]).shown) (.bool false) := ne_strT _
  have r2 : OpR dMul (.list [wordD 2 part]) (.int 2) (.list [wordD 2 part, wordD 2 part]) := rep2 _
  have tp : mSeq .tuple (mCons (mC (.str "bill")) (mCons (mVar 4) (mNil))) ⟨[some (.scr ns), some .m, a2, some (.pu odd), some (.pu part)], s⟩ = .ok (.pu (wordD 2 part)) ⟨[some (.scr ns), some .m, a2, some (.pu odd), some (.pu part)], s⟩ := rfl
  generalize (PyData.list [wordD 2 part, wordD 2 part]).shown = W at *
  generalize wordD 2 part = WD at *
  generalize f__law_outcome = F5 at *
  decreasing_with fail
theorem min5 {n : Nat} : (if (5 : Int) < (n : Int) then (5 : Int) else (n : Int)) = ((min n 5 : Nat) : Int) := by split <;> omega
theorem law_pure (ns : List Int) (hn : ns.length ≤ 63) : ∃ g, b_law ⟨(startD law_slots [.scr ns]).set law_m (some .m), ms0 ns⟩ = .ok (.rt (.pu (.bool true))) g := by
  suffices h : Sat (b_law ⟨[some (.scr ns), some .m, none, none, none], ms0 ns⟩) fun x _ => x = .rt (.pu (.bool true)) by
    obtain ⟨_, g, e, rfl⟩ := h
    exact ⟨g, e⟩
  unfold b_law
  have f0 : mFor (mSeqI (mSeq .list (mCons (mSeq .tuple (mCons (mC .none) (mCons (mC (.str "form")) (mNil)))) (mCons (mSeq .tuple (mCons (mSeq .tuple (mNil)) (mCons (mC (.str "form")) (mNil)))) (mCons (mSeq .tuple (mCons (mSeq .tuple (mCons (mC (.int 51)) (mCons (mC .none) (mNil)))) (mCons (mC (.str "own")) (mNil)))) (mCons (mSeq .tuple (mCons (mBin dMul (mSeq .tuple (mCons (mC (.int 0)) (mCons (mSeq .tuple (mNil)) (mNil)))) (mC (.int 2))) (mCons (mC (.str "form")) (mNil)))) (mCons (mSeq .tuple (mCons (mSeq .tuple (mCons (mC (.int 0)) (mCons (mSeq .list (mCons (mSeq .tuple (mNil)) (mNil))) (mNil)))) (mCons (mC (.str "terms")) (mNil)))) (mNil)))))))) (gtTup 2 (gtCons (gtName 3) (gtCons (gtName 4) (gtNil)))) (mIf (mTest (mBin dNe (mCallB bRepr (mCons (mBin dMul (mSeq .list (mCons (mCallL f__law_outcome [3] none (mNewF f_need_bill (mVar 0)) (mNil)) (mNil))) (mC (.int 2))) (mNil))) (mCallB bRepr (mCons (mBin dMul (mSeq .list (mCons (mSeq .tuple (mCons (mC (.str "bill")) (mCons (mVar 4) (mNil)))) (mNil))) (mC (.int 2))) (mNil))))) (mRet (mC (.bool false))) ((fun g => .ok .nx g))) ⟨[some (.scr ns), some .m, none, none, none], ms0 ns⟩ = .ok .nx ⟨[some (.scr ns), some .m, none, some (.pu (.tuple [.int 0, .list [.tuple []]])), some (.pu (.str "terms"))], ms0 ns⟩ := by
    refine e_for (ds := [.tuple [.none, .str "form"], .tuple [.tuple [], .str "form"], .tuple [.tuple [.int 51, .none], .str "own"], .tuple [.tuple [.int 0, .tuple [], .int 0, .tuple []], .str "form"], .tuple [.tuple [.int 0, .list [.tuple []]], .str "terms"]]) (g1 := ⟨[some (.scr ns), some .m, none, none, none], ms0 ns⟩) rfl ?_
    refine for_cons (g1 := ⟨[some (.scr ns), some .m, none, some (.pu .none), some (.pu (.str "form"))], ms0 ns⟩) rfl (bill_odd rfl rfl (by kernel_rfl) fitd_str ns _ none) ?_
    refine for_cons (g1 := ⟨[some (.scr ns), some .m, none, some (.pu (.tuple [])), some (.pu (.str "form"))], ms0 ns⟩) rfl (bill_odd (by kernel_rfl) rfl (by kernel_rfl) fitd_str ns _ none) ?_
    refine for_cons (g1 := ⟨[some (.scr ns), some .m, none, some (.pu (.tuple [.int 51, .none])), some (.pu (.str "own"))], ms0 ns⟩) rfl (bill_odd (by kernel_rfl) rfl (by kernel_rfl) fitd_str ns _ none) ?_
    refine for_cons (g1 := ⟨[some (.scr ns), some .m, none, some (.pu (.tuple [.int 0, .tuple [], .int 0, .tuple []])), some (.pu (.str "form"))], ms0 ns⟩) rfl (bill_odd (by kernel_rfl) rfl (by kernel_rfl) fitd_str ns _ none) ?_
    exact for_cons (g1 := ⟨[some (.scr ns), some .m, none, some (.pu (.tuple [.int 0, .list [.tuple []]])), some (.pu (.str "terms"))], ms0 ns⟩) rfl (bill_odd (by kernel_rfl) rfl (by kernel_rfl) fitd_str ns _ none) rfl
  refine sat_step f0 ?_
  generalize some (DV.pu (.tuple [.int 0, .list [.tuple []]])) = a3
  generalize some (DV.pu (.str "terms")) = a4
  refine sat_seqR ?_
  refine (sat_for (ds := rangeD 0 (2 + min ns.length 5)) (g0 := ⟨[some (.scr ns), some .m, none, a3, a4], ms0 ns⟩)
    (fun j g => ∃ F a2 s, g = ⟨[some (.scr ns), some .m, a2, a3, a4], s⟩ ∧ Ok F (1000000 - 20000 * j) s) ?_ ⟨[], none, ms0 ns, rfl, ms0_ok (by decide)⟩ ?_ ?_)
  · have := rng1_of (j := (2 : Int) + ((min ns.length 5 : Nat) : Int)) (n := 2 + min ns.length 5) (by omega) (by omega)
    simp only [nd0, nd1, nd2, nd3, nd4, nd5, mSeqS, mIf, mTest, mBin, mMget, mC, mVar, mSet, mMset, mRet, mDrop, mCallB, mCons, mNil, mSeq, mNeg, mNotB, mNotV, mAndB, mOrB, mAndV, mOrV, mChain, mIsi, mPar2, mParNE, mParEN, mNew, mAug, mPart, mNoPart, mCut, mRange1, mRange2, mEnum, mZip, mSeqI, mCallF, Rs.bind_ok, Rs.of_some, Option.map_some, Option.bind_some, isM, asB, isOwn, dLt, dLe, dGt, dGe, dEq, dNe, dIs, dIsNot, isNon_non, isNon_int, dAdd, dAddI, dSub, dMul, dMod, dDiv, dPow, bInt, bLen, bTuple, bList, allP, Sg.put, List.getElem?_cons_zero, List.getElem?_cons_succ, List.set_cons_zero, List.set_cons_succ, if_true, if_false, Bool.false_eq_true, decide_true, decide_false, Bool.not_true, Bool.not_false, Bool.and_true, Bool.true_and, Bool.or_true, Bool.true_or, dLeft, dSpot, dCells, isiT, tyN, Bool.or_false, Bool.false_or, Bool.false_and, Bool.and_false, len0, cst0, len1, cst1, len2, cst2, len3, cst3, len4, cst4, len5, cst5, len6, cst6, len7, cst7, len8, cst8, len9, cst9, len10, cst10, len11, cst11, len12, cst12, big0, big1, big2, big3, big4, big5, big6, big7, big8, big9, big10, big11, big12, bMin, min5, this]
  · rintro j d g hd ⟨F, a2, s, rfl, ok⟩
    obtain ⟨hj, rfl⟩ := rangeD_get hd
    refine ⟨⟨[some (.scr ns), some .m, some (.pu (.int (0 + (j : Nat)))), a3, a4], s⟩, rfl, ?_⟩
    obtain ⟨d1, s1, e1, own, ts, rfl, g1, _, _, ok1⟩ := p__law_drawn_bill (n := 1000000 - 20000 * (j + 1)) (s := s) (k := 4) (ok.less (by omega)) (by omega) (by omega)
    obtain ⟨s2, o2, lr⟩ := p__law_right g1 s1
    obtain ⟨F2, ok2⟩ := o2 _ _ ok1
    refine ⟨.nx, ⟨[some (.scr ns), some .m, some (.pu (.int (0 + (j : Nat)))), a3, a4], s2⟩, ?_, .inl rfl, _, _, _, rfl, ok2⟩
    generalize billD own ts = BD at *
    decreasing_with fail
  · rintro g' ⟨F, a2, s, rfl, ok⟩
    obtain ⟨s2, fr⟩ := p__law_full_right s
    show Sat _ _
    exact ⟨_, ⟨[some (.scr ns), some .m, a2, a3, a4], s2⟩, by decreasing_with fail, rfl⟩
end DL
set_option Elab.async false
set_option linter.all false
set_option maxRecDepth 100000
set_option maxHeartbeats 4000000
set_option autoImplicit false
namespace DL
open PySem PySem.Spec L2
open PyProof.Rows hiding St
def etX (K : PySem.W.Frag) : ET := ⟨fun _ => 0, clsA nmX K, fldA flX, [], fun _ _ _ _ => False, fun _ _ _ _ _ _ h => h⟩
abbrev eL (P : Program) (w : World) (K : PySem.W.Frag) (mg : Str → Option Value) (base : Heap) : ET := etF (clsA nmX K) (fldA flX) (csOf K tqL).T P w K mg base 9
structure Tx (P : Program) (K : PySem.W.Frag) (mg : Str → Option Value) (base : Heap) : Prop where
  cls : clsB nmX flX "ResultError" "Nothing" K = true
  sys : SysOk K
  nd : ((csOf K tqL).map (·.2.1)).Nodup
  tb : ∀ p ∈ csOf K tqL, LamX.TabB base mg p.1 p.2.1
  m_ResultError : mg "ResultError" = some (.ref (He.ga K "ResultError"))
  m_BadRule : mg "BadRule" = some (.ref (He.ga K "BadRule"))
  m_BadRow : mg "BadRow" = some (.ref (He.ga K "BadRow"))
  m_BadBill : mg "BadBill" = some (.ref (He.ga K "BadBill"))
  m_BadNumber : mg "BadNumber" = some (.ref (He.ga K "BadNumber"))
  m_BadKind : mg "BadKind" = some (.ref (He.ga K "BadKind"))
  m_BadPaper : mg "BadPaper" = some (.ref (He.ga K "BadPaper"))
  m_BadText : mg "BadText" = some (.ref (He.ga K "BadText"))
  m_Nothing : mg "Nothing" = some (.ref (He.ga K "Nothing"))
  m__law_right : mg "_law_right" = some (.ref (He.ga K "_law_right"))
  m__law_full_right : mg "_law_full_right" = some (.ref (He.ga K "_law_full_right"))
  m_law : mg "law" = some (.ref (He.ga K "law"))
  x_BadRule : XCls P K mg (etX K) 0 "BadRule"
  x_BadRow : XCls P K mg (etX K) 1 "BadRow"
  x_BadBill : XCls P K mg (etX K) 2 "BadBill"
  x_BadNumber : XCls P K mg (etX K) 3 "BadNumber"
  x_BadKind : XCls P K mg (etX K) 4 "BadKind"
  x_BadPaper : XCls P K mg (etX K) 5 "BadPaper"
  x_BadText : XCls P K mg (etX K) 6 "BadText"
  x_Nothing : XCls P K mg (etX K) 7 "Nothing"
  d_is_whole : DefAt K mg "is_whole" s_is_whole
  d_first_wrong : DefAt K mg "first_wrong" s_first_wrong
  d_is_rule : DefAt K mg "is_rule" s_is_rule
  d_index_in : DefAt K mg "index_in" s_index_in
  d_is_term : DefAt K mg "is_term" s_is_term
  d_fault_of : DefAt K mg "fault_of" s_fault_of
  d_need_bill : DefAt K mg "need_bill" s_need_bill
  d_width_of : DefAt K mg "width_of" s_width_of
  d_paid_at : DefAt K mg "paid_at" s_paid_at
  d_pays_in : DefAt K mg "pays_in" s_pays_in
  d__law_begun : DefAt K mg "_law_begun" s__law_begun
  d__law_draw : DefAt K mg "_law_draw" s__law_draw
  d__law_of : DefAt K mg "_law_of" s__law_of
  d__law_weights : DefAt K mg "_law_weights" s__law_weights
  d__law_drawn_bill : DefAt K mg "_law_drawn_bill" s__law_drawn_bill
  d__law_word : DefAt K mg "_law_word" s__law_word
  d__law_outcome : DefAt K mg "_law_outcome" s__law_outcome
  d__law_refused : DefAt K mg "_law_refused" s__law_refused
  d__law_right : DefAt K mg "_law_right" s__law_right
  d__law_full_right : DefAt K mg "_law_full_right" s__law_full_right
  d_law : DefAt K mg "law" s_law
  fk : FilK K
  cb : callB K = true
  i_File : DefI K mg s_File___init__
  d_File_bill : DefP K "bill" s_File_bill
  d_File_row : DefP K "row" s_File_row
  d_File_add : DefM K "add" s_File_add
  d_File___call__ : DefM K "__call__" s_File___call__
  d_File_index : DefM K "index" s_File_index
  d_File_back : DefMK K "back" s_File_back
  d_File___len__ : DefM K "__len__" s_File___len__
  d_File___contains__ : DefM K "__contains__" s_File___contains__
  g_bool : mg "bool" = none
  g_enumerate : mg "enumerate" = none
  g_int : mg "int" = none
  g_isinstance : mg "isinstance" = none
  g_len : mg "len" = none
  g_list : mg "list" = none
  g_max : mg "max" = none
  g_min : mg "min" = none
  g_range : mg "range" = none
  g_repr : mg "repr" = none
  g_sorted : mg "sorted" = none
  g_sum : mg "sum" = none
  g_super : mg "super" = none
  g_tuple : mg "tuple" = none
  g_zip : mg "zip" = none
  c_MOST_OWN : ∃ t, mg "MOST_OWN" = some (.int (50) t)
  c_MOST_RESULT : ∃ t, mg "MOST_RESULT" = some (.int (1000000) t)
  c_MOST_RESULTS : ∃ t, mg "MOST_RESULTS" = some (.int (200) t)
  c_MOST_TERMS : ∃ t, mg "MOST_TERMS" = some (.int (2) t)
  c_MOST_WEIGHT : ∃ t, mg "MOST_WEIGHT" = some (.int (20) t)
  c_MOST_WEIGHTS : ∃ t, mg "MOST_WEIGHTS" = some (.int (6) t)
section
variable {P : Program} {w : World} {K : PySem.W.Frag} {mg : Str → Option Value} {base : Heap} {et : ET}
theorem sc__law_begun : FnScope ["script", "great", "cell"] ["script"] (defScope s__law_begun) := ⟨rfl, rfl, rfl, by decide +kernel, rfl, by decide +kernel, by decide +kernel⟩
theorem fg_begun (T : Tx P K mg base) : ∃ f fd, mg "_law_begun" = some (.ref f) ∧ PySem.W.keepIn K (.ref f) = true ∧ Binds K fd ["script"] [] ∧ FnG P w K mg base 1 f fd ["script"] (spBegun K) := by
  obtain ⟨f, fd, F, hm⟩ := T.d__law_begun
  refine ⟨f, fd, hm, F.kp, F.bindsN (fun _ _ _ _ _ _ us hl => match us, hl with | [_], _ => rfl), fnG_of (k := 0) F sc__law_begun (fun vs H Q E ⟨_, _, h, _⟩ => by rw [h]; rfl) fun cdv A outer s H vs Q E hr hgd hsp => ?_⟩
  obtain ⟨a, ns, rfl, hS, hl, k⟩ := hsp
  refine wss_of (pss_cons (ps_setLc (i := 1) (own := [("cell", 2)]) (g := gName 2) rfl sc__law_begun.nd rfl rfl (sw_true rfl rfl rfl (by decide +kernel)) (pi_list (pv 0)) (blkOk_by (N := ["script", "great", "cell"]) (sc := defScope s__law_begun) (own := [("cell", 2)]) (by decide +kernel))
      (fun _ _ _ _ _ => pg_name (i := 2) sc__law_begun.nd rfl (Or.inl rfl)) (fun _ _ _ _ _ => pts_one (pt_cmpR op_ge (pv 2) (pe_op op_pow pe_int pe_int) (nomark _))) (fun _ _ _ _ _ => pv 2))
    (pss_one (ps_ret (pe_disp (pps_cons pe_str (pe_op op_cat (pe_callTy call_list_of (by rfl) T.g_list (by decide +kernel) (pa_cons (pv 0) pa_nil)) (pe_lst (pa_cons (pe_callB call_len (by rfl) T.g_len (by decide +kernel) (pa_cons (pv 0) pa_nil)) pa_nil)))
      (pps_cons pe_str (pe_ifExp (pt_cmpR (op_neD hr.units) (pv 1) (pe_lst pa_nil) (nomark _)) (pe_ix ix_list (pv 1) pe_int (fun _ _ => rfl)) pe_int) (pps_cons pe_str pe_int pps_nil))) (by rfl) (by rfl) (fun z => by cases z) (by decide)))))
    (begun_read hS hl k)
abbrev n_is_whole : List Str := ["thing", "least", "most"]
theorem sc_is_whole : FnScope n_is_whole ["thing", "least", "most"] (defScope s_is_whole) := ⟨rfl, rfl, rfl, by decide +kernel, rfl, by decide +kernel, by decide +kernel⟩
theorem fc_is_whole (T : Tx P K mg base) : FnC P w K mg base (eL P w K mg base) 1 "is_whole" f_is_whole :=
  fnC_of (N := n_is_whole) (fb := b_is_whole) T.d_is_whole sc_is_whole (fun _ _ _ _ _ _ us hl => match us, hl with | [_, _, _], _ => rfl)
    fun f cdv A outer s H E C => dss_one (ds_ret (de_and (de_isi (T := "int") T.g_isinstance T.g_int (de_var 0)) (de_and (de_not (de_isi (T := "bool") T.g_isinstance T.g_bool (de_var 0))) (de_one (de_chain os_le os_le (de_var 1) (de_var 0) (de_var 2)) (fun h => pe_one h)))))
abbrev n_index_in : List Str := ["rule", "some", "weight", "result"]
theorem sc_index_in : FnScope n_index_in ["rule", "some"] (defScope s_index_in) := ⟨rfl, rfl, rfl, by decide +kernel, rfl, by decide +kernel, by decide +kernel⟩
theorem fc_index_in (T : Tx P K mg base) : FnC P w K mg base (eL P w K mg base) 1 "index_in" f_index_in :=
  fnC_of (N := n_index_in) (fb := b_index_in) T.d_index_in sc_index_in (fun _ _ _ _ _ _ us hl => match us, hl with | [_, _], _ => rfl)
    fun f cdv A outer s H E C => dss_one (ds_ret (de_callB (cs_sum rfl) T.g_sum (da_cons (de_lc (own := [("weight", 2), ("result", 3)]) (is := [2, 3]) C (blkOk_by (N := n_index_in) (sc := defScope s_index_in) (own := [("weight", 2), ("result", 3)]) (by decide +kernel)) (di_zip T.g_zip (da_cons (de_var 0) (da_cons (de_callB (cs_sorted C.u100) T.g_sorted (da_cons (de_var 1) (da_nil) (star_ok rfl))) (da_nil) (star_ok rfl)) (star_ok rfl))) ⟨fun _ _ _ _ _ => dg_tup (dgs_cons (dg_name (i := 2) (C.blk _ _ _ _ _).nd) (dgs_cons (dg_name (i := 3) (C.blk _ _ _ _ _).nd) (dgs_nil))), fun _ _ _ _ _ => dts_nil, fun _ _ _ _ _ => de_op os_mul (de_var 2) (de_var 3)⟩) (da_nil) (star_ok rfl))))
abbrev n_width_of : List Str := ["bill", "rule", "ahead", "behind"]
theorem sc_width_of : FnScope n_width_of ["bill"] (defScope s_width_of) := ⟨rfl, rfl, rfl, by decide +kernel, rfl, by decide +kernel, by decide +kernel⟩
theorem fc_width_of (T : Tx P K mg base) : FnC P w K mg base (eL P w K mg base) 1 "width_of" f_width_of :=
  fnC_of (N := n_width_of) (fb := b_width_of) T.d_width_of sc_width_of (fun _ _ _ _ _ _ us hl => match us, hl with | [_], _ => rfl)
    fun f cdv A outer s H E C => dss_one (ds_ret (de_callB (cs_max rfl C.u100) T.g_max (da_cons (de_op os_add (de_lst (da_cons (de_int) (da_nil) (star_ok rfl))) (de_lc (own := [("rule", 1), ("ahead", 2), ("behind", 3)]) (is := [1, 2, 3]) C (blkOk_by (N := n_width_of) (sc := defScope s_width_of) (own := [("rule", 1), ("ahead", 2), ("behind", 3)]) (by decide +kernel)) (di_seq (de_ix C (de_var 0) (de_int))) ⟨fun _ _ _ _ _ => dg_tup (dgs_cons (dg_name (i := 1) (C.blk _ _ _ _ _).nd) (dgs_cons (dg_name (i := 2) (C.blk _ _ _ _ _).nd) (dgs_cons (dg_name (i := 3) (C.blk _ _ _ _ _).nd) (dgs_nil)))), fun _ _ _ _ _ => dts_nil, fun _ _ _ _ _ => de_callB cs_len T.g_len (da_cons (de_var 1) (da_nil) (star_ok rfl))⟩)) (da_nil) (star_ok rfl))))
abbrev n__law_draw : List Str := ["m", "limit", "spot", "cell", "mixed", "found"]
theorem sc__law_draw : FnScope n__law_draw ["m", "limit"] (defScope s__law_draw) := ⟨rfl, rfl, rfl, by decide +kernel, rfl, by decide +kernel, by decide +kernel⟩
theorem fc__law_draw (T : Tx P K mg base) : FnC P w K mg base (eL P w K mg base) 1 "_law_draw" f__law_draw :=
  fnC_of (N := n__law_draw) (fb := b__law_draw) T.d__law_draw sc__law_draw (fun _ _ _ _ _ _ us hl => match us, hl with | [_, _], _ => rfl)
    fun f cdv A outer s H E C => dss_cons (ds_if (dt_cmp os_gt (de_mget 0 "left" dLeft C hk_left) (de_int)) (dss_cons (ds_set (i := 5) C.nd (de_op os_mod (de_callTy cs_int T.g_int (da_cons (de_mget 0 "left" dLeft C hk_left) (da_nil) (star_ok rfl))) (de_var 1))) (dss_cons (ds_mset 0 "left" (fun s n => { s with left := n }) C hs_left (de_op os_div (de_mget 0 "left" dLeft C hk_left) (de_var 1))) (dss_one (ds_ret (de_var 5))))) (dss_nil)) (dss_cons (ds_set (i := 2) C.nd (de_op os_add (de_mget 0 "spot" dSpot C hk_spot) (de_int))) (dss_cons (ds_mset 0 "spot" (fun s n => { s with spot := n }) C hs_spot (de_var 2)) (dss_cons (ds_set (i := 3) C.nd (de_ix C (de_mget 0 "cells" dCells C hk_cells) (de_op os_mod (de_callTy cs_int T.g_int (da_cons (de_var 2) (da_nil) (star_ok rfl))) (de_callB cs_len T.g_len (da_cons (de_mget 0 "cells" dCells C hk_cells) (da_nil) (star_ok rfl)))))) (dss_cons (ds_set (i := 4) C.nd (de_op os_mul (de_callTy cs_int T.g_int (da_cons (de_op os_add (de_op os_add (de_op os_mod (de_callTy cs_int T.g_int (da_cons (de_var 3) (da_nil) (star_ok rfl))) (de_int)) (de_op os_mul (de_int) (de_var 2))) (de_op os_mul (de_op os_mul (de_int) (de_var 2)) (de_var 2))) (da_nil) (star_ok rfl))) (de_int))) (dss_cons (ds_set (i := 4) C.nd (de_op os_mul (de_callTy cs_int T.g_int (da_cons (de_op os_add (de_op os_mod (de_callTy cs_int T.g_int (da_cons (de_var 4) (da_nil) (star_ok rfl))) (de_int)) (de_op os_mul (de_int) (de_var 2))) (da_nil) (star_ok rfl))) (de_int))) (dss_one (ds_ret (de_op os_mod (de_callTy cs_int T.g_int (da_cons (de_op os_div (de_op os_mod (de_callTy cs_int T.g_int (da_cons (de_var 4) (da_nil) (star_ok rfl))) (de_int)) (de_int)) (da_nil) (star_ok rfl))) (de_var 1)))))))))
abbrev n__law_word : List Str := ["error", "found"]
theorem sc__law_word : FnScope n__law_word ["error"] (defScope s__law_word) := ⟨rfl, rfl, rfl, by decide +kernel, rfl, by decide +kernel, by decide +kernel⟩
theorem fc__law_word (T : Tx P K mg base) : FnC P w K mg base (eL P w K mg base) 1 "_law_word" f__law_word :=
  fnC_of (N := n__law_word) (fb := b__law_word) T.d__law_word sc__law_word (fun _ _ _ _ _ _ us hl => match us, hl with | [_], _ => rfl)
    fun f cdv A outer s H E C => dss_cons (ds_new (i := 1) C.nd) (dss_cons (ds_if (dt_val (de_isX T.g_isinstance T.m_BadRule (fun _ _ e => clsB_isx T.cls e) (de_var 0))) (dss_one (ds_app (i := 1) (de_tup (da_cons (de_str) (da_cons (de_fld (fun _ e => clsB_fld T.cls e) (de_var 0)) (da_nil) (star_ok rfl)) (star_ok rfl))))) (dss_nil)) (dss_cons (ds_if (dt_val (de_isX T.g_isinstance T.m_BadRow (fun _ _ e => clsB_isx T.cls e) (de_var 0))) (dss_one (ds_app (i := 1) (de_tup (da_cons (de_str) (da_cons (de_fld (fun _ e => clsB_fld T.cls e) (de_var 0)) (da_nil) (star_ok rfl)) (star_ok rfl))))) (dss_nil)) (dss_cons (ds_if (dt_val (de_isX T.g_isinstance T.m_BadBill (fun _ _ e => clsB_isx T.cls e) (de_var 0))) (dss_one (ds_app (i := 1) (de_tup (da_cons (de_str) (da_cons (de_fld (fun _ e => clsB_fld T.cls e) (de_var 0)) (da_nil) (star_ok rfl)) (star_ok rfl))))) (dss_nil)) (dss_cons (ds_if (dt_val (de_isX T.g_isinstance T.m_BadNumber (fun _ _ e => clsB_isx T.cls e) (de_var 0))) (dss_one (ds_app (i := 1) (de_tup (da_cons (de_str) (da_cons (de_fld (fun _ e => clsB_fld T.cls e) (de_var 0)) (da_nil) (star_ok rfl)) (star_ok rfl))))) (dss_nil)) (dss_cons (ds_if (dt_val (de_isX T.g_isinstance T.m_BadKind (fun _ _ e => clsB_isx T.cls e) (de_var 0))) (dss_one (ds_app (i := 1) (de_tup (da_cons (de_str) (da_cons (de_fld (fun _ e => clsB_fld T.cls e) (de_var 0)) (da_nil) (star_ok rfl)) (star_ok rfl))))) (dss_nil)) (dss_cons (ds_if (dt_val (de_isX T.g_isinstance T.m_BadPaper (fun _ _ e => clsB_isx T.cls e) (de_var 0))) (dss_one (ds_app (i := 1) (de_tup (da_cons (de_str) (da_cons (de_fld (fun _ e => clsB_fld T.cls e) (de_var 0)) (da_nil) (star_ok rfl)) (star_ok rfl))))) (dss_nil)) (dss_cons (ds_if (dt_val (de_isX T.g_isinstance T.m_BadText (fun _ _ e => clsB_isx T.cls e) (de_var 0))) (dss_one (ds_app (i := 1) (de_tup (da_cons (de_str) (da_cons (de_fld (fun _ e => clsB_fld T.cls e) (de_var 0)) (da_nil) (star_ok rfl)) (star_ok rfl))))) (dss_nil)) (dss_cons (ds_if (dt_val (de_isX T.g_isinstance T.m_Nothing (fun _ _ e => clsB_isx T.cls e) (de_var 0))) (dss_one (ds_app (i := 1) (de_tup (da_cons (de_str) (da_cons (de_fld (fun _ e => clsB_fld T.cls e) (de_var 0)) (da_nil) (star_ok rfl)) (star_ok rfl))))) (dss_nil)) (dss_one (ds_ret (de_if (dt_cmp (os_eq C.u64) (de_callB cs_len T.g_len (da_cons (de_var 1) (da_nil) (star_ok rfl))) (de_int)) (de_ix C (de_var 1) (de_int)) (de_tup (da_cons (de_str) (da_cons (de_non) (da_nil) (star_ok rfl)) (star_ok rfl))))))))))))))
abbrev n_File_row : List Str := ["self"]
theorem sc_File_row : FnScope n_File_row ["self"] (defScope s_File_row) := ⟨rfl, rfl, rfl, by decide +kernel, rfl, by decide +kernel, by decide +kernel⟩
theorem fp_File_row (T : Tx P K mg base) : FnP P w K mg base (eL P w K mg base) 1 "row" f_File_row :=
  fnP_of (N := n_File_row) (fb := b_File_row) T.d_File_row sc_File_row (fun _ _ _ _ _ _ us hl => match us, hl with | [_], _ => rfl)
    fun f cdv A outer s H E C => dss_one (ds_ret (de_frow T.fk (de_var 0)))
abbrev n_File___len__ : List Str := ["self"]
theorem sc_File___len__ : FnScope n_File___len__ ["self"] (defScope s_File___len__) := ⟨rfl, rfl, rfl, by decide +kernel, rfl, by decide +kernel, by decide +kernel⟩
theorem fm_File___len__ (T : Tx P K mg base) : FnM P w K mg base (eL P w K mg base) 1 "__len__" f_File___len__ :=
  fnM_of (N := n_File___len__) (fb := b_File___len__) T.d_File___len__ sc_File___len__ (fun _ _ _ _ _ _ us hl => match us, hl with | [_], _ => rfl)
    fun f cdv A outer s H E C => dss_one (ds_ret (de_callB cs_len T.g_len (da_cons (de_frow T.fk (de_var 0)) (da_nil) (star_ok rfl))))
abbrev n_first_wrong : List Str := ["thing", "least", "most", "number", "one"]
theorem sc_first_wrong : FnScope n_first_wrong ["thing", "least", "most"] (defScope s_first_wrong) := ⟨rfl, rfl, rfl, by decide +kernel, rfl, by decide +kernel, by decide +kernel⟩
theorem fc_first_wrong (T : Tx P K mg base) : FnC P w K mg base (eL P w K mg base) 2 "first_wrong" f_first_wrong :=
  fnC_of (N := n_first_wrong) (fb := b_first_wrong) T.d_first_wrong sc_first_wrong (fun _ _ _ _ _ _ us hl => match us, hl with | [_, _, _], _ => rfl)
    fun f cdv A outer s H E C => dss_cons (ds_for (is := [3, 4]) C (di_enum T.g_enumerate (de_var 0)) (dg_tup (dgs_cons (dg_name (i := 3) C.nd) (dgs_cons (dg_name (i := 4) C.nd) (dgs_nil)))) (dss_one (ds_if (dt_not (dt_val (de_call C (fc_is_whole T) (by decide) (da_cons (de_var 4) (da_cons (de_var 1) (da_cons (de_var 2) (da_nil) (star_ok rfl)) (star_ok rfl)) (star_ok rfl))))) (dss_one (ds_ret (de_var 3))) (dss_nil)))) (dss_one (ds_ret (de_non)))
abbrev n_paid_at : List Str := ["bill", "row", "spot", "found", "rule", "ahead", "behind"]
theorem sc_paid_at : FnScope n_paid_at ["bill", "row", "spot"] (defScope s_paid_at) := ⟨rfl, rfl, rfl, by decide +kernel, rfl, by decide +kernel, by decide +kernel⟩
theorem fc_paid_at (T : Tx P K mg base) : FnC P w K mg base (eL P w K mg base) 2 "paid_at" f_paid_at :=
  fnC_of (N := n_paid_at) (fb := b_paid_at) T.d_paid_at sc_paid_at (fun _ _ _ _ _ _ us hl => match us, hl with | [_, _, _], _ => rfl)
    fun f cdv A outer s H E C => dss_cons (ds_set (i := 3) C.nd (de_op os_mul (de_ix C (de_var 0) (de_int)) (de_ix C (de_var 1) (de_var 2)))) (dss_cons (ds_for (is := [4, 5, 6]) C (di_seq (de_ix C (de_var 0) (de_int))) (dg_tup (dgs_cons (dg_name (i := 4) C.nd) (dgs_cons (dg_name (i := 5) C.nd) (dgs_cons (dg_name (i := 6) C.nd) (dgs_nil))))) (dss_cons (ds_augAdd (i := 3) C.nd (de_op os_mul (de_var 5) (de_call C (fc_index_in T) (by decide) (da_cons (de_var 4) (da_cons (de_cut (de_var 1) (do_some (de_op os_sub (de_var 2) (de_callB cs_len T.g_len (da_cons (de_var 4) (da_nil) (star_ok rfl))))) (do_some (de_var 2))) (da_nil) (star_ok rfl)) (star_ok rfl))))) (dss_one (ds_augAdd (i := 3) C.nd (de_op os_mul (de_var 6) (de_call C (fc_index_in T) (by decide) (da_cons (de_var 4) (da_cons (de_cut (de_var 1) (do_some (de_op os_sub (de_op os_add (de_var 2) (de_int)) (de_callB cs_len T.g_len (da_cons (de_var 4) (da_nil) (star_ok rfl))))) (do_some (de_op os_add (de_var 2) (de_int)))) (da_nil) (star_ok rfl)) (star_ok rfl)))))))) (dss_one (ds_ret (de_var 3))))
abbrev n__law_of : List Str := ["m", "some"]
theorem sc__law_of : FnScope n__law_of ["m", "some"] (defScope s__law_of) := ⟨rfl, rfl, rfl, by decide +kernel, rfl, by decide +kernel, by decide +kernel⟩
theorem fc__law_of (T : Tx P K mg base) : FnC P w K mg base (eL P w K mg base) 2 "_law_of" f__law_of :=
  fnC_of (N := n__law_of) (fb := b__law_of) T.d__law_of sc__law_of (fun _ _ _ _ _ _ us hl => match us, hl with | [_, _], _ => rfl)
    fun f cdv A outer s H E C => dss_one (ds_ret (de_ix C (de_var 1) (de_call C (fc__law_draw T) (by decide) (da_cons (de_var 0) (da_cons (de_callB cs_len T.g_len (da_cons (de_var 1) (da_nil) (star_ok rfl))) (da_nil) (star_ok rfl)) (star_ok rfl)))))
abbrev n__law_weights : List Str := ["m", "most", "wide", "some", "k"]
theorem sc__law_weights : FnScope n__law_weights ["m", "most"] (defScope s__law_weights) := ⟨rfl, rfl, rfl, by decide +kernel, rfl, by decide +kernel, by decide +kernel⟩
theorem fc__law_weights (T : Tx P K mg base) : FnC P w K mg base (eL P w K mg base) 2 "_law_weights" f__law_weights :=
  fnC_of (N := n__law_weights) (fb := b__law_weights) T.d__law_weights sc__law_weights (fun _ _ _ _ _ _ us hl => match us, hl with | [_, _], _ => rfl)
    fun f cdv A outer s H E C => dss_cons (ds_set (i := 2) C.nd (de_call C (fc__law_draw T) (by decide) (da_cons (de_var 0) (da_cons (de_int) (da_nil) (star_ok rfl)) (star_ok rfl)))) (dss_cons (ds_setLc (i := 3) (own := [("k", 4)]) (is := [4]) C (blkOk_by (N := n__law_weights) (sc := defScope s__law_weights) (own := [("k", 4)]) (by decide +kernel)) (di_range1 T.g_range (da_cons (de_op os_add (de_int) (de_call C (fc__law_draw T) (by decide) (da_cons (de_var 0) (da_cons (de_var 1) (da_nil) (star_ok rfl)) (star_ok rfl)))) (da_nil) (star_ok rfl))) ⟨fun _ _ _ _ _ => dg_name (i := 4) (C.blk _ _ _ _ _).nd, fun _ _ _ _ _ => dts_nil, fun _ _ _ _ _ => de_if (dt_cmp (os_eq (C.blk _ _ _ _ _).u64) (de_var 2) (de_int)) (de_op os_sub (de_call (C.blk _ _ _ _ _) (fc__law_draw T) (by decide) (da_cons (de_var 0) (da_cons (de_int) (da_nil) (star_ok rfl)) (star_ok rfl))) (de_int)) (de_call (C.blk _ _ _ _ _) (fc__law_draw T) (by decide) (da_cons (de_var 0) (da_cons (de_int) (da_nil) (star_ok rfl)) (star_ok rfl)))⟩) (dss_one (ds_ret (de_callTy cs_tuple T.g_tuple (da_cons (de_var 3) (da_nil) (star_ok rfl))))))
abbrev n_is_rule : List Str := ["thing"]
theorem sc_is_rule : FnScope n_is_rule ["thing"] (defScope s_is_rule) := ⟨rfl, rfl, rfl, by decide +kernel, rfl, by decide +kernel, by decide +kernel⟩
theorem fc_is_rule (T : Tx P K mg base) : FnC P w K mg base (eL P w K mg base) 3 "is_rule" f_is_rule :=
  fnC_of (N := n_is_rule) (fb := b_is_rule) T.d_is_rule sc_is_rule (fun _ _ _ _ _ _ us hl => match us, hl with | [_], _ => rfl)
    fun f cdv A outer s H E C => dss_cons (ds_if ((DW.dt (dw_or (dt_not (dt_val (de_isi (T := "tuple") T.g_isinstance T.g_tuple (de_var 0)))) (dw_or1 (dt_not (dt_chain os_le os_le (de_int) (de_callB cs_len T.g_len (da_cons (de_var 0) (da_nil) (star_ok rfl))) (de_gint T.c_MOST_WEIGHTS))))))) (dss_one (ds_ret (de_bl))) (dss_nil)) (dss_one (ds_ret (de_cmp os_is (de_call C (fc_first_wrong T) (by decide) (da_cons (de_var 0) (da_cons (de_op os_sub (de_int) (de_gint T.c_MOST_WEIGHT)) (da_cons (de_gint T.c_MOST_WEIGHT) (da_nil) (star_ok rfl)) (star_ok rfl)) (star_ok rfl))) (de_non))))
abbrev n_pays_in : List Str := ["bill", "row", "spot"]
theorem sc_pays_in : FnScope n_pays_in ["bill", "row"] (defScope s_pays_in) := ⟨rfl, rfl, rfl, by decide +kernel, rfl, by decide +kernel, by decide +kernel⟩
theorem fc_pays_in (T : Tx P K mg base) : FnC P w K mg base (eL P w K mg base) 3 "pays_in" f_pays_in :=
  fnC_of (N := n_pays_in) (fb := b_pays_in) T.d_pays_in sc_pays_in (fun _ _ _ _ _ _ us hl => match us, hl with | [_, _], _ => rfl)
    fun f cdv A outer s H E C => dss_one (ds_ret (de_lc (own := [("spot", 2)]) (is := [2]) C (blkOk_by (N := n_pays_in) (sc := defScope s_pays_in) (own := [("spot", 2)]) (by decide +kernel)) (di_range2 T.g_range (da_cons (de_call C (fc_width_of T) (by decide) (da_cons (de_var 0) (da_nil) (star_ok rfl))) (da_cons (de_callB cs_len T.g_len (da_cons (de_var 1) (da_nil) (star_ok rfl))) (da_nil) (star_ok rfl)) (star_ok rfl))) ⟨fun _ _ _ _ _ => dg_name (i := 2) (C.blk _ _ _ _ _).nd, fun _ _ _ _ _ => dts_nil, fun _ _ _ _ _ => de_call (C.blk _ _ _ _ _) (fc_paid_at T) (by decide) (da_cons (de_var 0) (da_cons (de_var 1) (da_cons (de_var 2) (da_nil) (star_ok rfl)) (star_ok rfl)) (star_ok rfl))⟩))
abbrev n__law_drawn_bill : List Str := ["m", "most", "k", "own", "terms"]
theorem sc__law_drawn_bill : FnScope n__law_drawn_bill ["m", "most"] (defScope s__law_drawn_bill) := ⟨rfl, rfl, rfl, by decide +kernel, rfl, by decide +kernel, by decide +kernel⟩
theorem fc__law_drawn_bill (T : Tx P K mg base) : FnC P w K mg base (eL P w K mg base) 3 "_law_drawn_bill" f__law_drawn_bill :=
  fnC_of (N := n__law_drawn_bill) (fb := b__law_drawn_bill) T.d__law_drawn_bill sc__law_drawn_bill (fun _ _ _ _ _ _ us hl => match us, hl with | [_, _], _ => rfl)
    fun f cdv A outer s H E C => dss_cons (ds_parEN (i := 3) (j := 4) C.nd (de_call C (fc__law_of T) (by decide) (da_cons (de_var 0) (da_cons (de_lst (da_cons (de_int) (da_cons (de_int) (da_cons (de_int) (da_cons (de_neg (de_int)) (da_cons (de_op os_sub (de_call C (fc__law_draw T) (by decide) (da_cons (de_var 0) (da_cons (de_int) (da_nil) (star_ok rfl)) (star_ok rfl))) (de_int)) (da_nil) (star_ok rfl)) (star_ok rfl)) (star_ok rfl)) (star_ok rfl)) (star_ok rfl))) (da_nil) (star_ok rfl)) (star_ok rfl)))) (dss_cons (ds_for (is := [2]) C (di_range1 T.g_range (da_cons (de_call C (fc__law_draw T) (by decide) (da_cons (de_var 0) (da_cons (de_int) (da_nil) (star_ok rfl)) (star_ok rfl))) (da_nil) (star_ok rfl))) (dg_name (i := 2) C.nd) (dss_one (ds_app (i := 4) (de_tup (da_cons (de_call C (fc__law_weights T) (by decide) (da_cons (de_var 0) (da_cons (de_var 1) (da_nil) (star_ok rfl)) (star_ok rfl))) (da_cons (de_op os_sub (de_call C (fc__law_draw T) (by decide) (da_cons (de_var 0) (da_cons (de_int) (da_nil) (star_ok rfl)) (star_ok rfl))) (de_int)) (da_cons (de_op os_sub (de_call C (fc__law_draw T) (by decide) (da_cons (de_var 0) (da_cons (de_int) (da_nil) (star_ok rfl)) (star_ok rfl))) (de_int)) (da_nil) (star_ok rfl)) (star_ok rfl)) (star_ok rfl)))))) (dss_one (ds_ret (de_tup (da_cons (de_var 3) (da_cons (de_callTy cs_tuple T.g_tuple (da_cons (de_var 4) (da_nil) (star_ok rfl))) (da_nil) (star_ok rfl)) (star_ok rfl))))))
abbrev n_is_term : List Str := ["thing"]
theorem sc_is_term : FnScope n_is_term ["thing"] (defScope s_is_term) := ⟨rfl, rfl, rfl, by decide +kernel, rfl, by decide +kernel, by decide +kernel⟩
theorem fc_is_term (T : Tx P K mg base) : FnC P w K mg base (eL P w K mg base) 4 "is_term" f_is_term :=
  fnC_of (N := n_is_term) (fb := b_is_term) T.d_is_term sc_is_term (fun _ _ _ _ _ _ us hl => match us, hl with | [_], _ => rfl)
    fun f cdv A outer s H E C => dss_cons (ds_if ((DW.dt (dw_or (dt_not (dt_val (de_isi (T := "tuple") T.g_isinstance T.g_tuple (de_var 0)))) (dw_or (dt_cmp (os_ne C.u64) (de_callB cs_len T.g_len (da_cons (de_var 0) (da_nil) (star_ok rfl))) (de_int)) (dw_or1 (dt_not (dt_val (de_call C (fc_is_rule T) (by decide) (da_cons (de_ix C (de_var 0) (de_int)) (da_nil) (star_ok rfl)))))))))) (dss_one (ds_ret (de_bl))) (dss_nil)) (dss_one (ds_ret (de_and (de_call C (fc_is_whole T) (by decide) (da_cons (de_ix C (de_var 0) (de_int)) (da_cons (de_op os_sub (de_int) (de_gint T.c_MOST_OWN)) (da_cons (de_gint T.c_MOST_OWN) (da_nil) (star_ok rfl)) (star_ok rfl)) (star_ok rfl))) (de_one (de_call C (fc_is_whole T) (by decide) (da_cons (de_ix C (de_var 0) (de_int)) (da_cons (de_op os_sub (de_int) (de_gint T.c_MOST_OWN)) (da_cons (de_gint T.c_MOST_OWN) (da_nil) (star_ok rfl)) (star_ok rfl)) (star_ok rfl))) (fun h => pe_one h)))))
abbrev n_File_add : List Str := ["self", "result", "spot"]
theorem sc_File_add : FnScope n_File_add ["self", "result"] (defScope s_File_add) := ⟨rfl, rfl, rfl, by decide +kernel, rfl, by decide +kernel, by decide +kernel⟩
theorem fm_File_add (T : Tx P K mg base) : FnM P w K mg base (eL P w K mg base) 4 "add" f_File_add :=
  fnM_of (N := n_File_add) (fb := b_File_add) T.d_File_add sc_File_add (fun _ _ _ _ _ _ us hl => match us, hl with | [_, _], _ => rfl)
    fun f cdv A outer s H E C => dss_cons (ds_if (dt_not (dt_val (de_call C (fc_is_whole T) (by decide) (da_cons (de_var 1) (da_cons (de_int) (da_cons (de_gint T.c_MOST_RESULT) (da_nil) (star_ok rfl)) (star_ok rfl)) (star_ok rfl))))) (dss_one (ds_raise C ((T.x_BadNumber).at rfl rfl) T.g_super (de_var 1))) (dss_nil)) (dss_cons (ds_if (dt_cmp (os_eq C.u64) (de_callB cs_len T.g_len (da_cons (de_frow T.fk (de_var 0)) (da_nil) (star_ok rfl))) (de_gint T.c_MOST_RESULTS)) (dss_one (ds_raise C ((T.x_Nothing).at rfl rfl) T.g_super (de_gint T.c_MOST_RESULTS))) (dss_nil)) (dss_cons (ds_set (i := 2) C.nd (de_callB cs_len T.g_len (da_cons (de_frow T.fk (de_var 0)) (da_nil) (star_ok rfl)))) (dss_cons (ds_frow T.fk (de_var 0) (de_tup (da_star (de_frow T.fk (de_var 0)) (da_cons (de_var 1) (da_nil) (star_ok rfl))))) (dss_one (ds_ret (de_if (dt_cmp os_ge (de_var 2) (de_call C (fc_width_of T) (by decide) (da_cons (de_fbill T.fk (de_var 0)) (da_nil) (star_ok rfl)))) (de_call C (fc_paid_at T) (by decide) (da_cons (de_fbill T.fk (de_var 0)) (da_cons (de_frow T.fk (de_var 0)) (da_cons (de_var 2) (da_nil) (star_ok rfl)) (star_ok rfl)) (star_ok rfl))) (de_non)))))))
abbrev n_File___call__ : List Str := ["self"]
theorem sc_File___call__ : FnScope n_File___call__ ["self"] (defScope s_File___call__) := ⟨rfl, rfl, rfl, by decide +kernel, rfl, by decide +kernel, by decide +kernel⟩
theorem fm_File___call__ (T : Tx P K mg base) : FnM P w K mg base (eL P w K mg base) 4 "__call__" f_File___call__ :=
  fnM_of (N := n_File___call__) (fb := b_File___call__) T.d_File___call__ sc_File___call__ (fun _ _ _ _ _ _ us hl => match us, hl with | [_], _ => rfl)
    fun f cdv A outer s H E C => dss_cons (ds_if (dt_cmp os_lt (de_callB cs_len T.g_len (da_cons (de_frow T.fk (de_var 0)) (da_nil) (star_ok rfl))) (de_call C (fc_width_of T) (by decide) (da_cons (de_fbill T.fk (de_var 0)) (da_nil) (star_ok rfl)))) (dss_one (ds_ret (de_non))) (dss_nil)) (dss_one (ds_ret (de_callB (cs_sum rfl) T.g_sum (da_cons (de_call C (fc_pays_in T) (by decide) (da_cons (de_fbill T.fk (de_var 0)) (da_cons (de_frow T.fk (de_var 0)) (da_nil) (star_ok rfl)) (star_ok rfl))) (da_nil) (star_ok rfl)))))
abbrev n_File_index : List Str := ["self", "number", "rule"]
theorem sc_File_index : FnScope n_File_index ["self", "number"] (defScope s_File_index) := ⟨rfl, rfl, rfl, by decide +kernel, rfl, by decide +kernel, by decide +kernel⟩
theorem fm_File_index (T : Tx P K mg base) : FnM P w K mg base (eL P w K mg base) 4 "index" f_File_index :=
  fnM_of (N := n_File_index) (fb := b_File_index) T.d_File_index sc_File_index (fun _ _ _ _ _ _ us hl => match us, hl with | [_, _], _ => rfl)
    fun f cdv A outer s H E C => dss_cons (ds_if (dt_not (dt_val (de_call C (fc_is_whole T) (by decide) (da_cons (de_var 1) (da_cons (de_int) (da_cons (de_op os_sub (de_callB cs_len T.g_len (da_cons (de_ix C (de_fbill T.fk (de_var 0)) (de_int)) (da_nil) (star_ok rfl))) (de_int)) (da_nil) (star_ok rfl)) (star_ok rfl)) (star_ok rfl))))) (dss_one (ds_raise C ((T.x_BadNumber).at rfl rfl) T.g_super (de_var 1))) (dss_nil)) (dss_cons (ds_set (i := 2) C.nd (de_ix C (de_ix C (de_ix C (de_fbill T.fk (de_var 0)) (de_int)) (de_var 1)) (de_int))) (dss_cons (ds_if (dt_cmp os_lt (de_callB cs_len T.g_len (da_cons (de_frow T.fk (de_var 0)) (da_nil) (star_ok rfl))) (de_callB cs_len T.g_len (da_cons (de_var 2) (da_nil) (star_ok rfl)))) (dss_one (ds_ret (de_non))) (dss_nil)) (dss_one (ds_ret (de_call C (fc_index_in T) (by decide) (da_cons (de_var 2) (da_cons (de_cut (de_frow T.fk (de_var 0)) (do_some (de_op os_sub (de_callB cs_len T.g_len (da_cons (de_frow T.fk (de_var 0)) (da_nil) (star_ok rfl))) (de_callB cs_len T.g_len (da_cons (de_var 2) (da_nil) (star_ok rfl))))) (do_none)) (da_nil) (star_ok rfl)) (star_ok rfl)))))))
abbrev n_File_back : List Str := ["self", "many"]
theorem sc_File_back : FnScope n_File_back ["self", "many"] (defScope s_File_back) := ⟨rfl, rfl, rfl, by decide +kernel, rfl, by decide +kernel, by decide +kernel⟩
theorem fm_File_back (T : Tx P K mg base) : FnMK P w K mg base (eL P w K mg base) 4 "back" f_File_back :=
  fnMK_of (N := n_File_back) (fb := b_File_back) T.d_File_back sc_File_back (fun D doc pm an cdv ct us ks hu hk => match us, ks, hu, hk with | [_], [_], _, _ => ⟨_, _, _, _, _, _, rfl, rfl, rfl⟩) (fun D doc pm an cdv ct us ws hu hw => match us, ws, hu, hw with | [_], [_], _, _ => rfl)
    fun f cdv A outer s H E C => dss_cons (ds_if ((DW.dt (dw_or (dt_not (dt_val (de_isi (T := "int") T.g_isinstance T.g_int (de_var 1)))) (dw_or (dt_val (de_isi (T := "bool") T.g_isinstance T.g_bool (de_var 1))) (dw_or1 (dt_cmp os_lt (de_var 1) (de_int))))))) (dss_one (ds_raise C ((T.x_BadNumber).at rfl rfl) T.g_super (de_var 1))) (dss_nil)) (dss_cons (ds_if (dt_cmp os_gt (de_var 1) (de_callB cs_len T.g_len (da_cons (de_frow T.fk (de_var 0)) (da_nil) (star_ok rfl)))) (dss_one (ds_raise C ((T.x_Nothing).at rfl rfl) T.g_super (de_var 1))) (dss_nil)) (dss_one (ds_frow T.fk (de_var 0) (de_cut (de_frow T.fk (de_var 0)) (do_none) (do_some (de_op os_sub (de_callB cs_len T.g_len (da_cons (de_frow T.fk (de_var 0)) (da_nil) (star_ok rfl))) (de_var 1)))))))
abbrev n_fault_of : List Str := ["thing", "number", "term"]
theorem sc_fault_of : FnScope n_fault_of ["thing"] (defScope s_fault_of) := ⟨rfl, rfl, rfl, by decide +kernel, rfl, by decide +kernel, by decide +kernel⟩
theorem fc_fault_of (T : Tx P K mg base) : FnC P w K mg base (eL P w K mg base) 5 "fault_of" f_fault_of :=
  fnC_of (N := n_fault_of) (fb := b_fault_of) T.d_fault_of sc_fault_of (fun _ _ _ _ _ _ us hl => match us, hl with | [_], _ => rfl)
    fun f cdv A outer s H E C => dss_cons (ds_if ((DW.dt (dw_or (dt_not (dt_val (de_isi (T := "tuple") T.g_isinstance T.g_tuple (de_var 0)))) (dw_or1 (dt_cmp (os_ne C.u64) (de_callB cs_len T.g_len (da_cons (de_var 0) (da_nil) (star_ok rfl))) (de_int)))))) (dss_one (ds_ret (de_lst (da_cons (de_str) (da_nil) (star_ok rfl))))) (dss_nil)) (dss_cons (ds_if (dt_not (dt_val (de_call C (fc_is_whole T) (by decide) (da_cons (de_ix C (de_var 0) (de_int)) (da_cons (de_op os_sub (de_int) (de_gint T.c_MOST_OWN)) (da_cons (de_gint T.c_MOST_OWN) (da_nil) (star_ok rfl)) (star_ok rfl)) (star_ok rfl))))) (dss_one (ds_ret (de_lst (da_cons (de_str) (da_nil) (star_ok rfl))))) (dss_nil)) (dss_cons (ds_if ((DW.dt (dw_or (dt_not (dt_val (de_isi (T := "tuple") T.g_isinstance T.g_tuple (de_ix C (de_var 0) (de_int))))) (dw_or1 (dt_cmp os_gt (de_callB cs_len T.g_len (da_cons (de_ix C (de_var 0) (de_int)) (da_nil) (star_ok rfl))) (de_gint T.c_MOST_TERMS)))))) (dss_one (ds_ret (de_lst (da_cons (de_str) (da_nil) (star_ok rfl))))) (dss_nil)) (dss_one (ds_ret (de_cut (de_lc (own := [("number", 1), ("term", 2)]) (is := [1, 2]) C (blkOk_by (N := n_fault_of) (sc := defScope s_fault_of) (own := [("number", 1), ("term", 2)]) (by decide +kernel)) (di_enum T.g_enumerate (de_ix C (de_var 0) (de_int))) ⟨fun _ _ _ _ _ => dg_tup (dgs_cons (dg_name (i := 1) (C.blk _ _ _ _ _).nd) (dgs_cons (dg_name (i := 2) (C.blk _ _ _ _ _).nd) (dgs_nil))), fun _ _ _ _ _ => dts_one (dt_not (dt_val (de_call (C.blk _ _ _ _ _) (fc_is_term T) (by decide) (da_cons (de_var 2) (da_nil) (star_ok rfl))))), fun _ _ _ _ _ => de_var 1⟩) (do_none) (do_some (de_int)))))))
theorem sc_File___init__ : FnScope ["self", "bill"] ["self", "bill"] (defScope s_File___init__) := ⟨rfl, rfl, rfl, by decide +kernel, rfl, by decide +kernel, by decide +kernel⟩
abbrev n_need_bill : List Str := ["thing", "fault"]
theorem sc_need_bill : FnScope n_need_bill ["thing"] (defScope s_need_bill) := ⟨rfl, rfl, rfl, by decide +kernel, rfl, by decide +kernel, by decide +kernel⟩
theorem fc_need_bill (T : Tx P K mg base) : FnC P w K mg base (eL P w K mg base) 6 "need_bill" f_need_bill :=
  fnC_of (N := n_need_bill) (fb := b_need_bill) T.d_need_bill sc_need_bill (fun _ _ _ _ _ _ us hl => match us, hl with | [_], _ => rfl)
    fun f cdv A outer s H E C => dss_cons (ds_set (i := 1) C.nd (de_call C (fc_fault_of T) (by decide) (da_cons (de_var 0) (da_nil) (star_ok rfl)))) (dss_cons (ds_if (dt_cmp (os_ne C.u64) (de_var 1) (de_lst (da_nil))) (dss_one (ds_raise C ((T.x_BadBill).at rfl rfl) T.g_super (de_ix C (de_var 1) (de_int)))) (dss_nil)) (dss_one (ds_ret (de_var 0))))
theorem ff_File (T : Tx P K mg base) : FnFile P w K mg base (eL P w K mg base) 7 f_need_bill :=
  fnFile_of (j := 6) T.i_File T.fk sc_File___init__ (fun _ _ _ _ _ _ us hl => match us, hl with | [_, _], _ => rfl) ⟨_, _, _, _, _, _, _, _, _, _, _, rfl⟩ (fc_need_bill T) (by decide) (by decide) (fun _ _ _ _ _ _ _ => rfl) (fun _ _ h => if_neg h)
abbrev n__law_outcome : List Str := ["call", "found", "error", "e"]
theorem sc__law_outcome : FnScope n__law_outcome ["call"] (defScope s__law_outcome) := ⟨rfl, rfl, rfl, by decide +kernel, rfl, by decide +kernel, by decide +kernel⟩
theorem fc__law_outcome (T : Tx P K mg base) : FnC P w K mg base (eL P w K mg base) 10 "_law_outcome" f__law_outcome :=
  fnC_of (N := n__law_outcome) (fb := b__law_outcome) T.d__law_outcome sc__law_outcome (fun _ _ _ _ _ _ us hl => match us, hl with | [_], _ => rfl)
    fun f cdv A outer s H E C => dss_cons (ds_asg (is := [1, 2]) (de_tup (da_cons (de_non) (da_cons (de_non) (da_nil) (star_ok rfl)) (star_ok rfl))) (dg_tup (dgs_cons (dg_name (i := 1) C.nd) (dgs_cons (dg_name (i := 2) C.nd) (dgs_nil))))) (dss_cons (ds_try (i := 3) (j := 2) C rfl rfl rfl T.m_ResultError T.m_Nothing (fun _ e => clsB_exm T.cls e) (fun _ _ _ C2 => dss_one (ds_set (i := 1) C2.nd (de_callC (i := 0) C2 rfl (by decide))))) (dss_one (ds_ret (de_if (dt_isN (de_var 2)) (de_lst (da_cons (de_var 1) (da_nil) (star_ok rfl))) (de_call C (fc__law_word T) (by decide) (da_cons (de_var 2) (da_nil) (star_ok rfl)))))))
abbrev n__law_refused : List Str := ["one", "call", "due", "kept"]
theorem sc__law_refused : FnScope n__law_refused ["one", "call", "due"] (defScope s__law_refused) := ⟨rfl, rfl, rfl, by decide +kernel, rfl, by decide +kernel, by decide +kernel⟩
theorem fc__law_refused (T : Tx P K mg base) : FnC P w K mg base (eL P w K mg base) 11 "_law_refused" fx17__law_refused :=
  fnC_of (N := n__law_refused) (fb := bx17__law_refused) T.d__law_refused sc__law_refused (fun _ _ _ _ _ _ us hl => match us, hl with | [_, _, _], _ => rfl)
    fun f cdv A outer s H E C => dss_cons (ds_set (i := 3) C.nd (de_callB (cs_repr T.sys C.hg C.u100) T.g_repr (da_cons (de_lst (da_cons (de_prop C T.fk (fp_File_row T) (by decide) (de_var 0)) (da_cons (de_fcall (n := 0) C (fm_File___call__ T) (callB_ok T.cb) (by decide) (de_var 0)) (da_nil) (star_ok rfl)) (star_ok rfl))) (da_nil) (star_ok rfl)))) (dss_one (ds_ret (de_and (de_cmp (os_eq C.u64) (de_callB (cs_repr T.sys C.hg C.u100) T.g_repr (da_cons (de_lst (da_cons (de_call C (fc__law_outcome T) (by decide) (da_cons (de_var 1) (da_nil) (star_ok rfl))) (da_cons (de_call C (fc__law_outcome T) (by decide) (da_cons (de_var 1) (da_nil) (star_ok rfl))) (da_nil) (star_ok rfl)) (star_ok rfl))) (da_nil) (star_ok rfl))) (de_callB (cs_repr T.sys C.hg C.u100) T.g_repr (da_cons (de_lst (da_cons (de_var 2) (da_cons (de_var 2) (da_nil) (star_ok rfl)) (star_ok rfl))) (da_nil) (star_ok rfl)))) (de_one (de_cmp (os_eq C.u64) (de_callB (cs_repr T.sys C.hg C.u100) T.g_repr (da_cons (de_lst (da_cons (de_prop C T.fk (fp_File_row T) (by decide) (de_var 0)) (da_cons (de_fcall (n := 0) C (fm_File___call__ T) (callB_ok T.cb) (by decide) (de_var 0)) (da_nil) (star_ok rfl)) (star_ok rfl))) (da_nil) (star_ok rfl))) (de_var 3)) (fun h => pe_one h)))))
abbrev n__law_right : List Str := ["bill_so", "one", "result", "odd"]
theorem sc__law_right : FnScope n__law_right ["bill_so"] (defScope s__law_right) := ⟨rfl, rfl, rfl, by decide +kernel, rfl, by decide +kernel, by decide +kernel⟩
theorem fc__law_right (T : Tx P K mg base) : FnC P w K mg base (eL P w K mg base) 12 "_law_right" f__law_right :=
  fnC_ofK (N := n__law_right) (fb := b__law_right) T.d__law_right sc__law_right (fun _ _ _ _ _ _ us hl => match us, hl with | [_], _ => rfl)
    fun f cdv hm hc A outer s H E C => by
    obtain ⟨c, Pt, rfl, hin⟩ := code_tab (tq := tqL) (q := ("_law_right" : Str) ++ ".<locals>." ++ "<lambda>") T.d__law_right T.m__law_right hm hc (List.mem_of_getElem? (i := 0) rfl)
    have TB := T.tb _ hin
    have hT : (Pt, ("_law_right" : Str) ++ ".<locals>." ++ "<lambda>") ∈ ((eL P w K mg base) : ET).T := List.mem_map.mpr ⟨_, hin, rfl⟩
    have hu := tab_one T.nd hin
    exact dss_cons (ds_set (i := 1) C.nd (de_newF C (ff_File T) (fun _ _ h => if_neg h) (by decide) (de_var 0))) (dss_cons (ds_for (is := [2]) C (di_seq (de_tup (da_cons (de_int) (da_cons (de_int) (da_cons (de_op os_pow (de_int) (de_int)) (da_cons (de_int) (da_nil) (star_ok rfl)) (star_ok rfl)) (star_ok rfl)) (star_ok rfl)))) (dg_name (i := 2) C.nd) (dss_one (ds_expr (de_meth C T.fk (fm_File_add T) (by decide) (de_var 1) (da_cons (de_var 2) (da_nil) (star_ok rfl)))))) (dss_cons (ds_for (is := [3]) C (di_seq (de_tup (da_cons (de_non) (da_cons (de_bl) (da_cons (de_neg (de_int)) (da_cons (de_op os_add (de_op os_pow (de_int) (de_int)) (de_int)) (da_cons (de_str) (da_cons (de_tup (da_cons (de_int) (da_nil) (star_ok rfl))) (da_cons (de_lst (da_cons (de_int) (da_nil) (star_ok rfl))) (da_cons (de_dict0) (da_nil) (star_ok rfl)) (star_ok rfl)) (star_ok rfl)) (star_ok rfl)) (star_ok rfl)) (star_ok rfl)) (star_ok rfl)) (star_ok rfl)))) (dg_name (i := 3) C.nd) (dss_one (ds_if (dt_not (dt_val (de_lam1 n__law_right [] ["odd", "one"] (defScope s__law_right) [3, 1] (jl := 8) (df := none) C (fc__law_refused T) rfl TB rfl hT hu rfl ⟨rfl, fun _ _ _ _ => rfl⟩ (de_var 1) (da_cons (de_tup (da_cons (de_str) (da_cons (de_var 3) (da_nil) (star_ok rfl)) (star_ok rfl))) (da_nil) (star_ok rfl)) (fun _ _ _ _ _ _ _ C3 => de_meth C3 T.fk (fm_File_add T) (by decide) (de_var 1) (da_cons (de_var 0) (da_nil) (star_ok rfl)))))) (dss_one (ds_ret (de_bl))) (dss_nil)))) (dss_cons (ds_for (is := [3]) C (di_seq (de_tup (da_cons (de_non) (da_cons (de_bl) (da_cons (de_neg (de_int)) (da_cons (de_callB cs_len T.g_len (da_cons (de_ix C (de_var 0) (de_int)) (da_nil) (star_ok rfl))) (da_cons (de_str) (da_cons (de_tup (da_cons (de_int) (da_nil) (star_ok rfl))) (da_cons (de_lst (da_cons (de_int) (da_nil) (star_ok rfl))) (da_nil) (star_ok rfl)) (star_ok rfl)) (star_ok rfl)) (star_ok rfl)) (star_ok rfl)) (star_ok rfl)) (star_ok rfl)))) (dg_name (i := 3) C.nd) (dss_one (ds_if (dt_not (dt_val (de_lam1 n__law_right [] ["odd", "one"] (defScope s__law_right) [3, 1] (jl := 8) (df := none) C (fc__law_refused T) rfl TB rfl hT hu rfl ⟨rfl, fun _ _ _ _ => rfl⟩ (de_var 1) (da_cons (de_tup (da_cons (de_str) (da_cons (de_var 3) (da_nil) (star_ok rfl)) (star_ok rfl))) (da_nil) (star_ok rfl)) (fun _ _ _ _ _ _ _ C3 => de_meth C3 T.fk (fm_File_index T) (by decide) (de_var 1) (da_cons (de_var 0) (da_nil) (star_ok rfl)))))) (dss_one (ds_ret (de_bl))) (dss_nil)))) (dss_cons (ds_for (is := [3]) C (di_seq (de_tup (da_cons (de_non) (da_cons (de_bl) (da_cons (de_int) (da_cons (de_neg (de_int)) (da_cons (de_str) (da_cons (de_tup (da_cons (de_int) (da_nil) (star_ok rfl))) (da_cons (de_lst (da_nil)) (da_nil) (star_ok rfl)) (star_ok rfl)) (star_ok rfl)) (star_ok rfl)) (star_ok rfl)) (star_ok rfl)) (star_ok rfl)))) (dg_name (i := 3) C.nd) (dss_one (ds_if (dt_not (dt_val (de_lam1 n__law_right [] ["one", "odd"] (defScope s__law_right) [1, 3] (jl := 8) (df := none) C (fc__law_refused T) rfl TB rfl hT hu rfl ⟨rfl, fun _ _ _ _ => rfl⟩ (de_var 1) (da_cons (de_tup (da_cons (de_str) (da_cons (de_var 3) (da_nil) (star_ok rfl)) (star_ok rfl))) (da_nil) (star_ok rfl)) (fun _ _ _ _ _ _ _ C3 => de_backK C3 T.fk (fm_File_back T) (by decide) (de_var 0) (de_var 1))))) (dss_one (ds_ret (de_bl))) (dss_nil)))) (dss_cons (ds_for (is := [3]) C (di_seq (de_tup (da_cons (de_int) (da_cons (de_int) (da_cons (de_op os_pow (de_int) (de_int)) (da_nil) (star_ok rfl)) (star_ok rfl)) (star_ok rfl)))) (dg_name (i := 3) C.nd) (dss_one (ds_if (dt_not (dt_val (de_lam1 n__law_right [] ["one", "odd"] (defScope s__law_right) [1, 3] (jl := 8) (df := none) C (fc__law_refused T) rfl TB rfl hT hu rfl ⟨rfl, fun _ _ _ _ => rfl⟩ (de_var 1) (da_cons (de_tup (da_cons (de_str) (da_cons (de_var 3) (da_nil) (star_ok rfl)) (star_ok rfl))) (da_nil) (star_ok rfl)) (fun _ _ _ _ _ _ _ C3 => de_backK C3 T.fk (fm_File_back T) (by decide) (de_var 0) (de_var 1))))) (dss_one (ds_ret (de_bl))) (dss_nil)))) (dss_cons (ds_if (dt_cmp (os_ne C.u64) (de_lam n__law_right [] ["one"] (defScope s__law_right) [1] (jl := 8) (df := none) C (fc__law_outcome T) rfl TB rfl hT hu rfl ⟨rfl, fun _ _ _ _ => rfl⟩ (da_nil) (fun _ _ _ _ _ _ _ C3 => de_backK C3 T.fk (fm_File_back T) (by decide) (de_var 0) (de_int))) (de_lst (da_cons (de_non) (da_nil) (star_ok rfl)))) (dss_one (ds_ret (de_bl))) (dss_nil)) (dss_one (ds_ret (de_lam1 n__law_right [] ["one"] (defScope s__law_right) [1] (jl := 8) (df := none) C (fc__law_refused T) rfl TB rfl hT hu rfl ⟨rfl, fun _ _ _ _ => rfl⟩ (de_var 1) (da_cons (de_tup (da_cons (de_str) (da_cons (de_int) (da_nil) (star_ok rfl)) (star_ok rfl))) (da_nil) (star_ok rfl)) (fun _ _ _ _ _ _ _ C3 => de_back0 C3 T.fk (fm_File_back T) (by decide) (de_var 0)))))))))))
abbrev n__law_full_right : List Str := ["one", "heard", "k"]
theorem sc__law_full_right : FnScope n__law_full_right [] (defScope s__law_full_right) := ⟨rfl, rfl, rfl, by decide +kernel, rfl, by decide +kernel, by decide +kernel⟩
theorem fc__law_full_right (T : Tx P K mg base) : FnC P w K mg base (eL P w K mg base) 12 "_law_full_right" f__law_full_right :=
  fnC_ofK (N := n__law_full_right) (fb := b__law_full_right) T.d__law_full_right sc__law_full_right (fun _ _ _ _ _ _ us hl => match us, hl with | [], _ => rfl)
    fun f cdv hm hc A outer s H E C => by
    obtain ⟨c, Pt, rfl, hin⟩ := code_tab (tq := tqL) (q := ("_law_full_right" : Str) ++ ".<locals>." ++ "<lambda>") T.d__law_full_right T.m__law_full_right hm hc (List.mem_of_getElem? (i := 1) rfl)
    have TB := T.tb _ hin
    have hT : (Pt, ("_law_full_right" : Str) ++ ".<locals>." ++ "<lambda>") ∈ ((eL P w K mg base) : ET).T := List.mem_map.mpr ⟨_, hin, rfl⟩
    have hu := tab_one T.nd hin
    exact dss_cons (ds_set (i := 0) C.nd (de_newF C (ff_File T) (fun _ _ h => if_neg h) (by decide) (de_tup (da_cons (de_int) (da_cons (de_tup (da_nil)) (da_nil) (star_ok rfl)) (star_ok rfl))))) (dss_cons (ds_setLc (i := 1) (own := [("k", 2)]) (is := [2]) C (blkOk_by (N := n__law_full_right) (sc := defScope s__law_full_right) (own := [("k", 2)]) (by decide +kernel)) (di_range1 T.g_range (da_cons (de_int) (da_nil) (star_ok rfl))) ⟨fun _ _ _ _ _ => dg_name (i := 2) (C.blk _ _ _ _ _).nd, fun _ _ _ _ _ => dts_nil, fun _ _ _ _ _ => de_meth (C.blk _ _ _ _ _) T.fk (fm_File_add T) (by decide) (de_var 0) (da_cons (de_var 2) (da_nil) (star_ok rfl))⟩) (dss_cons (ds_if ((DW.dt (dw_or (dt_cmp (os_ne C.u64) (de_var 1) (de_op os_add (de_lst (da_cons (de_non) (da_nil) (star_ok rfl))) (de_listC T.g_list T.g_range))) (dw_or1 (dt_not (dt_val (de_lam1 n__law_full_right [] ["one"] (defScope s__law_full_right) [0] (jl := 8) (df := none) C (fc__law_refused T) rfl TB rfl hT hu rfl ⟨rfl, fun _ _ _ _ => rfl⟩ (de_var 0) (da_cons (de_tup (da_cons (de_str) (da_cons (de_int) (da_nil) (star_ok rfl)) (star_ok rfl))) (da_nil) (star_ok rfl)) (fun _ _ _ _ _ _ _ C3 => de_meth C3 T.fk (fm_File_add T) (by decide) (de_var 0) (da_cons (de_int) (da_nil) (star_ok rfl)))))))))) (dss_one (ds_ret (de_bl))) (dss_nil)) (dss_cons (ds_if (dt_not (dt_val (de_lam1 n__law_full_right [] ["one"] (defScope s__law_full_right) [0] (jl := 8) (df := none) C (fc__law_refused T) rfl TB rfl hT hu rfl ⟨rfl, fun _ _ _ _ => rfl⟩ (de_var 0) (da_cons (de_tup (da_cons (de_str) (da_cons (de_neg (de_int)) (da_nil) (star_ok rfl)) (star_ok rfl))) (da_nil) (star_ok rfl)) (fun _ _ _ _ _ _ _ C3 => de_meth C3 T.fk (fm_File_add T) (by decide) (de_var 0) (da_cons (de_neg (de_int)) (da_nil) (star_ok rfl)))))) (dss_one (ds_ret (de_bl))) (dss_nil)) (dss_cons (ds_expr (de_back0 C T.fk (fm_File_back T) (by decide) (de_var 0))) (dss_one (ds_ret (de_and (de_cmp (os_eq C.u64) (de_meth C T.fk (fm_File_add T) (by decide) (de_var 0) (da_cons (de_int) (da_nil) (star_ok rfl))) (de_int)) (de_one (de_cmp (os_eq C.u64) (de_lenF C (fm_File___len__ T) (by decide) T.g_len (de_var 0)) (de_int)) (fun h => pe_one h)))))))))
abbrev n_law : List Str := ["script", "m", "lap", "odd", "part"]
theorem sc_law : FnScope n_law ["script"] (defScope s_law) := ⟨rfl, rfl, rfl, by decide +kernel, rfl, by decide +kernel, by decide +kernel⟩
theorem fd_law (T : Tx P K mg base) {f : Addr} {cdv : Value} {A : Around} {outer : List Env} {s : Shared} {H : Hp} {E : XK} (hm : mg "law" = some (.ref f)) (hc : CodeOf K f cdv) (C : Here (cxOf (L2.CX P w) P w K mg base n_law "law" (defScope s_law) f cdv A outer s H E) 12 (fun cls d _ H => E cls d H)) :
    DSs (cxOf (L2.CX P w) P w K mg base n_law "law" (defScope s_law) f cdv A outer s H E) (eL P w K mg base) (fun cls d _ H => E cls d H) (defBody s_law).tail b_law :=
  by
  obtain ⟨c, Pt, rfl, hin⟩ := code_tab (tq := tqL) (q := ("law" : Str) ++ ".<locals>." ++ "<lambda>") T.d_law T.m_law hm hc (List.mem_of_getElem? (i := 2) rfl)
  have TB := T.tb _ hin
  have hT : (Pt, ("law" : Str) ++ ".<locals>." ++ "<lambda>") ∈ ((eL P w K mg base) : ET).T := List.mem_map.mpr ⟨_, hin, rfl⟩
  have hu := tab_one T.nd hin
  exact dss_cons (ds_for (is := [3, 4]) C (di_seq (de_lst (da_cons (de_tup (da_cons (de_non) (da_cons (de_str) (da_nil) (star_ok rfl)) (star_ok rfl))) (da_cons (de_tup (da_cons (de_tup (da_nil)) (da_cons (de_str) (da_nil) (star_ok rfl)) (star_ok rfl))) (da_cons (de_tup (da_cons (de_tup (da_cons (de_int) (da_cons (de_non) (da_nil) (star_ok rfl)) (star_ok rfl))) (da_cons (de_str) (da_nil) (star_ok rfl)) (star_ok rfl))) (da_cons (de_tup (da_cons (de_op os_mul (de_tup (da_cons (de_int) (da_cons (de_tup (da_nil)) (da_nil) (star_ok rfl)) (star_ok rfl))) (de_int)) (da_cons (de_str) (da_nil) (star_ok rfl)) (star_ok rfl))) (da_cons (de_tup (da_cons (de_tup (da_cons (de_int) (da_cons (de_lst (da_cons (de_tup (da_nil)) (da_nil) (star_ok rfl))) (da_nil) (star_ok rfl)) (star_ok rfl))) (da_cons (de_str) (da_nil) (star_ok rfl)) (star_ok rfl))) (da_nil) (star_ok rfl)) (star_ok rfl)) (star_ok rfl)) (star_ok rfl)) (star_ok rfl)))) (dg_tup (dgs_cons (dg_name (i := 3) C.nd) (dgs_cons (dg_name (i := 4) C.nd) (dgs_nil)))) (dss_one (ds_if (dt_cmp (os_ne C.u64) (de_callB (cs_repr T.sys C.hg C.u100) T.g_repr (da_cons (de_op os_mul (de_lst (da_cons (de_lam n_law [] ["odd"] (defScope s_law) [3] (jl := 8) (df := none) C (fc__law_outcome T) rfl TB rfl hT hu rfl ⟨rfl, fun _ _ _ _ => rfl⟩ (da_nil) (fun _ _ _ _ _ _ _ C3 => de_newF C3 (ff_File T) (fun _ _ h => if_neg h) (by decide) (de_var 0))) (da_nil) (star_ok rfl))) (de_int)) (da_nil) (star_ok rfl))) (de_callB (cs_repr T.sys C.hg C.u100) T.g_repr (da_cons (de_op os_mul (de_lst (da_cons (de_tup (da_cons (de_str) (da_cons (de_var 4) (da_nil) (star_ok rfl)) (star_ok rfl))) (da_nil) (star_ok rfl))) (de_int)) (da_nil) (star_ok rfl)))) (dss_one (ds_ret (de_bl))) (dss_nil)))) (dss_cons (ds_for (is := [2]) C (di_range1 T.g_range (da_cons (de_op os_add (de_int) (de_callB (cs_min rfl C.u100) T.g_min (da_cons (de_callB cs_len T.g_len (da_cons (de_var 0) (da_nil) (star_ok rfl))) (da_cons (de_int) (da_nil) (star_ok rfl)) (star_ok rfl)))) (da_nil) (star_ok rfl))) (dg_name (i := 2) C.nd) (dss_one (ds_if (dt_not (dt_val (de_call C (fc__law_right T) (by decide) (da_cons (de_call C (fc__law_drawn_bill T) (by decide) (da_cons (de_var 1) (da_cons (de_int) (da_nil) (star_ok rfl)) (star_ok rfl))) (da_nil) (star_ok rfl))))) (dss_one (ds_ret (de_bl))) (dss_nil)))) (dss_one (ds_ret (de_call0 C (fc__law_full_right T) (by decide)))))
theorem fg_law (T : Tx P K mg base) {f : Addr} {fd : FuncData} (F : FunD K "law" "law" (defArgs s_law) (defBody s_law) (defScope s_law) [] [] f fd) (hm : mg "law" = some (.ref f)) : FnG P w K mg base 13 f fd ["script"] (spLaw K (csOf K tqL).T) :=
  law_ofK (et := (eL P w K mg base)) (N := n_law) (fb := b_law) 1 (by decide) (by decide) F sc_law law_pure fun cdv hc A outer s H E C => by
    obtain ⟨fB, fdB, hmB, kp, hb, G⟩ := fg_begun (P := P) (w := w) (base := base) T
    exact ⟨_, (defBody s_law).tail, rfl, ps_set (i := 1) C.nd rfl (by first | exact Or.inl rfl | exact Or.inr rfl) (pe_callG C G (by decide) hmB kp hb (pa_cons (pv 0) pa_nil)), fd_law T hm hc C⟩
end
end DL
set_option Elab.async false
set_option linter.all false
set_option maxRecDepth 100000
set_option maxHeartbeats 4000000
set_option autoImplicit false
namespace DL
open PySem PySem.Spec L2
open PyProof.Rows hiding St
theorem factsL {K : PySem.W.Frag} {h base : Heap} {mg : Str → Option Value} (X : K.In h) (G : h.Ns mainGlobals mg) (z : SaysP faL fnL (tqL.map (·.1)) inL prL exL h K) (tb : ∀ p ∈ csOf K tqL, LamX.TabB base mg p.1 p.2.1) : Tx PySem.Challenge.pw_bestoflast_k17_files_refused K mg base := by
  have c := z.d
  have zm := z.more
  unfold exL at zm
  rw [Bool.and_eq_true, Bool.and_eq_true, Bool.and_eq_true, Bool.and_eq_true] at zm
  obtain ⟨z1, z2, zs, z3, z4⟩ := zm
  rw [Bool.and_eq_true, Bool.and_eq_true] at z4
  obtain ⟨z4, zc, zp⟩ := z4
  exact {
    cls := z2, sys := sysB_ok zs, nd := of_decide_eq_true z3, tb := tb
    m_ResultError := He.glo_ok X G (c.fact 21 (f := .glo "ResultError") rfl)
    m_BadRule := He.glo_ok X G (c.fact 22 (f := .glo "BadRule") rfl)
    m_BadRow := He.glo_ok X G (c.fact 23 (f := .glo "BadRow") rfl)
    m_BadBill := He.glo_ok X G (c.fact 24 (f := .glo "BadBill") rfl)
    m_BadNumber := He.glo_ok X G (c.fact 25 (f := .glo "BadNumber") rfl)
    m_BadKind := He.glo_ok X G (c.fact 26 (f := .glo "BadKind") rfl)
    m_BadPaper := He.glo_ok X G (c.fact 27 (f := .glo "BadPaper") rfl)
    m_BadText := He.glo_ok X G (c.fact 28 (f := .glo "BadText") rfl)
    m_Nothing := He.glo_ok X G (c.fact 29 (f := .glo "Nothing") rfl)
    m__law_right := He.glo_ok X G (c.fact 18 (f := .glo "_law_right") rfl)
    m__law_full_right := He.glo_ok X G (c.fact 19 (f := .glo "_law_full_right") rfl)
    m_law := He.glo_ok X G (c.fact 20 (f := .glo "law") rfl)
    x_BadRule := IniD.xcls (d := i_BadRule) X G it_BadRule (z.ini_ 0 rfl) (List.all_eq_true.mp z1 _ (List.mem_of_getElem? (i := 0) rfl)) rfl rfl
    x_BadRow := IniD.xcls (d := i_BadRow) X G it_BadRow (z.ini_ 1 rfl) (List.all_eq_true.mp z1 _ (List.mem_of_getElem? (i := 1) rfl)) rfl rfl
    x_BadBill := IniD.xcls (d := i_BadBill) X G it_BadBill (z.ini_ 2 rfl) (List.all_eq_true.mp z1 _ (List.mem_of_getElem? (i := 2) rfl)) rfl rfl
    x_BadNumber := IniD.xcls (d := i_BadNumber) X G it_BadNumber (z.ini_ 3 rfl) (List.all_eq_true.mp z1 _ (List.mem_of_getElem? (i := 3) rfl)) rfl rfl
    x_BadKind := IniD.xcls (d := i_BadKind) X G it_BadKind (z.ini_ 4 rfl) (List.all_eq_true.mp z1 _ (List.mem_of_getElem? (i := 4) rfl)) rfl rfl
    x_BadPaper := IniD.xcls (d := i_BadPaper) X G it_BadPaper (z.ini_ 5 rfl) (List.all_eq_true.mp z1 _ (List.mem_of_getElem? (i := 5) rfl)) rfl rfl
    x_BadText := IniD.xcls (d := i_BadText) X G it_BadText (z.ini_ 6 rfl) (List.all_eq_true.mp z1 _ (List.mem_of_getElem? (i := 6) rfl)) rfl rfl
    x_Nothing := IniD.xcls (d := i_Nothing) X G it_Nothing (z.ini_ 7 rfl) (List.all_eq_true.mp z1 _ (List.mem_of_getElem? (i := 7) rfl)) rfl rfl
    d_is_whole := by obtain ⟨fd, F⟩ := c.def_ 0 (d := mkD "is_whole" s_is_whole) rfl; exact ⟨_, fd, F, He.glo_ok X G (c.fact 0 (f := .glo "is_whole") rfl)⟩
    d_first_wrong := by obtain ⟨fd, F⟩ := c.def_ 1 (d := mkD "first_wrong" s_first_wrong) rfl; exact ⟨_, fd, F, He.glo_ok X G (c.fact 1 (f := .glo "first_wrong") rfl)⟩
    d_is_rule := by obtain ⟨fd, F⟩ := c.def_ 2 (d := mkD "is_rule" s_is_rule) rfl; exact ⟨_, fd, F, He.glo_ok X G (c.fact 2 (f := .glo "is_rule") rfl)⟩
    d_index_in := by obtain ⟨fd, F⟩ := c.def_ 3 (d := mkD "index_in" s_index_in) rfl; exact ⟨_, fd, F, He.glo_ok X G (c.fact 3 (f := .glo "index_in") rfl)⟩
    d_is_term := by obtain ⟨fd, F⟩ := c.def_ 4 (d := mkD "is_term" s_is_term) rfl; exact ⟨_, fd, F, He.glo_ok X G (c.fact 4 (f := .glo "is_term") rfl)⟩
    d_fault_of := by obtain ⟨fd, F⟩ := c.def_ 5 (d := mkD "fault_of" s_fault_of) rfl; exact ⟨_, fd, F, He.glo_ok X G (c.fact 5 (f := .glo "fault_of") rfl)⟩
    d_need_bill := by obtain ⟨fd, F⟩ := c.def_ 6 (d := mkD "need_bill" s_need_bill) rfl; exact ⟨_, fd, F, He.glo_ok X G (c.fact 6 (f := .glo "need_bill") rfl)⟩
    d_width_of := by obtain ⟨fd, F⟩ := c.def_ 7 (d := mkD "width_of" s_width_of) rfl; exact ⟨_, fd, F, He.glo_ok X G (c.fact 7 (f := .glo "width_of") rfl)⟩
    d_paid_at := by obtain ⟨fd, F⟩ := c.def_ 8 (d := mkD "paid_at" s_paid_at) rfl; exact ⟨_, fd, F, He.glo_ok X G (c.fact 8 (f := .glo "paid_at") rfl)⟩
    d_pays_in := by obtain ⟨fd, F⟩ := c.def_ 9 (d := mkD "pays_in" s_pays_in) rfl; exact ⟨_, fd, F, He.glo_ok X G (c.fact 9 (f := .glo "pays_in") rfl)⟩
    d__law_begun := by obtain ⟨fd, F⟩ := c.def_ 10 (d := mkD "_law_begun" s__law_begun) rfl; exact ⟨_, fd, F, He.glo_ok X G (c.fact 10 (f := .glo "_law_begun") rfl)⟩
    d__law_draw := by obtain ⟨fd, F⟩ := c.def_ 11 (d := mkD "_law_draw" s__law_draw) rfl; exact ⟨_, fd, F, He.glo_ok X G (c.fact 11 (f := .glo "_law_draw") rfl)⟩
    d__law_of := by obtain ⟨fd, F⟩ := c.def_ 12 (d := mkD "_law_of" s__law_of) rfl; exact ⟨_, fd, F, He.glo_ok X G (c.fact 12 (f := .glo "_law_of") rfl)⟩
    d__law_weights := by obtain ⟨fd, F⟩ := c.def_ 13 (d := mkD "_law_weights" s__law_weights) rfl; exact ⟨_, fd, F, He.glo_ok X G (c.fact 13 (f := .glo "_law_weights") rfl)⟩
    d__law_drawn_bill := by obtain ⟨fd, F⟩ := c.def_ 14 (d := mkD "_law_drawn_bill" s__law_drawn_bill) rfl; exact ⟨_, fd, F, He.glo_ok X G (c.fact 14 (f := .glo "_law_drawn_bill") rfl)⟩
    d__law_word := by obtain ⟨fd, F⟩ := c.def_ 15 (d := mkD "_law_word" s__law_word) rfl; exact ⟨_, fd, F, He.glo_ok X G (c.fact 15 (f := .glo "_law_word") rfl)⟩
    d__law_outcome := by obtain ⟨fd, F⟩ := c.def_ 16 (d := mkD "_law_outcome" s__law_outcome) rfl; exact ⟨_, fd, F, He.glo_ok X G (c.fact 16 (f := .glo "_law_outcome") rfl)⟩
    d__law_refused := by obtain ⟨fd, F⟩ := c.def_ 17 (d := mkD "_law_refused" s__law_refused) rfl; exact ⟨_, fd, F, He.glo_ok X G (c.fact 17 (f := .glo "_law_refused") rfl)⟩
    d__law_right := by obtain ⟨fd, F⟩ := c.def_ 18 (d := mkD "_law_right" s__law_right) rfl; exact ⟨_, fd, F, He.glo_ok X G (c.fact 18 (f := .glo "_law_right") rfl)⟩
    d__law_full_right := by obtain ⟨fd, F⟩ := c.def_ 19 (d := mkD "_law_full_right" s__law_full_right) rfl; exact ⟨_, fd, F, He.glo_ok X G (c.fact 19 (f := .glo "_law_full_right") rfl)⟩
    d_law := by obtain ⟨fd, F⟩ := c.def_ 20 (d := mkD "law" s_law) rfl; exact ⟨_, fd, F, He.glo_ok X G (c.fact 20 (f := .glo "law") rfl)⟩
    fk := ⟨He.cls_ok (c.fact 52 (f := .cls "File") rfl), He.noat_ok (c.fact 53 (f := .noat "File" "own_bill") rfl), He.noat_ok (c.fact 54 (f := .noat "File" "own_row") rfl)⟩
    cb := zc
    i_File := by obtain ⟨fd, F⟩ := c.def_ 21 (d := ⟨("File", some "__init__"), "__init__", "File.__init__", defArgs s_File___init__, defBody s_File___init__, defScope s_File___init__, [], []⟩) rfl; exact ⟨_, fd, F, He.mkr_ok (c.fact 55 (f := .mkr "File") rfl), He.glo_ok X G (c.fact 30 (f := .glo "File") rfl)⟩
    d_File_add := by obtain ⟨fd, F⟩ := c.def_ 22 (d := ⟨("File", some "add"), "add", "File." ++ "add", defArgs s_File_add, defBody s_File_add, defScope s_File_add, [], []⟩) rfl; exact ⟨_, fd, F, He.meth_ok (c.fact 56 (f := .meth "File" "add") rfl)⟩
    d_File___call__ := by obtain ⟨fd, F⟩ := c.def_ 23 (d := ⟨("File", some "__call__"), "__call__", "File." ++ "__call__", defArgs s_File___call__, defBody s_File___call__, defScope s_File___call__, [], []⟩) rfl; exact ⟨_, fd, F, He.meth_ok (c.fact 57 (f := .meth "File" "__call__") rfl)⟩
    d_File_index := by obtain ⟨fd, F⟩ := c.def_ 24 (d := ⟨("File", some "index"), "index", "File." ++ "index", defArgs s_File_index, defBody s_File_index, defScope s_File_index, [], []⟩) rfl; exact ⟨_, fd, F, He.meth_ok (c.fact 58 (f := .meth "File" "index") rfl)⟩
    d_File_back := by obtain ⟨fd, F⟩ := c.def_ 25 (d := ⟨("File", some "back"), "back", "File." ++ "back", defArgs s_File_back, defBody s_File_back, defScope s_File_back, [], [("many", .int 1)]⟩) rfl; exact ⟨_, fd, F, He.meth_ok (c.fact 59 (f := .meth "File" "back") rfl)⟩
    d_File___len__ := by obtain ⟨fd, F⟩ := c.def_ 26 (d := ⟨("File", some "__len__"), "__len__", "File." ++ "__len__", defArgs s_File___len__, defBody s_File___len__, defScope s_File___len__, [], []⟩) rfl; exact ⟨_, fd, F, He.meth_ok (c.fact 60 (f := .meth "File" "__len__") rfl)⟩
    d_File___contains__ := by obtain ⟨fd, F⟩ := c.def_ 27 (d := ⟨("File", some "__contains__"), "__contains__", "File." ++ "__contains__", defArgs s_File___contains__, defBody s_File___contains__, defScope s_File___contains__, [], []⟩) rfl; exact ⟨_, fd, F, He.meth_ok (c.fact 61 (f := .meth "File" "__contains__") rfl)⟩
    d_File_bill := z.prop 0 (d := ⟨"bill", s_File_bill⟩) (List.all_eq_true.mp zp _ (List.mem_of_getElem? (i := 0) rfl)) rfl
    d_File_row := z.prop 1 (d := ⟨"row", s_File_row⟩) (List.all_eq_true.mp zp _ (List.mem_of_getElem? (i := 1) rfl)) rfl
    g_bool := He.free_ok X G (c.fact 31 (f := .free "bool") rfl)
    g_enumerate := He.free_ok X G (c.fact 32 (f := .free "enumerate") rfl)
    g_int := He.free_ok X G (c.fact 33 (f := .free "int") rfl)
    g_isinstance := He.free_ok X G (c.fact 34 (f := .free "isinstance") rfl)
    g_len := He.free_ok X G (c.fact 35 (f := .free "len") rfl)
    g_list := He.free_ok X G (c.fact 36 (f := .free "list") rfl)
    g_max := He.free_ok X G (c.fact 37 (f := .free "max") rfl)
    g_min := He.free_ok X G (c.fact 38 (f := .free "min") rfl)
    g_range := He.free_ok X G (c.fact 39 (f := .free "range") rfl)
    g_repr := He.free_ok X G (c.fact 40 (f := .free "repr") rfl)
    g_sorted := He.free_ok X G (c.fact 41 (f := .free "sorted") rfl)
    g_sum := He.free_ok X G (c.fact 42 (f := .free "sum") rfl)
    g_super := He.free_ok X G (c.fact 43 (f := .free "super") rfl)
    g_tuple := He.free_ok X G (c.fact 44 (f := .free "tuple") rfl)
    g_zip := He.free_ok X G (c.fact 45 (f := .free "zip") rfl)
    c_MOST_OWN := He.int_ok X G (c.fact 46 (f := .int "MOST_OWN" (50)) rfl)
    c_MOST_RESULT := He.int_ok X G (c.fact 47 (f := .int "MOST_RESULT" (1000000)) rfl)
    c_MOST_RESULTS := He.int_ok X G (c.fact 48 (f := .int "MOST_RESULTS" (200)) rfl)
    c_MOST_TERMS := He.int_ok X G (c.fact 49 (f := .int "MOST_TERMS" (2)) rfl)
    c_MOST_WEIGHT := He.int_ok X G (c.fact 50 (f := .int "MOST_WEIGHT" (20)) rfl)
    c_MOST_WEIGHTS := He.int_ok X G (c.fact 51 (f := .int "MOST_WEIGHTS" (6)) rfl) }
end DL
open PySem PySem.W PySem.Calls PyProof.Rows
set_option maxHeartbeats 0 in
theorem PySem.Challenge.cw_bestoflast_k17_files_refused_holds : PySem.Challenge.rw_bestoflast_k17_files_refused.Holds := by
  w_on; o_law
  refine HandSHeadRun.head_any (r := OpenLaw.row PySem.Challenge.rw_bestoflast_k17_files_refused) (q := view (OpenLaw.row PySem.Challenge.rw_bestoflast_k17_files_refused).prog [42]) (H := DL.hkL) (ob := DL.obL) (M := 6880) (loose := DL.namesL) (d := HandSHeadRun.topDef (OpenLaw.row PySem.Challenge.rw_bestoflast_k17_files_refused).prog 42) (kwd := []) DL.obL_eq
    (by kernel_rfl) (fun s => by kernel_rfl) DL.runL (by kernel_rfl) (by kernel_rfl) (by kernel_rfl) (by rfl) (by first | assumption | decide +kernel) (by decide +kernel) ⟨rfl, rfl, rfl, rfl, rfl, by decide +kernel⟩ ?hw ?hc
  case hw => w_witness2
  case hc =>
    refine DL.dl_walkT (l := PySem.Challenge.rw_bestoflast_k17_files_refused) (k := 13) (x := "script") rfl (by kernel_rfl) ⟨rfl, by decide, by decide⟩ ?F
    intro w mg mb fa h lo mean Y G hmg0
    obtain ⟨K, KX, c⟩ := Y
    have hmg : mg ("law" : PySem.Str) = some (.ref fa) := by
      have e : (HandSHeadRun.topDef (OpenLaw.row PySem.Challenge.rw_bestoflast_k17_files_refused).prog 42).name = ("law" : PySem.Str) := by kernel_rfl
      rw [← e]
      exact hmg0
    have D : DL.DefAt K mg "law" DL.s_law := by
      obtain ⟨fd, F⟩ := c.d.def_ 20 (d := DL.mkD "law" DL.s_law) rfl
      exact ⟨_, fd, F, He.glo_ok KX G.g (c.d.fact 20 (f := .glo "law") rfl)⟩
    obtain ⟨f, fd, F, hf⟩ := D
    rw [hmg] at hf
    cases hf
    have b := L2.FunD.bindsA (ps := ["script"]) F fun _ _ _ _ _ _ us hl => match us, hl with | [_], _ => rfl
    exact ⟨K, fd, DL.csOf K DL.tqL, KX, c.tabF KX, fun s v => b s [v] rfl, fun base _ _ tb => DL.fg_law (DL.factsL KX G.g c tb) F hmg⟩
