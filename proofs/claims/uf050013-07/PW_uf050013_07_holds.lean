import PyProof.Rows.All
import Wide.FinOn
import Open.Line
import PyProof.Walks
import PyProof.WalksMore
import PyProof.WalksT
import PyProof.CompFree
import PyProof.Cells
import PyProof.Rows.Many
import PyProof.RaisesMany
import PyProof.TupleKey
import PyProof.DictRoadsH
import PyProof.RangeFor
import PyProof.Rows.Range3
import PyProof.ZipIter
import PyProof.EnumMake
import PyProof.Rows.ZipGen
import PyProof.IsInstance
import PyProof.IsInstanceH
import PyProof.IsiNone
import PyProof.Rows.IntRules
import PyProof.Rows.RuleB_mul
import PyProof.Rows.RuleB_floordiv
import PyProof.Rows.RuleB_pow
import PyProof.Rows.RuleC_int
import PyProof.Rows.RuleU_int
import PyProof.SumAny
import PyProof.MinMaxWalk
import PyProof.ConsumeWalk
import PyProof.TupleOfSeq
import PyProof.ListCopy
import PyProof.TupleCall
import PyProof.ListIndexNeg
import PyProof.Rows.StrTemp
import OpenK.KMore
import PyProof.Rows.CatchOwn
import PyProof.RulesAs
import PyProof.ExcAttrAll.ValueError
import PyProof.StrBlock
import PyProof.Rows.RuleN_abs
import PyProof.EnumFor
import PyProof.StrOps2
import PyProof.StrCalls2
import PyProof.StrCalls3
import PyProof.SliceStr2
import PyProof.StrWalks
import PyProof.StrLawsNeg
import PyProof.StrLawsTight
import PyProof.CallStr
import KE.KIntText
import PyProof.Rows.TupAssign
import PyProof.Dict
import PyProof.DictIter
import PyProof.DictWalks
import PyProof.ListRange
import PyProof.MeetsDictList
import PyProof.Rows.TupMore
import PyProof.AutoListH
import PyProof.AutoSeq1
import PyProof.SliceSyntax
import PyProof.SliceList
import PyProof.LetGo
import KE.KSortTup
import KE.KSortKey
import KE.KEqDeep
import PySem.Challenge.RW_uf050013_07
local macro_rules | `(tactic| omega) => `(tactic| first | (with_reducible first | assumption | exact Nat.lt_of_le_of_lt (by assumption) (by decide) | exact Nat.le_trans (by assumption) (by decide) | exact Nat.lt_of_lt_of_le (by assumption) (by decide) | exact Nat.le_of_lt (by assumption)) | lia | omega (config := {}))
set_option compiler.extract_closed false
set_option Elab.async false
set_option linter.all false
set_option autoImplicit false
namespace Mine
inductive NE where
 | v (i : Nat)
 | n (k : Nat)
 | a (x y : NE)
 | m (k : Nat) (x : NE)
inductive IE where
 | v (i : Nat)
 | n (k : Int)
 | a (x y : IE)
 | s (x y : IE)
 | g (x : IE)
 | m (k : Int) (x : IE)
 | c (x : NE)
noncomputable def NE.d (xs : List Nat) : NE → Nat
 | .v i => xs.getD i 0
 | .n k => k
 | .a x y => x.d xs + y.d xs
 | .m k x => k * x.d xs
noncomputable def IE.d (xs : List Nat) (ys : List Int) : IE → Int
 | .v i => ys.getD i 0
 | .n k => k
 | .a x y => x.d xs ys + y.d xs ys
 | .s x y => x.d xs ys - y.d xs ys
 | .g x => - x.d xs ys
 | .m k x => k * x.d xs ys
 | .c x => ((x.d xs : Nat) : Int)
inductive Cn where
 | nl (x y : NE)
 | nt (x y : NE)
 | ne (x y : NE)
 | nf (x y : NE)
 | il (x y : IE)
 | it (x y : IE)
 | ie (x y : IE)
 | jf (x y : IE)
noncomputable def Cn.d (xs : List Nat) (ys : List Int) : Cn → Prop
 | .nl x y => x.d xs ≤ y.d xs
 | .nt x y => x.d xs < y.d xs
 | .ne x y => x.d xs = y.d xs
 | .nf x y => x.d xs = y.d xs
 | .il x y => x.d xs ys ≤ y.d xs ys
 | .it x y => x.d xs ys < y.d xs ys
 | .ie x y => x.d xs ys = y.d xs ys
 | .jf x y => x.d xs ys = y.d xs ys
structure Li where
 p : List Int
 q : List Int
 k : Int
noncomputable def ladd : List Int → List Int → List Int
 | [], y => y
 | x, [] => x
 | a :: x, b :: y => (a + b) :: ladd x y
noncomputable def lev : List Int → List Int → Int
 | a :: x, b :: y => a * b + lev x y
 | _, _ => 0
noncomputable def lone : Nat → List Int
 | 0 => [1]
 | i + 1 => 0 :: lone i
noncomputable def Li.add (x y : Li) : Li := ⟨ladd x.p y.p, ladd x.q y.q, x.k + y.k⟩
noncomputable def Li.mul (c : Int) (x : Li) : Li := ⟨x.p.map (c * ·), x.q.map (c * ·), c * x.k⟩
noncomputable def Li.ev (xs : List Nat) (ys : List Int) (x : Li) : Int := lev x.p (xs.map fun (n : Nat) => (n : Int)) + lev x.q ys + x.k
noncomputable def NE.l : NE → Li
 | .v i => ⟨lone i, [], 0⟩
 | .n k => ⟨[], [], k⟩
 | .a x y => x.l.add y.l
 | .m k x => x.l.mul k
noncomputable def IE.l : IE → Li
 | .v i => ⟨[], lone i, 0⟩
 | .n k => ⟨[], [], k⟩
 | .a x y => x.l.add y.l
 | .s x y => x.l.add (y.l.mul (-1))
 | .g x => x.l.mul (-1)
 | .m k x => x.l.mul k
 | .c x => x.l
theorem lev_add : ∀ (x y z : List Int), lev (ladd x y) z = lev x z + lev y z
 | [], y, z => by cases z <;> simp [ladd, lev]
 | a :: x, [], z => by cases z <;> simp [ladd, lev]
 | a :: x, b :: y, [] => by simp [ladd, lev]
 | a :: x, b :: y, c :: z => by
  simp only [ladd, lev, lev_add x y z, Int.add_mul]; omega
theorem lev_mul (c : Int) : ∀ (x z : List Int), lev (x.map (c * ·)) z = c * lev x z
 | [], z => by cases z <;> simp [lev]
 | a :: x, [] => by simp [lev]
 | a :: x, b :: z => by simp only [List.map_cons, lev, lev_mul c x z, Int.mul_add, Int.mul_assoc]
theorem lev_one : ∀ (i : Nat) (z : List Int), lev (lone i) z = z.getD i 0
 | 0, [] => rfl
 | 0, b :: z => by cases z <;> simp [lone, lev]
 | i + 1, [] => rfl
 | i + 1, b :: z => by simp [lone, lev, lev_one i z]
section
variable (xs : List Nat) (ys : List Int)
theorem Li.ev_add (x y : Li) : (x.add y).ev xs ys = x.ev xs ys + y.ev xs ys := by
 simp only [Li.add, Li.ev, lev_add]; omega
theorem Li.ev_mul (c : Int) (x : Li) : (x.mul c).ev xs ys = c * x.ev xs ys := by
 simp only [Li.mul, Li.ev, lev_mul, Int.mul_add]
theorem NE.ok : ∀ e : NE, ((e.d xs : Nat) : Int) = e.l.ev xs ys
 | .v i => by
  simp only [NE.d, NE.l, Li.ev, lev_one]
  have : (xs.map fun (n : Nat) => (n : Int)).getD i 0 = ((xs.getD i 0 : Nat) : Int) := by
   simp only [List.getD_eq_getElem?_getD, List.getElem?_map]
   cases xs[i]? <;> rfl
  rw [this]; cases ys <;> simp [lev]
 | .n k => by simp [NE.d, NE.l, Li.ev, lev]
 | .a x y => by rw [NE.l, Li.ev_add, ← NE.ok x, ← NE.ok y]; simp [NE.d]
 | .m k x => by rw [NE.l, Li.ev_mul, ← NE.ok x]; simp [NE.d]
theorem IE.ok : ∀ e : IE, e.d xs ys = e.l.ev xs ys
 | .v i => by
  simp only [IE.d, IE.l, Li.ev, lev_one]
  cases xs <;> simp [lev]
 | .n k => by simp [IE.d, IE.l, Li.ev, lev]
 | .a x y => by rw [IE.l, Li.ev_add, ← IE.ok x, ← IE.ok y]; rfl
 | .s x y => by rw [IE.l, Li.ev_add, Li.ev_mul, ← IE.ok x, ← IE.ok y]; simp only [IE.d]; omega
 | .g x => by rw [IE.l, Li.ev_mul, ← IE.ok x]; simp only [IE.d]; omega
 | .m k x => by rw [IE.l, Li.ev_mul, ← IE.ok x]; rfl
 | .c x => by rw [IE.l, ← NE.ok]; rfl
noncomputable def Cn.l : Cn → Li
 | .nl x y => x.l.add (y.l.mul (-1))
 | .nt x y => (x.l.add (y.l.mul (-1))).add ⟨[], [], 1⟩
 | .ne x y => x.l.add (y.l.mul (-1))
 | .nf x y => y.l.add (x.l.mul (-1))
 | .il x y => x.l.add (y.l.mul (-1))
 | .it x y => (x.l.add (y.l.mul (-1))).add ⟨[], [], 1⟩
 | .ie x y => x.l.add (y.l.mul (-1))
 | .jf x y => y.l.add (x.l.mul (-1))
theorem ev_one : Li.ev xs ys ⟨[], [], 1⟩ = 1 := by simp [Li.ev, lev]
theorem Cn.ok (c : Cn) (h : c.d xs ys) : c.l.ev xs ys ≤ 0 := by
 cases c <;> simp only [Cn.d, Cn.l, Li.ev_add, Li.ev_mul, ← NE.ok, ← IE.ok, ev_one] at h ⊢ <;> omega
noncomputable def imp : List (Nat × Cn) → Prop
 | [] => False
 | c :: r => c.2.d xs ys → imp r
noncomputable def linTot : Li → List (Nat × Cn) → Li
 | s, [] => s
 | s, c :: r => linTot (s.add (c.2.l.mul c.1)) r
noncomputable def lok (x : Li) : Bool := x.p.all (fun a => decide (0 ≤ a)) && x.q.all (fun a => decide (a = 0)) && decide (0 < x.k)
theorem lev_pos : ∀ (p : List Int) (zs : List Nat), p.all (fun a => decide (0 ≤ a)) = true → 0 ≤ lev p (zs.map fun (n : Nat) => (n : Int))
 | [], zs, _ => by cases zs <;> simp [lev]
 | a :: p, [], _ => by simp [lev]
 | a :: p, b :: zs, h => by
  simp only [List.all_cons, Bool.and_eq_true, decide_eq_true_eq] at h
  have := lev_pos p zs h.2
  have := Int.mul_nonneg h.1 (Int.natCast_nonneg b)
  simp only [List.map_cons, lev]; omega
theorem lev_zero : ∀ (q : List Int) (z : List Int), q.all (fun a => decide (a = 0)) = true → lev q z = 0
 | [], z, _ => by cases z <;> simp [lev]
 | a :: p, [], _ => by simp [lev]
 | a :: p, b :: zs, h => by
  simp only [List.all_cons, Bool.and_eq_true, decide_eq_true_eq] at h
  simp only [lev, lev_zero p zs h.2, h.1]; simp
theorem lin_of : ∀ (cs : List (Nat × Cn)) (s : Li), s.ev xs ys ≤ 0 → lok (linTot s cs) = true → imp xs ys cs
 | [], s, h, hk => by
  simp only [linTot, lok, Bool.and_eq_true] at hk
  have h1 := lev_pos s.p xs hk.1.1
  have h2 := lev_zero s.q ys hk.1.2
  have h3 := of_decide_eq_true hk.2
  simp only [Li.ev] at h
  exact absurd h (by omega)
 | c :: r, s, h, hk => fun hc => lin_of r _ (by
  rw [Li.ev_add, Li.ev_mul]
  have := c.2.ok xs ys hc
  have := Int.mul_le_mul_of_nonneg_left this (Int.natCast_nonneg c.1)
  omega) hk
end
theorem lin (xs : List Nat) (ys : List Int) (cs : List (Nat × Cn)) (h : lok (linTot ⟨[], [], 0⟩ cs) = true) : imp xs ys cs := lin_of xs ys cs _ (by cases xs <;> cases ys <;> simp [Li.ev, lev]) h
end Mine
namespace Mine
open PySem PySem.Calls PyProof.Rows PySem.W
noncomputable def xOne (K : Frag) (e : Str × Addr × List Value) : Bool :=
 nsIn K mainGlobals e.1 == some (some (.ref e.2.1)) && (clsIn K e.2.1).any (fun cd => cd.mro == e.2.2) && typeIn K (.ref e.2.1) == some (.type "type") &&
 findIn K (.ref e.2.1) "__class__" == some (some (.builtin "object.__class__")) && findIn K (.ref e.2.1) "__getattribute__" == some (some (.builtin "BaseException.__getattribute__")) && findIn K (.ref e.2.1) "__getattr__" == some none &&
 e.2.2.contains (.type "BaseException") && e.2.2.contains (.type "object") && !e.2.2.isEmpty
noncomputable def fragAt (h : Heap) (as : List Addr) : Frag := as.filterMap fun a => (h.get? a).map fun o => (a, o)
noncomputable def xAll (as : List Addr) (es : List (Str × Addr × List Value)) (h : Heap) : Bool := as.all (fun a => (h.get? a).isSome) && es.all (xOne (fragAt h as))
theorem fragAt_keeps {h h' : Heap} {as : List Addr} (hs : as.all (fun a => (h.get? a).isSome) = true) (k : ∀ b o, h.get? b = some o → h'.get? b = some o) : fragAt h' as = fragAt h as ∧ as.all (fun a => (h'.get? a).isSome) = true := by
 induction as with
 | nil => exact ⟨rfl, rfl⟩
 | cons a r ih =>
  rw [List.all_cons, Bool.and_eq_true] at hs
  obtain ⟨o, ho⟩ := Option.isSome_iff_exists.mp hs.1
  have ho' := k _ _ ho
  obtain ⟨i1, i2⟩ := ih hs.2
  refine ⟨?_, ?_⟩
  ·have i1' : r.filterMap (fun a => (h'.get? a).map fun o => (a, o)) = r.filterMap (fun a => (h.get? a).map fun o => (a, o)) := i1
   unfold fragAt
   rw [List.filterMap_cons, List.filterMap_cons, ho, ho', i1']
  ·rw [List.all_cons, ho', i2]; rfl
theorem xAll_keeps {as : List Addr} {es : List (Str × Addr × List Value)} {h h' : Heap} (x : xAll as es h = true) (k : ∀ b o, h.get? b = some o → h'.get? b = some o) : xAll as es h' = true := by
 unfold xAll at *
 rw [Bool.and_eq_true] at *
 obtain ⟨e1, e2⟩ := fragAt_keeps x.1 k
 exact ⟨e2, by rw [e1]; exact x.2⟩
noncomputable def xHook (as : List Addr) (es : List (Str × Addr × List Value)) : Hook :=
 ⟨Bool, fun s => xAll as es s.heap, fun _ => true, fun _ h => xAll as es h = true, fun _ _ e => e, fun _ _ _ x k => xAll_keeps x k⟩
noncomputable abbrev up07 (C : Addr) : List Value := [.ref C, .ref 31, .type "ValueError", .type "Exception", .type "BaseException", .type "object"]
noncomputable abbrev E07 : List (Str × Addr × List Value) := [("EvenError", 31, [.ref 31, .type "ValueError", .type "Exception", .type "BaseException", .type "object"]), ("BadSystem", 44, up07 44), ("BadRow", 56, up07 56), ("NotEven", 68, up07 68), ("BadWants", 80, up07 80), ("BadBound", 92, up07 92), ("TooMany", 104, up07 104), ("Unread", 116, up07 116)]
noncomputable abbrev A07 : List Addr := [mainGlobals, 30, 31, 43, 44, 55, 56, 67, 68, 79, 80, 91, 92, 103, 104, 115, 116]
end Mine
namespace Mine
open PySem PySem.W PyProof.Rows
def q07 : Program := { PySem.Challenge.rw_uf050013_07.row.prog with main := { PySem.Challenge.rw_uf050013_07.row.prog.main with body := [0, 2, 3, 4, 5, 6, 7, 8, 9, 11, 12, 13, 14, 15, 16, 17, 19, 20, 21, 22, 23, 24, 25, 26, 27, 28, 29, 31, 32, 33, 34, 35, 36, 37, 38, 39, 40, 41, 42, 43, 44, 45, 46].filterMap fun i => PySem.Challenge.rw_uf050013_07.row.prog.main.body[i]? } }
set_option maxRecDepth 100000 in
theorem said07 : OpenLaw.wellSaid PySem.Challenge.rw_uf050013_07 = true := by kernel_rfl
set_option maxRecDepth 100000 in
theorem left07 : LeftO PySem.Challenge.rw_uf050013_07.row.prog q07 [] (fun s => xlAt q07 [] s && recOk (RowW.records PySem.Challenge.rw_uf050013_07.row.toRowW) s) (Hook.obs (xHook A07 E07)) (Hook.val (xHook A07 E07)) 6380 := fun w => by kernel_rfl
end Mine
namespace Mine
open PySem PySem.Calls PyProof.Rows
inductive D where
 | none
 | bool (b : Bool)
 | int (i : Int)
 | str (x : Str)
 | tup (ds : List D)
 | lst (ds : List D)
 | sys (C : Addr) (size rules : D)
 | own (C dx : Addr)
 | exc (C : Addr)
 | typ (T : String)
 | ref (a : Addr)
noncomputable abbrev tupObj (vs : List Value) (n : Nat) : Obj := { cls := .type "tuple", data := .seq vs.toArray n }
noncomputable abbrev lstObj (vs : List Value) (n : Nat) : Obj := { cls := .type "list", data := .seq vs.toArray n }
inductive SysAt (K : List Addr) (h : Heap) (C : Addr) (P1 P2 : Value → Prop) (v : Value) : Prop
 | mk (a dx : Addr) (v1 v2 : Value) (mA : Str → Option Value) (e : v = .ref a) (na : a ∉ K) (nd : dx ∉ K) (g : h.get? a = some { cls := .ref C, dict := some dx, data := .plain }) (ns : h.Ns dx mA) (f1 : mA "size" = some v1) (f2 : mA "rules" = some v2)
   (f3 : ∀ x : Str, x ≠ "size" → x ≠ "rules" → mA x = none) (r1 : P1 v1) (r2 : P2 v2) : SysAt K h C P1 P2 v
mutual
noncomputable def V (K : List Addr) (h : Heap) : D → Value → Prop
 | .none, v => v = .none
 | .bool b, v => v = .bool b
 | .int i, v => ∃ t, v = .int i t
 | .str x, v => ∃ t, v = .str x t
 | .tup ds, v => ∃ a vs n, v = .ref a ∧ a ∉ K ∧ h.get? a = some (tupObj vs n) ∧ Vs K h ds vs
 | .lst ds, v => ∃ a vs n, v = .ref a ∧ a ∉ K ∧ h.get? a = some (lstObj vs n) ∧ Vs K h ds vs
 | .sys C sz ru, v => SysAt K h C (fun x => V K h sz x) (fun x => V K h ru x) v
 | .own C dx, v => ∃ a, v = .ref a ∧ a ∉ K ∧ h.get? a = some { cls := .ref C, dict := some dx, data := .plain }
 | .exc C, v => ∃ a o vs, v = .ref a ∧ a ∉ K ∧ h.get? a = some o ∧ o.cls = .ref C ∧ o.data = .fields vs ∧ o.dict = none
 | .typ T, v => v = .type T
 | .ref a, v => v = .ref a
noncomputable def Vs (K : List Addr) (h : Heap) : List D → List Value → Prop
 | [], vs => vs = []
 | d :: ds, vs => ∃ v r, vs = v :: r ∧ V K h d v ∧ Vs K h ds r
end
noncomputable def Stay (K : List Addr) (h h' : Heap) : Prop := ∀ b o, b ∉ K → h.get? b = some o → h'.get? b = some o
noncomputable def Less (K K' : List Addr) (h : Heap) : Prop := ∀ a, a ∈ K' → a ∈ K ∨ h.get? a = none
theorem Less.nin {K K' : List Addr} {h : Heap} (l : Less K K' h) {a : Addr} {o : Obj} (n : a ∉ K) (e : h.get? a = some o) : a ∉ K' := fun m =>
 (l a m).elim n fun q => by rw [q] at e; cases e
mutual
theorem V.move {K K' : List Addr} {h h' : Heap} (k : Stay K h h') (l : Less K K' h) : ∀ (d : D) (v : Value), V K h d v → V K' h' d v
 | .none, v, x => by unfold V at *; exact x
 | .bool b, v, x => by unfold V at *; exact x
 | .int i, v, x => by unfold V at *; exact x
 | .str y, v, x => by unfold V at *; exact x
 | .tup ds, v, x => by
  unfold V at *
  obtain ⟨a, vs, n, e, nk, g, r⟩ := x
  exact ⟨a, vs, n, e, l.nin nk g, k _ _ nk g, Vs.move k l ds vs r⟩
 | .lst ds, v, x => by
  unfold V at *
  obtain ⟨a, vs, n, e, nk, g, r⟩ := x
  exact ⟨a, vs, n, e, l.nin nk g, k _ _ nk g, Vs.move k l ds vs r⟩
 | .sys C sz ru, v, x => by
  unfold V at *
  obtain ⟨a, dx, v1, v2, mA, e, nk, nd, g, ⟨od, es, ep, gd, hd⟩, f1, f2, f3, r1, r2⟩ := x
  exact ⟨a, dx, v1, v2, mA, e, l.nin nk g, l.nin nd gd, k _ _ nk g, ⟨od, es, ep, k _ _ nd gd, hd⟩, f1, f2, f3, V.move k l sz v1 r1, V.move k l ru v2 r2⟩
 | .own C dx, v, x => by
  unfold V at *
  obtain ⟨a, e, nk, g⟩ := x
  exact ⟨a, e, l.nin nk g, k _ _ nk g⟩
 | .exc C, v, x => by
  unfold V at *
  obtain ⟨a, o, vs, e, nk, g, r⟩ := x
  exact ⟨a, o, vs, e, l.nin nk g, k _ _ nk g, r⟩
 | .typ T, v, x => by unfold V at *; exact x
 | .ref a, v, x => by unfold V at *; exact x
theorem Vs.move {K K' : List Addr} {h h' : Heap} (k : Stay K h h') (l : Less K K' h) : ∀ (ds : List D) (vs : List Value), Vs K h ds vs → Vs K' h' ds vs
 | [], vs, x => by unfold Vs at *; exact x
 | d :: ds, vs, x => by
  unfold Vs at *
  obtain ⟨v, r, e, p, q⟩ := x
  exact ⟨v, r, e, V.move k l d v p, Vs.move k l ds r q⟩
end
theorem Vs.length {K : List Addr} {h : Heap} : ∀ {ds : List D} {vs : List Value}, Vs K h ds vs → vs.length = ds.length
 | [], _, x => by unfold Vs at x; subst x; rfl
 | _ :: _, _, x => by unfold Vs at x; obtain ⟨v, r, rfl, _, q⟩ := x; simp [q.length]
theorem Vs.get {K : List Addr} {h : Heap} : ∀ {ds : List D} {vs : List Value}, Vs K h ds vs → ∀ {i : Nat} {v : Value}, vs[i]? = some v → ∃ d, ds[i]? = some d ∧ V K h d v
 | [], _, x, i, v, e => by unfold Vs at x; subst x; simp at e
 | d :: ds, _, x, i, v, e => by
  unfold Vs at x
  obtain ⟨v', r, rfl, p, q⟩ := x
  cases i with
  | zero => simp at e; subst e; exact ⟨d, rfl, p⟩
  | succ i => simp at e; simpa using q.get e
theorem Vs.got {K : List Addr} {h : Heap} : ∀ {ds : List D} {vs : List Value}, Vs K h ds vs → ∀ {i : Nat} {d : D}, ds[i]? = some d → ∃ v, vs[i]? = some v ∧ V K h d v
 | [], _, x, i, v, e => by simp at e
 | d :: ds, _, x, i, d', e => by
  unfold Vs at x
  obtain ⟨v', r, rfl, p, q⟩ := x
  cases i with
  | zero => simp at e; subst e; exact ⟨v', rfl, p⟩
  | succ i => simp at e; simpa using q.got e
theorem Vs.nil {K : List Addr} {h : Heap} : Vs K h [] [] := by unfold Vs; rfl
theorem Vs.cons {K : List Addr} {h : Heap} {d : D} {v : Value} {ds : List D} {vs : List Value} (a : V K h d v) (b : Vs K h ds vs) : Vs K h (d :: ds) (v :: vs) := by unfold Vs; exact ⟨v, vs, rfl, a, b⟩
theorem Vs.append {K : List Addr} {h : Heap} : ∀ {ds : List D} {vs : List Value} {es : List D} {us : List Value}, Vs K h ds vs → Vs K h es us → Vs K h (ds ++ es) (vs ++ us)
 | [], _, _, _, x, y => by unfold Vs at x; subst x; exact y
 | d :: ds, _, _, _, x, y => by unfold Vs at x; obtain ⟨v, r, rfl, p, q⟩ := x; exact .cons p (q.append y)
theorem Vs.snoc {K : List Addr} {h : Heap} {d : D} {v : Value} {ds : List D} {vs : List Value} (b : Vs K h ds vs) (a : V K h d v) : Vs K h (ds ++ [d]) (vs ++ [v]) := b.append (.cons a .nil)
theorem Vs.take {K : List Addr} {h : Heap} : ∀ (n : Nat) {ds : List D} {vs : List Value}, Vs K h ds vs → Vs K h (ds.take n) (vs.take n)
 | 0, _, _, _ => by simpa using Vs.nil
 | n + 1, [], _, x => by unfold Vs at x; subst x; simpa using Vs.nil
 | n + 1, d :: ds, _, x => by unfold Vs at x; obtain ⟨v, r, rfl, p, q⟩ := x; exact .cons p (q.take n)
theorem Vs.drop {K : List Addr} {h : Heap} : ∀ (n : Nat) {ds : List D} {vs : List Value}, Vs K h ds vs → Vs K h (ds.drop n) (vs.drop n)
 | 0, _, _, x => x
 | n + 1, [], _, x => by unfold Vs at x; subst x; simpa using Vs.nil
 | n + 1, d :: ds, _, x => by unfold Vs at x; obtain ⟨v, r, rfl, p, q⟩ := x; exact q.drop n
inductive O where
 | lst (ds : List D)
 | rows (rs : List (List Int))
 | flds (fs : List (Str × D))
noncomputable abbrev Sto := List (Addr × O)
noncomputable abbrev keys (σ : Sto) : List Addr := σ.map (·.1)
noncomputable def rowItems (rs : List (List Int)) (as : List Addr) : List (List Int × Addr × Value) := (rs.zip as).map fun p => (p.1, p.2, Value.bool true)
noncomputable def IsO (prog : Program) (w : World) (K : List Addr) (h : Heap) (a : Addr) : O → Prop
 | .lst ds => ∃ vs n, h.get? a = some (lstObj vs n) ∧ Vs K h ds vs
 | .rows rs => ∃ as : List Addr, as.length = rs.length ∧ (Vs K h (rs.map fun r => .tup (r.map .int)) (as.map .ref) ∧ (a == sysModules) = false) ∧ h.DictOfH (tupleKind (intKind prog w)) a (rowItems rs as)
 | .flds fs => ∃ mA, h.Ns1 a mA ∧ (∀ x d, fs.lookup x = some d → ∃ v, mA x = some v ∧ V K h d v) ∧ ∀ x, fs.lookup x = none → mA x = none
theorem IsTupleKey.stay {prog : Program} {w : World} {K : List Addr} {h h' : Heap} {ks : List Int} {a : Addr} (x : IsTupleKey (intKind prog w) h ks a) (k : Stay K h h') (n : a ∉ K) : IsTupleKey (intKind prog w) h' ks a := by
 obtain ⟨o, items, n', ho, r⟩ := x
 exact ⟨o, items, n', k _ _ n ho, r⟩
theorem mem_rowItems {rs : List (List Int)} {as : List Addr} {x : List Int × Addr × Value} (h : x ∈ rowItems rs as) : x.2.1 ∈ as := by
 unfold rowItems at h
 obtain ⟨p, hp, rfl⟩ := List.mem_map.mp h
 exact (List.of_mem_zip hp).2
theorem Vs.refs {K : List Addr} {h : Heap} : ∀ {rs : List (List Int)} {as : List Addr}, Vs K h (rs.map fun r => .tup (r.map .int)) (as.map .ref) → ∀ x ∈ as, x ∉ K
 | [], [], _, x, hx => by cases hx
 | [], _ :: _, v, x, hx => by simp only [List.map_nil, List.map_cons] at v; unfold Vs at v; cases v
 | _ :: _, [], v, x, hx => by cases hx
 | r :: rs, a :: as, v, x, hx => by
  simp only [List.map_cons] at v
  unfold Vs at v
  obtain ⟨w, us, e, v1, v2⟩ := v
  cases e
  rcases List.mem_cons.mp hx with rfl | hx
  ·unfold V at v1
   obtain ⟨b, vs, n, e, nk, _⟩ := v1
   cases e; exact nk
  ·exact Vs.refs v2 x hx
theorem IsO.move {prog : Program} {w : World} {K K' : List Addr} {h h' : Heap} {a : Addr} {o : O} (k : Stay K h h') (l : Less K K' h) (e : ∀ x, h.get? a = some x → h'.get? a = some x) (x : IsO prog w K h a o) : IsO prog w K' h' a o := by
 cases o with
 | lst ds =>
  obtain ⟨vs, n, g, r⟩ := x
  exact ⟨vs, n, e _ g, Vs.move k l ds vs r⟩
 | rows rs =>
  obtain ⟨as, hl, hn, o, es, ep, g, ex, hd, he, hk, nd⟩ := x
  refine ⟨as, hl, ⟨Vs.move k l _ _ hn.1, hn.2⟩, o, es, ep, e _ g, ex, hd, he, fun y hy => ?_, nd⟩
  exact IsTupleKey.stay (hk y hy) k (Vs.refs hn.1 _ (mem_rowItems hy))
 | flds fs =>
  obtain ⟨mA, ⟨o, es, ep, g, hd⟩, h1, h2⟩ := x
  refine ⟨mA, ⟨o, es, ep, e _ g, hd⟩, fun x d q => ?_, h2⟩
  obtain ⟨v, a, b⟩ := h1 x d q
  exact ⟨v, a, V.move k l d v b⟩
end Mine
namespace Mine
open PySem PySem.Calls PyProof.Rows
structure Cx where
 prog : Program
 w : World
 h0 : Heap
 mg : Str → Option Value
 mb : Str → Option Value
noncomputable abbrev Vars := List (Str × D)
structure Fm (env : Env) (m : Vars) (fr K : List Addr) (h : Heap) : Prop where
 kind : env.scope.kind = .function
 glob : env.globals = mainGlobals
 bui : env.builtins = builtinsNs
 ns : ∃ mv, h.Ns env.locals mv ∧ ∀ x d, m.lookup x = some d → env.kindOf x = some .local → ∃ v, mv x = some v ∧ V K h d v
 cell : ∀ x c, env.cells.lookup x = some c → ∃ ov, h.IsCell c ov ∧ ∀ d, m.lookup x = some d → (env.kindOf x = some .cell ∨ env.kindOf x = some .free) → ∃ v, ov = some v ∧ V K h d v
 has : ∀ x, (env.kindOf x = some .cell ∨ env.kindOf x = some .free) → ∃ c, env.cells.lookup x = some c
 inn : env.locals ∈ fr ∧ ∀ p ∈ env.cells, p.2 ∈ fr
 apart : (env.cells.Pairwise fun x y => x.2 ≠ y.2) ∧ ∀ p ∈ env.cells, p.2 ≠ env.locals
noncomputable def DictAt (h : Heap) (b : Addr) : Prop := ∃ o es n, h.get? b = some o ∧ o.data = .dict es n
structure Ok (c : Cx) (A : Around) (fr : List Addr) (σ : Sto) (h : Heap) : Prop where
 base : c.h0.StaysIn h
 sto : ∀ p ∈ σ, IsO c.prog c.w (keys σ ++ fr) h p.1 p.2
 nd : (keys σ ++ fr).Nodup
 new : ∀ a ∈ keys σ ++ fr, c.h0.get? a = none
 live : ∀ a ∈ fr, ∃ o, h.get? a = some o
 stack : ∃ l, A.frames = some l ∧ h.FunFrames c.h0 l ∧ (∀ b ∈ l.filterMap (·.frame), b ∈ fr) ∧ ∀ b ∈ l.filterMap (·.frame), DictAt h b
structure Post (F fr : List Addr) (σ : Sto) (s s' : Shared) (σ' : Sto) : Prop where
 shape : ∃ h tk, s' = { s with heap := h, toks := tk }
 kept : ∀ b o, b ∉ keys σ ++ fr → s.heap.get? b = some o → s'.heap.get? b = some o
 slots : ∀ b o, b ∈ fr → b ∉ F → s.heap.get? b = some o → ∃ sl, s'.heap.get? b = some { o with slots := sl } ∧ ((∀ es n, o.data ≠ .dict es n) → sl = o.slots)
 alive : ∀ b o, s.heap.get? b = some o → ∃ o', s'.heap.get? b = some o'
 grow : ∀ a, a ∈ keys σ' → a ∈ keys σ ∨ s.heap.get? a = none
theorem Post.stay {F fr : List Addr} {σ σ' : Sto} {s s' : Shared} (p : Post F fr σ s s' σ') : Stay (keys σ ++ fr) s.heap s'.heap := fun b o n e => p.kept b o n e
theorem Post.less {F fr : List Addr} {σ σ' : Sto} {s s' : Shared} (p : Post F fr σ s s' σ') : Less (keys σ ++ fr) (keys σ' ++ fr) s.heap := fun a m => by
 rcases List.mem_append.mp m with q | q
 ·exact (p.grow a q).imp (List.mem_append_left _) id
 ·exact .inl (List.mem_append_right _ q)
theorem Post.v {F fr : List Addr} {σ σ' : Sto} {s s' : Shared} {d : D} {v : Value} (p : Post F fr σ s s' σ') (x : V (keys σ ++ fr) s.heap d v) : V (keys σ' ++ fr) s'.heap d v := V.move p.stay p.less d v x
theorem Post.vs {F fr : List Addr} {σ σ' : Sto} {s s' : Shared} {d : List D} {v : List Value} (p : Post F fr σ s s' σ') (x : Vs (keys σ ++ fr) s.heap d v) : Vs (keys σ' ++ fr) s'.heap d v := Vs.move p.stay p.less d v x
theorem Post.refl (F fr : List Addr) (σ : Sto) (s : Shared) : Post F fr σ s s σ :=
 ⟨⟨s.heap, s.toks, rfl⟩, fun _ _ _ e => e, fun _ o _ _ e => ⟨o.slots, e, fun _ => rfl⟩, fun _ o e => ⟨o, e⟩, fun _ m => .inl m⟩
theorem Post.tok (F fr : List Addr) (σ : Sto) (s : Shared) (tk : Nat) : Post F fr σ s { s with toks := tk } σ :=
 ⟨⟨s.heap, tk, rfl⟩, fun _ _ _ e => e, fun _ o _ _ e => ⟨o.slots, e, fun _ => rfl⟩, fun _ o e => ⟨o, e⟩, fun _ m => .inl m⟩
theorem Post.trans {F fr : List Addr} {σ σ' σ'' : Sto} {s s' s'' : Shared} (p : Post F fr σ s s' σ') (q : Post F fr σ' s' s'' σ'') : Post F fr σ s s'' σ'' where
 shape := by obtain ⟨h, tk, rfl⟩ := p.shape; obtain ⟨h', tk', rfl⟩ := q.shape; exact ⟨h', tk', rfl⟩
 kept := fun b o n e => q.kept b o (p.less.nin n e) (p.kept b o n e)
 slots := fun b o m n e => by
  obtain ⟨sl, e1, r1⟩ := p.slots b o m n e
  obtain ⟨sl', e2, r2⟩ := q.slots b _ m n e1
  exact ⟨sl', e2, fun z => (r2 z).trans (r1 z)⟩
 alive := fun b o e => by obtain ⟨o1, e1⟩ := p.alive b o e; exact q.alive b o1 e1
 grow := fun a m => by
  rcases q.grow a m with h | h
  ·exact p.grow a h
  ·refine .inr ?_
   cases e : s.heap.get? a with
   | none => rfl
   | some o => obtain ⟨o1, e1⟩ := p.alive a o e; rw [e1] at h; cases h
theorem Post.wide {F F' fr : List Addr} {σ σ' : Sto} {s s' : Shared} (p : Post F fr σ s s' σ') (h : ∀ a ∈ F, a ∈ F') : Post F' fr σ s s' σ' :=
 ⟨p.shape, p.kept, fun b o m n e => p.slots b o m (fun q => n (h b q)) e, p.alive, p.grow⟩
theorem Fm.move {env : Env} {m : Vars} {fr : List Addr} {σ σ' : Sto} {s s' : Shared} (f : Fm env m fr (keys σ ++ fr) s.heap) (p : Post [] fr σ s s' σ') : Fm env m fr (keys σ' ++ fr) s'.heap where
 kind := f.kind
 glob := f.glob
 bui := f.bui
 ns := by
  obtain ⟨mv, ⟨o, es, ep, g, hd, hk, hf⟩, r⟩ := f.ns
  obtain ⟨sl, g', _⟩ := p.slots _ _ f.inn.1 (by simp) g
  exact ⟨mv, ⟨_, es, ep, g', hd, hk, hf⟩, fun x d e k => by obtain ⟨v, a, b⟩ := r x d e k; exact ⟨v, a, p.v b⟩⟩
 cell := fun x c e => by
  obtain ⟨ov, ⟨o, g, hd⟩, r⟩ := f.cell x c e
  obtain ⟨sl, g', _⟩ := p.slots _ _ (f.inn.2 _ (mem_of_lookup e)) (by simp) g
  exact ⟨ov, ⟨_, g', hd⟩, fun d e k => by obtain ⟨v, a, b⟩ := r d e k; exact ⟨v, a, p.v b⟩⟩
 has := f.has
 inn := f.inn
 apart := f.apart
noncomputable abbrev Fa (env : Env) : List Addr := env.locals :: env.cells.map (·.2)
noncomputable abbrev Fo : Option Env → List Addr
 | none => []
 | some env => Fa env
noncomputable def Fx (fr K : List Addr) (h : Heap) : Option Env → Prop
 | none => True
 | some env => Fm env [] fr K h
inductive TbAt (h : Heap) (ex : List Addr) (e : Addr) (vs : Array Value) : Prop
 | mk (T : Addr) (oT : Obj) (ts : Array Value) (e1 : ex = [e, T]) (e2 : vs[1]? = some (.ref T)) (g : h.get? T = some oT) (d : oT.data = .fields ts) (n : 5 ≤ ts.size) : TbAt h ex e vs
inductive ExcOk (h : Heap) (ex : List Addr) (e C : Addr) (t : Bool) : Prop
 | mk (oe : Obj) (vs : Array Value) (g : h.get? e = some oe) (cd : oe.cls = .ref C ∧ oe.dict = none) (d : oe.data = .fields vs) (n : 5 ≤ vs.size) (tb : (t = false ∧ ex = [e] ∧ vs[1]? = some .none) ∨ TbAt h ex e vs) : ExcOk h ex e C t
inductive Ex (c : Cx) (A : Around) (G : Option Env) (fr : List Addr) (σ : Sto) (s : Shared) (t : Bool) (X : Addr → Sto → Prop) (v : Value) (s' : Shared) : Prop
 | mk (e C : Addr) (σ' : Sto) (ex : List Addr) (hv : v = .ref e) (p : Post (Fo G) fr σ s s' σ') (ok : Ok c A (ex ++ fr) σ' s'.heap) (n : ∀ a ∈ ex, s.heap.get? a = none) (o : ExcOk s'.heap ex e C t) (f : Fx fr (keys σ' ++ fr) s'.heap G) (x : X C σ') : Ex c A G fr σ s t X v s'
theorem none_back {F fr : List Addr} {σ σ' : Sto} {s s' : Shared} (p : Post F fr σ s s' σ') {a : Addr} (h : s'.heap.get? a = none) : s.heap.get? a = none := by
 cases e : s.heap.get? a with
 | none => rfl
 | some o => obtain ⟨o1, e1⟩ := p.alive a o e; rw [e1] at h; cases h
theorem Ex.back {c : Cx} {A : Around} {G : Option Env} {fr : List Addr} {σ σ' : Sto} {s s' s'' : Shared} {t : Bool} {X X' : Addr → Sto → Prop} {v : Value} (p : Post (Fo G) fr σ s s' σ') (x : Ex c A G fr σ' s' t X v s'') (hX : ∀ C σ, X C σ → X' C σ) : Ex c A G fr σ s t X' v s'' := by
 obtain ⟨e, C, σ2, ex, rfl, q, ok, n, r, f, hx⟩ := x
 exact ⟨e, C, σ2, ex, rfl, p.trans q, ok, fun a ha => none_back p (n a ha), r, f, hX _ _ hx⟩
inductive Po {α β : Type} (c : Cx) (A : Around) (G : Option Env) (fr : List Addr) (σ : Sto) (s : Shared) (R : List Addr → Heap → β → α → Prop) (Q : β → Sto → Prop) (a : α) (s' : Shared) : Prop
 | mk (b : β) (σ' : Sto) (p : Post (Fo G) fr σ s s' σ') (ok : Ok c A fr σ' s'.heap) (r : R (keys σ' ++ fr) s'.heap b a) (q : Q b σ') : Po c A G fr σ s R Q a s'
noncomputable def W {α β : Type} (c : Cx) (A : Around) (G : Option Env) (fr : List Addr) (σ : Sto) (t : Sem α) (R : List Addr → Heap → β → α → Prop) (Q : β → Sto → Prop) (X : Addr → Sto → Prop) (s : Shared) : Prop :=
 wpAny (model c.prog c.w) A t (Po c A G fr σ s R Q) (Ex c A G fr σ s false X) s
noncomputable def WE (c : Cx) (A : Around) (fr : List Addr) (env : Env) (m : Vars) (σ : Sto) (e : Expr) (Q : D → Sto → Prop) (X : Addr → Sto → Prop) : Prop :=
 ∀ s, Ok c A fr σ s.heap → Fm env m fr (keys σ ++ fr) s.heap → W c A none fr σ (eval e env) V Q X s
section
variable {c : Cx} {A : Around} {G : Option Env} {fr : List Addr} {σ : Sto} {X : Addr → Sto → Prop} {env : Env} {m : Vars}
theorem W.mono {α β : Type} {t : Sem α} {R : List Addr → Heap → β → α → Prop} {Q Q' : β → Sto → Prop} {X' : Addr → Sto → Prop} {s : Shared} (h : W c A G fr σ t R Q X s) (hQ : ∀ b σ, Q b σ → Q' b σ) (hX : ∀ C σ, X C σ → X' C σ) : W c A G fr σ t R Q' X' s :=
 wpAny_mono h (fun _ _ ⟨b, σ', p, ok, r, q⟩ => ⟨b, σ', p, ok, r, hQ _ _ q⟩) fun _ _ x => Ex.back (Post.refl ..) x hX
theorem W.bind {α β α' β' : Type} {t : Sem α} {k : α → Sem α'} {R : List Addr → Heap → β → α → Prop} {R' : List Addr → Heap → β' → α' → Prop} {Q : β' → Sto → Prop} {s : Shared}
  (h : W c A G fr σ t R (fun b σ' => ∀ a s', Post (Fo G) fr σ s s' σ' → Ok c A fr σ' s'.heap → R (keys σ' ++ fr) s'.heap b a → W c A G fr σ' (k a) R' Q X s') X s) : W c A G fr σ (t >>= k) R' Q X s := by
 refine wpAny_bind (wpAny_mono h (fun a s' ⟨b, σ', p, ok, r, q⟩ => ?_) fun _ _ x => x)
 refine wpAny_mono (q a s' p ok r) (fun a2 s2 ⟨b2, σ2, p2, ok2, r2, q2⟩ => ⟨b2, σ2, p.trans p2, ok2, r2, q2⟩) fun _ _ x => Ex.back p x fun _ _ y => y
theorem W.pure {α β : Type} {a : α} {b : β} {R : List Addr → Heap → β → α → Prop} {Q : β → Sto → Prop} {s : Shared} (ok : Ok c A fr σ s.heap) (r : R (keys σ ++ fr) s.heap b a) (q : Q b σ) : W c A G fr σ (Pure.pure a) R Q X s :=
 wpAny_pure ⟨b, σ, Post.refl .., ok, r, q⟩
theorem W.standAt {β : Type} {α : Type} {pos : Pos} {k : Sem α} {R : List Addr → Heap → β → α → Prop} {Q : β → Sto → Prop} {s : Shared} (h : W c A G fr σ k R Q X s) : W c A G fr σ (PySem.standAt pos >>= fun _ => k) R Q X s :=
 wpAny_bind (wpAny_standAt h)
theorem W.holding {β : Type} {α : Type} {vs : List Value} {k : Sem α} {R : List Addr → Heap → β → α → Prop} {Q : β → Sto → Prop} {s : Shared} (h : W c A G fr σ k R Q X s) : W c A G fr σ (PySem.holding vs k) R Q X s :=
 wpAny_holding h
end
theorem FunFrames.stays {c : Cx} {h h' : Heap} {l : List Env} {fr : List Addr} (hk : ∀ b o, b ∈ fr → h.get? b = some o → ∃ sl, h'.get? b = some { o with slots := sl }) (hl : h.FunFrames c.h0 l) (hin : ∀ b ∈ l.filterMap (·.frame), b ∈ fr) : h'.FunFrames c.h0 l := by
 induction l with
 | nil => trivial
 | cons env rest ih =>
  obtain ⟨hk1, ⟨L, o, hf, hn, ho, hd⟩, hr⟩ := hl
  have hL : L ∈ fr := hin L (by simp [List.filterMap_cons, hf])
  obtain ⟨sl, e⟩ := hk L o hL ho
  exact ⟨hk1, ⟨L, _, hf, hn, e, hd⟩, ih hr fun b hb => hin b (by simp only [List.filterMap_cons, hf]; exact List.mem_cons_of_mem _ hb)⟩
theorem Ok.keeps {c : Cx} {A : Around} {fr : List Addr} {σ : Sto} {h h' : Heap} (ok : Ok c A fr σ h) (k : ∀ b o, h.get? b = some o → h'.get? b = some o) : Ok c A fr σ h' where
 base := fun b o e => k b o (ok.base b o e)
 sto := fun p hp => IsO.move (fun b o _ e => k b o e) (fun a m => .inl m) (fun x e => k _ x e) (ok.sto p hp)
 nd := ok.nd
 new := ok.new
 live := fun a ha => by obtain ⟨o, e⟩ := ok.live a ha; exact ⟨o, k _ _ e⟩
 stack := by
  obtain ⟨l, a, b, d, f⟩ := ok.stack
  exact ⟨l, a, FunFrames.stays (fun b o _ e => ⟨o.slots, k b o e⟩) b d, d, fun x hx => by obtain ⟨o, es, n, g, r⟩ := f x hx; exact ⟨o, es, n, k _ _ g, r⟩⟩
theorem Post.keeps {F fr : List Addr} {σ : Sto} {s : Shared} {h : Heap} {tk : Nat} (k : ∀ b o, s.heap.get? b = some o → h.get? b = some o) : Post F fr σ s { s with heap := h, toks := tk } σ :=
 ⟨⟨h, tk, rfl⟩, fun b o _ e => k b o e, fun b o _ _ e => ⟨o.slots, k b o e, fun _ => rfl⟩, fun b o e => ⟨o, k b o e⟩, fun _ m => .inl m⟩
end Mine
namespace Mine
open PySem PySem.Calls PyProof.Rows
section
variable {c : Cx} {A : Around} {G : Option Env} {fr : List Addr} {σ : Sto} {X : Addr → Sto → Prop} {env : Env} {m : Vars} {Q : D → Sto → Prop}
theorem wpAny_release {M : Model} {A : Around} {E : Value → Shared → Prop} {s : Shared} {vs keep : List Value} {Q : Unit → Shared → Prop} (h : Q () s) : wpAny M A (release vs keep) Q E s := fun Γ p hΓ => by
 unfold release
 rw [Sem.wp_release_go]; exact h
theorem W.operate {β : Type} {vs : List Value} {t : Sem Value} {R : List Addr → Heap → β → Value → Prop} {Q : β → Sto → Prop} {s : Shared} (h : W c A G fr σ t R Q X s) : W c A G fr σ (PySem.operate vs t) R Q X s := by
 unfold PySem.operate
 exact wpAny_bind (wpAny_holding (wpAny_mono h (fun a s' q => wpAny_bind (wpAny_release (wpAny_pure q))) fun _ _ x => x))
theorem WE.kInt {i : Int} {k : Nat} {pos : Pos} (h : Q (.int i) σ) : WE c A fr env m σ (.Constant (.int i) k pos) Q X := fun s ok fm =>
 wpAny_Constant_int ⟨.int i, σ, Post.tok .., ok, by unfold V; exact ⟨_, rfl⟩, h⟩
theorem WE.kStr {x : Str} {k : Nat} {pos : Pos} (h : Q (.str x) σ) : WE c A fr env m σ (.Constant (.str x) k pos) Q X := fun s ok fm =>
 Constant_str ⟨.str x, σ, Post.tok .., ok, by unfold V; exact ⟨_, rfl⟩, h⟩
theorem WE.kBool {b : Bool} {k : Nat} {pos : Pos} (h : Q (.bool b) σ) : WE c A fr env m σ (.Constant (.bool b) k pos) Q X := fun s ok fm =>
 wpAny_pure ⟨.bool b, σ, Post.refl .., ok, by unfold V; rfl, h⟩
theorem WE.mono {e : Expr} {Q' : D → Sto → Prop} {X' : Addr → Sto → Prop} (h : WE c A fr env m σ e Q X) (hQ : ∀ d σ, Q d σ → Q' d σ) (hX : ∀ C σ, X C σ → X' C σ) : WE c A fr env m σ e Q' X' :=
 fun s ok fm => (h s ok fm).mono hQ hX
theorem WE.nLocal {x : Str} {pos : Pos} {d : D} (hv : m.lookup x = some d) (hk : env.kindOf x = some .local) (h : Q d σ) (hd : (x == ("__debug__" : Str)) = false := by decide) : WE c A fr env m σ (.Name x pos) Q X := fun s ok fm => by
 obtain ⟨mv, hn, r⟩ := fm.ns
 obtain ⟨v, e, hV⟩ := r x d hv hk
 exact wpAny_Name (wpAny_loadName_local fm.kind hk hn e ⟨d, σ, Post.refl .., ok, hV, h⟩) hd
theorem WE.nCell {x : Str} {pos : Pos} {d : D} (hv : m.lookup x = some d) (hk : env.kindOf x = some .cell) (h : Q d σ) (hd : (x == ("__debug__" : Str)) = false := by decide) : WE c A fr env m σ (.Name x pos) Q X := fun s ok fm => by
 obtain ⟨cc, hc⟩ := fm.has x (.inl hk)
 obtain ⟨ov, hcell, r⟩ := fm.cell x cc hc
 obtain ⟨v, rfl, hV⟩ := r d hv (.inl hk)
 exact wpAny_Name (wpAny_loadName_cell fm.kind hk hc hcell ⟨d, σ, Post.refl .., ok, hV, h⟩) hd
noncomputable def WB (c : Cx) (A : Around) (fr : List Addr) (σ : Sto) (t : Value → Value → Sem Value) (d1 d2 : D) (Q : D → Sto → Prop) (X : Addr → Sto → Prop) : Prop :=
 ∀ v1 v2 s, Ok c A fr σ s.heap → V (keys σ ++ fr) s.heap d1 v1 → V (keys σ ++ fr) s.heap d2 v2 → W c A none fr σ (t v1 v2) V Q X s
noncomputable def WU (c : Cx) (A : Around) (fr : List Addr) (σ : Sto) (t : Value → Sem Value) (d1 : D) (Q : D → Sto → Prop) (X : Addr → Sto → Prop) : Prop :=
 ∀ v1 s, Ok c A fr σ s.heap → V (keys σ ++ fr) s.heap d1 v1 → W c A none fr σ (t v1) V Q X s
theorem WE.binop {l r : Expr} {op : Operator} {pos : Pos} (h : WE c A fr env m σ l (fun d1 σ1 => WE c A fr env m σ1 r (fun d2 σ2 => WB c A fr σ2 (binaryOp op) d1 d2 Q X) X) X) : WE c A fr env m σ (.BinOp l op r pos) Q X := fun s ok fm => by
 unfold W
 rw [eval_BinOp]
 refine W.bind (W.mono (h s ok fm) (fun d1 σ1 q1 a s1 p1 ok1 x1 => ?_) fun _ _ y => y)
 refine W.bind (W.holding (W.mono (q1 s1 ok1 (fm.move p1)) (fun d2 σ2 q2 b s2 p2 ok2 x2 => ?_) fun _ _ y => y))
 exact W.standAt (W.operate (q2 a b s2 ok2 (p2.v x1) x2))
theorem WE.compare {l r : Expr} {op : CmpOp} {pos : Pos} (h : WE c A fr env m σ l (fun d1 σ1 => WE c A fr env m σ1 r (fun d2 σ2 => WB c A fr σ2 (compareOp op) d1 d2 Q X) X) X) (hb : behindInMarks op r = false := by rfl) :
  WE c A fr env m σ (.Compare l [op] [r] pos) Q X := fun s ok fm => by
 unfold W
 rw [eval_Compare1, markedBehindIn_of_false hb]
 refine W.bind (W.mono (h s ok fm) (fun d1 σ1 q1 a s1 p1 ok1 x1 => ?_) fun _ _ y => y)
 refine W.bind (W.holding (W.mono (q1 s1 ok1 (fm.move p1)) (fun d2 σ2 q2 b s2 p2 ok2 x2 => ?_) fun _ _ y => y))
 exact W.standAt (W.operate (q2 a b s2 ok2 (p2.v x1) x2))
theorem WE.unary {x : Expr} {op : UnaryOp} {pos : Pos} (h : WE c A fr env m σ x (fun d1 σ1 => WU c A fr σ1 (unaryOp op) d1 Q X) X) : WE c A fr env m σ (.UnaryOp op x pos) Q X := fun s ok fm => by
 unfold W
 rw [arm_eval_UnaryOp]
 refine W.bind (W.mono (h s ok fm) (fun d1 σ1 q1 a s1 p1 ok1 x1 => ?_) fun _ _ y => y)
 exact W.standAt (W.holding (q1 a s1 ok1 x1))
end
end Mine
namespace Mine
open PySem PySem.Calls PyProof.Rows
theorem FunFrames.turn {c : Cx} {h h' : Heap} {l : List Env} {fr : List Addr} (hk : ∀ b o, b ∈ fr → h.get? b = some o → (∀ vs, o.data ≠ .fields vs) → ∃ o', h'.get? b = some o' ∧ ∀ vs, o'.data ≠ .fields vs) (hl : h.FunFrames c.h0 l) (hin : ∀ b ∈ l.filterMap (·.frame), b ∈ fr) : h'.FunFrames c.h0 l := by
 induction l with
 | nil => trivial
 | cons env rest ih =>
  obtain ⟨hk1, ⟨L, o, hf, hn, ho, hd⟩, hr⟩ := hl
  have hL : L ∈ fr := hin L (by simp [List.filterMap_cons, hf])
  obtain ⟨o', e, hd'⟩ := hk L o hL ho hd
  exact ⟨hk1, ⟨L, _, hf, hn, e, hd'⟩, ih hr fun b hb => hin b (by simp only [List.filterMap_cons, hf]; exact List.mem_cons_of_mem _ hb)⟩
theorem Ok.turn {c : Cx} {A : Around} {fr : List Addr} {σ : Sto} {h h' : Heap} {a : Addr} {oa : Obj} (ok : Ok c A fr σ h) (ha : a ∈ fr) (sb : Heap.SameBut a h h') (e : h'.get? a = some oa) (hd : ∀ vs, oa.data ≠ .fields vs) (hdd : DictAt h a → DictAt h' a) : Ok c A fr σ h' where
 base := fun b o e => (sb.2 b fun q => by rw [q, ok.new a (List.mem_append_right _ ha)] at e; cases e).trans (ok.base b o e)
 sto := fun p hp => IsO.move (fun b o n e => (sb.2 b fun q => n (q ▸ List.mem_append_right _ ha)).trans e) (fun a m => .inl m) (fun x e => (sb.2 _ fun q => by
  have := ok.nd
  rw [List.nodup_append] at this
  exact this.2.2 _ (List.mem_map_of_mem hp) _ ha q).trans e) (ok.sto p hp)
 nd := ok.nd
 new := ok.new
 live := fun b hb => by
  by_cases q : b = a
  ·subst q; exact ⟨_, e⟩
  ·obtain ⟨o, x⟩ := ok.live b hb; exact ⟨o, (sb.2 b q).trans x⟩
 stack := by
  obtain ⟨l, x, y, z, zd⟩ := ok.stack
  refine ⟨l, x, FunFrames.turn (fun b o _ g k => ?_) y z, z, fun b hb => ?_⟩
  ·by_cases q : b = a
   ·subst q; exact ⟨_, e, hd⟩
   ·exact ⟨o, (sb.2 b q).trans g, k⟩
  ·by_cases q : b = a
   ·subst q; exact hdd (zd _ hb)
   ·obtain ⟨o, es, n, g, r⟩ := zd b hb; exact ⟨o, es, n, (sb.2 b q).trans g, r⟩
theorem Post.turn {env : Env} {fr : List Addr} {σ : Sto} {s : Shared} {h' : Heap} {tk : Nat} {a : Addr} {oa : Obj} (ha : a ∈ Fa env) (hi : ∀ b ∈ Fa env, b ∈ fr) (sb : Heap.SameBut a s.heap h') (e : h'.get? a = some oa) : Post (Fa env) fr σ s { s with heap := h', toks := tk } σ :=
 ⟨⟨h', tk, rfl⟩, fun b o n g => (sb.2 b fun q => n (q ▸ List.mem_append_right _ (hi _ ha))).trans g, fun b o _ n g => ⟨o.slots, (sb.2 b fun q => n (q ▸ ha)).trans g, fun _ => rfl⟩,
  fun b o g => by
   by_cases q : b = a
   ·subst q; exact ⟨_, e⟩
   ·exact ⟨o, (sb.2 b q).trans g⟩, fun _ m => .inl m⟩
theorem Fm.fa {env : Env} {m : Vars} {fr K : List Addr} {h : Heap} (f : Fm env m fr K h) : ∀ b ∈ Fa env, b ∈ fr := fun b hb => by
 rcases List.mem_cons.mp hb with rfl | hb
 ·exact f.inn.1
 ·obtain ⟨p, hp, rfl⟩ := List.mem_map.mp hb; exact f.inn.2 p hp
theorem lookup_cons_eq {x y : Str} {d : D} {m : Vars} : List.lookup y ((x, d) :: m) = if y = x then some d else m.lookup y := by
 rw [List.lookup_cons]
 by_cases h : y = x
 ·subst h; simp
 ·have : (y == x) = false := by simpa using h
  rw [this, if_neg h]
theorem Fm.storeL {env : Env} {m : Vars} {fr K : List Addr} {h h' : Heap} {x : Str} {d : D} {v : Value} {mv : Str → Option Value} (f : Fm env m fr K h) (hK : ∀ b ∈ fr, b ∈ K) (hmv : ∀ x d, m.lookup x = some d → env.kindOf x = some .local → ∃ v, mv x = some v ∧ V K h d v)
  (hn : h'.Ns env.locals (fun y => if y = x then some v else mv y)) (sb : Heap.SameBut env.locals h h') (hV : V K h d v) (hk : env.kindOf x = some .local) : Fm env ((x, d) :: m) fr K h' := by
 have st : Stay K h h' := fun b o n e => (sb.2 b fun q => n (q ▸ hK _ f.inn.1)).trans e
 have ls : Less K K h := fun a m => .inl m
 exact {
  kind := f.kind
  glob := f.glob
  bui := f.bui
  ns := ⟨_, hn, fun y d' e k => by
   rw [lookup_cons_eq] at e
   by_cases q : y = x
   ·rw [if_pos q] at e; cases e; exact ⟨v, by simp [q], V.move st ls _ _ hV⟩
   ·rw [if_neg q] at e
    obtain ⟨u, a, b⟩ := hmv y d' e k
    exact ⟨u, by simp [q, a], V.move st ls _ _ b⟩⟩
  cell := fun y cc e => by
   obtain ⟨ov, hc, r⟩ := f.cell y cc e
   refine ⟨ov, hc.sameBut sb (f.apart.2 _ (mem_of_lookup e)), fun d' e' k => ?_⟩
   rw [lookup_cons_eq] at e'
   by_cases q : y = x
   ·subst q; rw [hk] at k; rcases k with k | k <;> cases k
   ·rw [if_neg q] at e'
    obtain ⟨u, a, b⟩ := r d' e' k
    exact ⟨u, a, V.move st ls _ _ b⟩
  has := f.has
  inn := f.inn
  apart := f.apart }
theorem Fm.storeC {env : Env} {m : Vars} {fr K : List Addr} {h h' : Heap} {x : Str} {d : D} {v : Value} {cc : Addr} (f : Fm env m fr K h) (hK : ∀ b ∈ fr, b ∈ K) (hcc : env.cells.lookup x = some cc)
  (hn : h'.IsCell cc (some v)) (sb : Heap.SameBut cc h h') (hV : V K h d v) (hk : env.kindOf x = some .cell) : Fm env ((x, d) :: m) fr K h' := by
 have hin := mem_of_lookup hcc
 have st : Stay K h h' := fun b o n e => (sb.2 b fun q => n (q ▸ hK _ (f.inn.2 _ hin))).trans e
 have ls : Less K K h := fun a m => .inl m
 exact {
  kind := f.kind
  glob := f.glob
  bui := f.bui
  ns := by
   obtain ⟨mv, hns, r⟩ := f.ns
   refine ⟨mv, hns.sameBut sb (Ne.symm (f.apart.2 _ hin)), fun y d' e k => ?_⟩
   rw [lookup_cons_eq] at e
   by_cases q : y = x
   ·subst q; rw [hk] at k; cases k
   ·rw [if_neg q] at e
    obtain ⟨u, a, b⟩ := r y d' e k
    exact ⟨u, a, V.move st ls _ _ b⟩
  cell := fun y c' e => by
   by_cases q : y = x
   ·subst q
    rw [hcc] at e; cases e
    refine ⟨some v, hn, fun d' e' k => ?_⟩
    rw [lookup_cons_eq, if_pos rfl] at e'
    cases e'
    exact ⟨v, rfl, V.move st ls _ _ hV⟩
   ·obtain ⟨ov, hc, r⟩ := f.cell y c' e
    refine ⟨ov, hc.sameBut sb fun z => q (name_of_addr f.apart.1 (mem_of_lookup e) (z ▸ hin)), fun d' e' k => ?_⟩
    rw [lookup_cons_eq, if_neg q] at e'
    obtain ⟨u, a, b⟩ := r d' e' k
    exact ⟨u, a, V.move st ls _ _ b⟩
  has := f.has
  inn := f.inn
  apart := f.apart }
section
variable {c : Cx} {A : Around} {fr : List Addr} {σ : Sto} {X : Addr → Sto → Prop} {env : Env} {m : Vars}
theorem W.store {x : Str} {d : D} {v : Value} {s : Shared} (ok : Ok c A fr σ s.heap) (f : Fm env m fr (keys σ ++ fr) s.heap) (hV : V (keys σ ++ fr) s.heap d v) (hk : env.kindOf x = some .local ∨ env.kindOf x = some .cell) :
  W c A (some env) fr σ (storeName env x v) (fun K h (_ : Unit) _ => Fm env ((x, d) :: m) fr K h) (fun _ σ' => σ' = σ) X s := by
 have hK : ∀ b ∈ fr, b ∈ keys σ ++ fr := fun b hb => List.mem_append_right _ hb
 rcases hk with hk | hk
 ·obtain ⟨mv, hn, r⟩ := f.ns
  refine wpAny_storeName_local hk hn (fun h' hn' sb => ?_) (by rw [f.kind]; rfl)
  obtain ⟨o, es, ep, e, hd, _⟩ := id hn'
  refine ⟨(), σ, Post.turn (List.mem_cons_self) f.fa sb e, ok.turn f.inn.1 sb e (fun vs => by rw [hd]; intro q; cases q) (fun _ => ⟨o, es, ep, e, hd⟩), ?_, rfl⟩
  exact f.storeL hK r hn' sb hV hk
 ·obtain ⟨cc, hcc⟩ := f.has x (.inl hk)
  obtain ⟨ov, hc, _⟩ := f.cell x cc hcc
  refine wpAny_storeName_cell f.kind hk hcc hc fun h' hc' sb => ?_
  obtain ⟨o, e, hd⟩ := id hc'
  have hin := mem_of_lookup hcc
  refine ⟨(), σ, Post.turn (tk := s.toks) (List.mem_cons_of_mem _ (List.mem_map_of_mem (f := (·.2)) hin)) f.fa sb e, ok.turn (f.inn.2 _ hin) sb e (fun vs => by rw [hd]; intro q; cases q) (fun z => by
   obtain ⟨o1, es, n, g1, d1⟩ := z
   obtain ⟨o2, g2, d2⟩ := hc
   rw [g1] at g2; cases g2; rw [d1] at d2; cases d2), ?_, rfl⟩
  exact f.storeC hK hcc hc' sb hV hk
inductive Out where
 | next (m : Vars)
 | ret (d : D)
noncomputable def RO (env : Env) (fr : List Addr) (K : List Addr) (h : Heap) : Out → Flow → Prop
 | .next m', fl => fl = .next ∧ Fm env m' fr K h
 | .ret d, fl => ∃ v, fl = .ret v ∧ V K h d v ∧ Fm env [] fr K h
noncomputable def QO (N : Vars → Sto → Prop) (R : D → Sto → Prop) : Out → Sto → Prop
 | .next m', σ => N m' σ
 | .ret d, σ => R d σ
noncomputable def W1 (c : Cx) (A : Around) (fr : List Addr) (env : Env) (m : Vars) (σ : Sto) (st : Stmt) (N : Vars → Sto → Prop) (R : D → Sto → Prop) (X : Addr → Sto → Prop) : Prop :=
 ∀ s, Ok c A fr σ s.heap → Fm env m fr (keys σ ++ fr) s.heap → W c A (some env) fr σ (exec st env) (RO env fr) (QO N R) X s
noncomputable def WS (c : Cx) (A : Around) (fr : List Addr) (env : Env) (m : Vars) (σ : Sto) (ss : List Stmt) (N : Vars → Sto → Prop) (R : D → Sto → Prop) (X : Addr → Sto → Prop) : Prop :=
 ∀ s, Ok c A fr σ s.heap → Fm env m fr (keys σ ++ fr) s.heap → W c A (some env) fr σ (execs ss env) (RO env fr) (QO N R) X s
variable {N : Vars → Sto → Prop} {R : D → Sto → Prop}
theorem WS.nil (h : N m σ) : WS c A fr env m σ [] N R X := fun s ok fm => wpAny_execs_nil ⟨.next m, σ, Post.refl .., ok, ⟨rfl, fm⟩, h⟩
theorem WS.cons {st : Stmt} {rest : List Stmt} (h : W1 c A fr env m σ st (fun m' σ' => WS c A fr env m' σ' rest N R X) R X) : WS c A fr env m σ (st :: rest) N R X := fun s ok fm => by
 unfold W
 rw [execs_cons]
 refine W.bind (W.mono (h s ok fm) (fun o σ1 q1 a s1 p1 ok1 x1 => ?_) fun _ _ y => y)
 cases o with
 | next m1 => obtain ⟨rfl, fm1⟩ := x1; exact q1 s1 ok1 fm1
 | ret d => obtain ⟨v, rfl, hv⟩ := x1; exact W.pure (b := Out.ret d) ok1 ⟨v, rfl, hv⟩ q1
theorem Fm.forget {env : Env} {m : Vars} {fr K : List Addr} {h : Heap} (f : Fm env m fr K h) : Fm env [] fr K h where
 kind := f.kind
 glob := f.glob
 bui := f.bui
 ns := by obtain ⟨mv, hn, _⟩ := f.ns; exact ⟨mv, hn, fun x d e => by cases e⟩
 cell := fun x cc e => by obtain ⟨ov, h, _⟩ := f.cell x cc e; exact ⟨ov, h, fun d e => by cases e⟩
 has := f.has
 inn := f.inn
 apart := f.apart
theorem Ex.wide {v : Value} {s s' : Shared} {t : Bool} (fm : Fm env m fr (keys σ ++ fr) s.heap) (x : Ex c A none fr σ s t X v s') : Ex c A (some env) fr σ s t X v s' := by
 obtain ⟨e, C, σ2, ex, rfl, q, ok, n, r, f, hx⟩ := x
 exact ⟨e, C, σ2, ex, rfl, q.wide (by simp), ok, n, r, (fm.move q).forget, hx⟩
theorem W.bindE {α β α' β' : Type} {t : Sem α} {k : α → Sem α'} {R : List Addr → Heap → β → α → Prop} {R' : List Addr → Heap → β' → α' → Prop} {Q : β' → Sto → Prop} {s : Shared} (fm : Fm env m fr (keys σ ++ fr) s.heap)
  (h : W c A none fr σ t R (fun b σ' => ∀ a s', Fm env m fr (keys σ' ++ fr) s'.heap → Post [] fr σ s s' σ' → Ok c A fr σ' s'.heap → R (keys σ' ++ fr) s'.heap b a → W c A (some env) fr σ' (k a) R' Q X s') X s) : W c A (some env) fr σ (t >>= k) R' Q X s := by
 refine wpAny_bind (wpAny_mono h (fun a s' ⟨b, σ', p, ok, r, q⟩ => ?_) fun _ _ x => x.wide fm)
 refine wpAny_mono (q a s' (fm.move p) p ok r) (fun a2 s2 ⟨b2, σ2, p2, ok2, r2, q2⟩ => ⟨b2, σ2, (p.wide (by simp)).trans p2, ok2, r2, q2⟩) fun _ _ x => Ex.back (p.wide (by simp)) x fun _ _ y => y
theorem W1.ret {e : Expr} {pos : Pos} (h : WE c A fr env m σ e R X) : W1 c A fr env m σ (.Return (some e) pos) N R X := fun s ok fm => by
 unfold W
 rw [exec_Return_some]
 refine W.standAt (W.bindE fm (W.mono (h s ok fm) (fun d σ1 q1 a s1 fm1 p1 ok1 x1 => ?_) fun _ _ y => y))
 exact W.pure (b := Out.ret d) ok1 ⟨a, rfl, x1, fm1.forget⟩ q1
theorem W1.assign {x : Str} {pos' pos : Pos} {value : Expr} (h : WE c A fr env m σ value (fun d σ' => N ((x, d) :: m) σ') X) (hk : env.kindOf x = some .local ∨ env.kindOf x = some .cell)
  (hs : swapsWith value (some (.Name x pos')) pos.line env = pure false) : W1 c A fr env m σ (.Assign [.Name x pos'] value pos) N R X := fun s ok fm => by
 unfold W
 rw [exec_Assign_Name (hs := hs)]
 refine W.standAt (W.bindE fm (W.mono (h s ok fm) (fun d σ1 q1 a s1 fm1 p1 ok1 x1 => ?_) fun _ _ y => y))
 refine W.standAt (W.bind (R := fun K h (_ : Unit) _ => Fm env ((x, d) :: m) fr K h) (wpAny_bindName (W.mono (W.store ok1 fm1 x1 hk) (fun _ σ2 q2 _ s2 p2 ok2 x2 => ?_) fun _ _ y => y)))
 subst q2; exact W.pure (b := Out.next _) ok2 ⟨rfl, x2⟩ q1
end
end Mine
namespace Mine
open PySem PySem.Calls PyProof.Rows
theorem dict_mapFields (f : Array Value → Array Value) (o : Obj) : (o.mapFields f).dict = o.dict := by
 obtain ⟨a, b, d, e⟩ := o
 cases d <;> rfl
theorem Ok.side {c : Cx} {A : Around} {fr : List Addr} {σ : Sto} {h h' : Heap} (ok : Ok c A fr σ h)
  (k : ∀ b o, b ∉ fr → h.get? b = some o → h'.get? b = some o)
  (k2 : ∀ b o, b ∈ fr → h.get? b = some o → ∃ o', h'.get? b = some o' ∧ ((∃ vs, o.data = .fields vs) ∨ o'.data = o.data)) : Ok c A fr σ h' where
 base := fun b o e => k b o (fun q => by rw [ok.new b (List.mem_append_right _ q)] at e; cases e) (ok.base b o e)
 sto := fun p hp => IsO.move (fun b o n e => k b o (fun q => n (List.mem_append_right _ q)) e) (fun a m => .inl m) (fun x e => k _ _ (fun q => by
  have := ok.nd
  rw [List.nodup_append] at this
  exact this.2.2 _ (List.mem_map_of_mem hp) _ q rfl) e) (ok.sto p hp)
 nd := ok.nd
 new := ok.new
 live := fun b hb => by obtain ⟨o, x⟩ := ok.live b hb; obtain ⟨o', y, _⟩ := k2 b o hb x; exact ⟨o', y⟩
 stack := by
  obtain ⟨l, x, y, z, zd⟩ := ok.stack
  refine ⟨l, x, FunFrames.turn (fun b o hb g q => ?_) y z, z, fun b hb => ?_⟩
  ·obtain ⟨o', y, r⟩ := k2 b o hb g
   rcases r with ⟨vs, r⟩ | r
   ·exact absurd r (q vs)
   ·exact ⟨o', y, fun vs => r ▸ q vs⟩
  ·obtain ⟨o, es, n, g, d⟩ := zd b hb
   obtain ⟨o', y, r⟩ := k2 b o (z b hb) g
   rcases r with ⟨vs, r⟩ | r
   ·rw [d] at r; cases r
   ·exact ⟨o', es, n, y, r.trans d⟩
theorem Fm.bare {env : Env} {fr K K' : List Addr} {h h' : Heap} (f : Fm env [] fr K h) (k : ∀ b o, b ∈ fr → h.get? b = some o → ∃ sl, h'.get? b = some { o with slots := sl }) : Fm env [] fr K' h' where
 kind := f.kind
 glob := f.glob
 bui := f.bui
 ns := by
  obtain ⟨mv, ⟨o, es, ep, g, r⟩, _⟩ := f.ns
  obtain ⟨sl, g'⟩ := k _ _ f.inn.1 g
  exact ⟨mv, ⟨_, es, ep, g', r⟩, fun x d e => by cases e⟩
 cell := fun x cc e => by
  obtain ⟨ov, ⟨o, g, hd⟩, _⟩ := f.cell x cc e
  obtain ⟨sl, g'⟩ := k _ _ (f.inn.2 _ (mem_of_lookup e)) g
  exact ⟨ov, ⟨_, g', hd⟩, fun d e => by cases e⟩
 has := f.has
 inn := f.inn
 apart := f.apart
theorem Fx.bare {G : Option Env} {fr K K' : List Addr} {h h' : Heap} (f : Fx fr K h G) (k : ∀ b o, b ∈ fr → h.get? b = some o → ∃ sl, h'.get? b = some { o with slots := sl }) : Fx fr K' h' G := by
 cases G with
 | none => trivial
 | some env => exact Fm.bare f k
structure Fly (ex fr : List Addr) (h h' : Heap) : Prop where
 kept : ∀ b o, b ∉ ex ++ fr → h.get? b = some o → h'.get? b = some o
 slots : ∀ b o, b ∈ fr → h.get? b = some o → ∃ sl, h'.get? b = some { o with slots := sl } ∧ ((∀ es n, o.data ≠ .dict es n) → sl = o.slots)
 own : ∀ b o, b ∈ ex → h.get? b = some o → ∃ o' vs, h'.get? b = some o' ∧ o'.data = .fields vs ∧ ∃ vs, o.data = .fields vs
theorem Fly.ok {c : Cx} {A : Around} {ex fr : List Addr} {σ : Sto} {h h' : Heap} (y : Fly ex fr h h') (ok : Ok c A (ex ++ fr) σ h) : Ok c A (ex ++ fr) σ h' := by
 refine ok.side y.kept fun b o hb e => ?_
 by_cases q : b ∈ ex
 ·obtain ⟨o', vs, g, _, z⟩ := y.own b o q e; exact ⟨o', g, .inl z⟩
 ·obtain ⟨sl, g, _⟩ := y.slots b o ((List.mem_append.mp hb).resolve_left q) e
  exact ⟨_, g, .inr rfl⟩
theorem Fly.post {F fr ex : List Addr} {σ σ' : Sto} {s s' : Shared} {h' : Heap} (y : Fly ex fr s'.heap h') (p : Post F fr σ s s' σ') (n : ∀ a ∈ ex, s.heap.get? a = none) (nk : ∀ a ∈ ex, a ∉ keys σ' ++ fr) (ne : ∀ a ∈ keys σ', a ∉ ex ++ fr) : Post F fr σ s { s' with heap := h' } σ' where
 shape := by obtain ⟨h, tk, rfl⟩ := p.shape; exact ⟨h', tk, rfl⟩
 kept := fun b o hb e => y.kept b o (fun q => by
  rcases List.mem_append.mp q with q | q
  ·rw [n b q] at e; cases e
  ·exact hb (List.mem_append_right _ q)) (p.kept b o hb e)
 slots := fun b o m nf e => by
  obtain ⟨sl, e1, r1⟩ := p.slots b o m nf e
  obtain ⟨sl', e2, r2⟩ := y.slots b _ m e1
  exact ⟨sl', e2, fun z => (r2 z).trans (r1 z)⟩
 alive := fun b o e => by
  obtain ⟨o1, e1⟩ := p.alive b o e
  by_cases q : b ∈ fr
  ·obtain ⟨sl', e2, _⟩ := y.slots b _ q e1; exact ⟨_, e2⟩
  ·exact ⟨o1, y.kept b o1 (fun z => by
    rcases List.mem_append.mp z with z | z
    ·rw [n b z] at e; cases e
    ·exact q z) e1⟩
 grow := p.grow
theorem Ok.apart {c : Cx} {A : Around} {ex fr : List Addr} {σ : Sto} {h : Heap} (ok : Ok c A (ex ++ fr) σ h) : (∀ a ∈ ex, a ∉ keys σ ++ fr) ∧ (∀ a ∈ keys σ, a ∉ ex ++ fr) ∧ ex.Nodup := by
 have := ok.nd
 rw [List.nodup_append, List.nodup_append] at this
 obtain ⟨h1, ⟨h2, h3, h4⟩, h5⟩ := this
 refine ⟨fun a ha hm => ?_, fun a ha hm => h5 a ha a hm rfl, h2⟩
 rcases List.mem_append.mp hm with q | q
 ·exact h5 a q a (List.mem_append_left _ ha) rfl
 ·exact h4 a ha a q rfl
theorem fly_update {ex fr : List Addr} {h : Heap} {a : Addr} {o : Obj} {vs : Array Value} {i : Nat} {x : Value} (ha : a ∈ ex) (nf : a ∉ fr) (e : h.get? a = some o) (hd : o.data = .fields vs) (hall : ∀ b o, b ∈ ex → h.get? b = some o → ∃ vs, o.data = .fields vs) :
  Fly ex fr h (h.update a (Obj.mapFields (·.setIfInBounds i x))) := by
 have hd' := Obj.data_mapFields hd (·.setIfInBounds i x)
 have e' := Heap.get?_update_self (Obj.mapFields (·.setIfInBounds i x)) e (Obj.isFreed_of_fields hd')
 refine ⟨fun b o hb g => ?_, fun b o hb g => ?_, fun b o hb g => ?_⟩
 ·rw [Heap.get?_update_other (b := b) _ _ (fun (q : a = b) => hb (q ▸ List.mem_append_left _ ha))]; exact g
 ·exact ⟨o.slots, by rw [Heap.get?_update_other (b := b) _ _ (fun (q : a = b) => nf (q ▸ hb))]; exact g, fun _ => rfl⟩
 ·by_cases q : b = a
  ·subst q; rw [e] at g; cases g; exact ⟨_, _, e', hd', vs, hd⟩
  ·obtain ⟨us, hu⟩ := hall b o hb g
   exact ⟨o, us, by rw [Heap.get?_update_other _ _ (Ne.symm q)]; exact g, hu, us, hu⟩
section
variable {c : Cx} {A : Around} {G : Option Env} {fr : List Addr} {σ : Sto} {X : Addr → Sto → Prop} {env : Env} {s s' : Shared} {v : Value} {E : Value → Shared → Prop}
theorem Ex.weak {t : Bool} (x : Ex c A G fr σ s t X v s') : Ex c A G fr σ s false X v s' := by
 obtain ⟨e, C, σ2, ex, rfl, q, ok, n, ⟨oe, vs, g, gc, gd, gs, r⟩, f, hx⟩ := x
 refine ⟨e, C, σ2, ex, rfl, q, ok, n, ⟨oe, vs, g, gc, gd, gs, ?_⟩, f, hx⟩
 rcases r with ⟨_, r⟩ | r
 ·exact .inl ⟨rfl, r⟩
 ·exact .inr r
theorem Ex.flight {f? : Option Addr} (x : Ex c A G fr σ s true X v s') : wpAny (model c.prog c.w) A (setFlight v f?) (fun _ s'' => Ex c A G fr σ s true X v s'') E s' := by
 obtain ⟨e, C, σ2, ex, rfl, q, ok, n, ⟨oe, vs, g, gc, gd, gs, r⟩, f, hx⟩ := x
 rcases r with ⟨r, _⟩ | ⟨T, oT, ts, rfl, hT, gT, dT, sT⟩
 ·cases r
 obtain ⟨ap1, ap2, ap3⟩ := ok.apart
 unfold setFlight
 refine wpAny_bind (wpAny_field g gd hT ?_)
 rw [if_pos (by simp)]
 refine wpAny_setField gT dT (by exact Nat.lt_of_lt_of_le (by decide) sT) ?_
 have hne : T ≠ e := fun z => by subst z; simp at ap3
 have hall : ∀ b o, b ∈ [e, T] → s'.heap.get? b = some o → ∃ vs, o.data = .fields vs := fun b o hb gb => by
  rcases List.mem_cons.mp hb with rfl | hb
  ·rw [g] at gb; cases gb; exact ⟨_, gd⟩
  ·rw [List.mem_singleton.mp hb, gT] at gb; cases gb; exact ⟨_, dT⟩
 have y := fly_update (ex := [e, T]) (fr := fr) (i := 3) (x := f?.elim Value.none fun f => rawInt f) (by simp) (fun z => ap1 T (by simp) (List.mem_append_right _ z)) gT dT hall
 refine ⟨e, C, σ2, [e, T], rfl, y.post q n ap1 ap2, y.ok ok, n, ⟨oe, vs, ?_, gc, gd, gs, .inr ⟨T, _, _, rfl, hT, Heap.get?_update_self _ gT (Obj.isFreed_of_fields (Obj.data_mapFields dT _)), Obj.data_mapFields dT _, by simpa using sT⟩⟩, f.bare (fun b o hb e => by obtain ⟨sl, z, _⟩ := y.slots b o hb e; exact ⟨sl, z⟩), hx⟩
 rw [Heap.get?_update_other _ _ hne]; exact g
theorem Ex.noted {t : Bool} {l : List Env} {L : Addr} (x : Ex c A G fr σ s t X v s') (hA : A.frames = some (env :: l)) (hf : env.frame = some L) : wpAny (model c.prog c.w) A (noteFrame v env) (fun _ s'' => Ex c A G fr σ s true X v s'') E s' := by
 obtain ⟨e, C, σ2, ex, rfl, q, ok, n, ⟨oe, vs, g, gc, gd, gs, r⟩, f, hx⟩ := x
 obtain ⟨l', hl', hff, hin, hdict⟩ := ok.stack
 obtain rfl : env :: l = l' := by rw [hA] at hl'; exact Option.some.inj hl'
 obtain ⟨ap1, ap2, ap3⟩ := ok.apart
 have hall : ∀ b o, b ∈ ex → s'.heap.get? b = some o → ∃ vs, o.data = .fields vs := fun b o hb gb => by
  rcases r with ⟨_, rfl, _⟩ | ⟨T, oT, ts, rfl, hT, gT, dT, sT⟩
  ·rw [List.mem_singleton.mp hb, g] at gb; cases gb; exact ⟨_, gd⟩
  ·rcases List.mem_cons.mp hb with rfl | hb
   ·rw [g] at gb; cases gb; exact ⟨_, gd⟩
   ·rw [List.mem_singleton.mp hb, gT] at gb; cases gb; exact ⟨_, dT⟩
 have hnex : ∀ b ∈ (env :: l).filterMap (·.frame), b ∈ fr := fun b hm => by
  rcases List.mem_append.mp (hin b hm) with z | z
  ·obtain ⟨_, o, ho, hnf⟩ := hff.mem hm
   obtain ⟨us, hu⟩ := hall b o z ho
   exact absurd hu (hnf us)
  ·exact z
 have lay : ∀ (head : Value) (h1 : Heap), Fly ex fr s'.heap h1 → h1.get? e = some oe → e ∈ ex → (head = Value.none ∨ ∃ T, head = Value.ref T) →
   wpAny (model c.prog c.w) A (do setField (.ref e) 1 (← EntryCells.newEntry head (← frameOf env) .none (rawInt L) .none (← entryPlaceOf L (head != .none)))) (fun _ s'' => Ex c A G fr σ s true X (.ref e) s'') E { s' with heap := h1 } := by
  intro head h1 y1 ge hex hhd
  have ok1 := y1.ok ok
  obtain ⟨l1, hl1, hff1, hin1, hdict1⟩ := ok1.stack
  obtain rfl : env :: l = l1 := by rw [hA] at hl1; exact Option.some.inj hl1
  refine wpAny_bind (wpAny_frameOf_fun (s := { s' with heap := h1 }) hA hff1 hf fun h2 hs2 => ?_)
  refine wpAny_bind (wpAny_entryPlaceOf fun pl hpl => ?_)
  unfold EntryCells.newEntry newFields
  refine wpAny_bind (wpAny_newObj_type ?_ (hpl.sizeOk5 _ _ _ _ _))
  have hene : e ∉ (env :: l).filterMap (·.frame) := fun hm => by
   obtain ⟨_, o, ho, hnf⟩ := hff1.mem hm
   rw [ge] at ho; injection ho with ho; subst ho; exact hnf vs gd
  have he2 : h2.get? e = some oe := (hs2.2.1 e hene).trans ge
  have he3 := Heap.get?_push_of_some (h := h2) { cls := .type "traceback", dict := none, data := .fields ([head, .ref L, .none, rawInt L, .none] ++ (if pl.isEmpty then List.replicate 6 Value.none else pl)).toArray } he2
  refine wpAny_setField he3 gd (by exact Nat.lt_of_lt_of_le (by decide) gs) ?_
  have hd3 := Obj.data_mapFields gd (·.setIfInBounds 1 (Value.ref h2.objs.size))
  have hTe : h2.objs.size ≠ e := Nat.ne_of_gt (Heap.lt_size he2)
  generalize hH3 : (h2.push { cls := .type "traceback", dict := none, data := .fields ([head, .ref L, .none, rawInt L, .none] ++ (if pl.isEmpty then List.replicate 6 Value.none else pl)).toArray }) = H3 at he3 ⊢
  have gT : (H3.update e (Obj.mapFields (·.setIfInBounds 1 (Value.ref h2.objs.size)))).get? h2.objs.size = some { cls := .type "traceback", dict := none, data := .fields ([head, .ref L, .none, rawInt L, .none] ++ (if pl.isEmpty then List.replicate 6 Value.none else pl)).toArray } := by
   rw [Heap.get?_update_other _ _ (Ne.symm hTe), ← hH3]; exact Heap.get?_push_size _ rfl
  have h23 : ∀ b o, b ≠ e → h2.get? b = some o → (H3.update e (Obj.mapFields (·.setIfInBounds 1 (Value.ref h2.objs.size)))).get? b = some o := fun b o hb gb => by
   rw [Heap.get?_update_other _ _ (Ne.symm hb), ← hH3]; exact Heap.get?_push_of_some _ gb
  have gee := Heap.get?_update_self (Obj.mapFields (·.setIfInBounds 1 (Value.ref h2.objs.size))) he3 (Obj.isFreed_of_fields hd3)
  have hefr : e ∉ fr := fun z => ap1 e hex (List.mem_append_right _ z)
  have k12 : ∀ b o, b ∉ fr → h1.get? b = some o → h2.get? b = some o := fun b o hb gb => by
   by_cases z : b ∈ ex
   ·exact (hs2.2.1 b fun hm => by
     obtain ⟨_, o2, ho2, hnf⟩ := hff1.mem hm
     rw [gb] at ho2; cases ho2
     by_cases zz : ∃ vs, o.data = .fields vs
     ·obtain ⟨vs, zz⟩ := zz; exact hnf vs zz
     ·cases hg0 : s'.heap.get? b with
      | none =>
       obtain ⟨oo, hoo⟩ := ok.live b (List.mem_append_left _ z)
       rw [hg0] at hoo; cases hoo
      | some o0 =>
       obtain ⟨o', us, q1, q2, _⟩ := y1.own b o0 z hg0
       rw [gb] at q1; cases q1; exact zz ⟨us, q2⟩).trans gb
   ·exact (hs2.2.1 b fun hm => (List.mem_append.mp (hin1 b hm)).elim z hb).trans gb
  have k13 : ∀ b o, b ∉ [e] ++ fr → h1.get? b = some o → (H3.update e (Obj.mapFields (·.setIfInBounds 1 (Value.ref h2.objs.size)))).get? b = some o := fun b o hb gb =>
   h23 b o (fun z => hb (z ▸ by simp)) (k12 b o (fun z => hb (List.mem_append_right _ z)) gb)
  have s13 : ∀ b o, b ∈ fr → h1.get? b = some o → ∃ sl, (H3.update e (Obj.mapFields (·.setIfInBounds 1 (Value.ref h2.objs.size)))).get? b = some { o with slots := sl } ∧ ((∀ es n, o.data ≠ .dict es n) → sl = o.slots) := fun b o hb gb => by
   by_cases hst : b ∈ (env :: l).filterMap (·.frame)
   ·obtain ⟨sl, z⟩ := hs2.2.2 b o gb
    obtain ⟨o1, es, nn, g1, d1⟩ := hdict1 b hst
    rw [gb] at g1; cases g1
    exact ⟨sl, h23 b _ (fun z => hefr (z ▸ hb)) z, fun q => absurd d1 (q es nn)⟩
   ·exact ⟨o.slots, h23 b _ (fun z => hefr (z ▸ hb)) ((hs2.2.1 b hst).trans gb), fun _ => rfl⟩
  have s03 : ∀ b o, b ∈ fr → s'.heap.get? b = some o → ∃ sl, (H3.update e (Obj.mapFields (·.setIfInBounds 1 (Value.ref h2.objs.size)))).get? b = some { o with slots := sl } ∧ ((∀ es n, o.data ≠ .dict es n) → sl = o.slots) := fun b o hb gb => by
   obtain ⟨sl, z, r⟩ := y1.slots b o hb gb
   obtain ⟨sl', z', r'⟩ := s13 b _ hb z
   exact ⟨sl', z', fun q => (r' q).trans (r q)⟩
  have live1 : ∀ b o, s'.heap.get? b = some o → ∃ o', h1.get? b = some o' := fun b o gb => by
   by_cases z1 : b ∈ ex
   ·obtain ⟨o', _, z, _⟩ := y1.own b o z1 gb; exact ⟨_, z⟩
   ·by_cases z2 : b ∈ fr
    ·obtain ⟨sl, z, _⟩ := y1.slots b o z2 gb; exact ⟨_, z⟩
    ·exact ⟨_, y1.kept b o (fun z => (List.mem_append.mp z).elim z1 z2) gb⟩
  have nT1 : h1.get? h2.objs.size = none := by
   cases hg : h1.get? h2.objs.size with
   | none => rfl
   | some o =>
    obtain ⟨sl, z⟩ := hs2.2.2 _ o hg
    exact absurd (Heap.lt_size z) (Nat.lt_irrefl _)
  have nT : s'.heap.get? h2.objs.size = none := by
   cases hg : s'.heap.get? h2.objs.size with
   | none => rfl
   | some o => obtain ⟨o', z⟩ := live1 _ o hg; rw [nT1] at z; cases z
  have okE : Ok c A (ex ++ fr) σ2 (H3.update e (Obj.mapFields (·.setIfInBounds 1 (Value.ref h2.objs.size)))) := by
   refine ok1.side (fun b o hb gb => k13 b o (fun z => hb ?_) gb) fun b o hb gb => ?_
   ·rcases List.mem_append.mp z with z | z
    ·rw [List.mem_singleton.mp z]; exact List.mem_append_left _ hex
    ·exact List.mem_append_right _ z
   ·by_cases z : b = e
    ·subst z; rw [ge] at gb; cases gb; exact ⟨_, gee, .inl ⟨_, gd⟩⟩
    ·by_cases z2 : b ∈ fr
     ·obtain ⟨sl, zz, _⟩ := s13 b o z2 gb
      exact ⟨_, zz, .inr rfl⟩
     ·exact ⟨o, h23 b o z (k12 b o z2 gb), .inr rfl⟩
  have okF : Ok c A ([e, h2.objs.size] ++ fr) σ2 (H3.update e (Obj.mapFields (·.setIfInBounds 1 (Value.ref h2.objs.size)))) := by
   have hsub : ∀ a ∈ keys σ2 ++ ([e, h2.objs.size] ++ fr), a ∈ keys σ2 ++ (ex ++ fr) ∨ a = h2.objs.size := fun a ha => by
    rcases List.mem_append.mp ha with z | z
    ·exact .inl (List.mem_append_left _ z)
    ·rcases List.mem_append.mp z with z | z
     ·rcases List.mem_cons.mp z with rfl | z
      ·exact .inl (List.mem_append_right _ (List.mem_append_left _ hex))
      ·exact .inr (List.mem_singleton.mp z)
     ·exact .inl (List.mem_append_right _ (List.mem_append_right _ z))
   have hnin : h2.objs.size ∉ keys σ2 ++ (ex ++ fr) := fun z => by
    have : ∃ o, s'.heap.get? h2.objs.size = some o := by
     rcases List.mem_append.mp z with z | z
     ·obtain ⟨p, hp, e⟩ := List.mem_map.mp z
      have := ok.sto p hp
      rw [e] at this
      cases hpo : p.2 with
      | lst ds => rw [hpo] at this; obtain ⟨vs, n, g, _⟩ := this; exact ⟨_, g⟩
      | rows rs => rw [hpo] at this; obtain ⟨as, _, _, o, es, ep, g, _⟩ := this; exact ⟨_, g⟩
      | flds fs => rw [hpo] at this; obtain ⟨mA, ⟨o, es, ep, g, _⟩, _⟩ := this; exact ⟨_, g⟩
     ·exact ok.live _ z
    obtain ⟨o, z⟩ := this
    rw [nT] at z; cases z
   exact {
    base := okE.base
    sto := fun p hp => IsO.move (K := keys σ2 ++ (ex ++ fr)) (fun b o nb e => k13 b o (fun z => nb (by
      rcases List.mem_append.mp z with z | z
      ·rw [List.mem_singleton.mp z]; exact List.mem_append_right _ (List.mem_append_left _ hex)
      ·exact List.mem_append_right _ (List.mem_append_right _ z))) e)
     (fun a m => (hsub a m).elim Or.inl fun (z : a = h2.objs.size) => Or.inr (z ▸ nT1)) (fun x gx => k13 _ _ (fun z => ap2 p.1 (List.mem_map_of_mem hp) (by
      rcases List.mem_append.mp z with z | z
      ·rw [List.mem_singleton.mp z]; exact List.mem_append_left _ hex
      ·exact List.mem_append_right _ z)) gx) (ok1.sto p hp)
    nd := by
     have h0 := ok.nd
     rw [List.nodup_append, List.nodup_append] at h0
     rw [List.nodup_append, List.nodup_append]
     refine ⟨h0.1, ⟨by simp [Ne.symm hTe], h0.2.1.2.1, fun a ha b hb => ?_⟩, fun a ha b hb => ?_⟩
     ·rcases List.mem_cons.mp ha with rfl | ha
      ·exact fun z => hefr (z ▸ hb)
      ·rw [List.mem_singleton.mp ha]; exact fun z => hnin (z ▸ List.mem_append_right _ (List.mem_append_right _ hb))
     ·rcases List.mem_append.mp hb with hb | hb
      ·rcases List.mem_cons.mp hb with rfl | hb
       ·exact fun z => ap2 a ha (z ▸ List.mem_append_left _ hex)
       ·rw [List.mem_singleton.mp hb]; exact fun z => hnin (z ▸ List.mem_append_left _ ha)
      ·exact fun z => ap2 a ha (z ▸ List.mem_append_right _ hb)
    new := fun a ha => by
     rcases hsub a ha with z | rfl
     ·exact ok.new a z
     ·cases hg : c.h0.get? h2.objs.size with
      | none => rfl
      | some o => have := ok1.base _ o hg; rw [nT1] at this; cases this
    live := fun a ha => by
     rcases List.mem_append.mp ha with z | z
     ·rcases List.mem_cons.mp z with rfl | z
      ·exact ⟨_, gee⟩
      ·rw [List.mem_singleton.mp z]; exact ⟨_, gT⟩
     ·exact okE.live a (List.mem_append_right _ z)
    stack := by
     obtain ⟨l3, hl3, hff3, _, hd3⟩ := okE.stack
     obtain rfl : env :: l = l3 := by rw [hA] at hl3; exact Option.some.inj hl3
     exact ⟨_, hl3, hff3, fun b hb => List.mem_append_right _ (hnex b hb), hd3⟩ }
  refine ⟨e, C, σ2, [e, h2.objs.size], rfl, ?_, okF, ?_, ⟨_, _, gee, ⟨(Obj.cls_mapFields _ _).trans gc.1, (dict_mapFields _ _).trans gc.2⟩, hd3, by simpa using gs, .inr ⟨h2.objs.size, _, _, rfl, ?_, gT, rfl, ?_⟩⟩, f.bare (fun b o hb e => by obtain ⟨sl, z, _⟩ := s03 b o hb e; exact ⟨sl, z⟩), hx⟩
  ·refine { shape := by obtain ⟨h, tk, rfl⟩ := q.shape; exact ⟨_, _, rfl⟩, kept := fun b o hb gb => ?_, slots := fun b o hb nf gb => ?_, alive := fun b o gb => ?_, grow := q.grow }
   ·have gb' := q.kept b o hb gb
    have hbx : b ∉ ex := fun z => by rw [n b z] at gb; cases gb
    have hbf : b ∉ fr := fun z => hb (List.mem_append_right _ z)
    exact k13 b o (fun z => by
     rcases List.mem_append.mp z with z | z
     ·exact hbx (List.mem_singleton.mp z ▸ hex)
     ·exact hbf z) (y1.kept b o (fun z => (List.mem_append.mp z).elim hbx hbf) gb')
   ·obtain ⟨sl, z, r⟩ := q.slots b o hb nf gb
    obtain ⟨sl', z', r'⟩ := s03 b _ hb z
    exact ⟨sl', z', fun y => (r' y).trans (r y)⟩
   ·obtain ⟨o1, g1⟩ := q.alive b o gb
    have hbx : b ∉ ex := fun z => by rw [n b z] at gb; cases gb
    by_cases z2 : b ∈ fr
    ·obtain ⟨sl', z', _⟩ := s03 b _ z2 g1; exact ⟨_, z'⟩
    ·exact ⟨o1, k13 b o1 (fun z => by
      rcases List.mem_append.mp z with z | z
      ·exact hbx (List.mem_singleton.mp z ▸ hex)
      ·exact z2 z) (y1.kept b o1 (fun z => (List.mem_append.mp z).elim hbx z2) g1)⟩
  ·intro a ha
   rcases List.mem_cons.mp ha with rfl | ha
   ·exact n _ hex
   ·rw [List.mem_singleton.mp ha]; exact none_back q nT
  ·exact Array.getElem?_setIfInBounds_self_of_lt (by exact Nat.lt_of_lt_of_le (by decide) gs)
  ·simp only [List.size_toArray, List.length_append, List.length_cons, List.length_nil]; exact Nat.not_lt.mp fun qz => lin [_] [] [(1,.nt (.a (.a (.a (.a (.a (.a (.n 0) (.n 1)) (.n 1)) (.n 1)) (.n 1)) (.n 1)) (.v 0)) (.n 5))] rfl qz
 unfold noteFrame
 simp only [hf]
 rcases r with ⟨_, rfl, h1⟩ | ⟨T, oT, ts, rfl, hT, gT, dT, sT⟩
 ·refine wpAny_bind (wpAny_field g gd h1 ?_)
  rw [if_neg (by decide)]
  exact lay .none s'.heap ⟨fun _ _ _ e => e, fun b o _ e => ⟨o.slots, e, fun _ => rfl⟩, fun b o hb e => by obtain ⟨us, hu⟩ := hall b o hb e; exact ⟨o, us, e, hu, us, hu⟩⟩ g (by simp) (.inl rfl)
 ·refine wpAny_bind (wpAny_field g gd hT ?_)
  rw [if_pos (show (Value.ref T != Value.none) = true from by simp)]
  refine wpAny_bind (wpAny_field gT dT (x := ts[3]) (by simp) ?_)
  by_cases hb : (ts[3] == rawInt L) = true
  ·rw [if_pos hb]
   exact wpAny_pure ⟨e, C, σ2, [e, T], rfl, q, ok, n, ⟨oe, vs, g, gc, gd, gs, .inr ⟨T, oT, ts, rfl, hT, gT, dT, sT⟩⟩, f, hx⟩
  ·rw [if_neg hb]
   refine wpAny_bind (wpAny_setField gT dT (by exact Nat.lt_of_lt_of_le (by decide) sT) ?_)
   have hne : T ≠ e := fun z => by subst z; simp at ap3
   have y := fly_update (ex := [e, T]) (fr := fr) (i := 3) (x := Value.none) (by simp) (fun z => ap1 T (by simp) (List.mem_append_right _ z)) gT dT hall
   exact lay (.ref T) _ y (by rw [Heap.get?_update_other _ _ hne]; exact g) (by simp) (.inr ⟨T, rfl⟩)
end
end Mine
namespace Mine
open PySem PySem.Calls PyProof.Rows
noncomputable def Room' (n : Nat) (A : Around) : Prop := A.depth + n < 990 ∧ A.units + 10 * n < 9800
noncomputable def Room (n : Nat) (A : Around) : Prop := Room' n A ∧ A.handled = none
theorem Room'.deeper {n : Nat} {A : Around} {env : Env} (r : Room' (n + 1) A) : Room' n (A.deeper env) := by
 unfold Room' at *; show A.depth + 1 + n < 990 ∧ A.units + 3 + 10 * n < 9800; exact ⟨Nat.not_le.mp fun qz => lin [_,_] [] [(1,.nl (.n 990) (.a (.a (.v 0) (.n 1)) (.v 1))),(1,.nt (.a (.v 0) (.a (.v 1) (.n 1))) (.n 990))] rfl qz r.1, Nat.not_le.mp fun qz => lin [_,_] [] [(1,.nl (.n 9800) (.a (.a (.v 0) (.n 3)) (.m 10 (.v 1)))),(1,.nt (.a (.v 0) (.m 10 (.a (.v 1) (.n 1)))) (.n 9800))] rfl qz r.2⟩
theorem Room.deeper {n : Nat} {A : Around} {env : Env} (r : Room (n + 1) A) : Room n (A.deeper env) := ⟨r.1.deeper, r.2⟩
theorem Room.less {n k : Nat} {A : Around} (r : Room (n + k) A) : Room n A := ⟨by have := r.1; unfold Room' at *; exact ⟨Nat.not_le.mp fun qz => lin [_,_,_] [] [(1,.nl (.n 990) (.a (.v 0) (.v 1))),(1,.nt (.a (.v 0) (.a (.v 1) (.v 2))) (.n 990))] rfl qz this.1, Nat.not_le.mp fun qz => lin [_,_,_] [] [(1,.nl (.n 9800) (.a (.v 0) (.m 10 (.v 1)))),(1,.nt (.a (.v 0) (.m 10 (.a (.v 1) (.v 2)))) (.n 9800))] rfl qz this.2⟩, r.2⟩
structure Fn (c : Cx) (f : Addr) (ps : List Str) (body : List Stmt) (scope : Scope) : Prop where
 at_ : ∃ o fd, c.h0.get? f = some o ∧ o.data = .func fd ∧ fd.body = .stmts body ∧ fd.scope = scope ∧ fd.closure = [] ∧ fd.globals = mainGlobals ∧ fd.builtins = builtinsNs ∧ c.h0.CodeRec fd.code fd.qualname ∧
  ∀ vals : List Value, vals.length = ps.length → bindArgs fd ⟨vals, []⟩ = pure (ps.zip vals)
 nolimit : c.h0.NoLimit
 nd : ps.Nodup
 kinds : ∀ x ∈ ps, scope.names.lookup x = some .local ∨ scope.names.lookup x = some .cell
 cells : ((cellsFrom 0 scope.names []).map (·.1)).Nodup
 nofree : ∀ x, scope.names.lookup x ≠ some .free
 kind : scope.kind = .function
 co : scope.isCoroutine = false
 gen : scope.isGenerator = false
noncomputable def WC (c : Cx) (P : Around → Prop) (f : Value) (ds : List D) (σ : Sto) (Q : D → Sto → Prop) (X : Addr → Sto → Prop) : Prop :=
 ∀ A fr s vals, P A → Ok c A fr σ s.heap → Vs (keys σ ++ fr) s.heap ds vals → W c A none fr σ (call f vals) V Q X s
theorem bindL_nin {k : Str → Option NameKind} {x : Str} : ∀ {b : List (Str × Value)} {m : Str → Option Value}, x ∉ b.map (·.1) → bindL k b m x = m x
 | [], m, _ => rfl
 | (n, v) :: r, m, h => by
  simp only [List.map_cons, List.mem_cons, not_or] at h
  unfold bindL
  rw [bindL_nin h.2]
  split
  ·exact if_neg h.1
  ·rfl
theorem bindC_nin {k : Str → Option NameKind} {x : Str} : ∀ {b : List (Str × Value)} {m : Str → Option Value}, x ∉ b.map (·.1) → bindC k b m x = m x
 | [], m, _ => rfl
 | (n, v) :: r, m, h => by
  simp only [List.map_cons, List.mem_cons, not_or] at h
  unfold bindC
  rw [bindC_nin h.2]
  split
  ·rfl
  ·exact if_neg h.1
theorem zip_fst {ps : List Str} {vs : List Value} (h : vs.length = ps.length) : (ps.zip vs).map (·.1) = ps := by
 rw [List.map_fst_zip (by exact (Nat.le_of_eq h.symm))]
theorem bound {K : List Addr} {h : Heap} {k : Str → Option NameKind} {x : Str} {d : D} : ∀ {ps : List Str} {ds : List D} {vs : List Value} {m cm : Str → Option Value}, ps.Nodup → ds.length = ps.length → Vs K h ds vs → (ps.zip ds).lookup x = some d →
  (k x = some .local → ∃ v, bindL k (ps.zip vs) m x = some v ∧ V K h d v) ∧ (k x ≠ some .local → ∃ v, bindC k (ps.zip vs) cm x = some v ∧ V K h d v)
 | [], _, _, _, _, _, _, _, e => by simp at e
 | p :: ps, [], _, _, _, _, e, _, _ => by simp at e
 | p :: ps, d' :: ds, vs, m, cm, nd, hl, hv, e => by
  unfold Vs at hv
  obtain ⟨v, r, rfl, p1, p2⟩ := hv
  simp only [List.zip_cons_cons] at e ⊢
  have hr : r.length = ps.length := by rw [p2.length]; simpa using hl
  rw [lookup_cons_eq] at e
  unfold bindL bindC
  by_cases q : x = p
  ·rw [if_pos q] at e; cases e
   subst q
   have hn : x ∉ (ps.zip r).map (·.1) := by rw [zip_fst hr]; exact (List.nodup_cons.mp nd).1
   rw [bindL_nin hn, bindC_nin hn]
   exact ⟨fun z => ⟨v, by rw [if_pos z]; simp, p1⟩, fun z => ⟨v, by rw [if_neg z]; simp, p1⟩⟩
  ·rw [if_neg q] at e
   exact bound (List.nodup_cons.mp nd).2 (by simpa using hl) p2 e
theorem cellsFrom_names : ∀ (names : List (Str × NameKind)) (n n' : Nat) (acc acc' : List (Str × Addr)), acc.map (·.1) = acc'.map (·.1) → (cellsFrom n names acc).map (·.1) = (cellsFrom n' names acc').map (·.1)
 | [], _, _, _, _, h => h
 | (x, k) :: r, n, n', acc, acc', h => by
  unfold cellsFrom
  split
  ·exact cellsFrom_names r _ _ _ _ (by simp [h])
  ·exact cellsFrom_names r _ _ _ _ h
theorem lookup_isSome_of_cell {x : Str} : ∀ (names : List (Str × NameKind)) (n : Nat) (acc : List (Str × Addr)), names.lookup x = some .cell ∨ (acc.lookup x).isSome = true → ((cellsFrom n names acc).lookup x).isSome = true
 | [], _, _, h => h.elim (fun e => by cases e) id
 | (y, k) :: r, n, acc, h => by
  unfold cellsFrom
  by_cases hk : (k == .cell) = true
  ·rw [if_pos hk]
   refine lookup_isSome_of_cell r (n + 1) ((y, n) :: acc) ?_
   by_cases hy : (x == y) = true
   ·exact .inr (by rw [List.lookup_cons, hy]; rfl)
   ·refine h.imp (fun e => ?_) fun e => ?_
    ·rw [List.lookup_cons] at e; simpa only [hy] using e
    ·rw [List.lookup_cons]; simpa only [hy] using e
  ·rw [if_neg hk]
   refine lookup_isSome_of_cell r n acc ?_
   by_cases hy : (x == y) = true
   ·refine .inr (h.elim (fun e => ?_) id)
    rw [List.lookup_cons, hy] at e
    exact absurd (by rw [Option.some.inj e]; rfl) hk
   ·refine h.imp (fun e => ?_) id
    rw [List.lookup_cons] at e; simpa only [hy] using e
theorem lookup_of_mem_nodup {x : Str} {a : Addr} : ∀ {l : List (Str × Addr)}, (l.map (·.1)).Nodup → (x, a) ∈ l → l.lookup x = some a
 | [], _, h => nomatch h
 | (y, b) :: r, nd, h => by
  simp only [List.map_cons, List.nodup_cons] at nd
  rw [List.lookup_cons]
  rcases List.mem_cons.mp h with e | hm
  ·cases e; simp
  ·skip
   have : (x == y) = false := by
    simp only [beq_eq_false_iff_ne, ne_eq]
    rintro rfl
    exact nd.1 (List.mem_map.mpr ⟨(x, a), hm, rfl⟩)
   rw [this]; exact lookup_of_mem_nodup nd.2 hm
theorem IsO.there {prog : Program} {w : World} {K : List Addr} {h : Heap} {a : Addr} {o : O} (x : IsO prog w K h a o) : ∃ ob, h.get? a = some ob := by
 cases o with
 | lst ds => obtain ⟨vs, n, g, _⟩ := x; exact ⟨_, g⟩
 | rows rs => obtain ⟨as, _, _, o, es, ep, g, _⟩ := x; exact ⟨_, g⟩
 | flds fs => obtain ⟨mA, ⟨o, es, ep, g, _⟩, _⟩ := x; exact ⟨_, g⟩
theorem Ok.there {c : Cx} {A : Around} {fr : List Addr} {σ : Sto} {h : Heap} (ok : Ok c A fr σ h) {a : Addr} (m : a ∈ keys σ ++ fr) : ∃ o, h.get? a = some o := by
 rcases List.mem_append.mp m with z | z
 ·obtain ⟨p, hp, rfl⟩ := List.mem_map.mp z; exact (ok.sto p hp).there
 ·exact ok.live _ z
theorem Ok.lt {c : Cx} {A : Around} {fr : List Addr} {σ : Sto} {h : Heap} (ok : Ok c A fr σ h) {a : Addr} (m : a ∈ keys σ ++ fr) : a < h.objs.size := by
 obtain ⟨o, e⟩ := ok.there m; exact Heap.lt_size e
theorem none_of_ge {h : Heap} {a : Addr} (x : h.objs.size ≤ a) : h.get? a = none := by
 cases e : h.get? a with
 | none => rfl
 | some o => exact absurd (Heap.lt_size e) (Nat.not_lt.mpr x)
theorem Ok.pop {c : Cx} {A : Around} {env : Env} {fr ex : List Addr} {σ : Sto} {h : Heap} {l : List Env} (hA : A.frames = some l) (hf : env.frame = some env.locals) (hin : ∀ b ∈ l.filterMap (·.frame), b ∈ fr) (ok : Ok c (A.deeper env) (ex ++ (Fa env ++ fr)) σ h) : Ok c A (ex ++ fr) σ h where
 base := ok.base
 sto := fun p hp => IsO.move (K := keys σ ++ (ex ++ (Fa env ++ fr))) (fun b o _ e => e) (fun a m => .inl (by
  rcases List.mem_append.mp m with z | z
  ·exact List.mem_append_left _ z
  ·rcases List.mem_append.mp z with z | z
   ·exact List.mem_append_right _ (List.mem_append_left _ z)
   ·exact List.mem_append_right _ (List.mem_append_right _ (List.mem_append_right _ z)))) (fun x e => e) (ok.sto p hp)
 nd := by
  refine List.Sublist.nodup ?_ ok.nd
  refine List.Sublist.append (List.Sublist.refl _) (List.Sublist.append (List.Sublist.refl _) (List.sublist_append_right _ _))
 new := fun a m => ok.new a (by
  rcases List.mem_append.mp m with z | z
  ·exact List.mem_append_left _ z
  ·rcases List.mem_append.mp z with z | z
   ·exact List.mem_append_right _ (List.mem_append_left _ z)
   ·exact List.mem_append_right _ (List.mem_append_right _ (List.mem_append_right _ z)))
 live := fun a m => ok.live a (by
  rcases List.mem_append.mp m with z | z
  ·exact List.mem_append_left _ z
  ·exact List.mem_append_right _ (List.mem_append_right _ z))
 stack := by
  obtain ⟨l', h1, h2, h3, h4⟩ := ok.stack
  have : A.frames.map (env :: ·) = some l' := h1
  rw [hA] at this
  obtain rfl : env :: l = l' := Option.some.inj this
  exact ⟨l, hA, h2.2.2, fun b hb => List.mem_append_right _ (hin b hb), fun b hb => h4 b (by simp only [List.filterMap_cons, hf]; exact List.mem_cons_of_mem _ hb)⟩
structure Fe (A : Around) (env : Env) (scope : Scope) : Prop where
 scope : env.scope = scope
 frame : env.frame = some env.locals
 stack : ∃ l, A.frames = some (env :: l)
noncomputable def WD (c : Cx) (P : Around → Prop) (f : Value) (ds : List D) (σ : Sto) (Q : D → Sto → Prop) (X : Addr → Sto → Prop) : Prop :=
 ∀ A fr s vals, P A → Ok c A fr σ s.heap → Vs (keys σ ++ fr) s.heap ds vals → codeAny (model c.prog c.w) A (.call f ⟨vals, []⟩) (fun r s' => match r with
  | .ok (.ret a) => Po c A none fr σ s V Q a s'
  | .ok _ => False
  | .error e => Ex c A none fr σ s false X e s') s
theorem WD.wc {c : Cx} {P : Around → Prop} {f : Value} {ds : List D} {σ : Sto} {Q : D → Sto → Prop} {X : Addr → Sto → Prop} (h : WD c P f ds σ Q X) : WC c P f ds σ Q X := fun A fr s vals hA ok hv => wpAny_call (h A fr s vals hA ok hv)
theorem WD.of {c : Cx} {P P' : Around → Prop} {f : Addr} {ps : List Str} {body : List Stmt} {scope : Scope} {ds : List D} {σ : Sto} {Q : D → Sto → Prop} {X : Addr → Sto → Prop} (fn : Fn c f ps body scope) (hP : ∀ A env, P A → A.depth < recursionLimit ∧ P' (A.deeper env)) (hl : ds.length = ps.length)
  (h : ∀ A fr env, P' A → Fe A env scope → WS c A (Fa env ++ fr) env (ps.zip ds) σ body (fun _ σ' => Q .none σ') Q X) : WD c P (.ref f) ds σ Q X := by
 intro A fr s vals hA ok hV
 obtain ⟨o, fd, ho, hdata, hbody, hsc, hclo, hglob, hbui, hcd, hbind⟩ := fn.at_
 have hlen : vals.length = ps.length := hV.length.trans hl
 have hfst : ((ps.zip vals).map (·.1)) = ps := zip_fst hlen
 obtain ⟨l, hAl, hff, hin, hdict⟩ := ok.stack
 refine codeAny_call_cells (hP A (callEnvC fd s.heap.objs.size f) hA).1 (ok.base _ _ ho) hdata (fn.nolimit.keeps ok.base) (hcd.keeps ok.base) hbody (hbind vals hlen) hclo (fun x hx => ?_) (fun s₁ ic => ?_) (hsc ▸ fn.co) (hsc ▸ fn.gen) (hsc ▸ fn.kind)
 ·have hx' : x.1 ∈ ps := hfst ▸ List.mem_map_of_mem hx
  rw [hsc]
  exact (fn.kinds x.1 hx').imp id fun z => ⟨z, lookup_isSome_of_cell _ _ _ (.inl z)⟩
 generalize hE : callEnvC fd s.heap.objs.size f = env at ic ⊢
 have e1 : env.scope = scope := by rw [← hE]; exact hsc
 have e2 : env.frame = some env.locals := by rw [← hE]; rfl
 have e3 : env.locals = s.heap.objs.size := by rw [← hE]; rfl
 have e4 : env.cells = cellsFrom (s.heap.objs.size + 1) scope.names [] := by rw [← hE, ← hsc]; rfl
 have e5 : env.globals = mainGlobals := by rw [← hE]; exact hglob
 have e6 : env.builtins = builtinsNs := by rw [← hE]; exact hbui
 obtain ⟨⟨hsame, hns, hkeep, hfresh⟩, hcell, hap, habove⟩ := ic
 have hge : ∀ a ∈ Fa env, s.heap.objs.size ≤ a := fun a ha => by
  rcases List.mem_cons.mp ha with rfl | ha
  ·exact Nat.le_of_eq e3.symm
  ·obtain ⟨p, hp, rfl⟩ := List.mem_map.mp ha
   exact Nat.le_of_lt (e3 ▸ habove p.1 p.2 hp)
 have hcellsnd : (env.cells.map (·.1)).Nodup := by rw [e4, cellsFrom_names _ _ 0 _ [] rfl]; exact fn.cells
 have hlook : ∀ p ∈ env.cells, env.cells.lookup p.1 = some p.2 := fun p hp => lookup_of_mem_nodup hcellsnd hp
 have hlive : ∀ a ∈ Fa env, ∃ o, s₁.heap.get? a = some o ∧ ∀ vs, o.data ≠ .fields vs := fun a ha => by
  rcases List.mem_cons.mp ha with rfl | ha
  ·obtain ⟨o, es, ep, g, hd, _⟩ := hns; exact ⟨o, g, fun vs q => by rw [hd] at q; cases q⟩
  ·obtain ⟨p, hp, rfl⟩ := List.mem_map.mp ha
   obtain ⟨o, g, hd⟩ := hcell p.1 p.2 (hlook p hp); exact ⟨o, g, fun vs q => by rw [hd] at q; cases q⟩
 have hnew : ∀ a ∈ Fa env, s.heap.get? a = none := fun a ha => none_of_ge (hge a ha)
 have less1 : Less (keys σ ++ fr) (keys σ ++ (Fa env ++ fr)) s.heap := fun a m => by
  rcases List.mem_append.mp m with z | z
  ·exact .inl (List.mem_append_left _ z)
  ·rcases List.mem_append.mp z with z | z
   ·exact .inr (hnew a z)
   ·exact .inl (List.mem_append_right _ z)
 have stay1 : Stay (keys σ ++ fr) s.heap s₁.heap := fun b o _ e => hkeep b o e
 have ok1 : Ok c (A.deeper env) (Fa env ++ fr) σ s₁.heap := {
  base := fun b o e => hkeep b o (ok.base b o e)
  sto := fun p hp => IsO.move stay1 less1 (fun x e => hkeep _ x e) (ok.sto p hp)
  nd := by
   have h0 := ok.nd
   rw [List.nodup_append] at h0
   rw [List.nodup_append, List.nodup_append]
   refine ⟨h0.1, ⟨?_, h0.2.1, fun a ha b hb => fun z => ?_⟩, fun a ha b hb => ?_⟩
   ·rw [List.nodup_cons]
    refine ⟨fun z => ?_, ?_⟩
    ·obtain ⟨p, hp, e⟩ := List.mem_map.mp z
     exact Nat.ne_of_gt (habove p.1 p.2 hp) e
    ·exact List.pairwise_map.mpr hap
   ·exact Nat.lt_irrefl _ (Nat.lt_of_lt_of_le (ok.lt (List.mem_append_right _ hb)) (z ▸ hge a ha))
   ·rcases List.mem_append.mp hb with hb | hb
    ·exact fun z => Nat.lt_irrefl _ (Nat.lt_of_lt_of_le (ok.lt (List.mem_append_left _ ha)) (z ▸ hge b hb))
    ·exact h0.2.2 a ha b hb
  new := fun a m => by
   rcases List.mem_append.mp m with z | z
   ·exact ok.new a (List.mem_append_left _ z)
   ·rcases List.mem_append.mp z with z | z
    ·cases hg : c.h0.get? a with
     | none => rfl
     | some o => have := ok.base _ o hg; rw [hnew a z] at this; cases this
    ·exact ok.new a (List.mem_append_right _ z)
  live := fun a m => by
   rcases List.mem_append.mp m with z | z
   ·obtain ⟨o, g, _⟩ := hlive a z; exact ⟨o, g⟩
   ·obtain ⟨o, g⟩ := ok.live a z; exact ⟨o, hkeep _ _ g⟩
  stack := by
   refine ⟨env :: l, by show A.frames.map (env :: ·) = _; rw [hAl]; rfl, ⟨?_, ⟨env.locals, ?_⟩, ?_⟩, fun b hb => ?_, fun b hb => ?_⟩
   ·rw [e1, fn.kind]; decide
   ·obtain ⟨o, g, hd⟩ := hlive env.locals List.mem_cons_self
    refine ⟨o, e2, ?_, g, hd⟩
    cases hg : c.h0.get? env.locals with
    | none => rfl
    | some o => have := ok.base _ o hg; rw [hnew _ List.mem_cons_self] at this; cases this
   ·exact FunFrames.stays (fun b o _ e => ⟨o.slots, hkeep b o e⟩) hff hin
   ·simp only [List.filterMap_cons, e2] at hb
    rcases List.mem_cons.mp hb with rfl | hb
    ·exact List.mem_append_left _ List.mem_cons_self
    ·exact List.mem_append_right _ (hin b hb)
   ·simp only [List.filterMap_cons, e2] at hb
    rcases List.mem_cons.mp hb with rfl | hb
    ·obtain ⟨o, es, ep, g, hd, _⟩ := hns; exact ⟨o, es, ep, g, hd⟩
    ·obtain ⟨o, es, n, g, r⟩ := hdict b hb; exact ⟨o, es, n, hkeep _ _ g, r⟩ }
 have fm1 : Fm env (ps.zip ds) (Fa env ++ fr) (keys σ ++ (Fa env ++ fr)) s₁.heap := {
  kind := by rw [e1]; exact fn.kind
  glob := e5
  bui := e6
  ns := ⟨_, hns, fun x d e k => by
   obtain ⟨v, z, zz⟩ := (bound (k := env.kindOf) (m := fun _ => none) (cm := fun _ => none) fn.nd hl hV e).1 k
   exact ⟨v, z, V.move stay1 less1 _ _ zz⟩⟩
  cell := fun x cc e => by
   refine ⟨_, hcell x cc e, fun d e' k => ?_⟩
   obtain ⟨v, z, zz⟩ := (bound (k := env.kindOf) (m := fun _ => none) (cm := fun _ => none) fn.nd hl hV e').2 (by rcases k with k | k <;> rw [k] <;> decide)
   exact ⟨v, z, V.move stay1 less1 _ _ zz⟩
  has := fun x k => by
   rcases k with k | k
   ·have : ((cellsFrom (s.heap.objs.size + 1) scope.names []).lookup x).isSome = true := lookup_isSome_of_cell _ _ _ (.inl (by rw [← e1]; exact k))
    rw [← e4] at this
    exact Option.isSome_iff_exists.mp this
   ·exact absurd k (by
     intro k
     exact fn.nofree x (by rw [← e1]; exact k))
  inn := ⟨List.mem_append_left _ List.mem_cons_self, fun p hp => List.mem_append_left _ (List.mem_cons_of_mem _ (List.mem_map_of_mem (f := (·.2)) hp))⟩
  apart := ⟨hap, fun p hp => Nat.ne_of_gt (habove p.1 p.2 hp)⟩ }
 have p01 : ∀ {σ'} {s' : Shared}, Post (Fa env) (Fa env ++ fr) σ s₁ s' σ' → Post [] fr σ s s' σ' := fun p => {
  shape := by obtain ⟨h, tk, rfl⟩ := hsame; obtain ⟨h', tk', rfl⟩ := p.shape; exact ⟨h', tk', rfl⟩
  kept := fun b o nb e => p.kept b o (less1.nin nb e) (hkeep b o e)
  slots := fun b o m _ e => p.slots b o (List.mem_append_right _ m) (fun z => by rw [hnew b z] at e; cases e) (hkeep b o e)
  alive := fun b o e => p.alive b o (hkeep b o e)
  grow := fun a m => (p.grow a m).imp id fun z => by
   cases hg : s.heap.get? a with
   | none => rfl
   | some o => have := hkeep a o hg; rw [z] at this; cases this }
 have less2 : ∀ σ' (h : Heap), Less (keys σ' ++ (Fa env ++ fr)) (keys σ' ++ fr) h := fun σ' h a m => by
  rcases List.mem_append.mp m with z | z
  ·exact .inl (List.mem_append_left _ z)
  ·exact .inl (List.mem_append_right _ (List.mem_append_right _ z))
 have fe : Fe (A.deeper env) env scope := ⟨e1, e2, l, by show A.frames.map (env :: ·) = _; rw [hAl]; rfl⟩
 refine wpAny_mono (h (A.deeper env) fr env (hP A env hA).2 fe s₁ ok1 fm1) (fun fl s' hx => ?_) fun v s' hx => ?_
 ·obtain ⟨out, σ', p, ok2, r, q⟩ := hx
  have ok3 : Ok c A fr σ' s'.heap := Ok.pop (ex := []) hAl e2 hin ok2
  cases out with
  | next m' => obtain ⟨rfl, _⟩ := r; exact ⟨.none, σ', p01 p, ok3, by unfold V; rfl, q⟩
  | ret d => obtain ⟨v, rfl, hv, _⟩ := r; exact ⟨d, σ', p01 p, ok3, V.move (fun b o _ e => e) (less2 σ' _) _ _ hv, q⟩
 ·unfold leaving
  refine wpAny_bind (wpAny_mono (Ex.noted hx fe.stack.choose_spec e2) (fun _ s'' hx2 => ?_) fun _ _ f => f)
  refine wpAny_mono (Ex.flight hx2) (fun _ s3 hx3 => ?_) fun _ _ f => f
  obtain ⟨e, C, σ', ex, rfl, p, ok2, hn, he, _, hX⟩ := hx3
  refine Ex.weak ⟨e, C, σ', ex, rfl, p01 p, Ok.pop hAl e2 hin ok2, fun a ha => ?_, he, trivial, hX⟩
  cases hg : s.heap.get? a with
  | none => rfl
  | some o => have := hkeep a o hg; rw [hn a ha] at this; cases this
theorem WC.of {c : Cx} {P P' : Around → Prop} {f : Addr} {ps : List Str} {body : List Stmt} {scope : Scope} {ds : List D} {σ : Sto} {Q : D → Sto → Prop} {X : Addr → Sto → Prop} (fn : Fn c f ps body scope) (hP : ∀ A env, P A → A.depth < recursionLimit ∧ P' (A.deeper env)) (hl : ds.length = ps.length)
  (h : ∀ A fr env, P' A → Fe A env scope → WS c A (Fa env ++ fr) env (ps.zip ds) σ body (fun _ σ' => Q .none σ') Q X) : WC c P (.ref f) ds σ Q X := (WD.of fn hP hl h).wc
end Mine
namespace Mine
open PySem PySem.Calls PyProof.Rows
structure Cx.Good (c : Cx) : Prop where
 g : c.h0.Ns mainGlobals c.mg
 b : c.h0.Ns builtinsNs c.mb
noncomputable def plainArgs : List Expr → Bool
 | [] => true
 | .Starred _ _ :: _ => false
 | _ :: r => plainArgs r
theorem starEach_cons {env : Env} {e : Expr} {r : List Expr} (h : plainArgs (e :: r) = true) : starEach (e :: r) env = (false, eval e env) :: starEach r env ∧ plainArgs r = true := by
 cases e <;> first | exact ⟨rfl, h⟩ | exact absurd (show false = true from h) (by decide)
theorem plainArgs_starEach {env : Env} {pos : Pos} : ∀ {es : List Expr}, plainArgs es = true → ∀ x ∈ backTo pos (starEach es env), x.1 = false
 | [], _, x, hx => (List.not_mem_nil (show x ∈ [] from hx)).elim
 | e :: r, h, x, hx => by
  have step := starEach_cons (env := env) h
  rw [step.1] at hx
  rcases List.mem_cons.mp hx with rfl | hx
  ·rfl
  ·exact plainArgs_starEach step.2 x hx
theorem wpAny_evalArgs {M : Model} {A : Around} {E : Value → Shared → Prop} {s : Shared} {f : Value} {args : List (Bool × Sem Value)} {Q : Args → Shared → Prop} (hns : ∀ x ∈ args, x.1 = false)
  (h : wpAny M A (spliced args) (fun vs s' => Q ⟨vs, []⟩ s') E s) : wpAny M A (evalArgs f true args []) Q E s := by
 cases args with
 | nil =>
  unfold evalArgs
  show wpAny M A (spliced [] >>= _) Q E s
  refine wpAny_bind (wpAny_mono h (fun vs s' h' => ?_) fun _ _ x => x)
  refine wpAny_holding ?_
  exact wpAny_bind (wpAny_pure (wpAny_bind (wpAny_pure (wpAny_pure h'))))
 | cons x r =>
  obtain ⟨b, t⟩ := x
  obtain rfl : b = false := hns _ List.mem_cons_self
  exact evalArgs_plain h
section
variable {c : Cx} {A : Around} {G : Option Env} {fr : List Addr} {σ : Sto} {X : Addr → Sto → Prop} {env : Env} {m : Vars}
noncomputable def WA (c : Cx) (A : Around) (fr : List Addr) (env : Env) (m : Vars) (σ : Sto) (es : List Expr) (Q : List D → Sto → Prop) (X : Addr → Sto → Prop) : Prop :=
 ∀ pos s, Ok c A fr σ s.heap → Fm env m fr (keys σ ++ fr) s.heap → W c A none fr σ (spliced (backTo pos (starEach es env))) Vs Q X s
theorem WA.nil {Q : List D → Sto → Prop} (h : Q [] σ) : WA c A fr env m σ [] Q X := fun pos s ok fm => spliced_nil ⟨[], σ, Post.refl .., ok, Vs.nil, h⟩
theorem WA.cons {e : Expr} {r : List Expr} {Q : List D → Sto → Prop} (h : WE c A fr env m σ e (fun d σ1 => WA c A fr env m σ1 r (fun ds σ2 => Q (d :: ds) σ2) X) X) (hp : plainArgs (e :: r) = true := by rfl) : WA c A fr env m σ (e :: r) Q X := fun pos s ok fm => by
 unfold W
 rw [(starEach_cons hp).1]
 show wpAny _ _ (spliced ((false, eval e env) :: backTo pos (starEach r env))) _ _ _
 refine spliced_cons (wpAny_mono (h s ok fm) (fun v s1 ⟨d, σ1, p1, ok1, x1, q1⟩ => ?_) fun _ _ x => x)
 refine wpAny_mono (q1 pos s1 ok1 (fm.move p1)) (fun vs s2 ⟨ds, σ2, p2, ok2, x2, q2⟩ => ⟨d :: ds, σ2, p1.trans p2, ok2, Vs.cons (p2.v x1) x2, q2⟩) fun _ _ x => Ex.back p1 x fun _ _ y => y
variable {Q : D → Sto → Prop}
theorem eval_Call_Name (f : Str) (fp : Pos) (args : List Expr) (pos : Pos) : eval (.Call (.Name f fp) args [] pos) env = (do callWith pos (← eval (.Name f fp) env) [] (backTo pos (starEach args env)) []) := rfl
theorem WE.callF (g : c.Good) {f : Str} {fp pos : Pos} {args : List Expr} {a : Addr} {o : Obj} {fd : FuncData} {P : Around → Prop} (hP : P A) (hk : env.kindOf f = some .globalImplicit) (hg : c.mg f = some (.ref a)) (ho : c.h0.get? a = some o) (hd : o.data = .func fd)
  (h : WA c A fr env m σ args (fun ds σ1 => WC c P (.ref a) ds σ1 Q X) X) (hp : plainArgs args = true := by rfl) (hdb : (f == ("__debug__" : Str)) = false := by decide) : WE c A fr env m σ (.Call (.Name f fp) args [] pos) Q X := fun s ok fm => by
 unfold W
 rw [eval_Call_Name]
 refine wpAny_bind (Name_function_global fm.kind hk (loadGlobal_global (by rw [fm.glob]; exact g.g.keeps ok.base) hg ?_) hdb)
 refine callWith_function (o := o) (fd := fd) (wpAny_evalArgs (plainArgs_starEach hp) (wpAny_mono (h pos s ok fm) (fun vs s1 ⟨ds, σ1, p1, ok1, x1, q1⟩ => ⟨⟨ok1.base _ _ ho, hd⟩, ?_⟩) fun _ _ x => x))
 refine wpAny_mono (q1 A fr s1 vs hP ok1 x1) (fun v s2 ⟨d, σ2, p2, ok2, x2, q2⟩ => ⟨d, σ2, p1.trans p2, ok2, x2, q2⟩) fun _ _ x => Ex.back p1 x fun _ _ y => y
theorem WE.callB (g : c.Good) {f : Str} {fp pos : Pos} {args : List Expr} {id : String} (hk : env.kindOf f = some .globalImplicit) (hg : c.mg f = none) (hb : c.mb f = some (.builtin id))
  (h : WA c A fr env m σ args (fun ds σ1 => ∀ s vals, Ok c A fr σ1 s.heap → Vs (keys σ1 ++ fr) s.heap ds vals → W c A none fr σ1 (call (.builtin id) vals) V Q X s) X) (hp : plainArgs args = true := by rfl) (hdb : (f == ("__debug__" : Str)) = false := by decide) : WE c A fr env m σ (.Call (.Name f fp) args [] pos) Q X := fun s ok fm => by
 unfold W
 rw [eval_Call_Name]
 refine wpAny_bind (Name_function_global fm.kind hk (loadGlobal_builtin (by rw [fm.glob]; exact g.g.keeps ok.base) hg (by rw [fm.bui]; exact g.b.keeps ok.base) hb ?_) hdb)
 refine callWith_builtin (by
  have := plainArgs_starEach (env := env) (pos := pos) hp
  rw [List.any_eq_false]; intro x hx; simp [this x hx]) (wpAny_evalArgs (plainArgs_starEach hp) (wpAny_mono (h pos s ok fm) (fun vs s1 ⟨ds, σ1, p1, ok1, x1, q1⟩ => ?_) fun _ _ x => x))
 refine wpAny_mono (q1 s1 vs ok1 x1) (fun v s2 ⟨d, σ2, p2, ok2, x2, q2⟩ => ⟨d, σ2, p1.trans p2, ok2, x2, q2⟩) fun _ _ x => Ex.back p1 x fun _ _ y => y
end
end Mine
namespace Mine
open PySem PySem.Calls PyProof.Rows
section
variable {c : Cx} {A : Around} {G : Option Env} {fr : List Addr} {σ : Sto} {X : Addr → Sto → Prop} {env : Env} {m : Vars}
noncomputable abbrev RB (_ : List Addr) (_ : Heap) (b a : Bool) : Prop := a = b
noncomputable def WTr (c : Cx) (A : Around) (fr : List Addr) (σ : Sto) (d : D) (Q : Bool → Sto → Prop) (X : Addr → Sto → Prop) : Prop :=
 ∀ v s, Ok c A fr σ s.heap → V (keys σ ++ fr) s.heap d v → W c A none fr σ (truthy v) RB Q X s
noncomputable def WT (c : Cx) (A : Around) (fr : List Addr) (env : Env) (m : Vars) (σ : Sto) (e : Expr) (Q : Bool → Sto → Prop) (X : Addr → Sto → Prop) : Prop :=
 ∀ s, Ok c A fr σ s.heap → Fm env m fr (keys σ ++ fr) s.heap → W c A none fr σ (isTrue e env (eval e env)) RB Q X s
theorem WTr.bool {b : Bool} {Q : Bool → Sto → Prop} (h : Q b σ) : WTr c A fr σ (.bool b) Q X := fun v s ok x => by
 unfold V at x; subst x
 exact wpAny_truthy_bool ⟨b, σ, Post.refl .., ok, rfl, h⟩
theorem WT.plain {e : Expr} {Q : Bool → Sto → Prop} (h : WE c A fr env m σ e (fun d σ1 => WTr c A fr σ1 d Q X) X) (he : ∀ whole, isTrue e env whole = (do let v ← whole; standAt e.pos; holding [v] (truthy v)) := by intro _; rfl) : WT c A fr env m σ e Q X := fun s ok fm => by
 unfold W
 rw [he]
 refine W.bind (W.mono (h s ok fm) (fun d1 σ1 q1 a s1 p1 ok1 x1 => ?_) fun _ _ y => y)
 exact W.standAt (W.holding (q1 a s1 ok1 x1))
theorem WT.not {e : Expr} {pos : Pos} {Q : Bool → Sto → Prop} (h : WT c A fr env m σ e (fun b σ1 => Q (!b) σ1) X) : WT c A fr env m σ (.UnaryOp .Not e pos) Q X := fun s ok fm => by
 unfold W
 rw [arm_isTrue_UnaryOp]
 refine W.bind (W.mono (h s ok fm) (fun d1 σ1 q1 a s1 p1 ok1 x1 => ?_) fun _ _ y => y)
 obtain rfl : a = d1 := x1
 exact W.pure ok1 rfl q1
noncomputable def WTs (c : Cx) (A : Around) (fr : List Addr) (env : Env) (m : Vars) (σ : Sto) (op : BoolOp) (es : List Expr) (Q : Bool → Sto → Prop) (X : Addr → Sto → Prop) : Prop :=
 ∀ s, Ok c A fr σ s.heap → Fm env m fr (keys σ ++ fr) s.heap → W c A none fr σ (allTrue op es env) RB Q X s
theorem WTs.nilAnd {Q : Bool → Sto → Prop} (h : Q true σ) : WTs c A fr env m σ .And [] Q X := fun s ok fm => by
 unfold W; rw [arm_allTrue_nil]; exact wpAny_pure ⟨true, σ, Post.refl .., ok, rfl, h⟩
theorem WTs.nilOr {Q : Bool → Sto → Prop} (h : Q false σ) : WTs c A fr env m σ .Or [] Q X := fun s ok fm => by
 unfold W; rw [arm_allTrue_nil]; exact wpAny_pure ⟨false, σ, Post.refl .., ok, rfl, h⟩
theorem WTs.and {e : Expr} {es : List Expr} {Q : Bool → Sto → Prop} (h : WT c A fr env m σ e (fun b σ1 => if b = true then WTs c A fr env m σ1 .And es Q X else Q false σ1) X) : WTs c A fr env m σ .And (e :: es) Q X := fun s ok fm => by
 unfold W
 rw [arm_allTrue_cons]
 refine W.bind (W.mono (h s ok fm) (fun d1 σ1 q1 a s1 p1 ok1 x1 => ?_) fun _ _ y => y)
 obtain rfl : a = d1 := x1
 cases a with
 | true => exact q1 s1 ok1 (fm.move p1)
 | false => exact W.pure ok1 rfl q1
theorem WTs.or {e : Expr} {es : List Expr} {Q : Bool → Sto → Prop} (h : WT c A fr env m σ e (fun b σ1 => if b = true then Q true σ1 else WTs c A fr env m σ1 .Or es Q X) X) : WTs c A fr env m σ .Or (e :: es) Q X := fun s ok fm => by
 unfold W
 rw [arm_allTrue_cons]
 refine W.bind (W.mono (h s ok fm) (fun d1 σ1 q1 a s1 p1 ok1 x1 => ?_) fun _ _ y => y)
 obtain rfl : a = d1 := x1
 cases a with
 | false => exact q1 s1 ok1 (fm.move p1)
 | true => exact W.pure ok1 rfl q1
theorem WT.boolop {op : BoolOp} {es : List Expr} {pos : Pos} {Q : Bool → Sto → Prop} (h : WTs c A fr env m σ op es Q X) : WT c A fr env m σ (.BoolOp op es pos) Q X := fun s ok fm => by
 unfold W
 rw [arm_isTrue_BoolOp]
 exact h s ok fm
theorem WT.compare {l r : Expr} {op : CmpOp} {pos : Pos} {Q : Bool → Sto → Prop} (h : WE c A fr env m σ l (fun d1 σ1 => WE c A fr env m σ1 r (fun d2 σ2 => WB c A fr σ2 (compareOp op) d1 d2 (fun d3 σ3 => WTr c A fr σ3 d3 Q X) X) X) X) (hb : behindInMarks op r = false := by rfl) :
  WT c A fr env m σ (.Compare l [op] [r] pos) Q X := fun s ok fm => by
 unfold W
 rw [arm_isTrue_Compare]
 refine W.bind (W.mono (h s ok fm) (fun d1 σ1 q1 a s1 p1 ok1 x1 => ?_) fun _ _ y => y)
 show W c A none fr σ1 (testChain pos a [op] [markedBehindIn op r (eval r env)]) RB Q X s1
 rw [markedBehindIn_of_false hb]
 show W c A none fr σ1 (do let rv ← holding [a] (eval r env); standAt pos; let c ← operate [a, rv] (compareOp op a rv); holding [c] (truthy c)) RB Q X s1
 refine W.bind (W.holding (W.mono (q1 s1 ok1 (fm.move p1)) (fun d2 σ2 q2 b s2 p2 ok2 x2 => ?_) fun _ _ y => y))
 refine W.standAt (W.bind (W.operate (W.mono (q2 a b s2 ok2 (p2.v x1) x2) (fun d3 σ3 q3 e s3 p3 ok3 x3 => ?_) fun _ _ y => y)))
 exact W.holding (q3 e s3 ok3 x3)
noncomputable def WBs (c : Cx) (A : Around) (fr : List Addr) (env : Env) (m : Vars) (σ : Sto) (op : BoolOp) (es : List Expr) (Q : D → Sto → Prop) (X : Addr → Sto → Prop) : Prop :=
 ∀ pos s, Ok c A fr σ s.heap → Fm env m fr (keys σ ++ fr) s.heap → W c A none fr σ (boolOp pos op (evalEach es env)) V Q X s
theorem WBs.one {op : BoolOp} {e : Expr} {Q : D → Sto → Prop} (h : WE c A fr env m σ e Q X) : WBs c A fr env m σ op [e] Q X := fun pos s ok fm => h s ok fm
theorem WBs.and {e e2 : Expr} {es : List Expr} {Q : D → Sto → Prop} (h : WE c A fr env m σ e (fun d σ1 => WTr c A fr σ1 d (fun b σ2 => if b = true then WBs c A fr env m σ2 .And (e2 :: es) Q X else Q d σ2) X) X) : WBs c A fr env m σ .And (e :: e2 :: es) Q X := fun pos s ok fm => by
 show W c A none fr σ (do let v ← eval e env; standAt pos; let t ← holding [v] (truthy v); match BoolOp.And, t with | .And, false | .Or, true => pure v | _, _ => boolOp pos .And (evalEach (e2 :: es) env)) V Q X s
 refine W.bind (W.mono (h s ok fm) (fun d1 σ1 q1 a s1 p1 ok1 x1 => ?_) fun _ _ y => y)
 have fm1 := fm.move p1
 refine W.standAt (W.bind (W.holding (W.mono (q1 a s1 ok1 x1) (fun b σ2 q2 t s2 p2 ok2 x2 => ?_) fun _ _ y => y)))
 obtain rfl : t = b := x2
 cases t with
 | true => exact q2 pos s2 ok2 (fm1.move p2)
 | false => exact W.pure ok2 (p2.v x1) q2
theorem WBs.or {e e2 : Expr} {es : List Expr} {Q : D → Sto → Prop} (h : WE c A fr env m σ e (fun d σ1 => WTr c A fr σ1 d (fun b σ2 => if b = true then Q d σ2 else WBs c A fr env m σ2 .Or (e2 :: es) Q X) X) X) : WBs c A fr env m σ .Or (e :: e2 :: es) Q X := fun pos s ok fm => by
 show W c A none fr σ (do let v ← eval e env; standAt pos; let t ← holding [v] (truthy v); match BoolOp.Or, t with | .And, false | .Or, true => pure v | _, _ => boolOp pos .Or (evalEach (e2 :: es) env)) V Q X s
 refine W.bind (W.mono (h s ok fm) (fun d1 σ1 q1 a s1 p1 ok1 x1 => ?_) fun _ _ y => y)
 have fm1 := fm.move p1
 refine W.standAt (W.bind (W.holding (W.mono (q1 a s1 ok1 x1) (fun b σ2 q2 t s2 p2 ok2 x2 => ?_) fun _ _ y => y)))
 obtain rfl : t = b := x2
 cases t with
 | false => exact q2 pos s2 ok2 (fm1.move p2)
 | true => exact W.pure ok2 (p2.v x1) q2
theorem WE.boolop {op : BoolOp} {es : List Expr} {pos : Pos} {Q : D → Sto → Prop} (h : WBs c A fr env m σ op es Q X) : WE c A fr env m σ (.BoolOp op es pos) Q X := fun s ok fm => h pos s ok fm
theorem WE.compare2 {l r r2 : Expr} {op op2 : CmpOp} {pos : Pos} {Q : D → Sto → Prop} (h : WE c A fr env m σ l (fun d1 σ1 => WE c A fr env m σ1 r (fun d2 σ2 => WB c A fr σ2 (compareOp op) d1 d2 (fun d3 σ3 => WTr c A fr σ3 d3 (fun b σ4 => if b = true then WE c A fr env m σ4 r2 (fun d4 σ5 => WB c A fr σ5 (compareOp op2) d2 d4 Q X) X else Q d3 σ4) X) X) X) X) (hb2 : behindInMarks op2 r2 = false := by rfl) :
  WE c A fr env m σ (.Compare l [op, op2] [r, r2] pos) Q X := fun s ok fm => by
 unfold W
 rw [arm_eval_Compare]
 refine W.bind (W.mono (h s ok fm) (fun d1 σ1 q1 a s1 p1 ok1 x1 => ?_) fun _ _ y => y)
 show W c A none fr σ1 (compareChain pos a [op, op2] [eval r env, markedBehindIn op2 r2 (eval r2 env)]) V Q X s1
 rw [markedBehindIn_of_false hb2]
 show W c A none fr σ1 (do let rv ← holding [a] (eval r env); standAt pos; let c ← holding [a, rv] (compareOp op a rv); release [a, rv] [c]; if ← holding [c, rv] (truthy c) then compareChain pos rv [op2] [eval r2 env] else pure c) V Q X s1
 have fm1 := fm.move p1
 refine W.bind (W.holding (W.mono (q1 s1 ok1 fm1) (fun d2 σ2 q2 b s2 p2 ok2 x2 => ?_) fun _ _ y => y))
 have fm2 := fm1.move p2
 refine W.standAt (W.bind (W.holding (W.mono (q2 a b s2 ok2 (p2.v x1) x2) (fun d3 σ3 q3 e s3 p3 ok3 x3 => ?_) fun _ _ y => y)))
 have fm3 := fm2.move p3
 refine wpAny_bind (wpAny_release ?_)
 refine W.bind (W.holding (W.mono (q3 e s3 ok3 x3) (fun b1 σ4 q4 t s4 p4 ok4 x4 => ?_) fun _ _ y => y))
 obtain rfl : t = b1 := x4
 cases t with
 | false => exact W.pure ok4 (p4.v x3) q4
 | true =>
  show W c A none fr σ4 (do let rv ← holding [b] (eval r2 env); standAt pos; operate [b, rv] (compareOp op2 b rv)) V Q X s4
  refine W.bind (W.holding (W.mono (q4 s4 ok4 (fm3.move p4)) (fun d4 σ5 q5 f s5 p5 ok5 x5 => ?_) fun _ _ y => y))
  exact W.standAt (W.operate (q5 b f s5 ok5 (p5.v (p4.v (p3.v x2))) x5))
variable {N : Vars → Sto → Prop} {R : D → Sto → Prop}
theorem W1.ite {test : Expr} {body orelse : List Stmt} {pos : Pos} (h : WT c A fr env m σ test (fun b σ1 => if b = true then WS c A fr env m σ1 body N R X else WS c A fr env m σ1 orelse N R X) X) : W1 c A fr env m σ (.If test body orelse pos) N R X := fun s ok fm => by
 unfold W
 rw [exec_If]
 refine W.standAt (W.bindE fm (W.mono (h s ok fm) (fun d σ1 q1 a s1 fm1 p1 ok1 x1 => ?_) fun _ _ y => y))
 obtain rfl : a = d := x1
 cases a with
 | true => exact q1 s1 ok1 fm1
 | false => exact q1 s1 ok1 fm1
end
end Mine
namespace Mine
open PySem PySem.Calls PyProof.Rows
theorem codeAny_forLoopT {prog : Program} {w : World} {A : Around} {s : Shared} {R : Result → Shared → Prop} {target it body orelse env} (I : Nat → Shared → Prop)
  (turn : ∀ n s, I n s → wpAny (model prog w) A (pyNext it) (fun r s₁ => match r with
   | none => wpAny (model prog w) A (execs orelse env) (fun f s₃ => R (.ok f) s₃) (notedBy (model prog w) A env fun e s' => R (.error e) s') s₁
   | some v => wpAny (model prog w) A (letOwnedTupleGo target it v) (fun _ s₁' => wpAny (model prog w) A (assign target env v) (fun _ s₂ => wpAny (model prog w) A (execs body env) (fun f s₃ => match f with
     | .next | .cont => ∃ m, m < n ∧ I m s₃
     | .brk => R (.ok .next) s₃
     | .ret v => R (.ok (.ret v)) s₃) (notedBy (model prog w) A env fun e s' => R (.error e) s') s₂) (notedBy (model prog w) A env fun e s' => R (.error e) s') s₁') (notedBy (model prog w) A env fun e s' => R (.error e) s') s₁) (notedBy (model prog w) A env fun e s' => R (.error e) s') s)
  (n : Nat) (h : I n s) : codeAny (model prog w) A (.forLoop target it body orelse env) R s := by
 refine codeAny_loop' rfl I (fun n s hI => ?_) n h
 show wpAny _ _ ((forTurn target it body orelse env).onRaise (fun x => do noteFrame x env; theTreesLotGoes x)) _ _ s
 refine wpAny_noted ?_
 simp only [forTurn]
 refine wpAny_bind (wpAny_standAt (wpAny_bind (wpAny_onRaise (wpAny_mono (turn n s hI) (fun r s₁ h₁ => ?_) fun _ _ h' => wpAny_standAt h'))))
 cases r with
 | none => exact wpAny_pure (.inr ⟨rfl, codeAny_block h₁⟩)
 | some v =>
  refine wpAny_bind (wpAny_mono h₁ (fun _ s₁' h₁' => ?_) fun _ _ h' => h')
  refine wpAny_bind (wpAny_mono h₁' (fun _ s₂ h₂ => wpAny_bind (wpAny_mono h₂ (fun f s₃ h₃ => ?_) fun _ _ h' => h')) fun _ _ h' => h')
  cases f with
  | next => exact wpAny_pure (.inl ⟨rfl, h₃⟩)
  | cont => exact wpAny_pure (.inl ⟨rfl, h₃⟩)
  | brk => exact wpAny_pure h₃
  | ret v => exact wpAny_pure h₃
theorem codeAny_compLoopT {prog : Program} {w : World} {A : Around} {s : Shared} {R : Result → Shared → Prop} {elt target iter : Expr} {ifs : List Expr} {scope : Scope} {pos : Pos} {it acc : Value} {env : Env} (I : Nat → Shared → Prop)
  (turn : ∀ n s, I n s → wpAny (model prog w) A (pyNext it) (fun r s₁ => match r with
   | none => R (.ok .next) s₁
   | some v => wpAny (model prog w) A (letOwnedTupleGo target it v) (fun _ s₁' => wpAny (model prog w) A (assign target env v) (fun _ s₂ =>
     wpAny (model prog w) A (forIn ifs true fun c r => if r = true then do let ok ← isTrue c env (eval c env); pure (ForInStep.yield ok) else pure (ForInStep.yield r)) (fun ok s₃ =>
      if ok = true then wpAny (model prog w) A (eval elt env) (fun x s₄ =>
       wpAny (model prog w) A (call (.builtin "list.append") [acc, x]) (fun _ s₅ => ∃ m, m < n ∧ I m s₅) (fun _ _ => False) s₄) (fun _ _ => False) s₃
      else ∃ m, m < n ∧ I m s₃) (fun _ _ => False) s₂) (fun _ _ => False) s₁') (fun _ _ => False) s₁) (fun _ _ => False) s)
  (n : Nat) (h : I n s) : codeAny (model prog w) A (.compLoop (.ListComp elt [⟨target, iter, ifs, 0⟩] scope pos) 0 it acc env) R s := by
 refine codeAny_loop rfl I (fun n s hI => ?_) n h
 show wpAny _ A ((compTurn (.ListComp elt [⟨target, iter, ifs, 0⟩] scope pos) 0 it acc env).onRaise (fun x => do noteFrame x env; theTreesLotGoes x)) _ _ s
 refine wpAny_noted ?_
 rw [compTurn_list]
 refine wpAny_bind (wpAny_standAt (wpAny_bind (wpAny_mono (turn n s hI) (fun r s₁ h₁ => ?_) fun _ _ h' => h'.elim)))
 cases r with
 | none => exact wpAny_pure h₁
 | some v =>
  refine wpAny_bind (wpAny_mono h₁ (fun _ s₁' h₁' => ?_) fun _ _ h' => h'.elim)
  refine wpAny_bind (wpAny_mono h₁' (fun _ s₂ h₂ => wpAny_bind (wpAny_mono h₂ (fun ok s₃ h₃ => ?_) fun _ _ h' => h'.elim)) fun _ _ h' => h'.elim)
  cases ok with
  | false => exact wpAny_pure ⟨rfl, h₃⟩
  | true =>
   exact wpAny_bind (wpAny_bind (wpAny_mono h₃ (fun x s₄ h₄ => wpAny_bind (wpAny_mono h₄ (fun _ s₅ h₅ => wpAny_pure (wpAny_pure ⟨rfl, h₅⟩)) fun _ _ h' => h'.elim)) fun _ _ h' => h'.elim))
theorem Ok.more {c : Cx} {A : Around} {fr wr : List Addr} {σ : Sto} {h h' : Heap} (ok : Ok c A fr σ h) (k : ∀ b o, h.get? b = some o → h'.get? b = some o) (hn : ∀ a ∈ wr, h.get? a = none) (hl : ∀ a ∈ wr, ∃ o, h'.get? a = some o) (nd : wr.Nodup) : Ok c A (wr ++ fr) σ h' where
 base := fun b o e => k b o (ok.base b o e)
 sto := fun p hp => IsO.move (K := keys σ ++ fr) (fun b o _ e => k b o e) (fun a m => by
  rcases List.mem_append.mp m with z | z
  ·exact .inl (List.mem_append_left _ z)
  ·rcases List.mem_append.mp z with z | z
   ·exact .inr (hn a z)
   ·exact .inl (List.mem_append_right _ z)) (fun x e => k _ x e) (ok.sto p hp)
 nd := by
  have h0 := ok.nd
  have ap : ∀ a ∈ wr, a ∉ keys σ ++ fr := fun a ha m => by obtain ⟨o, e⟩ := ok.there m; rw [hn a ha] at e; cases e
  rw [List.nodup_append] at h0
  rw [List.nodup_append, List.nodup_append]
  refine ⟨h0.1, ⟨nd, h0.2.1, fun a ha b hb z => ap a ha (z ▸ List.mem_append_right _ hb)⟩, fun a ha b hb => ?_⟩
  rcases List.mem_append.mp hb with hb | hb
  ·exact fun z => ap b hb (z ▸ List.mem_append_left _ ha)
  ·exact h0.2.2 a ha b hb
 new := fun a m => by
  rcases List.mem_append.mp m with z | z
  ·exact ok.new a (List.mem_append_left _ z)
  ·rcases List.mem_append.mp z with z | z
   ·cases hg : c.h0.get? a with
    | none => rfl
    | some o => have := ok.base _ o hg; rw [hn a z] at this; cases this
   ·exact ok.new a (List.mem_append_right _ z)
 live := fun a m => by
  rcases List.mem_append.mp m with z | z
  ·exact hl a z
  ·obtain ⟨o, g⟩ := ok.live a z; exact ⟨o, k _ _ g⟩
 stack := by
  obtain ⟨l, a, b, d, f⟩ := (ok.keeps k).stack
  exact ⟨l, a, b, fun x hx => List.mem_append_right _ (d x hx), f⟩
theorem Ok.less {c : Cx} {A : Around} {fr wr ex : List Addr} {σ : Sto} {h : Heap} (ok : Ok c A (ex ++ (wr ++ fr)) σ h) (hin : ∀ l, A.frames = some l → ∀ b ∈ l.filterMap (·.frame), b ∈ fr) : Ok c A (ex ++ fr) σ h where
 base := ok.base
 sto := fun p hp => IsO.move (K := keys σ ++ (ex ++ (wr ++ fr))) (fun b o _ e => e) (fun a m => .inl (by
  rcases List.mem_append.mp m with z | z
  ·exact List.mem_append_left _ z
  ·rcases List.mem_append.mp z with z | z
   ·exact List.mem_append_right _ (List.mem_append_left _ z)
   ·exact List.mem_append_right _ (List.mem_append_right _ (List.mem_append_right _ z)))) (fun x e => e) (ok.sto p hp)
 nd := by
  refine List.Sublist.nodup ?_ ok.nd
  exact List.Sublist.append (List.Sublist.refl _) (List.Sublist.append (List.Sublist.refl _) (List.sublist_append_right _ _))
 new := fun a m => ok.new a (by
  rcases List.mem_append.mp m with z | z
  ·exact List.mem_append_left _ z
  ·rcases List.mem_append.mp z with z | z
   ·exact List.mem_append_right _ (List.mem_append_left _ z)
   ·exact List.mem_append_right _ (List.mem_append_right _ (List.mem_append_right _ z)))
 live := fun a m => ok.live a (by
  rcases List.mem_append.mp m with z | z
  ·exact List.mem_append_left _ z
  ·exact List.mem_append_right _ (List.mem_append_right _ z))
 stack := by
  obtain ⟨l, h1, h2, h3, h4⟩ := ok.stack
  exact ⟨l, h1, h2, fun b hb => List.mem_append_right _ (hin l h1 b hb), h4⟩
theorem less_drop {fr wr : List Addr} (σ : Sto) (h : Heap) : Less (keys σ ++ (wr ++ fr)) (keys σ ++ fr) h := fun a m => by
 rcases List.mem_append.mp m with z | z
 ·exact .inl (List.mem_append_left _ z)
 ·exact .inl (List.mem_append_right _ (List.mem_append_right _ z))
theorem less_add {fr wr : List Addr} {σ : Sto} {h : Heap} (hn : ∀ a ∈ wr, h.get? a = none) : Less (keys σ ++ fr) (keys σ ++ (wr ++ fr)) h := fun a m => by
 rcases List.mem_append.mp m with z | z
 ·exact .inl (List.mem_append_left _ z)
 ·rcases List.mem_append.mp z with z | z
  ·exact .inr (hn a z)
  ·exact .inl (List.mem_append_right _ z)
theorem Fm.shift {env : Env} {m : Vars} {fr fr' K K' : List Addr} {h : Heap} (f : Fm env m fr K h) (hi : env.locals ∈ fr' ∧ ∀ p ∈ env.cells, p.2 ∈ fr') (hl : Less K K' h) : Fm env m fr' K' h where
 kind := f.kind
 glob := f.glob
 bui := f.bui
 ns := by obtain ⟨mv, hn, r⟩ := f.ns; exact ⟨mv, hn, fun x d e k => by obtain ⟨v, a, b⟩ := r x d e k; exact ⟨v, a, V.move (fun _ _ _ e => e) hl _ _ b⟩⟩
 cell := fun x cc e => by obtain ⟨ov, hc, r⟩ := f.cell x cc e; exact ⟨ov, hc, fun d e k => by obtain ⟨v, a, b⟩ := r d e k; exact ⟨v, a, V.move (fun _ _ _ e => e) hl _ _ b⟩⟩
 has := f.has
 inn := hi
 apart := f.apart
theorem Post.drop {F fr wr : List Addr} {σ σ1 σ2 : Sto} {s s1 s2 : Shared} (p : Post [] fr σ s s1 σ1) (hn : ∀ a ∈ wr, s.heap.get? a = none) (q : Post (wr ++ F) (wr ++ fr) σ1 s1 s2 σ2) : Post F fr σ s s2 σ2 where
 shape := by obtain ⟨h, tk, rfl⟩ := p.shape; obtain ⟨h', tk', rfl⟩ := q.shape; exact ⟨h', tk', rfl⟩
 kept := fun b o nb e => q.kept b o (fun m => by
  rcases List.mem_append.mp m with z | z
  ·exact p.less.nin nb e (List.mem_append_left _ z)
  ·rcases List.mem_append.mp z with z | z
   ·rw [hn b z] at e; cases e
   ·exact nb (List.mem_append_right _ z)) (p.kept b o nb e)
 slots := fun b o m nf e => by
  obtain ⟨sl, e1, r1⟩ := p.slots b o m (by simp) e
  obtain ⟨sl', e2, r2⟩ := q.slots b _ (List.mem_append_right _ m) (fun z => by
   rcases List.mem_append.mp z with z | z
   ·rw [hn b z] at e; cases e
   ·exact nf z) e1
  exact ⟨sl', e2, fun z => (r2 z).trans (r1 z)⟩
 alive := fun b o e => by obtain ⟨o1, e1⟩ := p.alive b o e; exact q.alive b o1 e1
 grow := fun a m => by
  rcases q.grow a m with z | z
  ·exact p.grow a z
  ·exact .inr (none_back p z)
theorem Ex.drop {c : Cx} {A : Around} {env : Env} {fr wr : List Addr} {σ σ1 : Sto} {s s1 s2 : Shared} {t : Bool} {X : Addr → Sto → Prop} {v : Value} (hin : ∀ l, A.frames = some l → ∀ b ∈ l.filterMap (·.frame), b ∈ fr) (p : Post [] fr σ s s1 σ1) (hn : ∀ a ∈ wr, s.heap.get? a = none) (hi : env.locals ∈ fr ∧ ∀ p ∈ env.cells, p.2 ∈ fr)
  (x : ∃ e C σ' ex, v = .ref e ∧ Post (wr ++ Fa env) (wr ++ fr) σ1 s1 s2 σ' ∧ Ok c A (ex ++ (wr ++ fr)) σ' s2.heap ∧ (∀ a ∈ ex, s1.heap.get? a = none) ∧ ExcOk s2.heap ex e C t ∧ Fm env [] (wr ++ fr) (keys σ' ++ (wr ++ fr)) s2.heap ∧ X C σ') : Ex c A (some env) fr σ s t X v s2 := by
 obtain ⟨e, C, σ', ex, rfl, q, ok, n, r, f, hx⟩ := x
 exact ⟨e, C, σ', ex, rfl, Post.drop p hn q, ok.less hin, fun a ha => none_back p (n a ha), r, f.shift hi (less_drop _ _), hx⟩
end Mine
namespace Mine
open PySem PySem.Calls PyProof.Rows
structure Ow (wr : List Addr) (h h' : Heap) : Prop where
 kept : ∀ b o, b ∉ wr → h.get? b = some o → h'.get? b = some o
 live : ∀ b ∈ wr, ∃ o, h'.get? b = some o
theorem Ok.ow {c : Cx} {A : Around} {fr wr : List Addr} {σ : Sto} {h h' : Heap} (ok : Ok c A (wr ++ fr) σ h) (hnd : ∀ b ∈ wr, ∀ o, h.get? b = some o → ∀ es n, o.data ≠ .dict es n) (y : Ow wr h h') : Ok c A (wr ++ fr) σ h' where
 base := fun b o e => y.kept b o (fun m => by rw [ok.new b (List.mem_append_right _ (List.mem_append_left _ m))] at e; cases e) (ok.base b o e)
 sto := fun p hp => IsO.move (fun b o n e => y.kept b o (fun m => n (List.mem_append_right _ (List.mem_append_left _ m))) e) (fun a m => .inl m) (fun x e => y.kept _ _ (fun m => by
  have := ok.nd
  rw [List.nodup_append] at this
  exact this.2.2 _ (List.mem_map_of_mem hp) _ (List.mem_append_left _ m) rfl) e) (ok.sto p hp)
 nd := ok.nd
 new := ok.new
 live := fun a m => by
  by_cases z : a ∈ wr
  ·exact y.live a z
  ·obtain ⟨o, e⟩ := ok.live a m; exact ⟨o, y.kept _ _ z e⟩
 stack := by
  obtain ⟨l, a, b, d, f⟩ := ok.stack
  have nw : ∀ x ∈ l.filterMap (·.frame), x ∉ wr := fun x hx hw => by
   obtain ⟨o, es, n, g, r⟩ := f x hx
   exact hnd x hw o g es n r
  refine ⟨l, a, ?_, d, fun x hx => ?_⟩
  ·have : ∀ x ∈ l.filterMap (·.frame), x ∈ l.filterMap (·.frame) := fun x hx => hx
   refine FunFrames.turn (fr := l.filterMap (·.frame)) (fun x o hx g k => ⟨o, y.kept _ _ (nw x hx) g, k⟩) b this
  ·obtain ⟨o, es, n, g, r⟩ := f x hx; exact ⟨o, es, n, y.kept _ _ (nw x hx) g, r⟩
theorem Post.ow {F fr wr : List Addr} {σ : Sto} {s : Shared} {h' : Heap} {tk : Nat} (y : Ow wr s.heap h') : Post (wr ++ F) (wr ++ fr) σ s { s with heap := h', toks := tk } σ where
 shape := ⟨h', tk, rfl⟩
 kept := fun b o n e => y.kept b o (fun m => n (List.mem_append_right _ (List.mem_append_left _ m))) e
 slots := fun b o m n e => ⟨o.slots, y.kept b o (fun z => n (List.mem_append_left _ z)) e, fun _ => rfl⟩
 alive := fun b o e => by
  by_cases z : b ∈ wr
  ·exact y.live b z
  ·exact ⟨o, y.kept _ _ z e⟩
 grow := fun _ m => .inl m
theorem Fm.ow {env : Env} {m : Vars} {fr wr K : List Addr} {h h' : Heap} (f : Fm env m (wr ++ fr) K h) (hK : ∀ b ∈ wr, b ∈ K) (hn : env.locals ∉ wr ∧ ∀ p ∈ env.cells, p.2 ∉ wr) (y : Ow wr h h') : Fm env m (wr ++ fr) K h' := by
 have st : Stay K h h' := fun b o n e => y.kept b o (fun m => n (hK _ m)) e
 have ls : Less K K h := fun a m => .inl m
 exact {
  kind := f.kind
  glob := f.glob
  bui := f.bui
  ns := by
   obtain ⟨mv, ⟨o, es, ep, g, r⟩, q⟩ := f.ns
   exact ⟨mv, ⟨o, es, ep, y.kept _ _ hn.1 g, r⟩, fun x d e k => by obtain ⟨v, a, b⟩ := q x d e k; exact ⟨v, a, V.move st ls _ _ b⟩⟩
  cell := fun x cc e => by
   obtain ⟨ov, ⟨o, g, r⟩, q⟩ := f.cell x cc e
   exact ⟨ov, ⟨o, y.kept _ _ (hn.2 _ (mem_of_lookup e)) g, r⟩, fun d e k => by obtain ⟨v, a, b⟩ := q d e k; exact ⟨v, a, V.move st ls _ _ b⟩⟩
  has := f.has
  inn := f.inn
  apart := f.apart }
structure Src (c : Cx) (A : Around) (tg : Expr) (I : Addr) (wr : List Addr) (vals : List Vars) (Inv : Sto → Prop) (St : Nat → List Addr → Heap → Prop) (Mid : Nat → List Addr → Heap → Value → Prop) : Prop where
 nodict : ∀ i K h, St i K h → ∀ b ∈ wr, ∀ o, h.get? b = some o → ∀ es n, o.data ≠ .dict es n
 move : ∀ i K K' h h', St i K h → Stay K h h' → (∀ b ∈ wr, ∀ o, h.get? b = some o → h'.get? b = some o) → Less K K' h → St i K' h'
 next : ∀ i σ fr (s : Shared) (Q : Option Value → Shared → Prop) (E : Value → Shared → Prop), i < vals.length → Ok c A (wr ++ fr) σ s.heap → St i (keys σ ++ (wr ++ fr)) s.heap → Inv σ →
  (∀ v h' tk, Mid i (keys σ ++ (wr ++ fr)) h' v → Ow wr s.heap h' → Q (some v) { s with heap := h', toks := tk }) → wpAny (model c.prog c.w) A (pyNext (.ref I)) Q E s
 put : ∀ i σ fr (F : List Addr) (env : Env) (m : Vars) v (s : Shared) (Q : Unit → Shared → Prop) (E : Value → Shared → Prop) x, vals[i]? = some x → Mid i (keys σ ++ (wr ++ fr)) s.heap v → Ok c A (wr ++ fr) σ s.heap → Fm env m (wr ++ fr) (keys σ ++ (wr ++ fr)) s.heap → (env.locals ∈ fr ∧ ∀ p ∈ env.cells, p.2 ∈ fr) →
  (∀ y ∈ x, env.kindOf y.1 = some .local ∨ env.kindOf y.1 = some .cell) → (env.locals ∈ F ∧ ∀ y ∈ x, env.kindOf y.1 = some .cell → ∀ cc, env.cells.lookup y.1 = some cc → cc ∈ F) → (∀ b ∈ wr, ∀ o, s.heap.get? b = some o → ∀ es n, o.data ≠ .dict es n) →
  (∀ h' tk, St (i + 1) (keys σ ++ (wr ++ fr)) h' → Fm env (x ++ m) (wr ++ fr) (keys σ ++ (wr ++ fr)) h' → Ok c A (wr ++ fr) σ h' → Post (wr ++ F) (wr ++ fr) σ s { s with heap := h', toks := tk } σ → Q () { s with heap := h', toks := tk }) →
  wpAny (model c.prog c.w) A (letOwnedTupleGo tg (.ref I) v) (fun _ s' => wpAny (model c.prog c.w) A (assign tg env v) Q E s') E s
 midnd : ∀ i K h v, Mid i K h v → ∀ b ∈ wr, ∀ o, h.get? b = some o → ∀ es n, o.data ≠ .dict es n
 done : ∀ σ fr (s : Shared) (Q : Option Value → Shared → Prop) (E : Value → Shared → Prop), Ok c A (wr ++ fr) σ s.heap → St vals.length (keys σ ++ (wr ++ fr)) s.heap → Inv σ →
  (∀ h' tk, (∀ b o, b ∉ wr → s.heap.get? b = some o → h'.get? b = some o) → Q none { s with heap := h', toks := tk }) → wpAny (model c.prog c.w) A (pyNext (.ref I)) Q E s
 self : ∀ i K (s : Shared) (Q : Value → Shared → Prop) (E : Value → Shared → Prop), St i K s.heap → Q (.ref I) s → wpAny (model c.prog c.w) A (pyIter (.ref I)) Q E s
inductive ItP (c : Cx) (A : Around) (fr : List Addr) (env : Env) (m : Vars) (σ : Sto) (tg : Expr) (Q : List Vars → (Sto → Prop) → Sto → Prop) (s : Shared) (it : Value) (s2 : Shared) : Prop
 | mk (I : Addr) (wr : List Addr) (vals : List Vars) (Inv : Sto → Prop) (St : Nat → List Addr → Heap → Prop) (Mid : Nat → List Addr → Heap → Value → Prop) (σ' : Sto) (e : it = .ref I) (p : Post [] fr σ s s2 σ') (ok : Ok c A fr σ' s2.heap) (okw : Ok c A (wr ++ fr) σ' s2.heap) (hn : ∀ a ∈ wr, s.heap.get? a = none)
   (fmw : Fm env m (wr ++ fr) (keys σ' ++ (wr ++ fr)) s2.heap) (src : Src c A tg I wr vals Inv St Mid) (st : St 0 (keys σ' ++ (wr ++ fr)) s2.heap) (inv : Inv σ') (q : Q vals Inv σ') : ItP c A fr env m σ tg Q s it s2
noncomputable def WIt (c : Cx) (A : Around) (fr : List Addr) (env : Env) (m : Vars) (σ : Sto) (iter tg : Expr) (Q : List Vars → (Sto → Prop) → Sto → Prop) (X : Addr → Sto → Prop) : Prop :=
 ∀ s, Ok c A fr σ s.heap → Fm env m fr (keys σ ++ fr) s.heap →
  wpAny (model c.prog c.w) A (eval iter env) (fun x s1 => wpAny (model c.prog c.w) A (pyIter x) (ItP c A fr env m σ tg Q s) (Ex c A none fr σ s false X) s1) (Ex c A none fr σ s false X) s
theorem Post.fin {F fr wr : List Addr} {σ σ' : Sto} {s s' : Shared} {h' : Heap} {tk : Nat} (p : Post F fr σ s s' σ') (hn : ∀ a ∈ wr, s.heap.get? a = none) (hw : ∀ a ∈ fr, a ∉ wr) (k : ∀ b o, b ∉ wr → s'.heap.get? b = some o → h'.get? b = some o) : Post F fr σ s { s' with heap := h', toks := tk } σ' where
 shape := by obtain ⟨h, t, rfl⟩ := p.shape; exact ⟨h', tk, rfl⟩
 kept := fun b o n e => k b o (fun z => by rw [hn b z] at e; cases e) (p.kept b o n e)
 slots := fun b o m n e => by obtain ⟨sl, e1, r⟩ := p.slots b o m n e; exact ⟨sl, k _ _ (hw b m) e1, r⟩
 alive := fun b o e => by obtain ⟨o1, e1⟩ := p.alive b o e; exact ⟨o1, k _ _ (fun z => by rw [hn b z] at e; cases e) e1⟩
 grow := p.grow
theorem Ok.fin {c : Cx} {A : Around} {fr wr : List Addr} {σ : Sto} {h h' : Heap} (ok : Ok c A (wr ++ fr) σ h) (hin : ∀ l, A.frames = some l → ∀ b ∈ l.filterMap (·.frame), b ∈ fr) (k : ∀ b o, b ∉ wr → h.get? b = some o → h'.get? b = some o) : Ok c A fr σ h' := by
 have ok1 : Ok c A fr σ h := Ok.less (ex := []) ok hin
 have nd := ok.nd
 rw [List.nodup_append, List.nodup_append] at nd
 have nf : ∀ a ∈ fr, a ∉ wr := fun a ha hw => nd.2.1.2.2 a hw a ha rfl
 have nk : ∀ a ∈ keys σ, a ∉ wr := fun a ha hw => nd.2.2 a ha a (List.mem_append_left _ hw) rfl
 exact {
  base := fun b o e => k b o (fun m => by rw [ok.new b (List.mem_append_right _ (List.mem_append_left _ m))] at e; cases e) (ok.base b o e)
  sto := fun p hp => IsO.move (K := keys σ ++ (wr ++ fr)) (fun b o n e => k b o (fun m => n (List.mem_append_right _ (List.mem_append_left _ m))) e) (less_drop _ _) (fun x e => k _ _ (nk _ (List.mem_map_of_mem hp)) e) (ok.sto p hp)
  nd := ok1.nd
  new := ok1.new
  live := fun a m => by obtain ⟨o, e⟩ := ok1.live a m; exact ⟨o, k _ _ (nf a m) e⟩
  stack := by
   obtain ⟨l, a, b, d, f⟩ := ok1.stack
   refine ⟨l, a, FunFrames.turn (fr := fr) (fun x o hx g q => ⟨o, k _ _ (nf x hx) g, q⟩) b d, d, fun x hx => ?_⟩
   obtain ⟨o, es, n, g, r⟩ := f x hx; exact ⟨o, es, n, k _ _ (nf x (d x hx)) g, r⟩ }
theorem Ok.frames_in {c : Cx} {A : Around} {fr : List Addr} {σ : Sto} {h : Heap} (ok : Ok c A fr σ h) : ∀ l, A.frames = some l → ∀ b ∈ l.filterMap (·.frame), b ∈ fr := fun l hl b hb => by
 obtain ⟨l', h1, _, h3, _⟩ := ok.stack
 rw [hl] at h1; cases h1; exact h3 b hb
section
variable {c : Cx} {A : Around} {fr : List Addr} {σ : Sto} {X : Addr → Sto → Prop} {env : Env} {m : Vars} {N : Vars → Sto → Prop} {R : D → Sto → Prop}
theorem Ex.loop {wr : List Addr} {σ1 σ2 : Sto} {s s1 s2 s3 : Shared} {v : Value} (hst : ∃ l, A.frames = some (env :: l)) (hf : env.frame = some env.locals) (hin : ∀ l, A.frames = some l → ∀ b ∈ l.filterMap (·.frame), b ∈ fr) (hi : env.locals ∈ fr ∧ ∀ p ∈ env.cells, p.2 ∈ fr)
  (p : Post [] fr σ s s1 σ1) (hn : ∀ a ∈ wr, s.heap.get? a = none) (q : Post (wr ++ Fa env) (wr ++ fr) σ1 s1 s2 σ2) (x : Ex c A (some env) (wr ++ fr) σ2 s2 false X v s3) :
  notedBy (model c.prog c.w) A env (fun e s' => cameBackBy (model c.prog c.w) A env (Ex c A (some env) fr σ s false X) e s') v s3 := by
 unfold notedBy
 obtain ⟨l, hl⟩ := hst
 refine wpAny_mono (Ex.noted (E := fun _ _ => False) x hl hf) (fun _ s4 x4 => ?_) fun _ _ f => f.elim
 unfold cameBackBy
 obtain ⟨e, C, σ', ex, rfl, q', ok, n, ⟨oe, vs, g, gc, gd, gs, r⟩, f, hx⟩ := id x4
 rcases r with ⟨r, _⟩ | ⟨T, oT, ts, rfl, hT, gT, dT, sT⟩
 ·cases r
 refine wpAny_bind (wpAny_field g gd hT ?_)
 rw [if_neg (by simp)]
 refine wpAny_mono (Ex.flight (E := fun _ _ => False) x4) (fun _ s5 x5 => ?_) fun _ _ f => f.elim
 obtain ⟨e', C', σ5, ex5, ev, q5, ok5, n5, r5, f5, hx5⟩ := x5
 refine Ex.weak (Ex.drop hin p hn hi ⟨e', C', σ5, ex5, ev, q.trans (q5.wide ?_), ok5, fun a ha => none_back q (n5 a ha), r5, f5, hx5⟩)
 intro a ha; exact List.mem_append_right _ ha
inductive Loop (c : Cx) (A : Around) (env : Env) (m : Vars) (body : List Stmt) (N : Vars → Sto → Prop) (R : D → Sto → Prop) (X : Addr → Sto → Prop) (vals : List Vars) (Inv : Sto → Prop) (σ1 : Sto) : Prop
 | mk (hk : ∀ x ∈ vals, ∀ y ∈ x, env.kindOf y.1 = some .local ∨ env.kindOf y.1 = some .cell) (L : Nat → Vars → Sto → Prop) (h0 : L 0 m σ1) (hinv : ∀ k m' σ', L k m' σ' → Inv σ')
   (step : ∀ k x m' σ', vals[k]? = some x → L k m' σ' → ∀ fr', WS c A fr' env (x ++ m') σ' body (fun m'' σ'' => L (k + 1) m'' σ'') R X) (fin : ∀ m' σ', L vals.length m' σ' → N m' σ') : Loop c A env m body N R X vals Inv σ1
inductive ForI (c : Cx) (A : Around) (env : Env) (frw F : List Addr) (σ1 : Sto) (s2 : Shared) (n : Nat) (L : Nat → Vars → Sto → Prop) (St : Nat → List Addr → Heap → Prop) (k : Nat) (s' : Shared) : Prop
 | mk (i : Nat) (m' : Vars) (σ' : Sto) (e : k = n + 1 - i) (hi : i ≤ n) (hL : L i m' σ') (pp : Post F frw σ1 s2 s' σ') (ok : Ok c A frw σ' s'.heap) (fm : Fm env m' frw (keys σ' ++ frw) s'.heap) (st : St i (keys σ' ++ frw) s'.heap) : ForI c A env frw F σ1 s2 n L St k s'
theorem W1.for_ {tg iter : Expr} {body : List Stmt} {pos : Pos} (hst : ∃ l, A.frames = some (env :: l)) (hf : env.frame = some env.locals)
  (h : WIt c A fr env m σ iter tg (Loop c A env m body N R X) X) (hs : ∀ x, foldedSetIterable iter env x = pure x := by intro _; rfl) : W1 c A fr env m σ (.For tg iter body [] pos) N R X := fun s ok fm => by
 have hin := ok.frames_in
 refine wpAny_For (wpAny_mono (h s ok fm) (fun x s1 h1 => wpAny_mono h1 (fun it s2 h2 => ?_) fun _ _ x => x.wide fm) fun _ _ x => x.wide fm) hs
 obtain ⟨I, wr, vals, Inv, St, Mid, σ1, rfl, p, ok1, okw, hn, fmw, src, st0, inv0, hkinds, L, L0, LI, Lturn, Lend⟩ := h2
 have ndw := okw.nd
 rw [List.nodup_append, List.nodup_append] at ndw
 have nf : ∀ a ∈ fr, a ∉ wr := fun a ha hw => ndw.2.1.2.2 a hw a ha rfl
 have hloc : env.locals ∉ wr ∧ ∀ q ∈ env.cells, q.2 ∉ wr := ⟨nf _ fm.inn.1, fun q hq => nf _ (fm.inn.2 q hq)⟩
 refine codeAny_forLoopT (ForI c A env (wr ++ fr) (wr ++ Fa env) σ1 s2 vals.length L St)
  ?_ (vals.length + 1) ⟨0, m, σ1, rfl, Nat.zero_le _, L0, Post.refl .., okw, fmw, st0⟩
 rintro k s' ⟨i, m', σ', rfl, hi, hL, pp, okk, fmk, stk⟩
 by_cases hlt : i < vals.length
 ·obtain ⟨x, hx⟩ : ∃ x, vals[i]? = some x := ⟨vals[i], by simp [hlt]⟩
  refine src.next i σ' fr s' _ _ hlt okk stk (LI _ _ _ hL) fun v h' tk hmid how => ?_
  have ok' : Ok c A (wr ++ fr) σ' h' := okk.ow (src.nodict _ _ _ stk) how
  have fm' : Fm env m' (wr ++ fr) (keys σ' ++ (wr ++ fr)) h' := fmk.ow (fun b hb => List.mem_append_right _ (List.mem_append_left _ hb)) hloc how
  have pp' := pp.trans (Post.ow (F := Fa env) (fr := fr) (σ := σ') (tk := tk) how)
  refine src.put i σ' fr (Fa env) env m' v _ _ _ x hx hmid ok' fm' fm.inn (hkinds x (List.mem_of_getElem? hx)) ⟨List.mem_cons_self, fun y _ _ cc hcc => List.mem_cons_of_mem _ (List.mem_map_of_mem (f := (·.2)) (mem_of_lookup hcc))⟩ (src.midnd _ _ _ _ hmid) fun h2 tk2 st2 fm2 ok2 p2 => ?_
  have pp2 := pp'.trans p2
  refine wpAny_mono (Lturn i x m' σ' hx hL (wr ++ fr) _ ok2 fm2) (fun fl s3 hx3 => ?_) fun v s3 hx3 => ?_
  ·obtain ⟨out, σ3, p3, ok3, r3, q3⟩ := hx3
   have pp3 := pp2.trans (p3.wide (F' := wr ++ Fa env) fun a ha => List.mem_append_right _ ha)
   cases out with
   | next m3 =>
    obtain ⟨rfl, fm3⟩ := r3
    refine ⟨vals.length + 1 - (i + 1), by exact Nat.not_le.mp fun qz => lin [_,_,_,_] [] [(1,.nl (.v 0) (.v 1)),(1,.nl (.a (.v 2) (.n 1)) (.a (.v 0) (.v 3))),(1,.ne (.a (.v 1) (.a (.v 3) (.n 1))) (.a (.v 2) (.n 1)))] rfl qz (Nat.sub_le_iff_le_add.mp (Nat.le_refl _)) (Nat.sub_add_cancel (Nat.not_lt.mp fun qz => lin [_,_] [] [(1,.nt (.a (.v 0) (.n 1)) (.a (.v 1) (.n 1))),(1,.nt (.v 1) (.v 0))] rfl qz hlt)), i + 1, m3, σ3, rfl, hlt, q3, pp3, ok3, fm3, ?_⟩
    refine src.move _ _ _ _ _ st2 p3.stay (fun b hb o e => ?_) p3.less
    obtain ⟨sl, e1, r1⟩ := p3.slots b o (List.mem_append_left _ hb) (fun z => by
     rcases List.mem_cons.mp z with rfl | z
     ·exact hloc.1 hb
     ·obtain ⟨q, hq, rfl⟩ := List.mem_map.mp z; exact hloc.2 q hq hb) e
    have := r1 (src.nodict _ _ _ st2 b hb o e)
    subst this; exact e1
   | ret d =>
    obtain ⟨v, rfl, hv, fv⟩ := r3
    exact ⟨.ret d, σ3, Post.drop p hn pp3, Ok.less (ex := []) ok3 hin, ⟨v, rfl, V.move (fun _ _ _ e => e) (less_drop _ _) _ _ hv, fv.shift fm.inn (less_drop _ _)⟩, q3⟩
  ·exact Ex.loop hst hf hin fm.inn p hn pp2 hx3
 ·obtain rfl : i = vals.length := by exact Nat.le_antisymm (Nat.not_lt.mp fun qz => lin [_,_] [] [(1,.nt (.v 0) (.v 1)),(1,.nl (.v 1) (.v 0))] rfl qz hi) (Nat.not_lt.mp fun qz => lin [_,_] [] [(1,.nt (.v 0) (.v 1)),(1,.nl (.v 1) (.v 0))] rfl qz (Nat.not_lt.mp hlt))
  refine src.done σ' fr s' _ _ okk stk (LI _ _ _ hL) fun h' tk hk => ?_
  refine wpAny_execs_nil ?_
  have okf : Ok c A fr σ' h' := okk.fin hin hk
  refine ⟨.next m', σ', Post.fin (Post.drop p hn pp) hn nf hk, okf, ⟨rfl, ?_⟩, Lend _ _ hL⟩
  have f1 := fmk.shift (fr' := fr) (K' := keys σ' ++ fr) fm.inn (less_drop _ _)
  have st : Stay (keys σ' ++ (wr ++ fr)) s'.heap h' := fun b o n e => hk b o (fun z => n (List.mem_append_right _ (List.mem_append_left _ z))) e
  exact {
   kind := f1.kind
   glob := f1.glob
   bui := f1.bui
   ns := by
    obtain ⟨mv, ⟨o, es, ep, g, r⟩, q⟩ := fmk.ns
    exact ⟨mv, ⟨o, es, ep, hk _ _ hloc.1 g, r⟩, fun x d e k => by obtain ⟨v, a, b⟩ := q x d e k; exact ⟨v, a, V.move st (less_drop _ _) _ _ b⟩⟩
   cell := fun x cc e => by
    obtain ⟨ov, ⟨o, g, r⟩, q⟩ := fmk.cell x cc e
    exact ⟨ov, ⟨o, hk _ _ (hloc.2 _ (mem_of_lookup e)) g, r⟩, fun d e k => by obtain ⟨v, a, b⟩ := q d e k; exact ⟨v, a, V.move st (less_drop _ _) _ _ b⟩⟩
   has := f1.has
   inn := f1.inn
   apart := f1.apart }
end
end Mine
namespace Mine
open PySem PySem.Calls PyProof.Rows
noncomputable def relab (scope sc : Scope) : Scope :=
 { scope with names := scope.names.map fun (n, k) => if (k == .free && sc.kind == .function && sc.names.lookup n == some .cell) then (n, .cell) else (n, k) }
noncomputable def capt (scope : Scope) (m : Vars) : Vars := m.filter fun p => scope.names.lookup p.1 == some .free
noncomputable def closOf (env : Env) : List (Str × NameKind) → List (Str × Addr) → List (Str × Addr)
 | [], acc => acc
 | (n, k) :: r, acc => closOf env r (if k == .free then (match env.cells.lookup n with | some a => (n, a) :: acc | none => acc) else acc)
theorem closureFor_eq {scope : Scope} {env : Env} (h : ∀ x ∈ scope.names, x.2 = .free → ∃ a, env.cells.lookup x.1 = some a) : closureFor scope env = pure (closOf env scope.names []) := by
 unfold closureFor
 have : ∀ (names : List (Str × NameKind)) (acc : List (Str × Addr)), (∀ x ∈ names, x.2 = .free → ∃ a, env.cells.lookup x.1 = some a) →
   (forIn names acc fun x (r : List (Str × Addr)) => (if (x.2 == NameKind.free) = true then do let a ← cellOf env x.1; pure (ForInStep.yield ((x.1, a) :: r)) else pure (ForInStep.yield r) : Sem (ForInStep (List (Str × Addr))))) = pure (closOf env names acc) := by
  intro names
  induction names with
  | nil => intro acc _; rfl
  | cons x r ih =>
   intro acc hx
   rw [List.forIn_cons]
   obtain ⟨n, k⟩ := x
   unfold closOf
   by_cases hk : (k == NameKind.free) = true
   ·obtain ⟨a, ha⟩ := hx (n, k) List.mem_cons_self (by simpa using hk)
    have hc : cellOf env n = pure a := by unfold cellOf; rw [ha]
    simp only [hk, if_true, hc, ha]
    exact ih _ fun y hy => hx y (List.mem_cons_of_mem _ hy)
   ·simp only [hk, if_false, Bool.false_eq_true]
    exact ih _ fun y hy => hx y (List.mem_cons_of_mem _ hy)
 exact congrArg (fun t => t >>= fun cs => pure cs) (this scope.names [] h)
theorem closOf_lookup {env : Env} {x : Str} : ∀ (names : List (Str × NameKind)) (acc : List (Str × Addr)) {a : Addr}, (closOf env names acc).lookup x = some a → acc.lookup x = some a ∨ env.cells.lookup x = some a
 | [], acc, a, h => .inl h
 | (n, k) :: r, acc, a, h => by
  unfold closOf at h
  rcases closOf_lookup r _ h with h | h
  ·split at h
   ·split at h
    ·rename_i b hb
     rw [List.lookup_cons] at h
     by_cases q : (x == n) = true
     ·rw [q] at h; cases h; rw [beq_iff_eq.mp q]; exact .inr hb
     ·simp only [q] at h; exact .inl h
    ·exact .inl h
   ·exact .inl h
  ·exact .inr h
theorem closOf_has {env : Env} {x : Str} (hx : ∃ a, env.cells.lookup x = some a) : ∀ (names : List (Str × NameKind)) (acc : List (Str × Addr)), ((x, NameKind.free) ∈ names ∨ ∃ a, acc.lookup x = some a) → ∃ a, (closOf env names acc).lookup x = some a
 | [], acc, h => h.elim (fun h => nomatch h) id
 | (n, k) :: r, acc, h => by
  unfold closOf
  refine closOf_has hx r _ ?_
  rcases h with h | ⟨a, h⟩
  ·rcases List.mem_cons.mp h with e | h
   ·cases e
    obtain ⟨a, ha⟩ := hx
    refine .inr ⟨a, ?_⟩
    simp [ha]
   ·exact .inl h
  ·refine .inr ?_
   split
   ·split
    ·rw [List.lookup_cons]
     by_cases q : (x == n) = true
     ·exact ⟨_, by rw [q]⟩
     ·exact ⟨a, by simp only [q]; exact h⟩
    ·exact ⟨a, h⟩
   ·exact ⟨a, h⟩
theorem closOf_mem {env : Env} : ∀ (names : List (Str × NameKind)) (acc : List (Str × Addr)) {p : Str × Addr}, p ∈ closOf env names acc → p ∈ acc ∨ env.cells.lookup p.1 = some p.2
 | [], acc, p, h => .inl h
 | (n, k) :: r, acc, p, h => by
  unfold closOf at h
  rcases closOf_mem r _ h with h | h
  ·split at h
   ·split at h
    ·rename_i b hb
     rcases List.mem_cons.mp h with rfl | h
     ·exact .inr hb
     ·exact .inl h
    ·exact .inl h
   ·exact .inl h
  ·exact .inr h
theorem closOf_pair {env : Env} (hap : env.cells.Pairwise fun x y => x.2 ≠ y.2) : ∀ (names : List (Str × NameKind)) (acc : List (Str × Addr)), (names.map (·.1)).Nodup → (∀ p ∈ acc, p.1 ∉ names.map (·.1)) → (∀ p ∈ acc, env.cells.lookup p.1 = some p.2) →
  (acc.Pairwise fun x y => x.2 ≠ y.2) → (closOf env names acc).Pairwise fun x y => x.2 ≠ y.2
 | [], acc, _, _, _, h => h
 | (n, k) :: r, acc, nd, hd, hl, h => by
  simp only [List.map_cons, List.nodup_cons] at nd
  unfold closOf
  have hd' : ∀ p ∈ acc, p.1 ∉ r.map (·.1) := fun p hp z => hd p hp (List.mem_cons_of_mem _ z)
  split
  ·split
   ·rename_i b hb
    refine closOf_pair hap r _ nd.2 (fun p hp => ?_) (fun p hp => ?_) (List.pairwise_cons.mpr ⟨fun y hy z => ?_, h⟩)
    ·rcases List.mem_cons.mp hp with rfl | hp
     ·exact nd.1
     ·exact hd' p hp
    ·rcases List.mem_cons.mp hp with rfl | hp
     ·exact hb
     ·exact hl p hp
    ·have := name_of_addr hap (mem_of_lookup hb) (z ▸ mem_of_lookup (hl y hy))
     exact hd y hy (by rw [← this]; exact List.mem_cons_self)
   ·exact closOf_pair hap r _ nd.2 hd' hl h
  ·exact closOf_pair hap r _ nd.2 hd' hl h
theorem Fm.comp {env : Env} {m : Vars} {fr K : List Addr} {h : Heap} {scope : Scope} {C : Addr} (f : Fm env m fr K h) (hk : scope.kind = .function) (hC : C ∈ fr) (hns : h.Ns C fun _ => none) (hnd : (scope.names.map (·.1)).Nodup) (hcell : ∀ y ∈ scope.names, y.2 ≠ .cell)
  (hfree : ∀ y ∈ scope.names, y.2 = .free → ∃ a, env.cells.lookup y.1 = some a) (hCc : ∀ p ∈ env.cells, p.2 ≠ C) (hkind : ∀ x, scope.names.lookup x = some .free → env.kindOf x = some .cell ∨ env.kindOf x = some .free) : Fm (compEnvC scope (closOf env scope.names []) C env) (capt scope m) fr K h := by
 have look : ∀ x k, (relabel scope env).names.lookup x = some k → scope.names.lookup x = some k ∨ (k = .cell ∧ scope.names.lookup x = some .free) := by
  intro x k
  unfold relabel
  generalize scope.names = names
  induction names with
  | nil => intro h; cases h
  | cons y r ih =>
   obtain ⟨n, kk⟩ := y
   intro h
   simp only [List.map_cons] at h
   by_cases hc : (kk == NameKind.free && env.scope.kind == .function && env.kindOf n == some .cell) = true
   ·rw [if_pos hc] at h
    rw [List.lookup_cons] at h
    by_cases q : (x == n) = true
    ·rw [q] at h; cases h
     refine .inr ⟨rfl, ?_⟩
     rw [List.lookup_cons, q]
     simp only [Bool.and_eq_true, beq_iff_eq] at hc
     rw [hc.1.1]
    ·simp only [q] at h
     rcases ih h with z | z
     ·exact .inl (by rw [List.lookup_cons]; simp only [q]; exact z)
     ·exact .inr ⟨z.1, by rw [List.lookup_cons]; simp only [q]; exact z.2⟩
   ·rw [if_neg hc] at h
    rw [List.lookup_cons] at h
    by_cases q : (x == n) = true
    ·rw [q] at h; cases h; exact .inl (by rw [List.lookup_cons, q])
    ·simp only [q] at h
     rcases ih h with z | z
     ·exact .inl (by rw [List.lookup_cons]; simp only [q]; exact z)
     ·exact .inr ⟨z.1, by rw [List.lookup_cons]; simp only [q]; exact z.2⟩
 have capt_look : ∀ (l : Vars) x d, (capt scope l).lookup x = some d → l.lookup x = some d ∧ scope.names.lookup x = some .free := by
  intro l
  induction l with
  | nil => intro x d h; cases h
  | cons p r ih =>
   intro x d h
   obtain ⟨y, dy⟩ := p
   unfold capt at h
   rw [List.filter_cons] at h
   by_cases hf : (scope.names.lookup y == some NameKind.free) = true
   ·rw [if_pos hf, lookup_cons_eq] at h
    by_cases q : x = y
    ·subst q; rw [if_pos rfl] at h; cases h
     exact ⟨by rw [lookup_cons_eq, if_pos rfl], by simpa using hf⟩
    ·rw [if_neg q] at h
     have := ih x d h
     exact ⟨by rw [lookup_cons_eq, if_neg q]; exact this.1, this.2⟩
   ·rw [if_neg hf] at h
    have := ih x d h
    have q : x ≠ y := fun z => hf (by rw [← z, this.2]; rfl)
    exact ⟨by rw [lookup_cons_eq, if_neg q]; exact this.1, this.2⟩
 have notcell : ∀ x, scope.names.lookup x ≠ some .cell := fun x z => by
  have : (x, NameKind.cell) ∈ scope.names := by
   have : ∀ (l : List (Str × NameKind)), l.lookup x = some .cell → (x, NameKind.cell) ∈ l := by
    intro l
    induction l with
    | nil => intro h; cases h
    | cons p r ih =>
     obtain ⟨y, k⟩ := p
     intro h
     rw [List.lookup_cons] at h
     by_cases q : (x == y) = true
     ·rw [q] at h; cases h; rw [beq_iff_eq.mp q]; exact List.mem_cons_self
     ·simp only [q] at h; exact List.mem_cons_of_mem _ (ih h)
   exact this _ z
  exact hcell _ this rfl
 have memfree : ∀ x, scope.names.lookup x = some .free → (x, NameKind.free) ∈ scope.names := fun x z => by
  have : ∀ (l : List (Str × NameKind)), l.lookup x = some .free → (x, NameKind.free) ∈ l := by
   intro l
   induction l with
   | nil => intro h; cases h
   | cons p r ih =>
    obtain ⟨y, k⟩ := p
    intro h
    rw [List.lookup_cons] at h
    by_cases q : (x == y) = true
    ·rw [q] at h; cases h; rw [beq_iff_eq.mp q]; exact List.mem_cons_self
    ·simp only [q] at h; exact List.mem_cons_of_mem _ (ih h)
  exact this _ z
 have clmem : ∀ p ∈ closOf env scope.names [], env.cells.lookup p.1 = some p.2 := fun p hp => (closOf_mem _ _ hp).resolve_left (by simp)
 exact {
  kind := hk
  glob := f.glob
  bui := f.bui
  ns := ⟨_, hns, fun x d e k => by
   have h1 := (capt_look m x d e).2
   rcases look x .local k with z | z
   ·rw [h1] at z; cases z
   ·cases z.1⟩
  cell := fun x cc e => by
   have e' : env.cells.lookup x = some cc := (closOf_lookup _ _ e).resolve_left (by simp)
   obtain ⟨ov, hc, r⟩ := f.cell x cc e'
   refine ⟨ov, hc, fun d ed k => ?_⟩
   obtain ⟨h1, h2⟩ := capt_look m x d ed
   exact r d h1 (hkind x h2)
  has := fun x k => by
   have h2 : scope.names.lookup x = some .free := by
    rcases k with k | k
    ·rcases look x .cell k with z | z
     ·exact absurd z (notcell x)
     ·exact z.2
    ·rcases look x .free k with z | z
     ·exact z
     ·exact z.2
   have hm := memfree x h2
   exact closOf_has (hfree _ hm rfl) _ _ (.inl hm)
  inn := ⟨hC, fun p hp => f.inn.2 p (mem_of_lookup (clmem p hp))⟩
  apart := ⟨closOf_pair f.apart.1 _ _ hnd (by simp) (by simp) List.Pairwise.nil, fun p hp => hCc p (mem_of_lookup (clmem p hp))⟩ }
end Mine
namespace Mine
open PySem PySem.Calls PyProof.Rows
noncomputable abbrev NoX : Addr → Sto → Prop := fun _ _ => False
theorem Ex.no {c : Cx} {A : Around} {G : Option Env} {fr : List Addr} {σ : Sto} {s s' : Shared} {t : Bool} {v : Value} (x : Ex c A G fr σ s t NoX v s') : False := by
 obtain ⟨e, C, σ2, ex, _, _, _, _, _, _, hx⟩ := x; exact hx
section
variable {c : Cx} {A : Around} {fr : List Addr} {σ : Sto} {X : Addr → Sto → Prop} {env : Env} {m : Vars}
noncomputable def WIfs (c : Cx) (A : Around) (fr : List Addr) (env : Env) (m : Vars) (σ : Sto) (ifs : List Expr) (Q : Bool → Sto → Prop) (X : Addr → Sto → Prop) : Prop :=
 ∀ s, Ok c A fr σ s.heap → Fm env m fr (keys σ ++ fr) s.heap → W c A none fr σ (forIn ifs true fun c r => if r = true then do let ok ← isTrue c env (eval c env); pure (ForInStep.yield ok) else pure (ForInStep.yield r)) RB Q X s
theorem WIfs.nil {Q : Bool → Sto → Prop} (h : Q true σ) : WIfs c A fr env m σ [] Q X := fun s ok fm => wpAny_tests_nil ⟨true, σ, Post.refl .., ok, rfl, h⟩
theorem WIfs.one {e : Expr} {Q : Bool → Sto → Prop} (h : WT c A fr env m σ e Q X) : WIfs c A fr env m σ [e] Q X := fun s ok fm => wpAny_tests_one (h s ok fm)
theorem Fm.sub {env : Env} {m m' : Vars} {fr K : List Addr} {h : Heap} (f : Fm env m fr K h) (hs : ∀ x d, m'.lookup x = some d → m.lookup x = some d) : Fm env m' fr K h where
 kind := f.kind
 glob := f.glob
 bui := f.bui
 ns := by obtain ⟨mv, hn, r⟩ := f.ns; exact ⟨mv, hn, fun x d e k => r x d (hs x d e) k⟩
 cell := fun x cc e => by obtain ⟨ov, hc, r⟩ := f.cell x cc e; exact ⟨ov, hc, fun d e k => r d (hs x d e) k⟩
 has := f.has
 inn := f.inn
 apart := f.apart
theorem lookup_append_none {x : Str} : ∀ {a b : Vars}, (∀ p ∈ a, p.1 ≠ x) → (a ++ b).lookup x = b.lookup x
 | [], _, _ => rfl
 | (y, d) :: r, b, h => by
  rw [List.cons_append, lookup_cons_eq, if_neg (fun z => h _ List.mem_cons_self z.symm)]
  exact lookup_append_none fun p hp => h p (List.mem_cons_of_mem _ hp)
theorem capt_free {scope : Scope} {x : Str} {d : D} : ∀ {m : Vars}, (capt scope m).lookup x = some d → scope.names.lookup x = some .free
 | [], h => by cases h
 | (y, dy) :: r, h => by
  unfold capt at h
  rw [List.filter_cons] at h
  by_cases hf : (scope.names.lookup y == some NameKind.free) = true
  ·rw [if_pos hf, lookup_cons_eq] at h
   by_cases q : x = y
   ·subst q; simpa using hf
   ·rw [if_neg q] at h; exact capt_free (m := r) h
  ·rw [if_neg hf] at h; exact capt_free (m := r) h
structure FinC (c : Cx) (A : Around) (fr : List Addr) (σ : Sto) (s s' : Shared) (σ' : Sto) (ds : List D) (a C : Addr) : Prop where
 post : Post [] fr σ s s' σ'
 ok : Ok c A ([C, a] ++ fr) σ' s'.heap
 list : ∃ vs n, s'.heap.get? a = some (lstObj vs n) ∧ Vs (keys σ' ++ ([C, a] ++ fr)) s'.heap ds vs
 newa : s.heap.get? a = none
 newC : s.heap.get? C = none
 ns : ∃ m', s'.heap.Ns C m'
 frames : ∀ l, A.frames = some l → ∀ b ∈ l.filterMap (·.frame), b ∈ fr
theorem lookup_mem : ∀ {l : List (Str × NameKind)}, (l.map (·.1)).Nodup → ∀ x ∈ l, l.lookup x.1 = some x.2
 | y :: r, nd, x, hx => by
  simp only [List.map_cons, List.nodup_cons] at nd
  rcases List.mem_cons.mp hx with rfl | hx2
  ·obtain ⟨a, b⟩ := x; simp [List.lookup_cons]
  ·obtain ⟨ya, yb⟩ := y
   rw [List.lookup_cons]
   have : (x.1 == ya) = false := by
    simp only [beq_eq_false_iff_ne, ne_eq]
    intro z; exact nd.1 (List.mem_map.mpr ⟨x, hx2, z⟩)
   rw [this]; exact lookup_mem nd.2 x hx2
theorem free_mem {x : Str} : ∀ {l : List (Str × NameKind)}, l.lookup x = some .free → (x, NameKind.free) ∈ l
 | (y, k) :: r, h => by
  rw [List.lookup_cons] at h
  by_cases q : (x == y) = true
  ·rw [q] at h; cases h; rw [beq_iff_eq.mp q]; exact List.mem_cons_self
  ·simp only [q] at h; exact List.mem_cons_of_mem _ (free_mem h)
theorem Ok.swap {xs ys : List Addr} {h : Heap} (o : Ok c A (xs ++ (ys ++ fr)) σ h) : Ok c A (ys ++ (xs ++ fr)) σ h := by
 have hf : ∀ a, a ∈ xs ++ (ys ++ fr) ↔ a ∈ ys ++ (xs ++ fr) := fun a => by simp only [List.mem_append]; exact or_left_comm
 have hm : ∀ a, a ∈ keys σ ++ (xs ++ (ys ++ fr)) ↔ a ∈ keys σ ++ (ys ++ (xs ++ fr)) := fun a => List.mem_append.trans ((or_congr_right (hf a)).trans List.mem_append.symm)
 exact {
  base := o.base
  sto := fun p hp => IsO.move (K := keys σ ++ (xs ++ (ys ++ fr))) (fun _ _ _ e => e) (fun a ha => .inl ((hm a).mpr ha)) (fun _ e => e) (o.sto p hp)
  nd := by
   refine (List.Perm.nodup_iff ?_).mp o.nd
   refine List.Perm.append_left _ ?_
   rw [← List.append_assoc, ← List.append_assoc]
   exact List.Perm.append_right _ List.perm_append_comm
  new := fun a ha => o.new a ((hm a).mpr ha)
  live := fun a ha => o.live a ((hf a).mpr ha)
  stack := by
   obtain ⟨l, a1, a2, a3, a4⟩ := o.stack
   exact ⟨l, a1, a2, fun b hb => (hf b).mp (a3 b hb), a4⟩ }
theorem Fm.carry {K K' : List Addr} {h h' : Heap} (f : Fm env m fr K h) (keep : ∀ b ∈ Fa env, ∀ o, h.get? b = some o → h'.get? b = some o) (st : Stay K h h') (le : Less K K' h) : Fm env m fr K' h' where
 kind := f.kind
 glob := f.glob
 bui := f.bui
 ns := by
  obtain ⟨mv, ⟨o, es, ep, g, r⟩, q⟩ := f.ns
  exact ⟨mv, ⟨o, es, ep, keep _ List.mem_cons_self _ g, r⟩, fun x d e k => by obtain ⟨v, a, b⟩ := q x d e k; exact ⟨v, a, V.move st le _ _ b⟩⟩
 cell := fun x cc e => by
  obtain ⟨ov, ⟨o, g, r⟩, q⟩ := f.cell x cc e
  exact ⟨ov, ⟨o, keep _ (List.mem_cons_of_mem _ (List.mem_map_of_mem (f := (·.2)) (mem_of_lookup e))) _ g, r⟩, fun d e k => by obtain ⟨v, a, b⟩ := q d e k; exact ⟨v, a, V.move st le _ _ b⟩⟩
 has := f.has
 inn := f.inn
 apart := f.apart
theorem Post.same {F : List Addr} {s s' : Shared} {σ' : Sto} (p : Post F fr σ s s' σ') {b : Addr} {o : Obj} (hb : b ∈ fr) (hF : b ∉ F) (hn : ∀ es n, o.data ≠ .dict es n) (g : s.heap.get? b = some o) : s'.heap.get? b = some o := by
 obtain ⟨sl, e1, r1⟩ := p.slots b _ hb hF g
 have := r1 hn
 subst this; exact e1
set_option maxHeartbeats 1000000 in
inductive Turns (c : Cx) (A : Around) (env : Env) (m : Vars) (scope : Scope) (ifs : List Expr) (elt : Expr) (Z : List D → Sto → Prop) (vals : List Vars) (Inv : Sto → Prop) (σ1 : Sto) : Prop
 | mk (hk : ∀ x ∈ vals, ∀ y ∈ x, scope.names.lookup y.1 = some .local) (L : Nat → List D → Sto → Prop) (h0 : L 0 [] σ1) (hinv : ∀ k ds σ', L k ds σ' → Inv σ' ∧ ds.length ≤ sizeLine)
   (step : ∀ k x ds σ', vals[k]? = some x → L k ds σ' → ∀ fr' cenv, cenv.scope = relab scope env.scope → WIfs c A fr' cenv (x ++ capt scope m) σ' ifs (fun b σ2 => if b = true then WE c A fr' cenv (x ++ capt scope m) σ2 elt (fun d σ3 => L (k + 1) (ds ++ [d]) σ3) NoX else L (k + 1) ds σ2) NoX)
   (fin : ∀ ds σ', L vals.length ds σ' → Z ds σ') : Turns c A env m scope ifs elt Z vals Inv σ1
inductive CompI (c : Cx) (A : Around) (frw F : List Addr) (σ1 : Sto) (s3 : Shared) (cenv : Env) (m0 : Vars) (n : Nat) (L : Nat → List D → Sto → Prop) (St : Nat → List Addr → Heap → Prop) (a : Addr) (k : Nat) (s' : Shared) : Prop
 | mk (i : Nat) (ds : List D) (σ' : Sto) (vs : List Value) (j : Nat) (e : k = n + 1 - i) (hi : i ≤ n) (hL : L i ds σ') (pp : Post F frw σ1 s3 s' σ') (ok : Ok c A frw σ' s'.heap) (fm : Fm cenv m0 frw (keys σ' ++ frw) s'.heap) (st : St i (keys σ' ++ frw) s'.heap) (g : s'.heap.get? a = some (lstObj vs j)) (v : Vs (keys σ' ++ frw) s'.heap ds vs) : CompI c A frw F σ1 s3 cenv m0 n L St a k s'
theorem comp_core {tg iter elt : Expr} {ifs : List Expr} {scope : Scope} {pos p : Pos} {use : Option (Value → Sem Unit)} {Q : Value → Shared → Prop} {E : Value → Shared → Prop} {s : Shared} (ok : Ok c A fr σ s.heap) (fm : Fm env m fr (keys σ ++ fr) s.heap)
  (hkS : scope.kind = .function) (hnd : (scope.names.map (·.1)).Nodup) (hcell : ∀ y ∈ scope.names, y.2 ≠ .cell) (hfree : ∀ y ∈ scope.names, y.2 = .free → env.kindOf y.1 = some .cell ∨ env.kindOf y.1 = some .free)
  (hE : ∀ v s', Ex c A none fr σ s false X v s' → E v s')
  {Z : List D → Sto → Prop}
  (h : WIt c A fr env m σ iter tg (Turns c A env m scope ifs elt Z) X)
  (hend : ∀ s' σ' ds a C, FinC c A fr σ s s' σ' ds a C → Z ds σ' → compPost (model c.prog c.w) A E use Q (.ref a) C (.ok .next) s')
  (hs : ∀ x, foldedSetIterable iter env x = pure x := by intro _; rfl) :
  wpAny (model c.prog c.w) A (comprehension (.ListComp elt [⟨tg, iter, ifs, 0⟩] scope pos) scope env p (newList []) false (eval iter env) use) Q E s := by
 have hin := ok.frames_in
 have hfree' : ∀ y ∈ scope.names, y.2 = .free → ∃ a, env.cells.lookup y.1 = some a := fun y hy hf => fm.has y.1 (hfree y hy hf)
 have hnames : ∀ x ∈ scope.names, x.2 = .local → scope.names.lookup x.1 = some .local := fun x hx hl => hl ▸ lookup_mem hnd x hx
 refine wpAny_comprehension_free (use := use) rfl hs (closureFor_eq hfree') hkS hnames (wpAny_mono (h s ok fm) (fun xv s1 h1 => wpAny_mono h1 (fun it s2 h2 => ?_) fun _ _ x => hE _ _ x) fun _ _ x => hE _ _ x)
 obtain ⟨I, wr, vals, Inv, St, Mid, σ1, rfl, p1, ok1, okw, hn, fmw, src, st0, inv0, hkinds, L, L0, LI, Lturn, Lend⟩ := h2
 refine wpAny_newObj_type (wpAny_newFunctionEnv hcell (by intro y hy; simp at hy) (fun h3 hns3 hsb3 => ?_) hkS)
 dsimp only at hns3 hsb3 ⊢
 generalize hD : s2.heap.objs.size = D at hns3 hsb3 ⊢
 generalize hH2 : s2.heap.push { cls := .type "list", dict := none, data := .seq ([] : List Value).toArray } = H2 at hns3 hsb3 ⊢
 have hCs : H2.objs.size = D + 1 := by rw [← hH2, Heap.size_push, hD]
 generalize hC : H2.objs.size = C at hns3 hsb3 hCs ⊢
 have hCD : C ≠ D := by rw [hCs]; exact Nat.succ_ne_self D
 have keep23 : ∀ b o, s2.heap.get? b = some o → h3.get? b = some o := fun b o e => by
  have hb : b < D := hD ▸ Heap.lt_size e
  refine hsb3.extBut b o (fun z => ?_) (Heap.get?_push_of_some _ (hH2 ▸ Heap.get?_push_of_some _ e))
  rw [z, hCs] at hb; exact Nat.lt_irrefl _ (Nat.lt_of_succ_lt hb)
 have noneD : s2.heap.get? D = none := none_of_ge (Nat.le_of_eq hD)
 have noneC : s2.heap.get? C = none := none_of_ge (by rw [hD, hCs]; exact Nat.le_succ D)
 have accD : h3.get? D = some (lstObj [] 0) := hsb3.extBut _ _ (Ne.symm hCD) (Heap.get?_push_of_some _ (by rw [← hH2, ← hD]; exact Heap.get?_push_size _ rfl))
 obtain ⟨oC, esC, epC, gC, dC, _⟩ := id hns3
 have okCD : Ok c A ([C, D] ++ (wr ++ fr)) σ1 h3 := okw.more keep23 (fun a ha => by
  rcases List.mem_cons.mp ha with rfl | ha
  ·exact noneC
  ·rw [List.mem_singleton.mp ha]; exact noneD) (fun a ha => by
  rcases List.mem_cons.mp ha with rfl | ha
  ·exact ⟨_, gC⟩
  ·rw [List.mem_singleton.mp ha]; exact ⟨_, accD⟩) (by simp [hCD])
 have okL : Ok c A (wr ++ ([C, D] ++ fr)) σ1 h3 := okCD.swap
 have lessCD : Less (keys σ1 ++ (wr ++ fr)) (keys σ1 ++ (wr ++ ([C, D] ++ fr))) s2.heap := fun a ha => by
  rcases List.mem_append.mp ha with z | z
  ·exact .inl (List.mem_append_left _ z)
  ·rcases List.mem_append.mp z with z | z
   ·exact .inl (List.mem_append_right _ (List.mem_append_left _ z))
   ·rcases List.mem_append.mp z with z | z
    ·rcases List.mem_cons.mp z with rfl | z
     ·exact .inr noneC
     ·rw [List.mem_singleton.mp z]; exact .inr noneD
    ·exact .inl (List.mem_append_right _ (List.mem_append_right _ z))
 have stay23 : Stay (keys σ1 ++ (wr ++ fr)) s2.heap h3 := fun b o _ e => keep23 b o e
 have fm3 : Fm env m (wr ++ ([C, D] ++ fr)) (keys σ1 ++ (wr ++ ([C, D] ++ fr))) h3 := by
  have fb : Fm env m (wr ++ fr) (keys σ1 ++ (wr ++ ([C, D] ++ fr))) h3 := fmw.carry (fun b _ o e => keep23 b o e) stay23 lessCD
  exact fb.shift ⟨List.mem_append_right _ (List.mem_append_right _ fm.inn.1), fun q hq => List.mem_append_right _ (List.mem_append_right _ (fm.inn.2 q hq))⟩ (fun a ha => .inl ha)
 have hCcell : ∀ q ∈ env.cells, q.2 ≠ C := fun q hq z => by
  obtain ⟨o, e⟩ := ok1.live q.2 (fm.inn.2 q hq)
  rw [z, noneC] at e; cases e
 have hnsC : h3.Ns C fun _ => none := by simpa using hns3
 have fmC := fm3.comp (C := C) hkS (by simp) hnsC hnd hcell hfree' hCcell (fun x hx => by
  exact hfree _ (free_mem hx) rfl)
 have st3 : St 0 (keys σ1 ++ (wr ++ ([C, D] ++ fr))) h3 := src.move _ _ _ _ _ st0 stay23 (fun b _ o e => keep23 b o e) lessCD
 have hnS : ∀ a ∈ wr ++ [C, D], s.heap.get? a = none := fun a ha => by
  rcases List.mem_append.mp ha with z | z
  ·exact hn a z
  ·refine none_back p1 ?_
   rcases List.mem_cons.mp z with rfl | z
   ·exact noneC
   ·rw [List.mem_singleton.mp z]; exact noneD
 generalize hce : compEnvC scope (closOf env scope.names []) C env = cenv at fmC
 have ce1 : cenv.scope = relab scope env.scope := by rw [← hce]; rfl
 have ce2 : cenv.locals = C := by rw [← hce]; rfl
 have ceq : ({ newEnv scope C env.globals (closOf env scope.names []) env.qual none Value.none (some env) builtinsNs with scope := relabel scope env } : Env) = cenv := by rw [← hce]; rfl
 have kindL : ∀ x, scope.names.lookup x = some .local → cenv.kindOf x = some .local := fun x hx => by rw [← hce]; exact lookup_relabel_local hx
 have loop : ∀ s3 : Shared, s3 = { s2 with heap := h3, toks := s2.toks + ([] : List (Str × Value)).length } →
   codeAny (model c.prog c.w) A (.compLoop (.ListComp elt [⟨tg, iter, ifs, 0⟩] scope pos) 0 (.ref I) (.ref D) cenv) (compPost (model c.prog c.w) A E use Q (.ref D) C) s3 := by
  rintro s3 rfl
  generalize hs3 : ({ s2 with heap := h3, toks := s2.toks + ([] : List (Str × Value)).length } : Shared) = s3
  have h3e : s3.heap = h3 := by rw [← hs3]
  have p13 : Post [] fr σ s s3 σ1 := p1.trans (by rw [← hs3]; exact Post.keeps keep23)
  have ndw := okL.nd
  rw [List.nodup_append, List.nodup_append] at ndw
  have nfw : ∀ a ∈ [C, D] ++ fr, a ∉ wr := fun a ha hw => ndw.2.1.2.2 a hw a ha rfl
  have cin : cenv.locals ∈ [C, D] ++ fr ∧ ∀ q ∈ cenv.cells, q.2 ∈ [C, D] ++ fr := by
   refine ⟨by rw [ce2]; simp, fun q hq => ?_⟩
   rw [← hce] at hq
   have := (closOf_mem _ _ hq).resolve_left (by simp)
   exact List.mem_append_right _ (fm.inn.2 q (mem_of_lookup this))
  have cloc : cenv.locals ∉ wr ∧ ∀ q ∈ cenv.cells, q.2 ∉ wr := ⟨nfw _ cin.1, fun q hq => nfw _ (cin.2 q hq)⟩
  have hDfa : D ∉ Fa cenv := fun z => by
   rcases List.mem_cons.mp z with z | z
   ·exact hCD (z ▸ ce2).symm
   ·obtain ⟨q, hq, e⟩ := List.mem_map.mp z
    rw [← hce] at hq
    have := (closOf_mem _ _ hq).resolve_left (by simp)
    obtain ⟨o, g⟩ := ok1.live q.2 (fm.inn.2 q (mem_of_lookup this))
    rw [e, noneD] at g; cases g
  have hDwr : D ∉ wr := nfw D (by simp)
  have hcapt : ∀ (x : Vars), (∀ y ∈ x, scope.names.lookup y.1 = some .local) → ∀ z d, (capt scope m).lookup z = some d → (x ++ capt scope m).lookup z = some d := fun x hx z d e => by
   have hf := capt_free e
   rw [lookup_append_none (fun p hp q => by rw [← q, hx p hp] at hf; cases hf)]; exact e
  refine codeAny_compLoopT (CompI c A (wr ++ ([C, D] ++ fr)) (wr ++ [C, D]) σ1 s3 cenv (capt scope m) vals.length L St D)
   ?_ (vals.length + 1) ⟨0, [], σ1, [], 0, rfl, Nat.zero_le _, L0, Post.refl .., h3e ▸ okL, h3e ▸ fmC, h3e ▸ st3, h3e ▸ accD, Vs.nil⟩
  rintro k s' ⟨i, ds, σ', vs, n, rfl, hi, hL, pp, okk, fmk, stk, gD, vD⟩
  by_cases hlt : i < vals.length
  ·obtain ⟨x, hx⟩ : ∃ x, vals[i]? = some x := ⟨vals[i], by simp [hlt]⟩
   have hxl := hkinds x (List.mem_of_getElem? hx)
   refine src.next i σ' ([C, D] ++ fr) s' _ _ hlt okk stk (LI _ _ _ hL).1 fun v h' tk hmid how => ?_
   have ok' : Ok c A (wr ++ ([C, D] ++ fr)) σ' h' := okk.ow (src.nodict _ _ _ stk) how
   have fm' : Fm cenv (capt scope m) (wr ++ ([C, D] ++ fr)) (keys σ' ++ (wr ++ ([C, D] ++ fr))) h' := fmk.ow (fun b hb => List.mem_append_right _ (List.mem_append_left _ hb)) cloc how
   have wide : ∀ a ∈ wr ++ [C], a ∈ wr ++ [C, D] := fun a ha => by
    rcases List.mem_append.mp ha with z | z
    ·exact List.mem_append_left _ z
    ·exact List.mem_append_right _ (List.mem_singleton.mp z ▸ List.mem_cons_self)
   have pp' := pp.trans ((Post.ow (F := [C]) (fr := [C, D] ++ fr) (σ := σ') (tk := tk) how).wide wide)
   have gD' : h'.get? D = some (lstObj vs n) := how.kept _ _ hDwr gD
   have stK : Stay (keys σ' ++ (wr ++ ([C, D] ++ fr))) s'.heap h' := fun b o nb e => how.kept b o (fun z => nb (List.mem_append_right _ (List.mem_append_left _ z))) e
   have vD' : Vs (keys σ' ++ (wr ++ ([C, D] ++ fr))) h' ds vs := Vs.move stK (fun a ha => .inl ha) _ _ vD
   refine src.put i σ' ([C, D] ++ fr) [C] cenv (capt scope m) v { s' with heap := h', toks := tk } _ _ x hx hmid ok' fm' cin (fun y hy => .inl (kindL _ (hxl y hy))) ⟨by rw [ce2]; simp, fun y hy k => by rw [kindL _ (hxl y hy)] at k; cases k⟩ (src.midnd _ _ _ _ hmid) fun h4 tk4 st4 fm4 ok4 p4 => ?_
   have pp4 := pp'.trans (p4.wide wide)
   have gD4 : h4.get? D = some (lstObj vs n) := p4.same (by simp) (fun z => (List.mem_append.mp z).elim hDwr fun z => hCD (List.mem_singleton.mp z).symm) (fun es nn q => by cases q) gD'
   have vD4 := p4.vs vD'
   have fm4' := fm4.sub (m' := x ++ capt scope m) fun z d e => e
   refine wpAny_mono (Lturn i x ds σ' hx hL _ cenv ce1 _ ok4 fm4') (fun b s5 hx5 => ?_) fun _ _ y => y.no
   obtain ⟨b', σ5, p5, ok5, rfl, q5⟩ := hx5
   have fm5 : Fm cenv (x ++ capt scope m) (wr ++ ([C, D] ++ fr)) (keys σ5 ++ (wr ++ ([C, D] ++ fr))) s5.heap := Fm.move (s := { s' with heap := h4, toks := tk4 }) fm4' p5
   have pp5 := pp4.trans (p5.wide (F' := wr ++ [C, D]) (by simp))
   have hDin : D ∈ wr ++ ([C, D] ++ fr) := by simp
   have gD5 : s5.heap.get? D = some (lstObj vs n) := p5.same hDin (List.not_mem_nil) (fun es nn q => by cases q) gD4
   have vD5 := p5.vs vD4
   have st5 : St (i + 1) (keys σ5 ++ (wr ++ ([C, D] ++ fr))) s5.heap := src.move _ _ _ _ _ st4 p5.stay (fun b hb o g => p5.same (List.mem_append_left _ hb) List.not_mem_nil (src.nodict _ _ _ st4 b hb o g) g) p5.less
   cases b with
   | false =>
    simp only [Bool.false_eq_true, if_false] at q5 ⊢
    exact ⟨vals.length + 1 - (i + 1), by exact Nat.not_le.mp fun qz => lin [_,_,_,_] [] [(1,.nl (.v 0) (.v 1)),(1,.nl (.a (.v 2) (.n 1)) (.a (.v 0) (.v 3))),(1,.ne (.a (.v 1) (.a (.v 3) (.n 1))) (.a (.v 2) (.n 1)))] rfl qz (Nat.sub_le_iff_le_add.mp (Nat.le_refl _)) (Nat.sub_add_cancel (Nat.not_lt.mp fun qz => lin [_,_] [] [(1,.nt (.a (.v 0) (.n 1)) (.a (.v 1) (.n 1))),(1,.nt (.v 1) (.v 0))] rfl qz hlt)), i + 1, ds, σ5, vs, n, rfl, hlt, q5, pp5, ok5, fm5.sub (hcapt x hxl), st5, gD5, vD5⟩
   | true =>
    simp only [if_true] at q5 ⊢
    refine wpAny_mono (q5 s5 ok5 fm5) (fun y s6 hx6 => ?_) fun _ _ y => y.no
    obtain ⟨d, σ6, p6, ok6, v6, q6⟩ := hx6
    have fm6 := fm5.move p6
    have pp6 := pp5.trans (p6.wide (F' := wr ++ [C, D]) (by simp))
    have gD6 : s6.heap.get? D = some (lstObj vs n) := p6.same hDin List.not_mem_nil (fun es nn q => by cases q) gD5
    have vD6 := p6.vs vD5
    have st6 : St (i + 1) (keys σ6 ++ (wr ++ ([C, D] ++ fr))) s6.heap := src.move _ _ _ _ _ st5 p6.stay (fun b hb o g => p6.same (List.mem_append_left _ hb) List.not_mem_nil (src.nodict _ _ _ st5 b hb o g) g) p6.less
    have hlen : vs.length ≤ sizeLine := by rw [vD.length]; exact (LI _ _ _ hL).2
    refine wpAny_list_append_plain (hsz := by simpa using hlen) ⟨n, gD6⟩ fun h7 pl7 sb7 => ?_
    obtain ⟨n7, g7⟩ := pl7
    have g7' : h7.get? D = some (lstObj (vs ++ [y]) n7) := by simpa [lstObj] using g7
    have ok7 : Ok c A (wr ++ ([C, D] ++ fr)) σ6 h7 := ok6.turn hDin sb7 g7' (by intro vs q; cases q) (fun ⟨o, es, nn, g, r⟩ => by rw [gD6] at g; cases g; cases r)
    have st67 : Stay (keys σ6 ++ (wr ++ ([C, D] ++ fr))) s6.heap h7 := fun b o nb e => (sb7.2 b fun (z : b = D) => nb (by rw [z]; exact List.mem_append_right _ hDin)).trans e
    have pp7 : Post (wr ++ [C, D]) (wr ++ ([C, D] ++ fr)) σ6 s6 { s6 with heap := h7 } σ6 := {
     shape := ⟨h7, s6.toks, rfl⟩
     kept := fun b o nb e => st67 b o nb e
     slots := fun b o hb nf e => ⟨o.slots, (sb7.2 b fun z => nf (z ▸ by simp)).trans e, fun _ => rfl⟩
     alive := fun b o e => by
      by_cases z : b = D
      ·subst z; exact ⟨_, g7'⟩
      ·exact ⟨o, (sb7.2 b z).trans e⟩
     grow := fun _ h => .inl h }
    have fm7 : Fm cenv (x ++ capt scope m) (wr ++ ([C, D] ++ fr)) (keys σ6 ++ (wr ++ ([C, D] ++ fr))) h7 := fm6.carry (fun b hb o e => (sb7.2 b fun z => hDfa (z ▸ hb)).trans e) st67 fun a ha => .inl ha
    refine ⟨vals.length + 1 - (i + 1), by omega, i + 1, ds ++ [d], σ6, vs ++ [y], n7, rfl, hlt, q6, pp6.trans pp7, ok7, fm7.sub (hcapt x hxl), ?_, g7', ?_⟩
    ·exact src.move _ _ _ _ _ st6 st67 (fun b hb o e => (sb7.2 b fun z => hDwr (z ▸ hb)).trans e) (fun a ha => .inl ha)
    ·exact (Vs.move st67 (fun a ha => .inl ha) _ _ vD6).snoc (V.move st67 (fun a ha => .inl ha) _ _ v6)
  ·obtain rfl : i = vals.length := by exact Nat.le_antisymm (Nat.not_lt.mp fun qz => lin [_,_] [] [(1,.nt (.v 0) (.v 1)),(1,.nl (.v 1) (.v 0))] rfl qz hi) (Nat.not_lt.mp fun qz => lin [_,_] [] [(1,.nt (.v 0) (.v 1)),(1,.nl (.v 1) (.v 0))] rfl qz (Nat.not_lt.mp hlt))
   refine src.done σ' ([C, D] ++ fr) s' _ _ okk stk (LI _ _ _ hL).1 fun h' tk hk => ?_
   have hin' : ∀ l, A.frames = some l → ∀ b ∈ l.filterMap (·.frame), b ∈ [C, D] ++ fr := fun l hl b hb => List.mem_append_right _ (hin l hl b hb)
   have okf : Ok c A ([C, D] ++ fr) σ' h' := okk.fin hin' hk
   have stf : Stay (keys σ' ++ (wr ++ ([C, D] ++ fr))) s'.heap h' := fun b o nb e => hk b o (fun z => nb (List.mem_append_right _ (List.mem_append_left _ z))) e
   refine hend _ σ' ds D C { post := ?_, ok := okf, list := ⟨vs, n, hk _ _ hDwr gD, Vs.move stf (less_drop _ _) _ _ vD⟩, newa := hnS D (by simp), newC := hnS C (by simp), ns := ?_, frames := hin } (Lend _ _ hL)
   ·have pd : Post [] fr σ s s' σ' := by
     refine Post.drop (wr := wr ++ [C, D]) p13 hnS ?_
     have e1 : (wr ++ [C, D]) ++ fr = wr ++ ([C, D] ++ fr) := by simp
     rw [e1]
     exact ⟨pp.shape, pp.kept, fun b o hb nf e => pp.slots b o hb (fun q => nf (by simpa using q)) e, pp.alive, pp.grow⟩
    exact pd.fin (wr := wr) hn (fun a ha => nfw a (List.mem_append_right _ ha)) hk
   ·obtain ⟨mv, ⟨o, es, ep, g, r⟩, _⟩ := fmk.ns
    rw [ce2] at g
    exact ⟨mv, o, es, ep, hk _ _ (ce2 ▸ cloc.1) g, r⟩
 show codeAny (model c.prog c.w) A (.compStart (.ListComp elt [⟨tg, iter, ifs, 0⟩] scope pos) 0 (.ref I) (.ref D) { newEnv scope C env.globals (closOf env scope.names []) env.qual none Value.none (some env) builtinsNs with scope := relabel scope env }) _ _
 rw [ceq]
 exact codeAny_compStart_list (loop _ rfl) (src.self 0 _ _ _ _ st3 (loop _ rfl))
end
end Mine
namespace Mine
open PySem PySem.Calls PyProof.Rows
theorem Fm.fin {env : Env} {m : Vars} {fr wr : List Addr} {σ : Sto} {h h' : Heap} (f : Fm env m (wr ++ fr) (keys σ ++ (wr ++ fr)) h) (hi : env.locals ∈ fr ∧ ∀ p ∈ env.cells, p.2 ∈ fr) (hn : env.locals ∉ wr ∧ ∀ p ∈ env.cells, p.2 ∉ wr) (k : ∀ b o, b ∉ wr → h.get? b = some o → h'.get? b = some o) : Fm env m fr (keys σ ++ fr) h' := by
 have st : Stay (keys σ ++ (wr ++ fr)) h h' := fun b o n e => k b o (fun z => n (List.mem_append_right _ (List.mem_append_left _ z))) e
 exact {
  kind := f.kind
  glob := f.glob
  bui := f.bui
  ns := by
   obtain ⟨mv, ⟨o, es, ep, g, r⟩, q⟩ := f.ns
   exact ⟨mv, ⟨o, es, ep, k _ _ hn.1 g, r⟩, fun x d e k => by obtain ⟨v, a, b⟩ := q x d e k; exact ⟨v, a, V.move st (less_drop _ _) _ _ b⟩⟩
  cell := fun x cc e => by
   obtain ⟨ov, ⟨o, g, r⟩, q⟩ := f.cell x cc e
   exact ⟨ov, ⟨o, k _ _ (hn.2 _ (mem_of_lookup e)) g, r⟩, fun d e k => by obtain ⟨v, a, b⟩ := q d e k; exact ⟨v, a, V.move st (less_drop _ _) _ _ b⟩⟩
  has := f.has
  inn := hi
  apart := f.apart }
theorem Ok.ref {c : Cx} {A : Around} {fr : List Addr} {σ : Sto} {h : Heap} {a : Addr} {ds : List D} {vs : List Value} {n : Nat} (ok : Ok c A ([a] ++ fr) σ h) (hin : ∀ l, A.frames = some l → ∀ b ∈ l.filterMap (·.frame), b ∈ fr) (g : h.get? a = some (lstObj vs n)) (hv : Vs (keys σ ++ ([a] ++ fr)) h ds vs) : Ok c A fr ((a, .lst ds) :: σ) h := by
 have mem : ∀ b, b ∈ keys ((a, O.lst ds) :: σ) ++ fr ↔ b ∈ keys σ ++ ([a] ++ fr) := fun b => by
  simp only [keys, List.map_cons, List.cons_append, List.mem_cons, List.mem_append, List.nil_append]
  constructor <;> (intro z; rcases z with z | z | z <;> simp [z])
 have nd := ok.nd
 have ok1 : Ok c A fr σ h := Ok.less (ex := []) (wr := [a]) ok hin
 exact {
  base := ok.base
  sto := fun p hp => by
   rcases List.mem_cons.mp hp with rfl | hp
   ·exact ⟨vs, n, g, Vs.move (fun _ _ _ e => e) (fun b hb => .inl ((mem b).mp hb)) _ _ hv⟩
   ·exact IsO.move (fun _ _ _ e => e) (fun b hb => .inl ((mem b).mp hb)) (fun _ e => e) (ok.sto p hp)
  nd := by
   refine (List.Perm.nodup_iff ?_).mp nd
   show (keys σ ++ ([a] ++ fr)).Perm (a :: (keys σ ++ fr))
   simp
  new := fun b hb => ok.new b ((mem b).mp hb)
  live := ok1.live
  stack := ok1.stack }
section
variable {c : Cx} {A : Around} {fr : List Addr} {σ : Sto} {X : Addr → Sto → Prop} {env : Env} {m : Vars}
noncomputable def QL (Q : D → Sto → Prop) (ds : List D) (σ : Sto) : Prop := Q (.lst ds) σ ∨ ∀ a, a ∉ keys σ → Q (.ref a) ((a, .lst ds) :: σ)
theorem QL.use {G : Option Env} {Q : D → Sto → Prop} {ds : List D} {σ' : Sto} {s s' : Shared} {a : Addr} {vs : List Value} {n : Nat} (q : QL Q ds σ') (p : Post (Fo G) fr σ s s' σ') (ok : Ok c A ([a] ++ fr) σ' s'.heap) (hin : ∀ l, A.frames = some l → ∀ b ∈ l.filterMap (·.frame), b ∈ fr)
  (g : s'.heap.get? a = some (lstObj vs n)) (hv : Vs (keys σ' ++ ([a] ++ fr)) s'.heap ds vs) (hn : s.heap.get? a = none) : Po c A G fr σ s V Q (.ref a) s' := by
 have nd := ok.nd
 rw [List.nodup_append, List.nodup_append] at nd
 have hk : a ∉ keys σ' := fun z => nd.2.2 a z a (by simp) rfl
 have hf : a ∉ fr := fun z => nd.2.1.2.2 a (by simp) a z rfl
 rcases q with q | q
 ·refine ⟨.lst ds, σ', p, Ok.less (ex := []) (wr := [a]) ok hin, ?_, q⟩
  unfold V
  exact ⟨a, vs, n, rfl, fun z => (List.mem_append.mp z).elim hk hf, g, Vs.move (fun _ _ _ e => e) (less_drop _ _) _ _ hv⟩
 ·refine ⟨.ref a, (a, .lst ds) :: σ', ⟨p.shape, p.kept, p.slots, p.alive, fun b hb => ?_⟩, Ok.ref ok hin g hv, by unfold V; rfl, q a hk⟩
  rcases List.mem_cons.mp hb with rfl | hb
  ·exact .inr hn
  ·exact p.grow b hb
noncomputable def freeOk (scope sc : Scope) : Bool := scope.names.all fun y => y.2 != .free || (sc.names.lookup y.1 == some .cell || sc.names.lookup y.1 == some .free)
noncomputable def compOk (scope : Scope) : Bool := scope.kind == .function && decide (scope.names.map (·.1)).Nodup && scope.names.all fun y => y.2 != .cell
theorem compOk_kind {scope : Scope} (h : compOk scope = true) : scope.kind = .function ∧ (scope.names.map (·.1)).Nodup ∧ ∀ y ∈ scope.names, y.2 ≠ .cell := by
 unfold compOk at h
 simp only [Bool.and_eq_true, beq_iff_eq, decide_eq_true_eq, List.all_eq_true, bne_iff_ne, ne_eq] at h
 exact ⟨h.1.1, h.1.2, h.2⟩
theorem freeOk_all {scope : Scope} {env : Env} (h : freeOk scope env.scope = true) : ∀ y ∈ scope.names, y.2 = .free → env.kindOf y.1 = some .cell ∨ env.kindOf y.1 = some .free := fun y hy hf => by
 unfold freeOk at h
 rw [List.all_eq_true] at h
 have := h y hy
 simp only [hf, bne_self_eq_false, Bool.false_or, Bool.or_eq_true, beq_iff_eq] at this
 exact this
theorem WE.comp {tg iter elt : Expr} {ifs : List Expr} {scope : Scope} {pos : Pos} {Q : D → Sto → Prop} (h : WIt c A fr env m σ iter tg (Turns c A env m scope ifs elt (QL Q)) X) (h1 : compOk scope = true) (h2 : freeOk scope env.scope = true) (hs : ∀ x, foldedSetIterable iter env x = pure x := by intro _; rfl) :
  WE c A fr env m σ (.ListComp elt [⟨tg, iter, ifs, 0⟩] scope pos) Q X := fun s ok fm => by
 obtain ⟨k1, k2, k3⟩ := compOk_kind h1
 unfold W
 rw [eval_ListComp]
 refine comp_core (use := none) ok fm k1 k2 k3 (freeOk_all h2) (fun _ _ x => x) h (fun s' σ' ds a C fin q => ?_) hs
 obtain ⟨mv, hns⟩ := fin.ns
 refine ⟨mv, hns, fun h' sb => ?_⟩
 have nd := fin.ok.nd
 rw [List.nodup_append, List.nodup_append] at nd
 have hCa : C ≠ a := by have := nd.2.1.1; simp at this; exact this
 have hCf : ∀ b ∈ [a] ++ fr, b ∉ [C] := fun b hb z => by
  rw [List.mem_singleton.mp z] at hb
  rcases List.mem_append.mp hb with z | z
  ·exact hCa (List.mem_singleton.mp z)
  ·exact nd.2.1.2.2 C (by simp) C z rfl
 have kk : ∀ b o, b ∉ [C] → s'.heap.get? b = some o → h'.get? b = some o := fun b o nb e => (sb.2 b (fun z => nb (by simp [z]))).trans e
 have hin' : ∀ l, A.frames = some l → ∀ b ∈ l.filterMap (·.frame), b ∈ [a] ++ fr := fun l hl b hb => List.mem_append_right _ (fin.frames l hl b hb)
 have oka : Ok c A ([a] ++ fr) σ' h' := Ok.fin (wr := [C]) (fr := [a] ++ fr) fin.ok hin' kk
 obtain ⟨vs, n, g, hv⟩ := fin.list
 have hv' : Vs (keys σ' ++ ([a] ++ fr)) h' ds vs := Vs.move (K := keys σ' ++ ([C, a] ++ fr)) (fun b o nb e => kk b o (fun z => nb (by rw [List.mem_singleton.mp z]; simp)) e) (less_drop (wr := [C]) (fr := [a] ++ fr) _ _) _ _ hv
 have pf : Post [] fr σ s { s' with heap := h', toks := s'.toks } σ' := fin.post.fin (wr := [C]) (fun b hb => by rw [List.mem_singleton.mp hb]; exact fin.newC) (fun b hb => hCf b (List.mem_append_right _ hb)) kk
 exact QL.use (G := none) (s' := { s' with heap := h', toks := s'.toks }) q pf oka fin.frames (kk _ _ (fun z => hCa (List.mem_singleton.mp z).symm) g) hv' fin.newa
set_option maxHeartbeats 1000000 in
theorem W1.assignComp {x : Str} {pos' pos : Pos} {tg iter elt : Expr} {ifs : List Expr} {scope : Scope} {cpos : Pos} {N : Vars → Sto → Prop} {R : D → Sto → Prop} (h : WIt c A fr env m σ iter tg (Turns c A env m scope ifs elt (QL fun d σ' => N ((x, d) :: m) σ')) X) (h1 : compOk scope = true) (h2 : freeOk scope env.scope = true)
  (hk : env.kindOf x = some .local) (hsw : swapsWith (.ListComp elt [⟨tg, iter, ifs, 0⟩] scope cpos) (some (.Name x pos')) pos.line env = pure true) (hs : ∀ x, foldedSetIterable iter env x = pure x := by intro _; rfl) :
  W1 c A fr env m σ (.Assign [.Name x pos'] (.ListComp elt [⟨tg, iter, ifs, 0⟩] scope cpos) pos) N R X := fun s ok fm => by
 obtain ⟨k1, k2, k3⟩ := compOk_kind h1
 unfold W
 rw [exec_Assign_Name_used (hs := hsw)]
 refine wpAny_bind (wpAny_standAt (wpAny_bind ?_))
 show wpAny _ A (do let _ ← comprehension (.ListComp elt [⟨tg, iter, ifs, 0⟩] scope cpos) scope env _ (newList []) false (eval iter env) (some (PySem.assign (.Name x pos') env))) _ _ s
 refine wpAny_bind (wpAny_mono (comp_core (use := some (PySem.assign (.Name x pos') env)) (E := Ex c A (some env) fr σ s false X) (Q := fun _ s' => Po c A (some env) fr σ s (RO env fr) (QO N R) .next s') ok fm k1 k2 k3 (freeOk_all h2) (fun _ _ x => x.wide fm) h (fun s' σ' ds a C fin q => ?_) hs) (fun _ s' hq => wpAny_pure (wpAny_pure hq)) fun _ _ e => e)
 have nd := fin.ok.nd
 rw [List.nodup_append, List.nodup_append] at nd
 have hCa : C ≠ a := by have := nd.2.1.1; simp at this; exact this
 have hCf : C ∉ fr := fun z => nd.2.1.2.2 C (by simp) C z rfl
 have haf : a ∉ fr := fun z => nd.2.1.2.2 a (by simp) a z rfl
 have hak : a ∉ keys σ' := fun z => nd.2.2 a z a (by simp) rfl
 have hCk : C ∉ keys σ' := fun z => nd.2.2 C z C (by simp) rfl
 obtain ⟨vs, n, g, hv⟩ := fin.list
 have perm : Ok c A ([a] ++ ([C] ++ fr)) σ' s'.heap := by
  have o := fin.ok
  have hm : ∀ b, b ∈ keys σ' ++ ([C, a] ++ fr) ↔ b ∈ keys σ' ++ ([a] ++ ([C] ++ fr)) := fun b => by
   simp only [List.mem_append, List.mem_cons, List.not_mem_nil, or_false]
   constructor
   ·rintro (z | (z | z) | z)
    ·exact .inl z
    ·exact .inr (.inr (.inl z))
    ·exact .inr (.inl z)
    ·exact .inr (.inr (.inr z))
   ·rintro (z | z | z | z)
    ·exact .inl z
    ·exact .inr (.inl (.inr z))
    ·exact .inr (.inl (.inl z))
    ·exact .inr (.inr z)
  exact {
   base := o.base
   sto := fun p hp => IsO.move (fun _ _ _ e => e) (fun b hb => .inl ((hm b).mpr hb)) (fun _ e => e) (o.sto p hp)
   nd := by
    refine (List.Perm.nodup_iff ?_).mp o.nd
    refine List.Perm.append_left _ ?_
    exact List.Perm.swap _ _ _
   new := fun b hb => o.new b ((hm b).mpr hb)
   live := fun b hb => o.live b (by simp only [List.mem_append, List.mem_cons, List.not_mem_nil, or_false] at hb ⊢; rcases hb with z | z | z <;> simp_all)
   stack := by
    obtain ⟨l, a1, a2, a3, a4⟩ := o.stack
    exact ⟨l, a1, a2, fun b hb => List.mem_append_right _ (List.mem_append_right _ (fin.frames l a1 b hb)), a4⟩ }
 have hin1 : ∀ l, A.frames = some l → ∀ b ∈ l.filterMap (·.frame), b ∈ [C] ++ fr := fun l hl b hb => List.mem_append_right _ (fin.frames l hl b hb)
 have hv1 : Vs (keys σ' ++ ([a] ++ ([C] ++ fr))) s'.heap ds vs := Vs.move (fun _ _ _ e => e) (fun b hb => .inl (by simp only [List.mem_append, List.mem_cons, List.not_mem_nil, or_false] at hb ⊢; rcases hb with z | z | z | z <;> simp_all)) _ _ hv
 have p1 : Post [] ([C] ++ fr) σ s s' σ' := {
  shape := fin.post.shape
  kept := fun b o nb e => fin.post.kept b o (fun z => nb (by rcases List.mem_append.mp z with z | z <;> simp_all)) e
  slots := fun b o hb nf e => by
   rcases List.mem_append.mp hb with z | z
   ·rw [List.mem_singleton.mp z, fin.newC] at e; cases e
   ·exact fin.post.slots b o z nf e
  alive := fin.post.alive
  grow := fin.post.grow }
 obtain ⟨d, σ2, p2, ok2, v2, q2⟩ := QL.use (G := none) (fr := [C] ++ fr) q p1 perm hin1 g hv1 fin.newa
 have fm0 : Fm env m ([C] ++ fr) (keys σ ++ ([C] ++ fr)) s.heap := fm.shift ⟨List.mem_append_right _ fm.inn.1, fun q hq => List.mem_append_right _ (fm.inn.2 q hq)⟩ (less_add fun b hb => by rw [List.mem_singleton.mp hb]; exact fin.newC)
 have fm2 := fm0.move p2
 show wpAny _ A (PySem.assign (.Name x pos') env (.ref a)) _ _ _
 refine wpAny_assign_Name (wpAny_mono (W.store (X := NoX) ok2 fm2 v2 (.inl hk)) (fun _ s3 hx => ?_) fun _ _ y => y.no.elim)
 obtain ⟨_, σ3, p3, ok3, fm3, rfl⟩ := hx
 have hloc : env.locals ∉ [C] ∧ ∀ q ∈ env.cells, q.2 ∉ [C] := ⟨fun z => hCf (List.mem_singleton.mp z ▸ fm.inn.1), fun q hq z => hCf (List.mem_singleton.mp z ▸ fm.inn.2 q hq)⟩
 obtain ⟨mv, hns⟩ := fin.ns
 have hnsC : ∃ mv, s3.heap.Ns C mv := by
  obtain ⟨o, es, ep, gC, r⟩ := hns
  obtain ⟨sl, e1, _⟩ := p3.slots C o (by simp) (fun z => by
   rcases List.mem_cons.mp z with z | z
   ·exact hCf (z ▸ fm.inn.1)
   ·obtain ⟨q, hq, e⟩ := List.mem_map.mp z; exact hCf (e ▸ fm.inn.2 q hq)) gC
  exact ⟨mv, _, es, ep, e1, r⟩
 obtain ⟨mv3, hns3⟩ := hnsC
 refine ⟨mv3, hns3, fun h' sb => ?_⟩
 have kk : ∀ b o, b ∉ [C] → s3.heap.get? b = some o → h'.get? b = some o := fun b o nb e => (sb.2 b (fun z => nb (by simp [z]))).trans e
 have p02 : Post (Fa env) ([C] ++ fr) σ s s3 σ3 := (p2.wide (by simp)).trans p3
 have p03 : Post (Fa env) fr σ s s3 σ3 := {
  shape := p02.shape
  kept := fun b o nb e => p02.kept b o (fun z => by
   rcases List.mem_append.mp z with z | z
   ·exact nb (List.mem_append_left _ z)
   ·rcases List.mem_append.mp z with z | z
    ·rw [List.mem_singleton.mp z, fin.newC] at e; cases e
    ·exact nb (List.mem_append_right _ z)) e
  slots := fun b o hb nf e => p02.slots b o (List.mem_append_right _ hb) nf e
  alive := p02.alive
  grow := p02.grow }
 refine ⟨.next _, σ3, p03.fin (wr := [C]) (tk := s3.toks) (fun b hb => by rw [List.mem_singleton.mp hb]; exact fin.newC) (fun b hb z => hCf (List.mem_singleton.mp z ▸ hb)) kk, Ok.fin ok3 fin.frames kk, ⟨rfl, fm3.fin fm.inn hloc kk⟩, q2⟩
end
end Mine
namespace Mine
open PySem PySem.Calls PyProof.Rows
section
variable {c : Cx} {A : Around} {fr : List Addr} {σ : Sto} {X : Addr → Sto → Prop} {env : Env} {m : Vars}
theorem store_fine {x : Str} {d : D} {v : Value} {s : Shared} {F : List Addr} {Q : Unit → Shared → Prop} {E : Value → Shared → Prop} (ok : Ok c A fr σ s.heap) (f : Fm env m fr (keys σ ++ fr) s.heap) (hV : V (keys σ ++ fr) s.heap d v) (hk : env.kindOf x = some .local ∨ env.kindOf x = some .cell)
  (hF : (env.kindOf x = some .local → env.locals ∈ F) ∧ (env.kindOf x = some .cell → ∀ cc, env.cells.lookup x = some cc → cc ∈ F))
  (h : ∀ h' tk, Fm env ((x, d) :: m) fr (keys σ ++ fr) h' → Ok c A fr σ h' → Post F fr σ s { s with heap := h', toks := tk } σ → Q () { s with heap := h', toks := tk }) : wpAny (model c.prog c.w) A (storeName env x v) Q E s := by
 have hK : ∀ b ∈ fr, b ∈ keys σ ++ fr := fun b hb => List.mem_append_right _ hb
 have post : ∀ {a : Addr} {oa : Obj} {h' : Heap} {tk : Nat}, a ∈ F → a ∈ fr → Heap.SameBut a s.heap h' → h'.get? a = some oa → Post F fr σ s { s with heap := h', toks := tk } σ := fun {a oa h' tk} haF haf sb e =>
  ⟨⟨h', tk, rfl⟩, fun b o n g => (sb.2 b fun q => n (q ▸ List.mem_append_right _ haf)).trans g, fun b o _ n g => ⟨o.slots, (sb.2 b fun q => n (q ▸ haF)).trans g, fun _ => rfl⟩,
   fun b o g => by
    by_cases q : b = a
    ·subst q; exact ⟨_, e⟩
    ·exact ⟨o, (sb.2 b q).trans g⟩, fun _ m => .inl m⟩
 rcases hk with hk | hk
 ·obtain ⟨mv, hn, r⟩ := f.ns
  refine wpAny_storeName_local hk hn (fun h' hn' sb => ?_) (by rw [f.kind]; rfl)
  obtain ⟨o, es, ep, e, hd, _⟩ := id hn'
  exact h h' _ (f.storeL hK r hn' sb hV hk) (ok.turn f.inn.1 sb e (fun vs => by rw [hd]; intro q; cases q) (fun _ => ⟨o, es, ep, e, hd⟩)) (post (hF.1 hk) f.inn.1 sb e)
 ·obtain ⟨cc, hcc⟩ := f.has x (.inl hk)
  obtain ⟨ov, hc, _⟩ := f.cell x cc hcc
  refine wpAny_storeName_cell f.kind hk hcc hc fun h' hc' sb => ?_
  obtain ⟨o, e, hd⟩ := id hc'
  have hin := mem_of_lookup hcc
  exact h h' s.toks (f.storeC hK hcc hc' sb hV hk) (ok.turn (f.inn.2 _ hin) sb e (fun vs => by rw [hd]; intro q; cases q) (fun z => by
   obtain ⟨o1, es, n, g1, d1⟩ := z
   obtain ⟨o2, g2, d2⟩ := hc
   rw [g1] at g2; cases g2; rw [d1] at d2; cases d2)) (post (hF.2 hk cc hcc) (f.inn.2 _ hin) sb e)
noncomputable def tight (env : Env) (x : Str) : List Addr := if env.kindOf x = some .cell then (match env.cells.lookup x with | some cc => [cc] | none => []) else [env.locals]
theorem tight_mem {env : Env} {x : Str} {a : Addr} (h : a ∈ tight env x) : a = env.locals ∨ (env.kindOf x = some .cell ∧ env.cells.lookup x = some a) := by
 unfold tight at h
 split at h
 ·rename_i k
  split at h
  ·rename_i cc e; exact .inr ⟨k, by rw [List.mem_singleton.mp h]; exact e⟩
  ·cases h
 ·exact .inl (List.mem_singleton.mp h)
theorem tight_ok {env : Env} {x : Str} : (env.kindOf x = some .local → env.locals ∈ tight env x) ∧ (env.kindOf x = some .cell → ∀ cc, env.cells.lookup x = some cc → cc ∈ tight env x) := by
 unfold tight
 refine ⟨fun k => ?_, fun k cc e => ?_⟩
 ·rw [if_neg (by rw [k]; decide)]; simp
 ·rw [if_pos k, e]; simp
theorem letOwned_Name {x : Str} {px : Pos} {it v : Value} : letOwnedTupleGo (.Name x px) it v = pure () := rfl
theorem Src.ofWalks {x : Str} {px : Pos} {I : Addr} {fp : List Addr} {n : Nat} {P : Nat → Value → Prop} {St : Nat → Heap → Prop} {ds : List D} {J : List Addr → Heap → Prop} (W : Walks c.prog c.w A I fp [I] n P St) (hlen : ds.length = n)
  (hlive : ∀ i h, St i h → ∃ o vs, h.get? I = some o ∧ o.data = .fields vs)
  (jmove : ∀ K K' h h', J K h → Stay K h h' → Less K K' h → J K' h') (jv : ∀ K h i v, i < n → J K h → P i v → ∃ d, ds[i]? = some d ∧ V K h d v) (jfp : ∀ K h, J K h → ∀ b ∈ fp, b = I ∨ b ∉ K) :
  Src c A (.Name x px) I [I] (ds.map fun d => [(x, d)]) (fun _ => True) (fun i K h => St i h ∧ J K h) (fun i K h v => St (i + 1) h ∧ J K h ∧ ∃ d, ds[i]? = some d ∧ V K h d v) where
 nodict := fun i K h st b hb o g es n e => by
  obtain ⟨o', vs, g', d'⟩ := hlive i h st.1
  rw [List.mem_singleton.mp hb, g'] at g; cases g; rw [d'] at e; cases e
 midnd := fun i K h v st b hb o g es n e => by
  obtain ⟨o', vs, g', d'⟩ := hlive _ h st.1
  rw [List.mem_singleton.mp hb, g'] at g; cases g; rw [d'] at e; cases e
 move := fun i K K' h h' st sy hw hl => ⟨W.frame i h h' st.1 fun b hb o e => by
   rcases jfp K h st.2 b hb with z | z
   ·exact hw b (by simp [z]) o e
   ·exact sy b o z e, jmove _ _ _ _ st.2 sy hl⟩
 next := fun i σ fr s Q E hi ok st _ hQ => by
  refine W.item i s Q E (by simpa [hlen] using hi) st.1 fun v h' tk hP st' hk => ?_
  have ow : Ow [I] s.heap h' := ⟨fun b o nb e => hk b o nb e, fun b hb => by obtain ⟨o, vs, g, _⟩ := hlive _ _ st'; rw [List.mem_singleton.mp hb]; exact ⟨o, g⟩⟩
  have j' : J (keys σ ++ ([I] ++ fr)) h' := jmove _ _ _ _ st.2 (fun b o nb e => hk b o (fun z => nb (by rw [List.mem_singleton.mp z]; simp)) e) (fun a ha => .inl ha)
  exact hQ v h' tk ⟨st', j', jv _ _ _ _ (by simpa [hlen] using hi) j' hP⟩ ow
 put := fun i σ fr F env m v s Q E y hy mid ok fm hi hkind hF hnd hQ => by
  obtain ⟨st, j, d, hd, hV⟩ := mid
  have hy' : y = [(x, d)] := by
   rw [List.getElem?_map, hd] at hy; exact (Option.some.inj hy).symm
  subst hy'
  rw [letOwned_Name]
  refine wpAny_pure (wpAny_assign_Name ?_)
  have ndw := ok.nd
  rw [List.nodup_append, List.nodup_append] at ndw
  have nI : ∀ a ∈ fr, a ≠ I := fun a ha z => ndw.2.1.2.2 I (by simp) a ha z.symm
  have hF0 : ∀ a ∈ tight env x, a ≠ I := fun a ha => by
   rcases tight_mem ha with z | ⟨_, e⟩
   ·rw [z]; exact nI _ hi.1
   ·exact nI _ (hi.2 _ (mem_of_lookup e))
  refine store_fine (F := tight env x) ok fm hV (hkind (x, d) (by simp)) tight_ok fun h' tk fm' ok' p' => ?_
  have gI : ∀ o, s.heap.get? I = some o → h'.get? I = some o := fun o e => by
   obtain ⟨sl, e1, r1⟩ := p'.slots I o (by simp) (fun z => hF0 I z rfl) e
   have := r1 (hnd I (by simp) o e)
   subst this; exact e1
  refine hQ h' tk ⟨W.frame _ _ _ st fun b hb o e => ?_, jmove _ _ _ _ j p'.stay p'.less⟩ fm' ok' (p'.wide fun a ha => ?_)
  ·rcases jfp _ _ j b hb with z | z
   ·subst z; exact gI o e
   ·exact p'.stay b o z e
  ·rcases tight_mem ha with z | ⟨k, e⟩
   ·rw [z]; exact List.mem_append_right _ hF.1
   ·exact List.mem_append_right _ (hF.2 (x, d) (by simp) k _ e)
 done := fun σ fr s Q E ok st _ hQ => by
  have e : (ds.map fun d => [(x, d)]).length = n := by simp [hlen]
  rw [e] at st
  exact W.done s Q E st.1 fun h' tk hk => hQ h' tk hk
 self := fun i K s Q E st hQ => W.self i s Q E st.1 hQ
inductive SP (c : Cx) (A : Around) (fr : List Addr) (σ : Sto) (tg : Expr) (Q : List Vars → (Sto → Prop) → Sto → Prop) (s : Shared) (it : Value) (s2 : Shared) : Prop
 | mk (I : Addr) (wr : List Addr) (vals : List Vars) (Inv : Sto → Prop) (St : Nat → List Addr → Heap → Prop) (Mid : Nat → List Addr → Heap → Value → Prop) (e : it = .ref I) (sh : ∃ h tk, s2 = { s with heap := h, toks := tk }) (k : ∀ b o, s.heap.get? b = some o → s2.heap.get? b = some o) (hn : ∀ a ∈ wr, s.heap.get? a = none)
   (hl : ∀ a ∈ wr, ∃ o, s2.heap.get? a = some o) (nd : wr.Nodup) (src : Src c A tg I wr vals Inv St Mid) (st : St 0 (keys σ ++ (wr ++ fr)) s2.heap) (inv : Inv σ) (q : Q vals Inv σ) : SP c A fr σ tg Q s it s2
noncomputable def WIv (c : Cx) (A : Around) (fr : List Addr) (env : Env) (m : Vars) (σ : Sto) (d : D) (tg : Expr) (Q : List Vars → (Sto → Prop) → Sto → Prop) : Prop :=
 ∀ v s (E : Value → Shared → Prop), Ok c A fr σ s.heap → Fm env m fr (keys σ ++ fr) s.heap → V (keys σ ++ fr) s.heap d v →
  wpAny (model c.prog c.w) A (pyIter v) (SP c A fr σ tg Q s) E s
theorem SP.it {tg : Expr} {Q : List Vars → (Sto → Prop) → Sto → Prop} {σ1 : Sto} {s s1 s2 : Shared} {it : Value} (fm : Fm env m fr (keys σ ++ fr) s.heap) (p1 : Post [] fr σ s s1 σ1) (ok1 : Ok c A fr σ1 s1.heap) (hx : SP c A fr σ1 tg Q s1 it s2) :
  ItP c A fr env m σ tg Q s it s2 := by
 have fm1 := fm.move p1
 obtain ⟨I, wr, vals, Inv, St, Mid, rfl, ⟨h2, tk2, rfl⟩, hk, hn, hl, nd, src, st0, inv, q⟩ := hx
 have p2 : Post [] fr σ1 s1 { s1 with heap := h2, toks := tk2 } σ1 := Post.keeps hk
 refine ⟨I, wr, vals, Inv, St, Mid, σ1, rfl, p1.trans p2, ok1.keeps hk, ok1.more hk hn hl nd, fun a ha => none_back p1 (hn a ha), ?_, src, st0, inv, q⟩
 have f2 : Fm env m (wr ++ fr) (keys σ1 ++ (wr ++ fr)) s1.heap := fm1.shift ⟨List.mem_append_right _ fm1.inn.1, fun q hq => List.mem_append_right _ (fm1.inn.2 q hq)⟩ (less_add hn)
 exact Fm.move (s := s1) (s' := { s1 with heap := h2, toks := tk2 }) f2 (Post.keeps hk)
theorem WIt.of {iter tg : Expr} {Q : List Vars → (Sto → Prop) → Sto → Prop} (h : WE c A fr env m σ iter (fun d σ1 => WIv c A fr env m σ1 d tg Q) X) : WIt c A fr env m σ iter tg Q X := fun s ok fm => by
 refine wpAny_mono (h s ok fm) (fun x s1 ⟨d, σ1, p1, ok1, v1, q1⟩ => ?_) fun _ _ x => x
 exact wpAny_mono (q1 x s1 _ ok1 (fm.move p1) v1) (fun it s2 hx => hx.it fm p1 ok1) fun _ _ x => x
theorem WIt.callT (g : c.Good) {f : Str} {fp pos : Pos} {args : List Expr} {T : String} {tg : Expr} {Q : List Vars → (Sto → Prop) → Sto → Prop} (hk : env.kindOf f = some .globalImplicit) (hg : c.mg f = none) (hb : c.mb f = some (.type T))
  (h : WA c A fr env m σ args (fun ds σ1 => ∀ s vals (E : Value → Shared → Prop), Ok c A fr σ1 s.heap → Fm env m fr (keys σ1 ++ fr) s.heap → Vs (keys σ1 ++ fr) s.heap ds vals → wpAny (model c.prog c.w) A (call (.type T) vals) (fun x s1 => wpAny (model c.prog c.w) A (pyIter x) (SP c A fr σ1 tg Q s) E s1) E s) X)
  (hp : plainArgs args = true := by rfl) (hdb : (f == ("__debug__" : Str)) = false := by decide) : WIt c A fr env m σ (.Call (.Name f fp) args [] pos) tg Q X := fun s ok fm => by
 rw [eval_Call_Name]
 refine wpAny_bind (Name_function_global fm.kind hk (loadGlobal_builtin (by rw [fm.glob]; exact g.g.keeps ok.base) hg (by rw [fm.bui]; exact g.b.keeps ok.base) hb ?_) hdb)
 refine PySem.callWith_type (by
  have := plainArgs_starEach (env := env) (pos := pos) hp
  rw [List.any_eq_false]; intro x hx; simp [this x hx]) (wpAny_evalArgs (plainArgs_starEach hp) (wpAny_mono (h pos s ok fm) (fun vs s1 ⟨ds, σ1, p1, ok1, x1, q1⟩ => ?_) fun _ _ x => x))
 exact wpAny_mono (q1 s1 vs _ ok1 (fm.move p1) x1) (fun x s2 hx => wpAny_mono hx (fun it s3 hx => hx.it fm p1 ok1) fun _ _ x => x) fun _ _ x => x
theorem WE.callT (g : c.Good) {f : Str} {fp pos : Pos} {args : List Expr} {T : String} {Q : D → Sto → Prop} (hk : env.kindOf f = some .globalImplicit) (hg : c.mg f = none) (hb : c.mb f = some (.type T))
  (h : WA c A fr env m σ args (fun ds σ1 => ∀ s vals, Ok c A fr σ1 s.heap → Vs (keys σ1 ++ fr) s.heap ds vals → W c A none fr σ1 (call (.type T) vals) V Q X s) X) (hp : plainArgs args = true := by rfl) (hdb : (f == ("__debug__" : Str)) = false := by decide) : WE c A fr env m σ (.Call (.Name f fp) args [] pos) Q X := fun s ok fm => by
 unfold W
 rw [eval_Call_Name]
 refine wpAny_bind (Name_function_global fm.kind hk (loadGlobal_builtin (by rw [fm.glob]; exact g.g.keeps ok.base) hg (by rw [fm.bui]; exact g.b.keeps ok.base) hb ?_) hdb)
 refine PySem.callWith_type (by
  have := plainArgs_starEach (env := env) (pos := pos) hp
  rw [List.any_eq_false]; intro x hx; simp [this x hx]) (wpAny_evalArgs (plainArgs_starEach hp) (wpAny_mono (h pos s ok fm) (fun vs s1 ⟨ds, σ1, p1, ok1, x1, q1⟩ => ?_) fun _ _ x => x))
 refine wpAny_mono (q1 s1 vs ok1 x1) (fun v s2 ⟨d, σ2, p2, ok2, x2, q2⟩ => ⟨d, σ2, p1.trans p2, ok2, x2, q2⟩) fun _ _ x => Ex.back p1 x fun _ _ y => y
theorem heap_ne {h : Heap} {a : Addr} {o : Obj} (e : h.get? a = some o) : a ≠ h.objs.size := fun z => Nat.lt_irrefl _ (z ▸ Heap.lt_size e)
theorem WIv.lst {ds : List D} {x : Str} {px : Pos} {Q : List Vars → (Sto → Prop) → Sto → Prop} (hh : A.handled = none) (h : Q (ds.map fun d => [(x, d)]) (fun _ => True) σ) : WIv c A fr env m σ (.lst ds) (.Name x px) Q := fun v s E ok fm hv => by
 unfold V at hv
 obtain ⟨a, vs, n, rfl, hak, g, hvs⟩ := hv
 have hne := heap_ne g
 have hL : s.heap.IsList a vs.toArray := ⟨_, g, rfl, n, rfl⟩
 refine wpAny_pyIter_list hL ?_
 refine ⟨_, [s.heap.objs.size], _, _, _, _, rfl, ⟨_, s.toks, rfl⟩, fun b o e => Heap.get?_push_of_some _ e, fun b hb => by rw [List.mem_singleton.mp hb]; exact none_of_ge (Nat.le_refl _), fun b hb => by rw [List.mem_singleton.mp hb]; exact ⟨_, Heap.get?_push_size _ rfl⟩, by simp,
  Src.ofWalks (J := fun K h => a ∉ K ∧ h.IsList a vs.toArray ∧ Vs K h ds vs) (Walks.list hh s.heap.objs.size a hne vs.toArray) (by simpa using hvs.length.symm) ?_ ?_ ?_ ?_, ?_, trivial, h⟩
 ·rintro i h ⟨⟨o, g, _, hd⟩, _⟩; exact ⟨o, _, g, hd⟩
 ·rintro K K' h h' ⟨j1, ⟨o, g, r⟩, j3⟩ sy hl
  exact ⟨hl.nin j1 g, ⟨o, sy _ _ j1 g, r⟩, Vs.move sy hl _ _ j3⟩
 ·rintro K h i v _ ⟨j1, j2, j3⟩ hp
  exact j3.get (by simpa using hp)
 ·rintro K h ⟨j1, j2, j3⟩ b hb
  rcases List.mem_cons.mp hb with z | z
  ·exact .inl z
  ·exact .inr (List.mem_singleton.mp z ▸ j1)
 ·have st : Stay (keys σ ++ fr) s.heap (s.heap.push { cls := .type "list_iterator", data := .fields #[.ref a, .int 0 0] }) := fun b o _ e => Heap.get?_push_of_some _ e
  have hn : ∀ b ∈ [s.heap.objs.size], s.heap.get? b = none := fun b hb => by rw [List.mem_singleton.mp hb]; exact none_of_ge (Nat.le_refl _)
  refine ⟨⟨⟨_, Heap.get?_push_size _ rfl, rfl, rfl⟩, hL.push _⟩, (less_add hn).nin hak g, hL.push _, Vs.move st (less_add hn) _ _ hvs⟩
theorem WIv.tup {ds : List D} {x : Str} {px : Pos} {Q : List Vars → (Sto → Prop) → Sto → Prop} (hh : A.handled = none) (h : Q (ds.map fun d => [(x, d)]) (fun _ => True) σ) : WIv c A fr env m σ (.tup ds) (.Name x px) Q := fun v s E ok fm hv => by
 unfold V at hv
 obtain ⟨a, vs, n, rfl, hak, g, hvs⟩ := hv
 have hne := heap_ne g
 have hL : s.heap.IsTuple a vs.toArray := ⟨_, g, rfl, n, rfl⟩
 refine wpAny_pyIter_tuple hL ?_
 refine ⟨_, [s.heap.objs.size], _, _, _, _, rfl, ⟨_, s.toks, rfl⟩, fun b o e => Heap.get?_push_of_some _ e, fun b hb => by rw [List.mem_singleton.mp hb]; exact none_of_ge (Nat.le_refl _), fun b hb => by rw [List.mem_singleton.mp hb]; exact ⟨_, Heap.get?_push_size _ rfl⟩, by simp,
  Src.ofWalks (J := fun K h => a ∉ K ∧ h.IsTuple a vs.toArray ∧ Vs K h ds vs) (Walks.tuple hh s.heap.objs.size a hne vs.toArray) (by simpa using hvs.length.symm) ?_ ?_ ?_ ?_, ?_, trivial, h⟩
 ·rintro i h ⟨⟨o, g, _, hd⟩, _⟩; exact ⟨o, _, g, hd⟩
 ·rintro K K' h h' ⟨j1, ⟨o, g, r⟩, j3⟩ sy hl
  exact ⟨hl.nin j1 g, ⟨o, sy _ _ j1 g, r⟩, Vs.move sy hl _ _ j3⟩
 ·rintro K h i v _ ⟨j1, j2, j3⟩ hp
  exact j3.get (by simpa using hp)
 ·rintro K h ⟨j1, j2, j3⟩ b hb
  rcases List.mem_cons.mp hb with z | z
  ·exact .inl z
  ·exact .inr (List.mem_singleton.mp z ▸ j1)
 ·have hn : ∀ b ∈ [s.heap.objs.size], s.heap.get? b = none := fun b hb => by rw [List.mem_singleton.mp hb]; exact none_of_ge (Nat.le_refl _)
  refine ⟨⟨⟨_, Heap.get?_push_size _ rfl, rfl, rfl⟩, hL.push _⟩, (less_add hn).nin hak g, hL.push _, Vs.move (K := keys σ ++ fr) (fun b o _ e => Heap.get?_push_of_some _ e) (less_add hn) _ _ hvs⟩
theorem WIv.ref {a : Addr} {ds : List D} {x : Str} {px : Pos} {Q : List Vars → (Sto → Prop) → Sto → Prop} (hh : A.handled = none) (hm : (a, O.lst ds) ∈ σ) (h : Q (ds.map fun d => [(x, d)]) (fun σ' => (a, O.lst ds) ∈ σ') σ) : WIv c A fr env m σ (.ref a) (.Name x px) Q := fun v s E ok fm hv => by
 unfold V at hv; subst hv
 obtain ⟨vs, n, g, hvs⟩ := ok.sto _ hm
 have hne := heap_ne g
 have hL : s.heap.IsList a vs.toArray := ⟨_, g, rfl, n, rfl⟩
 refine wpAny_pyIter_list hL ?_
 refine ⟨_, [s.heap.objs.size], _, fun σ' => (a, O.lst ds) ∈ σ', fun i K h => a ≠ s.heap.objs.size ∧ h.IsListIter s.heap.objs.size a i, fun i K h v => (a ≠ s.heap.objs.size ∧ h.IsListIter s.heap.objs.size a (i + 1)) ∧ ∃ d, ds[i]? = some d ∧ V K h d v, rfl, ⟨_, s.toks, rfl⟩, fun b o e => Heap.get?_push_of_some _ e, fun b hb => by rw [List.mem_singleton.mp hb]; exact none_of_ge (Nat.le_refl _), fun b hb => by rw [List.mem_singleton.mp hb]; exact ⟨_, Heap.get?_push_size _ rfl⟩, by simp,
  ?_, ⟨hne, _, Heap.get?_push_size _ rfl, rfl, rfl⟩, hm, h⟩
 exact {
  nodict := fun i K h st b hb o g es n e => by
   obtain ⟨_, o', g', _, d'⟩ := st
   rw [List.mem_singleton.mp hb, g'] at g; cases g; rw [d'] at e; cases e
  midnd := fun i K h v st b hb o g es n e => by
   obtain ⟨⟨_, o', g', _, d'⟩, _⟩ := st
   rw [List.mem_singleton.mp hb, g'] at g; cases g; rw [d'] at e; cases e
  move := fun i K K' h h' st sy hw hl => by
   obtain ⟨h1, o', g', r⟩ := st
   exact ⟨h1, o', hw _ (by simp) _ g', r⟩
  next := fun i σ fr s' Q E hi ok st inv hQ => by
   obtain ⟨us, n', g', hus⟩ := ok.sto _ inv
   have hi' : i < us.length := by rw [hus.length]; simpa using hi
   refine wpAny_pyNext_list_item (items := us.toArray) (x := us[i]) st.2 ⟨_, g', rfl, n', rfl⟩ (by simp [hi']) fun h' it' sb' => ?_
   obtain ⟨d, hd, hV⟩ := hus.get (i := i) (v := us[i]) (by simp)
   refine hQ _ h' s'.toks ⟨⟨st.1, it'⟩, d, hd, V.move (fun b o nb e => (sb'.2 b fun z => nb (by rw [z]; simp)).trans e) (fun a ha => .inl ha) _ _ hV⟩ ⟨fun b o nb e => (sb'.2 b fun z => nb (by simp [z])).trans e, fun b hb => ?_⟩
   obtain ⟨o, g, _⟩ := it'; rw [List.mem_singleton.mp hb]; exact ⟨o, g⟩
  put := fun i σ fr F env m v s' Q E y hy mid ok fm hi hkind hF hnd hQ => by
   obtain ⟨⟨hne, st⟩, d, hd, hV⟩ := mid
   have hy' : y = [(x, d)] := by
    rw [List.getElem?_map, hd] at hy; exact (Option.some.inj hy).symm
   subst hy'
   rw [letOwned_Name]
   refine wpAny_pure (wpAny_assign_Name ?_)
   have ndw := ok.nd
   rw [List.nodup_append, List.nodup_append] at ndw
   have nI : ∀ a ∈ fr, a ≠ s.heap.objs.size := fun a ha z => ndw.2.1.2.2 _ (by simp) a ha z.symm
   have hF0 : ∀ a ∈ tight env x, a ≠ s.heap.objs.size := fun a ha => by
    rcases tight_mem ha with z | ⟨_, e⟩
    ·rw [z]; exact nI _ hi.1
    ·exact nI _ (hi.2 _ (mem_of_lookup e))
   refine store_fine (F := tight env x) ok fm hV (hkind (x, d) (by simp)) tight_ok fun h' tk fm' ok' p' => ?_
   refine hQ h' tk ⟨hne, ?_⟩ fm' ok' (p'.wide fun a ha => ?_)
   ·obtain ⟨o, g, r⟩ := st
    obtain ⟨sl, e1, r1⟩ := p'.slots _ o (by simp) (fun z => hF0 _ z rfl) g
    have := r1 (hnd _ (by simp) o g)
    subst this; exact ⟨o, e1, r⟩
   ·rcases tight_mem ha with z | ⟨k, e⟩
    ·rw [z]; exact List.mem_append_right _ hF.1
    ·exact List.mem_append_right _ (hF.2 (x, d) (by simp) k _ e)
  done := fun σ fr s' Q E ok st inv hQ => by
   obtain ⟨us, n', g', hus⟩ := ok.sto _ inv
   have e : (ds.map fun d => [(x, d)]).length = us.length := by simp [hus.length]
   rw [e] at st
   exact wpAny_pyNext_list_end (items := us.toArray) hh st.2 ⟨_, g', rfl, n', rfl⟩ (by simp) fun h' he' => hQ h' s'.toks fun b o hb e => he' b o (fun z => hb (by simp [z])) e
  self := fun i K s' Q E st hQ => wpAny_pyIter_listiter st.2 hQ }
theorem rangeSize_toNat {n : Int} : (Builtin.Range.rangeSize 0 n 1) = ((n.toNat : Nat) : Int) := by
 rw [rangeSize_one]; split <;> omega
theorem WIt.range1 (g : c.Good) (hh : A.handled = none) {f : Str} {fp pos px : Pos} {e : Expr} {x : Str} {Q : List Vars → (Sto → Prop) → Sto → Prop} (hk : env.kindOf f = some .globalImplicit) (hg : c.mg f = none) (hb : c.mb f = some (.type "range"))
  (h : WE c A fr env m σ e (fun d σ1 => ∃ n : Int, d = .int n ∧ -(2 ^ 62) ≤ n ∧ n < 2 ^ 62 ∧ Q ((List.range n.toNat).map fun (i : Nat) => [(x, D.int (i : Int))]) (fun _ => True) σ1) X) (hp : plainArgs [e] = true := by rfl) (hdb : (f == ("__debug__" : Str)) = false := by decide) :
  WIt c A fr env m σ (.Call (.Name f fp) [e] [] pos) (.Name x px) Q X := by
 refine WIt.callT g hk hg hb (WA.cons (h.mono (fun d σ1 q => WA.nil ?_) fun _ _ y => y) hp) hp hdb
 intro s vals E ok fm hv
 obtain ⟨n, rfl, h1, h2, q⟩ := q
 unfold Vs at hv
 obtain ⟨v, r, rfl, hv, hr⟩ := hv
 unfold Vs at hr; subst hr
 unfold V at hv
 obtain ⟨t, rfl⟩ := hv
 refine call_range_1 ?_
 refine wpAny_pyIter_range (IsRange.new _ _ _ _ _ _ _) (small_one (by decide) (by decide) h1 h2) ?_
 generalize hH : s.heap.push { cls := .type "range", data := .fields #[.int 0 s.toks, .int n t, .int 1 (s.toks + 1)] } = H
 have hHk : ∀ b o, s.heap.get? b = some o → H.get? b = some o := fun b o e => hH ▸ Heap.get?_push_of_some _ e
 have hHs : H.objs.size = s.heap.objs.size + 1 := by rw [← hH, Heap.size_push]
 have hnone : s.heap.get? H.objs.size = none := none_of_ge (by rw [hHs]; exact Nat.le_succ _)
 refine ⟨H.objs.size, [H.objs.size], _, _, _, _, rfl, ⟨_, _, rfl⟩, fun b o e => Heap.get?_push_of_some _ (hHk b o e), fun b hb => by rw [List.mem_singleton.mp hb]; exact hnone, fun b hb => by rw [List.mem_singleton.mp hb]; exact ⟨_, Heap.get?_push_size _ rfl⟩, by simp,
  Src.ofWalks (ds := (List.range n.toNat).map fun (i : Nat) => D.int (i : Int)) (J := fun K h => True) (Walks.range hh H.objs.size 0 1 n.toNat) (by simp) ?_ ?_ ?_ ?_, ?_, trivial, by simpa [List.map_map, Function.comp_def] using q⟩
 ·intro i h st; exact ⟨_, _, st, rfl⟩
 ·intros; trivial
 ·rintro K h i v hi _ ⟨t, rfl⟩
  refine ⟨.int i, by simp [hi], ?_⟩
  unfold V; exact ⟨t, by simp⟩
 ·rintro K h _ b hb; exact .inl (List.mem_singleton.mp hb)
 ·refine ⟨?_, trivial⟩
  have := Heap.get?_push_size H (o := { cls := .type "range_iterator", data := .fields #[rawInt 0, rawInt (Builtin.Range.rangeSize 0 n 1), rawInt 1] }) rfl
  rw [rangeSize_toNat] at this
  rw [rangeSize_toNat]
  simpa using this
end
end Mine
namespace Mine
open PySem PySem.Calls PyProof.Rows
noncomputable def SqIt (b : Bool) (h : Heap) (i l : Addr) (k : Nat) : Prop := if b then h.IsListIter i l k else h.IsTupleIter i l k
noncomputable def SqOf (b : Bool) (h : Heap) (l : Addr) (xs : Array Value) : Prop := if b then h.IsList l xs else h.IsTuple l xs
theorem SqIt.at {b : Bool} {h h' : Heap} {i l : Addr} {k : Nat} (x : SqIt b h i l k) (e : ∀ o, h.get? i = some o → h'.get? i = some o) : SqIt b h' i l k := by
 cases b with
 | true => obtain ⟨o, g, r⟩ := x; exact ⟨o, e _ g, r⟩
 | false => obtain ⟨o, g, r⟩ := x; exact ⟨o, e _ g, r⟩
theorem SqOf.at {b : Bool} {h h' : Heap} {l : Addr} {xs : Array Value} (x : SqOf b h l xs) (e : ∀ o, h.get? l = some o → h'.get? l = some o) : SqOf b h' l xs := by
 cases b with
 | true => obtain ⟨o, g, r⟩ := x; exact ⟨o, e _ g, r⟩
 | false => obtain ⟨o, g, r⟩ := x; exact ⟨o, e _ g, r⟩
theorem SqIt.there {b : Bool} {h : Heap} {i l : Addr} {k : Nat} (x : SqIt b h i l k) : ∃ o vs, h.get? i = some o ∧ o.data = .fields vs := by
 cases b with
 | true => obtain ⟨o, g, _, r⟩ := x; exact ⟨o, _, g, r⟩
 | false => obtain ⟨o, g, _, r⟩ := x; exact ⟨o, _, g, r⟩
section
variable {prog : Program} {w : World} {A : Around} {E : Value → Shared → Prop} {s : Shared}
theorem nextOf_tuple_item {it t : Addr} {i : Nat} {items} {x : Value} {Q : Value → Shared → Prop} (hit : s.heap.IsTupleIter it t i) (ht : s.heap.IsTuple t items) (hx : items[i]? = some x)
  (hQ : ∀ h', h'.IsTupleIter it t (i + 1) → Heap.SameBut it s.heap h' → Q x { s with heap := h' }) : wpAny (model prog w) A (Builtin.SmallTypes.nextOf (.ref it)) Q E s := by
 obtain ⟨o, ho, hc, hd⟩ := id hit
 obtain ⟨ol, hol, _, nl, hdl⟩ := ht
 unfold Builtin.SmallTypes.nextOf
 refine wpAny_bind (wpAny_callSpecial?_slot (name := Str.ofString "__next__") hit.typeIs F.slot_tuple_iterator_next
  (wpAny_call_entry F.slot_tuple_iterator_next hit.typeIs F.entry_tuple_iterator_next ?_ (F.args_tuple_iterator_next_1 _)))
 refine wpAny_bind (m := field (.ref it) 0) (wpAny_field ho hd (x := .ref t) rfl ?_)
 show wpAny _ _ (if (Value.ref t == Value.none) = true then _ else _) _ _ s
 rw [if_neg (show ¬ ((Value.ref t == Value.none) = true) from Bool.false_ne_true)]
 refine wpAny_bind (m := field (.ref it) 1) (wpAny_field ho hd (x := .int i 0) rfl ?_)
 refine wpAny_bind (m := seqItems? (.ref t)) (wpAny_seqItems hol hdl ?_)
 simp only [Int.toNat_natCast, hx]
 refine wpAny_bind (wpAny_setField ho hd (by simp) (wpAny_pure ⟨x, rfl, wpAny_pure (hQ _ ?_ (Heap.SameBut.update ..))⟩))
 exact ⟨_, Heap.get?_update_self _ ho (Obj.isFreed_of_fields (Obj.data_mapFields hd _)), (Obj.cls_mapFields ..).trans hc, by
  rw [Obj.data_mapFields hd]; simp [rawInt]⟩
theorem nextOf_tuple_end {it t : Addr} {i : Nat} {items} {Q : Value → Shared → Prop} (hh : A.handled = none) (hit : s.heap.IsTupleIter it t i) (ht : s.heap.IsTuple t items) (hx : items[i]? = none)
  (hE : ∀ h' e, Heap.ExtBut it s.heap h' → (∃ o, h'.get? e = some o ∧ o.cls = .type "StopIteration") → E (.ref e) { s with heap := h' }) : wpAny (model prog w) A (Builtin.SmallTypes.nextOf (.ref it)) Q E s := by
 obtain ⟨o, ho, hc, hd⟩ := id hit
 obtain ⟨ol, hol, _, nl, hdl⟩ := ht
 unfold Builtin.SmallTypes.nextOf
 refine wpAny_bind (wpAny_callSpecial?_slot (name := Str.ofString "__next__") hit.typeIs F.slot_tuple_iterator_next
  (wpAny_call_entry F.slot_tuple_iterator_next hit.typeIs F.entry_tuple_iterator_next ?_ (F.args_tuple_iterator_next_1 _)))
 refine wpAny_bind (m := field (.ref it) 0) (wpAny_field ho hd (x := .ref t) rfl ?_)
 show wpAny _ _ (if (Value.ref t == Value.none) = true then _ else _) _ _ s
 rw [if_neg (show ¬ ((Value.ref t == Value.none) = true) from Bool.false_ne_true)]
 refine wpAny_bind (m := field (.ref it) 1) (wpAny_field ho hd (x := .int i 0) rfl ?_)
 refine wpAny_bind (m := seqItems? (.ref t)) (wpAny_seqItems hol hdl ?_)
 simp only [Int.toNat_natCast, hx]
 refine wpAny_bind (wpAny_rule (wpAny_bind (wpAny_setField ho hd (by simp) ?_)))
 refine wpAny_bind (m := newExc (.type "StopIteration") []) ?_
 simp only [newExc, newTuple]
 refine wpAny_bind (wpAny_newObj_type ?_ (by size_fits))
 refine wpAny_bind (m := firstArgMember _ _) (wpAny_of_eq (a := Value.none) (by first | rfl | (simp only [firstArgMember]; rfl)) ?_)
 refine wpAny_newObj_type ?_ (by size_fits)
 simp only [raiseNew]
 refine wpAny_bind (wpAny_handled ?_)
 first | rw [show A.in1.handled = none from hh] | rw [hh]
 refine wpAny_bind (wpAny_pure (wpAny_throw ?_))
 exact hE _ _ (((Heap.SameBut.update ..).extBut.push _).push _) ⟨_, Heap.get?_push_size _ rfl, rfl⟩
theorem nextOf_sq_item {b : Bool} {it l : Addr} {i : Nat} {items : Array Value} {x : Value} {Q : Value → Shared → Prop} (hit : SqIt b s.heap it l i) (hl : SqOf b s.heap l items) (hx : items[i]? = some x)
  (hQ : ∀ h', SqIt b h' it l (i + 1) → Heap.SameBut it s.heap h' → Q x { s with heap := h' }) : wpAny (model prog w) A (Builtin.SmallTypes.nextOf (.ref it)) Q E s := by
 cases b with
 | true => exact wpAny_nextOf_list_item hit hl hx hQ
 | false => exact nextOf_tuple_item hit hl hx hQ
theorem nextOf_sq_end {b : Bool} {it l : Addr} {i : Nat} {items : Array Value} {Q : Value → Shared → Prop} (hh : A.handled = none) (hit : SqIt b s.heap it l i) (hl : SqOf b s.heap l items) (hx : items[i]? = none)
  (hE : ∀ h' e, Heap.ExtBut it s.heap h' → (∃ o, h'.get? e = some o ∧ o.cls = .type "StopIteration") → E (.ref e) { s with heap := h' }) : wpAny (model prog w) A (Builtin.SmallTypes.nextOf (.ref it)) Q E s := by
 cases b with
 | true => exact wpAny_nextOf_list_end hh hit hl hx hE
 | false => exact nextOf_tuple_end hh hit hl hx hE
theorem zip_item {b1 b2 : Bool} {z TI TO i1 i2 l1 l2 : Addr} {k : Nat} {xs ys : Array Value} {x y a b : Value} {Q : Value → Shared → Prop} (D : ZipApart z TI TO i1 i2 l1 l2)
  (hz : IsZip s.heap z TI TO .none) (hTI : IsPair s.heap TI (.ref i1) (.ref i2)) (hTO : IsPair s.heap TO a b)
  (h1 : SqIt b1 s.heap i1 l1 k) (h2 : SqIt b2 s.heap i2 l2 k) (hl1 : SqOf b1 s.heap l1 xs) (hl2 : SqOf b2 s.heap l2 ys) (hx : xs[k]? = some x) (hy : ys[k]? = some y)
  (hQ : ∀ h', IsZip h' z TI TO (rawInt s.heap.objs.size) → IsPair h' TO x y → SqIt b1 h' i1 l1 (k + 1) → SqIt b2 h' i2 l2 (k + 1) → IsPair h' s.heap.objs.size x y →
   (∀ c o, c ≠ z → c ≠ TO → c ≠ i1 → c ≠ i2 → s.heap.get? c = some o → h'.get? c = some o) → Q (.ref s.heap.objs.size) { s with heap := h' }) :
  wpAny (model prog w) A (Builtin.«zip.__next__» ⟨[.ref z], []⟩) (fun fin s' => ∃ v, fin = .done (.ret v) ∧ Q v s') E s := by
 refine wpAny_bind (m := field (.ref z) 2) (wpAny_field hz rfl (x := .bool false) rfl ?_)
 refine wpAny_bind (m := field (.ref z) 3) (wpAny_field hz rfl (x := .ref TI) rfl ?_)
 refine wpAny_bind (wpAny_seqItems hTI rfl ?_)
 refine wpAny_bind (m := Builtin.SmallTypes.ownedTupleIsFree (.ref z)) ?_
 unfold Builtin.SmallTypes.ownedTupleIsFree
 refine wpAny_bind (wpAny_field hz rfl (x := .none) rfl (wpAny_pure ?_))
 simp only [if_true]
 refine wpAny_bind (wpAny_rule ?_)
 refine wpAny_bind (wpAny_field hz rfl (x := .ref TO) rfl ?_)
 refine wpAny_bind (wpAny_setField_rec hz (by simp) fun h₁ hz₁ hs₁ => ?_)
 replace hz₁ : IsZip h₁ z TI TO .ellipsis := hz₁
 refine wpAny_bind ?_
 simp only [List.zipIdx_cons, List.zipIdx_nil, List.forIn_cons, List.forIn_nil]
 have k1 : ∀ {c o}, c ≠ z → s.heap.get? c = some o → h₁.get? c = some o := fun c e => hs₁.extBut _ _ c e
 refine wpAny_bind (wpAny_bind (wpAny_onRaise ?_))
 refine wpAny_bind (m := Builtin.SmallTypes.nextOf (.ref i1)) (nextOf_sq_item (h1.at fun o e => k1 D.i1z e) (hl1.at fun o e => k1 D.l1z e) hx fun h₂ h1₂ hs₂ => wpAny_pure ?_)
 have k2 : ∀ {c o}, c ≠ i1 → h₁.get? c = some o → h₂.get? c = some o := fun c e => hs₂.extBut _ _ c e
 have hTO₂ : IsPair h₂ TO a b := k2 D.TOi1 (k1 D.TOz hTO)
 refine wpAny_bind (wpAny_seqItems hTO₂ rfl ?_)
 refine wpAny_bind (wpAny_updateSeq_pair hTO₂ fun h₃ hTO₃ hs₃ => ?_)
 replace hTO₃ : IsPair h₃ TO x b := hTO₃
 have k3 : ∀ {c o}, c ≠ TO → h₂.get? c = some o → h₃.get? c = some o := fun c e => hs₃.extBut _ _ c e
 refine wpAny_bind (wpAny_letGo (wpAny_pure ?_))
 refine wpAny_bind (wpAny_bind (wpAny_onRaise ?_))
 refine wpAny_bind (m := Builtin.SmallTypes.nextOf (.ref i2)) (nextOf_sq_item (h2.at fun o e => k3 D.TOi2.symm (k2 D.i12.symm (k1 D.i2z e))) (hl2.at fun o e => k3 D.l2TO (k2 D.l2i1 (k1 D.l2z e))) hy fun h₄ h2₄ hs₄ => wpAny_pure ?_)
 have k4 : ∀ {c o}, c ≠ i2 → h₃.get? c = some o → h₄.get? c = some o := fun c e => hs₄.extBut _ _ c e
 have hTO₄ : IsPair h₄ TO x b := k4 D.TOi2 hTO₃
 refine wpAny_bind (wpAny_seqItems hTO₄ rfl ?_)
 refine wpAny_bind (wpAny_updateSeq_pair hTO₄ fun h₅ hTO₅ hs₅ => ?_)
 replace hTO₅ : IsPair h₅ TO x y := hTO₅
 have k5 : ∀ {c o}, c ≠ TO → h₄.get? c = some o → h₅.get? c = some o := fun c e => hs₅.extBut _ _ c e
 refine wpAny_bind (wpAny_letGo (wpAny_pure (wpAny_pure ?_)))
 refine wpAny_bind (wpAny_seqItems hTO₅ rfl ?_)
 refine wpAny_bind (wpAny_newTuple ?_)
 have hsz : h₅.objs.size = s.heap.objs.size := by rw [hs₅.1, hs₄.1, hs₃.1, hs₂.1, hs₁.1]
 have hz₅ : IsZip h₅ z TI TO .ellipsis := k5 D.TOz.symm (k4 D.i2z.symm (k3 D.TOz.symm (k2 D.i1z.symm hz₁)))
 have hk₅ : ∀ c o, c ≠ z → c ≠ TO → c ≠ i1 → c ≠ i2 → s.heap.get? c = some o → h₅.get? c = some o := fun c o c1 c2 c3 c4 e => k5 c2 (k4 c4 (k3 c2 (k2 c3 (k1 c1 e))))
 have h1₅ : SqIt b1 h₅ i1 l1 (k + 1) := h1₂.at fun o e => k5 D.TOi1.symm (k4 D.i12 (k3 D.TOi1.symm e))
 have h2₅ : SqIt b2 h₅ i2 l2 (k + 1) := h2₄.at fun o e => k5 D.TOi2.symm e
 have hzlt : z < h₅.objs.size := Heap.lt_size hz₅
 refine wpAny_bind (m := Builtin.SmallTypes.ownedTupleHandOut (.ref z) (.ref h₅.objs.size)) ?_
 unfold Builtin.SmallTypes.ownedTupleHandOut
 have hz₆ : IsZip (h₅.push { cls := .type "tuple", data := .seq #[x, y] }) z TI TO .ellipsis := Heap.get?_push_of_some _ hz₅
 refine wpAny_bind (wpAny_setField_rec hz₆ (by simp) fun h₇ hz₇ hs₇ => ?_)
 replace hz₇ : IsZip h₇ z TI TO (rawInt h₅.objs.size) := hz₇
 refine wpAny_setField_rec hz₇ (by simp) fun h₈ hz₈ hs₈ => ?_
 replace hz₈ : IsZip h₈ z TI TO (rawInt h₅.objs.size) := hz₈
 have up : ∀ c o, c ≠ z → h₅.get? c = some o → h₈.get? c = some o := fun c o c1 e => hs₈.extBut _ _ c1 (hs₇.extBut _ _ c1 (Heap.get?_push_of_some _ e))
 have hT₈ : IsPair h₈ h₅.objs.size x y := hs₈.extBut _ _ (Nat.ne_of_gt hzlt) (hs₇.extBut _ _ (Nat.ne_of_gt hzlt) (Heap.get?_push_size _ rfl))
 rw [hsz] at hz₈ hT₈
 refine wpAny_pure ⟨_, rfl, ?_⟩
 show Q (.ref h₅.objs.size) _
 rw [hsz]
 exact hQ h₈ hz₈ (up _ _ D.TOz hTO₅) (h1₅.at fun o e => up _ o D.i1z e) (h2₅.at fun o e => up _ o D.i2z e) hT₈ fun c o c1 c2 c3 c4 e => up c o c1 (hk₅ c o c1 c2 c3 c4 e)
theorem zip_end {b1 b2 : Bool} {z TI TO i1 i2 l1 l2 : Addr} {k : Nat} {xs ys : Array Value} {a b : Value} {Q : Fin → Shared → Prop} (hh : A.handled = none) (D : ZipApart z TI TO i1 i2 l1 l2)
  (hz : IsZip s.heap z TI TO .none) (hTI : IsPair s.heap TI (.ref i1) (.ref i2)) (hTO : IsPair s.heap TO a b)
  (h1 : SqIt b1 s.heap i1 l1 k) (h2 : SqIt b2 s.heap i2 l2 k) (hl1 : SqOf b1 s.heap l1 xs) (hl2 : SqOf b2 s.heap l2 ys) (hend : xs[k]? = none ∨ ys[k]? = none)
  (hE : ∀ h' e, (∀ c o, c ≠ z → c ≠ TO → c ≠ i1 → c ≠ i2 → s.heap.get? c = some o → h'.get? c = some o) → (∃ o, h'.get? e = some o ∧ o.cls = .type "StopIteration") → E (.ref e) { s with heap := h' }) :
  wpAny (model prog w) A (Builtin.«zip.__next__» ⟨[.ref z], []⟩) Q E s := by
 refine wpAny_bind (m := field (.ref z) 2) (wpAny_field hz rfl (x := .bool false) rfl ?_)
 refine wpAny_bind (m := field (.ref z) 3) (wpAny_field hz rfl (x := .ref TI) rfl ?_)
 refine wpAny_bind (wpAny_seqItems hTI rfl ?_)
 refine wpAny_bind (m := Builtin.SmallTypes.ownedTupleIsFree (.ref z)) ?_
 unfold Builtin.SmallTypes.ownedTupleIsFree
 refine wpAny_bind (wpAny_field hz rfl (x := .none) rfl (wpAny_pure ?_))
 simp only [if_true]
 refine wpAny_bind (wpAny_rule ?_)
 refine wpAny_bind (wpAny_field hz rfl (x := .ref TO) rfl ?_)
 refine wpAny_bind (wpAny_setField_rec hz (by simp) fun h₁ hz₁ hs₁ => ?_)
 replace hz₁ : IsZip h₁ z TI TO .ellipsis := hz₁
 refine wpAny_bind ?_
 simp only [List.zipIdx_cons, List.zipIdx_nil, List.forIn_cons, List.forIn_nil]
 have k1 : ∀ {c o}, c ≠ z → s.heap.get? c = some o → h₁.get? c = some o := fun c e => hs₁.extBut _ _ c e
 refine wpAny_bind (wpAny_bind (wpAny_onRaise ?_))
 cases hx : xs[k]? with
 | none =>
  refine wpAny_bind (m := Builtin.SmallTypes.nextOf (.ref i1)) (nextOf_sq_end hh (h1.at fun o e => k1 D.i1z e) (hl1.at fun o e => k1 D.l1z e) hx fun h₂ e hs₂ he => ?_)
  obtain ⟨oe, hoe, hce⟩ := he
  have hz₂ : IsZip h₂ z TI TO .ellipsis := hs₂ _ _ D.i1z.symm hz₁
  have hez : e ≠ z := fun x => by subst x; rw [hz₂] at hoe; cases hoe; simp at hce
  exact wpAny_setField_rec hz₂ (by simp) fun h₃ _ hs₃ => hE h₃ e (fun c o c1 _ c3 _ x => hs₃.extBut _ _ c1 (hs₂ _ _ c3 (k1 c1 x))) ⟨oe, hs₃.extBut _ _ hez hoe, hce⟩
 | some x =>
  have hy : ys[k]? = none := by rcases hend with h | h; rw [hx] at h; cases h; exact h
  refine wpAny_bind (m := Builtin.SmallTypes.nextOf (.ref i1)) (nextOf_sq_item (h1.at fun o e => k1 D.i1z e) (hl1.at fun o e => k1 D.l1z e) hx fun h₂ h1₂ hs₂ => wpAny_pure ?_)
  have k2 : ∀ {c o}, c ≠ i1 → h₁.get? c = some o → h₂.get? c = some o := fun c e => hs₂.extBut _ _ c e
  have hTO₂ : IsPair h₂ TO a b := k2 D.TOi1 (k1 D.TOz hTO)
  refine wpAny_bind (wpAny_seqItems hTO₂ rfl ?_)
  refine wpAny_bind (wpAny_updateSeq_pair hTO₂ fun h₃ hTO₃ hs₃ => ?_)
  have k3 : ∀ {c o}, c ≠ TO → h₂.get? c = some o → h₃.get? c = some o := fun c e => hs₃.extBut _ _ c e
  refine wpAny_bind (wpAny_letGo (wpAny_pure ?_))
  refine wpAny_bind (wpAny_bind (wpAny_onRaise ?_))
  refine wpAny_bind (m := Builtin.SmallTypes.nextOf (.ref i2)) (nextOf_sq_end hh (h2.at fun o e => k3 D.TOi2.symm (k2 D.i12.symm (k1 D.i2z e))) (hl2.at fun o e => k3 D.l2TO (k2 D.l2i1 (k1 D.l2z e))) hy fun h₄ e hs₄ he => ?_)
  obtain ⟨oe, hoe, hce⟩ := he
  have hz₄ : IsZip h₄ z TI TO .ellipsis := hs₄ _ _ D.i2z.symm (k3 D.TOz.symm (k2 D.i1z.symm hz₁))
  have hez : e ≠ z := fun x => by subst x; rw [hz₄] at hoe; cases hoe; simp at hce
  exact wpAny_setField_rec hz₄ (by simp) fun h₅ _ hs₅ => hE h₅ e (fun c o c1 c2 c3 c4 x => hs₅.extBut _ _ c1 (hs₄ _ _ c4 (k3 c2 (k2 c3 (k1 c1 x))))) ⟨oe, hs₅.extBut _ _ hez hoe, hce⟩
theorem pyNext_zip_item {b1 b2 : Bool} {z TI TO i1 i2 l1 l2 : Addr} {k : Nat} {xs ys : Array Value} {x y a b : Value} {Q : Option Value → Shared → Prop} (D : ZipApart z TI TO i1 i2 l1 l2)
  (hz : IsZip s.heap z TI TO .none) (hTI : IsPair s.heap TI (.ref i1) (.ref i2)) (hTO : IsPair s.heap TO a b)
  (h1 : SqIt b1 s.heap i1 l1 k) (h2 : SqIt b2 s.heap i2 l2 k) (hl1 : SqOf b1 s.heap l1 xs) (hl2 : SqOf b2 s.heap l2 ys) (hx : xs[k]? = some x) (hy : ys[k]? = some y)
  (hQ : ∀ h', IsZip h' z TI TO (rawInt s.heap.objs.size) → IsPair h' TO x y → SqIt b1 h' i1 l1 (k + 1) → SqIt b2 h' i2 l2 (k + 1) → IsPair h' s.heap.objs.size x y →
   (∀ c o, c ≠ z → c ≠ TO → c ≠ i1 → c ≠ i2 → s.heap.get? c = some o → h'.get? c = some o) → Q (some (.ref s.heap.objs.size)) { s with heap := h' }) : wpAny (model prog w) A (pyNext (.ref z)) Q E s := by
 have hT : s.TypeIs (.ref z) "zip" := ⟨_, hz, rfl⟩
 unfold pyNext
 exact wpAny_bind (wpAny_attempt (wpAny_callSpecial?_slot (name := Str.ofString "__next__") hT F.slot_zip_next
  (wpAny_call_entry F.slot_zip_next hT F.entry_zip_next (zip_item D hz hTI hTO h1 h2 hl1 hl2 hx hy fun h' a1 a2 a3 a4 a5 a6 => wpAny_pure (hQ h' a1 a2 a3 a4 a5 a6)) (F.args_zip_next_1 _))))
theorem pyNext_zip_end {b1 b2 : Bool} {z TI TO i1 i2 l1 l2 : Addr} {k : Nat} {xs ys : Array Value} {a b : Value} {Q : Option Value → Shared → Prop} (hh : A.handled = none) (D : ZipApart z TI TO i1 i2 l1 l2)
  (hz : IsZip s.heap z TI TO .none) (hTI : IsPair s.heap TI (.ref i1) (.ref i2)) (hTO : IsPair s.heap TO a b)
  (h1 : SqIt b1 s.heap i1 l1 k) (h2 : SqIt b2 s.heap i2 l2 k) (hl1 : SqOf b1 s.heap l1 xs) (hl2 : SqOf b2 s.heap l2 ys) (hend : xs[k]? = none ∨ ys[k]? = none)
  (hQ : ∀ h', (∀ c o, c ≠ z → c ≠ TO → c ≠ i1 → c ≠ i2 → s.heap.get? c = some o → h'.get? c = some o) → Q none { s with heap := h' }) : wpAny (model prog w) A (pyNext (.ref z)) Q E s := by
 have hT : s.TypeIs (.ref z) "zip" := ⟨_, hz, rfl⟩
 unfold pyNext
 refine wpAny_bind (wpAny_attempt (wpAny_callSpecial?_slot (name := Str.ofString "__next__") hT F.slot_zip_next
  (wpAny_call_entry F.slot_zip_next hT F.entry_zip_next (zip_end hh D hz hTI hTO h1 h2 hl1 hl2 hend fun h' e hk he => ?_) (F.args_zip_next_1 _))))
 obtain ⟨o, ho, hc⟩ := he
 exact wpAny_bind (wpAny_isInstance (T := "StopIteration") (b := true) ⟨o, ho, hc⟩ isSubtype_stop (wpAny_pure (hQ _ hk)))
noncomputable def sqObj (b : Bool) (l : Addr) : Obj := { cls := .type (if b then "list_iterator" else "tuple_iterator"), data := .fields #[.ref l, .int 0 0] }
theorem pyIter_sq {b : Bool} {l : Addr} {xs : Array Value} {Q : Value → Shared → Prop} (hl : SqOf b s.heap l xs) (hQ : Q (.ref s.heap.objs.size) { s with heap := s.heap.push (sqObj b l) }) : wpAny (model prog w) A (pyIter (.ref l)) Q E s := by
 cases b with
 | true => exact wpAny_pyIter_list hl hQ
 | false => exact wpAny_pyIter_tuple hl hQ
theorem sqObj_it {b : Bool} {h : Heap} {l i : Addr} (g : h.get? i = some (sqObj b l)) : SqIt b h i l 0 := by
 cases b with
 | true => exact ⟨_, g, rfl, rfl⟩
 | false => exact ⟨_, g, rfl, rfl⟩
end
end Mine
namespace Mine
open PySem PySem.Calls PyProof.Rows
noncomputable abbrev zH1 (h : Heap) (b1 : Bool) (l1 : Addr) : Heap := h.push (sqObj b1 l1)
noncomputable abbrev zH2 (h : Heap) (b1 b2 : Bool) (l1 l2 : Addr) : Heap := (zH1 h b1 l1).push (sqObj b2 l2)
noncomputable abbrev zH3 (h : Heap) (b1 b2 : Bool) (l1 l2 : Addr) : Heap := (zH2 h b1 b2 l1 l2).push { cls := .type "tuple", data := .seq #[.ref h.objs.size, .ref (zH1 h b1 l1).objs.size] }
noncomputable abbrev zH4 (h : Heap) (b1 b2 : Bool) (l1 l2 : Addr) : Heap := (zH3 h b1 b2 l1 l2).push { cls := .type "tuple", data := .seq #[.none, .none] }
noncomputable abbrev zH5 (h : Heap) (b1 b2 : Bool) (l1 l2 : Addr) : Heap := (zH4 h b1 b2 l1 l2).push { cls := .type "zip", data := .fields #[.none, .bool false, .bool false, .ref (zH2 h b1 b2 l1 l2).objs.size, .ref (zH3 h b1 b2 l1 l2).objs.size] }
theorem SqOf.push {b : Bool} {h : Heap} {l : Addr} {xs : Array Value} (x : SqOf b h l xs) (o : Obj) : SqOf b (h.push o) l xs := x.at fun _ e => Heap.get?_push_of_some _ e
theorem SqOf.lt {b : Bool} {h : Heap} {l : Addr} {xs : Array Value} (x : SqOf b h l xs) : l < h.objs.size := by
 cases b with
 | true => obtain ⟨o, g, _⟩ := x; exact Heap.lt_size g
 | false => obtain ⟨o, g, _⟩ := x; exact Heap.lt_size g
theorem meets_zip (b1 b2 : Bool) (l1 l2 : Addr) (xs ys : Array Value) :
  Meets (Builtin.«zip.__new__» ⟨[.type "zip", .ref l1, .ref l2], []⟩) (fun _ R s => SqOf b1 s.heap l1 xs ∧ SqOf b2 s.heap l2 ys ∧
   R (.ok (.ret (.ref (zH4 s.heap b1 b2 l1 l2).objs.size))) { s with heap := zH5 s.heap b1 b2 l1 l2 }) :=
 .of_wp fun prog w A R s h => by
  obtain ⟨hp, g, d, tk, os⟩ := s; obtain ⟨hl1, hl2, h⟩ := h
  have hsub := sub_zip
  have hL1 : SqOf b1 (Shared.heap ⟨hp, g, d, tk, os⟩) l1 xs := hl1
  have hL2 : SqOf b2 (Shared.heap ⟨hp.push (sqObj b1 l1), g, d, tk, os⟩) l2 ys := hl2.push _
  wp_walk using pyIter_sq hL1, pyIter_sq hL2
  exact ⟨_, rfl, h⟩
section
variable {prog : Program} {w : World} {A : Around} {E : Value → Shared → Prop} {s : Shared}
theorem call_zip {b1 b2 : Bool} {l1 l2 : Addr} {xs ys : Array Value} {Q : Value → Shared → Prop} (hl1 : SqOf b1 s.heap l1 xs) (hl2 : SqOf b2 s.heap l2 ys)
  (h : ∀ h', IsZip h' (s.heap.objs.size + 4) (s.heap.objs.size + 2) (s.heap.objs.size + 3) .none → IsPair h' (s.heap.objs.size + 2) (.ref s.heap.objs.size) (.ref (s.heap.objs.size + 1)) →
   IsPair h' (s.heap.objs.size + 3) .none .none → SqIt b1 h' s.heap.objs.size l1 0 → SqIt b2 h' (s.heap.objs.size + 1) l2 0 →
   (∀ c o, s.heap.get? c = some o → h'.get? c = some o) → Q (.ref (s.heap.objs.size + 4)) { s with heap := h' }) :
  wpAny (model prog w) A (call (.type "zip") [.ref l1, .ref l2]) Q E s := by
 refine callType_new F.called_zip (by decide) (F.typeCall_zip_2 _ _) (F.newCall_zip_2 _ _) (fun obj => F.args_object_init_3 obj _ _) F.entry_zip_new
  (meets_zip b1 b2 l1 l2 xs ys) ⟨hl1, hl2, ?_⟩
 have z1 : (zH1 s.heap b1 l1).objs.size = s.heap.objs.size + 1 := Heap.size_push ..
 have z2 : (zH2 s.heap b1 b2 l1 l2).objs.size = s.heap.objs.size + 2 := by rw [Heap.size_push, z1]
 have z3 : (zH3 s.heap b1 b2 l1 l2).objs.size = s.heap.objs.size + 3 := by rw [Heap.size_push, z2]
 have z4 : (zH4 s.heap b1 b2 l1 l2).objs.size = s.heap.objs.size + 4 := by rw [Heap.size_push, z3]
 have g5 : (zH5 s.heap b1 b2 l1 l2).get? (zH4 s.heap b1 b2 l1 l2).objs.size = some _ := Heap.get?_push_size _ rfl
 have g4 : (zH5 s.heap b1 b2 l1 l2).get? (zH3 s.heap b1 b2 l1 l2).objs.size = some _ := Heap.get?_push_of_some _ (Heap.get?_push_size _ rfl)
 have g3 : (zH5 s.heap b1 b2 l1 l2).get? (zH2 s.heap b1 b2 l1 l2).objs.size = some _ := Heap.get?_push_of_some _ (Heap.get?_push_of_some _ (Heap.get?_push_size _ rfl))
 have g2 : (zH5 s.heap b1 b2 l1 l2).get? (zH1 s.heap b1 l1).objs.size = some (sqObj b2 l2) := Heap.get?_push_of_some _ (Heap.get?_push_of_some _ (Heap.get?_push_of_some _ (Heap.get?_push_size _ rfl)))
 have g1 : (zH5 s.heap b1 b2 l1 l2).get? s.heap.objs.size = some (sqObj b1 l1) := Heap.get?_push_of_some _ (Heap.get?_push_of_some _ (Heap.get?_push_of_some _ (Heap.get?_push_of_some _ (Heap.get?_push_size _ rfl))))
 show _ ∧ _
 rw [z2, z3, z4] at g5
 rw [z1, z2] at g3
 rw [z3] at g4
 rw [z1] at g2
 rw [z4]
 exact ⟨⟨_, g5, rfl⟩, h _ g5 g3 g4 (sqObj_it g1) (sqObj_it g2) fun c o x =>
  Heap.get?_push_of_some _ (Heap.get?_push_of_some _ (Heap.get?_push_of_some _ (Heap.get?_push_of_some _ (Heap.get?_push_of_some _ x))))⟩
end
inductive SD where
 | lst (ds : List D)
 | tup (ds : List D)
 | ref (a : Addr) (ds : List D)
noncomputable def SD.d : SD → D
 | .lst ds => .lst ds
 | .tup ds => .tup ds
 | .ref a _ => .ref a
noncomputable def SD.ds : SD → List D
 | .lst ds => ds
 | .tup ds => ds
 | .ref _ ds => ds
noncomputable def SD.isL : SD → Bool
 | .tup _ => false
 | _ => true
noncomputable def SD.inv : SD → Sto → Prop
 | .ref a ds, σ => (a, O.lst ds) ∈ σ
 | _, _ => True
noncomputable def SD.Fz (sd : SD) (K : List Addr) (h : Heap) (l : Addr) : Prop := match sd with
 | .lst ds => l ∉ K ∧ ∃ vs n, h.get? l = some (lstObj vs n) ∧ Vs K h ds vs
 | .tup ds => l ∉ K ∧ ∃ vs n, h.get? l = some (tupObj vs n) ∧ Vs K h ds vs
 | .ref a _ => l = a
theorem SD.Fz.move {sd : SD} {K K' : List Addr} {h h' : Heap} {l : Addr} (x : sd.Fz K h l) (sy : Stay K h h') (hl : Less K K' h) : sd.Fz K' h' l := by
 cases sd with
 | lst ds => obtain ⟨a, vs, n, g, r⟩ := x; exact ⟨hl.nin a g, vs, n, sy _ _ a g, Vs.move sy hl _ _ r⟩
 | tup ds => obtain ⟨a, vs, n, g, r⟩ := x; exact ⟨hl.nin a g, vs, n, sy _ _ a g, Vs.move sy hl _ _ r⟩
 | ref a ds => exact x
theorem SD.Fz.get {c : Cx} {A : Around} {fr : List Addr} {σ : Sto} {sd : SD} {h : Heap} {l : Addr} (x : sd.Fz (keys σ ++ fr) h l) (ok : Ok c A fr σ h) (inv : sd.inv σ) : ∃ vs : List Value, SqOf sd.isL h l vs.toArray ∧ Vs (keys σ ++ fr) h sd.ds vs := by
 cases sd with
 | lst ds => obtain ⟨a, vs, n, g, r⟩ := x; exact ⟨vs, ⟨_, g, rfl, n, rfl⟩, r⟩
 | tup ds => obtain ⟨a, vs, n, g, r⟩ := x; exact ⟨vs, ⟨_, g, rfl, n, rfl⟩, r⟩
 | ref a ds =>
  obtain ⟨vs, n, g, r⟩ := ok.sto _ inv
  obtain rfl : l = a := x
  exact ⟨vs, ⟨_, g, rfl, n, rfl⟩, r⟩
theorem SD.of_v {sd : SD} {K : List Addr} {h : Heap} {v : Value} (x : V K h sd.d v) : ∃ l, v = .ref l ∧ sd.Fz K h l := by
 cases sd with
 | lst ds => simp only [SD.d] at x; unfold V at x; obtain ⟨a, vs, n, rfl, hk, g, r⟩ := x; exact ⟨a, rfl, hk, vs, n, g, r⟩
 | tup ds => simp only [SD.d] at x; unfold V at x; obtain ⟨a, vs, n, rfl, hk, g, r⟩ := x; exact ⟨a, rfl, hk, vs, n, g, r⟩
 | ref a ds => simp only [SD.d] at x; unfold V at x; exact ⟨a, x, rfl⟩
section
variable {c : Cx} {A : Around} {fr : List Addr} {σ : Sto} {X : Addr → Sto → Prop} {env : Env} {m : Vars}
theorem store_two {x y : Str} {px py tp : Pos} {k : Nat} {d1 d2 : D} {v1 v2 : Value} {T : Addr} {s : Shared} {F : List Addr} {Q : Unit → Shared → Prop} {E : Value → Shared → Prop} (hh : A.handled = none) (ok : Ok c A fr σ s.heap) (f : Fm env m fr (keys σ ++ fr) s.heap) (hT : IsPair s.heap T v1 v2)
  (hV1 : V (keys σ ++ fr) s.heap d1 v1) (hV2 : V (keys σ ++ fr) s.heap d2 v2) (hk1 : env.kindOf x = some .local ∨ env.kindOf x = some .cell) (hk2 : env.kindOf y = some .local ∨ env.kindOf y = some .cell)
  (hF : ∀ a, a ∈ tight env x ∨ a ∈ tight env y → a ∈ F)
  (h : ∀ h' tk, Fm env ((y, d2) :: (x, d1) :: m) fr (keys σ ++ fr) h' → Ok c A fr σ h' → Post F fr σ s { s with heap := h', toks := tk } σ → Q () { s with heap := h', toks := tk }) :
  wpAny (model c.prog c.w) A (assign (.Tuple [.Name x px, .Name y py] k tp) env (.ref T)) Q E s := by
 refine wpAny_assign_Tuple hh (items := #[v1, v2]) ⟨_, hT, rfl, _, rfl⟩ rfl rfl fun h1 he1 => ?_
 have k1 : ∀ b o, s.heap.get? b = some o → h1.get? b = some o := fun b o e => he1 b o (heap_ne e) e
 have ok1 := ok.keeps k1
 have p1 : Post [] fr σ s { s with heap := h1, toks := s.toks } σ := Post.keeps k1
 have f1 : Fm env m fr (keys σ ++ fr) h1 := Fm.move (s := s) (s' := { s with heap := h1, toks := s.toks }) f p1
 show wpAny _ _ (holding [v2] (assign (.Name x px) env v1) >>= fun _ => assignInOrder [assign (.Name y py) env] [v2]) _ _ _
 refine wpAny_bind (wpAny_holding (wpAny_assign_Name ?_))
 refine store_fine (F := F) (s := { s with heap := h1 }) ok1 f1 (V.move p1.stay p1.less _ _ hV1) hk1 ⟨fun z => hF _ (.inl (tight_ok.1 z)), fun z cc e => hF _ (.inl (tight_ok.2 z cc e))⟩ fun h2 tk2 fm2 ok2 p2 => ?_
 show wpAny _ _ (holding [] (assign (.Name y py) env v2) >>= fun _ => assignInOrder [] []) _ _ _
 refine wpAny_bind (wpAny_holding (wpAny_assign_Name ?_))
 refine store_fine (F := F) (s := { s with heap := h2, toks := tk2 }) ok2 fm2 (V.move p2.stay p2.less _ _ (V.move p1.stay p1.less _ _ hV2)) hk2 ⟨fun z => hF _ (.inr (tight_ok.1 z)), fun z cc e => hF _ (.inr (tight_ok.2 z cc e))⟩ fun h3 tk3 fm3 ok3 p3 => ?_
 exact wpAny_pure (h h3 tk3 fm3 ok3 (((p1.wide (by simp)).trans p2).trans p3))
theorem pair_nd {h : Heap} {T : Addr} {a b : Value} (x : IsPair h T a b) {o : Obj} (g : h.get? T = some o) : ∀ es n, o.data ≠ .dict es n := fun es n e => by rw [x] at g; cases g; cases e
theorem zip_nd {h : Heap} {z TI TO : Addr} {f0 : Value} (x : IsZip h z TI TO f0) {o : Obj} (g : h.get? z = some o) : ∀ es n, o.data ≠ .dict es n := fun es n e => by rw [x] at g; cases g; cases e
theorem sqit_nd {b : Bool} {h : Heap} {i l : Addr} {k : Nat} (x : SqIt b h i l k) {o : Obj} (g : h.get? i = some o) : ∀ es n, o.data ≠ .dict es n := fun es n e => by
 obtain ⟨o', vs, g', d'⟩ := x.there
 rw [g'] at g; cases g; rw [d'] at e; cases e
noncomputable def ZipSt (sd1 sd2 : SD) (z TI TO i1 i2 l1 l2 : Addr) (f0 : Value) (i : Nat) (K : List Addr) (h : Heap) : Prop :=
 IsZip h z TI TO f0 ∧ IsPair h TI (.ref i1) (.ref i2) ∧ (∃ a b, IsPair h TO a b) ∧ SqIt sd1.isL h i1 l1 i ∧ SqIt sd2.isL h i2 l2 i ∧ sd1.Fz K h l1 ∧ sd2.Fz K h l2
theorem ZipSt.nd {sd1 sd2 : SD} {z TI TO i1 i2 l1 l2 : Addr} {f0 : Value} {i : Nat} {K : List Addr} {h : Heap} (x : ZipSt sd1 sd2 z TI TO i1 i2 l1 l2 f0 i K h) : ∀ b ∈ [z, TI, TO, i1, i2], ∀ o, h.get? b = some o → ∀ es n, o.data ≠ .dict es n := fun b hb o g => by
 obtain ⟨a1, a2, ⟨_, _, a3⟩, a4, a5, _⟩ := x
 simp only [List.mem_cons, List.not_mem_nil, or_false] at hb
 rcases hb with rfl | rfl | rfl | rfl | rfl
 ·exact zip_nd a1 g
 ·exact pair_nd a2 g
 ·exact pair_nd a3 g
 ·exact sqit_nd a4 g
 ·exact sqit_nd a5 g
theorem ZipSt.live {sd1 sd2 : SD} {z TI TO i1 i2 l1 l2 : Addr} {f0 : Value} {i : Nat} {K : List Addr} {h : Heap} (x : ZipSt sd1 sd2 z TI TO i1 i2 l1 l2 f0 i K h) : ∀ b ∈ [z, TI, TO, i1, i2], ∃ o, h.get? b = some o := fun b hb => by
 obtain ⟨a1, a2, ⟨_, _, a3⟩, a4, a5, _⟩ := x
 simp only [List.mem_cons, List.not_mem_nil, or_false] at hb
 rcases hb with rfl | rfl | rfl | rfl | rfl
 ·exact ⟨_, a1⟩
 ·exact ⟨_, a2⟩
 ·exact ⟨_, a3⟩
 ·obtain ⟨o, _, e, _⟩ := a4.there; exact ⟨o, e⟩
 ·obtain ⟨o, _, e, _⟩ := a5.there; exact ⟨o, e⟩
theorem ZipSt.move {sd1 sd2 : SD} {z TI TO i1 i2 l1 l2 : Addr} {f0 : Value} {i : Nat} {K K' : List Addr} {h h' : Heap} (x : ZipSt sd1 sd2 z TI TO i1 i2 l1 l2 f0 i K h) (sy : Stay K h h') (hw : ∀ b ∈ [z, TI, TO, i1, i2], ∀ o, h.get? b = some o → h'.get? b = some o) (hl : Less K K' h) : ZipSt sd1 sd2 z TI TO i1 i2 l1 l2 f0 i K' h' := by
 obtain ⟨a1, a2, ⟨p, q, a3⟩, a4, a5, a6, a7⟩ := x
 exact ⟨hw z (by simp) _ a1, hw TI (by simp) _ a2, ⟨p, q, hw TO (by simp) _ a3⟩, a4.at fun o e => hw i1 (by simp) o e, a5.at fun o e => hw i2 (by simp) o e, a6.move sy hl, a7.move sy hl⟩
theorem Src.zip {x y : Str} {px py tp : Pos} {kt : Nat} {sd1 sd2 : SD} {z TI TO i1 i2 l1 l2 : Addr} (hh : A.handled = none) (D : ZipApart z TI TO i1 i2 l1 l2) :
  Src c A (.Tuple [.Name x px, .Name y py] kt tp) z [z, TI, TO, i1, i2] ((sd1.ds.zip sd2.ds).map fun p => [(y, p.2), (x, p.1)]) (fun σ' => sd1.inv σ' ∧ sd2.inv σ') (ZipSt sd1 sd2 z TI TO i1 i2 l1 l2 .none)
   (fun i K h v => ∃ T v1 v2 d1 d2, v = .ref T ∧ T ∉ [z, TI, TO, i1, i2] ∧ ZipSt sd1 sd2 z TI TO i1 i2 l1 l2 (rawInt T) (i + 1) K h ∧ IsPair h T v1 v2 ∧ sd1.ds[i]? = some d1 ∧ sd2.ds[i]? = some d2 ∧ V K h d1 v1 ∧ V K h d2 v2) where
 nodict := fun i K h st => st.nd
 midnd := fun i K h v st => by obtain ⟨T, v1, v2, d1, d2, _, _, st, _⟩ := st; exact st.nd
 move := fun i K K' h h' st sy hw hl => st.move sy hw hl
 next := fun i σ fr s Q E hi ok st inv hQ => by
  obtain ⟨a1, a2, ⟨p, q, a3⟩, a4, a5, a6, a7⟩ := id st
  obtain ⟨vs1, sq1, hv1⟩ := a6.get ok inv.1
  obtain ⟨vs2, sq2, hv2⟩ := a7.get ok inv.2
  simp only [List.length_map, List.length_zip] at hi
  have hi1 : i < vs1.length := by rw [hv1.length]; omega
  have hi2 : i < vs2.length := by rw [hv2.length]; omega
  refine pyNext_zip_item D a1 a2 a3 a4 a5 sq1 sq2 (x := vs1[i]) (y := vs2[i]) (by simp [hi1]) (by simp [hi2]) fun h' b1 b2 b3 b4 b5 hk => ?_
  obtain ⟨d1, e1, w1⟩ := hv1.get (i := i) (v := vs1[i]) (by simp)
  obtain ⟨d2, e2, w2⟩ := hv2.get (i := i) (v := vs2[i]) (by simp)
  have sy : Stay (keys σ ++ ([z, TI, TO, i1, i2] ++ fr)) s.heap h' := fun b o nb e => hk b o (fun q => nb (by rw [q]; simp)) (fun q => nb (by rw [q]; simp)) (fun q => nb (by rw [q]; simp)) (fun q => nb (by rw [q]; simp)) e
  have ls : Less (keys σ ++ ([z, TI, TO, i1, i2] ++ fr)) (keys σ ++ ([z, TI, TO, i1, i2] ++ fr)) s.heap := fun a ha => .inl ha
  have hTI' : IsPair h' TI (.ref i1) (.ref i2) := hk _ _ D.TIz D.TITO D.TIi1 D.TIi2 a2
  have st' : ZipSt sd1 sd2 z TI TO i1 i2 l1 l2 (rawInt s.heap.objs.size) (i + 1) (keys σ ++ ([z, TI, TO, i1, i2] ++ fr)) h' := ⟨b1, hTI', ⟨_, _, b2⟩, b3, b4, a6.move sy ls, a7.move sy ls⟩
  refine hQ _ h' s.toks ⟨s.heap.objs.size, _, _, d1, d2, rfl, fun hm => ?_, st', b5, e1, e2, V.move sy ls _ _ w1, V.move sy ls _ _ w2⟩ ⟨fun b o nb e => hk b o (fun q => nb (by rw [q]; simp)) (fun q => nb (by rw [q]; simp)) (fun q => nb (by rw [q]; simp)) (fun q => nb (by rw [q]; simp)) e, st'.live⟩
  obtain ⟨o, g⟩ := st.live _ hm
  exact heap_ne g rfl
 put := fun i σ fr F env m v s Q E yy hy mid ok fm hi hkind hF hnd hQ => by
  obtain ⟨T, v1, v2, d1, d2, rfl, hT, st, hp, e1, e2, w1, w2⟩ := mid
  have hy' : yy = [(y, d2), (x, d1)] := by
   rw [List.getElem?_map, (List.getElem?_zip_eq_some (z := (d1, d2))).mpr ⟨e1, e2⟩] at hy
   exact (Option.some.inj hy).symm
  subst hy'
  obtain ⟨a1, a2, ⟨p, q, a3⟩, a4, a5, a6, a7⟩ := id st
  refine wpAny_letOwnedTupleGo_zip a1 fun h1 z1 sb1 => ?_
  have k1 : ∀ b o, b ≠ z → s.heap.get? b = some o → h1.get? b = some o := fun b o nb e => (sb1.2 b nb).trans e
  have ow : Ow [z, TI, TO, i1, i2] s.heap h1 := ⟨fun b o nb e => k1 b o (fun q => nb (by rw [q]; simp)) e, fun b hb => by
   by_cases q : b = z
   ·rw [q]; exact ⟨_, z1⟩
   ·obtain ⟨o, g⟩ := st.live b hb; exact ⟨o, k1 b o q g⟩⟩
  have ok1 : Ok c A ([z, TI, TO, i1, i2] ++ fr) σ h1 := ok.ow hnd ow
  have ndw := ok.nd
  rw [List.nodup_append, List.nodup_append] at ndw
  have nfw : ∀ a ∈ fr, a ∉ [z, TI, TO, i1, i2] := fun a ha hw => ndw.2.1.2.2 a hw a ha rfl
  have fm1 := fm.ow (fun b hb => List.mem_append_right _ (List.mem_append_left _ hb)) ⟨nfw _ hi.1, fun q hq => nfw _ (hi.2 q hq)⟩ ow
  have sy1 : Stay (keys σ ++ ([z, TI, TO, i1, i2] ++ fr)) s.heap h1 := fun b o nb e => k1 b o (fun q => nb (by rw [q]; simp)) e
  have ls : Less (keys σ ++ ([z, TI, TO, i1, i2] ++ fr)) (keys σ ++ ([z, TI, TO, i1, i2] ++ fr)) s.heap := fun a ha => .inl ha
  have hTz : T ≠ z := fun q => hT (by rw [q]; simp)
  have st1 : ZipSt sd1 sd2 z TI TO i1 i2 l1 l2 .none (i + 1) (keys σ ++ ([z, TI, TO, i1, i2] ++ fr)) h1 :=
   ⟨z1, k1 _ _ D.TIz a2, ⟨p, q, k1 _ _ D.TOz a3⟩, a4.at fun o e => k1 _ o D.i1z e, a5.at fun o e => k1 _ o D.i2z e, a6.move sy1 ls, a7.move sy1 ls⟩
  have tin : ∀ a, a ∈ tight env x ∨ a ∈ tight env y → a ∈ F := fun a ha => by
   rcases ha with ha | ha
   ·rcases tight_mem ha with z | ⟨kk, e⟩
    ·rw [z]; exact hF.1
    ·exact hF.2 (x, d1) (by simp) kk _ e
   ·rcases tight_mem ha with z | ⟨kk, e⟩
    ·rw [z]; exact hF.1
    ·exact hF.2 (y, d2) (by simp) kk _ e
  have tfr : ∀ a, a ∈ tight env x ∨ a ∈ tight env y → a ∈ fr := fun a ha => by
   rcases ha with ha | ha
   ·rcases tight_mem ha with z | ⟨kk, e⟩
    ·rw [z]; exact hi.1
    ·exact hi.2 _ (mem_of_lookup e)
   ·rcases tight_mem ha with z | ⟨kk, e⟩
    ·rw [z]; exact hi.1
    ·exact hi.2 _ (mem_of_lookup e)
  refine store_two (F := tight env x ++ tight env y) (s := { s with heap := h1 }) hh ok1 fm1 (k1 _ _ hTz hp) (V.move sy1 ls _ _ w1) (V.move sy1 ls _ _ w2) (hkind (x, d1) (by simp)) (hkind (y, d2) (by simp)) (fun a ha => by simpa [List.mem_append] using ha) fun h2 tk2 fm2 ok2 p2 => ?_
  have kw : ∀ b ∈ [z, TI, TO, i1, i2], ∀ o, h1.get? b = some o → h2.get? b = some o := fun b hb o g => by
   obtain ⟨sl, e1, r1⟩ := p2.slots b o (List.mem_append_left _ hb) (fun q => nfw b (tfr b (by simpa [List.mem_append] using q)) hb) g
   have := r1 (st1.nd b hb o g)
   subst this; exact e1
  refine hQ h2 tk2 (st1.move p2.stay kw p2.less) fm2 ok2 ?_
  have pa : Post ([z, TI, TO, i1, i2] ++ F) ([z, TI, TO, i1, i2] ++ fr) σ s { s with heap := h1, toks := s.toks } σ := Post.ow ow
  exact pa.trans (p2.wide fun a ha => List.mem_append_right _ (tin a (by simpa [List.mem_append] using ha)))
 done := fun σ fr s Q E ok st inv hQ => by
  obtain ⟨a1, a2, ⟨p, q, a3⟩, a4, a5, a6, a7⟩ := id st
  obtain ⟨vs1, sq1, hv1⟩ := a6.get ok inv.1
  obtain ⟨vs2, sq2, hv2⟩ := a7.get ok inv.2
  have hend : vs1.toArray[((sd1.ds.zip sd2.ds).map fun p => [(y, p.2), (x, p.1)]).length]? = none ∨ vs2.toArray[((sd1.ds.zip sd2.ds).map fun p => [(y, p.2), (x, p.1)]).length]? = none := by
   simp only [List.length_map, List.length_zip, List.getElem?_toArray, List.getElem?_eq_none_iff, hv1.length, hv2.length]
   omega
  exact pyNext_zip_end hh D a1 a2 a3 a4 a5 sq1 sq2 hend fun h' hk => hQ h' s.toks fun b o nb e => hk b o (fun q => nb (by rw [q]; simp)) (fun q => nb (by rw [q]; simp)) (fun q => nb (by rw [q]; simp)) (fun q => nb (by rw [q]; simp)) e
 self := fun i K s Q E st hQ => wpAny_pyIter_zip st.1 hQ
theorem WIt.zip (g : c.Good) (hh : A.handled = none) {f : Str} {fp pos px py tp : Pos} {k : Nat} {e1 e2 : Expr} {x y : Str} {Q : List Vars → (Sto → Prop) → Sto → Prop} (hk : env.kindOf f = some .globalImplicit) (hg : c.mg f = none) (hb : c.mb f = some (.type "zip"))
  (h : WE c A fr env m σ e1 (fun d1 σ1 => WE c A fr env m σ1 e2 (fun d2 σ2 => ∃ sd1 sd2 : SD, d1 = sd1.d ∧ d2 = sd2.d ∧ sd1.inv σ2 ∧ sd2.inv σ2 ∧ Q ((sd1.ds.zip sd2.ds).map fun p => [(y, p.2), (x, p.1)]) (fun σ' => sd1.inv σ' ∧ sd2.inv σ') σ2) X) X) (hp : plainArgs [e1, e2] = true := by rfl) (hdb : (f == ("__debug__" : Str)) = false := by decide) :
  WIt c A fr env m σ (.Call (.Name f fp) [e1, e2] [] pos) (.Tuple [.Name x px, .Name y py] k tp) Q X := by
 refine WIt.callT g hk hg hb (WA.cons (h.mono (fun d1 σ1 q => WA.cons (q.mono (fun d2 σ2 q => WA.nil ?_) fun _ _ y => y) (starEach_cons (env := env) hp).2) fun _ _ y => y) hp) hp hdb
 intro s vals E ok fm hv
 obtain ⟨sd1, sd2, rfl, rfl, inv1, inv2, q⟩ := q
 unfold Vs at hv
 obtain ⟨v1, r, rfl, hv1, hr⟩ := hv
 unfold Vs at hr
 obtain ⟨v2, r, rfl, hv2, hr⟩ := hr
 unfold Vs at hr; subst hr
 obtain ⟨l1, rfl, z1⟩ := SD.of_v hv1
 obtain ⟨l2, rfl, z2⟩ := SD.of_v hv2
 obtain ⟨vs1, sq1, _⟩ := z1.get ok inv1
 obtain ⟨vs2, sq2, _⟩ := z2.get ok inv2
 refine call_zip sq1 sq2 fun h' hz hTI hTO hi1 hi2 hkp => ?_
 refine wpAny_pyIter_zip hz ?_
 have D := zipApart_new sq1.lt sq2.lt
 have fresh : ∀ a ∈ [s.heap.objs.size + 4, s.heap.objs.size + 2, s.heap.objs.size + 3, s.heap.objs.size, s.heap.objs.size + 1], s.heap.get? a = none := fun a ha => by
  simp only [List.mem_cons, List.not_mem_nil, or_false] at ha
  refine none_of_ge ?_
  rcases ha with rfl | rfl | rfl | rfl | rfl
  ·exact Nat.le_add_right ..
  ·exact Nat.le_add_right ..
  ·exact Nat.le_add_right ..
  ·exact Nat.le_refl _
  ·exact Nat.le_add_right ..
 have ls := less_add (σ := σ2) (fr := fr) fresh
 have st : ZipSt sd1 sd2 (s.heap.objs.size + 4) (s.heap.objs.size + 2) (s.heap.objs.size + 3) s.heap.objs.size (s.heap.objs.size + 1) l1 l2 .none 0 (keys σ2 ++ ([s.heap.objs.size + 4, s.heap.objs.size + 2, s.heap.objs.size + 3, s.heap.objs.size, s.heap.objs.size + 1] ++ fr)) h' :=
  ⟨hz, hTI, ⟨_, _, hTO⟩, hi1, hi2, z1.move (fun b o _ e => hkp b o e) ls, z2.move (fun b o _ e => hkp b o e) ls⟩
 refine ⟨_, _, _, _, _, _, rfl, ⟨h', s.toks, rfl⟩, hkp, fresh, st.live, ?_, Src.zip hh D, st, ⟨inv1, inv2⟩, q⟩
 simp only [List.nodup_cons, List.mem_cons, List.not_mem_nil, or_false, not_or, List.nodup_nil, and_true, not_false_eq_true]
 exact ⟨⟨D.TIz.symm, D.TOz.symm, D.i1z.symm, D.i2z.symm⟩, ⟨D.TITO, D.TIi1, D.TIi2⟩, ⟨D.TOi1, D.TOi2⟩, D.i12⟩
end
end Mine
namespace Mine
open PySem PySem.Calls PyProof.Rows
theorem V.ofInt {K : List Addr} {h : Heap} {i : Int} {t : Tok} : V K h (.int i) (.int i t) := by unfold V; exact ⟨t, rfl⟩
theorem V.ofBool {K : List Addr} {h : Heap} {b : Bool} : V K h (.bool b) (.bool b) := by unfold V; rfl
theorem V.ofStr {K : List Addr} {h : Heap} {x : Str} {t : Tok} : V K h (.str x) (.str x t) := by unfold V; exact ⟨t, rfl⟩
theorem V.toInt {K : List Addr} {h : Heap} {i : Int} {v : Value} (x : V K h (.int i) v) : ∃ t, v = .int i t := by unfold V at x; exact x
theorem V.toBool {K : List Addr} {h : Heap} {b : Bool} {v : Value} (x : V K h (.bool b) v) : v = .bool b := by unfold V at x; exact x
theorem V.toStr {K : List Addr} {h : Heap} {x : Str} {v : Value} (y : V K h (.str x) v) : ∃ t, v = .str x t := by unfold V at y; exact y
theorem V.toNone {K : List Addr} {h : Heap} {v : Value} (y : V K h .none v) : v = .none := by unfold V at y; exact y
section
variable {c : Cx} {A : Around} {fr : List Addr} {σ : Sto} {X : Addr → Sto → Prop} {env : Env} {m : Vars} {Q : D → Sto → Prop} {a b : Int}
theorem WB.add (h : Q (.int (a + b)) σ) : WB c A fr σ (binaryOp .Add) (.int a) (.int b) Q X := fun v1 v2 s ok x1 x2 => by
 obtain ⟨t, rfl⟩ := x1.toInt; obtain ⟨u, rfl⟩ := x2.toInt
 exact add_int ⟨_, σ, Post.tok .., ok, V.ofInt, h⟩
theorem WB.sub (h : Q (.int (a - b)) σ) : WB c A fr σ (binaryOp .Sub) (.int a) (.int b) Q X := fun v1 v2 s ok x1 x2 => by
 obtain ⟨t, rfl⟩ := x1.toInt; obtain ⟨u, rfl⟩ := x2.toInt
 exact sub_int ⟨_, σ, Post.tok .., ok, V.ofInt, h⟩
theorem WB.mul (hm : IntMulOk a b) (h : Q (.int (a * b)) σ) : WB c A fr σ (binaryOp .Mult) (.int a) (.int b) Q X := fun v1 v2 s ok x1 x2 => by
 obtain ⟨t, rfl⟩ := x1.toInt; obtain ⟨u, rfl⟩ := x2.toInt
 exact PyProof.Rows.mul_int ⟨_, σ, Post.tok .., ok, V.ofInt, h⟩ hm
theorem log2_small {n : Nat} (h0 : n ≠ 0) (h : n < 2 ^ 64) : n.log2 < 9000 := by
 have : n.log2 < 64 := (Nat.log2_lt h0).mpr h
 exact Nat.lt_trans this (by decide)
theorem WB.fdiv (hb : b ≠ 0) (hs : b.natAbs < 2 ^ 64) (h : Q (.int (a.fdiv b)) σ) : WB c A fr σ (binaryOp .FloorDiv) (.int a) (.int b) Q X := fun v1 v2 s ok x1 x2 => by
 obtain ⟨t, rfl⟩ := x1.toInt; obtain ⟨u, rfl⟩ := x2.toInt
 exact floordiv_int hb ⟨_, σ, Post.tok .., ok, V.ofInt, h⟩ (.inl (PyProof.noPylong_of_log2 (log2_small (by omega) hs)))
theorem WB.mod (hb : b ≠ 0) (hs : b.natAbs < 2 ^ 64) (h : Q (.int (a.fmod b)) σ) : WB c A fr σ (binaryOp .Mod) (.int a) (.int b) Q X := fun v1 v2 s ok x1 x2 => by
 obtain ⟨t, rfl⟩ := x1.toInt; obtain ⟨u, rfl⟩ := x2.toInt
 exact PyProof.Rows.mod_int hb ⟨_, σ, Post.tok .., ok, V.ofInt, h⟩
theorem WB.lt (h : Q (.bool (decide (a < b))) σ) : WB c A fr σ (compareOp .Lt) (.int a) (.int b) Q X := fun v1 v2 s ok x1 x2 => by
 obtain ⟨t, rfl⟩ := x1.toInt; obtain ⟨u, rfl⟩ := x2.toInt
 exact PyProof.Rows.lt_int ⟨_, σ, Post.refl .., ok, V.ofBool, h⟩
theorem WB.le (h : Q (.bool (decide (a ≤ b))) σ) : WB c A fr σ (compareOp .LtE) (.int a) (.int b) Q X := fun v1 v2 s ok x1 x2 => by
 obtain ⟨t, rfl⟩ := x1.toInt; obtain ⟨u, rfl⟩ := x2.toInt
 exact PyProof.Rows.le_int ⟨_, σ, Post.refl .., ok, V.ofBool, h⟩
theorem WB.gt (h : Q (.bool (decide (b < a))) σ) : WB c A fr σ (compareOp .Gt) (.int a) (.int b) Q X := fun v1 v2 s ok x1 x2 => by
 obtain ⟨t, rfl⟩ := x1.toInt; obtain ⟨u, rfl⟩ := x2.toInt
 exact PyProof.Rows.gt_int ⟨_, σ, Post.refl .., ok, V.ofBool, h⟩
theorem WB.eqI (h : Q (.bool (a == b)) σ) : WB c A fr σ (compareOp .Eq) (.int a) (.int b) Q X := fun v1 v2 s ok x1 x2 => by
 obtain ⟨t, rfl⟩ := x1.toInt; obtain ⟨u, rfl⟩ := x2.toInt
 exact PyProof.Rows.eq_int ⟨_, σ, Post.refl .., ok, V.ofBool, h⟩
theorem WB.neI (h : Q (.bool (a != b)) σ) : WB c A fr σ (compareOp .NotEq) (.int a) (.int b) Q X := fun v1 v2 s ok x1 x2 => by
 obtain ⟨t, rfl⟩ := x1.toInt; obtain ⟨u, rfl⟩ := x2.toInt
 exact PyProof.Rows.ne_int ⟨_, σ, Post.refl .., ok, V.ofBool, h⟩
theorem WU.neg (h : Q (.int (-a)) σ) : WU c A fr σ (unaryOp .USub) (.int a) Q X := fun v1 s ok x1 => by
 obtain ⟨t, rfl⟩ := x1.toInt
 exact PyProof.Rows.neg_int ⟨_, σ, Post.tok .., ok, V.ofInt, h⟩
theorem WE.nType (g : c.Good) {f : Str} {fp : Pos} {T : String} (hk : env.kindOf f = some .globalImplicit) (hg : c.mg f = Option.none) (hb : c.mb f = some (.type T)) (h : Q (.typ T) σ) (hdb : (f == ("__debug__" : Str)) = false := by decide) : WE c A fr env m σ (.Name f fp) Q X := fun s ok fm =>
 Name_function_global fm.kind hk (loadGlobal_builtin (by rw [fm.glob]; exact g.g.keeps ok.base) hg (by rw [fm.bui]; exact g.b.keeps ok.base) hb ⟨_, σ, Post.refl .., ok, by unfold V; rfl, h⟩) hdb
theorem WE.nInt (g : c.Good) {f : Str} {fp : Pos} {i : Int} {t : Tok} (hk : env.kindOf f = some .globalImplicit) (hg : c.mg f = some (.int i t)) (h : Q (.int i) σ) (hdb : (f == ("__debug__" : Str)) = false := by decide) : WE c A fr env m σ (.Name f fp) Q X := fun s ok fm =>
 Name_function_global fm.kind hk (loadGlobal_global (by rw [fm.glob]; exact g.g.keeps ok.base) hg ⟨_, σ, Post.refl .., ok, V.ofInt, h⟩) hdb
end
noncomputable def tyOf (σ : Sto) : D → Option String
 | .none => some "NoneType"
 | .bool _ => some "bool"
 | .int _ => some "int"
 | .str _ => some "str"
 | .tup _ => some "tuple"
 | .lst _ => some "list"
 | .ref a => match σ.lookup a with | some (.lst _) => some "list" | _ => none
 | _ => none
noncomputable def isT (σ : Sto) (T : String) (d : D) : Option Bool := (tyOf σ d).map fun t => t == T || (t == "bool" && T == "int")
theorem mem_of_lookup' {a : Addr} {o : O} : ∀ {σ : Sto}, σ.lookup a = some o → (a, o) ∈ σ
 | [], h => by cases h
 | (b, o') :: r, h => by
  rw [List.lookup_cons] at h
  by_cases q : (a == b) = true
  ·rw [q] at h; cases h; rw [beq_iff_eq.mp q]; exact List.mem_cons_self
  ·simp only [q] at h; exact List.mem_cons_of_mem _ (mem_of_lookup' h)
theorem V.typeIs {c : Cx} {A : Around} {fr : List Addr} {σ : Sto} {s : Shared} {d : D} {v : Value} {t : String} (ok : Ok c A fr σ s.heap) (x : V (keys σ ++ fr) s.heap d v) (e : tyOf σ d = some t) : s.TypeIs v t := by
 cases d with
 | none => cases e; rw [x.toNone]; rfl
 | bool b => cases e; rw [x.toBool]; rfl
 | int i => cases e; obtain ⟨t, rfl⟩ := x.toInt; rfl
 | str y => cases e; obtain ⟨t, rfl⟩ := x.toStr; rfl
 | tup ds => cases e; unfold V at x; obtain ⟨a, vs, n, rfl, _, g, _⟩ := x; exact ⟨_, g, rfl⟩
 | lst ds => cases e; unfold V at x; obtain ⟨a, vs, n, rfl, _, g, _⟩ := x; exact ⟨_, g, rfl⟩
 | ref a =>
  unfold V at x; subst x
  simp only [tyOf] at e
  split at e
  ·rename_i ds hl
   cases e
   obtain ⟨vs, n, g, _⟩ := ok.sto _ (mem_of_lookup' hl)
   exact ⟨_, g, rfl⟩
  ·cases e
 | _ => cases e
noncomputable def isiTypes : List String := ["int", "bool", "list", "tuple", "str"]
noncomputable def isiFrom : List String := ["NoneType", "bool", "int", "str", "tuple", "list"]
theorem isi_meta {T : String} (h : T ∈ isiTypes) : typeOf (.type T) = pure (.type "type") := by
 simp only [isiTypes, List.mem_cons, List.not_mem_nil, or_false] at h
 rcases h with rfl | rfl | rfl | rfl | rfl <;> kernel_rfl
theorem isi_sub {t T : String} (ht : t ∈ isiFrom) (hT : T ∈ isiTypes) : isSubtype (.type t) (.type T) = pure (t == T || (t == "bool" && T == "int")) := by
 simp only [isiTypes, isiFrom, List.mem_cons, List.not_mem_nil, or_false] at ht hT
 rcases ht with rfl | rfl | rfl | rfl | rfl | rfl <;> rcases hT with rfl | rfl | rfl | rfl | rfl <;> (rw [isSubtype_type]; kernel_rfl)
theorem tyOf_mem {σ : Sto} {d : D} {t : String} (h : tyOf σ d = some t) : t ∈ isiFrom := by
 cases d <;> simp only [tyOf] at h
 all_goals first | (cases h; done) | (cases h; decide) | (split at h; (cases h; decide); cases h)
section
variable {c : Cx} {A : Around} {fr : List Addr} {σ : Sto} {X : Addr → Sto → Prop} {env : Env} {m : Vars} {Q : D → Sto → Prop}
theorem call_isi {d : D} {T : String} {b : Bool} {s : Shared} {v : Value} (hT : T ∈ isiTypes) (hb : isT σ T d = some b) (ok : Ok c A fr σ s.heap) (hv : V (keys σ ++ fr) s.heap d v) (h : Q (.bool b) σ) : W c A none fr σ (call (.builtin "isinstance") [v, .type T]) V Q X s := by
 unfold isT at hb
 cases ht : tyOf σ d with
 | none => rw [ht] at hb; cases hb
 | some t =>
  rw [ht] at hb
  have hb' : (t == T || (t == "bool" && T == "int")) = b := Option.some.inj hb
  have hty := hv.typeIs ok ht
  have hm := isi_meta hT
  have hsub := isi_sub (tyOf_mem ht) hT
  rw [hb'] at hsub
  cases b with
  | true => exact call_isinstance (isinstance_true hm hsub) ⟨hty, ⟨_, σ, Post.refl .., ok, V.ofBool, h⟩⟩
  | false =>
   have hne : (Value.type t == Value.type T) = false := by
    simp only [Bool.or_eq_false_iff] at hb'
    have := hb'.1
    simp only [beq_eq_false_iff_ne, ne_eq] at this ⊢
    intro z; exact this (by injection z)
   have hq : Po c A none fr σ s V Q (.bool false) { s with toks := s.toks + 1 } := ⟨_, σ, Post.tok .., ok, V.ofBool, h⟩
   cases d with
   | none => cases ht; rw [hv.toNone]; exact call_isinstance (isinstance_false_none hne hm hsub) hq
   | bool b => cases ht; rw [hv.toBool]; exact call_isinstance (isinstance_false_bool hne hm hsub) hq
   | int i => cases ht; obtain ⟨t, rfl⟩ := hv.toInt; exact call_isinstance (isinstance_false_int hne hm hsub) hq
   | str y => cases ht; obtain ⟨t, rfl⟩ := hv.toStr; exact call_isinstance (isinstance_false_str hne hm hsub) hq
   | tup ds => cases ht; unfold V at hv; obtain ⟨a, vs, n, rfl, _, g, _⟩ := hv; exact call_isinstance (isinstance_false_tuple hne hm hsub) ⟨⟨_, g, rfl⟩, hq⟩
   | lst ds => cases ht; unfold V at hv; obtain ⟨a, vs, n, rfl, _, g, _⟩ := hv; exact call_isinstance (isinstance_false_list hne hm hsub) ⟨⟨_, g, rfl⟩, hq⟩
   | ref a =>
    unfold V at hv; subst hv
    obtain ⟨o, g, hc⟩ := hty
    simp only [tyOf] at ht
    split at ht
    ·cases ht; exact call_isinstance (isinstance_false_list hne hm hsub) ⟨⟨_, g, hc⟩, hq⟩
    ·cases ht
   | _ => cases ht
end
end Mine
namespace Mine
open PySem PySem.Calls PyProof.Rows
section
variable {c : Cx} {A : Around} {fr : List Addr} {σ : Sto} {X : Addr → Sto → Prop} {env : Env} {m : Vars} {Q : D → Sto → Prop}
theorem sd_walk {sd : SD} {v : Value} {s : Shared} {B : Around} (hh : B.handled = none) (ok : Ok c A fr σ s.heap) (hv : V (keys σ ++ fr) s.heap sd.d v) (inv : sd.inv σ) {Qi : Value → Shared → Prop} {E : Value → Shared → Prop}
  (h : ∀ (l I : Addr) (vs : List Value) (St : Nat → Heap → Prop) (h' : Heap), v = .ref l → Walks c.prog c.w B I [I, l] [I] vs.length (fun i v => vs[i]? = some v) St → St 0 h' → (∀ b ∈ [I, l], b < h'.objs.size) → (∀ b o, s.heap.get? b = some o → h'.get? b = some o) → s.heap.get? I = none → Vs (keys σ ++ fr) s.heap sd.ds vs → Qi (.ref I) { s with heap := h' }) :
  wpAny (model c.prog c.w) B (pyIter v) Qi E s := by
 obtain ⟨l, rfl, z⟩ := SD.of_v hv
 obtain ⟨vs, sq, hvs⟩ := z.get ok inv
 refine pyIter_sq sq ?_
 have hlt := sq.lt
 have hne : l ≠ s.heap.objs.size := Nat.ne_of_lt hlt
 have hb : ∀ b ∈ [s.heap.objs.size, l], b < (s.heap.push (sqObj sd.isL l)).objs.size := fun b hb => by
  rw [Heap.size_push]
  simp only [List.mem_cons, List.not_mem_nil, or_false] at hb
  rcases hb with rfl | rfl
  ·exact Nat.lt_succ_self _
  ·exact Nat.lt_succ_of_lt hlt
 have hk : ∀ b o, s.heap.get? b = some o → (s.heap.push (sqObj sd.isL l)).get? b = some o := fun b o e => Heap.get?_push_of_some _ e
 have hI : s.heap.get? s.heap.objs.size = none := none_of_ge (Nat.le_refl _)
 have hit : SqIt sd.isL (s.heap.push (sqObj sd.isL l)) s.heap.objs.size l 0 := sqObj_it (Heap.get?_push_size _ rfl)
 have hsq : SqOf sd.isL (s.heap.push (sqObj sd.isL l)) l vs.toArray := sq.push _
 cases hL : sd.isL with
 | true =>
  rw [hL] at hit hsq hb hk
  have W := Walks.list (prog := c.prog) (w := c.w) hh s.heap.objs.size l hne vs.toArray
  simp only [List.size_toArray, List.getElem?_toArray] at W
  exact h l _ vs _ _ rfl W ⟨hit, hsq⟩ hb hk hI hvs
 | false =>
  rw [hL] at hit hsq hb hk
  have W := Walks.tuple (prog := c.prog) (w := c.w) hh s.heap.objs.size l hne vs.toArray
  simp only [List.size_toArray, List.getElem?_toArray] at W
  exact h l _ vs _ _ rfl W ⟨hit, hsq⟩ hb hk hI hvs
theorem walk_end {s : Shared} {h1 h' : Heap} {I : Addr} {tk : Nat} {v : Value} {d : D} (ok : Ok c A fr σ s.heap) (k1 : ∀ b o, s.heap.get? b = some o → h1.get? b = some o) (hI : s.heap.get? I = none) (k2 : ∀ b o, b ∉ [I] → h1.get? b = some o → h'.get? b = some o)
  (hv : V (keys σ ++ fr) h' d v) (h : Q d σ) : Po c A none fr σ s V Q v { s with heap := h', toks := tk } := by
 have k : ∀ b o, s.heap.get? b = some o → h'.get? b = some o := fun b o e => k2 b o (fun z => by rw [List.mem_singleton.mp z, hI] at e; cases e) (k1 b o e)
 exact ⟨d, σ, Post.keeps k, ok.keeps k, hv, h⟩
theorem ints_get {K : List Addr} {h : Heap} {is : List Int} {vs : List Value} (hv : Vs K h (is.map D.int) vs) {i : Nat} {v : Value} (e : vs[i]? = some v) : ∃ t, v = .int (is[i]?.getD 0) t := by
 obtain ⟨d, hd, hV⟩ := hv.get e
 rw [List.getElem?_map] at hd
 cases hi : is[i]? with
 | none => rw [hi] at hd; cases hd
 | some n => rw [hi] at hd; cases hd; exact hV.toInt
theorem bools_get {K : List Addr} {h : Heap} {bs : List Bool} {vs : List Value} (hv : Vs K h (bs.map D.bool) vs) {i : Nat} {v : Value} (e : vs[i]? = some v) : v = .bool (bs[i]?.getD false) := by
 obtain ⟨d, hd, hV⟩ := hv.get e
 rw [List.getElem?_map] at hd
 cases hi : bs[i]? with
 | none => rw [hi] at hd; cases hd
 | some n => rw [hi] at hd; cases hd; exact hV.toBool
theorem range_all (bs : List Bool) : (List.range bs.length).all (fun i => bs[i]?.getD false) = bs.all id := by
 rw [Bool.eq_iff_iff, List.all_eq_true, List.all_eq_true]
 constructor
 ·intro h b hb
  obtain ⟨i, hi, e⟩ := List.mem_iff_getElem.mp hb
  have := h i (List.mem_range.mpr hi)
  simp only [List.getElem?_eq_getElem hi, Option.getD_some, e] at this
  exact this
 ·intro h i hi
  have hi := List.mem_range.mp hi
  simp only [List.getElem?_eq_getElem hi, Option.getD_some]
  exact h _ (List.getElem_mem hi)
theorem range_any (bs : List Bool) : (List.range bs.length).any (fun i => bs[i]?.getD false) = bs.any id := by
 rw [Bool.eq_iff_iff, List.any_eq_true, List.any_eq_true]
 constructor
 ·rintro ⟨i, hi, h⟩
  have hi := List.mem_range.mp hi
  simp only [List.getElem?_eq_getElem hi, Option.getD_some] at h
  exact ⟨_, List.getElem_mem hi, h⟩
 ·rintro ⟨b, hb, h⟩
  obtain ⟨i, hi, e⟩ := List.mem_iff_getElem.mp hb
  refine ⟨i, List.mem_range.mpr hi, ?_⟩
  simp only [List.getElem?_eq_getElem hi, Option.getD_some, e]
  exact h
theorem call_all {sd : SD} {bs : List Bool} {s : Shared} {v : Value} (hh : A.handled = none) (hd : sd.ds = bs.map D.bool) (inv : sd.inv σ) (ok : Ok c A fr σ s.heap) (hv : V (keys σ ++ fr) s.heap sd.d v) (h : Q (.bool (bs.all id)) σ) : W c A none fr σ (call (.builtin "all") [v]) V Q X s := by
 refine call_all_walk (sd_walk (B := A.in1) hh ok hv inv fun l I vs St h1 e W st hb k1 hI hvs => ?_)
 rw [hd] at hvs
 have hl : vs.length = bs.length := by rw [hvs.length]; simp
 refine ⟨I, _, _, _, _, _, fun i => bs[i]?.getD false, rfl, W, st, fun i v s Q E hp hq => ?_, fun h' tk hk => ?_⟩
 ·rw [bools_get hvs hp]; exact wpAny_truthy_bool hq
 ·refine walk_end ok k1 hI hk V.ofBool ?_
  rw [hl, range_all]; exact h
theorem call_any {sd : SD} {bs : List Bool} {s : Shared} {v : Value} (hh : A.handled = none) (hd : sd.ds = bs.map D.bool) (inv : sd.inv σ) (ok : Ok c A fr σ s.heap) (hv : V (keys σ ++ fr) s.heap sd.d v) (h : Q (.bool (bs.any id)) σ) : W c A none fr σ (call (.builtin "any") [v]) V Q X s := by
 refine call_any_walk (sd_walk (B := A.in1) hh ok hv inv fun l I vs St h1 e W st hb k1 hI hvs => ?_)
 rw [hd] at hvs
 have hl : vs.length = bs.length := by rw [hvs.length]; simp
 refine ⟨I, _, _, _, _, _, fun i => bs[i]?.getD false, rfl, W, st, fun i v s Q E hp hq => ?_, fun h' tk hk => ?_⟩
 ·rw [bools_get hvs hp]; exact wpAny_truthy_bool hq
 ·refine walk_end ok k1 hI hk V.ofBool ?_
  rw [hl, range_any]; exact h
end
end Mine
namespace Mine
open PySem PySem.Calls PyProof.Rows
theorem preSum_get (is : List Int) : ∀ n, n ≤ is.length → preSum (fun i => is[i]?.getD 0) n = (is.take n).sum
 | 0, _ => by simp [preSum]
 | n + 1, h => by
  have hn : n < is.length := h
  rw [preSum, preSum_get is n (Nat.le_of_lt hn), List.take_succ_eq_append_getElem hn, List.sum_append]
  simp [List.getElem?_eq_getElem hn]
noncomputable def minL : List Int → Int
 | [] => 0
 | a :: r => r.foldl min a
noncomputable def maxL : List Int → Int
 | [] => 0
 | a :: r => r.foldl max a
theorem argBest_min (a : Int) (r : List Int) : ∀ n, n < (a :: r).length → ((a :: r)[argBest (fun i j => decide ((a :: r)[i]?.getD 0 < (a :: r)[j]?.getD 0)) n]?.getD 0) = minL ((a :: r).take (n + 1)) ∧ argBest (fun i j => decide ((a :: r)[i]?.getD 0 < (a :: r)[j]?.getD 0)) n ≤ n
 | 0, _ => by simp [argBest, minL]
 | n + 1, h => by
  obtain ⟨ih, ih2⟩ := argBest_min a r n (by exact Nat.not_le.mp fun qz => lin [_,_] [] [(1,.nl (.v 0) (.v 1)),(1,.nt (.a (.v 1) (.n 1)) (.v 0))] rfl qz h)
  have e : (a :: r).take (n + 2) = (a :: r).take (n + 1) ++ [(a :: r)[n + 1]] := List.take_succ_eq_append_getElem h
  have e2 : minL ((a :: r).take (n + 2)) = min (minL ((a :: r).take (n + 1))) ((a :: r)[n + 1]) := by
   rw [e]
   simp only [List.take_succ_cons, minL, List.cons_append, List.foldl_append, List.foldl_cons, List.foldl_nil]
  rw [e2, argBest]
  by_cases q : decide ((a :: r)[n + 1]?.getD 0 < (a :: r)[argBest (fun i j => decide ((a :: r)[i]?.getD 0 < (a :: r)[j]?.getD 0)) n]?.getD 0) = true
  ·rw [if_pos q]
   refine ⟨?_, Nat.le_refl _⟩
   have q' := of_decide_eq_true q
   rw [ih] at q'
   simp only [List.getElem?_eq_getElem h, Option.getD_some] at q' ⊢
   omega
  ·rw [if_neg q]
   refine ⟨?_, Nat.le_succ_of_le ih2⟩
   have q' : ¬ _ := fun z => q (decide_eq_true z)
   rw [ih] at q'
   rw [ih]
   simp only [List.getElem?_eq_getElem h, Option.getD_some] at q'
   omega
theorem argBest_max (a : Int) (r : List Int) : ∀ n, n < (a :: r).length → ((a :: r)[argBest (fun i j => decide ((a :: r)[j]?.getD 0 < (a :: r)[i]?.getD 0)) n]?.getD 0) = maxL ((a :: r).take (n + 1)) ∧ argBest (fun i j => decide ((a :: r)[j]?.getD 0 < (a :: r)[i]?.getD 0)) n ≤ n
 | 0, _ => by simp [argBest, maxL]
 | n + 1, h => by
  obtain ⟨ih, ih2⟩ := argBest_max a r n (by exact Nat.not_le.mp fun qz => lin [_,_] [] [(1,.nl (.v 0) (.v 1)),(1,.nt (.a (.v 1) (.n 1)) (.v 0))] rfl qz h)
  have e : (a :: r).take (n + 2) = (a :: r).take (n + 1) ++ [(a :: r)[n + 1]] := List.take_succ_eq_append_getElem h
  have e2 : maxL ((a :: r).take (n + 2)) = max (maxL ((a :: r).take (n + 1))) ((a :: r)[n + 1]) := by
   rw [e]
   simp only [List.take_succ_cons, maxL, List.cons_append, List.foldl_append, List.foldl_cons, List.foldl_nil]
  rw [e2, argBest]
  by_cases q : decide ((a :: r)[argBest (fun i j => decide ((a :: r)[j]?.getD 0 < (a :: r)[i]?.getD 0)) n]?.getD 0 < (a :: r)[n + 1]?.getD 0) = true
  ·rw [if_pos q]
   refine ⟨?_, Nat.le_refl _⟩
   have q' := of_decide_eq_true q
   rw [ih] at q'
   simp only [List.getElem?_eq_getElem h, Option.getD_some] at q' ⊢
   omega
  ·rw [if_neg q]
   refine ⟨?_, Nat.le_succ_of_le ih2⟩
   have q' : ¬ _ := fun z => q (decide_eq_true z)
   rw [ih] at q'
   rw [ih]
   simp only [List.getElem?_eq_getElem h, Option.getD_some] at q'
   omega
section
variable {c : Cx} {A : Around} {fr : List Addr} {σ : Sto} {X : Addr → Sto → Prop} {env : Env} {m : Vars} {Q : D → Sto → Prop}
theorem call_sum {sd : SD} {is : List Int} {s : Shared} {v : Value} (hh : A.handled = none) (hd : sd.ds = is.map D.int) (inv : sd.inv σ) (ok : Ok c A fr σ s.heap) (hv : V (keys σ ++ fr) s.heap sd.d v) (h : Q (.int is.sum) σ) : W c A none fr σ (call (.builtin "sum") [v]) V Q X s := by
 refine call_sum_walkAnyS (sd_walk (B := A.in1) hh ok hv inv fun l I vs St h1 e W st hb k1 hI hvs => ?_)
 rw [hd] at hvs
 have hl : vs.length = is.length := by rw [hvs.length]; simp
 refine ⟨I, _, _, _, _, _, _, fun i => is[i]?.getD 0, rfl, W.toS, st, hb, fun i v hp => ints_get hvs hp, fun s' t' mv => ?_⟩
 obtain ⟨h2, g2, d2, tk2, os2⟩ := s'
 obtain ⟨a1, a2, a3, a4, a5⟩ := mv
 simp only at a1 a2 a3 a4 a5
 subst a2 a3 a4
 have := walk_end (Q := Q) (tk := tk2) (d := .int is.sum) (v := .int (preSum (fun i => is[i]?.getD 0) vs.length) t') ok k1 hI a1 (by rw [hl, preSum_get is _ (Nat.le_refl _), List.take_length]; exact V.ofInt) h
 exact this
theorem call_min {sd : SD} {is : List Int} {s : Shared} {v : Value} (hh : A.handled = none) (hd : sd.ds = is.map D.int) (hne : is ≠ []) (inv : sd.inv σ) (ok : Ok c A fr σ s.heap) (hv : V (keys σ ++ fr) s.heap sd.d v) (h : Q (.int (minL is)) σ) : W c A none fr σ (call (.builtin "min") [v]) V Q X s := by
 refine call_min_walk (sd_walk (B := A.in1) hh ok hv inv fun l I vs St h1 e W st hb k1 hI hvs => ?_)
 rw [hd] at hvs
 have hl : vs.length = is.length := by rw [hvs.length]; simp
 cases is with
 | nil => exact absurd rfl hne
 | cons a r =>
  refine ⟨I, _, _, _, _, _, fun i j => decide ((a :: r)[i]?.getD 0 < (a :: r)[j]?.getD 0), rfl, W, st, hb, by rw [hl]; simp, fun i j vi vj s Q E h1 h2 hq => ?_, fun v h' tk hp hk => ?_⟩
  ·obtain ⟨t, rfl⟩ := ints_get hvs h1; obtain ⟨u, rfl⟩ := ints_get hvs h2
   exact PyProof.Rows.lt_int hq
  ·obtain ⟨t, rfl⟩ := ints_get hvs hp
   refine walk_end ok k1 hI hk V.ofInt ?_
   have e1 : vs.length - 1 = r.length := by rw [hl]; simp
   have := (argBest_min a r r.length (by simp)).1
   rw [e1, this]
   have e2 : (a :: r).take (r.length + 1) = a :: r := by rw [List.take_of_length_le]; simp
   rw [e2]; exact h
theorem call_max {sd : SD} {is : List Int} {s : Shared} {v : Value} (hh : A.handled = none) (hd : sd.ds = is.map D.int) (hne : is ≠ []) (inv : sd.inv σ) (ok : Ok c A fr σ s.heap) (hv : V (keys σ ++ fr) s.heap sd.d v) (h : Q (.int (maxL is)) σ) : W c A none fr σ (call (.builtin "max") [v]) V Q X s := by
 refine call_max_walk (sd_walk (B := A.in1) hh ok hv inv fun l I vs St h1 e W st hb k1 hI hvs => ?_)
 rw [hd] at hvs
 have hl : vs.length = is.length := by rw [hvs.length]; simp
 cases is with
 | nil => exact absurd rfl hne
 | cons a r =>
  refine ⟨I, _, _, _, _, _, fun i j => decide ((a :: r)[j]?.getD 0 < (a :: r)[i]?.getD 0), rfl, W, st, hb, by rw [hl]; simp, fun i j vi vj s Q E h1 h2 hq => ?_, fun v h' tk hp hk => ?_⟩
  ·obtain ⟨t, rfl⟩ := ints_get hvs h1; obtain ⟨u, rfl⟩ := ints_get hvs h2
   exact PyProof.Rows.gt_int hq
  ·obtain ⟨t, rfl⟩ := ints_get hvs hp
   refine walk_end ok k1 hI hk V.ofInt ?_
   have e1 : vs.length - 1 = r.length := by rw [hl]; simp
   have := (argBest_max a r r.length (by simp)).1
   rw [e1, this]
   have e2 : (a :: r).take (r.length + 1) = a :: r := by rw [List.take_of_length_le]; simp
   rw [e2]; exact h
theorem call_len {sd : SD} {s : Shared} {v : Value} (inv : sd.inv σ) (ok : Ok c A fr σ s.heap) (hv : V (keys σ ++ fr) s.heap sd.d v) (hfit : sd.ds.length < 2 ^ 62) (h : Q (.int sd.ds.length) σ) : W c A none fr σ (call (.builtin "len") [v]) V Q X s := by
 obtain ⟨l, rfl, z⟩ := SD.of_v hv
 obtain ⟨vs, sq, hvs⟩ := z.get ok inv
 have hl := hvs.length
 have hq : Po c A none fr σ s V Q (.int vs.toArray.size (s.toks + 1)) { s with toks := s.toks + 1 + 1 } := ⟨.int sd.ds.length, σ, Post.tok .., ok, by rw [List.size_toArray, hl]; exact V.ofInt, h⟩
 have hfit' : (vs.toArray.size : Int) < 2 ^ 63 := by rw [List.size_toArray, hl]; omega
 cases hL : sd.isL with
 | true => rw [hL] at sq; exact Calls.call_len_list sq hfit' hq
 | false => rw [hL] at sq; exact PyProof.Rows.len_tuple sq hfit' hq
noncomputable def idx (k : Int) (n : Nat) : Nat := if k < 0 then (k + n).toNat else k.toNat
noncomputable def WSb (c : Cx) (A : Around) (fr : List Addr) (σ : Sto) (value slice : Expr) (d1 d2 : D) (Q : D → Sto → Prop) (X : Addr → Sto → Prop) : Prop :=
 ∀ v1 v2 s, Ok c A fr σ s.heap → V (keys σ ++ fr) s.heap d1 v1 → V (keys σ ++ fr) s.heap d2 v2 → W c A none fr σ (subscriptTail value slice v1 v2) V Q X s
theorem WE.sub {value slice : Expr} {pos : Pos} (h : WE c A fr env m σ value (fun d1 σ1 => WE c A fr env m σ1 slice (fun d2 σ2 => WSb c A fr σ2 value slice d1 d2 Q X) X) X) : WE c A fr env m σ (.Subscript value slice pos) Q X := fun s ok fm => by
 refine Subscript_ (wpAny_mono (h s ok fm) (fun v1 s1 ⟨d1, σ1, p1, ok1, x1, q1⟩ => ?_) fun _ _ x => x)
 refine wpAny_mono (q1 s1 ok1 (fm.move p1)) (fun v2 s2 ⟨d2, σ2, p2, ok2, x2, q2⟩ => ?_) fun _ _ x => Ex.back p1 x fun _ _ y => y
 exact wpAny_mono (q2 v1 v2 s2 ok2 (p2.v x1) x2) (fun v3 s3 ⟨d3, σ3, p3, ok3, x3, q3⟩ => ⟨d3, σ3, (p1.trans p2).trans p3, ok3, x3, q3⟩) fun _ _ x => Ex.back (p1.trans p2) x fun _ _ y => y
theorem WSb.item {value slice : Expr} {sd : SD} {k : Int} {d : D} (inv : sd.inv σ) (h0 : -(2 ^ 63) ≤ k) (h1 : k < 2 ^ 63) (hk : -(sd.ds.length : Int) ≤ k) (hi : sd.ds[idx k sd.ds.length]? = some d) (h : Q d σ)
  (hs : ∀ l u, subscripted slice false (.ref l) (.int k u) = operate [.ref l, .int k u] (getItem (.ref l) (.int k u)) := by intro _ _; with_unfolding_all rfl) : WSb c A fr σ value slice sd.d (.int k) Q X := fun v1 v2 s ok x1 x2 => by
 obtain ⟨l, rfl, z⟩ := SD.of_v x1
 obtain ⟨u, rfl⟩ := x2.toInt
 obtain ⟨vs, sq, hvs⟩ := z.get ok inv
 have hl := hvs.length
 obtain ⟨v, e, hV⟩ := hvs.got hi
 have hq : Po c A none fr σ s V Q v s := ⟨d, σ, Post.refl .., ok, hV, h⟩
 unfold idx at e
 cases hL : sd.isL with
 | true =>
  rw [hL] at sq
  refine tail_any sq.typeIs slot_list_getitem.lookup ?_ (hs l u)
  by_cases hneg : k < 0
  ·rw [if_pos hneg] at e
   exact wpAny_getItem_list_neg sq hneg (by rw [List.size_toArray, hl]; exact hk) h0 (by rw [List.size_toArray, hl]; simpa using e) hq
  ·rw [if_neg hneg] at e
   exact wpAny_getItem_list sq (by exact (Int.not_lt.mp hneg)) h1 (by simpa using e) hq
 | false =>
  rw [hL] at sq
  have hj : seqIndex? k vs.length = some (if k < 0 then (k + sd.ds.length).toNat else k.toNat) := by
   rw [hl]
   by_cases hneg : k < 0
   ·rw [if_pos hneg]; exact seqIndex_neg hneg hk
   ·rw [if_neg hneg]
    have hlt : k.toNat < sd.ds.length := by
     unfold idx at hi; rw [if_neg hneg] at hi
     exact (List.getElem?_eq_some_iff.mp hi).1
    have hc : (0 ≤ k ∧ k < (sd.ds.length : Int)) := ⟨by exact (Int.not_lt.mp hneg), by omega⟩
    simp [seqIndex?, hneg, hc.1, hc.2]
  exact item_tupleT (l := vs) sq h0 h1 hj e hq (hs l u)
theorem WE.list {elts : List Expr} {pos : Pos} (h : WA c A fr env m σ elts (fun ds σ1 => ds.length ≤ sizeLine ∧ QL Q ds σ1) X) : WE c A fr env m σ (.List elts pos) Q X := fun s ok fm => by
 refine wpAny_List_spliced (wpAny_mono (h pos s ok fm) (fun vs s1 ⟨ds, σ1, p1, ok1, x1, hl, q1⟩ => ⟨by rw [x1.length]; exact hl, ?_⟩) fun _ _ x => x)
 have hn : ∀ a ∈ [s1.heap.objs.size], s1.heap.get? a = none := fun a ha => by rw [List.mem_singleton.mp ha]; exact none_of_ge (Nat.le_refl _)
 have k1 : ∀ b o, s1.heap.get? b = some o → (s1.heap.push { cls := .type "list", data := .seq vs.toArray }).get? b = some o := fun b o e => Heap.get?_push_of_some _ e
 have g : (s1.heap.push { cls := .type "list", data := .seq vs.toArray }).get? s1.heap.objs.size = some (lstObj vs 0) := Heap.get?_push_size _ rfl
 have oka : Ok c A ([s1.heap.objs.size] ++ fr) σ1 (s1.heap.push { cls := .type "list", data := .seq vs.toArray }) := ok1.more k1 hn (fun a ha => by rw [List.mem_singleton.mp ha]; exact ⟨_, g⟩) (by simp)
 have pf : Post [] fr σ s { s1 with heap := s1.heap.push { cls := .type "list", data := .seq vs.toArray }, toks := s1.toks } σ1 := p1.trans (Post.keeps k1)
 exact QL.use (G := none) (s' := { s1 with heap := s1.heap.push { cls := .type "list", data := .seq vs.toArray }, toks := s1.toks }) q1 pf oka ok1.frames_in g (Vs.move (K := keys σ1 ++ fr) (fun b o _ e => k1 b o e) (less_add hn) _ _ x1) (none_back p1 (hn _ (by simp)))
theorem WE.tuple {elts : List Expr} {k : Nat} {pos : Pos} (h : WA c A fr env m σ elts (fun ds σ1 => ds.length ≤ sizeLine ∧ Q (.tup ds) σ1) X) : WE c A fr env m σ (.Tuple elts k pos) Q X := fun s ok fm => by
 refine wpAny_Tuple_spliced (wpAny_mono (h pos s ok fm) (fun vs s1 ⟨ds, σ1, p1, ok1, x1, hl, q1⟩ => ⟨by rw [x1.length]; exact hl, ?_⟩) fun _ _ x => x)
 have k1 : ∀ b o, s1.heap.get? b = some o → (s1.heap.push { cls := .type "tuple", data := .seq vs.toArray }).get? b = some o := fun b o e => Heap.get?_push_of_some _ e
 refine ⟨.tup ds, σ1, p1.trans (Post.keeps (tk := s1.toks) k1), ok1.keeps k1, ?_, q1⟩
 unfold V
 refine ⟨_, vs, 0, rfl, fun z => ?_, Heap.get?_push_size _ rfl, Vs.move (K := keys σ1 ++ fr) (fun b o _ e => k1 b o e) (fun a ha => .inl ha) _ _ x1⟩
 exact Nat.lt_irrefl _ (ok1.lt z)
theorem call_tuple {sd : SD} {s : Shared} {v : Value} (inv : sd.inv σ) (ok : Ok c A fr σ s.heap) (hv : V (keys σ ++ fr) s.heap sd.d v) (hsz : sd.ds.length ≤ sizeLine) (h : Q (.tup sd.ds) σ) : W c A none fr σ (call (.type "tuple") [v]) V Q X s := by
 obtain ⟨l, rfl, z⟩ := SD.of_v hv
 cases hL : sd.isL with
 | true =>
  obtain ⟨vs, sq, hvs⟩ := z.get ok inv
  rw [hL] at sq
  refine call_tuple_list sq (fun h' hk => ?_) (by simpa [hvs.length] using hsz)
  have k1 : ∀ b o, s.heap.get? b = some o → (h'.push { cls := .type "tuple", data := .seq vs.toArray }).get? b = some o := fun b o e => Heap.get?_push_of_some _ (hk b o e)
  refine ⟨.tup sd.ds, σ, Post.keeps (tk := s.toks) k1, ok.keeps k1, ?_, h⟩
  unfold V
  refine ⟨_, vs, 0, rfl, fun z => ?_, Heap.get?_push_size _ rfl, Vs.move (K := keys σ ++ fr) (fun b o _ e => k1 b o e) (fun a ha => .inl ha) _ _ hvs⟩
  obtain ⟨o, e⟩ := ok.there z
  exact Nat.lt_irrefl _ (Heap.lt_size (hk _ _ e))
 | false =>
  cases sd with
  | tup ds =>
   simp only [SD.d] at hv
   have hv' := hv
   unfold V at hv'
   obtain ⟨a, vs, n, e, hk, g, r⟩ := hv'
   cases e
   exact call_tuple_same ⟨_, g, rfl, n, rfl⟩ ⟨_, σ, Post.refl .., ok, hv, h⟩
  | lst ds => cases hL
  | ref a ds => cases hL
theorem call_list {sd : SD} {s : Shared} {v : Value} (inv : sd.inv σ) (ok : Ok c A fr σ s.heap) (hv : V (keys σ ++ fr) s.heap sd.d v) (hsz : sd.ds.length ≤ sizeLine) (h : QL Q sd.ds σ) : W c A none fr σ (call (.type "list") [v]) V Q X s := by
 obtain ⟨l, rfl, z⟩ := SD.of_v hv
 obtain ⟨vs, sq, hvs⟩ := z.get ok inv
 have hn : ∀ a ∈ [s.heap.objs.size], s.heap.get? a = none := fun a ha => by rw [List.mem_singleton.mp ha]; exact none_of_ge (Nat.le_refl _)
 have fin : ∀ h' c', (∀ b o', s.heap.get? b = some o' → h'.get? b = some o') → h'.get? s.heap.objs.size = some { cls := .type "list", dict := none, data := .seq vs.toArray c', slots := #[] } →
   Po c A none fr σ s V Q (.ref s.heap.objs.size) { s with heap := h' } := fun h' c' k1 g => by
  have oka : Ok c A ([s.heap.objs.size] ++ fr) σ h' := ok.more k1 hn (fun a ha => by rw [List.mem_singleton.mp ha]; exact ⟨_, g⟩) (by simp)
  exact QL.use (G := none) (s' := { s with heap := h', toks := s.toks }) h (Post.keeps k1) oka ok.frames_in g (Vs.move (K := keys σ ++ fr) (fun b o _ e => k1 b o e) (less_add hn) _ _ hvs) (hn _ (by simp))
 have hsz' : vs.toArray.size ≤ sizeLine := by simpa [hvs.length] using hsz
 cases hL : sd.isL with
 | true => rw [hL] at sq; obtain ⟨o, g, hc, n, hd⟩ := sq; exact call_list_seq l (.inl rfl) g hc hd fin hsz'
 | false => rw [hL] at sq; obtain ⟨o, g, hc, n, hd⟩ := sq; exact call_list_seq l (.inr rfl) g hc hd fin hsz'
end
end Mine
namespace Mine
open PySem PySem.Calls PyProof.Rows
theorem Room.mono {n k : Nat} {A : Around} (r : Room n A) (h : k ≤ n) : Room k A := by
 obtain ⟨j, rfl⟩ := Nat.exists_eq_add_of_le h
 exact r.less
theorem kindOf_of {env : Env} {sc : Scope} {x : Str} {k : NameKind} (h : env.scope = sc) (e : sc.names.lookup x = some k) : env.kindOf x = some k := by
 unfold Env.kindOf; rw [h]; exact e
noncomputable def recOf : Stmt → Option PySem.DefRec
 | .FunctionDef name params body _ _ _ scope _ _ pos => some ⟨name, params, body, scope, pos⟩
 | _ => none
structure Tp (c : Cx) (B : List Stmt) (bs : List (Str × Value)) : Prop where
 good : c.Good
 nolimit : c.h0.NoLimit
 fn : ∀ d ∈ B.filterMap recOf, ∃ a o pm code doc, c.mg d.name = some (.ref a) ∧ c.h0.get? a = some o ∧ o.data = .func (docDef d.name d.params d.body d.scope pm code doc) ∧ c.h0.CodeRec code d.name
 bn : ∀ x v, bs.lookup x = some v → c.mg x = none ∧ c.mb x = some v
noncomputable def WF (c : Cx) (P : Around → Prop) (f : Str) (ds : List D) (σ : Sto) (Q : D → Sto → Prop) (X : Addr → Sto → Prop) : Prop :=
 ∀ a, c.mg f = some (.ref a) → WC c P (.ref a) ds σ Q X
noncomputable def Dfn (c : Cx) (f : Str) : Prop := ∃ a o fd, c.mg f = some (.ref a) ∧ c.h0.get? a = some o ∧ o.data = .func fd
noncomputable def fnOk (scope : Scope) (ps : List Str) : Bool :=
 decide ps.Nodup && ps.all (fun x => scope.names.lookup x == some .local || scope.names.lookup x == some .cell) && decide ((cellsFrom 0 scope.names []).map (·.1)).Nodup &&
  scope.names.all (fun y => y.2 != .free) && scope.kind == .function && !scope.isCoroutine && !scope.isGenerator
theorem lookup_mem' {x : Str} {k : NameKind} : ∀ {l : List (Str × NameKind)}, l.lookup x = some k → ∃ y, (y, k) ∈ l
 | [], h => by simp at h
 | (y, j) :: r, h => by
  rw [List.lookup_cons] at h
  split at h
  ·injection h with h; subst h; exact ⟨y, .head _⟩
  ·obtain ⟨z, hz⟩ := lookup_mem' h; exact ⟨z, .tail _ hz⟩
section
variable {c : Cx} {A : Around} {fr : List Addr} {σ : Sto} {X : Addr → Sto → Prop} {Q : D → Sto → Prop} {env : Env} {m : Vars} {B : List Stmt} {bs : List (Str × Value)}
theorem WF.of {d : PySem.DefRec} {ps : List Str} {n : Nat} {f : Str} {ds : List D} (T : Tp c B bs) (hd : d ∈ B.filterMap recOf) (hf : d.name = f)
  (hb : ∀ pm code doc vals, vals.length = ps.length → bindArgs (docDef d.name d.params d.body d.scope pm code doc) ⟨vals, []⟩ = pure (ps.zip vals)) (hok : fnOk d.scope ps = true) (hl : ds.length = ps.length)
  (h : ∀ A fr env, Room n A → env.scope = d.scope → Fe A env d.scope → WS c A (Fa env ++ fr) env (ps.zip ds) σ d.body (fun _ σ' => Q .none σ') Q X) : WF c (Room (n + 1)) f ds σ Q X := fun a ha => by
 subst hf
 obtain ⟨a', o, pm, code, doc, h1, h2, h3, h4⟩ := T.fn d hd
 obtain rfl : a' = a := by rw [h1] at ha; injection ha with ha; injection ha
 simp only [fnOk, Bool.and_eq_true, decide_eq_true_eq, List.all_eq_true, Bool.or_eq_true, beq_iff_eq, bne_iff_ne, Bool.not_eq_true'] at hok
 obtain ⟨⟨⟨⟨⟨⟨k1, k2⟩, k3⟩, k4⟩, k5⟩, k6⟩, k7⟩ := hok
 refine WC.of (P' := Room n) (ps := ps) (body := d.body) (scope := d.scope) ⟨⟨o, _, h2, h3, rfl, rfl, rfl, rfl, rfl, h4, hb pm code doc⟩, T.nolimit, k1, k2, k3, fun x e => ?_, k5, k6, k7⟩ (fun A env r => ⟨?_, r.deeper⟩) hl fun A fr env r fe => h A fr env r fe.scope fe
 ·obtain ⟨y, hy⟩ := lookup_mem' e
  exact k4 _ hy rfl
 ·have := r.1.1
  have e : recursionLimit = 1000 := rfl
  exact Nat.not_le.mp fun qz => lin [_,_,_] [] [(1,.nl (.v 0) (.v 1)),(1,.nf (.v 0) (.n 1000)),(1,.nt (.a (.v 1) (.a (.v 2) (.n 1))) (.n 990))] rfl qz e this
theorem rec_mem {B : List Stmt} {i : Nat} {d : PySem.DefRec} (h : (B[i]?).bind recOf = some d) : d ∈ B.filterMap recOf := by
 obtain ⟨st, h1, h2⟩ := Option.bind_eq_some_iff.mp h
 exact List.mem_filterMap.mpr ⟨st, List.mem_of_getElem? h1, h2⟩
theorem WF.by {name : Str} {params : Arguments} {body : List Stmt} {scope : Scope} {dpos : Pos} (i : Nat) {ps : List Str} {n : Nat} {ds : List D} (T : Tp c B bs) (hd : (B[i]?).bind recOf = some ⟨name, params, body, scope, dpos⟩)
  (hb : ∀ pm code doc vals, vals.length = ps.length → bindArgs (docDef name params body scope pm code doc) ⟨vals, []⟩ = pure (ps.zip vals)) (hok : fnOk scope ps = true) (hl : ds.length = ps.length)
  (h : ∀ A fr env, Room n A → A.handled = none → env.scope = scope → Fe A env scope → WS c A (Fa env ++ fr) env (ps.zip ds) σ body (fun _ σ' => Q .none σ') Q X) : WF c (Room (n + 1)) name ds σ Q X :=
 WF.of T (rec_mem hd) rfl hb hok hl fun A fr env r hs fe => h A fr env r r.2 hs fe
theorem bind1 {name x : Str} {params : Arguments} {body : List Stmt} {scope : Scope} (h : ∀ pm code doc a, bindArgs (docDef name params body scope pm code doc) ⟨[a], []⟩ = pure ([x].zip [a])) : ∀ pm code doc vals, vals.length = [x].length → bindArgs (docDef name params body scope pm code doc) ⟨vals, []⟩ = pure ([x].zip vals) := fun pm code doc vals e => by
 match vals, e with
 | [a], _ => exact h pm code doc a
theorem bind2 {name x y : Str} {params : Arguments} {body : List Stmt} {scope : Scope} (h : ∀ pm code doc a b, bindArgs (docDef name params body scope pm code doc) ⟨[a, b], []⟩ = pure ([x, y].zip [a, b])) : ∀ pm code doc vals, vals.length = [x, y].length → bindArgs (docDef name params body scope pm code doc) ⟨vals, []⟩ = pure ([x, y].zip vals) := fun pm code doc vals e => by
 match vals, e with
 | [a, b], _ => exact h pm code doc a b
theorem bind3 {name x y z : Str} {params : Arguments} {body : List Stmt} {scope : Scope} (h : ∀ pm code doc a b e, bindArgs (docDef name params body scope pm code doc) ⟨[a, b, e], []⟩ = pure ([x, y, z].zip [a, b, e])) : ∀ pm code doc vals, vals.length = [x, y, z].length → bindArgs (docDef name params body scope pm code doc) ⟨vals, []⟩ = pure ([x, y, z].zip vals) := fun pm code doc vals e => by
 match vals, e with
 | [a, b, e], _ => exact h pm code doc a b e
theorem Dfn.by {name : Str} {params : Arguments} {body : List Stmt} {scope : Scope} {dpos : Pos} (i : Nat) (T : Tp c B bs) (hd : (B[i]?).bind recOf = some ⟨name, params, body, scope, dpos⟩) : Dfn c name := by
 obtain ⟨a, o, pm, code, doc, h1, h2, h3, h4⟩ := T.fn _ (rec_mem hd)
 exact ⟨a, o, _, h1, h2, h3⟩
theorem WF.at {k n : Nat} {f : Str} {ds : List D} (h : WF c (Room k) f ds σ Q X) (hk : k ≤ n) : WF c (Room n) f ds σ Q X := fun a ha A fr s vals hA ok hv => h a ha A fr s vals (hA.mono hk) ok hv
theorem WE.callN (T : Tp c B bs) {f : Str} {fp pos : Pos} {args : List Expr} {n : Nat} (r : Room n A) (hk : env.kindOf f = some .globalImplicit) (hf : Dfn c f)
  (h : WA c A fr env m σ args (fun ds σ1 => WF c (Room n) f ds σ1 Q X) X) (hp : plainArgs args = true := by rfl) (hdb : (f == ("__debug__" : Str)) = false := by decide) : WE c A fr env m σ (.Call (.Name f fp) args [] pos) Q X := by
 obtain ⟨a, o, fd, h1, h2, h3⟩ := hf
 exact WE.callF T.good (P := Room n) r hk h1 h2 h3 (fun p s ok fm => (h p s ok fm).mono (fun ds σ1 w => w a h1) fun _ _ x => x) hp hdb
noncomputable def At1 (c : Cx) (A : Around) (fr : List Addr) (σ : Sto) (f : Value) (ds : List D) (Q : D → Sto → Prop) (X : Addr → Sto → Prop) : Prop :=
 ∀ s vals, Ok c A fr σ s.heap → Vs (keys σ ++ fr) s.heap ds vals → W c A none fr σ (call f vals) V Q X s
theorem WE.callI (T : Tp c B bs) {f : Str} {fp pos : Pos} {args : List Expr} {id : String} (hk : env.kindOf f = some .globalImplicit) (hb : bs.lookup f = some (.builtin id))
  (h : WA c A fr env m σ args (fun ds σ1 => At1 c A fr σ1 (.builtin id) ds Q X) X) (hp : plainArgs args = true := by rfl) (hdb : (f == ("__debug__" : Str)) = false := by decide) : WE c A fr env m σ (.Call (.Name f fp) args [] pos) Q X :=
 WE.callB T.good hk (T.bn _ _ hb).1 (T.bn _ _ hb).2 h hp hdb
theorem WE.callY (T : Tp c B bs) {f : Str} {fp pos : Pos} {args : List Expr} {id : String} (hk : env.kindOf f = some .globalImplicit) (hb : bs.lookup f = some (.type id))
  (h : WA c A fr env m σ args (fun ds σ1 => At1 c A fr σ1 (.type id) ds Q X) X) (hp : plainArgs args = true := by rfl) (hdb : (f == ("__debug__" : Str)) = false := by decide) : WE c A fr env m σ (.Call (.Name f fp) args [] pos) Q X :=
 WE.callT T.good hk (T.bn _ _ hb).1 (T.bn _ _ hb).2 h hp hdb
theorem At1.one {f : Value} {d : D} (h : ∀ s v, Ok c A fr σ s.heap → V (keys σ ++ fr) s.heap d v → W c A none fr σ (call f [v]) V Q X s) : At1 c A fr σ f [d] Q X := fun s vals ok hv => by
 unfold Vs at hv
 obtain ⟨v, vs, rfl, h1, h2⟩ := hv
 unfold Vs at h2; subst h2
 exact h s v ok h1
theorem At1.two {f : Value} {d e : D} (h : ∀ s v u, Ok c A fr σ s.heap → V (keys σ ++ fr) s.heap d v → V (keys σ ++ fr) s.heap e u → W c A none fr σ (call f [v, u]) V Q X s) : At1 c A fr σ f [d, e] Q X := fun s vals ok hv => by
 unfold Vs at hv
 obtain ⟨v, vs, rfl, h1, h2⟩ := hv
 unfold Vs at h2
 obtain ⟨u, us, rfl, h3, h4⟩ := h2
 unfold Vs at h4; subst h4
 exact h s v u ok h1 h3
theorem At1.all {sd : SD} {l : List Bool} (hh : A.handled = none) (hd : sd.ds = l.map D.bool) (inv : sd.inv σ) (h : Q (.bool (l.all id)) σ) : At1 c A fr σ (.builtin "all") [sd.d] Q X := .one fun s v ok hv => call_all hh hd inv ok hv h
theorem At1.any {sd : SD} {l : List Bool} (hh : A.handled = none) (hd : sd.ds = l.map D.bool) (inv : sd.inv σ) (h : Q (.bool (l.any id)) σ) : At1 c A fr σ (.builtin "any") [sd.d] Q X := .one fun s v ok hv => call_any hh hd inv ok hv h
theorem At1.sum {sd : SD} {l : List Int} (hh : A.handled = none) (hd : sd.ds = l.map D.int) (inv : sd.inv σ) (h : Q (.int l.sum) σ) : At1 c A fr σ (.builtin "sum") [sd.d] Q X := .one fun s v ok hv => call_sum hh hd inv ok hv h
theorem At1.min {sd : SD} {l : List Int} (hh : A.handled = none) (hd : sd.ds = l.map D.int) (hne : l ≠ []) (inv : sd.inv σ) (h : Q (.int (minL l)) σ) : At1 c A fr σ (.builtin "min") [sd.d] Q X := .one fun s v ok hv => call_min hh hd hne inv ok hv h
theorem At1.max {sd : SD} {l : List Int} (hh : A.handled = none) (hd : sd.ds = l.map D.int) (hne : l ≠ []) (inv : sd.inv σ) (h : Q (.int (maxL l)) σ) : At1 c A fr σ (.builtin "max") [sd.d] Q X := .one fun s v ok hv => call_max hh hd hne inv ok hv h
theorem At1.len {sd : SD} (inv : sd.inv σ) (hfit : sd.ds.length < 2 ^ 62) (h : Q (.int sd.ds.length) σ) : At1 c A fr σ (.builtin "len") [sd.d] Q X := .one fun s v ok hv => call_len inv ok hv hfit h
theorem At1.tuple {sd : SD} (inv : sd.inv σ) (hsz : sd.ds.length ≤ sizeLine) (h : Q (.tup sd.ds) σ) : At1 c A fr σ (.type "tuple") [sd.d] Q X := .one fun s v ok hv => call_tuple inv ok hv hsz h
theorem At1.list {sd : SD} (inv : sd.inv σ) (hsz : sd.ds.length ≤ sizeLine) (h : QL Q sd.ds σ) : At1 c A fr σ (.type "list") [sd.d] Q X := .one fun s v ok hv => call_list inv ok hv hsz h
theorem At1.isi {d : D} {T : String} {b : Bool} (hT : T ∈ isiTypes) (hb : isT σ T d = some b) (h : Q (.bool b) σ) : At1 c A fr σ (.builtin "isinstance") [d, .typ T] Q X := .two fun s v u ok hv hu => by
 unfold V at hu; subst hu
 exact call_isi hT hb ok hv h
end
end Mine
namespace Mine
open PySem PySem.Calls PyProof.Rows
section
variable {c : Cx} {A : Around} {fr : List Addr} {σ : Sto} {X : Addr → Sto → Prop} {Q : D → Sto → Prop} {env : Env} {m : Vars} {B : List Stmt} {bs : List (Str × Value)}
theorem filterMap_take_succ {α β : Type} {F : α → Option β} {l : List α} {k : Nat} {x : α} (h : l[k]? = some x) : (l.take (k + 1)).filterMap F = (l.take k).filterMap F ++ (F x).toList := by
 obtain ⟨hk, rfl⟩ := List.getElem?_eq_some_iff.mp h
 rw [List.take_succ_eq_append_getElem hk, List.filterMap_append]
 cases hF : F l[k] <;> simp [hF]
theorem Turns.of {α : Type} {l : List α} {g : α → Vars} {Inv : Sto → Prop} {scope : Scope} {ifs : List Expr} {elt : Expr} {Z : List D → Sto → Prop} (F : α → Option D) (hloc : ∀ x ∈ l, ∀ y ∈ g x, scope.names.lookup y.1 = some .local) (hinv : Inv σ) (hsz : l.length ≤ sizeLine)
  (step : ∀ x ∈ l, ∀ fr' cenv, cenv.scope = relab scope env.scope → WIfs c A fr' cenv (g x ++ capt scope m) σ ifs (fun b σ2 => if b = true then WE c A fr' cenv (g x ++ capt scope m) σ2 elt (fun d σ3 => σ3 = σ ∧ F x = some d) NoX else σ2 = σ ∧ F x = none) NoX)
  (h : Z (l.filterMap F) σ) : Turns c A env m scope ifs elt Z (l.map g) Inv σ := by
 refine ⟨fun x hx y hy => ?_, fun k ds σ' => σ' = σ ∧ ds = (l.take k).filterMap F, ⟨rfl, by simp⟩, fun k ds σ' hL => ?_, fun k x ds σ' hk hL fr' cenv hc => ?_, fun ds σ' hL => ?_⟩
 ·obtain ⟨z, hz, rfl⟩ := List.mem_map.mp hx
  exact hloc z hz y hy
 ·obtain ⟨rfl, rfl⟩ := hL
  refine ⟨hinv, Nat.le_trans (List.length_filterMap_le _ _) (Nat.le_trans ?_ hsz)⟩
  rw [List.length_take]; exact Nat.min_le_right _ _
 ·obtain ⟨rfl, rfl⟩ := hL
  rw [List.getElem?_map] at hk
  obtain ⟨z, hz, rfl⟩ := Option.map_eq_some_iff.mp hk
  have hs := step z (List.mem_of_getElem? hz) fr' cenv hc
  refine fun s ok fm => (hs s ok fm).mono (fun b σ2 hb => ?_) fun _ _ x => x
  cases b with
  | true =>
   simp only [if_true] at hb ⊢
   exact hb.mono (fun d σ3 ⟨e1, e2⟩ => ⟨e1, by rw [filterMap_take_succ hz, e2]; rfl⟩) fun _ _ x => x
  | false =>
   simp only [Bool.false_eq_true, if_false] at hb ⊢
   exact ⟨hb.1, by rw [filterMap_take_succ hz, hb.2]; simp⟩
 ·obtain ⟨rfl, rfl⟩ := hL
  rw [List.length_map, List.take_length]
  exact h
theorem loc1 {scope : Scope} {x : Str} {d : D} (h : scope.names.lookup x = some .local) : ∀ y ∈ [(x, d)], scope.names.lookup y.1 = some .local := fun y hy => by
 rw [List.mem_singleton] at hy; subst hy; exact h
theorem loc2 {scope : Scope} {x z : Str} {d e : D} (h : scope.names.lookup x = some .local) (h2 : scope.names.lookup z = some .local) : ∀ y ∈ [(x, d), (z, e)], scope.names.lookup y.1 = some .local := fun y hy => by
 rcases List.mem_cons.mp hy with rfl | hy
 ·exact h
 ·exact loc1 h2 y hy
theorem Turns.map {α : Type} {l : List α} {g : α → Vars} {Inv : Sto → Prop} {scope : Scope} {elt : Expr} {Z : List D → Sto → Prop} (F : α → D) (hloc : ∀ x ∈ l, ∀ y ∈ g x, scope.names.lookup y.1 = some .local) (hinv : Inv σ) (hsz : l.length ≤ sizeLine)
  (step : ∀ x ∈ l, ∀ fr' cenv, cenv.scope = relab scope env.scope → WE c A fr' cenv (g x ++ capt scope m) σ elt (fun d σ3 => σ3 = σ ∧ d = F x) NoX)
  (h : Z (l.map F) σ) : Turns c A env m scope [] elt Z (l.map g) Inv σ := by
 refine Turns.of (fun x => some (F x)) hloc hinv hsz (fun x hx fr' cenv hc => WIfs.nil ?_) ?_
 ·simp only [if_true]
  exact (step x hx fr' cenv hc).mono (fun d σ3 ⟨e1, e2⟩ => ⟨e1, by rw [e2]⟩) fun _ _ x => x
 ·have e : l.filterMap (fun x => some (F x)) = l.map F := List.filterMap_eq_map (f := F) ▸ rfl
  rw [e]; exact h
theorem WIt.range (T : Tp c B bs) (hh : A.handled = none) {f : Str} {fp pos px : Pos} {e : Expr} {x : Str} {Q : List Vars → (Sto → Prop) → Sto → Prop} (hk : env.kindOf f = some .globalImplicit) (hb : bs.lookup f = some (.type "range"))
  (h : WE c A fr env m σ e (fun d σ1 => ∃ n : Int, d = .int n ∧ -(2 ^ 62) ≤ n ∧ n < 2 ^ 62 ∧ Q ((List.range n.toNat).map fun (i : Nat) => [(x, D.int (i : Int))]) (fun _ => True) σ1) X) (hp : plainArgs [e] = true := by rfl) (hdb : (f == ("__debug__" : Str)) = false := by decide) :
  WIt c A fr env m σ (.Call (.Name f fp) [e] [] pos) (.Name x px) Q X := WIt.range1 T.good hh hk (T.bn _ _ hb).1 (T.bn _ _ hb).2 h hp hdb
theorem WIv.seq {α : Type} {sd : SD} {l : List α} {x : Str} {px : Pos} {Q : List Vars → (Sto → Prop) → Sto → Prop} (F : α → D) (hh : A.handled = none) (hd : sd.ds = l.map F) (hi : sd.inv σ) (h : Q (l.map fun i => [(x, F i)]) sd.inv σ) : WIv c A fr env m σ sd.d (.Name x px) Q := by
 have e : sd.ds.map (fun d => [(x, d)]) = l.map fun i => [(x, F i)] := by rw [hd, List.map_map]; rfl
 cases sd with
 | lst ds => exact WIv.lst hh (by have e' : ds.map (fun d => [(x, d)]) = _ := e; rw [e']; exact h)
 | tup ds => exact WIv.tup hh (by have e' : ds.map (fun d => [(x, d)]) = _ := e; rw [e']; exact h)
 | ref a ds => exact WIv.ref hh hi (by have e' : ds.map (fun d => [(x, d)]) = _ := e; rw [e']; exact h)
end
end Mine
namespace Mine
open PySem PySem.Calls PyProof.Rows
mutual
noncomputable def D.py : D → Option PyData
 | .none => some .none
 | .bool b => some (.bool b)
 | .int i => some (.int i)
 | .str x => some (.str x)
 | .tup ds => (pyAll ds).map .tuple
 | .lst ds => (pyAll ds).map .list
 | _ => none
noncomputable def pyAll : List D → Option (List PyData)
 | [] => some []
 | d :: r => (D.py d).bind fun p => (pyAll r).map fun q => p :: q
end
mutual
theorem V.reads {K : List Addr} {h : Heap} : ∀ (d : D) (v : Value) (p : PyData), V K h d v → d.py = some p → ∃ as, Reads h v p as
 | .none, v, p, x, e => by simp only [D.py, Option.some.injEq] at e; unfold V at x; subst x; subst e; exact ⟨_, .none⟩
 | .bool b, v, p, x, e => by simp only [D.py, Option.some.injEq] at e; unfold V at x; subst x; subst e; exact ⟨_, .bool b⟩
 | .int i, v, p, x, e => by simp only [D.py, Option.some.injEq] at e; unfold V at x; obtain ⟨t, rfl⟩ := x; subst e; exact ⟨_, .int i t⟩
 | .str y, v, p, x, e => by simp only [D.py, Option.some.injEq] at e; unfold V at x; obtain ⟨t, rfl⟩ := x; subst e; exact ⟨_, .str y t⟩
 | .tup ds, v, p, x, e => by
  simp only [D.py] at e
  obtain ⟨ps, hp, rfl⟩ := Option.map_eq_some_iff.mp e
  unfold V at x
  obtain ⟨a, vs, n, rfl, nk, g, r⟩ := x
  obtain ⟨as, ra⟩ := Vs.reads ds vs ps r hp
  exact ⟨as, .tuple g rfl rfl (by rw [List.toList_toArray]; exact ra)⟩
 | .lst ds, v, p, x, e => by
  simp only [D.py] at e
  obtain ⟨ps, hp, rfl⟩ := Option.map_eq_some_iff.mp e
  unfold V at x
  obtain ⟨a, vs, n, rfl, nk, g, r⟩ := x
  obtain ⟨as, ra⟩ := Vs.reads ds vs ps r hp
  exact ⟨a :: as, .list g rfl rfl (by rw [List.toList_toArray]; exact ra)⟩
 | .sys C sz ru, v, p, x, e => by simp [D.py] at e
 | .own C dx, v, p, x, e => by simp [D.py] at e
 | .exc C, v, p, x, e => by simp [D.py] at e
 | .typ T, v, p, x, e => by simp [D.py] at e
 | .ref a, v, p, x, e => by simp [D.py] at e
theorem Vs.reads {K : List Addr} {h : Heap} : ∀ (ds : List D) (vs : List Value) (ps : List PyData), Vs K h ds vs → pyAll ds = some ps → ∃ as, ReadsAll h vs ps as
 | [], vs, ps, x, e => by simp only [pyAll, Option.some.injEq] at e; unfold Vs at x; subst x; subst e; exact ⟨_, .nil⟩
 | d :: ds, vs, ps, x, e => by
  simp only [pyAll] at e
  obtain ⟨p, hp, e⟩ := Option.bind_eq_some_iff.mp e
  obtain ⟨q, hq, rfl⟩ := Option.map_eq_some_iff.mp e
  unfold Vs at x
  obtain ⟨v, r, rfl, x1, x2⟩ := x
  obtain ⟨a1, r1⟩ := V.reads d v p x1 hp
  obtain ⟨a2, r2⟩ := Vs.reads ds r q x2 hq
  exact ⟨_, .cons r1 r2⟩
end
structure Py (n : Nat) (d : D) (p : PyData) : Prop where
 py : d.py = some p
 can : p.canLay0 = true
 dep : p.depth ≤ n
structure PyAll (n : Nat) (ds : List D) (ps : List PyData) : Prop where
 py : pyAll ds = some ps
 can : PyData.canLayAll0 ps = true
 dep : PyData.depthAll ps ≤ n
theorem Py.int {n : Nat} {i : Int} : Py (n + 1) (.int i) (.int i) := ⟨rfl, rfl, by simp [PyData.depth]⟩
theorem Py.str {n : Nat} {x : Str} (h : PyData.strOk x = true) : Py (n + 1) (.str x) (.str x) := ⟨rfl, h, by simp [PyData.depth]⟩
theorem Py.tup {n : Nat} {ds : List D} {ps : List PyData} (x : PyAll n ds ps) : Py (n + 1) (.tup ds) (.tuple ps) := ⟨by simp [D.py, x.py], x.can, by simp only [PyData.depth]; exact Nat.succ_le_succ x.dep⟩
theorem Py.lst {n : Nat} {ds : List D} {ps : List PyData} (x : PyAll n ds ps) : Py (n + 1) (.lst ds) (.list ps) := ⟨by simp [D.py, x.py], x.can, by simp only [PyData.depth]; exact Nat.succ_le_succ x.dep⟩
theorem PyAll.nil {n : Nat} : PyAll n [] [] := ⟨rfl, rfl, by simp [PyData.depthAll]⟩
theorem PyAll.cons {n : Nat} {d : D} {p : PyData} {ds : List D} {ps : List PyData} (x : Py n d p) (y : PyAll n ds ps) : PyAll n (d :: ds) (p :: ps) := ⟨by simp [pyAll, x.py, y.py], by simp [PyData.canLayAll0, x.can, y.can], by simp only [PyData.depthAll]; exact Nat.max_le.mpr ⟨x.dep, y.dep⟩⟩
theorem PyAll.map {α : Type} {n : Nat} {F : α → D} {G : α → PyData} : ∀ {l : List α}, (∀ x ∈ l, Py n (F x) (G x)) → PyAll n (l.map F) (l.map G)
 | [], _ => .nil
 | a :: r, h => .cons (h a (.head _)) (PyAll.map fun x hx => h x (.tail _ hx))
inductive PyT (σ : Sto) : Nat → D → PyData → Prop
 | of {n : Nat} {d : D} {p : PyData} (x : Py n d p) : PyT σ n d p
 | ref {n : Nat} {a : Addr} {ds : List D} {ps : List PyData} (m : (a, O.lst ds) ∈ σ) (x : PyAll n ds ps) : PyT σ (n + 1) (.ref a) (.list ps)
theorem PyT.reads {c : Cx} {A : Around} {fr : List Addr} {σ : Sto} {n : Nat} {d : D} {p : PyData} {h : Heap} {v : Value} (x : PyT σ n d p) (ok : Ok c A fr σ h) (hv : V (keys σ ++ fr) h d v) : (∃ as, Reads h v p as) ∧ p.canLay0 = true ∧ p.depth ≤ n := by
 cases x with
 | of x => exact ⟨V.reads d v p hv x.py, x.can, x.dep⟩
 | ref m x =>
  unfold V at hv; subst hv
  obtain ⟨vs, k, g, r⟩ := ok.sto _ m
  obtain ⟨as, ra⟩ := Vs.reads _ vs _ r x.py
  exact ⟨⟨_, .list g rfl rfl (by rw [List.toList_toArray]; exact ra)⟩, x.can, by simp only [PyData.depth]; exact Nat.succ_le_succ x.dep⟩
section
variable {c : Cx} {A : Around} {fr : List Addr} {σ : Sto} {X : Addr → Sto → Prop} {Q : D → Sto → Prop} {env : Env} {m : Vars}
theorem Room.units {n k : Nat} (r : Room n A) (h : k ≤ 90) : A.units + 1 + k < cLine := by
 have := r.1.2
 have e : cLine = 9900 := rfl
 exact Nat.not_le.mp fun qz => lin [_,_,_,_] [] [(1,.nl (.v 0) (.a (.a (.v 1) (.n 1)) (.v 2))),(1,.nf (.v 0) (.n 9900)),(1,.nt (.a (.v 1) (.m 10 (.v 3))) (.n 9800)),(1,.nl (.v 2) (.n 90))] rfl qz e this h
theorem WB.eqD {n k j : Nat} {d e : D} {p q : PyData} (r : Room j A) (x : PyT σ n d p) (y : PyT σ k e q) (h : Q (.bool (PyData.eqv p q)) σ) (hn : n ≤ 90 := by omega) : WB c A fr σ (compareOp .Eq) d e Q X := fun v1 v2 s ok x1 x2 => by
 obtain ⟨⟨as, ra⟩, c1, d1⟩ := x.reads ok x1
 obtain ⟨⟨bs, rb⟩, c2, d2⟩ := y.reads ok x2
 exact SeqAt.compareEq_reads ra rb c1 c2 (by have := r.units hn; have := Nat.min_le_left p.depth q.depth; omega) ⟨_, σ, Post.refl .., ok, V.ofBool, h⟩
theorem WB.neD {n k j : Nat} {d e : D} {p q : PyData} (r : Room j A) (x : PyT σ n d p) (y : PyT σ k e q) (h : Q (.bool (!PyData.eqv p q)) σ) (hn : n ≤ 90 := by omega) : WB c A fr σ (compareOp .NotEq) d e Q X := fun v1 v2 s ok x1 x2 => by
 obtain ⟨⟨as, ra⟩, c1, d1⟩ := x.reads ok x1
 obtain ⟨⟨bs, rb⟩, c2, d2⟩ := y.reads ok x2
 exact SeqAt.compareNe_reads ra rb c1 c2 (by have := r.units hn; have := Nat.min_le_left p.depth q.depth; omega) ⟨_, σ, Post.refl .., ok, V.ofBool, h⟩
theorem At1.intB {b : Bool} (h : Q (.int (if b then 1 else 0)) σ) : At1 c A fr σ (.type "int") [.bool b] Q X := .one fun s v ok hv => by
 unfold V at hv; subst hv
 exact call_int_bool ⟨_, σ, Post.tok .., ok, V.ofInt, h⟩
end
end Mine
namespace Mine
open PySem PySem.Calls PyProof.Rows
section
variable {c : Cx} {A : Around} {fr : List Addr} {σ σ1 σ2 : Sto} {X : Addr → Sto → Prop} {Q : D → Sto → Prop} {env : Env} {m : Vars}
theorem Ok.put {a : Addr} {o o' : O} {h h' : Heap} (ok : Ok c A fr (σ1 ++ (a, o) :: σ2) h) (k : ∀ b ob, b ≠ a → h.get? b = some ob → h'.get? b = some ob) (x : IsO c.prog c.w (keys (σ1 ++ (a, o) :: σ2) ++ fr) h' a o') : Ok c A fr (σ1 ++ (a, o') :: σ2) h' := by
 have ek : keys (σ1 ++ (a, o') :: σ2) = keys (σ1 ++ (a, o) :: σ2) := by simp [keys]
 have ha : a ∈ keys (σ1 ++ (a, o) :: σ2) := by simp [keys]
 have nd := ok.nd
 rw [List.nodup_append] at nd
 have nfr : ∀ b ∈ fr, b ≠ a := fun b hb e => nd.2.2 a ha b hb e.symm
 refine ⟨fun b ob e => k b ob (fun z => by subst z; rw [ok.new b (List.mem_append_left _ ha)] at e; cases e) (ok.base b ob e), fun p hp => ?_, by rw [ek]; exact ok.nd, by rw [ek]; exact ok.new, fun b hb => ?_, ?_⟩
 ·rw [ek]
  have hnd : (keys (σ1 ++ (a, o) :: σ2)).Nodup := nd.1
  have mv : ∀ q ∈ σ1 ++ (a, o) :: σ2, q.1 ≠ a → IsO c.prog c.w (keys (σ1 ++ (a, o) :: σ2) ++ fr) h' q.1 q.2 := fun q hq hne =>
   IsO.move (fun b ob n e => k b ob (fun z => by subst z; exact n (List.mem_append_left _ ha)) e) (fun _ m => .inl m) (fun ob e => k _ _ hne e) (ok.sto q hq)
  have hnd' : (σ1.map (·.1)).Nodup ∧ (a :: σ2.map (·.1)).Nodup ∧ ∀ y ∈ σ1.map (·.1), ∀ z ∈ a :: σ2.map (·.1), y ≠ z := by
   have : (σ1.map (·.1) ++ a :: σ2.map (·.1)).Nodup := by simpa [keys] using hnd
   exact List.nodup_append.mp this
  rcases List.mem_append.mp hp with hp | hp
  ·exact mv p (List.mem_append_left _ hp) fun e => hnd'.2.2 p.1 (List.mem_map_of_mem hp) a (.head _) e
  ·rcases List.mem_cons.mp hp with rfl | hp
   ·exact x
   ·exact mv p (List.mem_append_right _ (.tail _ hp)) fun e => (List.nodup_cons.mp hnd'.2.1).1 (e ▸ List.mem_map_of_mem hp)
 ·obtain ⟨ob, e⟩ := ok.live b hb
  exact ⟨ob, k b ob (nfr b hb) e⟩
 ·obtain ⟨l, hl, b, d, f⟩ := ok.stack
  have nw : ∀ x ∈ l.filterMap (·.frame), x ≠ a := fun x hx => nfr x (d x hx)
  refine ⟨l, hl, ?_, d, fun x hx => ?_⟩
  ·exact FunFrames.turn (fr := l.filterMap (·.frame)) (fun x o hx g k' => ⟨o, k _ _ (nw x hx) g, k'⟩) b fun x hx => hx
  ·obtain ⟨o, es, n, g, r⟩ := f x hx; exact ⟨o, es, n, k _ _ (nw x hx) g, r⟩
theorem Post.put {F : List Addr} {a : Addr} {o o' : O} {s : Shared} {h' : Heap} {tk : Nat} (hn : a ∉ fr) (k : ∀ b ob, b ≠ a → s.heap.get? b = some ob → h'.get? b = some ob) (l : ∃ ob, h'.get? a = some ob) : Post F fr (σ1 ++ (a, o) :: σ2) s { s with heap := h', toks := tk } (σ1 ++ (a, o') :: σ2) := by
 have ek : keys (σ1 ++ (a, o') :: σ2) = keys (σ1 ++ (a, o) :: σ2) := by simp [keys]
 have ha : a ∈ keys (σ1 ++ (a, o) :: σ2) := by simp [keys]
 exact {
  shape := ⟨h', tk, rfl⟩
  kept := fun b ob n e => k b ob (fun z => n (by rw [z]; exact List.mem_append_left _ ha)) e
  slots := fun b ob m n e => ⟨ob.slots, k b ob (fun z => hn (z ▸ m)) e, fun _ => rfl⟩
  alive := fun b ob e => by
   by_cases z : b = a
   ·subst z; exact l
   ·exact ⟨ob, k _ _ z e⟩
  grow := fun _ m => .inl (ek ▸ m) }
theorem newL {ds : List D} {vs : List Value} {s : Shared} {tk : Nat} (ok : Ok c A fr σ s.heap) (hvs : Vs (keys σ ++ fr) s.heap ds vs) (q : QL Q ds σ) : Po c A none fr σ s V Q (.ref s.heap.objs.size) { s with heap := s.heap.push (lstObj vs 0), toks := tk } := by
 have hn : ∀ a ∈ [s.heap.objs.size], s.heap.get? a = none := fun a ha => by rw [List.mem_singleton.mp ha]; exact none_of_ge (Nat.le_refl _)
 have k1 : ∀ b o, s.heap.get? b = some o → (s.heap.push (lstObj vs 0)).get? b = some o := fun b o e => Heap.get?_push_of_some _ e
 have g : (s.heap.push (lstObj vs 0)).get? s.heap.objs.size = some (lstObj vs 0) := Heap.get?_push_size _ rfl
 have oka : Ok c A ([s.heap.objs.size] ++ fr) σ (s.heap.push (lstObj vs 0)) := ok.more k1 hn (fun a ha => by rw [List.mem_singleton.mp ha]; exact ⟨_, g⟩) (by simp)
 exact QL.use (G := none) (s' := { s with heap := s.heap.push (lstObj vs 0), toks := tk }) q (Post.keeps k1) oka ok.frames_in g (Vs.move (K := keys σ ++ fr) (fun b o _ e => k1 b o e) (less_add hn) _ _ hvs) (hn _ (by simp))
theorem newT {ds : List D} {vs : List Value} {s : Shared} {tk : Nat} (ok : Ok c A fr σ s.heap) (hvs : Vs (keys σ ++ fr) s.heap ds vs) (q : Q (.tup ds) σ) : Po c A none fr σ s V Q (.ref s.heap.objs.size) { s with heap := s.heap.push (tupObj vs 0), toks := tk } := by
 have k1 : ∀ b o, s.heap.get? b = some o → (s.heap.push (tupObj vs 0)).get? b = some o := fun b o e => Heap.get?_push_of_some _ e
 refine ⟨.tup ds, σ, Post.keeps (tk := tk) k1, ok.keeps k1, ?_, q⟩
 unfold V
 refine ⟨_, vs, 0, rfl, fun z => ?_, Heap.get?_push_size _ rfl, Vs.move (K := keys σ ++ fr) (fun b o _ e => k1 b o e) (fun a ha => .inl ha) _ _ hvs⟩
 exact Nat.lt_irrefl _ (ok.lt z)
theorem SD.Fz.list {sd : SD} {h : Heap} {l : Addr} (x : sd.Fz (keys σ ++ fr) h l) (ok : Ok c A fr σ h) (inv : sd.inv σ) (hL : sd.isL = true) : ∃ vs n, h.get? l = some (lstObj vs n) ∧ Vs (keys σ ++ fr) h sd.ds vs := by
 cases sd with
 | lst ds => obtain ⟨a, vs, n, g, r⟩ := x; exact ⟨vs, n, g, r⟩
 | tup ds => cases hL
 | ref a ds =>
  obtain ⟨vs, n, g, r⟩ := ok.sto _ inv
  obtain rfl : l = a := x
  exact ⟨vs, n, g, r⟩
theorem SD.Fz.tuple {sd : SD} {h : Heap} {l : Addr} (x : sd.Fz (keys σ ++ fr) h l) (hL : sd.isL = false) : ∃ vs n, h.get? l = some (tupObj vs n) ∧ Vs (keys σ ++ fr) h sd.ds vs := by
 cases sd with
 | lst ds => cases hL
 | tup ds => obtain ⟨a, vs, n, g, r⟩ := x; exact ⟨vs, n, g, r⟩
 | ref a ds => cases hL
theorem WB.addT {ds es : List D} (h1 : ds ≠ []) (h2 : es ≠ []) (hsz : ds.length + es.length ≤ sizeLine) (h : Q (.tup (ds ++ es)) σ) : WB c A fr σ (binaryOp .Add) (.tup ds) (.tup es) Q X := fun v1 v2 s ok x1 x2 => by
 obtain ⟨l, rfl, z⟩ := SD.of_v (sd := .tup ds) x1
 obtain ⟨b, rfl, y⟩ := SD.of_v (sd := .tup es) x2
 obtain ⟨vs, n, g, r⟩ := z.tuple rfl
 obtain ⟨us, k, g', r'⟩ := y.tuple rfl
 have e1 : vs ≠ [] := fun e => h1 (by have := r.length; subst e; exact List.eq_nil_of_length_eq_zero this.symm)
 have e2 : us ≠ [] := fun e => h2 (by have := r'.length; subst e; exact List.eq_nil_of_length_eq_zero this.symm)
 refine P.add_tuple g g' (by simpa using e1) (by simpa using e2) ?_ (by simp [r.length, r'.length]; exact hsz)
 have e : (vs.toArray ++ us.toArray) = (vs ++ us).toArray := by simp
 rw [e]
 exact newT (tk := s.toks) ok (r.append r') h
theorem foldl_rep (x : List Value) : ∀ (n : Nat) (acc : Array Value), List.foldl (fun x1 x2 => x1 ++ x2) acc (List.replicate n x.toArray) = acc ++ (List.replicate n x).flatten.toArray
 | 0, acc => by simp
 | n + 1, acc => by rw [List.replicate_succ, List.foldl_cons, foldl_rep x n]; simp [List.replicate_succ, Array.append_assoc]
theorem Vs.rep {K : List Addr} {h : Heap} {ds : List D} {vs : List Value} (x : Vs K h ds vs) : ∀ n, Vs K h (List.replicate n ds).flatten (List.replicate n vs).flatten
 | 0 => Vs.nil
 | n + 1 => by simp only [List.replicate_succ, List.flatten_cons]; exact x.append (Vs.rep x n)
theorem WB.mulL {sd : SD} {k : Int} (h1 : sd.isL = true) (i1 : sd.inv σ) (hlo : -(2 ^ 63) ≤ k) (hhi : k < 2 ^ 63) (hsz : sd.ds.length * k.toNat ≤ 2 ^ 24) (h : QL Q (List.replicate k.toNat sd.ds).flatten σ) : WB c A fr σ (binaryOp .Mult) sd.d (.int k) Q X := fun v1 v2 s ok x1 x2 => by
 obtain ⟨l, rfl, z⟩ := SD.of_v x1
 obtain ⟨u, rfl⟩ := x2.toInt
 obtain ⟨vs, n, hl, r⟩ := z.list ok i1 h1
 have hz : vs.toArray.size * k.toNat ≤ 2 ^ 24 := by rw [List.size_toArray, r.length]; exact hsz
 have hz2 : vs.length * k.toNat ≤ 2 ^ 24 := by simpa using hz
 have hz3 : ¬Builtin.List.listTooLong (vs.toArray.size * k.toNat) = true := by simp [Builtin.List.listTooLong, sizeLine]; omega
 refine wpAny_binaryOp_repeat_ref (T := "list") (U := "int") (by decide) ⟨_, hl, rfl⟩ (fun s' => typeIs_int s' k u) noFill_list_mul F.fills_int_mul F.slot_int_rmul repeat_list F.slot_int_index.lookup
  (call_meets F.slot_int_rmul (typeIs_int s k u) F.entry_int_rmul (F.args_int_rmul_2 _ _) (int___rmul___int_list k u l vs.toArray n)
   ⟨hl, rfl, ⟨_, hl, rfl⟩, call_meets F.slot_list_mul ⟨_, hl, rfl⟩ F.entry_list_mul (F.args_list_mul_2 _ _)
    (AutoListH.list___mul___list_int_3 l vs.toArray n k u (by simp [Builtin.List.listFitsIndex]; omega) (by omega) hz3)
    ⟨hl, ?_⟩⟩)
 have e : List.foldl (fun x1 x2 => x1 ++ x2) #[] (List.replicate (if vs.toArray.isEmpty = true then 0 else k.toNat) vs.toArray) = (List.replicate k.toNat vs).flatten.toArray := by
  rw [foldl_rep]
  by_cases hv : vs = []
  ·subst hv; simp
  ·simp [hv]
 show Po _ _ _ _ _ _ _ _ _ _
 rw [e]
 exact newL (tk := s.toks) ok (r.rep _) h
theorem WE.methL {o : Expr} {name : Str} {id : String} {apos pos : Pos} {args : List Expr} (slot : Slot "list" name id) (hty : typeOf (.builtin id) = pure (.type "method_descriptor"))
  (h : WE c A fr env m σ o (fun d σ1 => ∃ sd : SD, d = sd.d ∧ sd.isL = true ∧ sd.inv σ1 ∧ WA c A fr env m σ1 args (fun ds σ2 => At1 c A fr σ2 (.builtin id) (d :: ds) Q X) X) X)
  (hp : plainArgs args = true := by rfl) (hb : ∀ w, attributeBase o name env w = w := by intro _; rfl) (hl : (apos.endLine == pos.line) = true := by rfl) (hn : decide (args.length < 30) = true := by rfl) :
  WE c A fr env m σ (.Call (.Attribute o name apos) args [] pos) Q X := fun s ok fm => by
 have hst := plainArgs_starEach (env := env) (pos := pos) hp
 unfold W
 show wpAny _ A (do let ov ← attributeBase o name env (eval o env); standAt apos.atName; methodCall o name apos pos env ov (args.length + ([] : List Keyword).length) (backTo pos (starEach args env)) (backToKw pos (keywordEach [] env))) _ _ s
 rw [hb]
 refine wpAny_bind (wpAny_mono (h s ok fm) (fun ov s1 ⟨d, σ1, p1, ok1, x1, sd, hsd, hL, inv, q1⟩ => ?_) fun _ _ x => x)
 subst hsd
 refine wpAny_bind (wpAny_standAt ?_)
 obtain ⟨l, rfl, z⟩ := SD.of_v x1
 obtain ⟨vs, n, g, r⟩ := z.list ok1 inv hL
 have few : methodCallForm (args.length + ([] : List Keyword).length) (backTo pos (starEach args env)) (backToKw pos (keywordEach [] env)) = true := by
  unfold methodCallForm
  have a1 : (backTo pos (starEach args env)).all (fun x => !x.1) = true := List.all_eq_true.mpr fun x hx => by rw [hst x hx]; rfl
  have a2 : args.length < 30 := of_decide_eq_true hn
  have a3 : backToKw pos (keywordEach [] env) = [] := rfl
  rw [a1, a3]
  simp [a2]
 unfold methodCall
 rw [few]
 refine wpAny_bind (wpAny_holding ?_)
 unfold calleeOf
 rw [if_pos rfl]
 refine getMethod_builtin ⟨_, g, rfl⟩ F.plainAttrs_list slot hty (fun a e => by cases e; exact ⟨_, g, rfl⟩) ?_
 rw [show methodCallPos true o env apos pos = pure pos from if_pos (by rw [hl]; rfl)]
 refine wpAny_bind (wpAny_pure ?_)
 refine callWith_builtin (by rw [List.any_eq_false]; intro x hx; simp [hst x hx]) (wpAny_evalArgs hst (wpAny_mono (q1 pos s1 ok1 (fm.move p1)) (fun us s2 ⟨ds, σ2, p2, ok2, x2, q2⟩ => ?_) fun _ _ x => Ex.back p1 x fun _ _ y => y))
 have hv : Vs (keys σ2 ++ fr) s2.heap (sd.d :: ds) (.ref l :: us) := Vs.cons (p2.v x1) x2
 refine wpAny_mono (q2 s2 _ ok2 hv) (fun v s3 ⟨d3, σ3, p3, ok3, x3, q3⟩ => ⟨d3, σ3, (p1.trans p2).trans p3, ok3, x3, q3⟩) fun _ _ x => Ex.back (p1.trans p2) x fun _ _ y => y
end
end Mine
namespace Mine
open PySem PySem.Calls PyProof.Rows
section
variable {c : Cx} {A : Around} {fr : List Addr} {σ σ1 σ2 : Sto} {X : Addr → Sto → Prop} {Q : D → Sto → Prop} {env : Env} {m : Vars} {N : Vars → Sto → Prop} {R : D → Sto → Prop}
theorem At1.append {a : Addr} {ds : List D} {d : D} (hsz : ds.length ≤ sizeLine) (h : Q .none (σ1 ++ (a, .lst (ds ++ [d])) :: σ2)) : At1 c A fr (σ1 ++ (a, .lst ds) :: σ2) (.builtin "list.append") [.ref a, d] Q X := .two fun s v u ok hv hu => by
 unfold V at hv; subst hv
 have hm : (a, O.lst ds) ∈ σ1 ++ (a, .lst ds) :: σ2 := by simp
 obtain ⟨vs, n, g, r⟩ := ok.sto _ hm
 have ha : a ∈ keys (σ1 ++ (a, O.lst ds) :: σ2) := by simp [keys]
 have nfr : a ∉ fr := fun z => (List.nodup_append.mp ok.nd).2.2 a ha a z rfl
 refine call_meets F.slot_list_append ⟨_, g, rfl⟩ F.entry_list_append (F.args_list_append_2 _ _) (list_append a vs.toArray n u (by simpa [r.length] using hsz)) ⟨g, ?_⟩
 have k1 : ∀ b ob, b ≠ a → s.heap.get? b = some ob → (s.heap.update a (Obj.mapSeq fun xs => xs.push u)).get? b = some ob := fun b ob hne e => by rw [Heap.get?_update_ne _ _ _ _ hne]; exact e
 obtain ⟨n', g'⟩ : ∃ n', (s.heap.update a (Obj.mapSeq fun xs => xs.push u)).get? a = some (lstObj (vs ++ [u]) n') := by
  have e := IsL.update (h := s.heap) (l := a) (items := vs.toArray) (n := n) g fun xs => xs.push u
  have e2 : vs.toArray.push u = (vs ++ [u]).toArray := by simp
  rw [e2] at e
  exact ⟨_, e⟩
 refine ⟨.none, _, Post.put (tk := s.toks) (o' := .lst (ds ++ [d])) nfr k1 ⟨_, g'⟩, Ok.put ok k1 ⟨vs ++ [u], n', g', ?_⟩, by unfold V; rfl, h⟩
 exact Vs.move (fun b ob nb e => k1 b ob (fun z => nb (by rw [z]; exact List.mem_append_left _ ha)) e) (fun _ m => .inl m) _ _ (r.snoc hu)
theorem W1.expr {e : Expr} {pos : Pos} (h : WE c A fr env m σ e (fun _ σ' => N m σ') X) (hs : swapsWith e none pos.line env = pure false) : W1 c A fr env m σ (.Expr e pos) N R X := fun s ok fm => by
 refine wpAny_Expr_any (wpAny_mono (h s ok fm) (fun v s1 ⟨d, σ1, p1, ok1, x1, q1⟩ => ?_) fun _ _ x => x.wide fm) (by unfold interactive; rw [fm.kind]; rfl) hs
 exact ⟨.next m, σ1, p1.wide (by simp), ok1, ⟨rfl, fm.move p1⟩, q1⟩
end
end Mine
namespace Mine
open PySem PySem.Calls PyProof.Rows
end Mine
namespace Mine
open PySem PySem.Calls PyProof.Rows PySem.W
noncomputable def kRun {α : Type} (lt : Nat → Nat → Bool) : KasT α → α
 | .ret a => a
 | .ask i j k => kRun lt (k (lt i j))
theorem kRun_bind {α β : Type} {lt : Nat → Nat → Bool} {f : α → KasT β} : ∀ t : KasT α, kRun lt (t.bind f) = kRun lt (f (kRun lt t))
 | .ret a => rfl
 | .ask i j k => by
  show kRun lt ((k (lt i j)).bind f) = _
  rw [kRun_bind (k (lt i j))]; rfl
section
variable (rk : Nat → Int)
noncomputable def kk (p : Array Nat) (i : Nat) : Int := rk (p.getD i 0)
noncomputable def Up (p : Array Nat) (n : Nat) : Prop := ∀ i j, i ≤ j → j < n → kk rk p i ≤ kk rk p j
noncomputable def Dn (p : Array Nat) (n : Nat) : Prop := ∀ i j, i ≤ j → j < n → kk rk p j ≤ kk rk p i
noncomputable abbrev ltR : Nat → Nat → Bool := fun i j => decide (rk i < rk j)
end
section
variable {rk : Nat → Int}
theorem kk_congr {p q : Array Nat} {i j : Nat} (h : p[i]? = q[j]?) : kk rk p i = kk rk q j := by
 unfold kk; rw [Array.getD_eq_getD_getElem?, Array.getD_eq_getD_getElem?, h]
theorem kk_rev {p : Array Nat} {i j : Nat} (hj : j ≤ p.size) (k : Nat) : kk rk (kas_rev p i j) k = if i ≤ k ∧ k < j then kk rk p (i + j - 1 - k) else kk rk p k := by
 have e := getElem?_mirror_all (i := i) hj k
 split
 ·rename_i h; rw [if_pos h] at e; exact kk_congr e
 ·rename_i h; rw [if_neg h] at e; exact kk_congr e
theorem kk_rev_same {p : Array Nat} {i j : Nat} (hj : j ≤ p.size) (he : ∀ k, i ≤ k → k < j → kk rk p k = kk rk p (j - 1)) (k : Nat) : kk rk (kas_rev p i j) k = kk rk p k := by
 rw [kk_rev hj]
 split
 ·rename_i h; rw [he _ (by exact Nat.not_lt.mp fun qz => lin [_,_,_,_,_] [] [(1,.nt (.v 0) (.v 1)),(1,.nt (.v 2) (.v 3)),(1,.nl (.v 4) (.a (.v 0) (.v 2))),(1,.nl (.a (.v 1) (.v 3)) (.a (.v 4) (.n 1)))] rfl qz h.2 (Nat.sub_le_iff_le_add.mp (Nat.le_refl _)) (Nat.sub_le_iff_le_add.mp (Nat.le_refl _))) (by exact Nat.not_le.mp fun qz => lin [_,_,_,_,_] [] [(1,.nl (.v 0) (.v 1)),(1,.nl (.v 2) (.v 3)),(1,.ne (.a (.v 1) (.v 3)) (.v 4)),(1,.ne (.a (.v 4) (.n 1)) (.a (.v 2) (.v 0)))] rfl qz h.1 (Nat.sub_add_cancel (Nat.not_lt.mp fun qz => lin [_,_,_,_] [] [(1,.nt (.v 0) (.v 1)),(1,.nt (.v 1) (.v 2)),(1,.nl (.a (.v 3) (.v 2)) (.a (.v 0) (.n 1)))] rfl qz h.2 (Nat.sub_le_iff_le_add.mp (Nat.le_refl _)))) (Nat.sub_add_cancel (Nat.not_lt.mp fun qz => lin [_,_,_] [] [(1,.nt (.a (.v 0) (.v 1)) (.n 1)),(1,.nl (.v 0) (.v 2)),(1,.nt (.v 2) (.v 1))] rfl qz h.1 h.2))), he k h.1 h.2]
 ·rfl
theorem kk_bubble {p : Array Nat} {src d : Nat} (hs : src < p.size) (hd : d ≤ src) (k : Nat) : kk rk (bubble p src d) k = if k = src - d then kk rk p src else if src - d < k ∧ k ≤ src then kk rk p (k - 1) else kk rk p k := by
 have e := getElem?_bubble hs d hd k
 split
 ·rename_i h; rw [if_pos h] at e; exact kk_congr e
 ·rename_i h
  rw [if_neg h] at e
  split
  ·rename_i h2; rw [if_pos h2] at e; exact kk_congr e
  ·rename_i h2; rw [if_neg h2] at e; exact kk_congr e
theorem rev_perm (p : Array Nat) (i j : Nat) : (kas_rev p i j).Perm p := mirror_perm _ _ _ _
theorem asc_spec {p : Array Nat} : ∀ (f n : Nat), 1 ≤ n → Up rk p n → n ≤ kRun (ltR rk) (kas_asc p f n) ∧ kRun (ltR rk) (kas_asc p f n) ≤ n + f ∧ Up rk p (kRun (ltR rk) (kas_asc p f n)) ∧ (kRun (ltR rk) (kas_asc p f n) = n + f ∨ kk rk p (kRun (ltR rk) (kas_asc p f n)) < kk rk p (kRun (ltR rk) (kas_asc p f n) - 1))
 | 0, n, h1, hs => ⟨Nat.le_refl _, Nat.le_refl _, hs, .inl rfl⟩
 | f + 1, n, h1, hs => by
  have hr : kRun (ltR rk) (kas_asc p (f + 1) n) = kRun (ltR rk) (if ltR rk (p.getD n 0) (p.getD (n - 1) 0) = true then KasT.ret n else kas_asc p f (n + 1)) := rfl
  rw [hr]
  by_cases hc : ltR rk (p.getD n 0) (p.getD (n - 1) 0) = true
  ·rw [if_pos hc]
   exact ⟨Nat.le_refl _, Nat.le_add_right _ _, hs, .inr (of_decide_eq_true hc)⟩
  ·rw [if_neg hc]
   have hc' : kk rk p (n - 1) ≤ kk rk p n := by
    have : ¬ (rk (p.getD n 0) < rk (p.getD (n - 1) 0)) := fun z => hc (decide_eq_true z)
    unfold kk; exact (Int.not_lt.mp this)
   obtain ⟨a1, a2, a3, a4⟩ := asc_spec (p := p) f (n + 1) (by exact Nat.not_lt.mp fun qz => lin [_] [] [(1,.nt (.a (.v 0) (.n 1)) (.n 1)),(1,.nl (.n 1) (.v 0))] rfl qz h1) (fun i j hij hj => by
    by_cases hj' : j < n
    ·exact hs i j hij hj'
    ·obtain rfl : j = n := by exact Nat.le_antisymm (Nat.not_lt.mp fun qz => lin [_,_] [] [(1,.nt (.v 0) (.v 1)),(1,.nt (.v 1) (.a (.v 0) (.n 1)))] rfl qz hj) (Nat.not_lt.mp fun qz => lin [_,_] [] [(1,.nt (.v 0) (.v 1)),(1,.nl (.v 1) (.v 0))] rfl qz (Nat.not_lt.mp hj'))
     by_cases hi : i = j
     ·subst hi; exact Int.le_refl _
     ·exact Int.le_trans (hs i (j - 1) (by omega) (by exact Nat.not_le.mp fun qz => lin [_,_] [] [(1,.nl (.v 0) (.v 1)),(1,.ne (.a (.v 1) (.n 1)) (.v 0))] rfl qz (Nat.sub_add_cancel (Nat.not_lt.mp fun qz => lin [_] [] [(1,.nt (.v 0) (.n 1)),(1,.nl (.n 1) (.v 0))] rfl qz h1)))) hc')
   exact ⟨by exact Nat.le_of_lt a1, by exact Nat.not_lt.mp fun qz => lin [_,_,_] [] [(1,.nt (.a (.v 0) (.a (.v 1) (.n 1))) (.v 2)),(1,.nl (.v 2) (.a (.a (.v 0) (.n 1)) (.v 1)))] rfl qz a2, a3, a4.imp (fun e => by exact Nat.le_antisymm (Nat.not_lt.mp fun qz => lin [_,_,_] [] [(1,.nt (.a (.v 0) (.a (.v 1) (.n 1))) (.v 2)),(1,.ne (.v 2) (.a (.a (.v 0) (.n 1)) (.v 1)))] rfl qz e) (Nat.not_lt.mp fun qz => lin [_,_,_] [] [(1,.nt (.v 0) (.a (.v 1) (.a (.v 2) (.n 1)))),(1,.nf (.v 0) (.a (.a (.v 1) (.n 1)) (.v 2)))] rfl qz e)) id⟩
theorem desc_spec : ∀ (f : Nat) (p : Array Nat) (n q : Nat), 1 ≤ n → n + f ≤ p.size → Dn rk p n → q + 1 ≤ n → (∀ i, n - (q + 1) ≤ i → i < n → kk rk p i = kk rk p (n - 1)) →
  let r := kRun (ltR rk) (kas_desc f p n q)
  r.1.Perm p ∧ n ≤ r.2.1 ∧ r.2.1 ≤ n + f ∧ Dn rk r.1 r.2.1 ∧ r.2.2 + 1 ≤ r.2.1 ∧ (∀ i, r.2.1 - (r.2.2 + 1) ≤ i → i < r.2.1 → kk rk r.1 i = kk rk r.1 (r.2.1 - 1))
 | 0, p, n, q, h1, hz, hs, hq, he => ⟨.refl _, Nat.le_refl _, Nat.le_refl _, hs, hq, he⟩
 | f + 1, p, n, q, h1, hz, hs, hq, he => by
  intro r
  have hr : r = kRun (ltR rk) (kas_desc (f + 1) p n q) := rfl
  unfold kas_desc at hr
  simp only [kRun] at hr
  by_cases hc : ltR rk (p.getD n 0) (p.getD (n - 1) 0) = true
  ·rw [if_pos hc] at hr
   have hlt : kk rk p n < kk rk p (n - 1) := of_decide_eq_true hc
   have step : ∀ p' : Array Nat, (∀ k, kk rk p' k = kk rk p k) → Dn rk p' (n + 1) := fun p' hk i j hij hj => by
    rw [hk, hk]
    by_cases hj' : j < n
    ·exact hs i j hij hj'
    ·obtain rfl : j = n := by exact Nat.le_antisymm (Nat.not_lt.mp fun qz => lin [_,_] [] [(1,.nt (.v 0) (.v 1)),(1,.nt (.v 1) (.a (.v 0) (.n 1)))] rfl qz hj) (Nat.not_lt.mp fun qz => lin [_,_] [] [(1,.nt (.v 0) (.v 1)),(1,.nl (.v 1) (.v 0))] rfl qz (Nat.not_lt.mp hj'))
     by_cases hi : i = j
     ·subst hi; exact Int.le_refl _
     ·exact Int.le_trans (Int.le_of_lt hlt) (hs i (j - 1) (by omega) (by exact Nat.not_le.mp fun qz => lin [_,_] [] [(1,.nl (.v 0) (.v 1)),(1,.ne (.a (.v 1) (.n 1)) (.v 0))] rfl qz (Nat.sub_add_cancel (Nat.not_lt.mp fun qz => lin [_] [] [(1,.nt (.v 0) (.n 1)),(1,.nl (.n 1) (.v 0))] rfl qz h1))))
   by_cases hq0 : q > 0
   ·rw [if_pos hq0] at hr
    have hsz : (kas_rev p (n - (q + 1)) n).size = p.size := (rev_perm p _ _).size_eq
    obtain ⟨a1, a2, a3, a4, a5, a6⟩ := desc_spec f (kas_rev p (n - (q + 1)) n) (n + 1) 0 (by exact Nat.not_lt.mp fun qz => lin [_,_] [] [(1,.nt (.a (.v 0) (.n 1)) (.n 1)),(1,.nt (.n 0) (.v 1)),(1,.nl (.a (.v 1) (.n 1)) (.v 0))] rfl qz hq0 hq) (by exact Nat.not_lt.mp fun qz => lin [_,_,_,_] [] [(1,.nt (.v 0) (.a (.a (.v 1) (.n 1)) (.v 2))),(1,.nf (.v 0) (.v 3)),(1,.nl (.a (.v 1) (.a (.v 2) (.n 1))) (.v 3))] rfl qz hsz hz) (step _ (kk_rev_same (by exact Nat.not_lt.mp fun qz => lin [_,_,_] [] [(1,.nt (.v 0) (.v 1)),(1,.nl (.a (.v 1) (.a (.v 2) (.n 1))) (.v 0))] rfl qz hz) he)) (by exact Nat.not_lt.mp fun qz => lin [_,_] [] [(1,.nt (.a (.v 0) (.n 1)) (.a (.n 0) (.n 1))),(1,.nt (.n 0) (.v 1)),(1,.nl (.a (.v 1) (.n 1)) (.v 0))] rfl qz hq0 hq) (fun i h1 h2 => by congr 1; exact Nat.le_antisymm (Nat.not_lt.mp fun qz => lin [_,_,_] [] [(1,.nt (.v 0) (.v 1)),(1,.nt (.v 1) (.a (.v 2) (.n 1))),(1,.nl (.a (.v 2) (.n 1)) (.a (.v 0) (.n 1)))] rfl qz h2 (Nat.sub_le_iff_le_add.mp (Nat.le_refl _))) (Nat.not_lt.mp fun qz => lin [_,_,_,_] [] [(1,.nt (.v 0) (.v 1)),(1,.nl (.v 2) (.v 0)),(1,.nl (.a (.v 3) (.n 1)) (.a (.v 2) (.a (.n 0) (.n 1)))),(1,.ne (.a (.v 1) (.n 1)) (.a (.v 3) (.n 1)))] rfl qz h1 (Nat.sub_le_iff_le_add.mp (Nat.le_refl _)) (Nat.sub_add_cancel (Nat.not_lt.mp fun qz => lin [_,_] [] [(1,.nt (.a (.v 0) (.n 1)) (.n 1)),(1,.nt (.n 0) (.v 1)),(1,.nl (.a (.v 1) (.n 1)) (.v 0))] rfl qz hq0 hq))))
    rw [hr]
    exact ⟨a1.trans (rev_perm _ _ _), by exact Nat.le_of_lt a2, by exact Nat.not_lt.mp fun qz => lin [_,_,_] [] [(1,.nt (.a (.v 0) (.a (.v 1) (.n 1))) (.v 2)),(1,.nl (.v 2) (.a (.a (.v 0) (.n 1)) (.v 1)))] rfl qz a3, a4, a5, a6⟩
   ·rw [if_neg hq0] at hr
    obtain ⟨a1, a2, a3, a4, a5, a6⟩ := desc_spec f p (n + 1) 0 (by exact Nat.not_lt.mp fun qz => lin [_] [] [(1,.nt (.a (.v 0) (.n 1)) (.n 1)),(1,.nl (.n 1) (.v 0))] rfl qz h1) (by exact Nat.not_lt.mp fun qz => lin [_,_,_] [] [(1,.nt (.v 0) (.a (.a (.v 1) (.n 1)) (.v 2))),(1,.nl (.a (.v 1) (.a (.v 2) (.n 1))) (.v 0))] rfl qz hz) (step _ fun _ => rfl) (by exact Nat.not_lt.mp fun qz => lin [_] [] [(1,.nt (.a (.v 0) (.n 1)) (.a (.n 0) (.n 1))),(1,.nl (.n 1) (.v 0))] rfl qz h1) (fun i h1 h2 => by congr 1; exact Nat.le_antisymm (Nat.not_lt.mp fun qz => lin [_,_,_] [] [(1,.nt (.v 0) (.v 1)),(1,.nt (.v 1) (.a (.v 2) (.n 1))),(1,.nl (.a (.v 2) (.n 1)) (.a (.v 0) (.n 1)))] rfl qz h2 (Nat.sub_le_iff_le_add.mp (Nat.le_refl _))) (Nat.not_lt.mp fun qz => lin [_,_,_,_] [] [(1,.nt (.v 0) (.v 1)),(1,.nl (.v 2) (.v 0)),(1,.nl (.a (.v 3) (.n 1)) (.a (.v 2) (.a (.n 0) (.n 1)))),(1,.ne (.a (.v 1) (.n 1)) (.a (.v 3) (.n 1)))] rfl qz h1 (Nat.sub_le_iff_le_add.mp (Nat.le_refl _)) (Nat.sub_add_cancel (Nat.not_lt.mp fun qz => lin [_,_] [] [(1,.nt (.a (.v 0) (.n 1)) (.n 1)),(1,.nt (.v 1) (.a (.v 0) (.n 1)))] rfl qz h2))))
    rw [hr]
    exact ⟨a1, by exact Nat.le_of_lt a2, by exact Nat.not_lt.mp fun qz => lin [_,_,_] [] [(1,.nt (.a (.v 0) (.a (.v 1) (.n 1))) (.v 2)),(1,.nl (.v 2) (.a (.a (.v 0) (.n 1)) (.v 1)))] rfl qz a3, a4, a5, a6⟩
  ·rw [if_neg hc] at hr
   simp only [kRun] at hr
   have hge : kk rk p (n - 1) ≤ kk rk p n := by
    have : ¬ (rk (p.getD n 0) < rk (p.getD (n - 1) 0)) := fun z => hc (decide_eq_true z)
    unfold kk; exact (Int.not_lt.mp this)
   by_cases hd : ltR rk (p.getD (n - 1) 0) (p.getD n 0) = true
   ·rw [if_pos hd] at hr
    rw [hr]
    exact ⟨.refl _, Nat.le_refl _, Nat.le_add_right _ _, hs, hq, he⟩
   ·rw [if_neg hd] at hr
    have hle : kk rk p n ≤ kk rk p (n - 1) := by
     have : ¬ (rk (p.getD (n - 1) 0) < rk (p.getD n 0)) := fun z => hd (decide_eq_true z)
     unfold kk; exact (Int.not_lt.mp this)
    have heq : kk rk p n = kk rk p (n - 1) := Int.le_antisymm hle hge
    obtain ⟨a1, a2, a3, a4, a5, a6⟩ := desc_spec f p (n + 1) (q + 1) (by exact Nat.not_lt.mp fun qz => lin [_] [] [(1,.nt (.a (.v 0) (.n 1)) (.n 1)),(1,.nl (.n 1) (.v 0))] rfl qz h1) (by exact Nat.not_lt.mp fun qz => lin [_,_,_] [] [(1,.nt (.v 0) (.a (.a (.v 1) (.n 1)) (.v 2))),(1,.nl (.a (.v 1) (.a (.v 2) (.n 1))) (.v 0))] rfl qz hz) (fun i j hij hj => by
     by_cases hj' : j < n
     ·exact hs i j hij hj'
     ·obtain rfl : j = n := by exact Nat.le_antisymm (Nat.not_lt.mp fun qz => lin [_,_] [] [(1,.nt (.v 0) (.v 1)),(1,.nt (.v 1) (.a (.v 0) (.n 1)))] rfl qz hj) (Nat.not_lt.mp fun qz => lin [_,_] [] [(1,.nt (.v 0) (.v 1)),(1,.nl (.v 1) (.v 0))] rfl qz (Nat.not_lt.mp hj'))
      by_cases hi : i = j
      ·subst hi; exact Int.le_refl _
      ·rw [heq]; exact hs i (j - 1) (by omega) (by exact Nat.not_le.mp fun qz => lin [_,_] [] [(1,.nl (.v 0) (.v 1)),(1,.ne (.a (.v 1) (.n 1)) (.v 0))] rfl qz (Nat.sub_add_cancel (Nat.not_lt.mp fun qz => lin [_] [] [(1,.nt (.v 0) (.n 1)),(1,.nl (.n 1) (.v 0))] rfl qz h1)))) (by exact Nat.not_lt.mp fun qz => lin [_,_] [] [(1,.nt (.a (.v 0) (.n 1)) (.a (.a (.v 1) (.n 1)) (.n 1))),(1,.nl (.a (.v 1) (.n 1)) (.v 0))] rfl qz hq) (fun i h1 h2 => by
     rw [show n + 1 - 1 = n by exact Nat.le_antisymm (Nat.not_lt.mp fun qz => lin [_,_] [] [(1,.nt (.v 0) (.v 1)),(1,.ne (.a (.v 1) (.n 1)) (.a (.v 0) (.n 1)))] rfl qz (Nat.sub_add_cancel (Nat.not_lt.mp fun qz => lin [_,_,_,_] [] [(1,.nt (.a (.v 0) (.n 1)) (.n 1)),(1,.nt (.v 1) (.a (.v 0) (.n 1))),(1,.nl (.v 2) (.v 1)),(1,.nl (.a (.v 3) (.n 1)) (.v 0)),(1,.nl (.a (.v 0) (.n 1)) (.a (.v 2) (.a (.a (.v 3) (.n 1)) (.n 1))))] rfl qz h2 h1 hq (Nat.sub_le_iff_le_add.mp (Nat.le_refl _))))) (Nat.not_lt.mp fun qz => lin [_,_] [] [(1,.nt (.v 0) (.v 1)),(1,.nl (.a (.v 1) (.n 1)) (.a (.v 0) (.n 1)))] rfl qz (Nat.sub_le_iff_le_add.mp (Nat.le_refl _)))]
     by_cases hi : i = n
     ·subst hi; rfl
     ·rw [heq]; exact he i (by exact Nat.not_lt.mp fun qz => lin [_,_,_,_,_] [] [(1,.nt (.v 0) (.v 1)),(1,.nl (.v 2) (.v 0)),(1,.nl (.a (.v 3) (.n 1)) (.a (.v 2) (.a (.a (.v 4) (.n 1)) (.n 1)))),(1,.ne (.a (.v 1) (.a (.v 4) (.n 1))) (.v 3))] rfl qz h1 (Nat.sub_le_iff_le_add.mp (Nat.le_refl _)) (Nat.sub_add_cancel (Nat.not_lt.mp fun qz => lin [_,_] [] [(1,.nt (.v 0) (.a (.v 1) (.n 1))),(1,.nl (.a (.v 1) (.n 1)) (.v 0))] rfl qz hq))) (by omega))
    rw [hr]
    exact ⟨a1, by exact Nat.le_of_lt a2, by exact Nat.not_lt.mp fun qz => lin [_,_,_] [] [(1,.nt (.a (.v 0) (.a (.v 1) (.n 1))) (.v 2)),(1,.nl (.v 2) (.a (.a (.v 0) (.n 1)) (.v 1)))] rfl qz a3, a4, a5, a6⟩
theorem tail3_spec {p : Array Nat} {n nrem : Nat} (h1 : 1 ≤ n) (hn : n ≤ nrem) (hz : nrem ≤ p.size) (hs : Dn rk p n) :
  let r := kRun (ltR rk) (kas_tail3 n nrem p)
  r.2.Perm p ∧ 1 ≤ r.1 ∧ r.1 ≤ nrem ∧ Up rk r.2 r.1 := by
 intro r
 have hr : r = kRun (ltR rk) (kas_tail3 n nrem p) := rfl
 unfold kas_tail3 at hr
 rw [kRun_bind] at hr
 have hup : Up rk (kas_rev p 0 n) n := fun i j hij hj => by
  rw [kk_rev (by exact Nat.le_trans hn hz), kk_rev (by exact Nat.le_trans hn hz), if_pos (by exact ⟨Nat.not_lt.mp fun qz => lin [_] [] [(1,.nt (.v 0) (.n 0))] rfl qz, Nat.lt_of_le_of_lt hij hj⟩), if_pos (by exact ⟨Nat.not_lt.mp fun qz => lin [_] [] [(1,.nt (.v 0) (.n 0))] rfl qz, hj⟩)]
  exact hs _ _ (by exact Nat.not_lt.mp fun qz => lin [_,_,_,_,_] [] [(1,.nt (.v 0) (.v 1)),(1,.nl (.v 2) (.v 3)),(1,.nl (.v 4) (.a (.v 0) (.v 2))),(1,.ne (.a (.v 1) (.v 3)) (.v 4))] rfl qz hij (Nat.sub_le_iff_le_add.mp (Nat.le_refl _)) (Nat.sub_add_cancel (Nat.not_lt.mp fun qz => lin [_,_,_] [] [(1,.nt (.v 0) (.v 1)),(1,.nt (.v 1) (.v 2)),(1,.nl (.a (.n 0) (.v 2)) (.a (.v 0) (.n 1)))] rfl qz hj (Nat.sub_le_iff_le_add.mp (Nat.le_refl _))))) (by exact Nat.not_le.mp fun qz => lin [_,_,_] [] [(1,.nl (.v 0) (.v 1)),(1,.nl (.v 1) (.v 2)),(1,.ne (.a (.v 2) (.n 1)) (.a (.n 0) (.v 0)))] rfl qz (Nat.sub_le _ _) (Nat.sub_add_cancel (Nat.not_lt.mp fun qz => lin [_] [] [(1,.nt (.a (.n 0) (.v 0)) (.n 1)),(1,.nl (.n 1) (.v 0))] rfl qz h1)))
 obtain ⟨a1, a2, a3, a4⟩ := asc_spec (p := kas_rev p 0 n) (nrem - n) n h1 hup
 rw [hr]
 exact ⟨rev_perm _ _ _, by simp only [kRun]; exact Nat.le_trans h1 a1, by simp only [kRun]; exact Nat.not_lt.mp fun qz => lin [_,_,_,_] [] [(1,.nt (.v 0) (.v 1)),(1,.nl (.v 1) (.a (.v 2) (.v 3))),(1,.ne (.a (.v 3) (.v 2)) (.v 0))] rfl qz a2 (Nat.sub_add_cancel (Nat.not_lt.mp fun qz => lin [_,_] [] [(1,.nt (.v 0) (.v 1)),(1,.nl (.v 1) (.v 0))] rfl qz hn)), a3⟩
theorem descPart_spec {p : Array Nat} {n nrem : Nat} (hn : n + 1 ≤ nrem) (hz : nrem ≤ p.size) (hs : Dn rk p (n + 1)) :
  let r := kRun (ltR rk) (kas_descPart n nrem p)
  r.2.Perm p ∧ 1 ≤ r.1 ∧ r.1 ≤ nrem ∧ Up rk r.2 r.1 := by
 intro r
 have hr : r = kRun (ltR rk) (kas_descPart n nrem p) := rfl
 unfold kas_descPart at hr
 rw [kRun_bind] at hr
 obtain ⟨a1, a2, a3, a4, a5, a6⟩ := desc_spec (rk := rk) (nrem - (n + 1)) p (n + 1) 0 (by exact Nat.not_lt.mp fun qz => lin [_] [] [(1,.nt (.a (.v 0) (.n 1)) (.n 1))] rfl qz) (by exact Nat.not_lt.mp fun qz => lin [_,_,_,_] [] [(1,.nt (.v 0) (.a (.a (.v 1) (.n 1)) (.v 2))),(1,.nl (.v 3) (.v 0)),(1,.ne (.a (.v 2) (.a (.v 1) (.n 1))) (.v 3))] rfl qz hz (Nat.sub_add_cancel (Nat.not_lt.mp fun qz => lin [_,_] [] [(1,.nt (.v 0) (.a (.v 1) (.n 1))),(1,.nl (.a (.v 1) (.n 1)) (.v 0))] rfl qz hn))) hs (by exact Nat.not_lt.mp fun qz => lin [_] [] [(1,.nt (.a (.v 0) (.n 1)) (.a (.n 0) (.n 1)))] rfl qz) (fun i h1 h2 => by congr 1; exact Nat.le_antisymm (Nat.not_lt.mp fun qz => lin [_,_,_] [] [(1,.nt (.v 0) (.v 1)),(1,.nt (.v 1) (.a (.v 2) (.n 1))),(1,.nl (.a (.v 2) (.n 1)) (.a (.v 0) (.n 1)))] rfl qz h2 (Nat.sub_le_iff_le_add.mp (Nat.le_refl _))) (Nat.not_lt.mp fun qz => lin [_,_,_,_] [] [(1,.nt (.v 0) (.v 1)),(1,.nl (.v 2) (.v 0)),(1,.nl (.a (.v 3) (.n 1)) (.a (.v 2) (.a (.n 0) (.n 1)))),(1,.ne (.a (.v 1) (.n 1)) (.a (.v 3) (.n 1)))] rfl qz h1 (Nat.sub_le_iff_le_add.mp (Nat.le_refl _)) (Nat.sub_add_cancel (Nat.not_lt.mp fun qz => lin [_,_] [] [(1,.nt (.a (.v 0) (.n 1)) (.n 1)),(1,.nt (.v 1) (.a (.v 0) (.n 1)))] rfl qz h2))))
 revert hr a1 a2 a3 a4 a5 a6
 generalize kRun (ltR rk) (kas_desc (nrem - (n + 1)) p (n + 1) 0) = t
 intro hr a1 a2 a3 a4 a5 a6
 have hts : t.1.size = p.size := a1.size_eq
 by_cases hq : t.2.2 > 0
 ·rw [if_pos hq] at hr
  have e1 : Dn rk (kas_rev t.1 (t.2.1 - (t.2.2 + 1)) t.2.1) t.2.1 := fun i j hij hj => by
   rw [kk_rev_same (by exact Nat.not_lt.mp fun qz => lin [_,_,_,_,_,_] [] [(1,.nt (.v 0) (.v 1)),(1,.nf (.v 0) (.v 2)),(1,.nl (.v 1) (.a (.a (.v 3) (.n 1)) (.v 4))),(1,.nl (.v 5) (.v 2)),(1,.ne (.a (.v 4) (.a (.v 3) (.n 1))) (.v 5))] rfl qz hts a3 hz (Nat.sub_add_cancel (Nat.not_lt.mp fun qz => lin [_,_] [] [(1,.nt (.v 0) (.a (.v 1) (.n 1))),(1,.nl (.a (.v 1) (.n 1)) (.v 0))] rfl qz hn))) a6, kk_rev_same (by exact Nat.not_lt.mp fun qz => lin [_,_,_,_,_,_] [] [(1,.nt (.v 0) (.v 1)),(1,.nf (.v 0) (.v 2)),(1,.nl (.v 1) (.a (.a (.v 3) (.n 1)) (.v 4))),(1,.nl (.v 5) (.v 2)),(1,.ne (.a (.v 4) (.a (.v 3) (.n 1))) (.v 5))] rfl qz hts a3 hz (Nat.sub_add_cancel (Nat.not_lt.mp fun qz => lin [_,_] [] [(1,.nt (.v 0) (.a (.v 1) (.n 1))),(1,.nl (.a (.v 1) (.n 1)) (.v 0))] rfl qz hn))) a6]
   exact a4 i j hij hj
  have hrs : (kas_rev t.1 (t.2.1 - (t.2.2 + 1)) t.2.1).size = t.1.size := (rev_perm _ _ _).size_eq
  obtain ⟨b1, b2, b3, b4⟩ := tail3_spec (rk := rk) (nrem := nrem) (by exact Nat.not_lt.mp fun qz => lin [_,_] [] [(1,.nt (.v 0) (.n 1)),(1,.nt (.n 0) (.v 1)),(1,.nl (.a (.v 1) (.n 1)) (.v 0))] rfl qz hq a5) (by exact Nat.not_lt.mp fun qz => lin [_,_,_,_] [] [(1,.nt (.v 0) (.v 1)),(1,.nl (.v 1) (.a (.a (.v 2) (.n 1)) (.v 3))),(1,.ne (.a (.v 3) (.a (.v 2) (.n 1))) (.v 0))] rfl qz a3 (Nat.sub_add_cancel (Nat.not_lt.mp fun qz => lin [_,_] [] [(1,.nt (.v 0) (.a (.v 1) (.n 1))),(1,.nl (.a (.v 1) (.n 1)) (.v 0))] rfl qz hn))) (by exact Nat.le_trans (Nat.le_trans hz (Nat.le_of_eq hts.symm)) (Nat.le_of_eq hrs.symm)) e1
  rw [hr]
  exact ⟨b1.trans ((rev_perm _ _ _).trans a1), b2, b3, b4⟩
 ·rw [if_neg hq] at hr
  obtain ⟨b1, b2, b3, b4⟩ := tail3_spec (rk := rk) (nrem := nrem) (by exact Nat.not_lt.mp fun qz => lin [_,_] [] [(1,.nt (.v 0) (.n 1)),(1,.nl (.a (.v 1) (.n 1)) (.v 0))] rfl qz a5) (by exact Nat.not_lt.mp fun qz => lin [_,_,_,_] [] [(1,.nt (.v 0) (.v 1)),(1,.nl (.v 1) (.a (.a (.v 2) (.n 1)) (.v 3))),(1,.ne (.a (.v 3) (.a (.v 2) (.n 1))) (.v 0))] rfl qz a3 (Nat.sub_add_cancel (Nat.not_lt.mp fun qz => lin [_,_] [] [(1,.nt (.v 0) (.a (.v 1) (.n 1))),(1,.nl (.a (.v 1) (.n 1)) (.v 0))] rfl qz hn))) (by exact Nat.le_trans hz (Nat.le_of_eq hts.symm)) a4
  rw [hr]
  exact ⟨b1.trans a1, b2, b3, b4⟩
theorem count_spec {p : Array Nat} {nrem : Nat} (h1 : 1 ≤ nrem) (hz : nrem ≤ p.size) :
  let r := kRun (ltR rk) (kas_count nrem p)
  r.2.Perm p ∧ 1 ≤ r.1 ∧ r.1 ≤ nrem ∧ Up rk r.2 r.1 := by
 intro r
 have hr : r = kRun (ltR rk) (kas_count nrem p) := rfl
 unfold kas_count at hr
 rw [kRun_bind] at hr
 obtain ⟨a1, a2, a3, a4⟩ := asc_spec (rk := rk) (p := p) (nrem - 1) 1 (Nat.le_refl _) (fun i j hij hj => by obtain rfl : i = j := by exact Nat.le_antisymm (Nat.not_lt.mp fun qz => lin [_,_] [] [(1,.nt (.v 0) (.v 1)),(1,.nl (.v 1) (.v 0))] rfl qz hij) (Nat.not_lt.mp fun qz => lin [_,_] [] [(1,.nt (.v 0) (.v 1)),(1,.nt (.v 1) (.n 1))] rfl qz hj)
                                                                                                            exact Int.le_refl _)
 revert hr a1 a2 a3 a4
 generalize kRun (ltR rk) (kas_asc p (nrem - 1) 1) = n
 intro hr a1 a2 a3 a4
 by_cases hn : n = nrem
 ·rw [if_pos (by simpa using hn)] at hr
  rw [hr]
  exact ⟨.refl _, a1, by simp only [kRun]; exact (Nat.le_of_eq hn), a3⟩
 ·rw [if_neg (by simpa using hn)] at hr
  have hlt : kk rk p n < kk rk p (n - 1) := a4.resolve_left (by omega)
  by_cases hg : n > 1
  ·rw [if_pos hg] at hr
   simp only [kRun] at hr
   by_cases hc : ltR rk (p.getD 0 0) (p.getD (n - 1) 0) = true
   ·rw [if_pos hc] at hr
    rw [hr]
    exact ⟨.refl _, a1, by simp only [kRun]; exact Nat.not_lt.mp fun qz => lin [_,_,_] [] [(1,.nt (.v 0) (.v 1)),(1,.nl (.v 1) (.a (.n 1) (.v 2))),(1,.ne (.a (.v 2) (.n 1)) (.v 0))] rfl qz a2 (Nat.sub_add_cancel (Nat.not_lt.mp fun qz => lin [_] [] [(1,.nt (.v 0) (.n 1)),(1,.nl (.n 1) (.v 0))] rfl qz h1)), a3⟩
   ·rw [if_neg hc] at hr
    have hle : kk rk p (n - 1) ≤ kk rk p 0 := by
     have : ¬ (rk (p.getD 0 0) < rk (p.getD (n - 1) 0)) := fun z => hc (decide_eq_true z)
     unfold kk; exact (Int.not_lt.mp this)
    have hall : ∀ k, 0 ≤ k → k < n → kk rk p k = kk rk p (n - 1) := fun k _ hk => by
     have := a3 0 k (by exact Nat.not_lt.mp fun qz => lin [_] [] [(1,.nt (.v 0) (.n 0))] rfl qz) hk
     have := a3 k (n - 1) (by exact Nat.not_lt.mp fun qz => lin [_,_,_] [] [(1,.nt (.v 0) (.v 1)),(1,.nt (.v 1) (.v 2)),(1,.nl (.v 2) (.a (.v 0) (.n 1)))] rfl qz hk (Nat.sub_le_iff_le_add.mp (Nat.le_refl _))) (by exact Nat.not_le.mp fun qz => lin [_,_] [] [(1,.nl (.v 0) (.v 1)),(1,.ne (.a (.v 1) (.n 1)) (.v 0))] rfl qz (Nat.sub_add_cancel (Nat.not_lt.mp fun qz => lin [_] [] [(1,.nt (.v 0) (.n 1)),(1,.nt (.n 1) (.v 0))] rfl qz hg)))
     omega
    have hrs : (kas_rev p 0 n).size = p.size := (rev_perm _ _ _).size_eq
    obtain ⟨b1, b2, b3, b4⟩ := descPart_spec (rk := rk) (p := kas_rev p 0 n) (n := n) (nrem := nrem) (by omega) (by exact Nat.le_trans hz (Nat.le_of_eq hrs.symm)) (fun i j hij hj => by
     rw [kk_rev_same (by exact Nat.not_lt.mp fun qz => lin [_,_,_,_] [] [(1,.nt (.v 0) (.v 1)),(1,.nl (.v 1) (.a (.n 1) (.v 2))),(1,.nl (.v 3) (.v 0)),(1,.ne (.a (.v 2) (.n 1)) (.v 3))] rfl qz a2 hz (Nat.sub_add_cancel (Nat.not_lt.mp fun qz => lin [_] [] [(1,.nt (.v 0) (.n 1)),(1,.nl (.n 1) (.v 0))] rfl qz h1))) hall, kk_rev_same (by exact Nat.not_lt.mp fun qz => lin [_,_,_,_] [] [(1,.nt (.v 0) (.v 1)),(1,.nl (.v 1) (.a (.n 1) (.v 2))),(1,.nl (.v 3) (.v 0)),(1,.ne (.a (.v 2) (.n 1)) (.v 3))] rfl qz a2 hz (Nat.sub_add_cancel (Nat.not_lt.mp fun qz => lin [_] [] [(1,.nt (.v 0) (.n 1)),(1,.nl (.n 1) (.v 0))] rfl qz h1))) hall]
     by_cases hj' : j < n
     ·rw [hall i (by exact Nat.not_lt.mp fun qz => lin [_] [] [(1,.nt (.v 0) (.n 0))] rfl qz) (by exact Nat.lt_of_le_of_lt hij hj'), hall j (by exact Nat.not_lt.mp fun qz => lin [_] [] [(1,.nt (.v 0) (.n 0))] rfl qz) hj']; exact Int.le_refl _
     ·obtain rfl : j = n := by exact Nat.le_antisymm (Nat.not_lt.mp fun qz => lin [_,_] [] [(1,.nt (.v 0) (.v 1)),(1,.nt (.v 1) (.a (.v 0) (.n 1)))] rfl qz hj) (Nat.not_lt.mp fun qz => lin [_,_] [] [(1,.nt (.v 0) (.v 1)),(1,.nl (.v 1) (.v 0))] rfl qz (Nat.not_lt.mp hj'))
      by_cases hi : i = j
      ·subst hi; exact Int.le_refl _
      ·rw [hall i (by exact Nat.not_lt.mp fun qz => lin [_] [] [(1,.nt (.v 0) (.n 0))] rfl qz) (by omega)]; exact Int.le_of_lt hlt)
    rw [hr]
    exact ⟨b1.trans (rev_perm _ _ _), b2, b3, b4⟩
  ·rw [if_neg hg] at hr
   obtain rfl : n = 1 := by exact Nat.le_antisymm (Nat.not_lt.mp fun qz => lin [_] [] [(1,.nt (.n 1) (.v 0)),(1,.nl (.v 0) (.n 1))] rfl qz (Nat.not_lt.mp hg)) (Nat.not_lt.mp fun qz => lin [_] [] [(1,.nt (.v 0) (.n 1)),(1,.nl (.n 1) (.v 0))] rfl qz a1)
   obtain ⟨b1, b2, b3, b4⟩ := descPart_spec (rk := rk) (p := p) (n := 1) (nrem := nrem) (by omega) hz (fun i j hij hj => by
    by_cases hi : i = j
    ·subst hi; exact Int.le_refl _
    ·obtain rfl : i = 0 := by omega
     obtain rfl : j = 1 := by omega
     exact Int.le_of_lt hlt)
   rw [hr]
   exact ⟨b1, b2, b3, b4⟩
theorem place_spec {p : Array Nat} {k : Nat} (hs : Up rk p k) : ∀ (f l r : Nat), l ≤ r → r ≤ k → r - l ≤ f → (∀ i, i < l → kk rk p i ≤ kk rk p k) → (∀ i, r ≤ i → i < k → kk rk p k < kk rk p i) →
  kRun (ltR rk) (kas_place p k f l r) ≤ k ∧ (∀ i, i < kRun (ltR rk) (kas_place p k f l r) → kk rk p i ≤ kk rk p k) ∧ (∀ i, kRun (ltR rk) (kas_place p k f l r) ≤ i → i < k → kk rk p k < kk rk p i)
 | 0, l, r, h1, h2, h3, hlo, hhi => by
  obtain rfl : l = r := by exact Nat.le_antisymm (Nat.not_lt.mp fun qz => lin [_,_] [] [(1,.nt (.v 0) (.v 1)),(1,.nl (.v 1) (.v 0))] rfl qz h1) (Nat.not_lt.mp fun qz => lin [_,_,_] [] [(1,.nt (.v 0) (.v 1)),(1,.nl (.v 2) (.n 0)),(1,.nl (.v 1) (.a (.v 2) (.v 0)))] rfl qz h3 (Nat.sub_le_iff_le_add.mp (Nat.le_refl _)))
  exact ⟨h2, hlo, hhi⟩
 | f + 1, l, r, h1, h2, h3, hlo, hhi => by
  rw [show kas_place p k (f + 1) l r = (if l ≥ r then .ret l else .ask (p.getD k 0) (p.getD ((l + r) / 2) 0) fun c => if c = true then kas_place p k f l ((l + r) / 2) else kas_place p k f ((l + r) / 2 + 1) r) from rfl]
  by_cases hge : l ≥ r
  ·rw [if_pos hge]
   obtain rfl : l = r := by exact Nat.le_antisymm (Nat.not_lt.mp fun qz => lin [_,_] [] [(1,.nt (.v 0) (.v 1)),(1,.nl (.v 1) (.v 0))] rfl qz h1) (Nat.not_lt.mp fun qz => lin [_,_] [] [(1,.nt (.v 0) (.v 1)),(1,.nl (.v 1) (.v 0))] rfl qz hge)
   exact ⟨h2, hlo, hhi⟩
  ·rw [if_neg hge]
   simp only [kRun]
   by_cases hc : ltR rk (p.getD k 0) (p.getD ((l + r) / 2) 0) = true
   ·rw [if_pos hc]
    have hlt : kk rk p k < kk rk p ((l + r) / 2) := of_decide_eq_true hc
    exact place_spec hs f l ((l + r) / 2) (by omega) (by omega) (by omega) hlo fun i i1 i2 => Int.lt_of_lt_of_le hlt (hs _ _ i1 i2)
   ·rw [if_neg hc]
    have hle : kk rk p ((l + r) / 2) ≤ kk rk p k := by
     have : ¬ (rk (p.getD k 0) < rk (p.getD ((l + r) / 2) 0)) := fun z => hc (decide_eq_true z)
     unfold kk; exact (Int.not_lt.mp this)
    exact place_spec hs f ((l + r) / 2 + 1) r (by omega) (by exact h2) (by omega) (fun i i1 => Int.le_trans (hs i ((l + r) / 2) (by exact Nat.not_lt.mp fun qz => lin [_,_] [] [(1,.nt (.v 0) (.v 1)),(1,.nt (.v 1) (.a (.v 0) (.n 1)))] rfl qz i1) (by omega)) hle) hhi
theorem bin_spec : ∀ (f : Nat) (p : Array Nat) (k : Nat), k + f ≤ p.size → Up rk p k → (kRun (ltR rk) (kas_bin f p k)).Perm p ∧ Up rk (kRun (ltR rk) (kas_bin f p k)) (k + f)
 | 0, p, k, hz, hs => ⟨.refl _, hs⟩
 | f + 1, p, k, hz, hs => by
  rw [show kas_bin (f + 1) p k = (kas_place p k k 0 k).bind fun l => kas_bin f (bubble p k (k - l)) (k + 1) from rfl]
  rw [kRun_bind]
  obtain ⟨a1, a2, a3⟩ := place_spec hs k 0 k (by exact Nat.not_lt.mp fun qz => lin [_] [] [(1,.nt (.v 0) (.n 0))] rfl qz) (by exact Nat.not_lt.mp fun qz => lin [_] [] [(1,.nt (.v 0) (.v 0))] rfl qz) (by exact (Nat.sub_le _ _)) (fun i hi => by exact Int.not_lt.mp fun qz => lin [_] [] [(1,.nt (.v 0) (.n 0))] rfl hi) (fun i h1 h2 => by exact Int.not_le.mp fun qz => lin [_,_] [] [(1,.nt (.v 0) (.v 1)),(1,.nl (.v 1) (.v 0))] rfl h2 h1)
  revert a1 a2 a3
  generalize kRun (ltR rk) (kas_place p k k 0 k) = l
  intro a1 a2 a3
  have hks : k < p.size := by exact Nat.not_le.mp fun qz => lin [_,_,_] [] [(1,.nl (.v 0) (.v 1)),(1,.nl (.a (.v 1) (.a (.v 2) (.n 1))) (.v 0))] rfl qz hz
  obtain ⟨b1, b2⟩ := bin_spec f (bubble p k (k - l)) (k + 1) (by rw [bubble_size]; exact Nat.not_lt.mp fun qz => lin [_,_,_] [] [(1,.nt (.v 0) (.a (.a (.v 1) (.n 1)) (.v 2))),(1,.nl (.a (.v 1) (.a (.v 2) (.n 1))) (.v 0))] rfl qz hz) (fun i j hij hj => by
   rw [kk_bubble hks (by exact (Nat.sub_le _ _)), kk_bubble hks (by exact (Nat.sub_le _ _)), show k - (k - l) = l by exact Nat.le_antisymm (Nat.not_lt.mp fun qz => lin [_,_,_,_] [] [(1,.nt (.v 0) (.v 1)),(1,.nl (.v 2) (.a (.v 3) (.v 0))),(1,.ne (.a (.v 1) (.v 3)) (.v 2))] rfl qz (Nat.sub_le_iff_le_add.mp (Nat.le_refl _)) (Nat.sub_add_cancel (Nat.not_lt.mp fun qz => lin [_,_] [] [(1,.nt (.v 0) (.v 1)),(1,.nl (.v 1) (.v 0))] rfl qz (Nat.sub_le _ _)))) (Nat.not_lt.mp fun qz => lin [_,_,_,_] [] [(1,.nt (.v 0) (.v 1)),(1,.nl (.v 2) (.a (.v 0) (.v 3))),(1,.ne (.a (.v 3) (.v 1)) (.v 2))] rfl qz (Nat.sub_le_iff_le_add.mp (Nat.le_refl _)) (Nat.sub_add_cancel (Nat.not_lt.mp fun qz => lin [_,_] [] [(1,.nt (.v 0) (.v 1)),(1,.nl (.v 1) (.v 0))] rfl qz a1)))]
   repeat' split
   all_goals first
    | (exfalso; omega)
    | exact Int.le_refl _
    | exact a2 _ (by omega)
    | exact Int.le_of_lt (a3 _ (by omega) (by omega))
    | exact hs _ _ (by omega) (by omega))
  exact ⟨b1.trans (bubble_perm _ _ _), by rw [show k + (f + 1) = k + 1 + f by exact Nat.le_antisymm (Nat.not_lt.mp fun qz => lin [_,_] [] [(1,.nt (.a (.a (.v 0) (.n 1)) (.v 1)) (.a (.v 0) (.a (.v 1) (.n 1))))] rfl qz) (Nat.not_lt.mp fun qz => lin [_,_] [] [(1,.nt (.a (.v 0) (.a (.v 1) (.n 1))) (.a (.a (.v 0) (.n 1)) (.v 1)))] rfl qz)]; exact b2⟩
theorem sort_spec {n : Nat} (h2 : 2 ≤ n) : (kRun (ltR rk) (kas_sort n)).Perm (List.range n).toArray ∧ Up rk (kRun (ltR rk) (kas_sort n)) n := by
 unfold kas_sort
 rw [kRun_bind]
 have hz : n ≤ (List.range n).toArray.size := by simp
 obtain ⟨a1, a2, a3, a4⟩ := count_spec (rk := rk) (p := (List.range n).toArray) (nrem := n) (by exact Nat.le_of_lt (Nat.lt_of_lt_of_le (by decide) h2)) hz
 revert a1 a2 a3 a4
 generalize kRun (ltR rk) (kas_count n (List.range n).toArray) = r
 intro a1 a2 a3 a4
 have hrs : r.2.size = n := by rw [a1.size_eq]; simp
 by_cases hl : r.1 < n
 ·rw [if_pos hl]
  obtain ⟨b1, b2⟩ := bin_spec (rk := rk) (n - max r.1 1) r.2 (max r.1 1) (by omega) (by rw [show max r.1 1 = r.1 by omega]; exact a4)
  exact ⟨b1.trans a1, by rw [show max r.1 1 + (n - max r.1 1) = n by omega] at b2; exact b2⟩
 ·rw [if_neg hl]
  exact ⟨a1, by rw [show r.1 = n by exact Nat.le_antisymm (Nat.not_lt.mp fun qz => lin [_,_] [] [(1,.nt (.v 0) (.v 1)),(1,.nl (.v 1) (.v 0))] rfl qz a3) (Nat.not_lt.mp fun qz => lin [_,_] [] [(1,.nt (.v 0) (.v 1)),(1,.nl (.v 1) (.v 0))] rfl qz (Nat.not_lt.mp hl))] at a4; exact a4⟩
end
end Mine
namespace Mine
open PySem PySem.Calls PyProof.Rows PySem.SeqAt PySem.MeetsSeq PySem.MeetsSeq2 PySem.MeetsSeq3 PySem.SeqRoads2
noncomputable def OpAt (A : Around) (s : Shared) (op : CmpOp) (y x r : Value) : Prop :=
 ∀ (prog : Program) (w : World) (E : Value → Shared → Prop) (Q : Value → Shared → Prop), Q r s → wpAny (model prog w) A (richCompare op y x) Q E s
theorem tuple_ltAt (l b : Addr) (items items2 : Array Value) (n n2 : Nat) (e : Nat → Bool) (r : Value) :
  Meets (Builtin.«tuple.__lt__» ⟨[.ref l, .ref b], []⟩)
   (fun A R s => s.heap.get? l = some { cls := .type "tuple", dict := none, data := .seq items n, slots := #[] } ∧ s.heap.get? b = some { cls := .type "tuple", dict := none, data := .seq items2 n2, slots := #[] } ∧
    (∀ j (h1 : j < items.size) (h2 : j < items2.size), SeqAt.EqAt A.in1 s items[j] items2[j] (e j)) ∧
    (∀ j (h1 : j < items.size) (h2 : j < items2.size), e j = false → (∀ i, i < j → e i = true) → OpAt A.in1 s .Lt items[j] items2[j] r) ∧
    ((∀ i, i < min items.size items2.size → e i = true) → Builtin.Tuple.tupleCompareSizes .Lt items.size items2.size = r) ∧
    R (.ok (.ret r)) s) :=
 .of_wp fun prog w A R s h => by
  obtain ⟨hp, g, d, tk, os⟩ := s; obtain ⟨hl, hb, he, ho, hz0, h⟩ := h
  have f2 := AutoSeq1.sub_tuple_tuple
  have hZ : (items.toList.zip items2.toList).length = min items.size items2.size := by simp
  wp_walk using AutoSeq1.wpAny_loadPart' hl, AutoSeq1.wpAny_loadPart' hb, wpAny_forIn_list _ (fun rest b s' => b.1 = none ∧ s' = ⟨hp, g, d, tk, os⟩ ∧ ∃ i, rest = (items.toList.zip items2.toList).drop i ∧ ∀ j, j < i → e j = true) _
  case turn =>
   rintro ⟨y, x⟩ rest b s' ⟨hb', rfl, i, hz, hR⟩
   have hlt : i < (items.toList.zip items2.toList).length := by
    rcases Nat.lt_or_ge i (items.toList.zip items2.toList).length with h' | h'
    ·exact h'
    ·rw [List.drop_of_length_le h'] at hz; cases hz
   have hm : i < min items.size items2.size := hZ ▸ hlt
   have h1 : i < items.size := Nat.lt_of_lt_of_le hm (Nat.min_le_left _ _)
   have h2 : i < items2.size := Nat.lt_of_lt_of_le hm (Nat.min_le_right _ _)
   rw [List.drop_eq_getElem_cons hlt] at hz
   injection hz with hyx hrest
   have hy : y = items[i] := by have := congrArg Prod.fst hyx; simpa using this
   have hx : x = items2[i] := by have := congrArg Prod.snd hyx; simpa using this
   subst hy hx
   refine wpAny_bind (he i h1 h2 prog w _ _ ?_)
   cases hy : e i with
   | true =>
    wp_walk
    exact ⟨rfl, rfl, i + 1, hrest, fun j hj => by
     by_cases hji : j = i
     ·subst hji; exact hy
     ·exact hR j (by omega)⟩
   | false =>
    refine wpAny_bind (wpAny_rule ?_)
    refine wpAny_bind (ho i h1 h2 hy hR prog w _ _ ?_)
    wp_walk
    exact ⟨_, rfl, h⟩
  case fin =>
   rintro ⟨b1, b2⟩ s' ⟨hb', rfl, i, hz, hR⟩
   simp only at hb'
   subst hb'
   have hge : min items.size items2.size ≤ i := by
    rcases Nat.lt_or_ge i (items.toList.zip items2.toList).length with h' | h'
    ·rw [List.drop_eq_getElem_cons h'] at hz; cases hz
    ·exact hZ ▸ h'
   have e2 := hz0 fun j hj => hR j (by exact Nat.lt_of_lt_of_le hj hge)
   wp_walk
   exact ⟨_, rfl, by rw [e2]; exact h⟩
  case h =>
   exact ⟨rfl, rfl, 0, rfl, fun j hj => by omega⟩
theorem OpAt.tuple_lt {A : Around} {s : Shared} {l b : Addr} {vs us : List Value} {n n2 : Nat} {e : Nat → Bool} {r : Bool} (hl : s.heap.get? l = some (tupObj vs n)) (hb : s.heap.get? b = some (tupObj us n2)) (hu : A.units < cLine)
  (he : ∀ j (h1 : j < vs.toArray.size) (h2 : j < us.toArray.size), SeqAt.EqAt A.in1 s vs.toArray[j] us.toArray[j] (e j))
  (ho : ∀ j (h1 : j < vs.toArray.size) (h2 : j < us.toArray.size), e j = false → (∀ i, i < j → e i = true) → OpAt A.in1 s .Lt vs.toArray[j] us.toArray[j] (.bool r))
  (hz : (∀ i, i < min vs.toArray.size us.toArray.size → e i = true) → Builtin.Tuple.tupleCompareSizes .Lt vs.toArray.size us.toArray.size = .bool r) : OpAt A s .Lt (.ref l) (.ref b) (.bool r) := fun prog w E Q h =>
 richCompare_meets_room (op := .Lt) ⟨_, hl, rfl⟩ ⟨_, hb, rfl⟩ F.slot_tuple_lt F.entry_tuple_lt (F.args_tuple_lt_2 _ _) (tuple_ltAt l b vs.toArray us.toArray n n2 e (.bool r))
  ⟨hl, hb, he, ho, hz, show Value.bool r ≠ Value.notImplemented ∧ Q (.bool r) s from ⟨(fun x => nomatch x), h⟩⟩ hu
end Mine
namespace Mine
open PySem PySem.Calls PyProof.Rows PySem.W
noncomputable def kAll {α : Type} (n : Nat) (R : α → Prop) : KasT α → Prop
 | .ret a => R a
 | .ask i j k => i < n ∧ j < n ∧ ∀ b, kAll n R (k b)
theorem kAll_bind {α β : Type} {n : Nat} {R : α → Prop} {S : β → Prop} {f : α → KasT β} (hf : ∀ a, R a → kAll n S (f a)) : ∀ t : KasT α, kAll n R t → kAll n S (t.bind f)
 | .ret a, h => hf a h
 | .ask i j k, h => ⟨h.1, h.2.1, fun b => kAll_bind hf (k b) (h.2.2 b)⟩
theorem kasWp_all {α : Type} {cmp : Nat → Nat → (Bool → Shared → Prop) → Shared → Prop} {lt : Nat → Nat → Bool} {s : Shared} {n : Nat} {R : α → Prop} (hc : ∀ i j C, i < n → j < n → C (lt i j) s → cmp i j C s) : ∀ (t : KasT α) {G : α → Shared → Prop}, kAll n R t → G (kRun lt t) s → t.kasWp cmp G s
 | .ret a, G, _, h => h
 | .ask i j k, G, a, h => hc i j _ a.1 a.2.1 (kasWp_all hc (k (lt i j)) (a.2.2 _) h)
noncomputable def Low (n : Nat) (p : Array Nat) : Prop := ∀ i, p.getD i 0 < n
theorem Low.perm {n : Nat} {p q : Array Nat} (hn : 0 < n) (h : Low n p) (e : q.Perm p) : Low n q := fun i => by
 by_cases hi : i < q.size
 ·have hm : q[i] ∈ p := e.mem_iff.mp (Array.getElem_mem hi)
  obtain ⟨j, hj, he⟩ := Array.mem_iff_getElem.mp hm
  have := h j
  simp only [Array.getD, hi, hj, dif_pos] at this ⊢
  have e2 : q[i] = p[j] := he.symm
  simpa [e2] using this
 ·simp [Array.getD, hi]; exact hn
section
variable {n : Nat} (hn : 0 < n)
include hn
theorem asc_all {p : Array Nat} (hp : Low n p) : ∀ (f k : Nat), kAll n (fun _ => True) (kas_asc p f k)
 | 0, k => trivial
 | f + 1, k => ⟨hp _, hp _, fun b => by
  cases b
  ·simp only [Bool.false_eq_true, if_false]; exact asc_all hp f (k + 1)
  ·simp only [if_true]; trivial⟩
theorem desc_all : ∀ (f : Nat) (p : Array Nat) (k q : Nat), Low n p → kAll n (fun r => Low n r.1) (kas_desc f p k q)
 | 0, p, k, q, hp => hp
 | f + 1, p, k, q, hp => ⟨hp _, hp _, fun b => by
  cases b
  ·simp only [Bool.false_eq_true, if_false]
   refine ⟨hp _, hp _, fun d => ?_⟩
   cases d
   ·simp only [Bool.false_eq_true, if_false]; exact desc_all f p (k + 1) (q + 1) hp
   ·simp only [if_true]; exact hp
  ·simp only [if_true]
   split
   ·exact desc_all f _ (k + 1) 0 (hp.perm hn (rev_perm _ _ _))
   ·exact desc_all f p (k + 1) 0 hp⟩
theorem tail3_all {p : Array Nat} {k nrem : Nat} (hp : Low n p) : kAll n (fun r => Low n r.2) (kas_tail3 k nrem p) := by
 unfold kas_tail3
 refine kAll_bind (R := fun _ => True) (fun m _ => ?_) _ (asc_all hn (hp.perm hn (rev_perm _ _ _)) _ _)
 exact hp.perm hn (rev_perm _ _ _)
theorem descPart_all {p : Array Nat} {k nrem : Nat} (hp : Low n p) : kAll n (fun r => Low n r.2) (kas_descPart k nrem p) :=
 kAll_bind (R := fun r => Low n r.1) (fun r hr => by
  split
  ·exact tail3_all hn (hr.perm hn (rev_perm _ _ _))
  ·exact tail3_all hn hr) _ (desc_all hn _ _ _ _ hp)
theorem count_all {p : Array Nat} {nrem : Nat} (hp : Low n p) : kAll n (fun r => Low n r.2) (kas_count nrem p) :=
 kAll_bind (R := fun _ => True) (fun m _ => by
  split
  ·exact hp
  ·split
   ·refine ⟨hp _, hp _, fun b => ?_⟩
    cases b
    ·simp only [Bool.false_eq_true, if_false]; exact descPart_all hn (hp.perm hn (rev_perm _ _ _))
    ·simp only [if_true]; exact hp
   ·exact descPart_all hn hp) _ (asc_all hn hp _ _)
theorem place_all {p : Array Nat} {k : Nat} (hp : Low n p) : ∀ (f l r : Nat), kAll n (fun _ => True) (kas_place p k f l r)
 | 0, l, r => trivial
 | f + 1, l, r => by
  rw [show kas_place p k (f + 1) l r = (if l ≥ r then .ret l else .ask (p.getD k 0) (p.getD ((l + r) / 2) 0) fun c => if c = true then kas_place p k f l ((l + r) / 2) else kas_place p k f ((l + r) / 2 + 1) r) from rfl]
  split
  ·trivial
  ·refine ⟨hp _, hp _, fun b => ?_⟩
   cases b
   ·simp only [Bool.false_eq_true, if_false]; exact place_all hp f _ _
   ·simp only [if_true]; exact place_all hp f _ _
theorem bin_all : ∀ (f : Nat) (p : Array Nat) (k : Nat), Low n p → kAll n (fun r => Low n r) (kas_bin f p k)
 | 0, p, k, hp => hp
 | f + 1, p, k, hp => kAll_bind (R := fun _ => True) (fun l _ => bin_all f _ (k + 1) (hp.perm hn (bubble_perm _ _ _))) _ (place_all hn hp _ _ _)
theorem sort_all : kAll n (fun r => Low n r) (kas_sort n) := by
 have hp : Low n (List.range n).toArray := fun i => by
  by_cases hi : i < n
  ·simp [Array.getD, hi]
  ·simp [Array.getD, hi]; exact hn
 refine kAll_bind (R := fun r => Low n r.2) (fun r hr => ?_) _ (count_all hn hp)
 split
 ·exact bin_all hn _ _ _ hr
 ·exact hr
end
noncomputable def lexLt : List Int → List Int → Bool
 | [], [] => false
 | [], _ :: _ => true
 | _ :: _, [] => false
 | a :: r, b :: t => decide (a < b) || (a == b && lexLt r t)
theorem lexLt_irrefl : ∀ a, lexLt a a = false
 | [] => rfl
 | a :: r => by simp [lexLt, lexLt_irrefl r]
theorem lexLt_trans : ∀ {a b c : List Int}, lexLt a b = true → lexLt b c = true → lexLt a c = true
 | [], [], _, h, _ => by simp [lexLt] at h
 | [], _ :: _, [], _, h => by simp [lexLt] at h
 | [], _ :: _, _ :: _, _, _ => rfl
 | _ :: _, [], _, h, _ => by simp [lexLt] at h
 | _ :: _, _ :: _, [], _, h => by simp [lexLt] at h
 | a :: r, b :: t, c :: u, h1, h2 => by
  simp only [lexLt, Bool.or_eq_true, decide_eq_true_eq, Bool.and_eq_true, beq_iff_eq] at h1 h2 ⊢
  rcases h1 with h1 | ⟨rfl, h1⟩
  ·rcases h2 with h2 | ⟨rfl, h2⟩
   ·exact .inl (by exact Int.lt_trans h1 h2)
   ·exact .inl h1
  ·rcases h2 with h2 | ⟨rfl, h2⟩
   ·exact .inl h2
   ·exact .inr ⟨rfl, lexLt_trans h1 h2⟩
theorem lexLt_total : ∀ {a b : List Int}, lexLt a b = false → lexLt b a = false → a = b
 | [], [], _, _ => rfl
 | [], _ :: _, h, _ => by simp [lexLt] at h
 | _ :: _, [], _, h => by simp [lexLt] at h
 | a :: r, b :: t, h1, h2 => by
  simp only [lexLt, Bool.or_eq_false_iff, decide_eq_false_iff_not, Bool.and_eq_false_iff] at h1 h2
  obtain rfl : a = b := by exact Int.le_antisymm (Int.not_lt.mp fun qz => lin [] [_,_] [(1,.it (.v 0) (.v 1)),(1,.il (.v 1) (.v 0))] rfl qz (Int.not_lt.mp h2.1)) (Int.not_lt.mp fun qz => lin [] [_,_] [(1,.it (.v 0) (.v 1)),(1,.il (.v 1) (.v 0))] rfl qz (Int.not_lt.mp h1.1))
  have e1 : lexLt r t = false := h1.2.resolve_left (by simp)
  have e2 : lexLt t r = false := h2.2.resolve_left (by simp)
  rw [lexLt_total e1 e2]
theorem lexLt_first : ∀ {xs ys : List Int} {j : Nat} {a b : Int}, (∀ i, i < j → xs[i]? = ys[i]?) → xs[j]? = some a → ys[j]? = some b → a ≠ b → lexLt xs ys = decide (a < b)
 | [], _, j, a, b, _, h, _, _ => by simp at h
 | _ :: _, [], j, a, b, _, _, h, _ => by simp at h
 | x :: xs, y :: ys, 0, a, b, _, hx, hy, hne => by
  simp only [List.getElem?_cons_zero, Option.some.injEq] at hx hy
  subst hx; subst hy
  simp [lexLt, hne]
 | x :: xs, y :: ys, j + 1, a, b, h, hx, hy, hne => by
  have e : x = y := by simpa using h 0 (by exact Nat.not_le.mp fun qz => lin [_] [] [(1,.nl (.a (.v 0) (.n 1)) (.n 0))] rfl qz)
  subst e
  have := lexLt_first (xs := xs) (ys := ys) (j := j) (fun i hi => by simpa using h (i + 1) (by exact Nat.not_le.mp fun qz => lin [_,_] [] [(1,.nl (.a (.v 0) (.n 1)) (.a (.v 1) (.n 1))),(1,.nt (.v 1) (.v 0))] rfl qz hi)) (by simpa using hx) (by simpa using hy) hne
  simp [lexLt, this]
theorem lexLt_all : ∀ {xs ys : List Int}, (∀ i, i < min xs.length ys.length → xs[i]? = ys[i]?) → lexLt xs ys = decide (xs.length < ys.length)
 | [], [], _ => rfl
 | [], _ :: _, _ => by simp [lexLt]
 | _ :: _, [], _ => by simp [lexLt]
 | x :: xs, y :: ys, h => by
  have e : x = y := by simpa using h 0 (by simp)
  subst e
  have := lexLt_all (xs := xs) (ys := ys) fun i hi => by simpa using h (i + 1) (by simp; exact hi)
  simp [lexLt, this]
noncomputable def keyLt (a b : List Int) : Bool := decide (a.sum < b.sum) || (a.sum == b.sum && lexLt a b)
theorem keyLt_irrefl (a : List Int) : keyLt a a = false := by simp [keyLt, lexLt_irrefl]
theorem keyLt_trans {a b c : List Int} (h1 : keyLt a b = true) (h2 : keyLt b c = true) : keyLt a c = true := by
 simp only [keyLt, Bool.or_eq_true, decide_eq_true_eq, Bool.and_eq_true, beq_iff_eq] at h1 h2 ⊢
 rcases h1 with h1 | ⟨e1, h1⟩
 ·rcases h2 with h2 | ⟨e2, h2⟩ <;> exact .inl (by omega)
 ·rcases h2 with h2 | ⟨e2, h2⟩
  ·exact .inl (by exact Int.lt_of_le_of_lt (Int.le_of_eq e1) h2)
  ·exact .inr ⟨by exact Int.le_antisymm (Int.not_lt.mp fun qz => lin [] [_,_,_] [(1,.it (.v 0) (.v 1)),(1,.ie (.v 2) (.v 0)),(1,.ie (.v 1) (.v 2))] rfl qz e2 e1) (Int.not_lt.mp fun qz => lin [] [_,_,_] [(1,.it (.v 0) (.v 1)),(1,.jf (.v 2) (.v 1)),(1,.jf (.v 0) (.v 2))] rfl qz e2 e1), lexLt_trans h1 h2⟩
theorem keyLt_total {a b : List Int} (h1 : keyLt a b = false) (h2 : keyLt b a = false) : a = b := by
 simp only [keyLt, Bool.or_eq_false_iff, decide_eq_false_iff_not, Bool.and_eq_false_iff] at h1 h2
 have e : a.sum = b.sum := by exact Int.le_antisymm (Int.not_lt.mp fun qz => lin [] [_,_] [(1,.it (.v 0) (.v 1)),(1,.il (.v 1) (.v 0))] rfl qz (Int.not_lt.mp h2.1)) (Int.not_lt.mp fun qz => lin [] [_,_] [(1,.it (.v 0) (.v 1)),(1,.il (.v 1) (.v 0))] rfl qz (Int.not_lt.mp h1.1))
 exact lexLt_total (h1.2.resolve_left (by simp [e])) (h2.2.resolve_left (by simp [e]))
noncomputable def keyLe (a b : List Int) : Prop := keyLt b a = false
theorem countP_lt {α : Type} {p q : α → Bool} : ∀ {l : List α} {x : α}, x ∈ l → q x = true → p x = false → (∀ y ∈ l, p y = true → q y = true) → l.countP p < l.countP q
 | [], x, hx, _, _, _ => by cases hx
 | a :: r, x, hx, hq, hp, h => by
  rw [List.countP_cons, List.countP_cons]
  have hle : r.countP p ≤ r.countP q := List.countP_mono_left fun y hy e => h y (.tail _ hy) e
  rcases List.mem_cons.mp hx with rfl | hx
  ·simp [hq, hp]; exact Nat.not_le.mp fun qz => lin [_,_] [] [(1,.nl (.a (.v 0) (.n 1)) (.v 1)),(1,.nl (.v 1) (.v 0))] rfl qz hle
  ·have := countP_lt hx hq hp fun y hy => h y (.tail _ hy)
   have h0 := h a (.head _)
   cases hpa : p a <;> cases hqa : q a <;> simp [hpa, hqa] at h0 ⊢ <;> omega
noncomputable def rank (rows : List (List Int)) (i : Nat) : Int := (rows.countP fun r => keyLt r (rows.getD i []) : Nat)
theorem rank_lt {rows : List (List Int)} {i j : Nat} (hi : i < rows.length) (hj : j < rows.length) : decide (rank rows i < rank rows j) = keyLt (rows.getD i []) (rows.getD j []) := by
 have mi : rows.getD i [] ∈ rows := by rw [List.getD_eq_getElem?_getD, List.getElem?_eq_getElem hi]; exact List.getElem_mem hi
 cases h : keyLt (rows.getD i []) (rows.getD j []) with
 | true =>
  have : rank rows i < rank rows j := by
   unfold rank
   have := countP_lt (p := fun r => keyLt r (rows.getD i [])) (q := fun r => keyLt r (rows.getD j [])) mi h (keyLt_irrefl _) fun y _ e => keyLt_trans e h
   exact Int.not_le.mp fun qz => lin [_,_] [] [(1,.il (.c (.v 0)) (.c (.v 1))),(1,.nt (.v 1) (.v 0))] rfl qz this
  simp [this]
 | false =>
  have : rank rows j ≤ rank rows i := by
   unfold rank
   have : rows.countP (fun r => keyLt r (rows.getD j [])) ≤ rows.countP (fun r => keyLt r (rows.getD i [])) := List.countP_mono_left fun y _ e => by
    cases h2 : keyLt (rows.getD j []) (rows.getD i []) with
    | true => exact keyLt_trans e h2
    | false => rw [keyLt_total h h2]; exact e
   exact Int.not_lt.mp fun qz => lin [_,_] [] [(1,.it (.c (.v 0)) (.c (.v 1))),(1,.nl (.v 1) (.v 0))] rfl qz this
  simp; exact this
end Mine
namespace Mine
open PySem PySem.Calls PyProof.Rows PySem.W PySem.SeqAt
noncomputable abbrev row (is : List Int) : D := .tup (is.map .int)
noncomputable abbrev keyD (is : List Int) : D := .tup [.int is.sum, row is]
theorem Vs.int {K : List Addr} {h : Heap} {is : List Int} {vs : List Value} (x : Vs K h (is.map .int) vs) {j : Nat} {v : Value} (e : vs[j]? = some v) : ∃ i t, is[j]? = some i ∧ v = .int i t := by
 obtain ⟨d, e1, e2⟩ := x.get e
 rw [List.getElem?_map] at e1
 obtain ⟨i, hi, rfl⟩ := Option.map_eq_some_iff.mp e1
 obtain ⟨t, rfl⟩ := e2.toInt
 exact ⟨i, t, hi, rfl⟩
theorem EqAt.ints {A : Around} {s : Shared} {i j : Int} {t u : Tok} (hu : A.units + 5 < cLine) : EqAt A s (.int i t) (.int j u) (i == j) :=
 eqAt_reads (.int i) (.int j) A s _ _ [] [] (.int i t) (.int j u) rfl rfl (by simp [PyData.depth]; exact Nat.not_le.mp fun qz => lin [_,_] [] [(1,.nl (.v 0) (.v 1)),(1,.nt (.a (.v 1) (.n 5)) (.v 0))] rfl qz hu)
theorem toArr {vs : List Value} {j : Nat} (h : j < vs.toArray.size) : vs[j]? = some (vs.toArray[j]) := by
 have h' : j < vs.length := by simpa using h
 simp [h']
theorem OpAt.rowLt {A : Around} {s : Shared} {K : List Addr} {xs ys : List Int} {v u : Value} (hu : A.units + 8 < cLine) (x : V K s.heap (row xs) v) (y : V K s.heap (row ys) u) : OpAt A s .Lt v u (.bool (lexLt xs ys)) := by
 unfold V at x y
 obtain ⟨a, vs, n, rfl, _, g, r⟩ := x
 obtain ⟨b, us, k, rfl, _, g', r'⟩ := y
 have l1 : vs.length = xs.length := by simpa using r.length
 have l2 : us.length = ys.length := by simpa using r'.length
 refine OpAt.tuple_lt (e := fun j => xs[j]? == ys[j]?) g g' (by exact Nat.not_le.mp fun qz => lin [_,_] [] [(1,.nl (.v 0) (.v 1)),(1,.nt (.a (.v 1) (.n 8)) (.v 0))] rfl qz hu) (fun j h1 h2 => ?_) (fun j h1 h2 hne hall => ?_) fun hall => ?_
 ·obtain ⟨i, t, e1, e2⟩ := r.int (toArr h1)
  obtain ⟨i', t', e1', e2'⟩ := r'.int (toArr h2)
  rw [e2, e2', e1, e1']
  have e : (some i == some i') = (i == i') := rfl
  rw [e]
  exact EqAt.ints (by show A.units + 1 + 5 < cLine; exact Nat.not_le.mp fun qz => lin [_,_] [] [(1,.nl (.v 0) (.a (.a (.v 1) (.n 1)) (.n 5))),(1,.nt (.a (.v 1) (.n 8)) (.v 0))] rfl qz hu)
 ·obtain ⟨i, t, e1, e2⟩ := r.int (toArr h1)
  obtain ⟨i', t', e1', e2'⟩ := r'.int (toArr h2)
  rw [e2, e2']
  have hn : i ≠ i' := fun e => by simp [e1, e1', e] at hne
  rw [lexLt_first (fun i hi => by simpa using hall i hi) e1 e1' hn]
  exact fun prog w E Q h => PyProof.Rows.lt_int h
 ·rw [lexLt_all fun i hi => by simpa using hall i (by simpa [l1, l2] using hi)]
  simp [Builtin.Tuple.tupleCompareSizes, l1, l2]
theorem V.key {K : List Addr} {h : Heap} {xs : List Int} {v : Value} (x : V K h (keyD xs) v) : ∃ a n t w, v = .ref a ∧ h.get? a = some (tupObj [.int xs.sum t, w] n) ∧ V K h (row xs) w := by
 unfold V at x
 obtain ⟨a, vs, n, rfl, _, g, r⟩ := x
 unfold Vs at r
 obtain ⟨v1, r1, rfl, x1, r⟩ := r
 unfold Vs at r
 obtain ⟨v2, r2, rfl, x2, r⟩ := r
 unfold Vs at r; subst r
 obtain ⟨t, rfl⟩ := x1.toInt
 exact ⟨a, n, t, v2, rfl, g, x2⟩
theorem EqAt.rows {A : Around} {s : Shared} {K : List Addr} {xs ys : List Int} {v u : Value} (hu : A.units + 8 < cLine) (x : V K s.heap (row xs) v) (y : V K s.heap (row ys) u) : EqAt A s v u (decide (xs = ys)) := by
 have p1 : Py 2 (row xs) (.tuple (xs.map PyData.int)) := .tup (.map fun _ _ => .int)
 have p2 : Py 2 (row ys) (.tuple (ys.map PyData.int)) := .tup (.map fun _ _ => .int)
 obtain ⟨as, ra⟩ := V.reads _ _ _ x p1.py
 obtain ⟨bs, rb⟩ := V.reads _ _ _ y p2.py
 have := eqAt_reads _ _ A s _ _ as bs ra rb p1.can p2.can (by have := Nat.min_le_left (PyData.tuple (xs.map PyData.int)).depth (PyData.tuple (ys.map PyData.int)).depth; have := p1.dep; omega)
 have e : PyData.eqv (.tuple (xs.map PyData.int)) (.tuple (ys.map PyData.int)) = decide (xs = ys) := ked_eqvAll xs ys
 rw [e] at this
 exact this
theorem keyLt_asked {prog : Program} {w : World} {A : Around} {E : Value → Shared → Prop} {s : Shared} {K : List Addr} {xs ys : List Int} {v u : Value} {Q : Bool → Shared → Prop} (hu : A.units + 12 < cLine) (x : V K s.heap (keyD xs) v) (y : V K s.heap (keyD ys) u) (h : Q (keyLt xs ys) s) :
  wpAny (model prog w) A (keyLt' (tuples' true) v u) Q E s := by
 obtain ⟨a, n, t, p, rfl, g, xp⟩ := x.key
 obtain ⟨b, k, t', q, rfl, g', xq⟩ := y.key
 refine kat_lt g rfl g' rfl ?_
 show KatLex prog w A true _ Q [(_, _), (_, _)] 0 s
 refine kat_cons (EqAt.ints (by exact Nat.not_le.mp fun qz => lin [_,_] [] [(1,.nl (.v 0) (.a (.v 1) (.n 5))),(1,.nt (.a (.v 1) (.n 12)) (.v 0))] rfl qz hu) prog w _ _ ?_)
 by_cases e : xs.sum = ys.sum
 ·have e1 : (xs.sum == ys.sum) = true := by simpa using e
  rw [e1]
  refine kat_yes (kat_cons (EqAt.rows (by exact Nat.not_le.mp fun qz => lin [_,_] [] [(1,.nl (.v 0) (.a (.v 1) (.n 8))),(1,.nt (.a (.v 1) (.n 12)) (.v 0))] rfl qz hu) xp xq prog w _ _ ?_))
  by_cases e2 : xs = ys
  ·subst e2
   rw [decide_eq_true rfl]
   refine kat_yes (kat_nil ?_)
   rw [keyLt_irrefl] at h
   simpa using h
  ·rw [decide_eq_false e2]
   refine kat_no (kat_one _ _ (OpAt.rowLt (by exact Nat.not_le.mp fun qz => lin [_,_] [] [(1,.nl (.v 0) (.a (.v 1) (.n 8))),(1,.nt (.a (.v 1) (.n 12)) (.v 0))] rfl qz hu) xp xq prog w _ _ ?_))
   have e3 : keyLt xs ys = lexLt xs ys := by simp [keyLt, e]
   rw [e3] at h
   exact h
 ·have e1 : (xs.sum == ys.sum) = false := by simpa using e
  rw [e1]
  refine kat_no ?_
  show wpAny _ _ (oneLt' true _ _) _ _ _
  refine oneLt_int ?_
  have e3 : keyLt xs ys = decide (xs.sum < ys.sum) := by simp [keyLt, e]
  rw [e3] at h
  exact h
end Mine
set_option maxHeartbeats 1000000
namespace Mine
open PySem PySem.Calls PyProof.Rows PySem.W PySem.SeqAt
theorem Ok.around {c : Cx} {A B : Around} {fr : List Addr} {σ : Sto} {h : Heap} (ok : Ok c A fr σ h) (e : B.frames = A.frames) : Ok c B fr σ h := ⟨ok.base, ok.sto, ok.nd, ok.new, ok.live, by rw [e]; exact ok.stack⟩
theorem Vs.at {K : List Addr} {h : Heap} {rows : List (List Int)} {F : List Int → D} {vs : List Value} (x : Vs K h (rows.map F) vs) {i : Nat} (hi : i < rows.length) : V K h (F (rows.getD i [])) (vs.getD i .none) := by
 obtain ⟨v, e, hV⟩ := x.got (i := i) (d := F (rows.getD i [])) (by simp [List.getElem?_eq_getElem hi, List.getD_eq_getElem?_getD])
 have e2 : vs.getD i .none = v := by simp [List.getD_eq_getElem?_getD, e]
 rw [e2]
 exact hV
theorem Vs.picked {K : List Addr} {h : Heap} {rows : List (List Int)} {F : List Int → D} {vs : List Value} (x : Vs K h (rows.map F) vs) : ∀ l : List Nat, (∀ i ∈ l, i < rows.length) → Vs K h ((l.map fun i => rows.getD i []).map F) (l.map fun i => vs.getD i .none)
 | [], _ => Vs.nil
 | i :: r, hl => by
  simp only [List.map_cons]
  exact Vs.cons (x.at (hl i (.head _))) (x.picked r fun j hj => hl j (.tail _ hj))
theorem range_getD (rows : List (List Int)) : (List.range rows.length).map (fun i => rows.getD i []) = rows := by
 refine List.ext_getElem (by simp) fun i h1 h2 => ?_
 simp [List.getD_eq_getElem?_getD, h2]
theorem KatTups.of {K : List Addr} {h : Heap} : ∀ {rows : List (List Int)} {ks : List Value}, Vs K h (rows.map keyD) ks → ∃ fs, KatTups h ks fs ∧ fs.length = rows.length ∧ ∀ v ∈ fs, ∃ i t, v = .int i t
 | [], ks, x => by
  simp only [List.map_nil] at x
  unfold Vs at x; subst x
  exact ⟨[], trivial, rfl, fun v hv => by cases hv⟩
 | r :: rs, ks, x => by
  simp only [List.map_cons] at x
  unfold Vs at x
  obtain ⟨v, us, rfl, x1, x2⟩ := x
  obtain ⟨fs, h1, h2, h3⟩ := KatTups.of x2
  obtain ⟨a, n, t, w, rfl, g, _⟩ := x1.key
  refine ⟨.int r.sum t :: fs, PySem.W.KatTups.cons g rfl rfl rfl h1, by simp [h2], fun v hv => ?_⟩
  rcases List.mem_cons.mp hv with rfl | hv
  ·exact ⟨_, _, rfl⟩
  ·exact h3 v hv
section
variable {c : Cx} {A : Around} {fr : List Addr} {σ : Sto} {X : Addr → Sto → Prop} {Q : D → Sto → Prop}
theorem pw_small : ∀ {l : List (List Int)}, l.length < 2 → l.Pairwise keyLe
 | [], _ => .nil
 | [_], _ => List.pairwise_singleton _ _
theorem sort_end {rows : List (List Int)} {ks vs : List Value} {K : List Addr} {a kS : Addr} {e1 : Nat} {s : Shared} {P : PySem.Fin → Shared → Prop} {E : Value → Shared → Prop} (hu : A.units + 12 < cLine) (h64 : rows.length < 64) (hk : Vs K s.heap (rows.map keyD) ks) (hv : vs.length = rows.length)
  (h : ∀ st : SortSt, failedOf st = none → (∃ l : List Nat, (∀ i ∈ l, i < rows.length) ∧ l.length = rows.length ∧ (arrOf st).map (·.2) = (l.map fun i => vs.getD i .none).toArray ∧ (l.map fun i => rows.getD i []).Perm rows ∧ (l.map fun i => rows.getD i []).Pairwise keyLe) → wpAny (model c.prog c.w) A (ksk_tail a false e1 (.ref kS) st) P E s) :
  wpAny (model c.prog c.w) A (ksk_end a false vs.toArray e1 (.ref kS) ks.toArray) P E s := by
 have hl : ks.length = vs.length := by have := hk.length; simp at this; exact Nat.le_antisymm (Nat.not_lt.mp fun qz => lin [_,_,_] [] [(1,.nt (.v 0) (.v 1)),(1,.ne (.v 1) (.v 2)),(1,.nf (.v 0) (.v 2))] rfl qz this hv) (Nat.not_lt.mp fun qz => lin [_,_,_] [] [(1,.nt (.v 0) (.v 1)),(1,.nf (.v 0) (.v 2)),(1,.ne (.v 1) (.v 2))] rfl qz this hv)
 unfold ksk_end
 simp only [Bool.false_eq_true, if_false]
 by_cases h2 : vs.toArray.size < 2
 ·rw [if_pos h2, if_pos h2]
  refine wpAny_bind (wpAny_pure ?_)
  refine wpAny_bind (Q := _) (m := (pure () : StateT SortSt Sem Unit).run _) ?_
  rw [StateT.run_pure]
  refine wpAny_pure ?_
  have h2' : rows.length < 2 := by simpa [hv] using h2
  refine h _ rfl ⟨List.range rows.length, fun i hi => List.mem_range.mp hi, by simp, ?_, by rw [range_getD], ?_⟩
  ·have e1 : (arrOf (SortSt.mk' general' (ks.toArray.zip vs.toArray) #[] 7 none)) = ks.toArray.zip vs.toArray := rfl
   rw [e1]
   apply Array.toList_inj.mp
   rw [Array.toList_map, ksk_zip, List.toList_toArray]
   refine List.ext_getElem (by simp [hl, hv]) fun i i1 i2 => ?_
   have i3 : i < vs.length := by simp [hl] at i1; exact i1
   simp [List.getD_eq_getElem?_getD, i3]
  ·rw [range_getD]
   exact pw_small h2'
 ·rw [if_neg h2, if_neg h2]
  have h2' : 2 ≤ rows.length := by simp [hv] at h2; exact h2
  obtain ⟨fs, t1, t2, t3⟩ := KatTups.of hk
  refine wpAny_bind (kat_kind (T := .type "int") t1 (by exact Nat.lt_of_lt_of_le (Nat.lt_of_lt_of_le (by decide) h2') (Nat.le_of_eq t2.symm)) (fun v hv' => by obtain ⟨i, t, rfl⟩ := t3 v hv'; exact Looks.of_pure rfl) rfl ?_)
  refine wpAny_bind (wpAny_mono (kat_run (Q := fun st' s' => s' = s ∧ ∃ p : Array Nat, p.Perm (List.range rows.length).toArray ∧ Up (rank rows) p rows.length ∧ arrOf st' = p.map (kas_item (ks.toArray.zip vs.toArray)) ∧ failedOf st' = none)
   (G := fun p s' => s' = s ∧ p.Perm (List.range rows.length).toArray ∧ Up (rank rows) p rows.length) hl (by exact Nat.le_trans h2' (Nat.le_of_eq hv.symm)) (by exact Nat.lt_of_le_of_lt (Nat.le_of_eq hv) h64) (fun p st' s' a1 a2 a3 a4 => ⟨a4.1, p, a4.2.1, a4.2.2, a2, a3⟩) ?_) ?_ fun _ _ x => x)
  ·rw [hv]
   obtain ⟨b1, b2⟩ := sort_spec (rk := rank rows) h2'
   refine kasWp_all (lt := ltR (rank rows)) (R := fun r => Low rows.length r) (fun i j C hi hj hC => ?_) _ (sort_all (by exact Nat.lt_of_lt_of_le (by decide) h2')) ⟨rfl, b1, b2⟩
   refine keyLt_asked hu (hk.at hi) (hk.at hj) ?_
   rw [← rank_lt hi hj]
   exact hC
  ·rintro ⟨⟨⟩, st'⟩ s' ⟨rfl, p, a1, a2, a3, a4⟩
   have hlow : ∀ i ∈ p.toList, i < rows.length := fun i hi => by
    have := (Array.perm_iff_toList_perm.mp a1).mem_iff.mp hi
    simpa using this
   have hlen : p.toList.length = rows.length := by
    have := (Array.perm_iff_toList_perm.mp a1).length_eq
    simpa using this
   refine h st' a4 ⟨p.toList, hlow, hlen, kat_snds hl a3, ?_, ?_⟩
   ·have := (Array.perm_iff_toList_perm.mp a1).map fun i => rows.getD i []
    rw [List.toList_toArray, range_getD] at this
    exact this
   ·rw [List.pairwise_iff_getElem]
    intro i j hi hj hij
    simp only [List.length_map] at hi hj
    have hjn : j < rows.length := by exact Nat.lt_of_lt_of_le hj (Nat.le_of_eq hlen)
    have := a2 i j (by exact Nat.le_of_lt hij) hjn
    unfold kk at this
    have ei : p.getD i 0 = p.toList[i] := by
     have : i < p.size := by simpa using hi
     simp [Array.getD, this]
    have ej : p.getD j 0 = p.toList[j] := by
     have : j < p.size := by simpa using hj
     simp [Array.getD, this]
    rw [ei, ej] at this
    have li := hlow _ (List.getElem_mem hi)
    have lj := hlow _ (List.getElem_mem hj)
    simp only [List.getElem_map]
    unfold keyLe
    rw [← rank_lt lj li]
    simpa using this
theorem Vs.snocMap {K : List Addr} {h : Heap} {rows : List (List Int)} {F : List Int → D} {i : Nat} {r : List Int} {vs : List Value} {v : Value} (x : Vs K h ((rows.take i).map F) vs) (e : rows[i]? = some r) (y : V K h (F r) v) : Vs K h ((rows.take (i + 1)).map F) (vs ++ [v]) := by
 obtain ⟨hi, rfl⟩ := List.getElem?_eq_some_iff.mp e
 rw [List.take_succ_eq_append_getElem hi, List.map_append]
 exact x.append (Vs.cons y Vs.nil)
theorem call_sortedK {sd : SD} {rows : List (List Int)} {f : Addr} {P : Around → Prop} {s : Shared} {v : Value} (hL : sd.isL = true) (hd : sd.ds = rows.map row) (inv : sd.inv σ) (h64 : rows.length < 64) (hu : A.units + 20 < cLine) (hP : P A.in1.in1)
  (hf : ∀ r ∈ rows, WC c P (.ref f) [row r] σ (fun d σ' => σ' = σ ∧ d = keyD r) NoX) (ok : Ok c A fr σ s.heap) (hv : V (keys σ ++ fr) s.heap sd.d v)
  (h : ∀ out : List (List Int), out.Perm rows → out.Pairwise keyLe → QL Q (out.map row) σ) : W c A none fr σ (call (.builtin "sorted") [v] [(Str.ofString "key", .ref f)]) V Q X s := by
 obtain ⟨l, rfl, z⟩ := SD.of_v hv
 obtain ⟨vs, n, g, r⟩ := z.list ok inv hL
 rw [hd] at r
 have hlen : vs.length = rows.length := by simpa using r.length
 refine call_function_entry_kw kind_sorted plain_sorted entry_sorted (ksk_s1 _ _) ?_
 unfold Builtin.«sorted»
 refine wpAny_bind (m := checkCount "sorted" 1 1 _) (wpAny_pure ?_)
 refine wpAny_bind (collect_list ⟨_, g, rfl, n, rfl⟩ ?_ (by rw [sizeLine_eq]; exact Nat.le_of_lt (Nat.lt_trans (Nat.lt_of_le_of_lt (Nat.le_of_eq hlen) h64) (by decide))))
 refine wpAny_bind (wpAny_newList ?_ (by rw [sizeLine_eq]; exact Nat.le_of_lt (Nat.lt_trans (Nat.lt_of_le_of_lt (Nat.le_of_eq hlen) h64) (by decide))))
 have hsz : ((s.heap.push (seqObj "list" #[] 0)).update s.heap.objs.size (Obj.mapSeq (· ++ vs.toArray))).objs.size = s.heap.objs.size + 1 := by
  rw [Heap.size_update, size_push']
 have hoL : (((s.heap.push (seqObj "list" #[] 0)).update s.heap.objs.size (Obj.mapSeq (· ++ vs.toArray))).push (seqObj "list" vs.toArray 0)).get? (s.heap.objs.size + 1) = some (seqObj "list" vs.toArray 0) := by
  rw [← hsz]; exact Heap.get?_push_size _ rfl
 have keep : ∀ b o, s.heap.get? b = some o → (((s.heap.push (seqObj "list" #[] 0)).update s.heap.objs.size (Obj.mapSeq (· ++ vs.toArray))).push (seqObj "list" vs.toArray 0)).get? b = some o := fun b o q => by
  have hlt : b < s.heap.objs.size := Heap.lt_size q
  rw [Heap.get?_push_ne _ _ _ (by rw [hsz]; exact Nat.ne_of_lt (Nat.lt_succ_of_lt hlt)), Heap.get?_update_ne _ _ _ _ (Nat.ne_of_lt hlt), Heap.get?_push_ne _ _ _ (Nat.ne_of_lt hlt)]
  exact q
 have hsz2 : (((s.heap.push (seqObj "list" #[] 0)).update s.heap.objs.size (Obj.mapSeq (· ++ vs.toArray))).push (seqObj "list" vs.toArray 0)).objs.size = s.heap.objs.size + 2 := by rw [size_push', hsz]
 show wpAny _ _ _ _ _ { s with heap := ((s.heap.push (seqObj "list" #[] 0)).update s.heap.objs.size (Obj.mapSeq (· ++ vs.toArray))).push (seqObj "list" vs.toArray 0) }
 rw [hsz]
 revert hoL keep hsz2
 generalize ((s.heap.push (seqObj "list" #[] 0)).update s.heap.objs.size (Obj.mapSeq (· ++ vs.toArray))).push (seqObj "list" vs.toArray 0) = H1
 intro hoL keep hsz2
 refine wpAny_bind (wpAny_holding (wpAny_call_entry_kw slot_list_sort ⟨_, hoL, rfl⟩ entry_list_sort ?body (ksk_l1 _ _)))
 show wpAny (model c.prog c.w) A.in1.in1 (Builtin.«list.sort» ⟨[.ref (s.heap.objs.size + 1)], [(Str.ofString "key", .ref f)]⟩) _ _ _
 rw [ksk_t1]
 have hnone : ∀ b, s.heap.objs.size ≤ b → s.heap.get? b = none := fun b hb => none_of_ge hb
 unfold ksk_tree
 refine wpAny_bind (listItems_at hoL rfl ?_)
 obtain ⟨e1, ho1⟩ : ∃ e1, (H1.update (s.heap.objs.size + 1) (Obj.mapSeq fun _ => (#[] : Array Value))).get? (s.heap.objs.size + 1) = some (seqObj "list" #[] e1) := ⟨_, get?_update_seq hoL fun _ => #[]⟩
 refine wpAny_bind (listUpdate_at hoL rfl ?_ (by rw [List.size_toArray, sizeLine_eq]; exact Nat.le_of_lt (Nat.lt_trans (Nat.lt_of_le_of_lt (Nat.le_of_eq hlen) h64) (by decide))) (Nat.zero_le _))
 refine wpAny_bind (seqEpoch_at ho1 rfl ?_)
 refine wpAny_bind (wpAny_newTuple ?_ (by show vs.length ≤ _; rw [sizeLine_eq]; exact Nat.le_of_lt (Nat.lt_trans (Nat.lt_of_le_of_lt (Nat.le_of_eq hlen) h64) (by decide))))
 refine wpAny_bind (wpAny_newList ?_ (Nat.zero_le _))
 refine wpAny_holding ?_
 have hszk : ((H1.update (s.heap.objs.size + 1) (Obj.mapSeq fun _ => (#[] : Array Value))).push (seqObj "tuple" vs.toArray 0)).objs.size = s.heap.objs.size + 3 := by rw [size_push', Heap.size_update, hsz2]
 show wpAny (model c.prog c.w) A.in1.in1 (ksk_rest (s.heap.objs.size + 1) (.ref f) false vs.toArray e1 (.ref ((H1.update (s.heap.objs.size + 1) (Obj.mapSeq fun _ => (#[] : Array Value))).push (seqObj "tuple" vs.toArray 0)).objs.size)) _ _ { s with heap := ((H1.update (s.heap.objs.size + 1) (Obj.mapSeq fun _ => (#[] : Array Value))).push (seqObj "tuple" vs.toArray 0)).push (seqObj "list" #[] 0) }
 have gk : (((H1.update (s.heap.objs.size + 1) (Obj.mapSeq fun _ => (#[] : Array Value))).push (seqObj "tuple" vs.toArray 0)).push (seqObj "list" #[] 0)).get? (s.heap.objs.size + 3) = some (lstObj [] 0) := by rw [← hszk]; exact Heap.get?_push_size _ rfl
 have ga : (((H1.update (s.heap.objs.size + 1) (Obj.mapSeq fun _ => (#[] : Array Value))).push (seqObj "tuple" vs.toArray 0)).push (seqObj "list" #[] 0)).get? (s.heap.objs.size + 1) = some (lstObj [] e1) := Heap.get?_push_of_some _ (Heap.get?_push_of_some _ ho1)
 have keep4 : ∀ b o, s.heap.get? b = some o → (((H1.update (s.heap.objs.size + 1) (Obj.mapSeq fun _ => (#[] : Array Value))).push (seqObj "tuple" vs.toArray 0)).push (seqObj "list" #[] 0)).get? b = some o := fun b o q => by
  have hlt : b < s.heap.objs.size := Heap.lt_size q
  refine Heap.get?_push_of_some _ (Heap.get?_push_of_some _ ?_)
  rw [Heap.get?_update_ne _ _ _ _ (Nat.ne_of_lt (Nat.lt_succ_of_lt hlt))]
  exact keep b o q
 rw [hszk]
 revert gk ga keep4
 generalize ((H1.update (s.heap.objs.size + 1) (Obj.mapSeq fun _ => (#[] : Array Value))).push (seqObj "tuple" vs.toArray 0)).push (seqObj "list" #[] 0) = H4
 intro gk ga keep4
 have hn : ∀ b ∈ [s.heap.objs.size + 1, s.heap.objs.size + 3], s.heap.get? b = none := fun b hb => by
  simp only [List.mem_cons, List.not_mem_nil, or_false] at hb
  rcases hb with rfl | rfl
  ·exact hnone _ (Nat.le_add_right _ _)
  ·exact hnone _ (Nat.le_add_right _ _)
 have hne13 : s.heap.objs.size + 1 ≠ s.heap.objs.size + 3 := fun e => by
  have := Nat.add_left_cancel e
  cases this
 have ok4 : Ok c A.in1.in1 ([s.heap.objs.size + 1, s.heap.objs.size + 3] ++ fr) σ H4 := (ok.more keep4 hn (fun b hb => by
  simp only [List.mem_cons, List.not_mem_nil, or_false] at hb
  rcases hb with rfl | rfl
  ·exact ⟨_, ga⟩
  ·exact ⟨_, gk⟩) (by simp only [List.nodup_cons, List.mem_singleton, List.not_mem_nil, not_false_eq_true, List.nodup_nil, and_true]; exact hne13)).around rfl
 have p4 : Post [] fr σ s { s with heap := H4, toks := s.toks } σ := Post.keeps keep4
 have r4 : Vs (keys σ ++ ([s.heap.objs.size + 1, s.heap.objs.size + 3] ++ fr)) H4 (rows.map row) vs := Vs.move (K := keys σ ++ fr) (fun b o _ e => keep4 b o e) (less_add hn) _ _ r
 unfold ksk_rest
 refine wpAny_bind (wpAny_rule ?_)
 rw [List.forIn_toArray]
 generalize hA : s.heap.objs.size + 1 = a at *
 generalize hK : s.heap.objs.size + 3 = kS at *
 have hin := ok.frames_in
 have mem_a : a ∈ [a, kS] ++ fr := by simp
 have mem_k : kS ∈ [a, kS] ++ fr := by simp
 let J : Nat → Shared → Prop := fun i s' => Post [a, kS] ([a, kS] ++ fr) σ { s with heap := H4, toks := s.toks } s' σ ∧ Ok c A.in1.in1 ([a, kS] ++ fr) σ s'.heap ∧ s'.heap.get? a = some (lstObj [] e1) ∧
  (∃ ks e, s'.heap.get? kS = some (lstObj ks e) ∧ Vs (keys σ ++ ([a, kS] ++ fr)) s'.heap ((rows.take i).map keyD) ks) ∧ Vs (keys σ ++ ([a, kS] ++ fr)) s'.heap (rows.map row) vs
 refine wpAny_bind (ksk_fold J vs 0 _ ⟨Post.refl .., ok4, ga, ⟨[], 0, gk, Vs.nil⟩, r4⟩ (fun j x s' hx hJ => ?_) fun s' hJ => ?_)
 ·obtain ⟨q1, okj, gaj, ⟨ks, e, gkj, hks⟩, hvs⟩ := hJ
  rw [Nat.zero_add] at hks ⊢
  obtain ⟨d, hd1, hx1⟩ := hvs.get hx
  rw [List.getElem?_map] at hd1
  obtain ⟨rw_, hr1, rfl⟩ := Option.map_eq_some_iff.mp hd1
  have hksl : ks.length ≤ 63 := by have := hks.length; simp at this; omega
  refine wpAny_bind (wpAny_attempt ?_)
  refine wpAny_mono (hf rw_ (List.mem_of_getElem? hr1) A.in1.in1 ([a, kS] ++ fr) s' [x] hP okj (Vs.cons hx1 Vs.nil)) (fun k s'' ⟨dk, σ', pk, okk, xk, e2, e3⟩ => ?_) fun _ _ x => (Ex.no x).elim
  have e2' := e2.symm
  subst e2'; subst e3
  obtain ⟨sl, gk2, hs2⟩ := pk.slots kS _ mem_k (by simp) gkj
  have gk3 : s''.heap.get? kS = some (lstObj ks e) := by rw [hs2 (by intro es n z; cases z)] at gk2; exact gk2
  obtain ⟨sl', ga2, hs2'⟩ := pk.slots a _ mem_a (by simp) gaj
  have ga3 : s''.heap.get? a = some (lstObj [] e1) := by rw [hs2' (by intro es n z; cases z)] at ga2; exact ga2
  dsimp only
  refine wpAny_bind (listUpdate_at gk3 rfl ?_ (by rw [List.size_toArray, sizeLine_eq]; exact Nat.le_of_lt (Nat.lt_of_le_of_lt hksl (by decide))) (Nat.le_trans (Nat.le_of_eq (Array.size_push ..)) (by rw [List.size_toArray, sizeLine_eq]; exact Nat.not_lt.mp fun qz => lin [_] [] [(1,.nt (.a (.n 16777216) (.n 1)) (.a (.v 0) (.n 1))),(1,.nl (.v 0) (.n 63))] rfl qz hksl)))
  refine wpAny_pure ⟨rfl, ?_⟩
  have ea : ks.toArray.push k = (ks ++ [k]).toArray := by simp
  obtain ⟨c2, hc2⟩ : ∃ c2, (s''.heap.update kS (Obj.mapSeq (·.push k))).get? kS = some (lstObj (ks ++ [k]) c2) := ⟨_, by have := get?_update_seq gk3 (·.push k); rw [ea] at this; exact this⟩
  have kp : ∀ b o, b ≠ kS → s''.heap.get? b = some o → (s''.heap.update kS (Obj.mapSeq (·.push k))).get? b = some o := fun b o hb q => by rw [Heap.get?_update_ne _ _ _ _ hb]; exact q
  have ow : Ow [a, kS] s''.heap (s''.heap.update kS (Obj.mapSeq (·.push k))) := ⟨fun b o hb q => kp b o (fun e => hb (by rw [e]; simp)) q, fun b hb => by
   simp only [List.mem_cons, List.not_mem_nil, or_false] at hb
   rcases hb with rfl | rfl
   ·exact ⟨_, kp _ _ hne13 ga3⟩
   ·exact ⟨_, hc2⟩⟩
  have pw : Post [a, kS] ([a, kS] ++ fr) σ s'' { s'' with heap := s''.heap.update kS (Obj.mapSeq (·.push k)), toks := s''.toks } σ := Post.ow (F := []) (tk := s''.toks) ow
  have stw : Stay (keys σ ++ ([a, kS] ++ fr)) s''.heap (s''.heap.update kS (Obj.mapSeq (·.push k))) := pw.stay
  refine ⟨(q1.trans (pk.wide (by simp))).trans pw, okk.ow (fun b hb o q es n => ?_) ow, kp _ _ hne13 ga3, ⟨_, c2, hc2, ?_⟩, pw.vs (pk.vs hvs)⟩
  ·simp only [List.mem_cons, List.not_mem_nil, or_false] at hb
   rcases hb with rfl | rfl
   ·rw [ga3] at q; cases q; exact fun z => by cases z
   ·rw [gk3] at q; cases q; exact fun z => by cases z
  ·exact Vs.snocMap (pw.vs (pk.vs hks)) hr1 (pw.v xk)
 ·obtain ⟨q1, okj, gaj, ⟨ks, e, gkj, hks⟩, hvs⟩ := hJ
  rw [Nat.zero_add, hlen, List.take_length] at hks
  have hksl : ks.length = rows.length := by have := hks.length; simpa using this
  refine wpAny_bind (listItems_at gkj rfl ?_)
  refine sort_end (by show A.units + 1 + 1 + 12 < cLine; exact Nat.not_le.mp fun qz => lin [_,_] [] [(1,.nl (.v 0) (.a (.a (.a (.v 1) (.n 1)) (.n 1)) (.n 12))),(1,.nt (.a (.v 1) (.n 20)) (.v 0))] rfl qz hu) h64 hks hlen fun st hst ⟨l, l1, l2, l3, l4, l5⟩ => ?_
  unfold ksk_tail
  dsimp only
  rw [l3]
  refine wpAny_bind (listUpdate_at gkj rfl ?_ (by rw [List.size_toArray, sizeLine_eq]; exact Nat.le_of_lt (Nat.lt_trans (Nat.lt_of_le_of_lt (Nat.le_of_eq hksl) h64) (by decide))) (Nat.zero_le _))
  refine wpAny_bind (wpAny_letGo ?_)
  have kp : ∀ b o, b ≠ kS → s'.heap.get? b = some o → (s'.heap.update kS (Obj.mapSeq fun _ => #[])).get? b = some o := fun b o hb q => by rw [Heap.get?_update_ne _ _ _ _ hb]; exact q
  obtain ⟨ck, hck⟩ : ∃ ck, (s'.heap.update kS (Obj.mapSeq fun _ => (#[] : Array Value))).get? kS = some (lstObj [] ck) := ⟨_, get?_update_seq gkj fun _ => #[]⟩
  have ga5 := kp _ _ hne13 gaj
  refine wpAny_bind (seqEpoch_at ga5 rfl ?_)
  refine wpAny_bind (listUpdate_at ga5 rfl ?_ (Nat.zero_le _) (Nat.le_trans (Nat.le_of_eq (by simp [l2])) (by rw [sizeLine_eq]; exact Nat.not_lt.mp fun qz => lin [_] [] [(1,.nt (.a (.n 16777216) (.n 1)) (.v 0)),(1,.nt (.v 0) (.n 64))] rfl qz h64 : rows.length ≤ sizeLine + 1)))
  rw [hst]
  simp only [bne_self_eq_false, Bool.false_eq_true, if_false]
  refine wpAny_pure ⟨_, rfl, wpAny_pure ⟨_, rfl, ?_⟩⟩
  obtain ⟨cz, hcz⟩ : ∃ cz, ((s'.heap.update kS (Obj.mapSeq fun _ => (#[] : Array Value))).update a (Obj.mapSeq fun _ => (l.map fun i => vs.getD i Value.none).toArray)).get? a = some (lstObj (l.map fun i => vs.getD i Value.none) cz) := ⟨_, get?_update_seq ga5 fun _ => (l.map fun i => vs.getD i Value.none).toArray⟩
  have kp2 : ∀ b o, b ∉ [a, kS] → s'.heap.get? b = some o → ((s'.heap.update kS (Obj.mapSeq fun _ => (#[] : Array Value))).update a (Obj.mapSeq fun _ => (l.map fun i => vs.getD i Value.none).toArray)).get? b = some o := fun b o hb q => by
   simp only [List.mem_cons, List.not_mem_nil, or_false, not_or] at hb
   rw [Heap.get?_update_ne _ _ _ _ hb.1]
   exact kp b o hb.2 q
  have ow : Ow [a, kS] s'.heap ((s'.heap.update kS (Obj.mapSeq fun _ => (#[] : Array Value))).update a (Obj.mapSeq fun _ => (l.map fun i => vs.getD i Value.none).toArray)) := ⟨kp2, fun b hb => by
   simp only [List.mem_cons, List.not_mem_nil, or_false] at hb
   rcases hb with rfl | rfl
   ·exact ⟨_, hcz⟩
   ·refine ⟨lstObj [] ck, ?_⟩
    rw [Heap.get?_update_ne _ _ _ _ (fun e => hne13 e.symm)]; exact hck⟩
  have pw : Post [a, kS] ([a, kS] ++ fr) σ s' { s' with heap := (s'.heap.update kS (Obj.mapSeq fun _ => (#[] : Array Value))).update a (Obj.mapSeq fun _ => (l.map fun i => vs.getD i Value.none).toArray), toks := s'.toks } σ := Post.ow (F := []) (tk := s'.toks) ow
  have okw : Ok c A ([a] ++ ([kS] ++ fr)) σ ((s'.heap.update kS (Obj.mapSeq fun _ => (#[] : Array Value))).update a (Obj.mapSeq fun _ => (l.map fun i => vs.getD i Value.none).toArray)) := (okj.ow (fun b hb o q es n => by
   simp only [List.mem_cons, List.not_mem_nil, or_false] at hb
   rcases hb with rfl | rfl
   ·rw [gaj] at q; cases q; exact fun z => by cases z
   ·rw [gkj] at q; cases q; exact fun z => by cases z) ow).around rfl
  have pf : Post (Fo none) fr σ s { s' with heap := (s'.heap.update kS (Obj.mapSeq fun _ => (#[] : Array Value))).update a (Obj.mapSeq fun _ => (l.map fun i => vs.getD i Value.none).toArray), toks := s'.toks } σ := Post.drop (F := []) p4 hn (q1.trans pw)
  have hvz : Vs (keys σ ++ ([a] ++ fr)) ((s'.heap.update kS (Obj.mapSeq fun _ => (#[] : Array Value))).update a (Obj.mapSeq fun _ => (l.map fun i => vs.getD i Value.none).toArray)) ((l.map fun i => rows.getD i []).map row) (l.map fun i => vs.getD i Value.none) := by
   have := (pw.vs hvs).picked l l1
   exact Vs.move (K := keys σ ++ ([a, kS] ++ fr)) (fun b o _ q => q) (fun b hb => .inl (by
    simp only [List.mem_append, List.mem_cons, List.not_mem_nil, or_false] at hb ⊢
    rcases hb with hb | hb | hb
    ·exact .inl hb
    ·exact .inr (.inl (.inl hb))
    ·exact .inr (.inr hb))) _ _ this
  exact QL.use (G := none) (h _ l4 l5) pf (Ok.less (ex := [a]) okw hin) hin hcz hvz (hn a (by simp))
end
end Mine
set_option maxHeartbeats 1000000
namespace Mine
open PySem PySem.Calls PyProof.Rows PySem.W PySem.SeqAt
theorem Room.in2 {n : Nat} {A : Around} (r : Room (n + 1) A) : Room n A.in1.in1 := by
 obtain ⟨⟨h1, h2⟩, h3⟩ := r
 refine ⟨⟨?_, ?_⟩, h3⟩
 ·show A.depth + n < 990; exact Nat.not_le.mp fun qz => lin [_,_] [] [(1,.nl (.n 990) (.a (.v 0) (.v 1))),(1,.nt (.a (.v 0) (.a (.v 1) (.n 1))) (.n 990))] rfl qz h1
 ·show A.units + 1 + 1 + 10 * n < 9800; exact Nat.not_le.mp fun qz => lin [_,_] [] [(1,.nl (.n 9800) (.a (.a (.a (.v 0) (.n 1)) (.n 1)) (.m 10 (.v 1)))),(1,.nt (.a (.v 0) (.m 10 (.a (.v 1) (.n 1)))) (.n 9800))] rfl qz h2
section
variable {c : Cx} {A : Around} {fr : List Addr} {σ : Sto} {X : Addr → Sto → Prop} {Q : D → Sto → Prop} {env : Env} {m : Vars} {B : List Stmt} {bs : List (Str × Value)}
inductive SrtQ (c : Cx) (k : Str) (n : Nat) (Q : D → Sto → Prop) (d : D) (σ1 : Sto) : Prop
 | mk (sd : SD) (rows : List (List Int)) (e : d = sd.d) (hL : sd.isL = true) (hds : sd.ds = rows.map row) (inv : sd.inv σ1) (h64 : rows.length < 64) (hf : ∀ r ∈ rows, WF c (Room (n + 1)) k [row r] σ1 (fun d σ' => σ' = σ1 ∧ d = keyD r) NoX)
   (hq : ∀ out : List (List Int), out.Perm rows → out.Pairwise keyLe → QL Q (out.map row) σ1) : SrtQ c k n Q d σ1
theorem WE.sorted (T : Tp c B bs) {f x k : Str} {fp np kp kpos pos : Pos} {n : Nat} (r : Room (n + 2) A) (hk : env.kindOf f = some .globalImplicit) (hb : bs.lookup f = some (.builtin "sorted")) (hk2 : env.kindOf k = some .globalImplicit) (hdf : Dfn c k)
  (h : WE c A fr env m σ (.Name x np) (SrtQ c k n Q) X) (hdb : (f == ("__debug__" : Str)) = false := by decide) (hdb2 : (k == ("__debug__" : Str)) = false := by decide) :
  WE c A fr env m σ (.Call (.Name f fp) [.Name x np] [⟨some (Str.ofString "key"), .Name k kp, kpos⟩] pos) Q X := fun s ok fm => by
 obtain ⟨a, o, fd, g1, g2, g3⟩ := hdf
 unfold W
 show wpAny _ A (do callWith pos (← eval (.Name f fp) env) [] (backTo pos (starEach [.Name x np] env)) (backToKw pos (keywordEach [⟨some (Str.ofString "key"), .Name k kp, kpos⟩] env))) _ _ s
 refine wpAny_bind (Name_function_global fm.kind hk (loadGlobal_builtin (by rw [fm.glob]; exact T.good.g.keeps ok.base) (T.bn _ _ hb).1 (by rw [fm.bui]; exact T.good.b.keeps ok.base) (T.bn _ _ hb).2 ?_) hdb)
 refine callWith_kw ?_
 have hW : WA c A fr env m σ [.Name x np] (fun ds σ1 => ∃ d, ds = [d] ∧ SrtQ c k n Q d σ1) X := WA.cons (h.mono (fun d σ1 q => WA.nil ⟨d, rfl, q⟩) fun _ _ y => y)
 refine wpAny_mono (hW pos s ok fm) (fun vs s1 ⟨ds, σ1, p1, ok1, x1, d, e1, sd, rows, e2, hL, hds, inv, h64, hf, hq⟩ => ?_) fun _ _ y => y
 subst e1; subst e2
 unfold Vs at x1
 obtain ⟨v, us, rfl, xv, x2⟩ := x1
 unfold Vs at x2; subst x2
 show wpAny _ A (evalAll [do let v ← eval (.Name k kp) env; standAt pos; pure v]) _ _ s1
 refine evalAll_cons (wpAny_bind ?_)
 have fm1 := fm.move p1
 refine Name_function_global fm1.kind hk2 (loadGlobal_global (by rw [fm1.glob]; exact T.good.g.keeps ok1.base) g1 ?_) hdb2
 refine wpAny_bind (wpAny_standAt (wpAny_pure (evalAll_nil ?_)))
 have hu : A.units + 20 < cLine := by have := r.1.2; have e : cLine = 9900 := rfl; exact Nat.not_le.mp fun qz => lin [_,_,_] [] [(1,.nl (.v 0) (.a (.v 1) (.n 20))),(1,.nf (.v 0) (.n 9900)),(1,.nt (.a (.v 1) (.m 10 (.a (.v 2) (.n 2)))) (.n 9800))] rfl qz e this
 refine wpAny_mono (call_sortedK (P := Room (n + 1)) hL hds inv h64 hu r.in2 (fun r hr => hf r hr a g1) ok1 xv hq) (fun v s2 ⟨d, σ2, p2, ok2, x2, q2⟩ => ⟨d, σ2, p1.trans p2, ok2, x2, q2⟩) fun _ _ x => Ex.back p1 x fun _ _ y => y
end
end Mine
namespace Mine
open PySem PySem.Calls PyProof.Rows PySem.W PySem.SeqAt
theorem freeOk_of {env : Env} {scope sc : Scope} (h : env.scope = sc) (e : freeOk scope sc = true) : freeOk scope env.scope = true := by rw [h]; exact e
theorem relab_of {cenv env : Env} {scope sc : Scope} (h : cenv.scope = relab scope env.scope) (e : env.scope = sc) : cenv.scope = relab scope sc := by rw [h, e]
section
variable {c : Cx} {A : Around} {fr : List Addr} {σ : Sto} {X : Addr → Sto → Prop} {Q : D → Sto → Prop} {env : Env} {m : Vars}
theorem WU.notB {b : Bool} (h : Q (.bool (!b)) σ) : WU c A fr σ (unaryOp .Not) (.bool b) Q X := fun v s ok x => by
 unfold V at x; subst x
 exact not_value (wpAny_truthy_bool ⟨_, σ, Post.refl .., ok, V.ofBool, h⟩)
end
theorem mulOk_left {a b : Int} (h : a.natAbs < 2 ^ 64) : IntMulOk a b := IntMulOk.of_left (intBits_le h)
theorem mulOk_right {a b : Int} (h : b.natAbs < 2 ^ 64) : IntMulOk a b := IntMulOk.of_right (intBits_le h)
theorem eqv_all (xs : List Int) : ∀ ys : List Int, PyData.eqvAll (xs.map .int) (ys.map .int) = decide (xs = ys) := by
 induction xs with
 | nil => intro ys; cases ys <;> simp [PyData.eqvAll]
 | cons x xs ih =>
  intro ys
  cases ys with
  | nil => simp [PyData.eqvAll]
  | cons y ys =>
   rw [List.map_cons, List.map_cons, PyData.eqvAll, ih ys, PyData.eqv]
   by_cases h1 : x = y <;> by_cases h2 : xs = ys <;> simp [h1, h2]
theorem Py.row {xs : List Int} {n : Nat} : Py (n + 2) (row xs) (.tuple (xs.map .int)) := .tup (.map fun _ _ => .int)
theorem PyAll.rows {xs : List (List Int)} {n : Nat} : PyAll (n + 2) (xs.map row) (xs.map fun r => .tuple (r.map .int)) := .map fun _ _ => Py.row
end Mine
namespace Mine
open PySem PySem.Calls PyProof.Rows PySem.W PySem.SeqAt
noncomputable abbrev has (m : Vars) (x : Str) (d : D) : Prop := m.lookup x = some d
theorem lk_skip {x y : Str} {d e : D} {m : Vars} (h : (x == y) = false) (h2 : m.lookup x = some d) : List.lookup x ((y, e) :: m) = some d := by
 rw [List.lookup_cons, h]; exact h2
theorem lk_here {x : Str} {e : D} {m : Vars} : List.lookup x ((x, e) :: m) = some e := by
 rw [List.lookup_cons]; simp
section
variable {c : Cx} {A : Around} {fr : List Addr} {σ : Sto} {X : Addr → Sto → Prop} {Q : D → Sto → Prop} {env : Env} {m : Vars} {N : Vars → Sto → Prop} {R : D → Sto → Prop}
theorem kinds1 {x : Str} {d : D} (h : env.kindOf x = some .local ∨ env.kindOf x = some .cell) : ∀ y ∈ [(x, d)], env.kindOf y.1 = some .local ∨ env.kindOf y.1 = some .cell := fun y hy => by
 rw [List.mem_singleton] at hy; subst hy; exact h
theorem kinds2 {x z : Str} {d e : D} (h : env.kindOf x = some .local ∨ env.kindOf x = some .cell) (h2 : env.kindOf z = some .local ∨ env.kindOf z = some .cell) : ∀ y ∈ [(x, d), (z, e)], env.kindOf y.1 = some .local ∨ env.kindOf y.1 = some .cell := fun y hy => by
 rcases List.mem_cons.mp hy with rfl | hy
 ·exact h
 ·exact kinds1 h2 y hy
theorem Loop.of {α : Type} {l : List α} {g : α → Vars} {Inv : Sto → Prop} {body : List Stmt} (L : Nat → Vars → Sto → Prop) (hk : ∀ i ∈ l, ∀ y ∈ g i, env.kindOf y.1 = some .local ∨ env.kindOf y.1 = some .cell) (h0 : L 0 m σ) (hinv : ∀ k m' σ', L k m' σ' → Inv σ')
  (step : ∀ k i m' σ', l[k]? = some i → L k m' σ' → ∀ fr', WS c A fr' env (g i ++ m') σ' body (fun m'' σ'' => L (k + 1) m'' σ'') R X) (fin : ∀ m' σ', L l.length m' σ' → N m' σ') : Loop c A env m body N R X (l.map g) Inv σ := by
 refine ⟨fun x hx => ?_, L, h0, hinv, fun k x m' σ' hx hL fr' => ?_, fun m' σ' hL => fin m' σ' (by rwa [List.length_map] at hL)⟩
 ·obtain ⟨i, hi, rfl⟩ := List.mem_map.mp hx
  exact hk i hi
 ·rw [List.getElem?_map] at hx
  obtain ⟨i, hi, rfl⟩ := Option.map_eq_some_iff.mp hx
  exact step k i m' σ' hi hL fr'
theorem W1.forL {tg iter : Expr} {body : List Stmt} {pos : Pos} {sc : Scope} (fe : Fe A env sc) (h : WIt c A fr env m σ iter tg (Loop c A env m body N R X) X) (hs : ∀ x, foldedSetIterable iter env x = pure x := by intro _; rfl) : W1 c A fr env m σ (.For tg iter body [] pos) N R X :=
 W1.for_ fe.stack fe.frame h hs
end
theorem ite_t {P Q : Prop} (h : P) : if true = true then P else Q := by rw [if_pos rfl]; exact h
theorem ite_f {P Q : Prop} (h : Q) : if false = true then P else Q := by rw [if_neg (by simp)]; exact h
theorem ite_nt {P Q : Prop} (h : Q) : if (!true) = true then P else Q := by rw [if_neg (by simp)]; exact h
theorem ite_nf {P Q : Prop} (h : P) : if (!false) = true then P else Q := by rw [if_pos (by simp)]; exact h
section
variable {c : Cx} {A : Around} {fr : List Addr} {σ : Sto} {X : Addr → Sto → Prop} {Q : D → Sto → Prop} {a b : Int}
theorem WB.modE (hb : 0 < b) (hs : b.natAbs < 2 ^ 64) (h : Q (.int (a % b)) σ) : WB c A fr σ (binaryOp .Mod) (.int a) (.int b) Q X :=
 WB.mod (by omega) hs (by rw [Int.fmod_eq_emod_of_nonneg a (by exact Int.le_of_lt hb)]; exact h)
theorem WB.fdivE (hb : 0 < b) (hs : b.natAbs < 2 ^ 64) (h : Q (.int (a / b)) σ) : WB c A fr σ (binaryOp .FloorDiv) (.int a) (.int b) Q X :=
 WB.fdiv (by omega) hs (by rw [Int.fdiv_eq_ediv_of_nonneg a (by exact Int.le_of_lt hb)]; exact h)
end
section
variable {c : Cx} {A : Around} {fr : List Addr} {σ : Sto} {X : Addr → Sto → Prop} {Q : D → Sto → Prop}
theorem WSb.at {value slice : Expr} {sd : SD} {i : Int} {k : Nat} {d : D} (e : i = (k : Int)) (inv : sd.inv σ) (hk : sd.ds[k]? = some d) (hk2 : k < 2 ^ 60) (h : Q d σ)
  (hs : ∀ l u, subscripted slice false (.ref l) (.int i u) = operate [.ref l, .int i u] (getItem (.ref l) (.int i u)) := by intro _ _; with_unfolding_all rfl) : WSb c A fr σ value slice sd.d (.int i) Q X := by
 subst e
 refine WSb.item inv (by omega) (by omega) (by omega) ?_ h hs
 have : ¬ ((k : Int) < 0) := by omega
 simp only [idx, this, if_false, Int.toNat_natCast]
 exact hk
end
section
variable {c : Cx} {A : Around} {fr : List Addr} {σ : Sto} {X : Addr → Sto → Prop} {Q : D → Sto → Prop} {env : Env} {m : Vars} {N : Vars → Sto → Prop} {R : D → Sto → Prop}
theorem QO.mono {J N : Vars → Sto → Prop} {R : D → Sto → Prop} (k : ∀ m' σ', J m' σ' → N m' σ') {b : Out} {σ : Sto} (h : QO J R b σ) : QO N R b σ := by
 cases b with
 | next m => exact k _ _ h
 | ret d => exact h
theorem W1.join {st : Stmt} (J : Vars → Sto → Prop) (h : W1 c A fr env m σ st J R X) (k : ∀ m' σ', J m' σ' → N m' σ') : W1 c A fr env m σ st N R X := fun s ok fm =>
 (h s ok fm).mono (fun b σ' q => QO.mono k q) fun _ _ x => x
end
theorem capt_lk {scope : Scope} {x : Str} {d : D} (hf : scope.names.lookup x = some .free) : ∀ {m : Vars}, m.lookup x = some d → (capt scope m).lookup x = some d
 | [], h => by simp at h
 | (y, e) :: r, h => by
  rw [List.lookup_cons] at h
  unfold capt
  rw [List.filter_cons]
  by_cases hxy : x = y
  ·subst hxy
   have hc : (scope.names.lookup (x, e).1 == some NameKind.free) = true := by rw [hf]; rfl
   rw [if_pos hc]
   rw [List.lookup_cons]
   simpa using h
  ·have hb : (x == y) = false := by simpa using hxy
   rw [hb] at h
   have ih := capt_lk hf (m := r) h
   split
   ·rw [List.lookup_cons, hb]; exact ih
   ·exact ih
end Mine
namespace Mine
open PySem PySem.Calls PyProof.Rows PySem.W PySem.SeqAt
theorem Vs.ofWell {P : Params} {h : Heap} : ∀ {S : List Int} {vs : List Value}, WellAll P h vs (S.map WData.int) → Vs [] h (S.map D.int) vs
 | [], vs, x => by
  simp only [List.map_nil] at x ⊢
  cases x
  exact Vs.nil
 | i :: S, vs, x => by
  simp only [List.map_cons] at x ⊢
  cases x with
  | cons x1 x2 =>
   cases x1
   exact Vs.cons V.ofInt (Vs.ofWell x2)
theorem V.ofWell {P : Params} {h : Heap} {S : List Int} {v : Value} (x : Well P h v (.list (S.map WData.int))) : V [] h (.lst (S.map .int)) v := by
 cases x with
 | list g x => unfold V; exact ⟨_, _, 0, rfl, by simp, g, Vs.ofWell x⟩
theorem ofPys_ints : ∀ S : List Int, ofPys (S.map PyData.int) = S.map WData.int
 | [] => rfl
 | i :: S => by simp only [List.map_cons, ofPys, ofPy, ofPys_ints S]
noncomputable def bnOk (view : Program) (loose : List Str) (x : Str) : Bool :=
 !startupNames.contains x && !loose.contains x && !((recsOf view).map (·.name)).contains x && !((litsOf view).map (·.1)).contains x && !((clssOf view loose).map (·.name)).contains x && x != ("__name__" : Str)
theorem Tp.ofTop {view : Program} {loose : List Str} {mean : ExcName → Option Value} {c : Cx} {B : List Stmt} {bs : List (Str × Value)} (T : Top view loose mean c.mg c.mb c.h0) (hp : recsOf view = B.filterMap recOf) (hb : (bs.all fun p => bnOk view loose p.1) = true) (hv : bs.map (fun p => bootBuiltins p.1) = bs.map fun p => some p.2) : Tp c B bs where
 good := ⟨T.g, T.b⟩
 nolimit := T.nolimit
 fn := fun d hd => by rw [← hp] at hd; exact T.fn d hd
 bn := fun x v hx => by
  have hm : (x, v) ∈ bs := by
   clear hb hv
   induction bs with
   | nil => simp at hx
   | cons q r ih =>
    obtain ⟨y, u⟩ := q
    rw [List.lookup_cons] at hx
    by_cases e : x = y
    ·subst e
     have : u = v := by simpa using hx
     subst this; exact .head _
    ·have e' : (x == y) = false := by simpa using e
     rw [e'] at hx
     exact .tail _ (ih hx)
  have h1 := List.all_eq_true.mp hb _ hm
  simp only [bnOk, Bool.and_eq_true, Bool.not_eq_true', bne_iff_ne, ne_eq, List.contains_eq_mem, decide_eq_false_iff_not] at h1
  obtain ⟨⟨⟨⟨⟨a1, a2⟩, a3⟩, a4⟩, a5⟩, a6⟩ := h1
  refine ⟨T.free x a1 a2 a3 a4 a5, ?_⟩
  rw [T.builtins x a6]
  obtain ⟨i, hi, e⟩ := List.mem_iff_getElem.mp hm
  have := congrArg (fun l => l[i]?) hv
  simp only [List.getElem?_map, List.getElem?_eq_getElem hi, Option.map_some, e] at this
  simpa using this
theorem last {c : Cx} {claim : ClaimW} {cl : Str → Option Addr} {mean : ExcName → Option Value} {args : List WData} {name : Str} {fa : Addr} {l : Value} {S : List Int} {s₁ : Shared} {k : Nat} (hw : WF c (Room k) name [.lst (S.map .int)] [] (fun d _ => d = .bool true) NoX) (hk : k ≤ 600) (hmg : c.mg name = some (.ref fa)) (hV : V [] s₁.heap (.lst (S.map .int)) l) (h0 : c.h0 = s₁.heap) (hg : s₁.gens = #[])
  (hpost : claim.post args (.bool true) args = true) (hr : ∀ cls, claim.raises args cls = false) : wpAny (model c.prog c.w) callerA (call (.ref fa) [l]) (fun v s' => GoodWG claim cl mean args s₁ (.ok (.ret v)) s') (fun e s' => GoodWG claim cl mean args s₁ (.error e) s') s₁ := by
 have room : Room k callerA := by
  refine ⟨⟨?_, ?_⟩, rfl⟩
  ·show 1 + 300 + k < 990; exact Nat.not_le.mp fun qz => lin [_] [] [(1,.nl (.n 990) (.a (.a (.n 1) (.n 300)) (.v 0))),(1,.nl (.v 0) (.n 600))] rfl qz hk
  ·show 4 + 10 * k < 9800; exact Nat.not_le.mp fun qz => lin [_] [] [(1,.nl (.n 9800) (.a (.n 4) (.m 10 (.v 0)))),(10,.nl (.v 0) (.n 600))] rfl qz hk
 have ok : Ok c callerA [] [] s₁.heap := ⟨fun b o e => by rw [h0] at e; exact e, fun p hp => (by cases hp), (by simp [keys]), fun a ha => (by simp [keys] at ha), fun a ha => (by cases ha), ⟨[], rfl, trivial, fun b hb => (by simp at hb), fun b hb => (by simp at hb)⟩⟩
 have hv : Vs (keys [] ++ []) s₁.heap [.lst (S.map .int)] [l] := Vs.cons hV Vs.nil
 refine wpAny_mono (hw fa hmg callerA [] s₁ [l] room ok hv) (fun v s' ⟨d, σ, p, ok', x, e⟩ => ?_) fun _ _ x => (Ex.no x).elim
 subst e
 unfold V at x; subst x
 refine GoodW.toG ⟨.inl ⟨_, .bool true, [], rfl, hr, .bool true, hpost, fun _ => ⟨List.nodup_nil, fun a ha => by cases ha⟩⟩, fun b o e => p.kept b o (by simp [keys]) e, ?_, ?_⟩
 ·obtain ⟨h, tk, rfl⟩ := p.shape; rfl
 ·obtain ⟨h, tk, rfl⟩ := p.shape; exact hg
theorem post_ok (l : OpenLaw) (args ds : List WData) : l.row.claim.post args (.bool true) ds = true := by
 simp only [RowW.claim, OpenLaw.row]
 rw [Bool.and_eq_true]
 constructor
 ·simp [WShape.has, WShape.arms]
 ·unfold WTm.holds
  simp [WTm.value, same]
theorem raises_ok (l : OpenLaw) (args : List WData) (cls : ExcName) : l.row.claim.raises args cls = false := rfl
end Mine
set_option maxHeartbeats 1000000
namespace Mine
open PySem PySem.Calls PyProof.Rows PySem.W
theorem lookIn_of {o : Obj} {es : Array DictEntry} {ep : Nat} {mA : Str → Option Value} (hd : o.data = .dict es ep) (hk : StrKeys es) (hf : ∀ n, nsFind es n = mA n) (x : Str) : lookIn x o = some (mA x) := by
 unfold lookIn
 rw [hd]
 dsimp only
 rw [← hf x]
 unfold nsFind findBy
 obtain ⟨l⟩ := es
 rw [List.find?_toArray]
 cases h : l.find? (fun e => e.key.isStr x) with
 | some e => rfl
 | none =>
  have : l.any (·.refKey) = false := by
   rw [List.any_eq_false]; intro e he
   obtain ⟨n, t, q⟩ := hk e (by simpa using he)
   unfold DictEntry.refKey; rw [q]; simp
  simp [this]
structure Ks (c : Cx) (K : Frag) (C : Addr) (cn : Str) (Bd : List Stmt) : Prop where
 inn : K.In c.h0
 name : c.mg cn = some (.ref C)
 get : findIn K (.ref C) "__getattribute__" = some (some (.builtin "object.__getattribute__"))
 geta : findIn K (.ref C) "__getattr__" = some none
 dict : hasDictIn K C = true
 makes : makesIn K C = true
 keep : keepIn K (.ref C) = true
 over : plainOver K C = true
 seta : findIn K (.ref C) "__setattr__" = some (some (.builtin "object.__setattr__"))
 size : findIn K (.ref C) "size" = some none
 rules : findIn K (.ref C) "rules" = some none
 meth : ∀ d ∈ Bd.filterMap recOf, ∃ f o pm code doc qual, findIn K (.ref C) d.name = some (some (.ref f)) ∧ typeIn K (.ref f) = some (.type "function") ∧ keepIn K (.ref f) = true ∧ c.h0.get? f = some o ∧
  o.data = .func { docDef d.name d.params d.body d.scope pm code doc with qualname := qual } ∧ c.h0.CodeRec code qual
section
variable {c : Cx} {K : Frag} {C : Addr} {cn : Str} {Bd : List Stmt}
noncomputable def WM (c : Cx) (K : Frag) (C : Addr) (P : Around → Prop) (name : Str) (ds : List D) (σ : Sto) (Q : D → Sto → Prop) (X : Addr → Sto → Prop) : Prop :=
 ∀ f, findIn K (.ref C) name = some (some (.ref f)) → WD c P (.ref f) ds σ Q X
noncomputable def Mth (K : Frag) (C : Addr) (name : Str) : Prop := ∃ f, findIn K (.ref C) name = some (some (.ref f)) ∧ typeIn K (.ref f) = some (.type "function") ∧ keepIn K (.ref f) = true
variable {A : Around} {fr : List Addr} {σ : Sto} {X : Addr → Sto → Prop} {Q : D → Sto → Prop} {env : Env} {m : Vars} {B : List Stmt} {bs : List (Str × Value)}
theorem WM.by {name : Str} {params : Arguments} {body : List Stmt} {scope : Scope} {dpos : Pos} (i : Nat) {ps : List Str} {n : Nat} {ds : List D} (T : Tp c B bs) (S : Ks c K C cn Bd) (hd : (Bd[i]?).bind recOf = some ⟨name, params, body, scope, dpos⟩)
  (hb : ∀ pm code doc qual vals, vals.length = ps.length → bindArgs { docDef name params body scope pm code doc with qualname := qual } ⟨vals, []⟩ = pure (ps.zip vals)) (hok : fnOk scope ps = true) (hl : ds.length = ps.length)
  (h : ∀ A fr env, Room n A → A.handled = none → env.scope = scope → Fe A env scope → WS c A (Fa env ++ fr) env (ps.zip ds) σ body (fun _ σ' => Q .none σ') Q X) : WM c K C (Room (n + 1)) name ds σ Q X := fun f hf => by
 obtain ⟨f', o, pm, code, doc, qual, h1, _, _, h2, h3, h4⟩ := S.meth _ (rec_mem hd)
 rw [h1] at hf; cases hf
 simp only [fnOk, Bool.and_eq_true, decide_eq_true_eq, List.all_eq_true, Bool.or_eq_true, beq_iff_eq, bne_iff_ne, Bool.not_eq_true'] at hok
 obtain ⟨⟨⟨⟨⟨⟨k1, k2⟩, k3⟩, k4⟩, k5⟩, k6⟩, k7⟩ := hok
 refine WD.of (P' := Room n) (ps := ps) (body := body) (scope := scope) ⟨⟨o, _, h2, h3, rfl, rfl, rfl, rfl, rfl, h4, hb pm code doc qual⟩, T.nolimit, k1, k2, k3, fun x e => ?_, k5, k6, k7⟩ (fun A env r => ⟨?_, r.deeper⟩) hl fun A fr env r fe => h A fr env r r.2 fe.scope fe
 ·obtain ⟨y, hy⟩ := lookup_mem' e
  exact k4 _ hy rfl
 ·have := r.1.1
  have e : recursionLimit = 1000 := rfl
  exact Nat.not_le.mp fun qz => lin [_,_,_] [] [(1,.nl (.v 0) (.v 1)),(1,.nf (.v 0) (.n 1000)),(1,.nt (.a (.v 1) (.a (.v 2) (.n 1))) (.n 990))] rfl qz e this
theorem mbind1 {name x : Str} {params : Arguments} {body : List Stmt} {scope : Scope} (h : ∀ pm code doc qual a, bindArgs { docDef name params body scope pm code doc with qualname := qual } ⟨[a], []⟩ = pure ([x].zip [a])) : ∀ pm code doc qual vals, vals.length = [x].length → bindArgs { docDef name params body scope pm code doc with qualname := qual } ⟨vals, []⟩ = pure ([x].zip vals) := fun pm code doc qual vals e => by
 match vals, e with
 | [a], _ => exact h pm code doc qual a
theorem mbind2 {name x y : Str} {params : Arguments} {body : List Stmt} {scope : Scope} (h : ∀ pm code doc qual a b, bindArgs { docDef name params body scope pm code doc with qualname := qual } ⟨[a, b], []⟩ = pure ([x, y].zip [a, b])) : ∀ pm code doc qual vals, vals.length = [x, y].length → bindArgs { docDef name params body scope pm code doc with qualname := qual } ⟨vals, []⟩ = pure ([x, y].zip vals) := fun pm code doc qual vals e => by
 match vals, e with
 | [a, b], _ => exact h pm code doc qual a b
theorem mbind3 {name x y z : Str} {params : Arguments} {body : List Stmt} {scope : Scope} (h : ∀ pm code doc qual a b d, bindArgs { docDef name params body scope pm code doc with qualname := qual } ⟨[a, b, d], []⟩ = pure ([x, y, z].zip [a, b, d])) : ∀ pm code doc qual vals, vals.length = [x, y, z].length → bindArgs { docDef name params body scope pm code doc with qualname := qual } ⟨vals, []⟩ = pure ([x, y, z].zip vals) := fun pm code doc qual vals e => by
 match vals, e with
 | [a, b, d], _ => exact h pm code doc qual a b d
theorem Mth.by {name : Str} {params : Arguments} {body : List Stmt} {scope : Scope} {dpos : Pos} (i : Nat) (S : Ks c K C cn Bd) (hd : (Bd[i]?).bind recOf = some ⟨name, params, body, scope, dpos⟩) : Mth K C name := by
 obtain ⟨f, o, pm, code, doc, qual, h1, h2, h3, _⟩ := S.meth _ (rec_mem hd)
 exact ⟨f, h1, h2, h3⟩
theorem WM.at {k n : Nat} {f : Str} {ds : List D} (h : WM c K C (Room k) f ds σ Q X) (hk : k ≤ n) : WM c K C (Room n) f ds σ Q X := fun a ha A fr s vals hA ok hv => h a ha A fr s vals (hA.mono hk) ok hv
theorem V.inst {Kk : List Addr} {h : Heap} {sz ru : D} {v : Value} (x : V Kk h (.sys C sz ru) v) : ∃ (a : Addr) (ox od : Obj) (v1 v2 : Value) (mA : Str → Option Value), v = .ref a ∧ InstAt h a ox C (some od) ∧ (∀ x, lookIn x od = some (mA x)) ∧ mA "size" = some v1 ∧ mA "rules" = some v2 ∧ (∀ x : Str, x ≠ "size" → x ≠ "rules" → mA x = none) ∧ V Kk h sz v1 ∧ V Kk h ru v2 := by
 unfold V at x
 obtain ⟨a, dx, v1, v2, mA, rfl, nk, nd, g, ⟨od, es, ep, gd, hd, hk, hf⟩, f1, f2, f3, r1, r2⟩ := x
 exact ⟨a, _, od, v1, v2, mA, rfl, ⟨g, rfl, rfl, gd⟩, lookIn_of hd hk hf, f1, f2, f3, r1, r2⟩
theorem v_handed {Kk : List Addr} {h : Heap} {d : D} {v : Value} (x : V Kk h d v) : handedIn v = true := by
 cases d <;> unfold V at x
 case none => subst x; rfl
 case bool => subst x; rfl
 case int => obtain ⟨t, rfl⟩ := x; rfl
 case str => obtain ⟨t, rfl⟩ := x; rfl
 case tup => obtain ⟨a, vs, n, rfl, _⟩ := x; rfl
 case lst => obtain ⟨a, vs, n, rfl, _⟩ := x; rfl
 case sys => obtain ⟨a, dx, v1, v2, mA, rfl, _⟩ := x; rfl
 case own => obtain ⟨a, rfl, _⟩ := x; rfl
 case exc => obtain ⟨a, o, vs, rfl, _⟩ := x; rfl
 case typ => subst x; rfl
 case ref => subst x; rfl
theorem WE.attr (S : Ks c K C cn Bd) {o : Expr} {name : Str} {pos : Pos} (h : WE c A fr env m σ o (fun d σ1 => ∃ sz ru, d = .sys C sz ru ∧ ((name = "size" ∧ Q sz σ1) ∨ (name = "rules" ∧ Q ru σ1))) X) (hb : ∀ w, attributeBase o name env w = w := by intro _; rfl) :
  WE c A fr env m σ (.Attribute o name pos) Q X := fun s ok fm => by
 unfold W
 rw [arm_eval_Attribute, hb]
 refine wpAny_bind (wpAny_mono (h s ok fm) (fun ov s1 ⟨d, σ1, p1, ok1, x1, sz, ru, hd, q1⟩ => ?_) fun _ _ x => x)
 subst hd
 refine wpAny_bind (wpAny_standAt (wpAny_bind (wpAny_holding ?_)))
 obtain ⟨a, ox, od, v1, v2, mA, rfl, I, hl, f1, f2, f3, r1, r2⟩ := x1.inst
 have X1 : K.In s1.heap := S.inn.keeps ok1.base
 rcases q1 with ⟨rfl, q1⟩ | ⟨rfl, q1⟩
 ·refine get_value X1 I S.get (findObj_own S.dict S.size rfl (by rw [hl, f1])) (v_handed r1) ?_
  refine wpAny_bind (wpAny_letTemporaryGo (wpAny_pure ⟨sz, σ1, p1.trans (Post.tok ..), ok1, r1, q1⟩))
 ·refine get_value X1 I S.get (findObj_own S.dict S.rules rfl (by rw [hl, f2])) (v_handed r2) ?_
  refine wpAny_bind (wpAny_letTemporaryGo (wpAny_pure ⟨ru, σ1, p1.trans (Post.tok ..), ok1, r2, q1⟩))
theorem WE.callM (S : Ks c K C cn Bd) {o : Expr} {name : Str} {apos pos : Pos} {args : List Expr} {n : Nat} (r : Room n A) (hf : Mth K C name)
  (h : WE c A fr env m σ o (fun d σ1 => ∃ sz ru, d = .sys C sz ru ∧ WA c A fr env m σ1 args (fun ds σ2 => WM c K C (Room n) name (d :: ds) σ2 Q X) X) X) (h1 : name ≠ "size" := by decide) (h2 : name ≠ "rules" := by decide)
  (hp : plainArgs args = true := by rfl) (hb : ∀ w, attributeBase o name env w = w := by intro _; rfl) (hl : (apos.endLine == pos.line) = true := by rfl) (hn : decide (args.length < 30) = true := by rfl) :
  WE c A fr env m σ (.Call (.Attribute o name apos) args [] pos) Q X := fun s ok fm => by
 have hst := plainArgs_starEach (env := env) (pos := pos) hp
 unfold W
 show wpAny _ A (do let ov ← attributeBase o name env (eval o env); standAt apos.atName; methodCall o name apos pos env ov (args.length + ([] : List Keyword).length) (backTo pos (starEach args env)) (backToKw pos (keywordEach [] env))) _ _ s
 rw [hb]
 refine wpAny_bind (wpAny_mono (h s ok fm) (fun ov s1 ⟨d, σ1, p1, ok1, x1, sz, ru, hd, q1⟩ => ?_) fun _ _ x => x)
 subst hd
 refine wpAny_bind (wpAny_standAt ?_)
 obtain ⟨a, ox, od, v1, v2, mA, rfl, I, hlk, f1, f2, f3, r1, r2⟩ := x1.inst
 have X1 : K.In s1.heap := S.inn.keeps ok1.base
 obtain ⟨f, g1, g2, g6⟩ := hf
 have few : methodCallForm (args.length + ([] : List Keyword).length) (backTo pos (starEach args env)) (backToKw pos (keywordEach [] env)) = true := by
  unfold methodCallForm
  have a1 : (backTo pos (starEach args env)).all (fun x => !x.1) = true := List.all_eq_true.mpr fun x hx => by rw [hst x hx]; rfl
  have a2 : args.length < 30 := of_decide_eq_true hn
  have a3 : backToKw pos (keywordEach [] env) = [] := rfl
  rw [a1, a3]
  simp [a2]
 unfold methodCall
 rw [few]
 refine wpAny_bind (wpAny_holding ?_)
 unfold calleeOf
 rw [if_pos rfl]
 refine method_fn X1 I S.get S.geta g1 g2 (by show (lookIn name od).map _ = _; rw [hlk, f3 name h1 h2]; rfl) ?_
 rw [show methodCallPos true o env apos pos = pure pos from if_pos (by rw [hl]; rfl)]
 refine wpAny_bind (wpAny_pure ?_)
 refine callWith_of (P := K.In) (by
  have : (backTo pos (starEach args env)).any (·.1) = false := by rw [List.any_eq_false]; intro x hx; simp [hst x hx]
  rw [this]; rfl) (keeps_K g6) (wpAny_evalArgs hst (wpAny_mono (q1 pos s1 ok1 (fm.move p1)) (fun us s2 ⟨ds, σ2, p2, ok2, x2, q2⟩ => ⟨S.inn.keeps ok2.base, ?_⟩) fun _ _ x => Ex.back p1 x fun _ _ y => y))
 have hv : Vs (keys σ2 ++ fr) s2.heap (.sys C sz ru :: ds) (.ref a :: us) := Vs.cons (p2.v x1) x2
 refine wpAny_mono ((q2 f g1).wc A fr s2 _ r ok2 hv) (fun v s3 ⟨d3, σ3, p3, ok3, x3, q3⟩ => ⟨d3, σ3, (p1.trans p2).trans p3, ok3, x3, q3⟩) fun _ _ x => Ex.back (p1.trans p2) x fun _ _ y => y
end
end Mine
set_option maxHeartbeats 1000000
namespace Mine
open PySem PySem.Calls PyProof.Rows PySem.W
theorem keys_drop {σa σb : Sto} {a b : Addr} {o : O} (h : b ∈ keys (σa ++ σb)) : b ∈ keys (σa ++ (a, o) :: σb) := by
 simp only [keys, List.map_append, List.map_cons, List.mem_append, List.mem_cons] at *
 rcases h with h | h
 ·exact .inl h
 ·exact .inr (.inr h)
theorem less_forget {σa σb : Sto} {a : Addr} {o : O} {fr : List Addr} (h : Heap) : Less (keys (σa ++ (a, o) :: σb) ++ fr) (keys (σa ++ σb) ++ fr) h := fun b m => .inl (by
 rcases List.mem_append.mp m with z | z
 ·exact List.mem_append_left _ (keys_drop z)
 ·exact List.mem_append_right _ z)
theorem Stay.refl {K : List Addr} {h : Heap} : Stay K h h := fun _ _ _ e => e
section
variable {c : Cx} {A : Around} {fr : List Addr} {σ σa σb : Sto} {a : Addr} {o : O}
theorem Ok.forget {h : Heap} (ok : Ok c A fr (σa ++ (a, o) :: σb) h) : Ok c A fr (σa ++ σb) h where
 base := ok.base
 sto := fun p hp => IsO.move Stay.refl (less_forget h) (fun _ e => e) (ok.sto p (by
  rcases List.mem_append.mp hp with z | z
  ·exact List.mem_append_left _ z
  ·exact List.mem_append_right _ (List.mem_cons_of_mem _ z)))
 nd := by
  refine List.Nodup.sublist ?_ ok.nd
  refine List.Sublist.append ?_ (List.Sublist.refl _)
  simp only [keys, List.map_append, List.map_cons]
  exact List.Sublist.append (List.Sublist.refl _) (List.sublist_cons_self _ _)
 new := fun b m => ok.new b (by
  rcases List.mem_append.mp m with z | z
  ·exact List.mem_append_left _ (keys_drop z)
  ·exact List.mem_append_right _ z)
 live := ok.live
 stack := ok.stack
theorem Post.forget {F : List Addr} {s s' : Shared} (p : Post F fr σ s s' (σa ++ (a, o) :: σb)) : Post F fr σ s s' (σa ++ σb) :=
 ⟨p.shape, p.kept, p.slots, p.alive, fun b m => p.grow b (keys_drop m)⟩
theorem Ok.gone {h : Heap} (ok : Ok c A fr (σa ++ (a, o) :: σb) h) : a ∉ keys (σa ++ σb) ++ fr := by
 have nd := ok.nd
 simp only [keys, List.map_append, List.map_cons, List.append_assoc, List.cons_append] at nd ⊢
 have := (List.perm_middle.nodup_iff.mp nd)
 exact (List.nodup_cons.mp this).1
theorem Ok.at {A' : Around} {h : Heap} (ok : Ok c A fr σ h) (e : A'.frames = A.frames) : Ok c A' fr σ h := ⟨ok.base, ok.sto, ok.nd, ok.new, ok.live, by rw [e]; exact ok.stack⟩
theorem Ok.add {h h' : Heap} (ok : Ok c A fr σ h) (k : ∀ b ob, h.get? b = some ob → h'.get? b = some ob) (hn : h.objs.size ≤ a) (x : IsO c.prog c.w (keys ((a, o) :: σ) ++ fr) h' a o) : Ok c A fr ((a, o) :: σ) h' := by
 have ha : h.get? a = none := none_of_ge hn
 have hni : a ∉ keys σ ++ fr := fun z => Nat.lt_irrefl _ (Nat.lt_of_lt_of_le (ok.lt z) hn)
 exact {
  base := fun b o e => k _ _ (ok.base b o e)
  sto := fun p hp => by
   rcases List.mem_cons.mp hp with rfl | hp
   ·exact x
   ·refine IsO.move (fun b o _ e => k b o e) (fun b m => ?_) (fun x e => k _ x e) (ok.sto p hp)
    rcases List.mem_append.mp m with z | z
    ·rcases List.mem_cons.mp z with z | z
     ·exact .inr (z ▸ ha)
     ·exact .inl (List.mem_append_left _ z)
    ·exact .inl (List.mem_append_right _ z)
  nd := List.nodup_cons.mpr ⟨hni, ok.nd⟩
  new := fun b m => by
   rcases List.mem_cons.mp (show b ∈ a :: (keys σ ++ fr) from m) with z | z
   ·cases hg : c.h0.get? b with
    | none => rfl
    | some o => have := ok.base _ o hg; rw [z, ha] at this; cases this
   ·exact ok.new b z
  live := fun b m => by obtain ⟨o, e⟩ := ok.live b m; exact ⟨o, k _ _ e⟩
  stack := (ok.keeps k).stack }
theorem Post.add {F : List Addr} {s : Shared} {h' : Heap} {tk : Nat} (k : ∀ b ob, s.heap.get? b = some ob → h'.get? b = some ob) (hn : s.heap.objs.size ≤ a) : Post F fr σ s { s with heap := h', toks := tk } ((a, o) :: σ) :=
 ⟨⟨h', tk, rfl⟩, fun b o _ e => k b o e, fun b o _ _ e => ⟨o.slots, k b o e, fun _ => rfl⟩, fun b o e => ⟨o, k b o e⟩, fun b m => by
  rcases List.mem_cons.mp (show b ∈ a :: keys σ from m) with z | z
  ·exact .inr (z ▸ none_of_ge hn)
  ·exact .inl z⟩
end
theorem under_tc {A : Around} {C : Addr} {rest : List Value} {kw : List (Str × Value)} : (A.under (.builtin "type.__call__" ⟨.ref C :: rest, kw⟩)).frames = A.frames ∧ (A.under (.builtin "type.__call__" ⟨.ref C :: rest, kw⟩)).handled = A.handled ∧ (A.under (.builtin "type.__call__" ⟨.ref C :: rest, kw⟩)).depth = A.depth + 1 ∧ (A.under (.builtin "type.__call__" ⟨.ref C :: rest, kw⟩)).units = A.units + 1 := by
 refine ⟨rfl, rfl, ?_, rfl⟩
 have : (Code.builtin "type.__call__" ⟨.ref C :: rest, kw⟩).weight = 1 := by kernel_rfl
 show A.depth + _ = _
 rw [this]
section
variable {c : Cx} {K : Frag} {C : Addr} {cn : Str} {Bd : List Stmt} {A : Around} {fr : List Addr} {σ : Sto} {X : Addr → Sto → Prop} {Q : D → Sto → Prop} {env : Env} {m : Vars} {B : List Stmt} {bs : List (Str × Value)} {N : Vars → Sto → Prop} {R : D → Sto → Prop}
theorem Room.tc {n : Nat} {rest : List Value} {kw : List (Str × Value)} (r : Room (n + 1) A) : Room n (A.under (.builtin "type.__call__" ⟨.ref C :: rest, kw⟩)) := by
 obtain ⟨⟨h1, h2⟩, h3⟩ := r
 obtain ⟨e1, e2, e3, e4⟩ := under_tc (A := A) (C := C) (rest := rest) (kw := kw)
 exact ⟨⟨by exact Nat.not_le.mp fun qz => lin [_,_,_] [] [(1,.nl (.n 990) (.a (.v 0) (.v 1))),(1,.ne (.v 0) (.a (.v 2) (.n 1))),(1,.nt (.a (.v 2) (.a (.v 1) (.n 1))) (.n 990))] rfl qz e3 h1, by exact Nat.not_le.mp fun qz => lin [_,_,_] [] [(1,.nl (.n 9800) (.a (.v 0) (.m 10 (.v 1)))),(1,.ne (.v 0) (.a (.v 2) (.n 1))),(1,.nt (.a (.v 2) (.m 10 (.a (.v 1) (.n 1)))) (.n 9800))] rfl qz e4 h2⟩, e2.trans h3⟩
theorem W1.attrS (S : Ks c K C cn Bd) {x : Expr} {name : Str} {pos' pos : Pos} {value : Expr}
  (h : WE c A fr env m σ value (fun dv σ1 => WE c A fr env m σ1 x (fun d σ2 => ∃ dx σa σb fs, d = .own C dx ∧ σ2 = σa ++ (dx, .flds fs) :: σb ∧ fs.length ≤ 100 ∧ N m (σa ++ (dx, .flds ((name, dv) :: fs)) :: σb)) X) X) (hn : name = "size" ∨ name = "rules")
  (hs : swapsWith value (some (.Attribute x name pos')) pos.line env = pure false) : W1 c A fr env m σ (.Assign [.Attribute x name pos'] value pos) N R X := fun s ok fm => by
 refine plainObj_wpAny_Assign_Attribute (wpAny_mono (h s ok fm) (fun v s1 ⟨dv, σ1, p1, ok1, x1, q1⟩ => ?_) fun _ _ x => x.wide fm) hs
 refine wpAny_mono (q1 s1 ok1 (fm.move p1)) (fun ov s2 ⟨d, σ2, p2, ok2, x2, dx, σa, σb, fs, hd, hσ, hfl, q2⟩ => ?_) fun _ _ x => (Ex.back (G := none) p1 x fun _ _ y => y).wide fm
 subst hd hσ
 unfold V at x2
 obtain ⟨a, rfl, nk, g⟩ := x2
 have X2 : K.In s2.heap := S.inn.keeps ok2.base
 have hmem : (dx, O.flds fs) ∈ σa ++ (dx, O.flds fs) :: σb := by simp
 obtain ⟨mA, hns, hA1, hA2⟩ := ok2.sto _ hmem
 obtain ⟨od, es, ep, gd, hdd, hk, hu, hf⟩ := _root_.id hns
 have I : InstAt s2.heap a _ C (some od) := ⟨g, rfl, rfl, gd⟩
 obtain ⟨cd, hc, hd'⟩ := any_some S.dict
 have ht : takerIn K C name = some none := by
  unfold takerIn
  rcases hn with rfl | rfl
  ·rw [S.size]; rfl
  ·rw [S.rules]; rfl
 refine set_plain X2 I S.seta (osa_open (s := { s2 with toks := s2.toks + 1 }) X2 I S.over ht fun b => ?_)
 refine wpAny_bind (wpAny_pure (wpAny_bind (wpAny_bind (wpAny_loadPart g (wpAny_bind (Looks.here (s := { s2 with toks := s2.toks + 1 }) (looks_clsIn X2 hc) ?_))))))
 rw [hd']
 refine wpAny_pure (a := some dx) (wpAny_bind (wpAny_pure (wpAny_bind ?_)))
 refine wpAny_nsSet1 (s := { s2 with toks := s2.toks + 1 }) hns fun h' hn' sb => ?_
 have hwi : Within mA (fs.map (·.1)) := fun x hx => by
  cases e : fs.lookup x with
  | none => exact absurd (hA2 x e) hx
  | some d => exact List.mem_map_of_mem (f := (·.1)) (mem_of_lookup e)
 obtain ⟨oD, esD, epD, hoD, hdD, hcD⟩ := hn'.count (Within.cons name v hwi)
 refine wpAny_bind (wpAny_lookBehind hoD (by rw [hdD]; exact pastItsLine_dict (Nat.le_trans hcD (by rw [List.length_cons, List.length_map, sizeLine_eq]; exact Nat.not_lt.mp fun qz => lin [_] [] [(1,.nt (.a (.n 16777216) (.n 1)) (.a (.v 0) (.n 1))),(1,.nl (.v 0) (.n 100))] rfl qz hfl))) ?_)
 refine wpAny_pure ?_
 have hfr : dx ∉ fr := fun z => ok2.gone (List.mem_append_right _ z)
 obtain ⟨od', es', ep', gd', _⟩ := _root_.id hn'
 have pp : Post [] fr (σa ++ (dx, .flds fs) :: σb) s2 { s2 with heap := h', toks := s2.toks + 1 + 1 } (σa ++ (dx, .flds ((name, dv) :: fs)) :: σb) := Post.put hfr (fun b ob nb e => (sb.2 b nb).trans e) ⟨_, gd'⟩
 have hin : dx ∈ keys (σa ++ (dx, O.flds fs) :: σb) ++ fr := by simp [keys]
 have st : Stay (keys (σa ++ (dx, O.flds fs) :: σb) ++ fr) s2.heap h' := fun b o n e => (sb.2 b fun q => n (q ▸ hin)).trans e
 refine ⟨.next m, _, ((p1.trans p2).trans pp).wide (by simp), ok2.put (fun b ob nb e => (sb.2 b nb).trans e) ⟨_, hn', fun x d e => ?_, fun x e => ?_⟩, ⟨rfl, ((fm.move p1).move p2).move pp⟩, q2⟩
 ·rw [lookup_cons_eq] at e
  by_cases q : x = name
  ·rw [if_pos q] at e; cases e
   exact ⟨v, by simp [q], V.move st (fun _ m => .inl m) _ _ (p2.v x1)⟩
  ·rw [if_neg q] at e
   obtain ⟨u, hu, hV⟩ := hA1 x d e
   exact ⟨u, by simp [q, hu], V.move st (fun _ m => .inl m) _ _ hV⟩
 ·rw [lookup_cons_eq] at e
  by_cases q : x = name
  ·rw [if_pos q] at e; cases e
  ·rw [if_neg q] at e
   simp [q, hA2 x e]
noncomputable def NewQ (C dx : Addr) (Q : D → Sto → Prop) : D → Sto → Prop := fun d σ2 => d = .none ∧ ∃ σa σb fs sz ru, σ2 = σa ++ (dx, .flds fs) :: σb ∧ fs.lookup (Str.ofString "size") = some sz ∧ fs.lookup (Str.ofString "rules") = some ru ∧ (∀ x : Str, x ≠ "size" → x ≠ "rules" → fs.lookup x = none) ∧ Q (.sys C sz ru) (σa ++ σb)
noncomputable def NewX (dx : Addr) (X : Addr → Sto → Prop) : Addr → Sto → Prop := fun E σ2 => ∃ σa σb o, σ2 = σa ++ (dx, o) :: σb ∧ X E (σa ++ σb)
theorem WE.callC (S : Ks c K C cn Bd) (T : Tp c B bs) {fp pos : Pos} {args : List Expr} {n : Nat} (r : Room (n + 1) A) (hk : env.kindOf cn = some .globalImplicit) (hm : Mth K C "__init__")
  (h : WA c A fr env m σ args (fun ds σ1 => ∀ dx, dx ∉ keys σ1 → WM c K C (Room n) "__init__" (.own C dx :: ds) ((dx, .flds []) :: σ1) (NewQ C dx Q) (NewX dx X)) X) (hp : plainArgs args = true := by rfl) (hdb : (cn == ("__debug__" : Str)) = false := by decide) :
  WE c A fr env m σ (.Call (.Name cn fp) args [] pos) Q X := fun s ok fm => by
 have hst := plainArgs_starEach (env := env) (pos := pos) hp
 obtain ⟨f, g1, g2, g6⟩ := hm
 unfold W
 rw [eval_Call_Name]
 refine wpAny_bind (Name_function_global fm.kind hk (loadGlobal_global (by rw [fm.glob]; exact T.good.g.keeps ok.base) S.name ?_) hdb)
 refine callWith_of (P := K.In) (by
  have : (backTo pos (starEach args env)).any (·.1) = false := by rw [List.any_eq_false]; intro x hx; simp [hst x hx]
  rw [this]; rfl) (keeps_K S.keep) (wpAny_evalArgs hst (wpAny_mono (h pos s ok fm) (fun us s1 ⟨ds, σ1, p1, ok1, x1, q1⟩ => ⟨S.inn.keeps ok1.base, ?_⟩) fun _ _ x => x))
 have X1 : K.In s1.heap := S.inn.keeps ok1.base
 obtain ⟨hh, g, d, t, os⟩ := s1
 refine wpAny_call (make_core (makes_of X1 S.makes) (looks_findIn X1 g1) (fun self => bind_fn X1 self g2) (.inl rfl) ?_)
 have kp : ∀ b o, hh.get? b = some o → ((hh.push emptyDict).push (instObj C hh.objs.size)).get? b = some o := fun b o e => Heap.get?_push_of_some _ (Heap.get?_push_of_some _ e)
 have hgd : ((hh.push emptyDict).push (instObj C hh.objs.size)).get? hh.objs.size = some emptyDict := by heap_get
 have hgx : ((hh.push emptyDict).push (instObj C hh.objs.size)).get? (hh.objs.size + 1) = some (instObj C hh.objs.size) := by heap_get
 have hns : ((hh.push emptyDict).push (instObj C hh.objs.size)).Ns1 hh.objs.size (fun _ => none) := Heap.Ns1.of_empty ⟨_, #[], _, hgd, rfl, fun e he => absurd he (by simp), fun _ => rfl⟩
 have ok2 : Ok c (A.under (.builtin "type.__call__" ⟨.ref C :: ([] ++ us), []⟩)) fr ((hh.objs.size, .flds []) :: σ1) ((hh.push emptyDict).push (instObj C hh.objs.size)) :=
  (Ok.add (o := .flds []) ok1 kp (Nat.le_refl _) ⟨_, hns, fun x d e => (by cases e), fun _ _ => rfl⟩).at under_tc.1
 have p2 : Post [] fr σ1 ⟨hh, g, d, t, os⟩ ⟨(hh.push emptyDict).push (instObj C hh.objs.size), g, d, t, os⟩ ((hh.objs.size, .flds []) :: σ1) := Post.add (tk := t) kp (Nat.le_refl _)
 have hxn : hh.objs.size + 1 ∉ keys ((hh.objs.size, O.flds []) :: σ1) ++ fr := fun z => by
  rcases List.mem_cons.mp (show hh.objs.size + 1 ∈ hh.objs.size :: (keys σ1 ++ fr) from z) with z | z
  ·exact absurd z (Nat.succ_ne_self _)
  ·exact absurd (ok1.lt z) (Nat.not_lt.mpr (Nat.le_succ _))
 have hv : Vs (keys ((hh.objs.size, O.flds []) :: σ1) ++ fr) ((hh.push emptyDict).push (instObj C hh.objs.size)) (.own C hh.objs.size :: ds) (.ref (hh.objs.size + 1) :: ([] ++ us)) :=
  Vs.cons (by unfold V; exact ⟨_, rfl, hxn, hgx⟩) (p2.vs x1)
 have hdn : hh.objs.size ∉ keys σ1 := fun z => by
  have := ok1.lt (List.mem_append_left _ z)
  exact Nat.lt_irrefl _ this
 refine codeAny_mono (q1 _ hdn f g1 _ fr ⟨_, g, d, t, os⟩ _ r.tc ok2 hv) fun res s' z => ?_
 match res, z with
 | .error e, z =>
  obtain ⟨e', C', σ', ex, rfl, p3, ok3, hn, he, hFx, σa, σb, o', rfl, hX⟩ := z
  exact ⟨e', C', σa ++ σb, ex, rfl, ((p1.trans p2).trans p3).forget, (ok3.at under_tc.1.symm).forget, fun a ha => none_back (p1.trans p2) (hn a ha), he, trivial, hX⟩
 | .ok (.ret v), z =>
  obtain ⟨b, σ', p3, ok3, hV, hb, σa, σb, fs, sz, ru, rfl, l1, l2, l3, q⟩ := z
  subst hb
  refine ⟨hV.toNone, .sys C sz ru, σa ++ σb, ((p1.trans p2).trans p3).forget, (ok3.at under_tc.1.symm).forget, ?_, q⟩
  obtain ⟨mA, hns', hA1, hA2⟩ := ok3.sto (hh.objs.size, O.flds fs) (by simp)
  obtain ⟨v1, e1, x1'⟩ := hA1 _ _ l1
  obtain ⟨v2, e2, x2'⟩ := hA1 _ _ l2
  have hxk : hh.objs.size + 1 ∉ keys (σa ++ (hh.objs.size, O.flds fs) :: σb) ++ fr := p3.less.nin hxn hgx
  unfold V
  exact ⟨hh.objs.size + 1, hh.objs.size, v1, v2, mA, rfl, (less_forget s'.heap).nin hxk (p3.kept _ _ hxn hgx), ok3.gone, p3.kept _ _ hxn hgx, hns'.ns, e1, e2, fun x n1 n2 => hA2 x (l3 x n1 n2), V.move Stay.refl (less_forget _) _ _ x1', V.move Stay.refl (less_forget _) _ _ x2'⟩
 | .ok .next, z => exact z.elim
 | .ok .brk, z => exact z.elim
 | .ok .cont, z => exact z.elim
end
end Mine
set_option maxHeartbeats 1000000
namespace Mine
open PySem PySem.Calls PyProof.Rows PySem.W
section
variable {c : Cx} {A : Around} {fr : List Addr} {σ σ' σa σb : Sto} {X : Addr → Sto → Prop} {Q : D → Sto → Prop} {env : Env} {m : Vars} {N : Vars → Sto → Prop} {R : D → Sto → Prop}
theorem keys_sub (hs : σ'.Sublist σ) {b : Addr} (h : b ∈ keys σ') : b ∈ keys σ := (List.Sublist.map (·.1) hs).subset h
theorem less_sub (hs : σ'.Sublist σ) (h : Heap) : Less (keys σ ++ fr) (keys σ' ++ fr) h := fun b m => .inl (by
 rcases List.mem_append.mp m with z | z
 ·exact List.mem_append_left _ (keys_sub hs z)
 ·exact List.mem_append_right _ z)
theorem Ok.sub {h : Heap} (ok : Ok c A fr σ h) (hs : σ'.Sublist σ) : Ok c A fr σ' h where
 base := ok.base
 sto := fun p hp => IsO.move Stay.refl (less_sub hs h) (fun _ e => e) (ok.sto p (hs.subset hp))
 nd := List.Nodup.sublist (List.Sublist.append (List.Sublist.map _ hs) (List.Sublist.refl _)) ok.nd
 new := fun b m => ok.new b (by
  rcases List.mem_append.mp m with z | z
  ·exact List.mem_append_left _ (keys_sub hs z)
  ·exact List.mem_append_right _ z)
 live := ok.live
 stack := ok.stack
theorem Post.from {F : List Addr} {σ2 : Sto} {s s' : Shared} (p : Post F fr σ' s s' σ2) (hs : σ'.Sublist σ) : Post F fr σ s s' σ2 :=
 ⟨p.shape, fun b o n e => p.kept b o (fun z => n (by
  rcases List.mem_append.mp z with z | z
  ·exact List.mem_append_left _ (keys_sub hs z)
  ·exact List.mem_append_right _ z)) e, p.slots, p.alive, fun b m => (p.grow b m).imp (keys_sub hs) id⟩
theorem Post.to {F : List Addr} {σ2 : Sto} {s s' : Shared} (p : Post F fr σ2 s s' σ) (hs : σ'.Sublist σ) : Post F fr σ2 s s' σ' :=
 ⟨p.shape, p.kept, p.slots, p.alive, fun b m => p.grow b (keys_sub hs m)⟩
theorem Ex.from {G : Option Env} {t : Bool} {s s' : Shared} {v : Value} (x : Ex c A G fr σ' s t X v s') (hs : σ'.Sublist σ) : Ex c A G fr σ s t X v s' := by
 obtain ⟨e, C, σ2, ex, rfl, q, ok, n, r, f, hx⟩ := x
 exact ⟨e, C, σ2, ex, rfl, q.from hs, ok, n, r, f, hx⟩
theorem W.from {α β : Type} {G : Option Env} {t : Sem α} {R : List Addr → Heap → β → α → Prop} {Q : β → Sto → Prop} {s : Shared} (h : W c A G fr σ' t R Q X s) (hs : σ'.Sublist σ) : W c A G fr σ t R Q X s :=
 wpAny_mono h (fun _ _ ⟨b, σ2, p, ok, r, q⟩ => ⟨b, σ2, p.from hs, ok, r, q⟩) fun _ _ x => x.from hs
theorem Fm.turn {m' : Vars} {K K' : List Addr} {h : Heap} (f : Fm env m fr K h) (hV : ∀ x d', m'.lookup x = some d' → ∃ d, m.lookup x = some d ∧ ∀ v, V K h d v → V K' h d' v) : Fm env m' fr K' h where
 kind := f.kind
 glob := f.glob
 bui := f.bui
 ns := by
  obtain ⟨mv, hn, r⟩ := f.ns
  refine ⟨mv, hn, fun x d' e k => ?_⟩
  obtain ⟨d, e1, e2⟩ := hV x d' e
  obtain ⟨v, a, b⟩ := r x d e1 k
  exact ⟨v, a, e2 v b⟩
 cell := fun x cc e => by
  obtain ⟨ov, hc, r⟩ := f.cell x cc e
  refine ⟨ov, hc, fun d' e' k => ?_⟩
  obtain ⟨d, e1, e2⟩ := hV x d' e'
  obtain ⟨v, a, b⟩ := r d e1 k
  exact ⟨v, a, e2 v b⟩
 has := f.has
 inn := f.inn
 apart := f.apart
theorem WS.forget {ss : List Stmt} (hs : σ'.Sublist σ) (h : WS c A fr env m σ' ss N R X) : WS c A fr env m σ ss N R X := fun s ok fm =>
 W.from (h s (ok.sub hs) (fm.turn fun x d e => ⟨d, e, fun v hv => V.move Stay.refl (less_sub hs _) _ _ hv⟩)) hs
noncomputable def isRef (a : Addr) : D → Bool
 | .ref b => b == a
 | _ => false
noncomputable def fzD (a : Addr) (ds : List D) (d : D) : D := if isRef a d then .lst ds else d
theorem drop_sub {a : Addr} {o : O} : (σa ++ σb).Sublist (σa ++ (a, o) :: σb) := List.Sublist.append (List.Sublist.refl _) (List.sublist_cons_self _ _)
theorem fz_v {a : Addr} {ds : List D} {h : Heap} {d : D} {v : Value} (ok : Ok c A fr (σa ++ (a, .lst ds) :: σb) h) (x : V (keys (σa ++ (a, .lst ds) :: σb) ++ fr) h d v) : V (keys (σa ++ σb) ++ fr) h (fzD a ds d) v := by
 unfold fzD
 split
 ·rename_i hr
  cases d <;> simp [isRef] at hr
  subst hr
  unfold V at x ⊢
  obtain ⟨vs, n, g, r⟩ := ok.sto _ (List.mem_append_right σa List.mem_cons_self)
  exact ⟨_, vs, n, x, ok.gone, g, Vs.move Stay.refl (less_sub drop_sub _) _ _ r⟩
 ·exact V.move Stay.refl (less_sub drop_sub _) _ _ x
theorem WE.freeze {e : Expr} (h : WE c A fr env m σ e (fun d σ1 => ∃ a ds σa σb, d = .ref a ∧ σ1 = σa ++ (a, .lst ds) :: σb ∧ Q (.lst ds) (σa ++ σb)) X) : WE c A fr env m σ e Q X := fun s ok fm =>
 wpAny_mono (h s ok fm) (fun v s1 ⟨d, σ1, p1, ok1, x1, a, ds, σa, σb, hd, hσ, q⟩ => by
  subst hd hσ
  have := fz_v ok1 x1
  simp only [fzD, isRef, beq_self_eq_true, if_true] at this
  exact ⟨.lst ds, σa ++ σb, p1.to drop_sub, ok1.sub drop_sub, this, q⟩) fun _ _ x => x
end
end Mine
set_option maxHeartbeats 1000000
namespace Mine
open PySem PySem.Calls PyProof.Rows PySem.W
noncomputable def Gi (c : Cx) (gs : List (Str × Int)) : Prop := ∀ x i, gs.lookup x = some i → ∃ t, c.mg x = some (.int i t)
noncomputable def bodyOf : Stmt → List Stmt
 | .ClassDef _ _ _ body _ _ _ _ _ _ _ => body
 | _ => []
section
variable {c : Cx} {A : Around} {fr : List Addr} {σ : Sto} {X : Addr → Sto → Prop} {Q : D → Sto → Prop} {env : Env} {m : Vars} {B : List Stmt} {bs : List (Str × Value)} {gs : List (Str × Int)}
theorem WE.gInt (T : Tp c B bs) (G : Gi c gs) {f : Str} {fp : Pos} {i : Int} (hk : env.kindOf f = some .globalImplicit) (hg : gs.lookup f = some i) (h : Q (.int i) σ) (hdb : (f == ("__debug__" : Str)) = false := by decide) : WE c A fr env m σ (.Name f fp) Q X := by
 obtain ⟨t, e⟩ := G f i hg
 exact WE.nInt T.good hk e h hdb
theorem WB.addTs {ds es : List D} (hsz : ds.length + es.length ≤ sizeLine) (h : Q (.tup (ds ++ es)) σ) : WB c A fr σ (binaryOp .Add) (.tup ds) (.tup es) Q X := by
 by_cases h1 : ds = []
 ·subst h1
  intro v1 v2 s ok x1 x2
  obtain ⟨l, rfl, z⟩ := SD.of_v (sd := .tup []) x1
  obtain ⟨b, rfl, y⟩ := SD.of_v (sd := .tup es) x2
  obtain ⟨vs, n, g, r⟩ := z.tuple rfl
  obtain ⟨us, k, g', r'⟩ := y.tuple rfl
  have hv : vs = [] := List.eq_nil_of_length_eq_zero r.length
  exact concat_meets ⟨_, g, rfl⟩ ⟨_, g', rfl⟩ noFill_tuple_add seq_tuple_add PySem.F.slot_tuple_add PySem.F.entry_tuple_add (PySem.F.args_tuple_add_2 _ _)
   (tuple_addW0 l b vs.toArray us.toArray n k _ _ _ _ (by simp [hv])) ⟨g, g', .tup es, σ, Post.refl .., ok, x2, h⟩
 ·by_cases h2 : es = []
  ·subst h2
   intro v1 v2 s ok x1 x2
   obtain ⟨l, rfl, z⟩ := SD.of_v (sd := .tup ds) x1
   obtain ⟨b, rfl, y⟩ := SD.of_v (sd := .tup []) x2
   obtain ⟨vs, n, g, r⟩ := z.tuple rfl
   obtain ⟨us, k, g', r'⟩ := y.tuple rfl
   have hu : us = [] := List.eq_nil_of_length_eq_zero r'.length
   have e1 : vs ≠ [] := fun e => h1 (by have := r.length; subst e; exact List.eq_nil_of_length_eq_zero this.symm)
   rw [List.append_nil] at h
   exact concat_meets ⟨_, g, rfl⟩ ⟨_, g', rfl⟩ noFill_tuple_add seq_tuple_add PySem.F.slot_tuple_add PySem.F.entry_tuple_add (PySem.F.args_tuple_add_2 _ _)
    (tuple_addW1 l b vs.toArray us.toArray n k _ _ _ _ (by simpa using e1) (by simp [hu])) ⟨g, g', .tup ds, σ, Post.refl .., ok, x1, h⟩
  ·exact WB.addT h1 h2 hsz h
end
end Mine
namespace Mine
open PySem PySem.Calls PyProof.Rows PySem.W
noncomputable def AtSys (C : Addr) (d : D) (P : D → D → Prop) : Prop := ∃ sz ru, d = .sys C sz ru ∧ P sz ru
noncomputable def AtFld (name : Str) (sz ru : D) (P : D → Prop) : Prop := (name = "size" ∧ P sz) ∨ (name = "rules" ∧ P ru)
theorem AtSys.mk {C : Addr} {sz ru : D} {P : D → D → Prop} (h : P sz ru) : AtSys C (.sys C sz ru) P := ⟨sz, ru, rfl, h⟩
theorem AtFld.size {sz ru : D} {P : D → Prop} (h : P sz) : AtFld (Str.ofString "size") sz ru P := .inl ⟨rfl, h⟩
theorem AtFld.rules {sz ru : D} {P : D → Prop} (h : P ru) : AtFld (Str.ofString "rules") sz ru P := .inr ⟨rfl, h⟩
section
variable {c : Cx} {K : Frag} {C : Addr} {cn : Str} {Bd : List Stmt} {A : Around} {fr : List Addr} {σ : Sto} {X : Addr → Sto → Prop} {Q : D → Sto → Prop} {env : Env} {m : Vars}
theorem WE.fld (S : Ks c K C cn Bd) {o : Expr} {name : Str} {pos : Pos} (h : WE c A fr env m σ o (fun d σ1 => AtSys C d fun sz ru => AtFld name sz ru fun e => Q e σ1) X) (hb : ∀ w, attributeBase o name env w = w := by intro _; rfl) : WE c A fr env m σ (.Attribute o name pos) Q X :=
 WE.attr S h hb
theorem WE.mth (S : Ks c K C cn Bd) {o : Expr} {name : Str} {apos pos : Pos} {args : List Expr} {n : Nat} (r : Room n A) (hf : Mth K C name)
  (h : WE c A fr env m σ o (fun d σ1 => AtSys C d fun _ _ => WA c A fr env m σ1 args (fun ds σ2 => WM c K C (Room n) name (d :: ds) σ2 Q X) X) X) (h1 : name ≠ "size" := by decide) (h2 : name ≠ "rules" := by decide)
  (hp : plainArgs args = true := by rfl) (hb : ∀ w, attributeBase o name env w = w := by intro _; rfl) (hl : (apos.endLine == pos.line) = true := by rfl) (hn : decide (args.length < 30) = true := by rfl) :
  WE c A fr env m σ (.Call (.Attribute o name apos) args [] pos) Q X := WE.callM S r hf h h1 h2 hp hb hl hn
end
end Mine
namespace Mine
open PySem PySem.Calls PyProof.Rows PySem.W
section
variable {c : Cx} {A : Around} {fr : List Addr} {σ : Sto} {X : Addr → Sto → Prop} {Q : D → Sto → Prop}
theorem At1.isiL {sd : SD} (hL : sd.isL = true) (inv : sd.inv σ) (h : Q (.bool true) σ) : At1 c A fr σ (.builtin "isinstance") [sd.d, .typ "list"] Q X := .two fun s v u ok hv hu => by
 unfold V at hu; subst hu
 obtain ⟨l, rfl, z⟩ := SD.of_v hv
 obtain ⟨vs, n, g, r⟩ := z.list ok inv hL
 have hsub := isi_sub (t := "list") (T := "list") (by decide) (by decide)
 exact call_isinstance (isinstance_true (isi_meta (by decide)) hsub) ⟨⟨_, g, rfl⟩, ⟨_, σ, Post.refl .., ok, V.ofBool, h⟩⟩
end
end Mine
set_option maxHeartbeats 1000000
namespace Mine
open PySem PySem.Calls PyProof.Rows PySem.W
noncomputable def asgOk (sc scope : Scope) (x : Str) (p cpos : Pos) : Bool := sc.kind == .function && sc.names.lookup x == some .local && p.line == cpos.line && !(scope.names.any fun (n, k) => n == x && (k == .local || k == .cell))
section
variable {c : Cx} {A : Around} {fr : List Addr} {σ : Sto} {X : Addr → Sto → Prop} {Q : D → Sto → Prop} {env : Env} {m : Vars} {N : Vars → Sto → Prop} {R : D → Sto → Prop}
theorem swaps_true {sc scope : Scope} {x : Str} {p cpos : Pos} {elt : Expr} {gs : List Comprehension} {line : Nat} (hsc : env.scope = sc) (h : asgOk sc scope x p cpos = true) : swapsWith (.ListComp elt gs scope cpos) (some (.Name x p)) line env = pure true := by
 simp only [asgOk, Bool.and_eq_true, beq_iff_eq, Bool.not_eq_true'] at h
 obtain ⟨⟨⟨h1, h2⟩, h3⟩, h4⟩ := h
 have e1 : env.blockKind = .function := by unfold Env.blockKind; rw [hsc, h1]; rfl
 have e2 : env.kindOf x = some .local := kindOf_of hsc h2
 have e3 : (Expr.ListComp elt gs scope cpos).pos.line = cpos.line := rfl
 unfold swapsWith
 dsimp only
 rw [e1, e2, h3, e3, h4]
 simp
theorem WIt.zipX {B : List Stmt} {bs : List (Str × Value)} (T : Tp c B bs) (hh : A.handled = none) {f : Str} {fp pos px py tp : Pos} {k : Nat} {e1 e2 : Expr} {x y : Str} {Q : List Vars → (Sto → Prop) → Sto → Prop} (hk : env.kindOf f = some .globalImplicit) (hb : bs.lookup f = some (.type "zip"))
  (h : WE c A fr env m σ e1 (fun d1 σ1 => WE c A fr env m σ1 e2 (fun d2 σ2 => ∃ (α β : Type) (sd1 sd2 : SD) (is : List α) (js : List β) (f1 : α → D) (f2 : β → D), d1 = sd1.d ∧ d2 = sd2.d ∧ sd1.ds = is.map f1 ∧ sd2.ds = js.map f2 ∧ sd1.inv σ2 ∧ sd2.inv σ2 ∧ Q ((is.zip js).map fun p => [(y, f2 p.2), (x, f1 p.1)]) (fun σ' => sd1.inv σ' ∧ sd2.inv σ') σ2) X) X) (hp : plainArgs [e1, e2] = true := by rfl) (hdb : (f == ("__debug__" : Str)) = false := by decide) :
  WIt c A fr env m σ (.Call (.Name f fp) [e1, e2] [] pos) (.Tuple [.Name x px, .Name y py] k tp) Q X := by
 refine WIt.zip T.good hh hk (T.bn _ _ hb).1 (T.bn _ _ hb).2 (h.mono (fun d1 σ1 h1 => h1.mono (fun d2 σ2 h2 => ?_) fun _ _ x => x) fun _ _ x => x) hp hdb
 obtain ⟨α, β, sd1, sd2, is, js, f1, f2, a1, a2, a3, a4, a5, a6, a7⟩ := h2
 refine ⟨sd1, sd2, a1, a2, a5, a6, ?_⟩
 have e : (sd1.ds.zip sd2.ds).map (fun p => [(y, p.2), (x, p.1)]) = (is.zip js).map fun p => [(y, f2 p.2), (x, f1 p.1)] := by
  rw [a3, a4, List.zip_map, List.map_map]; rfl
 rw [e]; exact a7
theorem W1.assignC {sc : Scope} {x : Str} {pos' pos : Pos} {tg iter elt : Expr} {ifs : List Expr} {scope : Scope} {cpos : Pos} (hsc : env.scope = sc) (h : WIt c A fr env m σ iter tg (Turns c A env m scope ifs elt (QL fun d σ' => N ((x, d) :: m) σ')) X) (h1 : compOk scope = true) (h2 : freeOk scope sc = true)
  (h3 : asgOk sc scope x pos' cpos = true) (hs : ∀ x, foldedSetIterable iter env x = pure x := by intro _; rfl) :
  W1 c A fr env m σ (.Assign [.Name x pos'] (.ListComp elt [⟨tg, iter, ifs, 0⟩] scope cpos) pos) N R X := by
 refine W1.assignComp h h1 (freeOk_of hsc h2) ?_ (swaps_true hsc h3) hs
 simp only [asgOk, Bool.and_eq_true, beq_iff_eq] at h3
 exact kindOf_of hsc h3.1.1.2
end
end Mine
set_option maxHeartbeats 1000000
namespace Mine
open PySem PySem.Calls PyProof.Rows PySem.W
end Mine
set_option maxHeartbeats 1000000
namespace Mine
open PySem PySem.Calls PyProof.Rows PySem.W
theorem lk_of_mem {h : Heap} {a : Addr} {o : Obj} : ∀ {K : Frag}, (∀ p ∈ K, h.get? p.1 = some p.2) → (a, o) ∈ K → K.lookup a = some o
 | [], _, m => by cases m
 | (b, q) :: r, hK, m => by
  rw [List.lookup_cons]
  by_cases e : (a == b) = true
  ·rw [e]
   have e' := beq_iff_eq.mp e
   have h1 := hK (b, q) List.mem_cons_self
   have h2 := hK _ m
   dsimp only at h1 h2
   rw [e', h1] at h2
   exact h2
  ·have e' : (a == b) = false := by simpa using e
   rw [e']
   rcases List.mem_cons.mp m with z | z
   ·cases z; simp at e
   ·exact lk_of_mem (fun p hp => hK p (List.mem_cons_of_mem _ hp)) z
theorem in_of_all {h : Heap} {K : Frag} (hK : ∀ p ∈ K, h.get? p.1 = some p.2) : K.In h := fun a o e => hK (a, o) (mem_of_lookup' e)
 where mem_of_lookup' {a : Addr} {o : Obj} : ∀ {K : Frag}, K.lookup a = some o → (a, o) ∈ K
 | [], h => by cases h
 | (b, q) :: r, h => by
  rw [List.lookup_cons] at h
  by_cases e : (a == b) = true
  ·rw [e] at h; cases h; rw [beq_iff_eq.mp e]; exact List.mem_cons_self
  ·have e' : (a == b) = false := by simpa using e
   rw [e'] at h; exact List.mem_cons_of_mem _ (mem_of_lookup' h)
theorem gather {h : Heap} {c : ClsRec} {C N : Addr} {mN : Str → Option Value} (P : PlainAt h c C N mN) : ∃ fs : Frag, (∀ p ∈ fs, h.get? p.1 = some p.2) ∧ ∀ m ∈ c.meths, ∃ f o pm cd doc, mN m.name = some (.ref f) ∧ (f, o) ∈ fs ∧ o.cls = .type "function" ∧
  o.data = .func (methDef m.name (c.name ++ "." ++ m.name) m.params m.body m.scope pm cd doc) ∧ h.CodeRec cd (c.name ++ "." ++ m.name) := by
 have : ∀ l : List MethRec, (∀ m ∈ l, m ∈ c.meths) → ∃ fs : Frag, (∀ p ∈ fs, h.get? p.1 = some p.2) ∧ ∀ m ∈ l, ∃ f o pm cd doc, mN m.name = some (.ref f) ∧ (f, o) ∈ fs ∧ o.cls = .type "function" ∧
   o.data = .func (methDef m.name (c.name ++ "." ++ m.name) m.params m.body m.scope pm cd doc) ∧ h.CodeRec cd (c.name ++ "." ++ m.name) := by
  intro l
  induction l with
  | nil => exact fun _ => ⟨[], (fun _ h => by cases h), (fun _ h => by cases h)⟩
  | cons m l ih =>
   intro hl
   obtain ⟨fs, h1, h2⟩ := ih fun x hx => hl x (List.mem_cons_of_mem _ hx)
   obtain ⟨f, o, pm, cd, doc, g1, g2, g3, g4, g5⟩ := P.meths m (hl m List.mem_cons_self)
   refine ⟨(f, o) :: fs, fun p hp => ?_, fun x hx => ?_⟩
   ·rcases List.mem_cons.mp hp with rfl | hp
    ·exact g2
    ·exact h1 p hp
   ·rcases List.mem_cons.mp hx with rfl | hx
    ·exact ⟨f, o, pm, cd, doc, g1, List.mem_cons_self, g3, g4, g5⟩
    ·obtain ⟨f', o', pm', cd', doc', k1, k2, k3⟩ := h2 x hx
     exact ⟨f', o', pm', cd', doc', k1, List.mem_cons_of_mem _ k2, k3⟩
 exact this c.meths fun _ h => h
noncomputable def shapeM (m : MethRec) : Str × Arguments × List Stmt × Scope := (m.name, m.params, m.body, m.scope)
noncomputable def shapeR (d : PySem.DefRec) : Str × Arguments × List Stmt × Scope := (d.name, d.params, d.body, d.scope)
theorem Ks.ofPlain {c : Cx} {cr : ClsRec} {C N : Addr} {mN : Str → Option Value} {cn : Str} {Bd : List Stmt} (P : PlainAt c.h0 cr C N mN) (hname : c.mg cn = some (.ref C)) (hst : (cr.statics.contains ("size" : Str) && cr.statics.contains ("rules" : Str)) = true)
  (hm : cr.meths.map shapeM = (Bd.filterMap recOf).map shapeR) : ∃ K, Ks c K C cn Bd := by
 obtain ⟨nm, q, bs, sn, sub, col, dd, k0, k1, k2, k3, k5, hC⟩ := P.cls.obj
 obtain ⟨oN, es, ep, gN, hdN, hkN, hfN⟩ := P.cls.ns
 obtain ⟨fs, hfs, hmeth⟩ := gather P
 let K : Frag := (C, excClassObj nm q C N bs [.type "object"] true sn sub false col dd k0 k1 k2 k3 k5 "object.__new__") :: (N, oN) :: fs
 have hK : ∀ p ∈ K, c.h0.get? p.1 = some p.2 := fun p hp => by
  rcases List.mem_cons.mp hp with rfl | hp
  ·exact hC
  ·rcases List.mem_cons.mp hp with rfl | hp
   ·exact gN
   ·exact hfs p hp
 have lC : K.lookup C = some (excClassObj nm q C N bs [.type "object"] true sn sub false col dd k0 k1 k2 k3 k5 "object.__new__") := lk_of_mem hK List.mem_cons_self
 have lN : K.lookup N = some oN := lk_of_mem hK (List.mem_cons_of_mem _ List.mem_cons_self)
 have hns : ∀ x, nsIn K N x = some (mN x) := fun x => by
  have := lookIn_of hdN hkN hfN x
  unfold nsIn
  rw [lN]
  obtain ⟨oc, od, odt, osl⟩ := oN
  dsimp only at hdN
  subst hdN
  exact this
 have hown : ∀ x, ownIn K x (.ref C) = some (mN x) := fun x => by
  show (match K.lookup C with
   | some ⟨_, _, .cls cd, _⟩ => nsIn K cd.ns x
   | _ => none) = _
  rw [lC]
  exact hns x
 have hfind : ∀ x, findIn K (.ref C) x = match mN x with
   | some v => some (some v)
   | none => some (fastBuiltinOwn "object" x) := fun x => by
  show (match K.lookup C with
   | some ⟨_, _, .cls cd, _⟩ => alongIn K x cd.mro
   | _ => none) = _
  rw [lC]
  show alongIn K x [.ref C, .type "object"] = _
  unfold alongIn
  rw [hown]
  cases mN x with
  | some v => rfl
  | none =>
   show alongIn K x [.type "object"] = _
   unfold alongIn ownIn
   dsimp only
   cases fastBuiltinOwn "object" x <;> rfl
 have quiet : ∀ x ∈ cr.quiet, findIn K (.ref C) x = some (fastBuiltinOwn "object" x) := fun x hx => by rw [hfind, P.quiet x hx]
 have hst' := Bool.and_eq_true_iff.mp hst
 have inQ : ∀ x, cr.statics.contains x = true → x ∈ cr.quiet := fun x hx => List.mem_append_right _ (by simpa using hx)
 obtain ⟨cd, hcls, hcd1, hcd2⟩ : ∃ cd, clsIn K C = some cd ∧ cd.hasDict = true ∧ onlyObject cd.mro = true := ⟨_, by unfold clsIn; rw [lC], rfl, rfl⟩
 have htype : typeIn K (.ref C) = some (.type "type") := by show (K.lookup C).map (·.cls) = _; rw [lC]; rfl
 refine ⟨K, in_of_all hK, hname, ?_, ?_, ?_, ?_, ?_, ?_, ?_, ?_, ?_, fun d hd => ?_⟩
 ·rw [quiet _ (List.mem_append_left _ (by decide))]; kernel_rfl
 ·rw [quiet _ (List.mem_append_left _ (by decide))]; kernel_rfl
 ·unfold hasDictIn; rw [hcls]; exact hcd1
 ·unfold makesIn
  rw [lC]
  have e1 : specialIn K (.ref C) "__call__" = some (some (.builtin "type.__call__")) := by
   unfold specialIn; rw [htype]; kernel_rfl
  have e2 : instIn K (.ref C) (.type "type") = some true := by
   unfold instIn; rw [htype]; kernel_rfl
  show (!false && !false && _ && _ && _ && _ && (specialIn K (.ref C) "__call__" == some (some (.builtin "type.__call__"))) && (instIn K (.ref C) (.type "type") == some true)) = true
  rw [e1, e2]
  simp
 ·unfold keepIn
  dsimp only
  rw [lC]
  show (specialIn K (.ref C) "__call__" == some (some (.builtin "type.__call__"))) = true
  unfold specialIn; rw [htype]; kernel_rfl
 ·unfold plainOver; rw [hcls]; exact hcd2
 ·rw [quiet _ (List.mem_append_left _ (by decide))]; kernel_rfl
 ·rw [quiet _ (inQ _ hst'.1)]; kernel_rfl
 ·rw [quiet _ (inQ _ hst'.2)]; kernel_rfl
 ·have : shapeR d ∈ cr.meths.map shapeM := by rw [hm]; exact List.mem_map_of_mem hd
  obtain ⟨m, hm1, hm2⟩ := List.mem_map.mp this
  obtain ⟨f, o, pm, cd, doc, g1, g2, g3, g4, g5⟩ := hmeth m hm1
  obtain ⟨mn, mp, mb, ms⟩ := m
  obtain ⟨dn, dp, db, ds, dpos⟩ := d
  simp only [shapeM, shapeR, Prod.mk.injEq] at hm2
  obtain ⟨rfl, rfl, rfl, rfl⟩ := hm2
  have lf : K.lookup f = some o := lk_of_mem hK (List.mem_cons_of_mem _ (List.mem_cons_of_mem _ g2))
  refine ⟨f, o, pm, cd, doc, _, by rw [hfind]; dsimp only at g1 ⊢; rw [g1], ?_, ?_, hfs _ g2, g4, g5⟩
  ·show (K.lookup f).map (·.cls) = _; rw [lf]; exact congrArg some g3
  ·unfold keepIn; dsimp only; rw [lf]
   obtain ⟨oc, od, odt, osl⟩ := o
   dsimp only at g4
   subst g4
   rfl
theorem Gi.ofTop {c : Cx} {p : Program} {loose : List Str} {mean : ExcName → Option Value} {gs : List (Str × Int)} (T : Top p loose mean c.mg c.mb c.h0) (h : gs.map (fun q => valOf p q.1) = gs.map fun q => some (.int q.2)) : Gi c gs := fun x i e => by
 have hm := mem_of_lookup e
 have := List.map_inj_left.mp h (x, i) hm
 obtain ⟨v, h1, h2⟩ := T.const x _ this
 have r := h2 c.h0
 cases r
 exact ⟨_, h1⟩
noncomputable def shapeC (cr : ClsRec) : Str × Bool × List (Str × Arguments × List Stmt × Scope) := (cr.name, cr.withCmp.statics.contains ("size" : Str) && cr.withCmp.statics.contains ("rules" : Str), cr.withCmp.meths.map shapeM)
theorem Ks.ofTop {c : Cx} {view : Program} {loose : List Str} {cn : Str} {Bd : List Stmt} (TE : TopE view loose c.mg c.h0) (i : Nat) (h : ((plainsOf view loose)[i]?).map shapeC = some (cn, true, (Bd.filterMap recOf).map shapeR)) : ∃ K C, Ks c K C cn Bd := by
 obtain ⟨cr, h1, h2⟩ := Option.map_eq_some_iff.mp h
 simp only [shapeC, Prod.mk.injEq] at h2
 obtain ⟨rfl, h4, h5⟩ := h2
 obtain ⟨C, N, mN, hC, P⟩ := TE cr (List.mem_of_getElem? h1)
 obtain ⟨K, S⟩ := Ks.ofPlain P hC h4 h5
 exact ⟨K, C, S⟩
end Mine
set_option maxHeartbeats 1000000
namespace Mine
open PySem PySem.Calls PyProof.Rows PySem.W
section
variable {c : Cx} {A : Around} {fr : List Addr} {σ : Sto} {X : Addr → Sto → Prop} {Q : D → Sto → Prop} {env : Env} {m : Vars} {N : Vars → Sto → Prop} {R : D → Sto → Prop}
theorem Ex.made {s s' : Shared} {h' : Heap} {e C : Addr} {vs : List Value} {σ' : Sto} (fm : Fm env m fr (keys σ ++ fr) s.heap) (p : Post [] fr σ s s' σ') (ok : Ok c A fr σ' s'.heap) (x : Heap.MadeExcOf s'.heap h' e (.ref C) vs) (hX : X C σ') :
  Ex c A (some env) fr σ s false X (.ref e) { s' with heap := h' } := by
 obtain ⟨t, he, _, _⟩ := x.there
 have pk : Post [] fr σ' s' { s' with heap := h' } σ' := Post.keeps (tk := s'.toks) x.keeps
 have pp := p.trans pk
 refine ⟨e, C, σ', [e], rfl, pp.wide (by simp), ok.more x.keeps (fun a ha => by rw [List.mem_singleton.mp ha]; exact x.new) (fun a ha => by rw [List.mem_singleton.mp ha]; exact ⟨_, he⟩) (by simp), fun a ha => ?_, ⟨_, _, he, ⟨rfl, rfl⟩, rfl, by simp, .inl ⟨rfl, rfl, rfl⟩⟩, (fm.move pp).forget, hX⟩
 rw [List.mem_singleton.mp ha]
 exact none_back p x.new
theorem W1.raise {x : Str} {C : Addr} {bm : List Value} {B newId initId : String} {np cpos pos : Pos} {args : List Expr} (g : c.Good) (O : OwnCls x C bm newId c.mg c.h0) (FB : ExcBaseFacts B newId initId bm) (hh : A.handled = none) (hk : env.kindOf x = some .globalImplicit)
  (h : WA c A fr env m σ args (fun ds σ1 => ds.length ≤ sizeLine ∧ X C σ1) X) (hp : plainArgs args = true := by rfl) (hdb : (x == ("__debug__" : Str)) = false := by decide) :
  W1 c A fr env m σ (.Raise (some (.Call (.Name x np) args [] cpos)) none pos) N R X := fun s ok fm => by
 have hst := plainArgs_starEach (env := env) (pos := cpos) hp
 obtain ⟨tl, N, nm, q, bs, hdct, sn, sub, ab, col, dd, k0, k1, k2, k3, k5, mN, hC, hN, hni, T⟩ := O.obj
 refine wpAny_Raise_call_subT (C := C) (nm := nm) (q := q) (N := N) (bs := bs) (bm := tl) (hdct := hdct) (sn := sn) (sub := sub) (ab := ab) (col := col) (dd := dd) (k0 := k0) (k1 := k1) (k2 := k2) (k3 := k3) (k5 := k5)
  FB (mN := mN) (T.hasType FB.hasBase) hh (by rw [List.any_eq_false]; intro y hy; simp [hst y hy]) hni ?_
 refine Name_function_global fm.kind hk (loadGlobal_global (by rw [fm.glob]; exact g.g.keeps ok.base) O.bound ⟨rfl, ?_⟩) hdb
 refine wpAny_evalArgs hst (wpAny_mono (h cpos s ok fm) (fun us s1 hx => ?_) fun _ _ x => x.wide fm)
 obtain ⟨ds, σ1, p1, ok1, x1, hl, hX⟩ := hx
 exact ⟨rfl, by rw [x1.length]; exact hl, ok1.base _ _ hC, hN.keeps ok1.base, T.keeps ok1.base, fun h' e hm => Ex.made fm p1 ok1 hm hX⟩
end
end Mine
set_option maxHeartbeats 1000000
set_option maxRecDepth 100000
namespace Mine
open PySem PySem.Calls PyProof.Rows PySem.W
structure Xd (M : Model) (h : Heap) (D : Addr) : Prop where
 cls : Looks M h (typeLookup (.ref D) "__class__") (some (.builtin "object.__class__"))
 ga : Looks M h (typeLookup (.ref D) "__getattribute__") (some (.builtin "BaseException.__getattribute__"))
 geta : Looks M h (typeLookup (.ref D) "__getattr__") none
 subB : Looks M h (isSubtype (.ref D) (.type "BaseException")) true
 subO : Looks M h (isSubtype (.ref D) (.type "object")) true
 isT : Looks M h (isType (.ref D)) true
section
variable {prog : Program} {w : World} {A : Around} {E : Value → Shared → Prop} {h : Heap} {g : Array GenState} {d : Drawn} {t : Nat} {os : OsState} {a D : Addr} {o : Obj}
theorem xc_get {R : Result → Shared → Prop} (S : Xd (model prog w) h D) (hx : h.get? a = some o) (hc : o.cls = .ref D) (hq : R (.ok (.ret (.ref D))) ⟨h, g, d, t, os⟩) :
  codeAny (model prog w) A (.call (.builtin "getset_descriptor.__get__") ⟨[.builtin "object.__class__", .ref a, .ref D], []⟩) R ⟨h, g, d, t, os⟩ := by
 have hT5 : (⟨h, g, d, t, os⟩ : Shared).TypeIs (.builtin "object.__class__") "getset_descriptor" := F.typeOf_object_class
 have L : Looks (model prog w) h (isSubtype (.ref D) (.type (".".intercalate ("object.__class__".cutAt '.').dropLast))) true := by rw [F.owner_object_class]; exact S.subO
 refine codeAny_call_builtin F.slot_gs_get.plain F.entry_gs_get (F.slot_gs_get.check _ _ _ _ _ _ _ _ hT5 (F.args_gs_get _ _ _) ?_)
 repeat (any_goals (first | assumption | (with_reducible refine wpAny_loadPart_at hx ?_; rw [hc]) | with_reducible refine L.at ?_ | wp_step))
 refine ⟨Code.quiet_builtin _ (by decide +kernel), codeAny_builtin F.entry_object_class ?_⟩
 repeat (any_goals (first | assumption | (with_reducible refine wpAny_loadPart_at hx ?_; rw [hc]) | wp_step))
theorem xc_check {nameV : Value} {Q : Unit → Shared → Prop} (S : Xd (model prog w) h D) (hx : h.get? a = some o) (hc : o.cls = .ref D) (hq : Q () ⟨h, g, d, t, os⟩) : wpAny (model prog w) A (checkBuiltinCall "BaseException.__getattribute__" ⟨[.ref a, nameV], []⟩) Q E ⟨h, g, d, t, os⟩ := by
 have hk : builtinKind "BaseException.__getattribute__" = some .slot := by decide +kernel
 have hsplit : splitId "BaseException.__getattribute__" = some ("BaseException", "__getattribute__") := by decide +kernel
 have ha := F.args_bexc_ga (.ref a) nameV
 have L := S.subB
 simp only [checkBuiltinCall, hk, hsplit]
 refine wpAny_bind ?_
 ·unfold isInstance
  repeat (first | (with_reducible refine wpAny_loadPart_at hx ?_; rw [hc]) | with_reducible refine L.at ?_ | wp_step)
  exact hq
theorem xc_entry {tk : Tok} {Q : Fin → Shared → Prop} (S : Xd (model prog w) h D) (hx : h.get? a = some o) (hc : o.cls = .ref D) (hq : Q (.done (.ret (.ref D))) ⟨h, g, d, t, os⟩) :
  wpAny (model prog w) A (Builtin.«object.__getattribute__» ⟨[.ref a, .str "__class__" tk], []⟩) Q E ⟨h, g, d, t, os⟩ := by
 have hT5 : (⟨h, g, d, t, os⟩ : Shared).TypeIs (.builtin "object.__class__") "getset_descriptor" := F.typeOf_object_class
 have f5 := F.typeOf_object_class
 have f6 := F.slot_gs_get.lookup
 have f7 := F.slot_gs_set.lookup
 have L := S.cls
 repeat (any_goals (first | assumption | (with_reducible refine wpAny_loadPart_at hx ?_; rw [hc]) | with_reducible refine L.at ?_ | wp_step))
 refine xc_get S hx hc ?_
 repeat (any_goals (first | assumption | wp_step))
theorem xc_call {tk : Tok} {R : Result → Shared → Prop} (S : Xd (model prog w) h D) (hx : h.get? a = some o) (hc : o.cls = .ref D) (hq : R (.ok (.ret (.ref D))) ⟨h, g, d, t, os⟩) :
  codeAny (model prog w) A (.call (.builtin "BaseException.__getattribute__") ⟨[.ref a, .str "__class__" tk], []⟩) R ⟨h, g, d, t, os⟩ :=
 codeAny_call_builtin F.attrBase_ValueError.ga.plain F.entry_bexc_ga (xc_check S hx hc (xc_entry S hx hc hq))
theorem xc_by {tk : Tok} {Q : Value → Shared → Prop} (S : Xd (model prog w) h D) (hx : h.get? a = some o) (hc : o.cls = .ref D) (hq : Q (.ref D) ⟨h, g, d, t, os⟩) :
  wpAny (model prog w) A (getAttrBy (.ref a) (.str "__class__" tk) false) Q E ⟨h, g, d, t, os⟩ := by
 have f3 := F.attrBase_ValueError.ga.bind (.ref a)
 have hx2 : (Value.builtin "BaseException.__getattribute__" == Value.builtin "object.__getattribute__") = false := by decide +kernel
 have hx1 : (onTheHeap (Value.ref D) && Value.builtin "BaseException.__getattribute__" == Value.builtin "object.__getattribute__") = false := by rw [hx2]; rfl
 have L1 := S.ga
 have L2 := S.geta
 repeat (any_goals (first | assumption | (with_reducible refine wpAny_loadPart_at hx ?_; rw [hc]) | with_reducible refine L1.at ?_ | with_reducible refine L2.at ?_ | wp_step))
 refine xc_call S hx hc ?_
 repeat (any_goals (first | assumption | wp_step))
theorem xc_attr {Q : Option Value → Shared → Prop} (S : Xd (model prog w) h D) (hx : h.get? a = some o) (hc : o.cls = .ref D) (hq : Q (some (.ref D)) ⟨h, g, d, t + 1, os⟩) : wpAny (model prog w) A (getAttr? (.ref a) "__class__") Q E ⟨h, g, d, t, os⟩ := by
 unfold getAttr? getAttrBy?
 repeat (any_goals (first | assumption | with_reducible apply xc_by S hx hc | wp_step))
theorem xc_nested {cv : Value} {dep : Int} {tk : Tok} {Q : Fin → Shared → Prop} (S : Xd (model prog w) h D) (hx : h.get? a = some o) (hc : o.cls = .ref D) (hty : Looks (model prog w) h (typeOf cv) (.type "type")) (his : Looks (model prog w) h (isType cv) true)
  (hne : (Value.ref D == cv) = false) (hsub : Looks (model prog w) h (isSubtype (.ref D) cv) false) (hq : Q (.done (.ret (.bool false))) ⟨h, g, d, t + 1, os⟩) :
  wpAny (model prog w) A (Builtin.«isinstance.nested» ⟨[.ref a, cv, .int dep tk], []⟩) Q E ⟨h, g, d, t, os⟩ := by
 have L0 : Looks (model prog w) h (typeOf (.ref a)) (.ref D) := by
  intro A' Q' E' s' k q
  exact wpAny_bind (wpAny_loadPart (k _ _ hx) (wpAny_pure (by rw [hc]; exact q)))
 have LI : Looks (model prog w) h (isInstance (.ref a) cv) false := L0.andThen hsub
 unfold Builtin.«isinstance.nested»
 refine wpAny_bind (L0.at ?_)
 rw [if_neg (fun q => by rw [hne] at q; exact Bool.noConfusion q)]
 refine wpAny_bind (hty.at ?_)
 rw [if_pos (by decide)]
 k_delta "plainIsInstance"
 refine wpAny_bind (wpAny_bind (his.at ?_))
 simp only [Bool.not_true, Bool.false_eq_true, if_false]
 refine wpAny_bind (LI.at ?_)
 simp only [Bool.false_eq_true, if_false]
 refine wpAny_bind (xc_attr S hx hc ?_)
 refine wpAny_bind (S.isT.at ?_)
 simp only [Bool.not_true, Bool.false_eq_true, if_false]
 refine wpAny_bind (wpAny_rule ?_)
 refine hsub.at ?_
 first
  | exact wpAny_pure hq
  | exact wpAny_pure (wpAny_pure hq)
  | exact wpAny_bind (wpAny_pure (wpAny_pure hq))
end
end Mine
set_option maxHeartbeats 1000000
set_option maxRecDepth 100000
namespace Mine
open PySem PySem.Calls PyProof.Rows PySem.W
section
variable {prog : Program} {w : World} {A : Around} {E : Value → Shared → Prop} {h : Heap} {g : Array GenState} {d : Drawn} {t : Nat} {os : OsState} {a D : Addr} {o : Obj}
theorem xc_type {M : Model} (hx : h.get? a = some o) (hc : o.cls = .ref D) : Looks M h (typeOf (.ref a)) (.ref D) := by
 intro A' Q' E' s' k q
 exact wpAny_bind (wpAny_loadPart (k _ _ hx) (wpAny_pure (by rw [hc]; exact q)))
theorem xc_nestedT {cv : Value} {dep : Int} {tk : Tok} {Q : Fin → Shared → Prop} (hx : h.get? a = some o) (hc : o.cls = .ref D) (hty : Looks (model prog w) h (typeOf cv) (.type "type")) (his : Looks (model prog w) h (isType cv) true)
  (hsub : Looks (model prog w) h (isSubtype (.ref D) cv) true) (hq : Q (.done (.ret (.bool true))) ⟨h, g, d, t, os⟩) :
  wpAny (model prog w) A (Builtin.«isinstance.nested» ⟨[.ref a, cv, .int dep tk], []⟩) Q E ⟨h, g, d, t, os⟩ := by
 have L0 := xc_type (M := model prog w) hx hc
 have LI : Looks (model prog w) h (isInstance (.ref a) cv) true := L0.andThen hsub
 unfold Builtin.«isinstance.nested»
 refine wpAny_bind (L0.at ?_)
 by_cases q : (Value.ref D == cv) = true
 ·rw [if_pos q]
  exact wpAny_bind (wpAny_rule (wpAny_bind (wpAny_pure (wpAny_pure hq))))
 ·rw [if_neg q]
  refine wpAny_bind (hty.at ?_)
  rw [if_pos (by decide)]
  k_delta "plainIsInstance"
  refine wpAny_bind (wpAny_bind (his.at ?_))
  simp only [Bool.not_true, Bool.false_eq_true, if_false]
  refine wpAny_bind (LI.at ?_)
  simp only [if_true]
  exact wpAny_pure (wpAny_pure hq)
end
structure Xs (c : Cx) (K : Frag) (es : List (Str × Addr × List Value)) : Prop where
 inn : K.In c.h0
 good : c.Good
 ok : es.all (xOne K) = true
structure X1 (c : Cx) (K : Frag) (x : Str) (C : Addr) (mro : List Value) : Prop where
 inn : K.In c.h0
 name : c.mg x = some (.ref C)
 cls : ∃ cd, clsIn K C = some cd ∧ cd.mro = mro
 typ : typeIn K (.ref C) = some (.type "type")
 fc : findIn K (.ref C) "__class__" = some (some (.builtin "object.__class__"))
 fg : findIn K (.ref C) "__getattribute__" = some (some (.builtin "BaseException.__getattribute__"))
 fa : findIn K (.ref C) "__getattr__" = some none
 mB : mro.contains (.type "BaseException") = true
 mO : mro.contains (.type "object") = true
 ne : mro.isEmpty = false
theorem Xs.at {c : Cx} {K : Frag} {es : List (Str × Addr × List Value)} {x : Str} {C : Addr} {mro : List Value} (S : Xs c K es) (h : es.lookup x = some (C, mro)) : X1 c K x C mro := by
 have := List.all_eq_true.mp S.ok _ (mem_of_lookup h)
 simp only [xOne, Bool.and_eq_true, beq_iff_eq, Bool.not_eq_true'] at this
 obtain ⟨⟨⟨⟨⟨⟨⟨⟨h1, h2⟩, h3⟩, h4⟩, h5⟩, h6⟩, h7⟩, h8⟩, h9⟩ := this
 obtain ⟨cd, hc, he⟩ := any_some h2
 exact ⟨S.inn, mg_of S.inn S.good.g h1, ⟨cd, hc, beq_iff_eq.mp he⟩, h3, h4, h5, h6, h7, h8, h9⟩
section
variable {c : Cx} {K : Frag} {x : Str} {C : Addr} {mro : List Value} {M : Model} {h : Heap}
theorem X1.sub (S : X1 c K x C mro) (k : K.In h) (v : Value) : Looks M h (isSubtype (.ref C) v) (mro.contains v) := by
 obtain ⟨cd, hc, he⟩ := S.cls
 refine looks_mroIn k ?_
 unfold mroIn
 rw [hc, Option.bind_some, he, if_neg (by rw [S.ne]; decide)]
theorem X1.isT (S : X1 c K x C mro) (k : K.In h) : Looks M h (isType (.ref C)) true := by
 obtain ⟨cd, hc, _⟩ := S.cls
 unfold clsIn at hc
 split at hc
 ·rename_i ho
  intro A' Q' E' s' k' q
  unfold isType loadHead
  exact wpAny_bind (wpAny_loadPart (k' _ _ (k _ _ ho)) (wpAny_pure q))
 ·cases hc
theorem X1.type (S : X1 c K x C mro) (k : K.In h) : Looks M h (typeOf (.ref C)) (.type "type") := looks_typeIn k S.typ
theorem X1.xd (S : X1 c K x C mro) (k : K.In h) : Xd M h C where
 cls := looks_findIn k S.fc
 ga := looks_findIn k S.fg
 geta := looks_findIn k S.fa
 subB := by have := S.sub (M := M) k (.type "BaseException"); rwa [S.mB] at this
 subO := by have := S.sub (M := M) k (.type "object"); rwa [S.mO] at this
 isT := S.isT k
end
section
variable {c : Cx} {K : Frag} {A : Around} {fr : List Addr} {σ : Sto} {X : Addr → Sto → Prop} {Q : D → Sto → Prop} {env : Env} {m : Vars} {es : List (Str × Addr × List Value)}
theorem WE.nX (S : Xs c K es) {f : Str} {fp : Pos} {C : Addr} {mro : List Value} (hk : env.kindOf f = some .globalImplicit) (he : es.lookup f = some (C, mro)) (h : Q (.ref C) σ) (hdb : (f == ("__debug__" : Str)) = false := by decide) : WE c A fr env m σ (.Name f fp) Q X := fun s ok fm =>
 Name_function_global fm.kind hk (loadGlobal_global (by rw [fm.glob]; exact S.good.g.keeps ok.base) (S.at he).name ⟨_, σ, Post.refl .., ok, by unfold V; rfl, h⟩) hdb
structure IsiX (h : Heap) (a C : Addr) (cv : Value) (b : Bool) : Prop where
 obj : ∃ o, h.get? a = some o ∧ o.cls = .ref C
 xd : ∀ M : Model, Xd M h C
 ty : ∀ M : Model, Looks M h (typeOf cv) (.type "type")
 is_ : ∀ M : Model, Looks M h (isType cv) true
 sub : ∀ M : Model, Looks M h (isSubtype (.ref C) cv) b
 ne : b = false → (Value.ref C == cv) = false
theorem isi_any {prog : Program} {w : World} {E : Value → Shared → Prop} {s : Shared} {a C : Addr} {cv : Value} {b : Bool} {P : Value → Shared → Prop} (x : IsiX s.heap a C cv b) (h : ∀ tk, P (.bool b) { s with toks := tk }) :
  wpAny (model prog w) A (call (.builtin "isinstance") [.ref a, cv]) P E s := by
 refine call_isinstance (S := fun _ R s => IsiX s.heap a C cv b ∧ ∀ tk, R (.ok (.ret (.bool b))) { s with toks := tk }) (fun prog' w' A' R' s' hs => isinstance_outer ?_ (by intro q; cases q)) ⟨x, h⟩
 obtain ⟨⟨⟨o, hx, hc⟩, S, hty, his, hsub, hne⟩, hR⟩ := hs
 obtain ⟨hh, g, d, t, os⟩ := s'
 cases b with
 | true => exact xc_nestedT hx hc (hty _) (his _) (hsub _) (hR t)
 | false => exact xc_nested (S _) hx hc (hty _) (his _) (hne rfl) (hsub _) (hR (t + 1))
theorem V.excAt {Kk : List Addr} {h : Heap} {C : Addr} {v : Value} (x : V Kk h (.exc C) v) : ∃ a o, v = .ref a ∧ h.get? a = some o ∧ o.cls = .ref C := by
 unfold V at x
 obtain ⟨a, o, vs, e, _, g, hc, _⟩ := x
 exact ⟨a, o, e, g, hc⟩
theorem At1.isiX (S : Xs c K es) {x y : Str} {C C' : Addr} {mro mro' : List Value} {b : Bool} (hx : es.lookup x = some (C, mro)) (hy : es.lookup y = some (C', mro')) (hb : mro.contains (.ref C') = b) (hself : mro.contains (.ref C) = true) (h : Q (.bool b) σ) :
  At1 c A fr σ (.builtin "isinstance") [.exc C, .ref C'] Q X := .two fun s v u ok hv hu => by
 obtain ⟨a, o, rfl, g, hc⟩ := hv.excAt
 unfold V at hu; subst hu
 have k : K.In s.heap := S.inn.keeps ok.base
 refine isi_any (C := C) (b := b) ⟨⟨o, g, hc⟩, fun M => (S.at hx).xd k, fun M => (S.at hy).type k, fun M => (S.at hy).isT k, fun M => hb ▸ (S.at hx).sub k _, fun e => ?_⟩ fun tk => ⟨_, σ, Post.tok .., ok, V.ofBool, h⟩
 subst e
 rw [beq_eq_false_iff_ne]
 intro q
 rw [← q, hself] at hb
 cases hb
theorem At1.isiV (S : Xs c K es) {x : Str} {C : Addr} {mro : List Value} {T : String} {b : Bool} (hx : es.lookup x = some (C, mro)) (hb : mro.contains (.type T) = b) (hty : typeOf (.type T) = pure (.type "type")) (his : isType (.type T) = pure true) (h : Q (.bool b) σ) :
  At1 c A fr σ (.builtin "isinstance") [.exc C, .typ T] Q X := .two fun s v u ok hv hu => by
 obtain ⟨a, o, rfl, g, hc⟩ := hv.excAt
 unfold V at hu; subst hu
 have k : K.In s.heap := S.inn.keeps ok.base
 exact isi_any (C := C) (b := b) ⟨⟨o, g, hc⟩, fun M => (S.at hx).xd k, fun M => Looks.of_pure hty, fun M => Looks.of_pure his, fun M => hb ▸ (S.at hx).sub k _, fun e => rfl⟩ fun tk => ⟨_, σ, Post.tok .., ok, V.ofBool, h⟩
end
end Mine
set_option maxHeartbeats 1000000
set_option maxRecDepth 100000
namespace Mine
open PySem PySem.Calls PyProof.Rows PySem.W
section
variable {c : Cx} {K : Frag} {A : Around} {fr : List Addr} {σ : Sto} {X : Addr → Sto → Prop} {Q : D → Sto → Prop} {env : Env} {m : Vars} {es : List (Str × Addr × List Value)} {N : Vars → Sto → Prop} {R : D → Sto → Prop}
theorem xc_match {M : Model} {h : Heap} {x y : Str} {C C' e : Addr} {mro mro' : List Value} {o : Obj} (S : X1 c K x C mro) (S' : X1 c K y C' mro') (k : K.In h) (he : h.get? e = some o) (hc : o.cls = .ref C) (hb : mro.contains (.ref C') = true) :
  Looks M h (excMatches (.ref e) (.ref C')) true := by
 intro A Q E s ks q
 have L1 : Looks M s.heap (isInstance (.ref C') (.type "tuple")) false := ((S'.type k).keeps ks).andThen (Looks.of_pure tc_notTuple)
 have L2 : Looks M s.heap (isExcClass (.ref C')) true := by
  have a := (S'.isT (M := M) k).keeps ks
  have b := (S'.sub (M := M) k (.type "BaseException")).keeps ks
  rw [S'.mB] at b
  exact a.andThen b
 have L3 : Looks M s.heap (typeOf (.ref e)) (.ref C) := (xc_type he hc).keeps ks
 have L4 : Looks M s.heap (isSubtype (.ref C) (.ref C')) true := by
  have := (S.sub (M := M) k (.ref C')).keeps ks
  rwa [hb] at this
 unfold excMatches
 refine wpAny_bind (L1.here ?_)
 simp only [Bool.false_eq_true, if_false]
 refine wpAny_bind (wpAny_pure ?_)
 simp only [List.forIn_cons, List.forIn_nil]
 refine wpAny_bind (wpAny_bind (wpAny_bind (L2.here ?_)))
 simp only [Bool.not_true, Bool.false_eq_true, if_false]
 refine wpAny_pure (wpAny_pure (wpAny_bind (L3.here (wpAny_bind (wpAny_bind (wpAny_bind (L4.here ?_)))))))
 simp only [if_true]
 exact wpAny_pure (wpAny_pure (wpAny_pure q))
theorem Ex.at {A' : Around} {G : Option Env} {s s' : Shared} {t : Bool} {v : Value} (x : Ex c A G fr σ s t X v s') (e : A'.frames = A.frames) : Ex c A' G fr σ s t X v s' := by
 obtain ⟨e', C, σ2, ex, rfl, q, ok, n, r, f, hx⟩ := x
 exact ⟨e', C, σ2, ex, rfl, q, ok.at e, n, r, f, hx⟩
theorem W1.tryAs {sc : Scope} {body suite : List Stmt} {b₀ : Stmt} {T n : Str} {np hpos pos : Pos} {CE : Addr} {mroE : List Value} {Xb : Addr → Sto → Prop} (fe : Fe A env sc) (S : Xs c K es) (hT : env.kindOf T = some .globalImplicit) (heT : es.lookup T = some (CE, mroE)) (hn : env.kindOf n = some .local)
  (h : WS c A fr env m σ body N R Xb)
  (k : ∀ C σ', Xb C σ' → ∃ x mro, es.lookup x = some (C, mro) ∧ mro.contains (.ref CE) = true ∧ ∀ e, WS c (A.mark (some (.ref e))) fr env [(n, .exc C)] σ' (b₀ :: suite) (fun _ _ => False) R NoX) (hdb : (T == ("__debug__" : Str)) = false := by decide) :
  W1 c A fr env m σ (.Try body [.ExceptHandler (some (.Name T np)) (some n) (b₀ :: suite) hpos] [] [] pos) N R X := fun s ok fm => by
 obtain ⟨l, hst⟩ := fe.stack
 refine wpAny_Try_except (wpAny_mono (h s ok fm) (fun f s1 hx => ?_) fun v s1 hx => ?_)
 ·obtain ⟨o, σ1, p1, ok1, r1, q1⟩ := hx
  cases o with
  | next m' => obtain ⟨rfl, fm1⟩ := r1; exact wpAny_execs_nil ⟨.next m', σ1, p1, ok1, ⟨rfl, fm1⟩, q1⟩
  | ret d => obtain ⟨v, rfl, hv⟩ := r1; exact ⟨.ret d, σ1, p1, ok1, ⟨v, rfl, hv⟩, q1⟩
 refine wpAny_mono (Ex.noted hx hst fe.frame) (fun _ s2 hx2 => ?_) fun _ _ f => f
 refine wpAny_mono (Ex.flight (f? := none) hx2) (fun _ s3 hx3 => ?_) fun _ _ f => f
 have hx3' := hx3
 obtain ⟨e, C, σ', ex, rfl, p, ok2, hnew, ⟨oe, vs, ge, ⟨gc, gd⟩, gf, gs, gt⟩, hF, hX⟩ := hx3
 obtain ⟨x, mro, hex, hmro, hsuite⟩ := k C σ' hX
 have kk : K.In s3.heap := S.inn.keeps ok2.base
 have fm3 : Fm env [] fr (keys σ' ++ fr) s3.heap := hF
 have hmk : (A.mark (some (.ref e))).frames = A.frames := rfl
 refine wpAny_handleBy_cons (codeAny_handlers_test ?_) (by intro q; cases q)
 refine Name_function_global fm3.kind hT (loadGlobal_global (by rw [fm3.glob]; exact S.good.g.keeps ok2.base) (S.at heT).name ?_) hdb
 refine (xc_match (S.at hex) (S.at heT) kk ge gc hmro).here ?_
 simp only [if_true]
 refine codeAny_handlers_suite_as ?_
 refine wpAny_mono (Ex.flight (f? := none) (hx3'.at hmk)) (fun _ s4 hx4 => ?_) fun _ _ f => f
 obtain ⟨e', C', σ'', ex', he', p4, ok4, hnew4, ⟨oe4, vs4, ge4, ⟨gc4, gd4⟩, gf4, gs4, gt4⟩, hF4, hX4⟩ := hx4
 obtain rfl : e = e' := by injection he'
 obtain ⟨x', mro', hex', hmro', hsuite'⟩ := k C' σ'' hX4
 have hin : ∀ l, (A.mark (some (.ref e))).frames = some l → ∀ b ∈ l.filterMap (·.frame), b ∈ fr := ok.frames_in
 have ok5 : Ok c (A.mark (some (.ref e))) fr σ'' s4.heap := Ok.less (ex := []) (wr := ex') ok4 hin
 have hee : e ∈ ex' := by
  rcases gt4 with ⟨_, h, _⟩ | ⟨T', _, _, h, _⟩ <;> rw [h] <;> simp
 have hV : V (keys σ'' ++ fr) s4.heap (.exc C') (.ref e) := by unfold V; exact ⟨e, oe4, vs4, rfl, ok4.apart.1 e hee, ge4, gc4, gf4, gd4⟩
 refine wpAny_mono (W.store (X := NoX) ok5 (show Fm env [] fr (keys σ'' ++ fr) s4.heap from hF4) hV (.inl hn)) (fun _ s5 hx5 => ?_) fun _ _ f => (Ex.no f).elim
 obtain ⟨_, σ5, p5, ok5', fm5, hσ5⟩ := hx5
 subst hσ5
 refine wpAny_mono (hsuite' e s5 ok5' fm5) (fun f s6 hx6 => ?_) fun v s6 hx6 => (Ex.no hx6).elim
 obtain ⟨o, σ6, p6, ok6, r6, q6⟩ := hx6
 cases o with
 | next m' => exact q6.elim
 | ret d =>
  obtain ⟨v, rfl, hv, fv⟩ := r6
  obtain ⟨mv, hns, _⟩ := fv.ns
  refine wpAny_nameGoes hn hns (by rw [fv.kind]; rfl) fun h' m' hn' sb => ?_
  obtain ⟨oL, esL, epL, eL, hdL, _⟩ := _root_.id hn'
  have pt : Post (Fa env) fr σ6 s6 { s6 with heap := h', toks := s6.toks + 1 } σ6 := Post.turn List.mem_cons_self fv.fa sb eL
  have okt : Ok c A fr σ6 h' := (ok6.turn fv.inn.1 sb eL (fun vs => by rw [hdL]; intro q; cases q) (fun _ => ⟨oL, esL, epL, eL, hdL⟩)).at rfl
  have st : Stay (keys σ6 ++ fr) s6.heap h' := fun b o' nb e => (sb.2 b fun q => nb (q ▸ List.mem_append_right _ fv.inn.1)).trans e
  refine ⟨.ret d, σ6, (p4.trans p5).trans (p6.trans pt), okt, ⟨v, rfl, V.move st (fun _ z => .inl z) _ _ hv, ?_⟩, q6⟩
  exact {
   kind := fv.kind
   glob := fv.glob
   bui := fv.bui
   ns := ⟨m', hn', fun x d e => by cases e⟩
   cell := fun x cc e => by
    obtain ⟨ov, hc, _⟩ := fv.cell x cc e
    exact ⟨ov, hc.sameBut sb (fv.apart.2 _ (mem_of_lookup e)), fun d e => by cases e⟩
   has := fv.has
   inn := fv.inn
   apart := fv.apart }
end
end Mine
set_option maxHeartbeats 1000000
set_option maxRecDepth 100000
namespace Mine
open PySem PySem.Calls PyProof.Rows PySem.W
section
variable {c : Cx} {K : Frag} {A : Around} {fr : List Addr} {σ σ1 σ2 : Sto} {X : Addr → Sto → Prop} {Q : D → Sto → Prop} {env : Env} {m : Vars} {es : List (Str × Addr × List Value)} {N : Vars → Sto → Prop} {R : D → Sto → Prop}
theorem WB.addS {x y : Str} (hsz : x.length + y.length ≤ sizeLine) (h : Q (.str (x ++ y)) σ) : WB c A fr σ (binaryOp .Add) (.str x) (.str y) Q X := fun v1 v2 s ok x1 x2 => by
 obtain ⟨t, rfl⟩ := x1.toStr
 obtain ⟨u, rfl⟩ := x2.toStr
 exact SB.add (fun t' k => ⟨_, σ, Post.tok .., ok, V.ofStr, h⟩) hsz
theorem WE.rstrip {o : Expr} {apos pos : Pos} (h : WE c A fr env m σ o (fun d σ1 => ∃ x : Str, d = .str x ∧ x.length ≤ sizeLine ∧ Q (.str (Txt.rstrip x)) σ1) X) (hb : attributeBase o (Str.ofString "rstrip") env (eval o env) = eval o env) (hl : (apos.endLine == pos.line) = true := by rfl) :
  WE c A fr env m σ (.Call (.Attribute o (Str.ofString "rstrip") apos) [] [] pos) Q X := fun s ok fm =>
 Call_method0 hb hl (wpAny_mono (h s ok fm) (fun v s1 hx => by
  obtain ⟨d, σ1, p1, ok1, x1, x, rfl, hsz, q⟩ := hx
  obtain ⟨t, rfl⟩ := x1.toStr
  exact SB.rstrip (fun t' k => ⟨_, σ1, p1.trans (Post.tok ..), ok1, V.ofStr, q⟩) hsz) fun _ _ x => x)
noncomputable def Rai (c : Cx) (x : Str) : Prop := ∃ (C : Addr) (bm : List Value) (B newId initId : String), OwnCls x C bm newId c.mg c.h0 ∧ ExcBaseFacts B newId initId bm
theorem W1.raiseX {x : Str} {C : Addr} {mro : List Value} {np cpos pos : Pos} {args : List Expr} (S : Xs c K es) (he : es.lookup x = some (C, mro)) (O : Rai c x) (hh : A.handled = none) (hk : env.kindOf x = some .globalImplicit)
  (h : WA c A fr env m σ args (fun ds σ1 => ds.length ≤ sizeLine ∧ X C σ1) X) (hp : plainArgs args = true := by rfl) (hdb : (x == ("__debug__" : Str)) = false := by decide) :
  W1 c A fr env m σ (.Raise (some (.Call (.Name x np) args [] cpos)) none pos) N R X := by
 obtain ⟨C', bm, B, newId, initId, o, f⟩ := O
 obtain rfl : C' = C := by
  have h1 := o.bound
  rw [(S.at he).name] at h1
  injection h1 with h1; injection h1 with h1; exact h1.symm
 exact W1.raise S.good o f hh hk h hp hdb
theorem Rai.ofTop {p : Program} {loose : List Str} {mean : ExcName → Option Value} {x : Str} (T : Top p loose mean c.mg c.mb c.h0) (h : (((ownsOf p).find? fun e => e.name == x).map fun o => (o.name, o.newId, o.bm)) = some (x, "ValueError.__new__", [.type "ValueError", .type "Exception", .type "BaseException", .type "object"])) : Rai c x := by
 obtain ⟨o, h1, h2⟩ := Option.map_eq_some_iff.mp h
 simp only [Prod.mk.injEq] at h2
 obtain ⟨rfl, h3, h4⟩ := h2
 obtain ⟨C, O, _⟩ := T.own o (List.mem_of_find?_eq_some h1)
 rw [h3, h4] at O
 exact ⟨C, _, _, _, _, O.own, F.excBase_ValueError⟩
end
end Mine
set_option maxHeartbeats 1000000
namespace Mine
open PySem PySem.Calls PyProof.Rows PySem.W
theorem fragAt_in {h : Heap} {as : List Addr} : (fragAt h as).In h := in_of_all fun p hp => by
 obtain ⟨a, ha, e⟩ := List.mem_filterMap.mp hp
 obtain ⟨o, h1, h2⟩ := Option.map_eq_some_iff.mp e
 rw [← h2]; exact h1
theorem Xs.ofHook {c : Cx} {w : World} {as : List Addr} {es : List (Str × Addr × List Value)} (Y : (xHook as es).says w c.h0) (g : c.Good) : Xs c (fragAt c.h0 as) es :=
 ⟨fragAt_in, g, (Bool.and_eq_true_iff.mp (show xAll as es c.h0 = true from Y)).2⟩
end Mine
set_option maxHeartbeats 1000000
namespace Mine
open PySem PySem.Calls PyProof.Rows PySem.W
theorem Room'.mark {n : Nat} {A : Around} {v : Option Value} (r : Room' n A) : Room' n (A.mark v) := r
section
variable {c : Cx} {A : Around} {fr : List Addr} {σ : Sto} {X : Addr → Sto → Prop} {Q : D → Sto → Prop} {env : Env} {m : Vars} {B : List Stmt} {bs : List (Str × Value)}
theorem WF.byH {name : Str} {params : Arguments} {body : List Stmt} {scope : Scope} {dpos : Pos} (i : Nat) {ps : List Str} {n : Nat} {ds : List D} (T : Tp c B bs) (hd : (B[i]?).bind recOf = some ⟨name, params, body, scope, dpos⟩)
  (hb : ∀ pm code doc vals, vals.length = ps.length → bindArgs (docDef name params body scope pm code doc) ⟨vals, []⟩ = pure (ps.zip vals)) (hok : fnOk scope ps = true) (hl : ds.length = ps.length)
  (h : ∀ A fr env, Room' n A → env.scope = scope → Fe A env scope → WS c A (Fa env ++ fr) env (ps.zip ds) σ body (fun _ σ' => Q .none σ') Q X) : WF c (Room' (n + 1)) name ds σ Q X := fun a ha => by
 obtain ⟨a', o, pm, code, doc, h1, h2, h3, h4⟩ := T.fn _ (rec_mem hd)
 obtain rfl : a' = a := by dsimp only at h1; rw [h1] at ha; injection ha with ha; injection ha
 simp only [fnOk, Bool.and_eq_true, decide_eq_true_eq, List.all_eq_true, Bool.or_eq_true, beq_iff_eq, bne_iff_ne, Bool.not_eq_true'] at hok
 obtain ⟨⟨⟨⟨⟨⟨k1, k2⟩, k3⟩, k4⟩, k5⟩, k6⟩, k7⟩ := hok
 refine WC.of (P' := Room' n) (ps := ps) (body := body) (scope := scope) ⟨⟨o, _, h2, h3, rfl, rfl, rfl, rfl, rfl, h4, hb pm code doc⟩, T.nolimit, k1, k2, k3, fun x e => ?_, k5, k6, k7⟩ (fun A env r => ⟨?_, r.deeper⟩) hl fun A fr env r fe => h A fr env r fe.scope fe
 ·obtain ⟨y, hy⟩ := lookup_mem' e
  exact k4 _ hy rfl
 ·have := r.1
  have e : recursionLimit = 1000 := rfl
  exact Nat.not_le.mp fun qz => lin [_,_,_] [] [(1,.nl (.v 0) (.v 1)),(1,.nf (.v 0) (.n 1000)),(1,.nt (.a (.v 1) (.a (.v 2) (.n 1))) (.n 990))] rfl qz e this
theorem WE.callP (T : Tp c B bs) {P : Around → Prop} {f : Str} {fp pos : Pos} {args : List Expr} (hP : P A) (hk : env.kindOf f = some .globalImplicit) (hf : Dfn c f)
  (h : WA c A fr env m σ args (fun ds σ1 => WF c P f ds σ1 Q X) X) (hp : plainArgs args = true := by rfl) (hdb : (f == ("__debug__" : Str)) = false := by decide) : WE c A fr env m σ (.Call (.Name f fp) args [] pos) Q X := by
 obtain ⟨a, o, fd, h1, h2, h3⟩ := hf
 exact WE.callF T.good (P := P) hP hk h1 h2 h3 (fun p s ok fm => (h p s ok fm).mono (fun ds σ1 w => w a h1) fun _ _ x => x) hp hdb
end
end Mine
namespace Mine
open PySem PySem.Calls PyProof.Rows
noncomputable def EnumSt (sd : SD) (e it l : Addr) (i : Nat) (K : List Addr) (h : Heap) : Prop :=
 (∃ old, IsEnum h e it i old) ∧ h.IsListIter it l i ∧ sd.Fz K h l
theorem enum_nd {h : Heap} {e it : Addr} {i : Int} {old : Value} (x : IsEnum h e it i old) {o : Obj} (g : h.get? e = some o) : ∀ es n, o.data ≠ .dict es n := fun es n q => by rw [x] at g; cases g; cases q
theorem enumOut_nd {h : Heap} {e it a : Addr} {i : Int} {old : Value} (x : IsEnumOut h e it i old a) {o : Obj} (g : h.get? e = some o) : ∀ es n, o.data ≠ .dict es n := fun es n q => by rw [x] at g; cases g; cases q
theorem lit_nd {h : Heap} {i l : Addr} {k : Nat} (x : h.IsListIter i l k) {o : Obj} (g : h.get? i = some o) : ∀ es n, o.data ≠ .dict es n := fun es n e => by
 obtain ⟨o', g', _, d'⟩ := x
 rw [g'] at g; cases g; rw [d'] at e; cases e
theorem EnumSt.nd {sd : SD} {e it l : Addr} {i : Nat} {K : List Addr} {h : Heap} (x : EnumSt sd e it l i K h) : ∀ b ∈ [e, it], ∀ o, h.get? b = some o → ∀ es n, o.data ≠ .dict es n := fun b hb o g => by
 obtain ⟨⟨old, a1⟩, a2, _⟩ := x
 simp only [List.mem_cons, List.not_mem_nil, or_false] at hb
 rcases hb with rfl | rfl
 ·exact enum_nd a1 g
 ·exact lit_nd a2 g
theorem EnumSt.live {sd : SD} {e it l : Addr} {i : Nat} {K : List Addr} {h : Heap} (x : EnumSt sd e it l i K h) : ∀ b ∈ [e, it], ∃ o, h.get? b = some o := fun b hb => by
 obtain ⟨⟨old, a1⟩, ⟨o, a2, _⟩, _⟩ := x
 simp only [List.mem_cons, List.not_mem_nil, or_false] at hb
 rcases hb with rfl | rfl
 ·exact ⟨_, a1⟩
 ·exact ⟨_, a2⟩
theorem lit_at {h h' : Heap} {i l : Addr} {k : Nat} (x : h.IsListIter i l k) (e : ∀ o, h.get? i = some o → h'.get? i = some o) : h'.IsListIter i l k := by
 obtain ⟨o, g, r⟩ := x; exact ⟨o, e o g, r⟩
theorem EnumSt.move {sd : SD} {e it l : Addr} {i : Nat} {K K' : List Addr} {h h' : Heap} (x : EnumSt sd e it l i K h) (sy : Stay K h h') (hw : ∀ b ∈ [e, it], ∀ o, h.get? b = some o → h'.get? b = some o) (hl : Less K K' h) : EnumSt sd e it l i K' h' := by
 obtain ⟨⟨old, a1⟩, a2, a3⟩ := x
 exact ⟨⟨old, hw e (by simp) _ a1⟩, lit_at a2 fun o g => hw it (by simp) o g, a3.move sy hl⟩
section
variable {c : Cx} {A : Around} {fr : List Addr} {σ : Sto} {X : Addr → Sto → Prop} {env : Env} {m : Vars}
theorem Src.enum {x y : Str} {px py tp : Pos} {kt : Nat} {sd : SD} {e it l : Addr} (hh : A.handled = none) (hL : sd.isL = true) (hne : e ≠ it) :
  Src c A (.Tuple [.Name x px, .Name y py] kt tp) e [e, it] (sd.ds.zipIdx.map fun p => [(y, p.1), (x, D.int (p.2 : Int))]) (fun σ' => sd.inv σ') (EnumSt sd e it l)
   (fun i K h v => ∃ T u d t, v = .ref T ∧ T ∉ [e, it] ∧ IsEnumOut h e it ((i : Int) + 1) u T ∧ h.IsListIter it l (i + 1) ∧ sd.Fz K h l ∧ IsPair h T (.int i t) u ∧ sd.ds[i]? = some d ∧ V K h d u) where
 nodict := fun i K h st => st.nd
 midnd := fun i K h v st => by
  obtain ⟨T, u, d, t, _, _, a1, a2, _⟩ := st
  intro b hb o g
  simp only [List.mem_cons, List.not_mem_nil, or_false] at hb
  rcases hb with rfl | rfl
  ·exact enumOut_nd a1 g
  ·exact lit_nd a2 g
 move := fun i K K' h h' st sy hw hl => st.move sy hw hl
 next := fun i σ fr s Q E hi ok st inv hQ => by
  obtain ⟨⟨old, a1⟩, a2, a3⟩ := id st
  obtain ⟨vs, sq, hv⟩ := a3.get ok inv
  rw [hL] at sq
  simp only [List.length_map, List.length_zipIdx] at hi
  have hi1 : i < vs.length := by rw [hv.length]; exact hi
  refine wpAny_pyNext_enum_item (x := vs[i]) a1 a2 (show s.heap.IsList l vs.toArray from sq) (by simp [hi1]) hne fun h' b1 b2 b3 b4 hk => ?_
  obtain ⟨d, e1, w1⟩ := hv.get (i := i) (v := vs[i]) (by simp)
  have sy : Stay (keys σ ++ ([e, it] ++ fr)) s.heap h' := fun b o nb g => hk b o (fun q => nb (by rw [q]; simp)) (fun q => nb (by rw [q]; simp)) g
  have ls : Less (keys σ ++ ([e, it] ++ fr)) (keys σ ++ ([e, it] ++ fr)) s.heap := fun a ha => .inl ha
  refine hQ _ h' (s.toks + 1) ⟨s.heap.objs.size, vs[i], d, s.toks, rfl, fun hm => ?_, b1, b2, a3.move sy ls, b3, e1, V.move sy ls _ _ w1⟩ ⟨fun b o nb g => hk b o (fun q => nb (by rw [q]; simp)) (fun q => nb (by rw [q]; simp)) g, fun b hb => ?_⟩
  ·obtain ⟨o, g⟩ := st.live _ hm
   exact heap_ne g rfl
  ·simp only [List.mem_cons, List.not_mem_nil, or_false] at hb
   rcases hb with rfl | rfl
   ·exact ⟨_, b1⟩
   ·obtain ⟨o, g, _⟩ := b2; exact ⟨o, g⟩
 put := fun i σ fr F env m v s Q E yy hy mid ok fm hi hkind hF hnd hQ => by
  obtain ⟨T, u, d, t, rfl, hT, a1, a2, a3, hp, e1, w1⟩ := mid
  have hy' : yy = [(y, d), (x, D.int (i : Int))] := by
   rw [List.getElem?_map, List.getElem?_zipIdx, e1] at hy
   simpa using hy.symm
  subst hy'
  refine wpAny_letOwnedTupleGo_enum a1 fun h1 z1 sb1 => ?_
  have k1 : ∀ b o, b ≠ e → s.heap.get? b = some o → h1.get? b = some o := fun b o nb g => (sb1.2 b nb).trans g
  have ow : Ow [e, it] s.heap h1 := ⟨fun b o nb g => k1 b o (fun q => nb (by rw [q]; simp)) g, fun b hb => by
   simp only [List.mem_cons, List.not_mem_nil, or_false] at hb
   rcases hb with rfl | rfl
   ·exact ⟨_, z1⟩
   ·obtain ⟨o, g, _⟩ := a2; exact ⟨o, k1 _ o (Ne.symm hne) g⟩⟩
  have ok1 : Ok c A ([e, it] ++ fr) σ h1 := ok.ow hnd ow
  have ndw := ok.nd
  rw [List.nodup_append, List.nodup_append] at ndw
  have nfw : ∀ a ∈ fr, a ∉ [e, it] := fun a ha hw => ndw.2.1.2.2 a hw a ha rfl
  have fm1 := fm.ow (fun b hb => List.mem_append_right _ (List.mem_append_left _ hb)) ⟨nfw _ hi.1, fun q hq => nfw _ (hi.2 q hq)⟩ ow
  have sy1 : Stay (keys σ ++ ([e, it] ++ fr)) s.heap h1 := fun b o nb g => k1 b o (fun q => nb (by rw [q]; simp)) g
  have ls : Less (keys σ ++ ([e, it] ++ fr)) (keys σ ++ ([e, it] ++ fr)) s.heap := fun a ha => .inl ha
  have hTe : T ≠ e := fun q => hT (by rw [q]; simp)
  have st1 : EnumSt sd e it l (i + 1) (keys σ ++ ([e, it] ++ fr)) h1 :=
   ⟨⟨_, by simpa using z1⟩, lit_at a2 fun o g => k1 _ o (Ne.symm hne) g, a3.move sy1 ls⟩
  have tin : ∀ a, a ∈ tight env x ∨ a ∈ tight env y → a ∈ F := fun a ha => by
   rcases ha with ha | ha
   ·rcases tight_mem ha with z | ⟨kk, g⟩
    ·rw [z]; exact hF.1
    ·exact hF.2 (x, D.int (i : Int)) (by simp) kk _ g
   ·rcases tight_mem ha with z | ⟨kk, g⟩
    ·rw [z]; exact hF.1
    ·exact hF.2 (y, d) (by simp) kk _ g
  have tfr : ∀ a, a ∈ tight env x ∨ a ∈ tight env y → a ∈ fr := fun a ha => by
   rcases ha with ha | ha
   ·rcases tight_mem ha with z | ⟨kk, g⟩
    ·rw [z]; exact hi.1
    ·exact hi.2 _ (mem_of_lookup g)
   ·rcases tight_mem ha with z | ⟨kk, g⟩
    ·rw [z]; exact hi.1
    ·exact hi.2 _ (mem_of_lookup g)
  refine store_two (d1 := D.int (i : Int)) (F := tight env x ++ tight env y) (s := { s with heap := h1 }) hh ok1 fm1 (k1 _ _ hTe hp) V.ofInt (V.move sy1 ls _ _ w1) (hkind (x, D.int (i : Int)) (by simp)) (hkind (y, d) (by simp)) (fun a ha => by simpa [List.mem_append] using ha) fun h2 tk2 fm2 ok2 p2 => ?_
  have kw : ∀ b ∈ [e, it], ∀ o, h1.get? b = some o → h2.get? b = some o := fun b hb o g => by
   obtain ⟨sl, e1, r1⟩ := p2.slots b o (List.mem_append_left _ hb) (fun q => nfw b (tfr b (by simpa [List.mem_append] using q)) hb) g
   have := r1 (st1.nd b hb o g)
   subst this; exact e1
  refine hQ h2 tk2 (st1.move p2.stay kw p2.less) fm2 ok2 ?_
  have pa : Post ([e, it] ++ F) ([e, it] ++ fr) σ s { s with heap := h1, toks := s.toks } σ := Post.ow ow
  exact pa.trans (p2.wide fun a ha => List.mem_append_right _ (tin a (by simpa [List.mem_append] using ha)))
 done := fun σ fr s Q E ok st inv hQ => by
  obtain ⟨⟨old, a1⟩, a2, a3⟩ := id st
  obtain ⟨vs, sq, hv⟩ := a3.get ok inv
  rw [hL] at sq
  exact wpAny_pyNext_enum_end hh a1 a2 (show s.heap.IsList l vs.toArray from sq) (by simp [hv.length]) fun h' hk => hQ h' s.toks fun b o nb g => hk b o (fun q => nb (by rw [q]; simp)) g
 self := fun i K s Q E st hQ => by obtain ⟨⟨old, a1⟩, _⟩ := st; exact wpAny_pyIter_enum a1 hQ
theorem WIt.enum {B : List Stmt} {bs : List (Str × Value)} (T : Tp c B bs) (hh : A.handled = none) {f : Str} {fp pos px py tp : Pos} {k : Nat} {e1 : Expr} {x y : Str} {Q : List Vars → (Sto → Prop) → Sto → Prop} (hk : env.kindOf f = some .globalImplicit) (hb : bs.lookup f = some (.type "enumerate"))
  (h : WE c A fr env m σ e1 (fun d1 σ1 => ∃ (α : Type) (sd : SD) (is : List α) (F : α → D), d1 = sd.d ∧ sd.isL = true ∧ sd.ds = is.map F ∧ sd.inv σ1 ∧ Q (is.zipIdx.map fun p => [(y, F p.1), (x, D.int (p.2 : Int))]) (fun σ' => sd.inv σ') σ1) X) (hp : plainArgs [e1] = true := by rfl) (hdb : (f == ("__debug__" : Str)) = false := by decide) :
  WIt c A fr env m σ (.Call (.Name f fp) [e1] [] pos) (.Tuple [.Name x px, .Name y py] k tp) Q X := by
 obtain ⟨hg, hbb⟩ := T.bn _ _ hb
 refine WIt.callT T.good hk hg hbb (WA.cons (h.mono (fun d1 σ1 q => WA.nil ?_) fun _ _ y => y) hp) hp hdb
 intro s vals E ok fm hv
 obtain ⟨α, sd, is, F, rfl, hL, hds, inv, q⟩ := q
 unfold Vs at hv
 obtain ⟨v1, r, rfl, hv1, hr⟩ := hv
 unfold Vs at hr; subst hr
 obtain ⟨l, rfl, z1⟩ := SD.of_v hv1
 obtain ⟨vs, sq, _⟩ := z1.get ok inv
 rw [hL] at sq
 refine call_enumerate_list (show s.heap.IsList l vs.toArray from sq) fun h' he hit hsz hkp => ?_
 refine wpAny_pyIter_enum he ?_
 have fresh : ∀ a ∈ [s.heap.objs.size + 1, s.heap.objs.size], s.heap.get? a = none := fun a ha => by
  simp only [List.mem_cons, List.not_mem_nil, or_false] at ha
  refine none_of_ge ?_
  rcases ha with rfl | rfl
  ·exact Nat.le_add_right ..
  ·exact Nat.le_refl _
 have ls := less_add (σ := σ1) (fr := fr) fresh
 have st : EnumSt sd (s.heap.objs.size + 1) s.heap.objs.size l 0 (keys σ1 ++ ([s.heap.objs.size + 1, s.heap.objs.size] ++ fr)) h' :=
  ⟨⟨_, he⟩, hit, z1.move (fun b o _ g => hkp b o g) ls⟩
 have hne : s.heap.objs.size + 1 ≠ s.heap.objs.size := Nat.succ_ne_self _
 refine ⟨_, _, _, _, _, _, rfl, ⟨h', s.toks, rfl⟩, hkp, fresh, st.live, by simp, Src.enum hh hL hne, st, inv, ?_⟩
 have e : sd.ds.zipIdx.map (fun p => [(y, p.1), (x, D.int (p.2 : Int))]) = is.zipIdx.map fun p => [(y, F p.1), (x, D.int (p.2 : Int))] := by
  rw [hds, List.zipIdx_map, List.map_map]; rfl
 rw [e]; exact q
end
end Mine
set_option maxHeartbeats 1000000
set_option maxRecDepth 100000
namespace Mine
open PySem PySem.Calls PyProof.Rows PySem.W
end Mine
namespace Mine
open PySem PySem.Calls PyProof.Rows
end Mine
namespace Mine
open PySem PySem.Calls PyProof.Rows PySem.W
end Mine
namespace Mine
open PySem PySem.Calls PyProof.Rows
end Mine
namespace Mine
noncomputable def dot (ws xs : List Int) : Int := ((ws.zip xs).map fun q => q.1 * q.2).sum
noncomputable def wor (E : List (List Int)) (v : List Int) : List Int := E.map fun e => dot e v
noncomputable def addR (a b : List Int) : List Int := (a.zip b).map fun q => q.1 + q.2
noncomputable def unitR (n : Nat) (p : Int) : List Int := (List.range n).map fun (i : Nat) => if ((i : Int) == p) = true then (1 : Int) else 0
noncomputable def inR (a b : List Int) : Bool := (a.zip b).all fun q => decide (q.1 ≤ q.2)
noncomputable def subR (a b : List Int) : List Int := (a.zip b).map fun q => q.1 - q.2
theorem dot_nil_l (x : List Int) : dot [] x = 0 := rfl
theorem dot_nil_r (x : List Int) : dot x [] = 0 := by cases x <;> rfl
theorem dot_cons (a b : Int) (x y : List Int) : dot (a :: x) (b :: y) = a * b + dot x y := by simp [dot]
theorem addR_len {a b : List Int} {n : Nat} (ha : a.length = n) (hb : b.length = n) : (addR a b).length = n := by simp [addR, ha, hb]
theorem subR_len {a b : List Int} {n : Nat} (ha : a.length = n) (hb : b.length = n) : (subR a b).length = n := by simp [subR, ha, hb]
theorem unitR_len (n : Nat) (p : Int) : (unitR n p).length = n := by simp [unitR]
theorem addR_get {a b : List Int} (h : a.length = b.length) (i : Nat) : (addR a b).getD i 0 = a.getD i 0 + b.getD i 0 := by
 induction a generalizing b i with
 | nil => cases b <;> simp [addR] at h ⊢
 | cons x a ih =>
  cases b with
  | nil => simp at h
  | cons y b =>
   cases i with
   | zero => simp [addR]
   | succ i => simpa [addR] using ih (by simpa using h) i
theorem subR_get {a b : List Int} (h : a.length = b.length) (i : Nat) : (subR a b).getD i 0 = a.getD i 0 - b.getD i 0 := by
 induction a generalizing b i with
 | nil => cases b <;> simp [subR] at h ⊢
 | cons x a ih =>
  cases b with
  | nil => simp at h
  | cons y b =>
   cases i with
   | zero => simp [subR]
   | succ i => simpa [subR] using ih (by simpa using h) i
theorem unitR_get (n : Nat) (p : Nat) (i : Nat) (hi : i < n) : (unitR n p).getD i 0 = if i = p then 1 else 0 := by
 simp [unitR, List.getD_eq_getElem?_getD, hi, Int.ofNat_inj]
theorem ext_get {a b : List Int} (h : a.length = b.length) (e : ∀ i, i < a.length → a.getD i 0 = b.getD i 0) : a = b := by
 apply List.ext_getElem h
 intro i h1 h2
 have := e i h1
 simpa [List.getD_eq_getElem?_getD, h1, h2] using this
theorem mem_get {a : List Int} {x : Int} (h : x ∈ a) : ∃ i, i < a.length ∧ a.getD i 0 = x := by
 obtain ⟨i, hi, e⟩ := List.mem_iff_getElem.mp h
 exact ⟨i, hi, by simp [List.getD_eq_getElem?_getD, hi, e]⟩
theorem get_mem {a : List Int} {i : Nat} (h : i < a.length) : a.getD i 0 ∈ a := by
 simp [List.getD_eq_getElem?_getD, h]
theorem inR_iff {a b : List Int} (h : a.length = b.length) : inR a b = true ↔ ∀ i, a.getD i 0 ≤ b.getD i 0 := by
 induction a generalizing b with
 | nil => cases b <;> simp [inR] at h ⊢
 | cons x a ih =>
  cases b with
  | nil => simp at h
  | cons y b =>
   have ih := ih (b := b) (by simpa using h)
   simp only [inR, List.zip_cons_cons, List.all_cons, Bool.and_eq_true, decide_eq_true_eq] at ih ⊢
   rw [ih]
   constructor
   ·intro ⟨h1, h2⟩ i
    cases i with
    | zero => simpa using h1
    | succ i => simpa using h2 i
   ·intro h
    exact ⟨by simpa using h 0, fun i => by simpa using h (i + 1)⟩
noncomputable def sumN (n : Nat) (f : Nat → Int) : Int := ((List.range n).map f).sum
theorem sumN_zero (f : Nat → Int) : sumN 0 f = 0 := rfl
theorem sumN_succ (n : Nat) (f : Nat → Int) : sumN (n + 1) f = sumN n f + f n := by
 simp [sumN, List.range_succ, List.sum_append]
theorem sumN_succ' (n : Nat) (f : Nat → Int) : sumN (n + 1) f = f 0 + sumN n (fun i => f (i + 1)) := by
 simp [sumN, List.range_succ_eq_map, Function.comp_def]
theorem sumN_congr {n : Nat} {f g : Nat → Int} (h : ∀ i, i < n → f i = g i) : sumN n f = sumN n g := by
 induction n with
 | zero => rfl
 | succ n ih => rw [sumN_succ, sumN_succ, ih fun i hi => h i (by exact Nat.not_le.mp fun qz => lin [_,_] [] [(1,.nl (.a (.v 0) (.n 1)) (.v 1)),(1,.nt (.v 1) (.v 0))] rfl qz hi), h n (by exact Nat.not_le.mp fun qz => lin [_] [] [(1,.nl (.a (.v 0) (.n 1)) (.v 0))] rfl qz)]
theorem sumN_add (n : Nat) (f g : Nat → Int) : sumN n (fun i => f i + g i) = sumN n f + sumN n g := by
 induction n with
 | zero => rfl
 | succ n ih => simp only [sumN_succ, ih]; exact Int.le_antisymm (Int.not_lt.mp fun qz => lin [] [_,_,_,_] [(1,.it (.a (.a (.v 0) (.v 1)) (.a (.v 2) (.v 3))) (.a (.a (.v 0) (.v 2)) (.a (.v 1) (.v 3))))] rfl qz) (Int.not_lt.mp fun qz => lin [] [_,_,_,_] [(1,.it (.a (.a (.v 0) (.v 1)) (.a (.v 2) (.v 3))) (.a (.a (.v 0) (.v 2)) (.a (.v 1) (.v 3))))] rfl qz)
theorem sumN_mul (n : Nat) (a : Int) (f : Nat → Int) : sumN n (fun i => a * f i) = a * sumN n f := by
 induction n with
 | zero => simp [sumN]
 | succ n ih => simp only [sumN_succ, ih, Int.mul_add]
theorem sumN_const0 (n : Nat) : sumN n (fun _ => 0) = 0 := by
 induction n with
 | zero => rfl
 | succ n ih => simp only [sumN_succ, ih]; exact Int.le_antisymm (Int.not_lt.mp fun qz => lin [] [] [(1,.it (.n 0) (.a (.n 0) (.n 0)))] rfl qz) (Int.not_lt.mp fun qz => lin [] [] [(1,.it (.a (.n 0) (.n 0)) (.n 0))] rfl qz)
theorem sumN_neg_some {n : Nat} {f : Nat → Int} (h : sumN n f < 0) : ∃ i, i < n ∧ f i < 0 := by
 induction n with
 | zero => simp [sumN] at h
 | succ n ih =>
  rw [sumN_succ] at h
  by_cases h1 : f n < 0
  ·exact ⟨n, by exact Nat.not_le.mp fun qz => lin [_] [] [(1,.nl (.a (.v 0) (.n 1)) (.v 0))] rfl qz, h1⟩
  ·obtain ⟨i, hi, e⟩ := ih (by exact Int.not_le.mp fun qz => lin [] [_,_] [(1,.il (.n 0) (.v 0)),(1,.il (.n 0) (.v 1)),(1,.it (.a (.v 0) (.v 1)) (.n 0))] rfl qz (Int.not_lt.mp h1) h); exact ⟨i, by exact Nat.not_le.mp fun qz => lin [_,_] [] [(1,.nl (.a (.v 0) (.n 1)) (.v 1)),(1,.nt (.v 1) (.v 0))] rfl qz hi, e⟩
theorem sumN_mono {n : Nat} {f g : Nat → Int} (h : ∀ i, i < n → f i ≤ g i) : sumN n f ≤ sumN n g := by
 induction n with
 | zero => simp [sumN]
 | succ n ih => rw [sumN_succ, sumN_succ]; have := ih fun i hi => h i (by exact Nat.not_le.mp fun qz => lin [_,_] [] [(1,.nl (.a (.v 0) (.n 1)) (.v 1)),(1,.nt (.v 1) (.v 0))] rfl qz hi); have := h n (by exact Nat.not_le.mp fun qz => lin [_] [] [(1,.nl (.a (.v 0) (.n 1)) (.v 0))] rfl qz); omega
theorem sumN_eq_of_le {n : Nat} {f g : Nat → Int} (h : ∀ i, i < n → f i ≤ g i) (e : sumN n g ≤ sumN n f) : ∀ i, i < n → f i = g i := by
 induction n with
 | zero => intro i hi; exact Int.le_antisymm (Int.not_lt.mp fun qz => lin [_] [] [(1,.nt (.v 0) (.n 0))] rfl hi) (Int.not_lt.mp fun qz => lin [_] [] [(1,.nt (.v 0) (.n 0))] rfl hi)
 | succ n ih =>
  rw [sumN_succ, sumN_succ] at e
  have h1 := sumN_mono (n := n) fun i hi => h i (by exact Nat.not_le.mp fun qz => lin [_,_] [] [(1,.nl (.a (.v 0) (.n 1)) (.v 1)),(1,.nt (.v 1) (.v 0))] rfl qz hi)
  have h2 := h n (by exact Nat.not_le.mp fun qz => lin [_] [] [(1,.nl (.a (.v 0) (.n 1)) (.v 0))] rfl qz)
  intro i hi
  by_cases q : i = n
  ·subst q; exact Int.le_antisymm (Int.not_lt.mp fun qz => lin [] [_,_] [(1,.it (.v 0) (.v 1)),(1,.il (.v 1) (.v 0))] rfl qz h2) (Int.not_lt.mp fun qz => lin [] [_,_,_,_] [(1,.it (.v 0) (.v 1)),(1,.il (.v 2) (.v 3)),(1,.il (.a (.v 3) (.v 1)) (.a (.v 2) (.v 0)))] rfl qz h1 e)
  ·exact ih (fun i hi => h i (by exact Nat.not_le.mp fun qz => lin [_,_] [] [(1,.nl (.a (.v 0) (.n 1)) (.v 1)),(1,.nt (.v 1) (.v 0))] rfl qz hi)) (by exact Int.not_lt.mp fun qz => lin [] [_,_,_,_] [(1,.it (.v 0) (.v 1)),(1,.il (.v 2) (.v 3)),(1,.il (.a (.v 1) (.v 3)) (.a (.v 0) (.v 2)))] rfl qz h2 e) i (by omega)
theorem sum_eq_sumN (v : List Int) : v.sum = sumN v.length (fun i => v.getD i 0) := by
 induction v with
 | nil => rfl
 | cons x v ih => rw [List.length_cons, sumN_succ', List.sum_cons, ih]; simp
theorem dot_eq_sumN {e v : List Int} (h : e.length = v.length) : dot e v = sumN v.length (fun i => e.getD i 0 * v.getD i 0) := by
 induction v generalizing e with
 | nil => rw [dot_nil_r]; rfl
 | cons x v ih =>
  cases e with
  | nil => simp at h
  | cons y e => rw [dot_cons, ih (by simpa using h), List.length_cons, sumN_succ']; simp
theorem dot_addR {e a b : List Int} (h : a.length = b.length) : dot e (addR a b) = dot e a + dot e b := by
 induction a generalizing e b with
 | nil => cases b <;> simp [addR, dot_nil_r] at h ⊢
 | cons x a ih =>
  cases b with
  | nil => simp at h
  | cons y b =>
   cases e with
   | nil => simp [dot_nil_l]
   | cons z e =>
    have : addR (x :: a) (y :: b) = (x + y) :: addR a b := by simp [addR]
    rw [this, dot_cons, dot_cons, dot_cons, ih (by simpa using h), Int.mul_add]; exact Int.le_antisymm (Int.not_lt.mp fun qz => lin [] [_,_,_,_] [(1,.it (.a (.a (.v 0) (.v 1)) (.a (.v 2) (.v 3))) (.a (.a (.v 0) (.v 2)) (.a (.v 1) (.v 3))))] rfl qz) (Int.not_lt.mp fun qz => lin [] [_,_,_,_] [(1,.it (.a (.a (.v 0) (.v 1)) (.a (.v 2) (.v 3))) (.a (.a (.v 0) (.v 2)) (.a (.v 1) (.v 3))))] rfl qz)
theorem dot_subR {e a b : List Int} (h : a.length = b.length) : dot e (subR a b) = dot e a - dot e b := by
 induction a generalizing e b with
 | nil => cases b <;> simp [subR, dot_nil_r] at h ⊢
 | cons x a ih =>
  cases b with
  | nil => simp at h
  | cons y b =>
   cases e with
   | nil => simp [dot_nil_l]
   | cons z e =>
    have : subR (x :: a) (y :: b) = (x - y) :: subR a b := by simp [subR]
    rw [this, dot_cons, dot_cons, dot_cons, ih (by simpa using h), Int.mul_sub]; exact Int.le_antisymm (Int.not_lt.mp fun qz => lin [] [_,_,_,_] [(1,.it (.s (.a (.v 0) (.v 1)) (.a (.v 2) (.v 3))) (.a (.s (.v 0) (.v 2)) (.s (.v 1) (.v 3))))] rfl qz) (Int.not_lt.mp fun qz => lin [] [_,_,_,_] [(1,.it (.a (.s (.v 0) (.v 1)) (.s (.v 2) (.v 3))) (.s (.a (.v 0) (.v 2)) (.a (.v 1) (.v 3))))] rfl qz)
theorem sum_addR {a b : List Int} (h : a.length = b.length) : (addR a b).sum = a.sum + b.sum := by
 induction a generalizing b with
 | nil => cases b <;> simp [addR] at h ⊢
 | cons x a ih =>
  cases b with
  | nil => simp at h
  | cons y b =>
   have : addR (x :: a) (y :: b) = (x + y) :: addR a b := by simp [addR]
   rw [this, List.sum_cons, ih (by simpa using h), List.sum_cons, List.sum_cons]; exact Int.le_antisymm (Int.not_lt.mp fun qz => lin [] [_,_,_,_] [(1,.it (.a (.a (.v 0) (.v 1)) (.a (.v 2) (.v 3))) (.a (.a (.v 0) (.v 2)) (.a (.v 1) (.v 3))))] rfl qz) (Int.not_lt.mp fun qz => lin [] [_,_,_,_] [(1,.it (.a (.a (.v 0) (.v 1)) (.a (.v 2) (.v 3))) (.a (.a (.v 0) (.v 2)) (.a (.v 1) (.v 3))))] rfl qz)
theorem sum_subR {a b : List Int} (h : a.length = b.length) : (subR a b).sum = a.sum - b.sum := by
 induction a generalizing b with
 | nil => cases b <;> simp [subR] at h ⊢
 | cons x a ih =>
  cases b with
  | nil => simp at h
  | cons y b =>
   have : subR (x :: a) (y :: b) = (x - y) :: subR a b := by simp [subR]
   rw [this, List.sum_cons, ih (by simpa using h), List.sum_cons, List.sum_cons]; exact Int.le_antisymm (Int.not_lt.mp fun qz => lin [] [_,_,_,_] [(1,.it (.s (.a (.v 0) (.v 1)) (.a (.v 2) (.v 3))) (.a (.s (.v 0) (.v 2)) (.s (.v 1) (.v 3))))] rfl qz) (Int.not_lt.mp fun qz => lin [] [_,_,_,_] [(1,.it (.a (.s (.v 0) (.v 1)) (.s (.v 2) (.v 3))) (.s (.a (.v 0) (.v 2)) (.a (.v 1) (.v 3))))] rfl qz)
theorem sumN_one {n p : Nat} (hp : p < n) (f : Nat → Int) : sumN n (fun i => f i * if i = p then 1 else 0) = f p := by
 induction n with
 | zero => exact Int.le_antisymm (Int.not_lt.mp fun qz => lin [_] [] [(1,.nt (.v 0) (.n 0))] rfl hp) (Int.not_lt.mp fun qz => lin [_] [] [(1,.nt (.v 0) (.n 0))] rfl hp)
 | succ n ih =>
  rw [sumN_succ]
  by_cases q : p = n
  ·subst q
   rw [if_pos rfl, Int.mul_one]
   have : sumN p (fun i => f i * if i = p then 1 else 0) = 0 := by
    exact (sumN_congr fun i hi => by rw [if_neg (by exact fun qz => lin [_,_] [] [(1,.nf (.v 0) (.v 1)),(1,.nt (.v 0) (.v 1))] rfl qz hi), Int.mul_zero]).trans (sumN_const0 p)
   exact Int.le_antisymm (Int.not_lt.mp fun qz => lin [] [_,_] [(1,.it (.v 0) (.a (.v 1) (.v 0))),(1,.ie (.v 1) (.n 0))] rfl qz this) (Int.not_lt.mp fun qz => lin [] [_,_] [(1,.it (.a (.v 0) (.v 1)) (.v 1)),(1,.jf (.v 0) (.n 0))] rfl qz this)
  ·rw [ih (by omega), if_neg (fun h => q h.symm), Int.mul_zero, Int.add_zero]
theorem dot_unit {e : List Int} {n p : Nat} (he : e.length = n) (hp : p < n) : dot e (unitR n p) = e.getD p 0 := by
 rw [dot_eq_sumN (by rw [he, unitR_len]), unitR_len]
 rw [← sumN_one hp (fun i => e.getD i 0)]
 exact sumN_congr fun i hi => by rw [unitR_get n p i hi]
theorem sum_unit {n p : Nat} (hp : p < n) : (unitR n p).sum = 1 := by
 rw [sum_eq_sumN, unitR_len]
 rw [← sumN_one hp (fun _ => (1 : Int))]
 exact sumN_congr fun i hi => by rw [unitR_get n p i hi]; simp
theorem dot_wor {E : List (List Int)} {n : Nat} (hE : ∀ e ∈ E, e.length = n) {d : List Int} (hd : d.length = n) (w : List Int) : dot w (wor E d) = sumN n (fun j => d.getD j 0 * dot w (wor E (unitR n j))) := by
 induction E generalizing w with
 | nil =>
  have : ∀ x : List Int, dot w (wor [] x) = 0 := fun x => dot_nil_r w
  rw [this]
  rw [← sumN_const0 n]
  exact sumN_congr fun i hi => by rw [this, Int.mul_zero]
 | cons e E ih =>
  cases w with
  | nil =>
   rw [dot_nil_l, ← sumN_const0 n]
   exact sumN_congr fun i hi => by rw [dot_nil_l, Int.mul_zero]
  | cons a w =>
   have step : ∀ x, dot (a :: w) (wor (e :: E) x) = a * dot e x + dot w (wor E x) := fun x => dot_cons _ _ _ _
   have he := hE e (.head _)
   rw [step, ih (fun e h => hE e (.tail _ h)), dot_eq_sumN (by rw [he, hd]), hd, ← sumN_mul, ← sumN_add]
   refine sumN_congr fun j hj => ?_
   rw [step, dot_unit he hj, Int.mul_add]
   congr 1
   rw [← Int.mul_assoc, Int.mul_comm a, Int.mul_comm _ (d.getD j 0)]
theorem wor_addR {E : List (List Int)} {a b : List Int} (h : a.length = b.length) : wor E (addR a b) = addR (wor E a) (wor E b) := by
 induction E with
 | nil => rfl
 | cons e E ih =>
  simp only [wor, List.map_cons] at ih ⊢
  rw [ih, dot_addR h]
  simp [addR]
theorem wor_subR {E : List (List Int)} {a b : List Int} (h : a.length = b.length) : wor E (subR a b) = subR (wor E a) (wor E b) := by
 induction E with
 | nil => rfl
 | cons e E ih =>
  simp only [wor, List.map_cons] at ih ⊢
  rw [ih, dot_subR h]
  simp [subR]
theorem wor_len (E : List (List Int)) (v : List Int) : (wor E v).length = E.length := by simp [wor]
theorem sq_nonneg (a : Int) : 0 ≤ a * a := by
 rcases Int.le_total 0 a with h | h
 ·exact Int.mul_nonneg h h
 ·have := Int.mul_nonneg (Int.neg_nonneg_of_nonpos h) (Int.neg_nonneg_of_nonpos h); rwa [Int.neg_mul_neg] at this
theorem dot_self_nonneg (w : List Int) : 0 ≤ dot w w := by
 induction w with
 | nil => exact Int.le_refl _
 | cons a w ih => rw [dot_cons]; have := sq_nonneg a; exact Int.not_lt.mp fun qz => lin [] [_,_] [(1,.it (.a (.v 0) (.v 1)) (.n 0)),(1,.il (.n 0) (.v 0)),(1,.il (.n 0) (.v 1))] rfl qz this ih
theorem dot_self_zero {w : List Int} (h : dot w w ≤ 0) : ∀ x ∈ w, x = 0 := by
 induction w with
 | nil => intro x hx; cases hx
 | cons a w ih =>
  rw [dot_cons] at h
  have h1 := sq_nonneg a
  have h2 := dot_self_nonneg w
  intro x hx
  rcases List.mem_cons.mp hx with rfl | hx
  ·have : x * x = 0 := by exact Int.le_antisymm (Int.not_lt.mp fun qz => lin [] [_,_] [(1,.it (.n 0) (.v 0)),(1,.il (.a (.v 0) (.v 1)) (.n 0)),(1,.il (.n 0) (.v 1))] rfl qz h h2) (Int.not_lt.mp fun qz => lin [] [_] [(1,.it (.v 0) (.n 0)),(1,.il (.n 0) (.v 0))] rfl qz h1)
   rcases Int.mul_eq_zero.mp this with h | h <;> exact h
  ·exact ih (by exact Int.not_lt.mp fun qz => lin [] [_,_] [(1,.it (.n 0) (.v 0)),(1,.il (.n 0) (.v 1)),(1,.il (.a (.v 1) (.v 0)) (.n 0))] rfl qz h1 h) x hx
theorem dot_comm (a b : List Int) : dot a b = dot b a := by
 induction a generalizing b with
 | nil => rw [dot_nil_l, dot_nil_r]
 | cons x a ih =>
  cases b with
  | nil => rw [dot_nil_l, dot_nil_r]
  | cons y b => rw [dot_cons, dot_cons, ih, Int.mul_comm]
structure Row (n : Nat) (v : List Int) : Prop where
 len : v.length = n
 pos : ∀ i, 0 ≤ v.getD i 0
noncomputable def Even (E : List (List Int)) (v : List Int) : Prop := ∀ x ∈ wor E v, x = 0
theorem Row.of {n : Nat} {v : List Int} (h : v.length = n) (p : ∀ x ∈ v, 0 ≤ x) : Row n v := ⟨h, fun i => by
 by_cases q : i < v.length
 ·exact p _ (get_mem q)
 ·rw [List.getD_eq_getElem?_getD, List.getElem?_eq_none (by exact (Nat.not_lt.mp q))]; exact Int.le_refl _⟩
theorem Row.mem {n : Nat} {v : List Int} (r : Row n v) : ∀ x ∈ v, 0 ≤ x := fun x hx => by
 obtain ⟨i, _, e⟩ := mem_get hx; rw [← e]; exact r.pos i
theorem Row.sum {n : Nat} {v : List Int} (r : Row n v) : v.sum = sumN n (fun i => v.getD i 0) := by rw [sum_eq_sumN, r.len]
theorem Row.sum_nonneg {n : Nat} {v : List Int} (r : Row n v) : 0 ≤ v.sum := by
 have h := sumN_mono (n := n) (f := fun _ => 0) fun i _ => r.pos i
 rw [sumN_const0] at h
 rw [r.sum]; exact h
theorem Row.add {n : Nat} {a b : List Int} (x : Row n a) (y : Row n b) : Row n (addR a b) := ⟨addR_len x.len y.len, fun i => by
 rw [addR_get (by rw [x.len, y.len])]; have := x.pos i; have := y.pos i; omega⟩
theorem Row.unit {n p : Nat} : Row n (unitR n p) := .of (unitR_len n p) fun x hx => by
 simp only [unitR, List.mem_map] at hx
 obtain ⟨i, _, rfl⟩ := hx
 split <;> decide
noncomputable def Le (a b : List Int) : Prop := ∀ i, a.getD i 0 ≤ b.getD i 0
theorem Row.inR {n : Nat} {a b : List Int} (x : Row n a) (y : Row n b) : Mine.inR a b = true ↔ Le a b := inR_iff (by rw [x.len, y.len])
theorem Le.refl (a : List Int) : Le a a := fun _ => Int.le_refl _
theorem Le.trans {a b c : List Int} (x : Le a b) (y : Le b c) : Le a c := fun i => Int.le_trans (x i) (y i)
theorem Le.sum {n : Nat} {a b : List Int} (x : Row n a) (y : Row n b) (h : Le a b) : a.sum ≤ b.sum := by rw [x.sum, y.sum]; exact sumN_mono fun i _ => h i
theorem Le.eq {n : Nat} {a b : List Int} (x : Row n a) (y : Row n b) (h : Le a b) (e : b.sum ≤ a.sum) : a = b := by
 rw [x.sum, y.sum] at e
 have := sumN_eq_of_le (fun i _ => h i) e
 exact ext_get (by rw [x.len, y.len]) fun i hi => this i (by rw [← x.len]; exact hi)
theorem Row.sub {n : Nat} {a b : List Int} (x : Row n a) (y : Row n b) (h : Le b a) : Row n (subR a b) := ⟨subR_len x.len y.len, fun i => by
 rw [subR_get (by rw [x.len, y.len])]; have := h i; exact Int.not_lt.mp fun qz => lin [] [_,_] [(1,.it (.s (.v 0) (.v 1)) (.n 0)),(1,.il (.v 1) (.v 0))] rfl qz this⟩
theorem Le.sub {n : Nat} {a b : List Int} (x : Row n a) (y : Row n b) : Le (subR a b) a := fun i => by
 rw [subR_get (by rw [x.len, y.len])]; have := y.pos i; exact Int.not_lt.mp fun qz => lin [] [_,_] [(1,.it (.v 0) (.s (.v 0) (.v 1))),(1,.il (.n 0) (.v 1))] rfl qz this
theorem Even.sub {E : List (List Int)} {a b : List Int} (h : a.length = b.length) (e : wor E a = wor E b) : Even E (subR a b) := fun x hx => by
 rw [wor_subR h, e] at hx
 simp only [subR, List.mem_map] at hx
 obtain ⟨q, hq, rfl⟩ := hx
 have : ∀ (l : List Int) (q : Int × Int), q ∈ l.zip l → q.1 - q.2 = 0 := by
  intro l
  induction l with
  | nil => intro q hq; cases hq
  | cons a l ih =>
   intro q hq
   rw [List.zip_cons_cons] at hq
   rcases List.mem_cons.mp hq with rfl | hq
   ·simp
   ·exact ih q hq
 exact this _ q hq
theorem Even.iff {E : List (List Int)} {v : List Int} : Even E v ↔ ∀ e ∈ E, dot e v = 0 := by
 simp [Even, wor]
theorem not_even {E : List (List Int)} {v : List Int} (h : ¬ Even E v) : 0 < dot (wor E v) (wor E v) := by
 have h1 := dot_self_nonneg (wor E v)
 by_cases h2 : dot (wor E v) (wor E v) ≤ 0
 ·exact absurd (dot_self_zero h2) h
 ·exact (Int.not_le.mp h2)
structure Least (E : List (List Int)) (n : Nat) (s : List Int) : Prop where
 row : Row n s
 even : Even E s
 pos : 0 < s.sum
 least : ∀ g, Row n g → Even E g → 0 < g.sum → Le g s → g = s
theorem least_below {E : List (List Int)} {n : Nat} : ∀ (k : Nat) {g : List Int}, g.sum.toNat ≤ k → Row n g → Even E g → 0 < g.sum → ∃ s, Least E n s ∧ Le s g
 | 0, g, hk, r, e, p => by omega
 | k + 1, g, hk, r, e, p => by
  by_cases h : ∃ g', Row n g' ∧ Even E g' ∧ 0 < g'.sum ∧ Le g' g ∧ g' ≠ g
  ·obtain ⟨g', r', e', p', l, ne⟩ := h
   have hlt : g'.sum < g.sum := by
    have := l.sum r' r
    by_cases q : g.sum ≤ g'.sum
    ·exact absurd (l.eq r' r q) ne
    ·exact (Int.not_le.mp q)
   obtain ⟨s, hs, hl⟩ := least_below k (g := g') (by omega) r' e' p'
   exact ⟨s, hs, hl.trans l⟩
  ·refine ⟨g, ⟨r, e, p, fun g' r' e' p' l => ?_⟩, .refl _⟩
   by_cases q : g' = g
   ·exact q
   ·exact absurd ⟨g', r', e', p', l, q⟩ h
theorem step_to {E : List (List Int)} {n : Nat} (hE : ∀ e ∈ E, e.length = n) {v s : List Int} (rv : Row n v) (rs : Row n s) (es : Even E s) (ne : ¬ Even E v) (l : Le v s) :
  ∃ j, j < n ∧ v.getD j 0 < s.getD j 0 ∧ dot (wor E v) (wor E (unitR n j)) < 0 := by
 have hd : (subR s v).length = n := subR_len rs.len rv.len
 have h1 : dot (wor E v) (wor E (subR s v)) = - dot (wor E v) (wor E v) := by
  rw [wor_subR (by rw [rs.len, rv.len]), dot_subR (by rw [wor_len, wor_len])]
  have : dot (wor E v) (wor E s) = 0 := by
   have hz : ∀ (w z : List Int), (∀ x ∈ z, x = 0) → dot w z = 0 := by
    intro w z
    induction w generalizing z with
    | nil => intro _; rfl
    | cons a w ih =>
     intro h
     cases z with
     | nil => rfl
     | cons b z => rw [dot_cons, ih z fun x hx => h x (.tail _ hx), h b (.head _)]; simp
   exact hz _ _ es
  exact Int.le_antisymm (Int.not_lt.mp fun qz => lin [] [_,_] [(1,.it (.g (.v 0)) (.s (.v 1) (.v 0))),(1,.ie (.v 1) (.n 0))] rfl qz this) (Int.not_lt.mp fun qz => lin [] [_,_] [(1,.it (.s (.v 0) (.v 1)) (.g (.v 1))),(1,.jf (.v 0) (.n 0))] rfl qz this)
 rw [dot_wor hE hd] at h1
 have h2 := not_even ne
 obtain ⟨j, hj, e⟩ := sumN_neg_some (n := n) (f := fun j => (subR s v).getD j 0 * dot (wor E v) (wor E (unitR n j))) (by exact Int.not_le.mp fun qz => lin [] [_,_] [(1,.il (.n 0) (.v 0)),(1,.it (.n 0) (.v 1)),(1,.ie (.v 0) (.g (.v 1)))] rfl qz h2 h1)
 have hs := subR_get (a := s) (b := v) (by rw [rs.len, rv.len]) j
 have hn := l j
 refine ⟨j, hj, ?_, ?_⟩
 ·by_cases q : v.getD j 0 < s.getD j 0
  ·exact q
  ·have : (subR s v).getD j 0 = 0 := by exact Int.le_antisymm (Int.not_lt.mp fun qz => lin [] [_,_,_] [(1,.it (.n 0) (.v 0)),(1,.il (.v 1) (.v 2)),(1,.ie (.v 0) (.s (.v 1) (.v 2)))] rfl qz (Int.not_lt.mp q) hs) (Int.not_lt.mp fun qz => lin [] [_,_,_] [(1,.it (.v 0) (.n 0)),(1,.il (.v 1) (.v 2)),(1,.jf (.v 0) (.s (.v 2) (.v 1)))] rfl qz hn hs)
   rw [this, Int.zero_mul] at e
   exact Int.not_le.mp fun qz => lin [] [] [(1,.it (.n 0) (.n 0))] rfl e
 ·by_cases q : dot (wor E v) (wor E (unitR n j)) < 0
  ·exact q
  ·have : 0 ≤ (subR s v).getD j 0 * dot (wor E v) (wor E (unitR n j)) := Int.mul_nonneg (by exact Int.not_lt.mp fun qz => lin [] [_,_,_] [(1,.it (.v 0) (.n 0)),(1,.il (.v 1) (.v 2)),(1,.jf (.v 0) (.s (.v 2) (.v 1)))] rfl qz hn hs) (by exact (Int.not_lt.mp q))
   exact Int.not_le.mp fun qz => lin [] [_] [(1,.il (.n 0) (.v 0)),(1,.it (.v 0) (.n 0))] rfl this e
end Mine
namespace Mine
noncomputable def isOpen (E : List (List Int)) (r : List Int) : Bool := (wor E r).any (· != 0)
noncomputable def ins (l : List (List Int)) (f : List Int) : List (List Int) := if f ∈ l then l else l ++ [f]
noncomputable def cand (E : List (List Int)) (n : Nat) (once : Bool) (found : List (List Int)) (r : List Int) (p : Nat) : Option (List Int) :=
 if dot (wor E r) (wor E (unitR n p)) < 0 ∧ (once = true → (addR r (unitR n p)).getD (n - 1) 0 < 2) ∧ (found.any fun g => inR g (addR r (unitR n p))) = false then some (addR r (unitR n p)) else none
noncomputable def cands (E : List (List Int)) (n : Nat) (once : Bool) (found rows : List (List Int)) : List (List Int) :=
 rows.flatMap fun r => (List.range n).filterMap fun p => cand E n once found r p
noncomputable def foundN (E : List (List Int)) (found front : List (List Int)) : List (List Int) := found ++ front.filter fun r => !isOpen E r
noncomputable def frontN (E : List (List Int)) (n : Nat) (once : Bool) (found front : List (List Int)) : List (List Int) := (cands E n once (foundN E found front) (front.filter (isOpen E))).foldl ins []
noncomputable def stF (E : List (List Int)) (n : Nat) (once : Bool) : Nat → List (List Int) × List (List Int)
 | 0 => ([], (List.range n).map fun (p : Nat) => unitR n p)
 | k + 1 => (foundN E (stF E n once k).1 (stF E n once k).2, frontN E n once (stF E n once k).1 (stF E n once k).2)
theorem isOpen_iff {E : List (List Int)} {r : List Int} : isOpen E r = true ↔ ¬ Even E r := by
 unfold isOpen Even
 rw [List.any_eq_true]
 constructor
 ·intro ⟨x, hx, e⟩ h
  have := h x hx
  subst this; simp at e
 ·intro h
  apply Classical.byContradiction
  intro h2
  apply h
  intro x hx
  apply Classical.byContradiction
  intro h3
  exact h2 ⟨x, hx, by simpa using h3⟩
theorem isOpen_false {E : List (List Int)} {r : List Int} : isOpen E r = false ↔ Even E r := by
 constructor
 ·intro h; apply Classical.byContradiction; intro h2; rw [isOpen_iff.mpr h2] at h; cases h
 ·intro h; cases e : isOpen E r with
  | false => rfl
  | true => exact absurd h (isOpen_iff.mp e)
theorem ins_mem {l : List (List Int)} {f x : List Int} : x ∈ ins l f ↔ x ∈ l ∨ x = f := by
 unfold ins
 split
 ·constructor
  ·exact .inl
  ·rintro (h | rfl)
   ·exact h
   ·assumption
 ·simp
theorem ins_nodup {l : List (List Int)} {f : List Int} (h : l.Nodup) : (ins l f).Nodup := by
 unfold ins
 split
 ·exact h
 ·rename_i q
  rw [List.nodup_append]
  exact ⟨h, by simp, fun a ha b hb => by simp at hb; subst hb; exact fun e => q (e ▸ ha)⟩
theorem foldl_ins_mem {x : List Int} : ∀ (fs l : List (List Int)), x ∈ fs.foldl ins l ↔ x ∈ l ∨ x ∈ fs
 | [], l => by simp
 | f :: fs, l => by rw [List.foldl_cons, foldl_ins_mem fs, ins_mem]; simp [or_assoc]
theorem foldl_ins_nodup : ∀ (fs l : List (List Int)), l.Nodup → (fs.foldl ins l).Nodup
 | [], l, h => h
 | f :: fs, l, h => by rw [List.foldl_cons]; exact foldl_ins_nodup fs _ (ins_nodup h)
theorem frontN_mem {E : List (List Int)} {n : Nat} {once : Bool} {found front : List (List Int)} {f : List Int} :
  f ∈ frontN E n once found front ↔ ∃ r ∈ front, ¬ Even E r ∧ ∃ p, p < n ∧ f = addR r (unitR n p) ∧ dot (wor E r) (wor E (unitR n p)) < 0 ∧ (once = true → f.getD (n - 1) 0 < 2) ∧ ∀ g ∈ foundN E found front, inR g f = false := by
 unfold frontN
 rw [foldl_ins_mem]
 simp only [cands, List.mem_flatMap, List.mem_filterMap, List.mem_filter, List.mem_range, List.not_mem_nil, false_or]
 constructor
 ·rintro ⟨r, ⟨h1, h2⟩, p, hp, h⟩
  unfold cand at h
  split at h
  ·rename_i c
   cases h
   refine ⟨r, h1, isOpen_iff.mp h2, p, hp, rfl, c.1, c.2.1, fun g hg => ?_⟩
   have := c.2.2
   rw [List.any_eq_false] at this
   simpa using this g hg
  ·cases h
 ·rintro ⟨r, h1, h2, p, hp, rfl, h3, h4, h5⟩
  refine ⟨r, ⟨h1, isOpen_iff.mpr h2⟩, p, hp, ?_⟩
  unfold cand
  have h6 : ((foundN E found front).any fun g => inR g (addR r (unitR n p))) = false := by
   rw [List.any_eq_false]
   intro g hg
   simp [h5 g hg]
  rw [if_pos ⟨h3, h4, h6⟩]
inductive Reach (E : List (List Int)) (n : Nat) (once : Bool) : List (List Int) → List Int → Prop
 | unit {p : Nat} (hp : p < n) : Reach E n once [] (unitR n p)
 | step {R : List (List Int)} {v : List Int} {p : Nat} (x : Reach E n once R v) (ne : ¬ Even E v) (hp : p < n) (h : dot (wor E v) (wor E (unitR n p)) < 0) (ho : once = true → (addR v (unitR n p)).getD (n - 1) 0 < 2) :
   Reach E n once (v :: R) (addR v (unitR n p))
section
variable {E : List (List Int)} {n : Nat} {once : Bool} {R : List (List Int)} {v : List Int}
theorem Reach.row (x : Reach E n once R v) : Row n v := by
 induction x with
 | unit hp => exact Row.unit
 | step x ne hp h ho ih => exact ih.add Row.unit
theorem Reach.last (x : Reach E n once R v) (o : once = true) : v.getD (n - 1) 0 < 2 := by
 cases x with
 | unit hp => rw [unitR_get _ _ _ (by exact Nat.not_le.mp fun qz => lin [_,_] [] [(1,.nl (.v 0) (.v 1)),(1,.ne (.a (.v 1) (.n 1)) (.v 0))] rfl qz (Nat.sub_add_cancel (Nat.not_lt.mp fun qz => lin [_,_] [] [(1,.nt (.v 0) (.n 1)),(1,.nt (.v 1) (.v 0))] rfl qz hp)))]; split <;> decide
 | step x ne hp h ho => exact ho o
theorem le_add_unit {p : Nat} (r : Row n v) : Le v (addR v (unitR n p)) := fun i => by
 rw [addR_get (by rw [r.len, unitR_len])]
 have := (Row.unit (n := n) (p := p)).pos i
 exact Int.not_lt.mp fun qz => lin [] [_,_] [(1,.it (.a (.v 0) (.v 1)) (.v 0)),(1,.il (.n 0) (.v 1))] rfl qz this
theorem sum_add_unit {p : Nat} (r : Row n v) (hp : p < n) : (addR v (unitR n p)).sum = v.sum + 1 := by
 rw [sum_addR (by rw [r.len, unitR_len]), sum_unit hp]
theorem Reach.len (x : Reach E n once R v) : v.sum = R.length + 1 := by
 induction x with
 | unit hp => rw [sum_unit hp]; rfl
 | step x ne hp h ho ih => rw [sum_add_unit x.row hp, ih]; simp
theorem Reach.back (x : Reach E n once R v) : ∀ r ∈ R, Row n r ∧ Le r v ∧ r.sum < v.sum ∧ ¬ Even E r := by
 induction x with
 | unit hp => intro r hr; cases hr
 | step x ne hp h ho ih =>
  intro r hr
  have h1 := sum_add_unit x.row hp
  rcases List.mem_cons.mp hr with rfl | hr
  ·exact ⟨x.row, le_add_unit x.row, by exact Int.not_le.mp fun qz => lin [] [_,_] [(1,.il (.v 0) (.v 1)),(1,.jf (.v 0) (.a (.v 1) (.n 1)))] rfl qz h1, ne⟩
  ·obtain ⟨a, b, c, d⟩ := ih r hr
   exact ⟨a, b.trans (le_add_unit x.row), by exact Int.not_le.mp fun qz => lin [] [_,_,_] [(1,.il (.v 0) (.v 1)),(1,.it (.v 1) (.v 2)),(1,.jf (.v 0) (.a (.v 2) (.n 1)))] rfl qz c h1, d⟩
theorem Reach.chain (x : Reach E n once R v) : R.Pairwise fun a b => Le b a ∧ b.sum < a.sum := by
 induction x with
 | unit hp => exact .nil
 | step x ne hp h ho ih =>
  refine List.Pairwise.cons (fun b hb => ?_) ih
  obtain ⟨_, h1, h2, _⟩ := x.back b hb
  exact ⟨h1, h2⟩
theorem Reach.inv {P : List Int → Prop} (x : Reach E n once R v) (h0 : ∀ p, p < n → P (unitR n p)) (h1 : ∀ R v p, Reach E n once R v → P v → ¬ Even E v → p < n → dot (wor E v) (wor E (unitR n p)) < 0 → (once = true → (addR v (unitR n p)).getD (n - 1) 0 < 2) → P (addR v (unitR n p))) : P v ∧ ∀ r ∈ R, P r := by
 induction x with
 | unit hp => exact ⟨h0 _ hp, fun r hr => by cases hr⟩
 | step x ne hp h ho ih =>
  refine ⟨h1 _ _ _ x ih.1 ne hp h ho, fun r hr => ?_⟩
  rcases List.mem_cons.mp hr with rfl | hr
  ·exact ih.1
  ·exact ih.2 r hr
end
structure Alive (E : List (List Int)) (n : Nat) (once : Bool) (R : List (List Int)) (v : List Int) : Prop where
 reach : Reach E n once R v
 bare : ∀ g, Row n g → Even E g → 0 < g.sum → Le g v → g = v
theorem Alive.nodup {E : List (List Int)} {n : Nat} {once : Bool} {R : List (List Int)} {v : List Int} (x : Alive E n once R v) : (R.map (wor E)).Nodup := by
 have hc := x.reach.chain
 have hb := x.reach.back
 rw [List.Nodup, List.pairwise_map]
 refine List.Pairwise.imp_of_mem (fun {a b} ha hb' hab e => ?_) hc
 obtain ⟨ra, la, sa, _⟩ := hb a ha
 obtain ⟨rb, lb, sb, _⟩ := hb b hb'
 have hl : a.length = b.length := by rw [ra.len, rb.len]
 have h1 := x.bare (subR a b) (ra.sub rb hab.1) (Even.sub hl e) (by rw [sum_subR hl]; exact Int.not_le.mp fun qz => lin [] [_,_] [(1,.il (.s (.v 0) (.v 1)) (.n 0)),(1,.it (.v 1) (.v 0))] rfl qz hab.2) ((Le.sub ra rb).trans la)
 have h2 : (subR a b).sum = v.sum := by rw [h1]
 rw [sum_subR hl] at h2
 have := rb.sum_nonneg
 exact lin [] [_,_,_] [(1,.il (.n 0) (.v 0)),(1,.jf (.s (.v 1) (.v 0)) (.v 2)),(1,.it (.v 1) (.v 2))] rfl this h2 sa
theorem length_le_of_nodup {α : Type} [DecidableEq α] : ∀ {l F : List α}, l.Nodup → (∀ x ∈ l, x ∈ F) → l.length ≤ F.length
 | [], F, _, _ => Nat.zero_le _
 | a :: l, F, nd, h => by
  rw [List.nodup_cons] at nd
  have ha : a ∈ F := h a (.head _)
  have := length_le_of_nodup (l := l) (F := F.erase a) nd.2 fun x hx => by
   have hx' := h x (.tail _ hx)
   exact (List.mem_erase_of_ne (fun e : x = a => nd.1 (e ▸ hx))).mpr hx'
  have hl := List.length_erase_of_mem ha
  have : 0 < F.length := List.length_pos_of_mem ha
  simp only [List.length_cons]
  omega
theorem Alive.level {E : List (List Int)} {n : Nat} {once : Bool} {R : List (List Int)} {v : List Int} {F : List (List Int)} (x : Alive E n once R v) (hF : ∀ r ∈ R, wor E r ∈ F) : v.sum ≤ F.length + 1 := by
 rw [x.reach.len]
 have := length_le_of_nodup x.nodup (F := F) fun y hy => by
  obtain ⟨r, hr, rfl⟩ := List.mem_map.mp hy; exact hF r hr
 rw [List.length_map] at this
 exact Int.not_lt.mp fun qz => lin [_,_] [] [(1,.it (.a (.c (.v 0)) (.n 1)) (.a (.c (.v 1)) (.n 1))),(1,.nl (.v 1) (.v 0))] rfl qz this
structure Inv (E : List (List Int)) (n : Nat) (once : Bool) (k : Nat) (found front : List (List Int)) : Prop where
 nd : front.Nodup
 reach : ∀ v ∈ front, (∃ R, Reach E n once R v) ∧ v.sum = k + 1
 bare : ∀ v ∈ front, ∀ f ∈ found, ¬ Le f v
 least : ∀ f ∈ found, Least E n f ∧ (once = true → f.getD (n - 1) 0 < 2) ∧ f.sum ≤ k
 ndf : found.Nodup
 all : ∀ s, Least E n s → (once = true → s.getD (n - 1) 0 < 2) → (s.sum ≤ k → s ∈ found) ∧ (k + 1 ≤ s.sum → ∃ v ∈ front, Le v s)
section
variable {E : List (List Int)} {n : Nat} {once : Bool} {k : Nat} {found front : List (List Int)}
theorem Inv.only (I : Inv E n once k found front) {v : List Int} (hv : v ∈ front) : ∀ g, Row n g → Even E g → 0 < g.sum → Le g v → g = v := fun g rg eg pg lg => by
 obtain ⟨⟨R, x⟩, hs⟩ := I.reach v hv
 obtain ⟨s, ls, hl⟩ := least_below g.sum.toNat (Nat.le_refl _) rg eg pg
 have hl2 := hl.trans lg
 have ho : once = true → s.getD (n - 1) 0 < 2 := fun o => by have := x.last o; have := hl2 (n - 1); omega
 by_cases q : s.sum ≤ k
 ·exact absurd hl2 (I.bare v hv s ((I.all s ls ho).1 q))
 ·have h1 := Le.eq ls.row x.row hl2 (by exact Int.not_lt.mp fun qz => lin [_] [_,_] [(1,.it (.v 0) (.v 1)),(1,.it (.c (.v 0)) (.v 0)),(1,.ie (.v 1) (.a (.c (.v 0)) (.n 1)))] rfl qz (Int.not_le.mp q) hs)
  subst h1
  exact Le.eq rg x.row lg (hl.sum ls.row rg)
theorem Inv.alive (I : Inv E n once k found front) {v : List Int} (hv : v ∈ front) : ∃ R, Alive E n once R v := by
 obtain ⟨⟨R, x⟩, _⟩ := I.reach v hv
 exact ⟨R, x, I.only hv⟩
theorem Inv.mem_found (I : Inv E n once k found front) {f : List Int} (hf : f ∈ foundN E found front) : Least E n f ∧ (once = true → f.getD (n - 1) 0 < 2) ∧ f.sum ≤ k + 1 := by
 unfold foundN at hf
 rcases List.mem_append.mp hf with h | h
 ·obtain ⟨a, b, c⟩ := I.least f h; exact ⟨a, b, by exact Int.not_lt.mp fun qz => lin [_] [_] [(1,.it (.a (.c (.v 0)) (.n 1)) (.v 0)),(1,.il (.v 0) (.c (.v 0)))] rfl qz c⟩
 ·rw [List.mem_filter] at h
  obtain ⟨⟨R, x⟩, hs⟩ := I.reach f h.1
  have he : Even E f := isOpen_false.mp (by simpa using h.2)
  exact ⟨⟨x.row, he, by exact Int.not_le.mp fun qz => lin [_] [_] [(1,.il (.v 0) (.n 0)),(1,.jf (.v 0) (.a (.c (.v 0)) (.n 1)))] rfl qz hs, I.only h.1⟩, x.last, by exact (Int.le_of_eq hs)⟩
theorem Inv.step (hE : ∀ e ∈ E, e.length = n) (I : Inv E n once k found front) : Inv E n once (k + 1) (foundN E found front) (frontN E n once found front) where
 nd := foldl_ins_nodup _ _ List.nodup_nil
 reach := fun f hf => by
  obtain ⟨r, hr, ne, p, hp, rfl, h1, h2, h3⟩ := frontN_mem.mp hf
  obtain ⟨⟨R, x⟩, hs⟩ := I.reach r hr
  exact ⟨⟨_, .step x ne hp h1 h2⟩, by rw [sum_add_unit x.row hp, hs]; rfl⟩
 bare := fun f hf g hg l => by
  obtain ⟨r, hr, ne, p, hp, rfl, h1, h2, h3⟩ := frontN_mem.mp hf
  obtain ⟨⟨R, x⟩, hs⟩ := I.reach r hr
  have rg := (I.mem_found hg).1.row
  have := (rg.inR (x.row.add Row.unit)).mpr l
  rw [h3 g hg] at this; cases this
 least := fun f hf => by
  obtain ⟨a, b, c⟩ := I.mem_found hf
  exact ⟨a, b, by simpa using c⟩
 ndf := by
  unfold foundN
  rw [List.nodup_append]
  refine ⟨I.ndf, I.nd.filter _, fun a ha b hb e => ?_⟩
  subst e
  have h1 := (I.least a ha).2.2
  have h2 := (I.reach a (List.mem_filter.mp hb).1).2
  exact lin [_] [_] [(1,.jf (.v 0) (.a (.c (.v 0)) (.n 1))),(1,.il (.v 0) (.c (.v 0)))] rfl h2 h1
 all := fun s ls ho => by
  obtain ⟨h1, h2⟩ := I.all s ls ho
  refine ⟨fun hs => ?_, fun hs => ?_⟩
  ·unfold foundN
   rw [List.mem_append]
   by_cases q : s.sum ≤ k
   ·exact .inl (h1 q)
   ·obtain ⟨v, hv, l⟩ := h2 (by exact Int.not_lt.mp fun qz => lin [_] [_] [(1,.it (.v 0) (.a (.c (.v 0)) (.n 1))),(1,.it (.c (.v 0)) (.v 0))] rfl qz (Int.not_le.mp q))
    obtain ⟨⟨R, x⟩, hvs⟩ := I.reach v hv
    have := Le.eq x.row ls.row l (by exact Int.not_lt.mp fun qz => lin [_] [_,_] [(1,.it (.v 0) (.v 1)),(1,.jf (.v 0) (.a (.c (.v 0)) (.n 1))),(1,.il (.v 1) (.c (.a (.v 0) (.n 1))))] rfl qz hvs hs)
    subst this
    exact .inr (List.mem_filter.mpr ⟨hv, by rw [isOpen_false.mpr ls.even]; rfl⟩)
  ·obtain ⟨v, hv, l⟩ := h2 (by exact Int.not_lt.mp fun qz => lin [_] [_] [(1,.it (.v 0) (.a (.c (.v 0)) (.n 1))),(1,.il (.a (.c (.a (.v 0) (.n 1))) (.n 1)) (.v 0))] rfl qz hs)
   obtain ⟨⟨R, x⟩, hvs⟩ := I.reach v hv
   have ne : ¬ Even E v := fun e => by
    have := ls.least v x.row e (by exact Int.not_le.mp fun qz => lin [_] [_] [(1,.il (.v 0) (.n 0)),(1,.jf (.v 0) (.a (.c (.v 0)) (.n 1)))] rfl qz hvs) l
    subst this; exact lin [_] [_] [(1,.il (.a (.c (.a (.v 0) (.n 1))) (.n 1)) (.v 0)),(1,.ie (.v 0) (.a (.c (.v 0)) (.n 1)))] rfl hs hvs
   obtain ⟨j, hj, h3, h4⟩ := step_to hE x.row ls.row ls.even ne l
   have hle : Le (addR v (unitR n j)) s := fun i => by
    rw [addR_get (by rw [x.row.len, unitR_len])]
    by_cases hi : i < n
    ·rw [unitR_get _ _ _ hi]
     split
     ·rename_i e; subst e; exact Int.not_lt.mp fun qz => lin [] [_,_] [(1,.it (.v 0) (.a (.v 1) (.n 1))),(1,.it (.v 1) (.v 0))] rfl qz h3
     ·have := l i; exact Int.not_lt.mp fun qz => lin [] [_,_] [(1,.it (.v 0) (.a (.v 1) (.n 0))),(1,.il (.v 1) (.v 0))] rfl qz this
    ·rw [List.getD_eq_getElem?_getD (l := unitR n j), List.getElem?_eq_none (by rw [unitR_len]; exact (Nat.not_lt.mp hi))]
     have := l i; simp only [Option.getD_none]; exact Int.not_lt.mp fun qz => lin [] [_,_] [(1,.it (.v 0) (.a (.v 1) (.n 0))),(1,.il (.v 1) (.v 0))] rfl qz this
   refine ⟨addR v (unitR n j), frontN_mem.mpr ⟨v, hv, ne, j, hj, rfl, h4, fun o => ?_, fun g hg => ?_⟩, hle⟩
   ·have := hle (n - 1); have := ho o; omega
   ·obtain ⟨a, b, c⟩ := I.mem_found hg
    cases e : inR g (addR v (unitR n j)) with
    | false => rfl
    | true =>
     have l2 := ((a.row.inR (x.row.add Row.unit)).mp e).trans hle
     have := ls.least g a.row a.even a.pos l2
     subst this; omega
theorem Inv.zero : Inv E n once 0 [] ((List.range n).map fun (p : Nat) => unitR n p) where
 nd := by
  rw [List.Nodup, List.pairwise_map]
  refine List.Pairwise.imp_of_mem (fun {a b} ha hb hab e => ?_) (List.pairwise_lt_range (n := n))
  rw [List.mem_range] at ha hb
  have := congrArg (fun l => l.getD a 0) e
  simp only [unitR_get n a a ha, unitR_get n b a ha] at this
  rw [if_pos trivial, if_neg (by exact fun qz => lin [_,_] [] [(1,.nf (.v 0) (.v 1)),(1,.nt (.v 0) (.v 1))] rfl qz hab)] at this
  exact lin [] [] [(1,.ie (.n 1) (.n 0))] rfl this
 reach := fun v hv => by
  obtain ⟨p, hp, rfl⟩ := List.mem_map.mp hv
  rw [List.mem_range] at hp
  exact ⟨⟨[], .unit hp⟩, by rw [sum_unit hp]; rfl⟩
 bare := fun v hv f hf => by cases hf
 least := fun f hf => by cases hf
 ndf := List.nodup_nil
 all := fun s ls ho => by
  refine ⟨fun hs => ?_, fun hs => ?_⟩
  ·have := ls.pos; omega
  ·have hp := ls.pos
   rw [ls.row.sum] at hp
   obtain ⟨i, hi, e⟩ := sumN_neg_some (n := n) (f := fun i => -(s.getD i 0)) (by
    have : sumN n (fun i => -(s.getD i 0)) = - sumN n (fun i => s.getD i 0) := by
     have := sumN_mul n (-1) (fun i => s.getD i 0)
     simpa using this
    exact Int.not_le.mp fun qz => lin [] [_,_] [(1,.il (.n 0) (.v 0)),(1,.ie (.v 0) (.g (.v 1))),(1,.it (.n 0) (.v 1))] rfl qz this hp)
   refine ⟨unitR n i, List.mem_map.mpr ⟨i, List.mem_range.mpr hi, rfl⟩, fun j => ?_⟩
   by_cases hj : j < n
   ·rw [unitR_get _ _ _ hj]
    split
    ·rename_i q; subst q; exact Int.not_lt.mp fun qz => lin [] [_] [(1,.it (.v 0) (.n 1)),(1,.it (.g (.v 0)) (.n 0))] rfl qz e
    ·exact ls.row.pos j
   ·rw [List.getD_eq_getElem?_getD (l := unitR n i), List.getElem?_eq_none (by rw [unitR_len]; exact (Nat.not_lt.mp hj))]
    exact ls.row.pos j
theorem Inv.at (hE : ∀ e ∈ E, e.length = n) : ∀ k, Inv E n once k (stF E n once k).1 (stF E n once k).2
 | 0 => Inv.zero
 | k + 1 => (Inv.at hE k).step hE
theorem Inv.done (I : Inv E n once k found []) : found.Nodup ∧ ∀ s, s ∈ found ↔ Least E n s ∧ (once = true → s.getD (n - 1) 0 < 2) := by
 refine ⟨I.ndf, fun s => ⟨fun h => ⟨(I.least s h).1, (I.least s h).2.1⟩, fun ⟨h1, h2⟩ => ?_⟩⟩
 obtain ⟨a, b⟩ := I.all s h1 h2
 by_cases q : s.sum ≤ k
 ·exact a q
 ·obtain ⟨v, hv, _⟩ := b (by exact Int.not_lt.mp fun qz => lin [_] [_] [(1,.it (.v 0) (.a (.c (.v 0)) (.n 1))),(1,.it (.c (.v 0)) (.v 0))] rfl qz (Int.not_le.mp q)); cases hv
end
end Mine
namespace Mine
noncomputable def boxL : List Nat → List (List Int)
 | [] => [[]]
 | b :: bs => (List.range b).flatMap fun (i : Nat) => (boxL bs).map fun r => (i : Int) :: r
theorem boxL_len : ∀ bs : List Nat, (boxL bs).length = bs.foldr (· * ·) 1
 | [] => rfl
 | b :: bs => by
  rw [boxL, List.length_flatMap]
  simp only [List.length_map, List.foldr_cons]
  rw [boxL_len bs]
  induction b with
  | zero => simp
  | succ b ih => rw [List.range_succ, List.map_append, List.sum_append, ih]; simp [Nat.succ_mul]
theorem boxL_mem : ∀ {bs : List Nat} {v : List Int}, v.length = bs.length → (∀ i, i < bs.length → 0 ≤ v.getD i 0 ∧ v.getD i 0 < bs.getD i 0) → v ∈ boxL bs
 | [], v, hl, _ => by cases v <;> simp [boxL] at hl ⊢
 | b :: bs, v, hl, h => by
  cases v with
  | nil => simp at hl
  | cons x v =>
   rw [boxL, List.mem_flatMap]
   have h0 := h 0 (by simp)
   simp at h0
   refine ⟨x.toNat, List.mem_range.mpr (by omega), List.mem_map.mpr ⟨v, boxL_mem (by simpa using hl) fun i hi => ?_, by rw [Int.toNat_of_nonneg h0.1]⟩⟩
   simpa using h (i + 1) (by simpa using hi)
theorem count_box {l : List (List Int)} {bs : List Nat} (nd : l.Nodup) (h : ∀ v ∈ l, v.length = bs.length + 1 ∧ ∀ i, i < bs.length → 0 ≤ v.getD (i + 1) 0 ∧ v.getD (i + 1) 0 < bs.getD i 0) (inj : ∀ v ∈ l, ∀ u ∈ l, v.tail = u.tail → v = u) : l.length ≤ bs.foldr (· * ·) 1 := by
 rw [← boxL_len, ← List.length_map (f := List.tail)]
 refine length_le_of_nodup ?_ fun x hx => ?_
 ·rw [List.Nodup, List.pairwise_map]
  exact List.Pairwise.imp_of_mem (fun {a b} ha hb hab e => hab (inj a ha b hb e)) nd
 ·obtain ⟨v, hv, rfl⟩ := List.mem_map.mp hx
  obtain ⟨h1, h2⟩ := h v hv
  refine boxL_mem (by rw [List.length_tail, h1]; rfl) fun i hi => ?_
  have := h2 i hi
  cases v with
  | nil => simp at h1
  | cons a v => simpa using this
structure Fits (E : List (List Int)) (n : Nat) (once : Bool) : Prop where
 len : ∀ e ∈ E, e.length = n
 ends : ∃ K, ∀ k, K ≤ k → (stF E n once k).2 = []
 front : ∀ k, (stF E n once k).2.length ≤ 16000000
 found : ∀ k, (stF E n once k).1.length ≤ 16000000
 most : ∀ s, Least E n s → (once = true → s.getD (n - 1) 0 < 2) → s.sum ≤ 100000000
theorem most_of {E : List (List Int)} {n : Nat} {once : Bool} {K : Nat} (hE : ∀ e ∈ E, e.length = n) (hK : ∀ R v, Alive E n once R v → v.sum ≤ K) {s : List Int} (ls : Least E n s) (ho : once = true → s.getD (n - 1) 0 < 2) : s.sum ≤ K := by
 have I := Inv.at (once := once) hE K
 rcases Int.lt_or_le K s.sum with q | q
 ·obtain ⟨v, hv, _⟩ := (I.all s ls ho).2 (by exact Int.not_lt.mp fun qz => lin [_] [_] [(1,.it (.v 0) (.a (.c (.v 0)) (.n 1))),(1,.it (.c (.v 0)) (.v 0))] rfl qz q)
  obtain ⟨R, x⟩ := I.alive hv
  have := hK R v x
  have := (I.reach v hv).2
  omega
 ·exact q
theorem Fits.of {E : List (List Int)} {n : Nat} {once : Bool} {bs : List Nat} {K : Nat} (hE : ∀ e ∈ E, e.length = n) (hn : n = bs.length + 1) (hK : ∀ R v, Alive E n once R v → v.sum ≤ K) (hb : ∀ R v, Alive E n once R v → ∀ i, i < bs.length → v.getD (i + 1) 0 < bs.getD i 0)
  (h : bs.foldr (· * ·) 1 ≤ 16000000) (hK2 : K ≤ 100000000 := by decide) : Fits E n once where
 len := hE
 most := fun s ls ho => Int.le_trans (most_of hE hK ls ho) (Int.ofNat_le.mpr hK2)
 ends := ⟨K, fun k hk => by
  have I := Inv.at (once := once) hE k
  cases e : (stF E n once k).2 with
  | nil => rfl
  | cons v r =>
   have hv : v ∈ (stF E n once k).2 := by rw [e]; exact .head _
   obtain ⟨R, x⟩ := I.alive hv
   have := hK R v x
   have := (I.reach v hv).2
   omega⟩
 front := fun k => by
  have I := Inv.at (once := once) hE k
  refine Nat.le_trans (count_box I.nd (fun v hv => ?_) fun v hv u hu e => ?_) h
  ·obtain ⟨R, x⟩ := I.alive hv
   exact ⟨by rw [x.reach.row.len, hn], fun i hi => ⟨x.reach.row.pos _, hb R v x i hi⟩⟩
  ·obtain ⟨⟨R, x⟩, hs⟩ := I.reach v hv
   obtain ⟨⟨R', x'⟩, hs'⟩ := I.reach u hu
   have h1 := x.row.len
   have h2 := x'.row.len
   cases v with
   | nil => simp at h1; omega
   | cons a v =>
    cases u with
    | nil => simp at h2; omega
    | cons b u =>
     simp only [List.tail_cons] at e
     subst e
     rw [List.sum_cons] at hs hs'
     have : a = b := by exact Int.le_antisymm (Int.not_lt.mp fun qz => lin [_] [_,_,_] [(1,.it (.v 0) (.v 1)),(1,.jf (.a (.v 0) (.v 2)) (.a (.c (.v 0)) (.n 1))),(1,.ie (.a (.v 1) (.v 2)) (.a (.c (.v 0)) (.n 1)))] rfl qz hs' hs) (Int.not_lt.mp fun qz => lin [_] [_,_,_] [(1,.it (.v 0) (.v 1)),(1,.ie (.a (.v 1) (.v 2)) (.a (.c (.v 0)) (.n 1))),(1,.jf (.a (.v 0) (.v 2)) (.a (.c (.v 0)) (.n 1)))] rfl qz hs' hs)
     rw [this]
 found := fun k => by
  have I := Inv.at (once := once) hE k
  have al : ∀ k v, v ∈ (stF E n once k).1 → ∃ R, Alive E n once R v := by
   intro k
   induction k with
   | zero => intro v hv; cases hv
   | succ k ih =>
    intro v hv
    rcases List.mem_append.mp (show v ∈ (stF E n once k).1 ++ _ from hv) with h | h
    ·exact ih v h
    ·exact (Inv.at hE k).alive (List.mem_filter.mp h).1
  refine Nat.le_trans (count_box I.ndf (fun v hv => ?_) fun v hv u hu e => ?_) h
  ·obtain ⟨R, x⟩ := al k v hv
   exact ⟨by rw [x.reach.row.len, hn], fun i hi => ⟨x.reach.row.pos _, hb R v x i hi⟩⟩
  ·have lv := (I.least v hv).1
   have lu := (I.least u hu).1
   have h1 := lv.row.len
   have h2 := lu.row.len
   have key : ∀ a b : List Int, a.length = n → b.length = n → a.tail = b.tail → a.getD 0 0 ≤ b.getD 0 0 → Le a b := by
    intro a b ha hb' e h0 i
    cases a with
    | nil => simp at ha; exact Int.not_lt.mp fun qz => lin [_,_] [] [(1,.nf (.n 0) (.v 0)),(1,.nf (.v 0) (.a (.v 1) (.n 1)))] rfl ha hn
    | cons x a =>
     cases b with
     | nil => simp at hb'; exact Int.not_lt.mp fun qz => lin [_,_] [] [(1,.nf (.n 0) (.v 0)),(1,.nf (.v 0) (.a (.v 1) (.n 1)))] rfl hb' hn
     | cons y b =>
      simp only [List.tail_cons] at e
      subst e
      cases i with
      | zero => simpa using h0
      | succ i => simp
   rcases Int.le_total (v.getD 0 0) (u.getD 0 0) with q | q
   ·exact lu.least v lv.row lv.even lv.pos (key v u h1 h2 e q)
   ·exact (lv.least u lu.row lu.even lu.pos (key u v h2 h1 e.symm q)).symm
theorem get_le_sum {n : Nat} {v : List Int} (r : Row n v) (i : Nat) : v.getD i 0 ≤ v.sum := by
 by_cases hi : i < n
 ·rw [r.sum]
  have h := sumN_mono (n := n) (f := fun j => v.getD i 0 * if j = i then 1 else 0) (g := fun j => v.getD j 0) fun j _ => by
   split
   ·rename_i e; subst e; simp
   ·have := r.pos j; simpa using this
  rw [sumN_one hi (fun _ => v.getD i 0)] at h
  exact h
 ·rw [List.getD_eq_getElem?_getD, List.getElem?_eq_none (by rw [r.len]; exact (Nat.not_lt.mp hi))]
  exact r.sum_nonneg
theorem Fits.level {E : List (List Int)} {n : Nat} {once : Bool} {K : Nat} (hE : ∀ e ∈ E, e.length = n) (hn : 0 < n) (hK : ∀ R v, Alive E n once R v → v.sum ≤ K) (h : (K + 1) ^ (n - 1) ≤ 16000000) (hK2 : K ≤ 100000000 := by decide) : Fits E n once :=
 Fits.of (bs := List.replicate (n - 1) (K + 1)) (K := K) hE (by simp; exact ((Nat.sub_add_cancel (Nat.not_lt.mp fun qz => lin [_] [] [(1,.nt (.v 0) (.n 1)),(1,.nt (.n 0) (.v 0))] rfl qz hn))).symm) hK (fun R v x i hi => by
  have h1 := hK R v x
  have h2 := get_le_sum x.reach.row (i + 1)
  simp only [List.length_replicate] at hi
  simp [List.getD_eq_getElem?_getD, List.getElem?_replicate, hi] at h2 ⊢
  exact Int.not_le.mp fun qz => lin [_] [_,_] [(1,.il (.a (.c (.v 0)) (.n 1)) (.v 0)),(1,.il (.v 0) (.v 1)),(1,.il (.v 1) (.c (.v 0)))] rfl qz h2 h1) (by
  have : ∀ (m b : Nat), (List.replicate m b).foldr (· * ·) 1 = b ^ m := by
   intro m b
   induction m with
   | zero => rfl
   | succ m ih => rw [List.replicate_succ, List.foldr_cons, ih, Nat.pow_succ, Nat.mul_comm]
  rw [this]; exact h) hK2
theorem Fits.none {n : Nat} {once : Bool} (hn : 0 < n) (hn2 : n ≤ 24) : Fits [] n once :=
 Fits.level (K := 1) (by simp) hn (fun R v x => by
  have : R = [] := by
   cases R with
   | nil => rfl
   | cons r R => exact absurd (fun y hy => by cases hy) (x.reach.back r (.head _)).2.2.2
  rw [x.reach.len, this]; decide) (by
  exact Nat.le_trans (Nat.pow_le_pow_right (by decide) (show n - 1 ≤ 23 by exact Nat.not_lt.mp fun qz => lin [_,_] [] [(1,.nt (.n 23) (.v 0)),(1,.nl (.v 1) (.n 24)),(1,.ne (.a (.v 0) (.n 1)) (.v 1))] rfl qz hn2 (Nat.sub_add_cancel (Nat.not_lt.mp fun qz => lin [_] [] [(1,.nt (.v 0) (.n 1)),(1,.nt (.n 0) (.v 0))] rfl qz hn)))) (by decide))
end Mine
namespace Mine
noncomputable abbrev col (E : List (List Int)) (n p : Nat) : List Int := wor E (unitR n p)
theorem wor_step {E : List (List Int)} {n p : Nat} {v : List Int} (r : Row n v) : wor E (addR v (unitR n p)) = addR (wor E v) (col E n p) := wor_addR (by rw [r.len, unitR_len])
theorem dot_scale (a : Int) (e v : List Int) : dot (e.map (a * ·)) v = a * dot e v := by
 induction e generalizing v with
 | nil => simp [dot_nil_l]
 | cons x e ih =>
  cases v with
  | nil => simp [dot_nil_r]
  | cons y v => rw [List.map_cons, dot_cons, dot_cons, ih, Int.mul_add, Int.mul_assoc]
theorem wor_line (as : List Int) (e v : List Int) : wor (as.map fun a => e.map (a * ·)) v = as.map (· * dot e v) := by
 simp [wor, dot_scale, Function.comp_def]
theorem dot_line (as : List Int) (x y : Int) : dot (as.map (· * x)) (as.map (· * y)) = dot as as * (x * y) := by
 induction as with
 | nil => simp [dot_nil_l]
 | cons a as ih =>
  rw [List.map_cons, List.map_cons, dot_cons, dot_cons, ih, Int.add_mul]
  congr 1
  rw [Int.mul_assoc, Int.mul_assoc, ← Int.mul_assoc x a y, Int.mul_comm x a, Int.mul_assoc a x y]
theorem level_line {as e : List Int} {n w : Nat} {once : Bool} (he : e.length = n) (hw : ∀ x ∈ e, -(w : Int) ≤ x ∧ x ≤ w) (R : List (List Int)) (v : List Int) (x : Alive (as.map fun a => e.map (a * ·)) n once R v) : v.sum ≤ (2 * w + 2 : Nat) := by
 have hI := x.reach.inv (P := fun v => -(w : Int) ≤ dot e v ∧ dot e v ≤ w) (fun p hp => by
   rw [dot_unit he hp]; exact hw _ (get_mem (by exact Nat.lt_of_lt_of_le hp (Nat.le_of_eq he.symm)))) fun R v p y hv ne hp hd _ => by
  rw [wor_line, wor_line, dot_line] at hd
  rw [dot_addR (by rw [y.row.len, unitR_len]), dot_unit he hp]
  rw [dot_unit he hp] at hd
  have hp := hw _ (get_mem (a := e) (i := p) (by exact Nat.lt_of_lt_of_le hp (Nat.le_of_eq he.symm)))
  have h0 := dot_self_nonneg as
  generalize dot e v = a at *
  generalize e.getD p 0 = b at *
  have hab : a * b < 0 := by
   by_cases q : a * b < 0
   ·exact q
   ·have := Int.mul_nonneg h0 (show 0 ≤ a * b by exact (Int.not_lt.mp q)); exact Int.not_le.mp fun qz => lin [] [_] [(1,.il (.n 0) (.v 0)),(1,.it (.v 0) (.n 0))] rfl this hd
  rcases Int.lt_trichotomy a 0 with ha | ha | ha
  ·have : 0 < b := by
    by_cases q : 0 < b
    ·exact q
    ·have := Int.mul_nonneg_of_nonpos_of_nonpos (show a ≤ 0 by exact Int.le_of_lt ha) (show b ≤ 0 by exact (Int.not_lt.mp q)); exact Int.not_le.mp fun qz => lin [] [_] [(1,.il (.n 0) (.v 0)),(1,.it (.v 0) (.n 0))] rfl this hab
   exact ⟨Int.not_lt.mp fun qz => lin [_] [_,_] [(1,.it (.a (.v 0) (.v 1)) (.g (.c (.v 0)))),(1,.it (.n 0) (.v 1)),(1,.il (.g (.c (.v 0))) (.v 0))] rfl qz this hv.1, Int.not_lt.mp fun qz => lin [_] [_,_] [(1,.it (.c (.v 0)) (.a (.v 0) (.v 1))),(1,.it (.v 0) (.n 0)),(1,.il (.v 1) (.c (.v 0)))] rfl qz ha hp.2⟩
  ·subst ha; simp at hab
  ·have : b < 0 := by
    by_cases q : b < 0
    ·exact q
    ·have := Int.mul_nonneg (show 0 ≤ a by exact Int.le_of_lt ha) (show 0 ≤ b by exact (Int.not_lt.mp q)); exact Int.not_le.mp fun qz => lin [] [_] [(1,.il (.n 0) (.v 0)),(1,.it (.v 0) (.n 0))] rfl this hab
   exact ⟨Int.not_lt.mp fun qz => lin [_] [_,_] [(1,.it (.a (.v 0) (.v 1)) (.g (.c (.v 0)))),(1,.it (.n 0) (.v 0)),(1,.il (.g (.c (.v 0))) (.v 1))] rfl qz ha hp.1, Int.not_lt.mp fun qz => lin [_] [_,_] [(1,.it (.c (.v 0)) (.a (.v 0) (.v 1))),(1,.it (.v 1) (.n 0)),(1,.il (.v 0) (.c (.v 0)))] rfl qz this hv.2⟩
 have := x.level (F := (List.range (2 * w + 1)).map fun (i : Nat) => as.map (· * ((i : Int) - w))) fun r hr => by
  obtain ⟨h1, h2⟩ := hI.2 r hr
  rw [wor_line]
  exact List.mem_map.mpr ⟨(dot e r + w).toNat, List.mem_range.mpr (by omega), by rw [Int.toNat_of_nonneg (by exact Int.not_lt.mp fun qz => lin [_] [_] [(1,.it (.a (.v 0) (.c (.v 0))) (.n 0)),(1,.il (.g (.c (.v 0))) (.v 0))] rfl qz h1)]; congr 1; funext a; congr 1; exact Int.le_antisymm (Int.not_lt.mp fun qz => lin [_] [_] [(1,.it (.v 0) (.s (.a (.v 0) (.c (.v 0))) (.c (.v 0))))] rfl qz) (Int.not_lt.mp fun qz => lin [_] [_] [(1,.it (.s (.a (.v 0) (.c (.v 0))) (.c (.v 0))) (.v 0))] rfl qz)⟩
 rw [List.length_map, List.length_range] at this
 exact Int.not_lt.mp fun qz => lin [_] [_] [(1,.it (.c (.a (.m 2 (.v 0)) (.n 2))) (.v 0)),(1,.il (.v 0) (.a (.c (.a (.m 2 (.v 0)) (.n 1))) (.n 1)))] rfl qz this
theorem Fits.line {as e : List Int} {n w : Nat} {once : Bool} (he : e.length = n) (hn : 0 < n) (hw : ∀ x ∈ e, -(w : Int) ≤ x ∧ x ≤ w) (h : (2 * w + 3) ^ (n - 1) ≤ 16000000) (hw2 : w ≤ 20 := by decide) : Fits (as.map fun a => e.map (a * ·)) n once :=
 Fits.level (K := 2 * w + 2) (fun f hf => by
  obtain ⟨a, _, rfl⟩ := List.mem_map.mp hf; simpa using he) hn (level_line he hw) h (by exact Nat.not_lt.mp fun qz => lin [_] [] [(1,.nt (.n 100000000) (.a (.m 2 (.v 0)) (.n 2))),(2,.nl (.v 0) (.n 20))] rfl qz hw2)
theorem Fits.one {e : List Int} {n w : Nat} {once : Bool} (he : e.length = n) (hn : 0 < n) (hw : ∀ x ∈ e, -(w : Int) ≤ x ∧ x ≤ w) (h : (2 * w + 3) ^ (n - 1) ≤ 16000000) (hw2 : w ≤ 20 := by decide) : Fits [e] n once := by
 have := Fits.line (as := [1]) (once := once) he hn hw h hw2
 have e1 : ([1] : List Int).map (fun a => e.map (a * ·)) = [e] := by simp
 rw [e1] at this; exact this
theorem level_closed {E : List (List Int)} {n : Nat} {once : Bool} {F : List (List Int)} (G : List Int → Prop) (hG : ∀ w, G w → w ∈ F) (h0 : ∀ p, p < n → G (col E n p)) (hs : ∀ w p, p < n → G w → dot w (col E n p) < 0 → G (addR w (col E n p))) :
  ∀ R v, Alive E n once R v → v.sum ≤ (F.length + 1 : Nat) := fun R v x => by
 have hI := x.reach.inv (P := fun v => G (wor E v)) h0 fun R v p y hv ne hp hd _ => by rw [wor_step y.row]; exact hs _ _ hp hv hd
 have := x.level (F := F) fun r hr => hG _ (hI.2 r hr)
 simpa using this
noncomputable def boxZ (lo : Int) (b : Nat) : Nat → List (List Int)
 | 0 => [[]]
 | m + 1 => (List.range b).flatMap fun (i : Nat) => (boxZ lo b m).map fun r => (lo + i) :: r
theorem boxZ_mem {lo : Int} {b : Nat} : ∀ {v : List Int}, (∀ x ∈ v, lo ≤ x ∧ x < lo + b) → v ∈ boxZ lo b v.length
 | [], _ => by simp [boxZ]
 | x :: v, h => by
  rw [List.length_cons, boxZ, List.mem_flatMap]
  have h0 := h x (.head _)
  exact ⟨(x - lo).toNat, List.mem_range.mpr (by omega), List.mem_map.mpr ⟨v, boxZ_mem fun y hy => h y (.tail _ hy), by rw [Int.toNat_of_nonneg (by exact Int.not_lt.mp fun qz => lin [] [_,_] [(1,.it (.s (.v 0) (.v 1)) (.n 0)),(1,.il (.v 1) (.v 0))] rfl qz h0.1)]; congr 1; exact Int.le_antisymm (Int.not_lt.mp fun qz => lin [] [_,_] [(1,.it (.v 0) (.a (.v 1) (.s (.v 0) (.v 1))))] rfl qz) (Int.not_lt.mp fun qz => lin [] [_,_] [(1,.it (.a (.v 0) (.s (.v 1) (.v 0))) (.v 1))] rfl qz)⟩⟩
theorem col_len (E : List (List Int)) (n p : Nat) : (col E n p).length = E.length := wor_len _ _
theorem col_mem {E : List (List Int)} {n p : Nat} (hE : ∀ e ∈ E, e.length = n) (hp : p < n) {w : Int} (hw : ∀ e ∈ E, ∀ x ∈ e, -w ≤ x ∧ x ≤ w) : ∀ x ∈ col E n p, -w ≤ x ∧ x ≤ w := fun x hx => by
 obtain ⟨e, he, rfl⟩ := List.mem_map.mp hx
 rw [dot_unit (hE e he) hp]
 exact hw e he _ (get_mem (by rw [hE e he]; exact hp))
noncomputable def ball4 (m : Nat) : List (List Int) := (boxZ (-2) 5 m).filter fun w => decide (dot w w ≤ 4)
theorem ball4_step (m : Nat) (hm : m ≤ 3) : ((ball4 m).all fun w => (boxZ (-1) 3 m).all fun c => !decide (dot w c < 0) || decide (dot (addR w c) (addR w c) ≤ 4)) = true := by
 match m, hm with
 | 0, _ => decide +kernel
 | 1, _ => decide +kernel
 | 2, _ => decide +kernel
 | 3, _ => decide +kernel
theorem ball4_len (m : Nat) (hm : m ≤ 3) : (ball4 m).length ≤ 33 := by
 match m, hm with
 | 0, _ => decide +kernel
 | 1, _ => decide +kernel
 | 2, _ => decide +kernel
 | 3, _ => decide +kernel
theorem sq_le_four {a : Int} (h : a * a ≤ 4) : -2 ≤ a ∧ a < 3 := by
 constructor
 ·apply Classical.byContradiction
  intro q
  have h1 := Int.mul_le_mul_of_nonneg_left (show 3 ≤ -a by exact Int.not_lt.mp fun qz => lin [] [_] [(1,.it (.g (.v 0)) (.n 3)),(1,.it (.v 0) (.g (.n 2)))] rfl qz (Int.not_le.mp q)) (show 0 ≤ -a by exact Int.not_lt.mp fun qz => lin [] [_] [(1,.it (.g (.v 0)) (.n 0)),(1,.it (.v 0) (.g (.n 2)))] rfl qz (Int.not_le.mp q))
  rw [Int.neg_mul_neg] at h1
  omega
 ·apply Classical.byContradiction
  intro q
  have h1 := Int.mul_le_mul_of_nonneg_left (show 3 ≤ a by exact (Int.not_lt.mp q)) (show 0 ≤ a by exact Int.le_of_lt (Int.lt_of_lt_of_le (by decide) (Int.not_lt.mp q)))
  omega
theorem mem_sq {w : List Int} : ∀ x ∈ w, x * x ≤ dot w w := by
 induction w with
 | nil => intro x hx; cases hx
 | cons a w ih =>
  intro x hx
  rw [dot_cons]
  have h1 := sq_nonneg a
  have h2 := dot_self_nonneg w
  rcases List.mem_cons.mp hx with rfl | hx
  ·exact Int.not_lt.mp fun qz => lin [] [_,_] [(1,.it (.a (.v 0) (.v 1)) (.v 0)),(1,.il (.n 0) (.v 1))] rfl qz h2
  ·have := ih x hx; exact Int.not_lt.mp fun qz => lin [] [_,_,_] [(1,.it (.a (.v 0) (.v 1)) (.v 2)),(1,.il (.v 2) (.v 1)),(1,.il (.n 0) (.v 0))] rfl qz this h1
theorem mem_ball4 {w : List Int} {m : Nat} (hl : w.length = m) (h : dot w w ≤ 4) : w ∈ ball4 m := by
 subst hl
 refine List.mem_filter.mpr ⟨boxZ_mem fun x hx => ?_, by simpa using h⟩
 have := sq_le_four (a := x) (by have := mem_sq x hx; exact Int.le_trans this h)
 exact ⟨this.1, Int.not_le.mp fun qz => lin [] [_] [(1,.il (.a (.g (.n 2)) (.c (.n 5))) (.v 0)),(1,.it (.v 0) (.n 3))] rfl qz this.2⟩
theorem level_ones {E : List (List Int)} {n : Nat} {once : Bool} (hE : ∀ e ∈ E, e.length = n) (hm : E.length ≤ 3) (hw : ∀ e ∈ E, ∀ x ∈ e, -1 ≤ x ∧ x ≤ 1) : ∀ R v, Alive E n once R v → v.sum ≤ (34 : Nat) := by
 intro R v x
 have hc : ∀ p, p < n → col E n p ∈ boxZ (-1) 3 E.length := fun p hp => by
  have := boxZ_mem (lo := -1) (b := 3) (v := col E n p) fun x hx => by have := col_mem hE hp hw x hx; exact ⟨this.1, Int.not_le.mp fun qz => lin [] [_] [(1,.il (.a (.g (.n 1)) (.c (.n 3))) (.v 0)),(1,.il (.v 0) (.n 1))] rfl qz this.2⟩
  rw [col_len] at this; exact this
 have h := level_closed (E := E) (n := n) (once := once) (F := ball4 E.length) (fun w => w.length = E.length ∧ dot w w ≤ 4) (fun w hw => mem_ball4 hw.1 hw.2) (fun p hp => ⟨col_len E n p, by
   have : ∀ c : List Int, (∀ x ∈ c, -1 ≤ x ∧ x ≤ 1) → dot c c ≤ c.length := by
    intro c
    induction c with
    | nil => intro _; exact Int.le_refl _
    | cons a c ih =>
     intro h
     have h1 := ih fun x hx => h x (.tail _ hx)
     have h2 := h a (.head _)
     rw [dot_cons, List.length_cons]
     have : a = -1 ∨ a = 0 ∨ a = 1 := by omega
     rcases this with rfl | rfl | rfl <;> simp <;> omega
   have := this (col E n p) (col_mem hE hp hw)
   rw [col_len] at this; exact Int.not_lt.mp fun qz => lin [_] [_] [(1,.it (.n 4) (.v 0)),(1,.il (.v 0) (.c (.v 0))),(1,.nl (.v 0) (.n 3))] rfl qz this hm⟩) (fun w p hp hw' hd => ⟨addR_len hw'.1 (col_len E n p), by
   have h1 := List.all_eq_true.mp (ball4_step E.length hm) w (mem_ball4 hw'.1 hw'.2)
   have h2 := List.all_eq_true.mp h1 _ (hc p hp)
   simpa [hd] using h2⟩) R v x
 have := ball4_len E.length hm
 exact Int.not_lt.mp fun qz => lin [_] [_] [(1,.it (.c (.n 34)) (.v 0)),(1,.nl (.v 0) (.n 33)),(1,.il (.v 0) (.c (.a (.v 0) (.n 1))))] rfl qz this h
theorem Fits.ones {E : List (List Int)} {n : Nat} {once : Bool} (hE : ∀ e ∈ E, e.length = n) (hm : E.length ≤ 3) (hw : ∀ e ∈ E, ∀ x ∈ e, -1 ≤ x ∧ x ≤ 1) (hn : 0 < n) (hn5 : n ≤ 5) : Fits E n once :=
 Fits.level hE hn (level_ones hE hm hw) (Nat.le_trans (Nat.pow_le_pow_right (by decide) (show n - 1 ≤ 4 by exact Nat.not_lt.mp fun qz => lin [_,_] [] [(1,.nt (.n 4) (.v 0)),(1,.nl (.v 1) (.n 5)),(1,.ne (.a (.v 0) (.n 1)) (.v 1))] rfl qz hn5 (Nat.sub_add_cancel (Nat.not_lt.mp fun qz => lin [_] [] [(1,.nt (.v 0) (.n 1)),(1,.nt (.n 0) (.v 0))] rfl qz hn)))) (by decide))
end Mine
namespace Mine
theorem dot_col {E : List (List Int)} {n p : Nat} {v : List Int} (hE : ∀ e ∈ E, e.length = n) (r : Row n v) : dot (wor E v) (col E n p) = sumN n (fun j => v.getD j 0 * dot (col E n p) (col E n j)) := by
 rw [dot_comm, dot_wor hE r.len]
theorem no_steps {E : List (List Int)} {n : Nat} {once : Bool} (h : ∀ p, p < n → ∀ j, j < n → 0 ≤ dot (col E n p) (col E n j)) : ∀ R v, Alive E n once R v → R = [] := by
 intro R v x
 have : ∀ {R v}, Reach E n once R v → R = [] := by
  intro R v y
  induction y with
  | unit hp => rfl
  | step y ne hp hd ho ih =>
   subst ih
   cases y with
   | unit hq => exact absurd hd (Int.not_lt.mpr (h _ hq _ hp))
 exact this x.reach
theorem Fits.size1 {E : List (List Int)} {once : Bool} (hE : ∀ e ∈ E, e.length = 1) : Fits E 1 once :=
 Fits.level (K := 1) hE (by decide) (fun R v x => by
  have h := no_steps (fun p hp j hj => by
   obtain rfl : p = 0 := by exact Nat.le_antisymm (Nat.not_lt.mp fun qz => lin [_] [] [(1,.nt (.n 0) (.v 0)),(1,.nt (.v 0) (.n 1))] rfl qz hp) (Nat.not_lt.mp fun qz => lin [_] [] [(1,.nt (.v 0) (.n 0))] rfl qz)
   obtain rfl : j = 0 := by exact Nat.le_antisymm (Nat.not_lt.mp fun qz => lin [_] [] [(1,.nt (.n 0) (.v 0)),(1,.nt (.v 0) (.n 1))] rfl qz hj) (Nat.not_lt.mp fun qz => lin [_] [] [(1,.nt (.v 0) (.n 0))] rfl qz)
   exact dot_self_nonneg _) R v x
  rw [x.reach.len, h]; decide) (by decide)
theorem dot_le {w : Nat} : ∀ {a b : List Int}, a.length = b.length → (∀ x ∈ a, -(w : Int) ≤ x ∧ x ≤ w) → (∀ x ∈ b, -(w : Int) ≤ x ∧ x ≤ w) → -((a.length * (w * w) : Nat) : Int) ≤ dot a b ∧ dot a b ≤ (a.length * (w * w) : Nat)
 | [], [], _, _, _ => by simp [dot_nil_l]
 | [], _ :: _, h, _, _ => by simp at h
 | _ :: _, [], h, _, _ => by simp at h
 | x :: a, y :: b, h, ha, hb => by
  have ih := dot_le (a := a) (b := b) (by simpa using h) (fun z hz => ha z (.tail _ hz)) fun z hz => hb z (.tail _ hz)
  have hx := ha x (.head _)
  have hy := hb y (.head _)
  rw [dot_cons, List.length_cons, Nat.succ_mul]
  have h1 : x.natAbs * y.natAbs ≤ w * w := Nat.mul_le_mul (by omega) (by omega)
  rw [← Int.natAbs_mul] at h1
  omega
theorem dot_zero_r : ∀ (w z : List Int), (∀ x ∈ z, x = 0) → dot w z = 0 := by
 intro w
 induction w with
 | nil => intro z _; rfl
 | cons a w ih =>
  intro z h
  cases z with
  | nil => rfl
  | cons b z => rw [dot_cons, ih z fun x hx => h x (.tail _ hx), h b (.head _)]; simp
theorem le_mul_one {a b : Int} (ha : 0 ≤ a) (hb : 1 ≤ b) : a ≤ b * a := by
 have := Int.mul_le_mul_of_nonneg_right hb ha
 exact Int.not_lt.mp fun qz => lin [] [_,_] [(1,.it (.v 0) (.v 1)),(1,.il (.m 1 (.v 1)) (.v 0))] rfl qz this
theorem mul_le_two {a b c d : Int} (h1 : a ≤ c) (h2 : b ≤ d) (ha : 0 ≤ a) (hd : 0 ≤ d) : a * b ≤ c * d :=
 Int.le_trans (Int.mul_le_mul_of_nonneg_left h2 ha) (Int.mul_le_mul_of_nonneg_right h1 hd)
theorem size2_gram {E : List (List Int)} {once : Bool} (hE : ∀ e ∈ E, e.length = 2) {p q r : Int} (hp : dot (col E 2 0) (col E 2 0) = p) (hq : dot (col E 2 0) (col E 2 1) = -q) (hr : dot (col E 2 1) (col E 2 1) = r) (h0 : 0 < q) {R : List (List Int)} {v : List Int} (x : Reach E 2 once R v) :
  p * v.getD 0 0 - q * v.getD 1 0 ≤ p ∧ r * v.getD 1 0 - q * v.getD 0 0 ≤ r := by
 have hq' : dot (col E 2 1) (col E 2 0) = -q := by rw [dot_comm]; exact hq
 have hp0 : 0 ≤ p := hp ▸ dot_self_nonneg _
 have hr0 : 0 ≤ r := hr ▸ dot_self_nonneg _
 have key : ∀ {v}, Row 2 v → dot (wor E v) (col E 2 0) = p * v.getD 0 0 - q * v.getD 1 0 ∧ dot (wor E v) (col E 2 1) = r * v.getD 1 0 - q * v.getD 0 0 := by
  intro v rv
  rw [dot_col hE rv, dot_col hE rv]
  simp only [sumN_succ, sumN_zero]
  rw [hp, hq, hq', hr]
  refine ⟨?_, ?_⟩
  ·rw [Int.mul_neg, Int.mul_comm p, Int.mul_comm q]; exact Int.le_antisymm (Int.not_lt.mp fun qz => lin [] [_,_] [(1,.it (.s (.v 0) (.v 1)) (.a (.a (.n 0) (.v 0)) (.g (.v 1))))] rfl qz) (Int.not_lt.mp fun qz => lin [] [_,_] [(1,.it (.a (.a (.n 0) (.v 0)) (.g (.v 1))) (.s (.v 0) (.v 1)))] rfl qz)
  ·rw [Int.mul_neg, Int.mul_comm r, Int.mul_comm q]; exact Int.le_antisymm (Int.not_lt.mp fun qz => lin [] [_,_] [(1,.it (.s (.v 0) (.v 1)) (.a (.a (.n 0) (.g (.v 1))) (.v 0)))] rfl qz) (Int.not_lt.mp fun qz => lin [] [_,_] [(1,.it (.a (.a (.n 0) (.g (.v 0))) (.v 1)) (.s (.v 1) (.v 0)))] rfl qz)
 refine (x.inv (P := fun v => p * v.getD 0 0 - q * v.getD 1 0 ≤ p ∧ r * v.getD 1 0 - q * v.getD 0 0 ≤ r) (fun j hj => ?_) fun R v j y hv ne hj hd _ => ?_).1
 ·have : j = 0 ∨ j = 1 := by omega
  rcases this with rfl | rfl
  ·rw [unitR_get 2 0 0 (by decide), unitR_get 2 0 1 (by decide)]; simp; exact Int.not_lt.mp fun qz => lin [] [_,_] [(1,.it (.v 0) (.g (.v 1))),(1,.il (.n 0) (.v 0)),(1,.it (.n 0) (.v 1))] rfl qz hr0 h0
  ·rw [unitR_get 2 1 0 (by decide), unitR_get 2 1 1 (by decide)]; simp; exact Int.not_lt.mp fun qz => lin [] [_,_] [(1,.it (.v 0) (.g (.v 1))),(1,.il (.n 0) (.v 0)),(1,.it (.n 0) (.v 1))] rfl qz hp0 h0
 ·have hl : v.length = (unitR 2 (j : Nat)).length := by rw [y.row.len, unitR_len]
  rw [addR_get hl, addR_get hl]
  obtain ⟨k1, k2⟩ := key y.row
  have : j = 0 ∨ j = 1 := by omega
  rcases this with rfl | rfl
  ·rw [k1] at hd
   rw [unitR_get 2 0 0 (by decide), unitR_get 2 0 1 (by decide)]
   simp only [if_true, Nat.one_ne_zero, if_false, Int.mul_add, Int.mul_one, Int.add_zero]
   exact ⟨Int.not_lt.mp fun qz => lin [] [_,_,_] [(1,.it (.v 0) (.s (.a (.v 1) (.v 0)) (.v 2))),(1,.it (.s (.v 1) (.v 2)) (.n 0))] rfl qz hd, Int.not_lt.mp fun qz => lin [] [_,_,_,_] [(1,.it (.v 0) (.s (.v 1) (.a (.v 2) (.v 3)))),(1,.il (.s (.v 1) (.v 2)) (.v 0)),(1,.it (.n 0) (.v 3))] rfl qz hv.2 h0⟩
  ·rw [k2] at hd
   rw [unitR_get 2 1 0 (by decide), unitR_get 2 1 1 (by decide)]
   simp only [if_true, Nat.zero_ne_one, if_false, Int.mul_add, Int.mul_one, Int.add_zero]
   exact ⟨Int.not_lt.mp fun qz => lin [] [_,_,_,_] [(1,.it (.v 0) (.s (.v 1) (.a (.v 2) (.v 3)))),(1,.il (.s (.v 1) (.v 2)) (.v 0)),(1,.it (.n 0) (.v 3))] rfl qz hv.1 h0, Int.not_lt.mp fun qz => lin [] [_,_,_] [(1,.it (.v 0) (.s (.a (.v 1) (.v 0)) (.v 2))),(1,.it (.s (.v 1) (.v 2)) (.n 0))] rfl qz hd⟩
theorem size2_bound {E : List (List Int)} {once : Bool} (hE : ∀ e ∈ E, e.length = 2) (hm : E.length ≤ 3) (hw : ∀ e ∈ E, ∀ x ∈ e, -20 ≤ x ∧ x ≤ 20) : ∀ R v, Alive E 2 once R v → v.getD 0 0 ≤ 2880000 ∧ v.getD 1 0 ≤ 2880000 := by
 intro R v x
 have hc : ∀ i j, i < 2 → j < 2 → -1200 ≤ dot (col E 2 i) (col E 2 j) ∧ dot (col E 2 i) (col E 2 j) ≤ 1200 := fun i j hi hj => by
  have h1 := dot_le (w := 20) (a := col E 2 i) (b := col E 2 j) (by rw [col_len, col_len]) (col_mem hE hi hw) (col_mem hE hj hw)
  rw [col_len] at h1
  have : E.length * (20 * 20) ≤ 3 * (20 * 20) := Nat.mul_le_mul_right _ hm
  exact ⟨Int.not_lt.mp fun qz => lin [_] [_] [(1,.it (.v 0) (.g (.n 1200))),(1,.nl (.v 0) (.m 3 (.m 20 (.n 20)))),(1,.il (.g (.c (.v 0))) (.v 0))] rfl qz this h1.1, Int.not_lt.mp fun qz => lin [_] [_] [(1,.it (.n 1200) (.v 0)),(1,.nl (.v 0) (.m 3 (.m 20 (.n 20)))),(1,.il (.v 0) (.c (.v 0)))] rfl qz this h1.2⟩
 have hP := hc 0 0 (by decide) (by decide)
 have hQ := hc 0 1 (by decide) (by decide)
 have hR := hc 1 1 (by decide) (by decide)
 have hp0 := dot_self_nonneg (col E 2 0)
 have hr0 := dot_self_nonneg (col E 2 1)
 obtain ⟨p, ep⟩ : ∃ p, dot (col E 2 0) (col E 2 0) = p := ⟨_, rfl⟩
 obtain ⟨q, eq⟩ : ∃ q, dot (col E 2 0) (col E 2 1) = -q := ⟨-dot (col E 2 0) (col E 2 1), by exact Int.le_antisymm (Int.not_lt.mp fun qz => lin [] [_] [(1,.it (.g (.g (.v 0))) (.v 0))] rfl qz) (Int.not_lt.mp fun qz => lin [] [_] [(1,.it (.v 0) (.g (.g (.v 0))))] rfl qz)⟩
 obtain ⟨r, er⟩ : ∃ r, dot (col E 2 1) (col E 2 1) = r := ⟨_, rfl⟩
 rw [ep] at hP hp0; rw [eq] at hQ; rw [er] at hR hr0
 have rv := x.reach.row
 by_cases h0 : 0 < q
 ·obtain ⟨k1, k2⟩ := size2_gram hE ep eq er h0 x.reach
  have hx := rv.pos 0
  have hy := rv.pos 1
  have hs0 := get_le_sum rv 0
  obtain ⟨X, eX⟩ : ∃ X, v.getD 0 0 = X := ⟨_, rfl⟩
  obtain ⟨Y, eY⟩ : ∃ Y, v.getD 1 0 = Y := ⟨_, rfl⟩
  rw [eX, eY] at k1 k2
  rw [eX] at hx ⊢
  rw [eY] at hy ⊢
  have hr1 : 1 ≤ r := by
   by_cases q1 : 1 ≤ r
   ·exact q1
   ·have := dot_zero_r (col E 2 0) (col E 2 1) (dot_self_zero (by rw [er]; exact Int.not_lt.mp fun qz => lin [] [_] [(1,.it (.n 0) (.v 0)),(1,.it (.v 0) (.n 1))] rfl qz (Int.not_le.mp q1))); exact Int.not_lt.mp fun qz => lin [] [_,_] [(1,.jf (.v 0) (.n 0)),(1,.it (.n 0) (.v 1)),(1,.ie (.v 0) (.g (.v 1)))] rfl this h0 eq
  have hp1 : 1 ≤ p := by
   by_cases q1 : 1 ≤ p
   ·exact q1
   ·have := dot_zero_r (col E 2 1) (col E 2 0) (dot_self_zero (by rw [ep]; exact Int.not_lt.mp fun qz => lin [] [_] [(1,.it (.n 0) (.v 0)),(1,.it (.v 0) (.n 1))] rfl qz (Int.not_le.mp q1))); rw [dot_comm] at this; exact Int.not_lt.mp fun qz => lin [] [_,_] [(1,.jf (.v 0) (.n 0)),(1,.it (.n 0) (.v 1)),(1,.ie (.v 0) (.g (.v 1)))] rfl this h0 eq
  by_cases hD : 1 ≤ p * r - q * q
  ·have a1 : (p * r - q * q) * X = r * (p * X - q * Y) + q * (r * Y - q * X) := by grind
   have a2 : (p * r - q * q) * Y = q * (p * X - q * Y) + p * (r * Y - q * X) := by grind
   have b1 := Int.mul_le_mul_of_nonneg_left k1 hr0
   have b2 := Int.mul_le_mul_of_nonneg_left k2 (show 0 ≤ q by exact Int.le_of_lt h0)
   have b3 := Int.mul_le_mul_of_nonneg_left k1 (show 0 ≤ q by exact Int.le_of_lt h0)
   have b4 := Int.mul_le_mul_of_nonneg_left k2 hp0
   have c1 := le_mul_one hx hD
   have c2 := le_mul_one hy hD
   have d1 := mul_le_two (show r ≤ 1200 by exact hR.2) (show p ≤ 1200 by exact hP.2) hr0 (by decide)
   have d2 := mul_le_two (show q ≤ 1200 by exact Int.not_lt.mp fun qz => lin [] [_] [(1,.it (.n 1200) (.v 0)),(1,.il (.g (.n 1200)) (.g (.v 0)))] rfl qz hQ.1) (show r ≤ 1200 by exact hR.2) (by exact Int.le_of_lt h0) (by decide)
   have d3 := mul_le_two (show q ≤ 1200 by exact Int.not_lt.mp fun qz => lin [] [_] [(1,.it (.n 1200) (.v 0)),(1,.il (.g (.n 1200)) (.g (.v 0)))] rfl qz hQ.1) (show p ≤ 1200 by exact hP.2) (by exact Int.le_of_lt h0) (by decide)
   have d4 := mul_le_two (show p ≤ 1200 by exact hP.2) (show r ≤ 1200 by exact hR.2) (by exact hp0) (by decide)
   exact ⟨Int.not_lt.mp fun qz => lin [] [_,_,_,_,_,_] [(1,.it (.n 2880000) (.v 0)),(1,.il (.v 1) (.m 1200 (.n 1200))),(1,.il (.v 2) (.m 1200 (.n 1200))),(1,.il (.v 0) (.v 3)),(1,.il (.v 4) (.v 1)),(1,.il (.v 5) (.v 2)),(1,.ie (.v 3) (.a (.v 5) (.v 4)))] rfl qz d2 d1 c1 b2 b1 a1, Int.not_lt.mp fun qz => lin [] [_,_,_,_,_,_] [(1,.it (.n 2880000) (.v 0)),(1,.il (.v 1) (.m 1200 (.n 1200))),(1,.il (.v 2) (.m 1200 (.n 1200))),(1,.il (.v 0) (.v 3)),(1,.il (.v 4) (.v 1)),(1,.il (.v 5) (.v 2)),(1,.ie (.v 3) (.a (.v 5) (.v 4)))] rfl qz d4 d3 c2 b4 b3 a2⟩
  ·have ru : Row 2 [q, p] := .of rfl fun z hz => by
    simp at hz; rcases hz with rfl | rfl <;> omega
   have eu : Even E [q, p] := by
    refine dot_self_zero ?_
    have h1 : ∀ w, dot w (wor E [q, p]) = q * dot w (col E 2 0) + p * dot w (col E 2 1) := fun w => by
     rw [dot_wor hE (d := [q, p]) rfl]
     simp only [sumN_succ, sumN_zero]
     simp
     rfl
    rw [h1, dot_comm _ (col E 2 0), dot_comm _ (col E 2 1), h1, h1, ep, er, eq, dot_comm (col E 2 1), eq]
    have : q * (q * p + p * -q) + p * (q * -q + p * r) = p * (p * r - q * q) := by grind
    rw [this]
    exact Int.mul_nonpos_of_nonneg_of_nonpos hp0 (by exact Int.not_lt.mp fun qz => lin [] [_,_] [(1,.it (.n 0) (.s (.v 0) (.v 1))),(1,.it (.s (.v 0) (.v 1)) (.n 1))] rfl qz (Int.not_le.mp hD))
   have hb := x.bare [q, p] ru eu (by simp; exact Int.not_le.mp fun qz => lin [] [_,_] [(1,.il (.a (.v 0) (.v 1)) (.n 0)),(1,.il (.n 1) (.v 1)),(1,.it (.n 0) (.v 0))] rfl qz hp1 h0)
   by_cases hX : X < q
   ·have b1 := mul_le_two (show q ≤ 1200 by exact Int.not_lt.mp fun qz => lin [] [_] [(1,.it (.n 1200) (.v 0)),(1,.il (.g (.n 1200)) (.g (.v 0)))] rfl qz hQ.1) (show X ≤ 1200 by exact Int.not_lt.mp fun qz => lin [] [_,_] [(1,.it (.n 1200) (.v 0)),(1,.it (.v 0) (.v 1)),(1,.il (.g (.n 1200)) (.g (.v 1)))] rfl qz hX hQ.1) (by exact Int.le_of_lt h0) (by decide)
    have c2 := le_mul_one hy hr1
    exact ⟨Int.not_lt.mp fun qz => lin [] [_,_] [(1,.it (.n 2880000) (.v 0)),(1,.it (.v 0) (.v 1)),(1,.il (.g (.n 1200)) (.g (.v 1)))] rfl qz hX hQ.1, Int.not_lt.mp fun qz => lin [] [_,_,_,_] [(1,.it (.n 2880000) (.v 0)),(1,.il (.v 0) (.v 1)),(1,.il (.v 2) (.m 1200 (.n 1200))),(1,.il (.s (.v 1) (.v 2)) (.v 3)),(1,.il (.v 3) (.n 1200))] rfl qz c2 b1 k2 hR.2⟩
   ·by_cases hY : Y < p
    ·have b1 := Int.mul_le_mul_of_nonneg_left (show Y ≤ p by exact Int.le_of_lt hY) (show 0 ≤ q by exact Int.le_of_lt h0)
     have b2 : p * X ≤ p * (1 + q) := by rw [Int.mul_add, Int.mul_one, Int.mul_comm p q]; exact Int.not_lt.mp fun qz => lin [] [_,_,_,_] [(1,.it (.a (.v 0) (.v 1)) (.v 2)),(1,.il (.v 3) (.v 1)),(1,.il (.s (.v 2) (.v 3)) (.v 0))] rfl qz b1 k1
     have := Int.le_of_mul_le_mul_left b2 (by exact Int.lt_of_le_of_lt hy hY)
     exact ⟨Int.not_lt.mp fun qz => lin [] [_,_] [(1,.it (.n 2880000) (.v 0)),(1,.il (.v 0) (.a (.n 1) (.v 1))),(1,.il (.g (.n 1200)) (.g (.v 1)))] rfl qz this hQ.1, Int.le_of_lt (Int.lt_trans (Int.lt_of_lt_of_le hY hP.2) (by decide))⟩
    ·have := hb fun i => by
      match i with
      | 0 => rw [eX]; simp; exact (Int.not_lt.mp hX)
      | 1 => rw [eY]; simp; exact (Int.not_lt.mp hY)
      | i + 2 => have := rv.pos (i + 2); simpa using this
     rw [← this] at eX eY
     simp at eX eY
     exact ⟨Int.not_lt.mp fun qz => lin [] [_,_] [(1,.it (.n 2880000) (.v 0)),(1,.jf (.v 1) (.v 0)),(1,.il (.g (.n 1200)) (.g (.v 1)))] rfl qz eX hQ.1, Int.le_of_lt (Int.lt_of_le_of_lt (Int.le_trans (Int.le_of_eq eY.symm) hP.2) (by decide))⟩
 ·have h := no_steps (fun i hi j hj => by
   have : i = 0 ∨ i = 1 := by omega
   have : j = 0 ∨ j = 1 := by omega
   rcases ‹i = 0 ∨ i = 1› with rfl | rfl <;> rcases ‹j = 0 ∨ j = 1› with rfl | rfl
   ·rw [ep]; exact hp0
   ·rw [eq]; exact Int.not_lt.mp fun qz => lin [] [_] [(1,.it (.g (.v 0)) (.n 0)),(1,.il (.v 0) (.n 0))] rfl qz (Int.not_lt.mp h0)
   ·rw [dot_comm, eq]; exact Int.not_lt.mp fun qz => lin [] [_] [(1,.it (.g (.v 0)) (.n 0)),(1,.il (.v 0) (.n 0))] rfl qz (Int.not_lt.mp h0)
   ·rw [er]; exact hr0) R v x
  have h1 := x.reach.len
  rw [h] at h1
  have := get_le_sum rv 0
  have := get_le_sum rv 1
  simp at h1
  omega
theorem Fits.size2 {E : List (List Int)} {once : Bool} (hE : ∀ e ∈ E, e.length = 2) (hm : E.length ≤ 3) (hw : ∀ e ∈ E, ∀ x ∈ e, -20 ≤ x ∧ x ≤ 20) : Fits E 2 once :=
 Fits.of (bs := [2880001]) (K := 5760000) hE rfl (fun R v x => by
  have h := size2_bound hE hm hw R v x
  have hs := x.reach.row.sum
  simp only [sumN_succ, sumN_zero] at hs
  exact Int.not_lt.mp fun qz => lin [] [_,_,_] [(1,.it (.c (.n 5760000)) (.v 0)),(1,.ie (.v 0) (.a (.a (.n 0) (.v 1)) (.v 2))),(1,.il (.v 1) (.n 2880000)),(1,.il (.v 2) (.n 2880000))] rfl qz hs h.1 h.2) (fun R v x i hi => by
  have h := size2_bound hE hm hw R v x
  simp at hi; subst hi
  simp at h ⊢
  exact Int.lt_of_le_of_lt h.2 (by decide)) (by decide)
end Mine
namespace Mine
theorem Row.three {v : List Int} (r : Row 3 v) : ∃ x y z, v = [x, y, z] ∧ 0 ≤ x ∧ 0 ≤ y ∧ 0 ≤ z := by
 have h := r.len
 match v, h with
 | [x, y, z], _ => exact ⟨x, y, z, rfl, by simpa using r.pos 0, by simpa using r.pos 1, by simpa using r.pos 2⟩
theorem two_cases {x : Int} (h : -2 ≤ x ∧ x ≤ 2) : x = -2 ∨ x = -1 ∨ x = 0 ∨ x = 1 ∨ x = 2 := by omega
theorem sq_le {a w : Int} (h : -w ≤ a ∧ a ≤ w) : a * a ≤ w * w := by
 have h1 : 0 ≤ (w - a) * (w + a) := Int.mul_nonneg (by exact Int.not_lt.mp fun qz => lin [] [_,_] [(1,.it (.s (.v 0) (.v 1)) (.n 0)),(1,.il (.v 1) (.v 0))] rfl qz h.2) (by exact Int.not_lt.mp fun qz => lin [] [_,_] [(1,.it (.a (.v 0) (.v 1)) (.n 0)),(1,.il (.g (.v 0)) (.v 1))] rfl qz h.1)
 have : (w - a) * (w + a) = w * w - a * a := by grind
 exact Int.not_lt.mp fun qz => lin [] [_,_,_] [(1,.it (.v 0) (.v 1)),(1,.ie (.v 2) (.s (.v 0) (.v 1))),(1,.il (.n 0) (.v 2))] rfl qz this h1
theorem sq3 {x : Int} (h : -2 ≤ x ∧ x ≤ 2) : x * x ≤ 1 ∨ x = 2 ∨ x = -2 := by
 rcases two_cases h with rfl | rfl | rfl | rfl | rfl <;> simp
theorem grow2 {a b c x y z : Int} (ha : -2 ≤ a ∧ a ≤ 2) (hb : -2 ≤ b ∧ b ≤ 2) (hc : -2 ≤ c ∧ c ≤ 2) (h : x * a + (y * b + (z * c + 0)) < 0) : 2 * (x * a + (y * b + (z * c + 0))) + (a * a + (b * b + (c * c + 0))) ≤ 8 := by
 have qa := sq_le ha
 have qb := sq_le hb
 have qc := sq_le hc
 rcases sq3 ha with h1 | h1
 ·exact Int.not_lt.mp fun qz => lin [] [_,_,_,_,_,_] [(1,.it (.n 8) (.a (.m 2 (.a (.v 0) (.a (.v 1) (.a (.v 2) (.n 0))))) (.a (.v 3) (.a (.v 4) (.a (.v 5) (.n 0)))))),(1,.il (.v 3) (.n 1)),(1,.il (.v 5) (.m 2 (.n 2))),(1,.il (.v 4) (.m 2 (.n 2))),(2,.it (.a (.v 0) (.a (.v 1) (.a (.v 2) (.n 0)))) (.n 0))] rfl qz h1 qc qb h
 rcases sq3 hb with h2 | h2
 ·exact Int.not_lt.mp fun qz => lin [] [_,_,_,_,_,_] [(1,.it (.n 8) (.a (.m 2 (.a (.v 0) (.a (.v 1) (.a (.v 2) (.n 0))))) (.a (.v 3) (.a (.v 4) (.a (.v 5) (.n 0)))))),(1,.il (.v 4) (.n 1)),(1,.il (.v 5) (.m 2 (.n 2))),(1,.il (.v 3) (.m 2 (.n 2))),(2,.it (.a (.v 0) (.a (.v 1) (.a (.v 2) (.n 0)))) (.n 0))] rfl qz h2 qc qa h
 rcases sq3 hc with h3 | h3
 ·exact Int.not_lt.mp fun qz => lin [] [_,_,_,_,_,_] [(1,.it (.n 8) (.a (.m 2 (.a (.v 0) (.a (.v 1) (.a (.v 2) (.n 0))))) (.a (.v 3) (.a (.v 4) (.a (.v 5) (.n 0)))))),(1,.il (.v 5) (.n 1)),(1,.il (.v 4) (.m 2 (.n 2))),(1,.il (.v 3) (.m 2 (.n 2))),(2,.it (.a (.v 0) (.a (.v 1) (.a (.v 2) (.n 0)))) (.n 0))] rfl qz h3 qb qa h
 clear qa qb qc ha hb hc
 rcases h1 with rfl | rfl <;> rcases h2 with rfl | rfl <;> rcases h3 with rfl | rfl <;> omega
theorem dotL3 : ∀ {w c : List Int}, w.length = c.length → c.length ≤ 3 → dot w c = w.getD 0 0 * c.getD 0 0 + (w.getD 1 0 * c.getD 1 0 + (w.getD 2 0 * c.getD 2 0 + 0))
 | [], [], _, _ => rfl
 | [x], [a], _, _ => rfl
 | [x, y], [a, b], _, _ => rfl
 | [x, y, z], [a, b, c], _, _ => rfl
 | [], _ :: _, h, _ => by cases h
 | _ :: _, [], h, _ => by cases h
 | [_], _ :: _ :: _, h, _ => by cases h
 | _ :: _ :: _, [_], h, _ => by cases h
 | [_, _], _ :: _ :: _ :: _, h, _ => by cases h
 | _ :: _ :: _ :: _, [_, _], h, _ => by cases h
 | _, _ :: _ :: _ :: _ :: _, _, h => absurd h (by simp)
 | _ :: _ :: _ :: _ :: _, [_, _, _], h, _ => by cases h
theorem grow_list {w c : List Int} (hl : w.length = c.length) (h3 : c.length ≤ 3) (hc : ∀ x ∈ c, -2 ≤ x ∧ x ≤ 2) (h : dot w c < 0) : 2 * dot w c + dot c c ≤ 8 := by
 have b : ∀ i, -2 ≤ c.getD i 0 ∧ c.getD i 0 ≤ 2 := fun i => by
  by_cases q : i < c.length
  ·exact hc _ (get_mem q)
  ·rw [List.getD_eq_getElem?_getD, List.getElem?_eq_none (by exact (Nat.not_lt.mp q))]; decide
 rw [dotL3 hl h3] at h ⊢
 rw [dotL3 rfl h3]
 exact grow2 (b 0) (b 1) (b 2) h
theorem norm_add {w c : List Int} (hl : w.length = c.length) : dot (addR w c) (addR w c) = dot w w + (2 * dot w c + dot c c) := by
 rw [dot_addR hl, dot_comm (addR w c) w, dot_comm (addR w c) c, dot_addR hl, dot_addR hl, dot_comm c w]; exact Int.le_antisymm (Int.not_lt.mp fun qz => lin [] [_,_,_] [(1,.it (.a (.v 0) (.a (.m 2 (.v 1)) (.v 2))) (.a (.a (.v 0) (.v 1)) (.a (.v 1) (.v 2))))] rfl qz) (Int.not_lt.mp fun qz => lin [] [_,_,_] [(1,.it (.a (.a (.v 0) (.v 1)) (.a (.v 1) (.v 2))) (.a (.v 0) (.a (.m 2 (.v 1)) (.v 2))))] rfl qz)
theorem norm_reach {E : List (List Int)} {n : Nat} {once : Bool} (hE : ∀ e ∈ E, e.length = n) (hm : E.length ≤ 3) (hw : ∀ e ∈ E, ∀ x ∈ e, -2 ≤ x ∧ x ≤ 2) {R : List (List Int)} {v : List Int} (x : Reach E n once R v) : dot (wor E v) (wor E v) ≤ 8 * v.sum + 4 := by
 refine (x.inv (P := fun v => dot (wor E v) (wor E v) ≤ 8 * v.sum + 4) (fun p hp => ?_) fun R v p y hv ne hp hd _ => ?_).1
 ·have h1 := dot_le (w := 2) (a := col E n p) (b := col E n p) rfl (col_mem hE hp hw) (col_mem hE hp hw)
  rw [col_len] at h1
  rw [sum_unit hp]
  have : E.length * (2 * 2) ≤ 3 * (2 * 2) := Nat.mul_le_mul_right _ hm
  show dot (col E n p) (col E n p) ≤ _
  exact Int.not_lt.mp fun qz => lin [_] [_] [(1,.it (.a (.m 8 (.n 1)) (.n 4)) (.v 0)),(1,.nl (.v 0) (.m 3 (.m 2 (.n 2)))),(1,.il (.v 0) (.c (.v 0)))] rfl qz this h1.2
 ·have hl : (wor E v).length = (col E n p).length := by rw [wor_len, col_len]
  rw [wor_step y.row, norm_add hl, sum_add_unit y.row hp]
  have := grow_list hl (by rw [col_len]; exact hm) (col_mem hE hp hw) hd
  exact Int.not_lt.mp fun qz => lin [] [_,_,_,_] [(1,.it (.a (.m 8 (.a (.v 0) (.n 1))) (.n 4)) (.a (.v 1) (.a (.m 2 (.v 2)) (.v 3)))),(1,.il (.a (.m 2 (.v 2)) (.v 3)) (.n 8)),(1,.il (.v 1) (.a (.m 8 (.v 0)) (.n 4)))] rfl qz this hv
structure Three (E : List (List Int)) (w : Int) (a1 b1 c1 a2 b2 c2 a3 b3 c3 : Int) : Prop where
 norm : ∀ x y z, dot (wor E [x, y, z]) (wor E [x, y, z]) = (a1 * x + b1 * y + c1 * z) * (a1 * x + b1 * y + c1 * z) + (a2 * x + b2 * y + c2 * z) * (a2 * x + b2 * y + c2 * z) + (a3 * x + b3 * y + c3 * z) * (a3 * x + b3 * y + c3 * z)
 mem : ∀ e ∈ E, e = [a1, b1, c1] ∨ e = [a2, b2, c2] ∨ e = [a3, b3, c3]
 s1 : (-w ≤ a1 ∧ a1 ≤ w) ∧ (-w ≤ b1 ∧ b1 ≤ w) ∧ (-w ≤ c1 ∧ c1 ≤ w)
 s2 : (-w ≤ a2 ∧ a2 ≤ w) ∧ (-w ≤ b2 ∧ b2 ≤ w) ∧ (-w ≤ c2 ∧ c2 ≤ w)
 s3 : (-w ≤ a3 ∧ a3 ≤ w) ∧ (-w ≤ b3 ∧ b3 ≤ w) ∧ (-w ≤ c3 ∧ c3 ≤ w)
theorem sq_pad {v : List Int} : ∀ {E : List (List Int)}, E.length ≤ 3 → dot (wor E v) (wor E v) = dot (E.getD 0 []) v * dot (E.getD 0 []) v + dot (E.getD 1 []) v * dot (E.getD 1 []) v + dot (E.getD 2 []) v * dot (E.getD 2 []) v
 | [], _ => rfl
 | [e], _ => (dot_cons (dot e v) (dot e v) [] []).trans (Int.add_zero _).symm
 | [e, f], _ => by
  show dot [dot e v, dot f v] [dot e v, dot f v] = dot e v * dot e v + dot f v * dot f v + 0 * 0
  rw [dot_cons, dot_cons, dot_nil_l]; exact Int.le_antisymm (Int.not_lt.mp fun qz => lin [] [_,_] [(1,.it (.a (.a (.v 0) (.v 1)) (.m 0 (.n 0))) (.a (.v 0) (.a (.v 1) (.n 0))))] rfl qz) (Int.not_lt.mp fun qz => lin [] [_,_] [(1,.it (.a (.v 0) (.a (.v 1) (.n 0))) (.a (.a (.v 0) (.v 1)) (.m 0 (.n 0))))] rfl qz)
 | [e, f, g], _ => by
  show dot [dot e v, dot f v, dot g v] [dot e v, dot f v, dot g v] = dot e v * dot e v + dot f v * dot f v + dot g v * dot g v
  rw [dot_cons, dot_cons, dot_cons, dot_nil_l]; exact Int.le_antisymm (Int.not_lt.mp fun qz => lin [] [_,_,_] [(1,.it (.a (.a (.v 0) (.v 1)) (.v 2)) (.a (.v 0) (.a (.v 1) (.a (.v 2) (.n 0)))))] rfl qz) (Int.not_lt.mp fun qz => lin [] [_,_,_] [(1,.it (.a (.v 0) (.a (.v 1) (.a (.v 2) (.n 0)))) (.a (.a (.v 0) (.v 1)) (.v 2)))] rfl qz)
 | _ :: _ :: _ :: _ :: _, h => absurd h (by simp)
theorem dot3 {x y z : Int} : ∀ {e : List Int}, e.length = 3 ∨ e = [] → dot e [x, y, z] = e.getD 0 0 * x + e.getD 1 0 * y + e.getD 2 0 * z
 | [], _ => by simp [dot]
 | [a, b, c], _ => by
  rw [dot_cons, dot_cons, dot_cons, dot_nil_l]
  show a * x + (b * y + (c * z + 0)) = a * x + b * y + c * z
  exact Int.le_antisymm (Int.not_lt.mp fun qz => lin [] [_,_,_] [(1,.it (.a (.a (.v 0) (.v 1)) (.v 2)) (.a (.v 0) (.a (.v 1) (.a (.v 2) (.n 0)))))] rfl qz) (Int.not_lt.mp fun qz => lin [] [_,_,_] [(1,.it (.a (.v 0) (.a (.v 1) (.a (.v 2) (.n 0)))) (.a (.a (.v 0) (.v 1)) (.v 2)))] rfl qz)
 | [_], h => (h.elim (fun h => by cases h) fun h => by cases h)
 | [_, _], h => (h.elim (fun h => by cases h) fun h => by cases h)
 | _ :: _ :: _ :: _ :: _, h => (h.elim (fun h => by simp at h) fun h => by cases h)
theorem three_get {e : List Int} (h : e.length = 3) : e = [e.getD 0 0, e.getD 1 0, e.getD 2 0] := by
 match e, h with
 | [a, b, c], _ => rfl
theorem three_of {E : List (List Int)} {w : Int} (hw0 : 0 ≤ w) (hE : ∀ e ∈ E, e.length = 3) (hm : E.length ≤ 3) (hw : ∀ e ∈ E, ∀ x ∈ e, -w ≤ x ∧ x ≤ w) : ∃ a1 b1 c1 a2 b2 c2 a3 b3 c3, Three E w a1 b1 c1 a2 b2 c2 a3 b3 c3 := by
 have g : ∀ k, E.getD k [] ∈ E ∨ E.getD k [] = [] := fun k => by
  by_cases q : k < E.length
  ·exact .inl (by rw [List.getD_eq_getElem?_getD, List.getElem?_eq_getElem q]; exact List.getElem_mem q)
  ·exact .inr (by rw [List.getD_eq_getElem?_getD, List.getElem?_eq_none (by exact (Nat.not_lt.mp q))]; rfl)
 have l3 : ∀ k, (E.getD k []).length = 3 ∨ E.getD k [] = [] := fun k => (g k).imp (hE _) id
 have b : ∀ k i, -w ≤ (E.getD k []).getD i 0 ∧ (E.getD k []).getD i 0 ≤ w := fun k i => by
  have z : -w ≤ (0 : Int) ∧ (0 : Int) ≤ w := ⟨by exact Int.not_lt.mp fun qz => lin [] [_] [(1,.it (.n 0) (.g (.v 0))),(1,.il (.n 0) (.v 0))] rfl qz hw0, hw0⟩
  rcases g k with h | h
  ·by_cases q : i < (E.getD k []).length
   ·exact hw _ h _ (get_mem q)
   ·rw [List.getD_eq_getElem?_getD, List.getElem?_eq_none (by exact (Nat.not_lt.mp q))]; exact z
  ·rw [h]; simpa using z
 refine ⟨_, _, _, _, _, _, _, _, _, ⟨fun x y z => by rw [sq_pad hm, dot3 (l3 0), dot3 (l3 1), dot3 (l3 2)], fun e he => ?_, ⟨b 0 0, b 0 1, b 0 2⟩, ⟨b 1 0, b 1 1, b 1 2⟩, ⟨b 2 0, b 2 1, b 2 2⟩⟩⟩
 obtain ⟨k, hk, ek⟩ := List.mem_iff_getElem.mp he
 have e1 : E.getD k [] = e := by rw [List.getD_eq_getElem?_getD, List.getElem?_eq_getElem hk, ek]; rfl
 have e2 := three_get (hE e he)
 rw [← e1] at e2 ⊢
 have : k = 0 ∨ k = 1 ∨ k = 2 := by omega
 rcases this with rfl | rfl | rfl
 ·exact .inl e2
 ·exact .inr (.inl e2)
 ·exact .inr (.inr e2)
theorem Three.even {E : List (List Int)} {w a1 b1 c1 a2 b2 c2 a3 b3 c3 : Int} (T : Three E w a1 b1 c1 a2 b2 c2 a3 b3 c3) {x y z : Int} (h1 : a1 * x + b1 * y + c1 * z = 0) (h2 : a2 * x + b2 * y + c2 * z = 0) (h3 : a3 * x + b3 * y + c3 * z = 0) : Even E [x, y, z] :=
 dot_self_zero (by rw [T.norm, h1, h2, h3]; decide)
theorem cs3 (a b c x y z : Int) : (a * x + b * y + c * z) * (a * x + b * y + c * z) ≤ (a * a + b * b + c * c) * (x * x + y * y + z * z) := by
 have h1 := sq_nonneg (a * y - b * x)
 have h2 := sq_nonneg (a * z - c * x)
 have h3 := sq_nonneg (b * z - c * y)
 have e : (a * a + b * b + c * c) * (x * x + y * y + z * z) - (a * x + b * y + c * z) * (a * x + b * y + c * z) = (a * y - b * x) * (a * y - b * x) + (a * z - c * x) * (a * z - c * x) + (b * z - c * y) * (b * z - c * y) := by grind
 exact Int.not_lt.mp fun qz => lin [] [_,_,_,_,_] [(1,.it (.v 0) (.v 1)),(1,.jf (.s (.v 0) (.v 1)) (.a (.a (.v 2) (.v 3)) (.v 4))),(1,.il (.n 0) (.v 4)),(1,.il (.n 0) (.v 3)),(1,.il (.n 0) (.v 2))] rfl qz e h3 h2 h1
theorem cross_le {a b c x y z : Int} : (b * z - c * y) * (b * z - c * y) + (c * x - a * z) * (c * x - a * z) + (a * y - b * x) * (a * y - b * x) ≤ (a * a + b * b + c * c) * (x * x + y * y + z * z) := by
 have h1 := sq_nonneg (a * x + b * y + c * z)
 have e : (a * a + b * b + c * c) * (x * x + y * y + z * z) - (a * x + b * y + c * z) * (a * x + b * y + c * z) = (b * z - c * y) * (b * z - c * y) + (c * x - a * z) * (c * x - a * z) + (a * y - b * x) * (a * y - b * x) := by grind
 exact Int.not_lt.mp fun qz => lin [] [_,_,_,_,_] [(1,.it (.v 0) (.a (.a (.v 1) (.v 2)) (.v 3))),(1,.jf (.s (.v 0) (.v 4)) (.a (.a (.v 1) (.v 2)) (.v 3))),(1,.il (.n 0) (.v 4))] rfl qz e h1
theorem sq_pos {a : Int} (h : a ≠ 0) : 1 ≤ a * a := by
 have h1 := sq_nonneg a
 have : a * a ≠ 0 := fun e => by rcases Int.mul_eq_zero.mp e with h2 | h2 <;> exact h h2
 omega
theorem lt_of_sq {a b : Int} (hb : 0 ≤ b) (h : a * a < b * b) : a < b := by
 by_cases q : a < b
 ·exact q
 ·have := mul_le_two (show b ≤ a by exact (Int.not_lt.mp q)) (show b ≤ a by exact (Int.not_lt.mp q)) hb (by exact Int.le_trans hb (Int.not_lt.mp q)); exact Int.not_le.mp fun qz => lin [] [_,_] [(1,.il (.v 0) (.v 1)),(1,.it (.v 1) (.v 0))] rfl this h
theorem cramer {D x w1 w2 w3 y1 y2 y3 N M : Int} (hD : D ≠ 0) (e : D * x = w1 * y1 + w2 * y2 + w3 * y3) (hN : w1 * w1 + w2 * w2 + w3 * w3 = N) (hM : y1 * y1 + y2 * y2 + y3 * y3 ≤ M) : x * x ≤ N * M := by
 have h1 := cs3 w1 w2 w3 y1 y2 y3
 rw [← e, hN] at h1
 have hN0 : 0 ≤ N := by rw [← hN]; have := sq_nonneg w1; have := sq_nonneg w2; have := sq_nonneg w3; omega
 have h2 := Int.mul_le_mul_of_nonneg_left hM hN0
 have h3 := Int.mul_le_mul_of_nonneg_right (sq_pos hD) (sq_nonneg x)
 have h4 : D * x * (D * x) = D * D * (x * x) := by grind
 exact Int.not_lt.mp fun qz => lin [] [_,_,_,_,_] [(1,.it (.v 0) (.v 1)),(1,.jf (.v 2) (.v 3)),(1,.il (.m 1 (.v 1)) (.v 3)),(1,.il (.v 4) (.v 0)),(1,.il (.v 2) (.v 4))] rfl qz h4 h3 h2 h1
theorem det_bound {E : List (List Int)} {once : Bool} {a1 b1 c1 a2 b2 c2 a3 b3 c3 : Int} (T : Three E 2 a1 b1 c1 a2 b2 c2 a3 b3 c3) (hN : ∀ R v, Reach E 3 once R v → dot (wor E v) (wor E v) ≤ 8 * v.sum + 4)
  (hD : a1 * (b2 * c3 - c2 * b3) - b1 * (a2 * c3 - c2 * a3) + c1 * (a2 * b3 - b2 * a3) ≠ 0) : ∀ R v, Alive E 3 once R v → ∀ i, v.getD i 0 < 3500 := by
 intro R v al
 obtain ⟨x, y, z, rfl, hx, hy, hz⟩ := al.reach.row.three
 have h := hN R _ al.reach
 rw [T.norm] at h
 simp only [List.sum_cons, List.sum_nil] at h
 obtain ⟨N, eN⟩ : ∃ N, (a1 * x + b1 * y + c1 * z) * (a1 * x + b1 * y + c1 * z) + (a2 * x + b2 * y + c2 * z) * (a2 * x + b2 * y + c2 * z) + (a3 * x + b3 * y + c3 * z) * (a3 * x + b3 * y + c3 * z) = N := ⟨_, rfl⟩
 rw [eN] at h
 obtain ⟨⟨A1, B1, C1⟩, ⟨A2, B2, C2⟩, ⟨A3, B3, C3⟩⟩ : _ ∧ _ ∧ _ := ⟨T.s1, T.s2, T.s3⟩
 have q : ∀ {a : Int}, -2 ≤ a ∧ a ≤ 2 → a * a ≤ 4 := fun h => sq_le h
 have na : a1 * a1 + a2 * a2 + a3 * a3 ≤ 12 := by have := q A1; have := q A2; have := q A3; omega
 have nb : b1 * b1 + b2 * b2 + b3 * b3 ≤ 12 := by have := q B1; have := q B2; have := q B3; omega
 have nc : c1 * c1 + c2 * c2 + c3 * c3 ≤ 12 := by have := q C1; have := q C2; have := q C3; omega
 have pos : ∀ a b c : Int, 0 ≤ a * a + b * b + c * c := fun a b c => by have := sq_nonneg a; have := sq_nonneg b; have := sq_nonneg c; omega
 have pr : ∀ {a b c x y z : Int}, a * a + b * b + c * c ≤ 12 → x * x + y * y + z * z ≤ 12 → (b * z - c * y) * (b * z - c * y) + (c * x - a * z) * (c * x - a * z) + (a * y - b * x) * (a * y - b * x) ≤ 144 := fun {a b c x y z} h1 h2 =>
  Int.le_trans cross_le (mul_le_two h1 h2 (pos _ _ _) (by decide))
 have kx := cramer (x := x) (M := 144) hD (w1 := a1 * x + b1 * y + c1 * z) (w2 := a2 * x + b2 * y + c2 * z) (w3 := a3 * x + b3 * y + c3 * z) (y1 := b2 * c3 - b3 * c2) (y2 := b3 * c1 - b1 * c3) (y3 := b1 * c2 - b2 * c1) (by grind) eN (pr nb nc)
 have ky := cramer (x := y) (M := 144) hD (w1 := a1 * x + b1 * y + c1 * z) (w2 := a2 * x + b2 * y + c2 * z) (w3 := a3 * x + b3 * y + c3 * z) (y1 := c2 * a3 - c3 * a2) (y2 := c3 * a1 - c1 * a3) (y3 := c1 * a2 - c2 * a1) (by grind) eN (pr nc na)
 have kz := cramer (x := z) (M := 144) hD (w1 := a1 * x + b1 * y + c1 * z) (w2 := a2 * x + b2 * y + c2 * z) (w3 := a3 * x + b3 * y + c3 * z) (y1 := a2 * b3 - a3 * b2) (y2 := a3 * b1 - a1 * b3) (y3 := a1 * b2 - a2 * b1) (by grind) eN (pr na nb)
 have hk : x + (y + (z + 0)) ≤ 10368 := by
  apply Classical.byContradiction
  intro hk
  obtain ⟨k, ek⟩ : ∃ k, x + (y + (z + 0)) = k := ⟨_, rfl⟩
  rw [ek] at h hk
  have h1 : (x + (y + (z + 0))) * (x + (y + (z + 0))) ≤ 3 * (x * x + y * y + z * z) := by
   have := sq_nonneg (x - y); have := sq_nonneg (x - z); have := sq_nonneg (y - z)
   have e : 3 * (x * x + y * y + z * z) - (x + (y + (z + 0))) * (x + (y + (z + 0))) = (x - y) * (x - y) + (x - z) * (x - z) + (y - z) * (y - z) := by grind
   omega
  rw [ek] at h1
  have h2 := Int.mul_le_mul_of_nonneg_right (show 10369 ≤ k by exact Int.not_lt.mp fun qz => lin [] [_] [(1,.it (.v 0) (.n 10369)),(1,.it (.n 10368) (.v 0))] rfl qz (Int.not_le.mp hk)) (show 0 ≤ k by exact Int.le_of_lt (Int.lt_trans (by decide) (Int.not_le.mp hk)))
  omega
 have f : ∀ {t : Int}, t * t ≤ N * 144 → t < 3500 := fun {t} ht => lt_of_sq (by decide) (by omega)
 intro i
 match i with
 | 0 => exact f kx
 | 1 => exact f ky
 | 2 => exact f kz
 | i + 3 => simp
end Mine
namespace Mine
theorem mul_ge_right {a b : Int} (ha : 1 ≤ a) (hb : 0 ≤ b) : b ≤ b * a := by
 have := Int.mul_le_mul_of_nonneg_left ha hb; omega
theorem opp {vi vj ui uj B : Int} (hi : 0 ≤ vi) (hj : 0 ≤ vj) (h1 : 1 ≤ ui) (h2 : uj ≤ -1) (h : -B ≤ vi * uj - vj * ui ∧ vi * uj - vj * ui ≤ B) : vi + vj ≤ B := by
 have a := mul_ge_right h1 hj
 have b := mul_ge_right (show 1 ≤ -uj by exact Int.not_lt.mp fun qz => lin [] [_] [(1,.it (.g (.v 0)) (.n 1)),(1,.il (.v 0) (.g (.n 1)))] rfl qz h2) hi
 rw [Int.mul_neg] at b
 exact Int.not_lt.mp fun qz => lin [] [_,_,_,_,_] [(1,.it (.v 0) (.a (.v 1) (.v 2))),(1,.il (.v 1) (.g (.v 3))),(1,.il (.v 2) (.v 4)),(1,.il (.g (.v 0)) (.s (.v 3) (.v 4)))] rfl qz b a h.1
theorem third {vi vl ui ul B c : Int} (hi : 0 ≤ vi) (hc : vi ≤ c) (hl : 0 ≤ vl) (hu : 1 ≤ ui ∨ ui ≤ -1) (h8 : -8 ≤ ul ∧ ul ≤ 8) (h : -B ≤ vi * ul - vl * ui ∧ vi * ul - vl * ui ≤ B) : vl ≤ B + 8 * c := by
 have p : vi * ul ≤ 8 * c := by
  have := mul_le_two hc h8.2 hi (by decide); omega
 have n : -(8 * c) ≤ vi * ul := by
  have := mul_le_two hc (show -ul ≤ 8 by exact Int.not_lt.mp fun qz => lin [] [_] [(1,.it (.n 8) (.g (.v 0))),(1,.il (.g (.n 8)) (.v 0))] rfl qz h8.1) hi (by decide); rw [Int.mul_neg] at this; omega
 rcases hu with hu | hu
 ·have := mul_ge_right hu hl; exact Int.not_lt.mp fun qz => lin [] [_,_,_,_,_] [(1,.it (.a (.v 0) (.m 8 (.v 1))) (.v 2)),(1,.il (.v 2) (.v 3)),(1,.il (.v 4) (.m 8 (.v 1))),(1,.il (.g (.v 0)) (.s (.v 4) (.v 3)))] rfl qz this p h.1
 ·have := mul_ge_right (show 1 ≤ -ui by exact Int.not_lt.mp fun qz => lin [] [_] [(1,.it (.g (.v 0)) (.n 1)),(1,.il (.v 0) (.g (.n 1)))] rfl qz hu) hl; rw [Int.mul_neg] at this; exact Int.not_lt.mp fun qz => lin [] [_,_,_,_,_] [(1,.it (.a (.v 0) (.m 8 (.v 1))) (.v 2)),(1,.il (.v 2) (.g (.v 3))),(1,.il (.g (.m 8 (.v 1))) (.v 4)),(1,.il (.s (.v 4) (.v 3)) (.v 0))] rfl qz this n h.2
theorem same_sign {x y z u1 u2 u3 B : Int} (hx : 0 ≤ x) (hy : 0 ≤ y) (hz : 0 ≤ z) (hB : 0 ≤ B) (p1 : 0 ≤ u1 ∧ u1 ≤ 8) (p2 : 0 ≤ u2 ∧ u2 ≤ 8) (p3 : 0 ≤ u3 ∧ u3 ≤ 8)
  (h12 : -B ≤ x * u2 - y * u1 ∧ x * u2 - y * u1 ≤ B) (h23 : -B ≤ y * u3 - z * u2 ∧ y * u3 - z * u2 ≤ B) (h31 : -B ≤ z * u1 - x * u3 ∧ z * u1 - x * u3 ≤ B) (hal : u1 ≤ x → u2 ≤ y → u3 ≤ z → x = u1 ∧ y = u2 ∧ z = u3) : x ≤ B + 56 ∧ y ≤ B + 56 ∧ z ≤ B + 56 := by
 by_cases q1 : u1 ≤ x
 ·by_cases q2 : u2 ≤ y
  ·by_cases q3 : u3 ≤ z
   ·have := hal q1 q2 q3; exact ⟨Int.not_lt.mp fun qz => lin [] [_,_,_,_,_] [(2,.it (.a (.v 0) (.n 56)) (.v 1)),(2,.ie (.v 1) (.v 2)),(1,.il (.g (.v 0)) (.s (.v 3) (.v 4))),(1,.il (.s (.v 3) (.v 4)) (.v 0)),(2,.il (.v 2) (.n 8))] rfl qz this.1 h31.1 h31.2 p1.2, ⟨Int.not_lt.mp fun qz => lin [] [_,_,_,_,_] [(2,.it (.a (.v 0) (.n 56)) (.v 1)),(2,.ie (.v 1) (.v 2)),(1,.il (.g (.v 0)) (.s (.v 3) (.v 4))),(1,.il (.s (.v 3) (.v 4)) (.v 0)),(2,.il (.v 2) (.n 8))] rfl qz this.2.1 h31.1 h31.2 p2.2, Int.not_lt.mp fun qz => lin [] [_,_,_,_,_] [(2,.it (.a (.v 0) (.n 56)) (.v 1)),(2,.ie (.v 1) (.v 2)),(1,.il (.g (.v 0)) (.s (.v 3) (.v 4))),(1,.il (.s (.v 3) (.v 4)) (.v 0)),(2,.il (.v 2) (.n 8))] rfl qz this.2.2 h31.1 h31.2 p3.2⟩⟩
   ·have a := third (vi := z) (vl := x) (ui := u3) (ul := u1) (B := B) (c := 7) hz (by exact Int.not_lt.mp fun qz => lin [] [_,_] [(1,.it (.n 7) (.v 0)),(1,.it (.v 0) (.v 1)),(1,.il (.v 1) (.n 8))] rfl qz (Int.not_le.mp q3) p3.2) hx (.inl (by exact Int.not_lt.mp fun qz => lin [] [_,_] [(1,.it (.v 0) (.n 1)),(1,.it (.v 1) (.v 0)),(1,.il (.n 0) (.v 1))] rfl qz (Int.not_le.mp q3) hz)) (by exact ⟨Int.not_lt.mp fun qz => lin [] [_] [(1,.it (.v 0) (.g (.n 8))),(1,.il (.n 0) (.v 0))] rfl qz p1.1, p1.2⟩) h31
    have b := third (vi := z) (vl := y) (ui := u3) (ul := u2) (B := B) (c := 7) hz (by exact Int.not_lt.mp fun qz => lin [] [_,_] [(1,.it (.n 7) (.v 0)),(1,.it (.v 0) (.v 1)),(1,.il (.v 1) (.n 8))] rfl qz (Int.not_le.mp q3) p3.2) hy (.inl (by exact Int.not_lt.mp fun qz => lin [] [_,_] [(1,.it (.v 0) (.n 1)),(1,.it (.v 1) (.v 0)),(1,.il (.n 0) (.v 1))] rfl qz (Int.not_le.mp q3) hz)) (by exact ⟨Int.not_lt.mp fun qz => lin [] [_] [(1,.it (.v 0) (.g (.n 8))),(1,.il (.n 0) (.v 0))] rfl qz p2.1, p2.2⟩) (by exact ⟨Int.not_lt.mp fun qz => lin [] [_,_,_] [(1,.it (.s (.v 0) (.v 1)) (.g (.v 2))),(1,.il (.s (.v 1) (.v 0)) (.v 2))] rfl qz h23.2, Int.not_lt.mp fun qz => lin [] [_,_,_] [(1,.it (.v 0) (.s (.v 1) (.v 2))),(1,.il (.g (.v 0)) (.s (.v 2) (.v 1)))] rfl qz h23.1⟩)
    exact ⟨Int.not_lt.mp fun qz => lin [] [_,_] [(1,.it (.a (.v 0) (.n 56)) (.v 1)),(1,.il (.v 1) (.a (.v 0) (.m 8 (.n 7))))] rfl qz a, ⟨Int.not_lt.mp fun qz => lin [] [_,_] [(1,.it (.a (.v 0) (.n 56)) (.v 1)),(1,.il (.v 1) (.a (.v 0) (.m 8 (.n 7))))] rfl qz b, Int.not_lt.mp fun qz => lin [] [_,_,_,_,_] [(2,.it (.a (.v 0) (.n 56)) (.v 1)),(2,.it (.v 1) (.v 2)),(1,.il (.g (.v 0)) (.s (.v 3) (.v 4))),(1,.il (.s (.v 3) (.v 4)) (.v 0)),(2,.il (.v 2) (.n 8))] rfl qz (Int.not_le.mp q3) h31.1 h31.2 p3.2⟩⟩
  ·have a := third (vi := y) (vl := x) (ui := u2) (ul := u1) (B := B) (c := 7) hy (by exact Int.not_lt.mp fun qz => lin [] [_,_] [(1,.it (.n 7) (.v 0)),(1,.it (.v 0) (.v 1)),(1,.il (.v 1) (.n 8))] rfl qz (Int.not_le.mp q2) p2.2) hx (.inl (by exact Int.not_lt.mp fun qz => lin [] [_,_] [(1,.it (.v 0) (.n 1)),(1,.it (.v 1) (.v 0)),(1,.il (.n 0) (.v 1))] rfl qz (Int.not_le.mp q2) hy)) (by exact ⟨Int.not_lt.mp fun qz => lin [] [_] [(1,.it (.v 0) (.g (.n 8))),(1,.il (.n 0) (.v 0))] rfl qz p1.1, p1.2⟩) (by exact ⟨Int.not_lt.mp fun qz => lin [] [_,_,_] [(1,.it (.s (.v 0) (.v 1)) (.g (.v 2))),(1,.il (.s (.v 1) (.v 0)) (.v 2))] rfl qz h12.2, Int.not_lt.mp fun qz => lin [] [_,_,_] [(1,.it (.v 0) (.s (.v 1) (.v 2))),(1,.il (.g (.v 0)) (.s (.v 2) (.v 1)))] rfl qz h12.1⟩)
   have b := third (vi := y) (vl := z) (ui := u2) (ul := u3) (B := B) (c := 7) hy (by exact Int.not_lt.mp fun qz => lin [] [_,_] [(1,.it (.n 7) (.v 0)),(1,.it (.v 0) (.v 1)),(1,.il (.v 1) (.n 8))] rfl qz (Int.not_le.mp q2) p2.2) hz (.inl (by exact Int.not_lt.mp fun qz => lin [] [_,_] [(1,.it (.v 0) (.n 1)),(1,.it (.v 1) (.v 0)),(1,.il (.n 0) (.v 1))] rfl qz (Int.not_le.mp q2) hy)) (by exact ⟨Int.not_lt.mp fun qz => lin [] [_] [(1,.it (.v 0) (.g (.n 8))),(1,.il (.n 0) (.v 0))] rfl qz p3.1, p3.2⟩) h23
   exact ⟨Int.not_lt.mp fun qz => lin [] [_,_] [(1,.it (.a (.v 0) (.n 56)) (.v 1)),(1,.il (.v 1) (.a (.v 0) (.m 8 (.n 7))))] rfl qz a, ⟨Int.not_lt.mp fun qz => lin [] [_,_,_,_,_] [(2,.it (.a (.v 0) (.n 56)) (.v 1)),(2,.it (.v 1) (.v 2)),(1,.il (.g (.v 0)) (.s (.v 3) (.v 4))),(1,.il (.s (.v 3) (.v 4)) (.v 0)),(2,.il (.v 2) (.n 8))] rfl qz (Int.not_le.mp q2) h31.1 h31.2 p2.2, Int.not_lt.mp fun qz => lin [] [_,_] [(1,.it (.a (.v 0) (.n 56)) (.v 1)),(1,.il (.v 1) (.a (.v 0) (.m 8 (.n 7))))] rfl qz b⟩⟩
 ·have a := third (vi := x) (vl := y) (ui := u1) (ul := u2) (B := B) (c := 7) hx (by exact Int.not_lt.mp fun qz => lin [] [_,_] [(1,.it (.n 7) (.v 0)),(1,.it (.v 0) (.v 1)),(1,.il (.v 1) (.n 8))] rfl qz (Int.not_le.mp q1) p1.2) hy (.inl (by exact Int.not_lt.mp fun qz => lin [] [_,_] [(1,.it (.v 0) (.n 1)),(1,.it (.v 1) (.v 0)),(1,.il (.n 0) (.v 1))] rfl qz (Int.not_le.mp q1) hx)) (by exact ⟨Int.not_lt.mp fun qz => lin [] [_] [(1,.it (.v 0) (.g (.n 8))),(1,.il (.n 0) (.v 0))] rfl qz p2.1, p2.2⟩) h12
  have b := third (vi := x) (vl := z) (ui := u1) (ul := u3) (B := B) (c := 7) hx (by exact Int.not_lt.mp fun qz => lin [] [_,_] [(1,.it (.n 7) (.v 0)),(1,.it (.v 0) (.v 1)),(1,.il (.v 1) (.n 8))] rfl qz (Int.not_le.mp q1) p1.2) hz (.inl (by exact Int.not_lt.mp fun qz => lin [] [_,_] [(1,.it (.v 0) (.n 1)),(1,.it (.v 1) (.v 0)),(1,.il (.n 0) (.v 1))] rfl qz (Int.not_le.mp q1) hx)) (by exact ⟨Int.not_lt.mp fun qz => lin [] [_] [(1,.it (.v 0) (.g (.n 8))),(1,.il (.n 0) (.v 0))] rfl qz p3.1, p3.2⟩) (by exact ⟨Int.not_lt.mp fun qz => lin [] [_,_,_] [(1,.it (.s (.v 0) (.v 1)) (.g (.v 2))),(1,.il (.s (.v 1) (.v 0)) (.v 2))] rfl qz h31.2, Int.not_lt.mp fun qz => lin [] [_,_,_] [(1,.it (.v 0) (.s (.v 1) (.v 2))),(1,.il (.g (.v 0)) (.s (.v 2) (.v 1)))] rfl qz h31.1⟩)
  exact ⟨Int.not_lt.mp fun qz => lin [] [_,_,_,_,_] [(2,.it (.a (.v 0) (.n 56)) (.v 1)),(2,.it (.v 1) (.v 2)),(1,.il (.g (.v 0)) (.s (.v 3) (.v 4))),(1,.il (.s (.v 3) (.v 4)) (.v 0)),(2,.il (.v 2) (.n 8))] rfl qz (Int.not_le.mp q1) h31.1 h31.2 p1.2, ⟨Int.not_lt.mp fun qz => lin [] [_,_] [(1,.it (.a (.v 0) (.n 56)) (.v 1)),(1,.il (.v 1) (.a (.v 0) (.m 8 (.n 7))))] rfl qz a, Int.not_lt.mp fun qz => lin [] [_,_] [(1,.it (.a (.v 0) (.n 56)) (.v 1)),(1,.il (.v 1) (.a (.v 0) (.m 8 (.n 7))))] rfl qz b⟩⟩
theorem two_sign {vi vj vl ui uj ul B T : Int} (eB : B = 2 * T) (hi : 0 ≤ vi) (hj : 0 ≤ vj) (hl : 0 ≤ vl) (h1 : 1 ≤ ui) (h2 : uj ≤ -1) (h8 : -8 ≤ ul ∧ ul ≤ 8) (hij : -B ≤ vi * uj - vj * ui ∧ vi * uj - vj * ui ≤ B) (hil : -B ≤ vi * ul - vl * ui ∧ vi * ul - vl * ui ≤ B) (hjl : -B ≤ vj * ul - vl * uj ∧ vj * ul - vl * uj ≤ B) : vi + vj ≤ 2 * T ∧ vl ≤ 10 * T := by
 have h := opp hi hj h1 h2 hij
 refine ⟨by exact Int.le_trans h (Int.le_of_eq eB), ?_⟩
 by_cases q : vi ≤ T
 ·have := third hi q hl (.inl h1) h8 hil; exact Int.not_lt.mp fun qz => lin [] [_,_,_] [(1,.it (.m 10 (.v 0)) (.v 1)),(1,.il (.v 1) (.a (.v 2) (.m 8 (.v 0)))),(1,.ie (.v 2) (.m 2 (.v 0)))] rfl qz this eB
 ·have := third (c := T) hj (by exact Int.not_lt.mp fun qz => lin [] [_,_,_,_] [(1,.it (.v 0) (.v 1)),(1,.it (.v 0) (.v 2)),(1,.il (.a (.v 2) (.v 1)) (.v 3)),(1,.ie (.v 3) (.m 2 (.v 0)))] rfl qz (Int.not_le.mp q) h eB) hl (.inr h2) h8 hjl; exact Int.not_lt.mp fun qz => lin [] [_,_,_] [(1,.it (.m 10 (.v 0)) (.v 1)),(1,.il (.v 1) (.a (.v 2) (.m 8 (.v 0)))),(1,.ie (.v 2) (.m 2 (.v 0)))] rfl qz this eB
theorem pair_case {x y z u1 u2 u3 T : Int} (hx : 0 ≤ x) (hy : 0 ≤ y) (hz : 0 ≤ z) (hT : 0 ≤ T) (p1 : -8 ≤ u1 ∧ u1 ≤ 8) (p2 : -8 ≤ u2 ∧ u2 ≤ 8) (p3 : -8 ≤ u3 ∧ u3 ≤ 8)
  (h12 : -(2 * T) ≤ x * u2 - y * u1 ∧ x * u2 - y * u1 ≤ 2 * T) (h23 : -(2 * T) ≤ y * u3 - z * u2 ∧ y * u3 - z * u2 ≤ 2 * T) (h31 : -(2 * T) ≤ z * u1 - x * u3 ∧ z * u1 - x * u3 ≤ 2 * T)
  (hal : 0 ≤ u1 → 0 ≤ u2 → 0 ≤ u3 → u1 ≤ x → u2 ≤ y → u3 ≤ z → x = u1 ∧ y = u2 ∧ z = u3) (hal2 : 0 ≤ -u1 → 0 ≤ -u2 → 0 ≤ -u3 → -u1 ≤ x → -u2 ≤ y → -u3 ≤ z → x = -u1 ∧ y = -u2 ∧ z = -u3) :
  x ≤ 10 * T + 56 ∧ y ≤ 10 * T + 56 ∧ z ≤ 10 * T + 56 ∧ x + y + z ≤ 12 * T + 168 := by
 by_cases s1 : 1 ≤ u1 ∧ u2 ≤ -1
 ·have := two_sign (vl := z) (ul := u3) rfl hx hy hz s1.1 s1.2 p3 h12 (by exact ⟨Int.not_lt.mp fun qz => lin [] [_,_,_] [(1,.it (.s (.v 0) (.v 1)) (.g (.m 2 (.v 2)))),(1,.il (.s (.v 1) (.v 0)) (.m 2 (.v 2)))] rfl qz h31.2, Int.not_lt.mp fun qz => lin [] [_,_,_] [(1,.it (.m 2 (.v 0)) (.s (.v 1) (.v 2))),(1,.il (.g (.m 2 (.v 0))) (.s (.v 2) (.v 1)))] rfl qz h31.1⟩) h23; exact ⟨Int.not_lt.mp fun qz => lin [] [_,_,_,_,_] [(1,.it (.a (.m 10 (.v 0)) (.n 56)) (.v 1)),(1,.il (.a (.v 1) (.v 2)) (.m 2 (.v 0))),(2,.il (.g (.m 2 (.v 0))) (.s (.v 3) (.v 4))),(2,.il (.s (.v 3) (.v 4)) (.m 2 (.v 0))),(1,.il (.n 0) (.v 2))] rfl qz this.1 h31.1 h31.2 hy, ⟨Int.not_lt.mp fun qz => lin [] [_,_,_,_,_] [(1,.it (.a (.m 10 (.v 0)) (.n 56)) (.v 1)),(1,.il (.a (.v 2) (.v 1)) (.m 2 (.v 0))),(2,.il (.g (.m 2 (.v 0))) (.s (.v 3) (.v 4))),(2,.il (.s (.v 3) (.v 4)) (.m 2 (.v 0))),(1,.il (.n 0) (.v 2))] rfl qz this.1 h31.1 h31.2 hx, ⟨Int.not_lt.mp fun qz => lin [] [_,_] [(1,.it (.a (.m 10 (.v 0)) (.n 56)) (.v 1)),(1,.il (.v 1) (.m 10 (.v 0)))] rfl qz this.2, Int.not_lt.mp fun qz => lin [] [_,_,_,_] [(1,.it (.a (.m 12 (.v 0)) (.n 168)) (.a (.a (.v 1) (.v 2)) (.v 3))),(1,.il (.a (.v 1) (.v 2)) (.m 2 (.v 0))),(1,.il (.v 3) (.m 10 (.v 0)))] rfl qz this.1 this.2⟩⟩⟩
 by_cases s2 : 1 ≤ u2 ∧ u1 ≤ -1
 ·have := two_sign (vl := z) (ul := u3) rfl hy hx hz s2.1 s2.2 p3 (by exact ⟨Int.not_lt.mp fun qz => lin [] [_,_,_] [(1,.it (.s (.v 0) (.v 1)) (.g (.m 2 (.v 2)))),(1,.il (.s (.v 1) (.v 0)) (.m 2 (.v 2)))] rfl qz h12.2, Int.not_lt.mp fun qz => lin [] [_,_,_] [(1,.it (.m 2 (.v 0)) (.s (.v 1) (.v 2))),(1,.il (.g (.m 2 (.v 0))) (.s (.v 2) (.v 1)))] rfl qz h12.1⟩) h23 (by exact ⟨Int.not_lt.mp fun qz => lin [] [_,_,_] [(1,.it (.s (.v 0) (.v 1)) (.g (.m 2 (.v 2)))),(1,.il (.s (.v 1) (.v 0)) (.m 2 (.v 2)))] rfl qz h31.2, Int.not_lt.mp fun qz => lin [] [_,_,_] [(1,.it (.m 2 (.v 0)) (.s (.v 1) (.v 2))),(1,.il (.g (.m 2 (.v 0))) (.s (.v 2) (.v 1)))] rfl qz h31.1⟩); exact ⟨Int.not_lt.mp fun qz => lin [] [_,_,_,_,_] [(1,.it (.a (.m 10 (.v 0)) (.n 56)) (.v 1)),(1,.il (.a (.v 2) (.v 1)) (.m 2 (.v 0))),(2,.il (.g (.m 2 (.v 0))) (.s (.v 3) (.v 4))),(2,.il (.s (.v 3) (.v 4)) (.m 2 (.v 0))),(1,.il (.n 0) (.v 2))] rfl qz this.1 h31.1 h31.2 hy, ⟨Int.not_lt.mp fun qz => lin [] [_,_,_,_,_] [(1,.it (.a (.m 10 (.v 0)) (.n 56)) (.v 1)),(1,.il (.a (.v 1) (.v 2)) (.m 2 (.v 0))),(2,.il (.g (.m 2 (.v 0))) (.s (.v 3) (.v 4))),(2,.il (.s (.v 3) (.v 4)) (.m 2 (.v 0))),(1,.il (.n 0) (.v 2))] rfl qz this.1 h31.1 h31.2 hx, ⟨Int.not_lt.mp fun qz => lin [] [_,_] [(1,.it (.a (.m 10 (.v 0)) (.n 56)) (.v 1)),(1,.il (.v 1) (.m 10 (.v 0)))] rfl qz this.2, Int.not_lt.mp fun qz => lin [] [_,_,_,_] [(1,.it (.a (.m 12 (.v 0)) (.n 168)) (.a (.a (.v 1) (.v 2)) (.v 3))),(1,.il (.a (.v 2) (.v 1)) (.m 2 (.v 0))),(1,.il (.v 3) (.m 10 (.v 0)))] rfl qz this.1 this.2⟩⟩⟩
 by_cases s3 : 1 ≤ u1 ∧ u3 ≤ -1
 ·have := two_sign (vl := y) (ul := u2) rfl hx hz hy s3.1 s3.2 p2 (by exact ⟨Int.not_lt.mp fun qz => lin [] [_,_,_] [(1,.it (.s (.v 0) (.v 1)) (.g (.m 2 (.v 2)))),(1,.il (.s (.v 1) (.v 0)) (.m 2 (.v 2)))] rfl qz h31.2, Int.not_lt.mp fun qz => lin [] [_,_,_] [(1,.it (.m 2 (.v 0)) (.s (.v 1) (.v 2))),(1,.il (.g (.m 2 (.v 0))) (.s (.v 2) (.v 1)))] rfl qz h31.1⟩) h12 (by exact ⟨Int.not_lt.mp fun qz => lin [] [_,_,_] [(1,.it (.s (.v 0) (.v 1)) (.g (.m 2 (.v 2)))),(1,.il (.s (.v 1) (.v 0)) (.m 2 (.v 2)))] rfl qz h23.2, Int.not_lt.mp fun qz => lin [] [_,_,_] [(1,.it (.m 2 (.v 0)) (.s (.v 1) (.v 2))),(1,.il (.g (.m 2 (.v 0))) (.s (.v 2) (.v 1)))] rfl qz h23.1⟩); exact ⟨Int.not_lt.mp fun qz => lin [] [_,_,_,_,_] [(1,.it (.a (.m 10 (.v 0)) (.n 56)) (.v 1)),(1,.il (.a (.v 1) (.v 2)) (.m 2 (.v 0))),(2,.il (.g (.m 2 (.v 0))) (.s (.v 3) (.v 4))),(2,.il (.s (.v 3) (.v 4)) (.m 2 (.v 0))),(1,.il (.n 0) (.v 2))] rfl qz this.1 h31.1 h31.2 hz, ⟨Int.not_lt.mp fun qz => lin [] [_,_] [(1,.it (.a (.m 10 (.v 0)) (.n 56)) (.v 1)),(1,.il (.v 1) (.m 10 (.v 0)))] rfl qz this.2, ⟨Int.not_lt.mp fun qz => lin [] [_,_,_,_,_] [(1,.it (.a (.m 10 (.v 0)) (.n 56)) (.v 1)),(1,.il (.a (.v 2) (.v 1)) (.m 2 (.v 0))),(2,.il (.g (.m 2 (.v 0))) (.s (.v 3) (.v 4))),(2,.il (.s (.v 3) (.v 4)) (.m 2 (.v 0))),(1,.il (.n 0) (.v 2))] rfl qz this.1 h31.1 h31.2 hx, Int.not_lt.mp fun qz => lin [] [_,_,_,_] [(1,.it (.a (.m 12 (.v 0)) (.n 168)) (.a (.a (.v 1) (.v 2)) (.v 3))),(1,.il (.a (.v 1) (.v 3)) (.m 2 (.v 0))),(1,.il (.v 2) (.m 10 (.v 0)))] rfl qz this.1 this.2⟩⟩⟩
 by_cases s4 : 1 ≤ u3 ∧ u1 ≤ -1
 ·have := two_sign (vl := y) (ul := u2) rfl hz hx hy s4.1 s4.2 p2 h31 (by exact ⟨Int.not_lt.mp fun qz => lin [] [_,_,_] [(1,.it (.s (.v 0) (.v 1)) (.g (.m 2 (.v 2)))),(1,.il (.s (.v 1) (.v 0)) (.m 2 (.v 2)))] rfl qz h23.2, Int.not_lt.mp fun qz => lin [] [_,_,_] [(1,.it (.m 2 (.v 0)) (.s (.v 1) (.v 2))),(1,.il (.g (.m 2 (.v 0))) (.s (.v 2) (.v 1)))] rfl qz h23.1⟩) h12; exact ⟨Int.not_lt.mp fun qz => lin [] [_,_,_,_,_] [(1,.it (.a (.m 10 (.v 0)) (.n 56)) (.v 1)),(1,.il (.a (.v 2) (.v 1)) (.m 2 (.v 0))),(2,.il (.g (.m 2 (.v 0))) (.s (.v 3) (.v 4))),(2,.il (.s (.v 3) (.v 4)) (.m 2 (.v 0))),(1,.il (.n 0) (.v 2))] rfl qz this.1 h31.1 h31.2 hz, ⟨Int.not_lt.mp fun qz => lin [] [_,_] [(1,.it (.a (.m 10 (.v 0)) (.n 56)) (.v 1)),(1,.il (.v 1) (.m 10 (.v 0)))] rfl qz this.2, ⟨Int.not_lt.mp fun qz => lin [] [_,_,_,_,_] [(1,.it (.a (.m 10 (.v 0)) (.n 56)) (.v 1)),(1,.il (.a (.v 1) (.v 2)) (.m 2 (.v 0))),(2,.il (.g (.m 2 (.v 0))) (.s (.v 3) (.v 4))),(2,.il (.s (.v 3) (.v 4)) (.m 2 (.v 0))),(1,.il (.n 0) (.v 2))] rfl qz this.1 h31.1 h31.2 hx, Int.not_lt.mp fun qz => lin [] [_,_,_,_] [(1,.it (.a (.m 12 (.v 0)) (.n 168)) (.a (.a (.v 1) (.v 2)) (.v 3))),(1,.il (.a (.v 3) (.v 1)) (.m 2 (.v 0))),(1,.il (.v 2) (.m 10 (.v 0)))] rfl qz this.1 this.2⟩⟩⟩
 by_cases s5 : 1 ≤ u2 ∧ u3 ≤ -1
 ·have := two_sign (vl := x) (ul := u1) rfl hy hz hx s5.1 s5.2 p1 h23 (by exact ⟨Int.not_lt.mp fun qz => lin [] [_,_,_] [(1,.it (.s (.v 0) (.v 1)) (.g (.m 2 (.v 2)))),(1,.il (.s (.v 1) (.v 0)) (.m 2 (.v 2)))] rfl qz h12.2, Int.not_lt.mp fun qz => lin [] [_,_,_] [(1,.it (.m 2 (.v 0)) (.s (.v 1) (.v 2))),(1,.il (.g (.m 2 (.v 0))) (.s (.v 2) (.v 1)))] rfl qz h12.1⟩) h31; exact ⟨Int.not_lt.mp fun qz => lin [] [_,_] [(1,.it (.a (.m 10 (.v 0)) (.n 56)) (.v 1)),(1,.il (.v 1) (.m 10 (.v 0)))] rfl qz this.2, ⟨Int.not_lt.mp fun qz => lin [] [_,_,_,_,_] [(1,.it (.a (.m 10 (.v 0)) (.n 56)) (.v 1)),(1,.il (.a (.v 1) (.v 2)) (.m 2 (.v 0))),(2,.il (.g (.m 2 (.v 0))) (.s (.v 3) (.v 4))),(2,.il (.s (.v 3) (.v 4)) (.m 2 (.v 0))),(1,.il (.n 0) (.v 2))] rfl qz this.1 h31.1 h31.2 hz, ⟨Int.not_lt.mp fun qz => lin [] [_,_,_,_,_] [(1,.it (.a (.m 10 (.v 0)) (.n 56)) (.v 1)),(1,.il (.a (.v 2) (.v 1)) (.m 2 (.v 0))),(2,.il (.g (.m 2 (.v 0))) (.s (.v 3) (.v 4))),(2,.il (.s (.v 3) (.v 4)) (.m 2 (.v 0))),(1,.il (.n 0) (.v 2))] rfl qz this.1 h31.1 h31.2 hy, Int.not_lt.mp fun qz => lin [] [_,_,_,_] [(1,.it (.a (.m 12 (.v 0)) (.n 168)) (.a (.a (.v 1) (.v 2)) (.v 3))),(1,.il (.a (.v 2) (.v 3)) (.m 2 (.v 0))),(1,.il (.v 1) (.m 10 (.v 0)))] rfl qz this.1 this.2⟩⟩⟩
 by_cases s6 : 1 ≤ u3 ∧ u2 ≤ -1
 ·have := two_sign (vl := x) (ul := u1) rfl hz hy hx s6.1 s6.2 p1 (by exact ⟨Int.not_lt.mp fun qz => lin [] [_,_,_] [(1,.it (.s (.v 0) (.v 1)) (.g (.m 2 (.v 2)))),(1,.il (.s (.v 1) (.v 0)) (.m 2 (.v 2)))] rfl qz h23.2, Int.not_lt.mp fun qz => lin [] [_,_,_] [(1,.it (.m 2 (.v 0)) (.s (.v 1) (.v 2))),(1,.il (.g (.m 2 (.v 0))) (.s (.v 2) (.v 1)))] rfl qz h23.1⟩) h31 (by exact ⟨Int.not_lt.mp fun qz => lin [] [_,_,_] [(1,.it (.s (.v 0) (.v 1)) (.g (.m 2 (.v 2)))),(1,.il (.s (.v 1) (.v 0)) (.m 2 (.v 2)))] rfl qz h12.2, Int.not_lt.mp fun qz => lin [] [_,_,_] [(1,.it (.m 2 (.v 0)) (.s (.v 1) (.v 2))),(1,.il (.g (.m 2 (.v 0))) (.s (.v 2) (.v 1)))] rfl qz h12.1⟩); exact ⟨Int.not_lt.mp fun qz => lin [] [_,_] [(1,.it (.a (.m 10 (.v 0)) (.n 56)) (.v 1)),(1,.il (.v 1) (.m 10 (.v 0)))] rfl qz this.2, ⟨Int.not_lt.mp fun qz => lin [] [_,_,_,_,_] [(1,.it (.a (.m 10 (.v 0)) (.n 56)) (.v 1)),(1,.il (.a (.v 2) (.v 1)) (.m 2 (.v 0))),(2,.il (.g (.m 2 (.v 0))) (.s (.v 3) (.v 4))),(2,.il (.s (.v 3) (.v 4)) (.m 2 (.v 0))),(1,.il (.n 0) (.v 2))] rfl qz this.1 h31.1 h31.2 hz, ⟨Int.not_lt.mp fun qz => lin [] [_,_,_,_,_] [(1,.it (.a (.m 10 (.v 0)) (.n 56)) (.v 1)),(1,.il (.a (.v 1) (.v 2)) (.m 2 (.v 0))),(2,.il (.g (.m 2 (.v 0))) (.s (.v 3) (.v 4))),(2,.il (.s (.v 3) (.v 4)) (.m 2 (.v 0))),(1,.il (.n 0) (.v 2))] rfl qz this.1 h31.1 h31.2 hy, Int.not_lt.mp fun qz => lin [] [_,_,_,_] [(1,.it (.a (.m 12 (.v 0)) (.n 168)) (.a (.a (.v 1) (.v 2)) (.v 3))),(1,.il (.a (.v 3) (.v 2)) (.m 2 (.v 0))),(1,.il (.v 1) (.m 10 (.v 0)))] rfl qz this.1 this.2⟩⟩⟩
 by_cases t : 0 ≤ u1 ∧ 0 ≤ u2 ∧ 0 ≤ u3
 ·have := same_sign hx hy hz (by exact Int.not_lt.mp fun qz => lin [] [_,_,_] [(2,.it (.m 2 (.v 0)) (.n 0)),(1,.il (.g (.m 2 (.v 0))) (.s (.v 1) (.v 2))),(1,.il (.s (.v 1) (.v 2)) (.m 2 (.v 0)))] rfl qz h31.1 h31.2) ⟨t.1, p1.2⟩ ⟨t.2.1, p2.2⟩ ⟨t.2.2, p3.2⟩ h12 h23 h31 (hal t.1 t.2.1 t.2.2); exact ⟨Int.not_lt.mp fun qz => lin [] [_,_,_,_] [(1,.it (.a (.m 10 (.v 0)) (.n 56)) (.v 1)),(1,.il (.v 1) (.a (.m 2 (.v 0)) (.n 56))),(2,.il (.g (.m 2 (.v 0))) (.s (.v 2) (.v 3))),(2,.il (.s (.v 2) (.v 3)) (.m 2 (.v 0)))] rfl qz this.1 h31.1 h31.2, ⟨Int.not_lt.mp fun qz => lin [] [_,_,_,_] [(1,.it (.a (.m 10 (.v 0)) (.n 56)) (.v 1)),(1,.il (.v 1) (.a (.m 2 (.v 0)) (.n 56))),(2,.il (.g (.m 2 (.v 0))) (.s (.v 2) (.v 3))),(2,.il (.s (.v 2) (.v 3)) (.m 2 (.v 0)))] rfl qz this.2.1 h31.1 h31.2, ⟨Int.not_lt.mp fun qz => lin [] [_,_,_,_] [(1,.it (.a (.m 10 (.v 0)) (.n 56)) (.v 1)),(1,.il (.v 1) (.a (.m 2 (.v 0)) (.n 56))),(2,.il (.g (.m 2 (.v 0))) (.s (.v 2) (.v 3))),(2,.il (.s (.v 2) (.v 3)) (.m 2 (.v 0)))] rfl qz this.2.2 h31.1 h31.2, Int.not_lt.mp fun qz => lin [] [_,_,_,_,_,_] [(2,.it (.a (.m 12 (.v 0)) (.n 168)) (.a (.a (.v 1) (.v 2)) (.v 3))),(2,.il (.v 1) (.a (.m 2 (.v 0)) (.n 56))),(2,.il (.v 2) (.a (.m 2 (.v 0)) (.n 56))),(2,.il (.v 3) (.a (.m 2 (.v 0)) (.n 56))),(3,.il (.g (.m 2 (.v 0))) (.s (.v 4) (.v 5))),(3,.il (.s (.v 4) (.v 5)) (.m 2 (.v 0)))] rfl qz this.1 this.2.1 this.2.2 h31.1 h31.2⟩⟩⟩
 ·have := same_sign (u1 := -u1) (u2 := -u2) (u3 := -u3) (B := 2 * T) hx hy hz (by exact Int.not_lt.mp fun qz => lin [] [_,_,_] [(2,.it (.m 2 (.v 0)) (.n 0)),(1,.il (.g (.m 2 (.v 0))) (.s (.v 1) (.v 2))),(1,.il (.s (.v 1) (.v 2)) (.m 2 (.v 0)))] rfl qz h31.1 h31.2) (by omega) (by omega) (by omega) (by rw [Int.mul_neg, Int.mul_neg]; exact ⟨Int.not_lt.mp fun qz => lin [] [_,_,_] [(1,.it (.s (.g (.v 0)) (.g (.v 1))) (.g (.m 2 (.v 2)))),(1,.il (.s (.v 0) (.v 1)) (.m 2 (.v 2)))] rfl qz h12.2, Int.not_lt.mp fun qz => lin [] [_,_,_] [(1,.it (.m 2 (.v 0)) (.s (.g (.v 1)) (.g (.v 2)))),(1,.il (.g (.m 2 (.v 0))) (.s (.v 1) (.v 2)))] rfl qz h12.1⟩) (by rw [Int.mul_neg, Int.mul_neg]; exact ⟨Int.not_lt.mp fun qz => lin [] [_,_,_] [(1,.it (.s (.g (.v 0)) (.g (.v 1))) (.g (.m 2 (.v 2)))),(1,.il (.s (.v 0) (.v 1)) (.m 2 (.v 2)))] rfl qz h23.2, Int.not_lt.mp fun qz => lin [] [_,_,_] [(1,.it (.m 2 (.v 0)) (.s (.g (.v 1)) (.g (.v 2)))),(1,.il (.g (.m 2 (.v 0))) (.s (.v 1) (.v 2)))] rfl qz h23.1⟩) (by rw [Int.mul_neg, Int.mul_neg]; exact ⟨Int.not_lt.mp fun qz => lin [] [_,_,_] [(1,.it (.s (.g (.v 0)) (.g (.v 1))) (.g (.m 2 (.v 2)))),(1,.il (.s (.v 0) (.v 1)) (.m 2 (.v 2)))] rfl qz h31.2, Int.not_lt.mp fun qz => lin [] [_,_,_] [(1,.it (.m 2 (.v 0)) (.s (.g (.v 1)) (.g (.v 2)))),(1,.il (.g (.m 2 (.v 0))) (.s (.v 1) (.v 2)))] rfl qz h31.1⟩) (hal2 (by omega) (by omega) (by omega)); exact ⟨Int.not_lt.mp fun qz => lin [] [_,_,_,_] [(1,.it (.a (.m 10 (.v 0)) (.n 56)) (.v 1)),(1,.il (.v 1) (.a (.m 2 (.v 0)) (.n 56))),(2,.il (.g (.m 2 (.v 0))) (.s (.v 2) (.v 3))),(2,.il (.s (.v 2) (.v 3)) (.m 2 (.v 0)))] rfl qz this.1 h31.1 h31.2, ⟨Int.not_lt.mp fun qz => lin [] [_,_,_,_] [(1,.it (.a (.m 10 (.v 0)) (.n 56)) (.v 1)),(1,.il (.v 1) (.a (.m 2 (.v 0)) (.n 56))),(2,.il (.g (.m 2 (.v 0))) (.s (.v 2) (.v 3))),(2,.il (.s (.v 2) (.v 3)) (.m 2 (.v 0)))] rfl qz this.2.1 h31.1 h31.2, ⟨Int.not_lt.mp fun qz => lin [] [_,_,_,_] [(1,.it (.a (.m 10 (.v 0)) (.n 56)) (.v 1)),(1,.il (.v 1) (.a (.m 2 (.v 0)) (.n 56))),(2,.il (.g (.m 2 (.v 0))) (.s (.v 2) (.v 3))),(2,.il (.s (.v 2) (.v 3)) (.m 2 (.v 0)))] rfl qz this.2.2 h31.1 h31.2, Int.not_lt.mp fun qz => lin [] [_,_,_,_,_,_] [(2,.it (.a (.m 12 (.v 0)) (.n 168)) (.a (.a (.v 1) (.v 2)) (.v 3))),(2,.il (.v 1) (.a (.m 2 (.v 0)) (.n 56))),(2,.il (.v 2) (.a (.m 2 (.v 0)) (.n 56))),(2,.il (.v 3) (.a (.m 2 (.v 0)) (.n 56))),(3,.il (.g (.m 2 (.v 0))) (.s (.v 4) (.v 5))),(3,.il (.s (.v 4) (.v 5)) (.m 2 (.v 0)))] rfl qz this.1 this.2.1 this.2.2 h31.1 h31.2⟩⟩⟩
theorem mulb {a b : Int} (ha : -2 ≤ a ∧ a ≤ 2) (hb : -2 ≤ b ∧ b ≤ 2) : -4 ≤ a * b ∧ a * b ≤ 4 := by
 rcases two_cases ha with rfl | rfl | rfl | rfl | rfl <;> omega
theorem small_prod {a b c d : Int} (ha : -2 ≤ a ∧ a ≤ 2) (hb : -2 ≤ b ∧ b ≤ 2) (hc : -2 ≤ c ∧ c ≤ 2) (hd : -2 ≤ d ∧ d ≤ 2) : -8 ≤ a * b - c * d ∧ a * b - c * d ≤ 8 := by
 have := mulb ha hb
 have := mulb hc hd
 omega
theorem mulw {c w : Int} (hc : -2 ≤ c ∧ c ≤ 2) : -(2 * (w.natAbs : Int)) ≤ c * w ∧ c * w ≤ 2 * (w.natAbs : Int) := by
 rcases two_cases hc with rfl | rfl | rfl | rfl | rfl <;> omega
theorem lin_abs {c d w w' : Int} (hc : -2 ≤ c ∧ c ≤ 2) (hd : -2 ≤ d ∧ d ≤ 2) : -(2 * ((w.natAbs + w'.natAbs : Nat) : Int)) ≤ c * w' - d * w ∧ c * w' - d * w ≤ 2 * ((w.natAbs + w'.natAbs : Nat) : Int) := by
 have := mulw (w := w') hc
 have := mulw (w := w) hd
 rw [Int.natCast_add]
 omega
theorem pair_bound {a b c a' b' c' x y z N : Int} (hx : 0 ≤ x) (hy : 0 ≤ y) (hz : 0 ≤ z) (A : -2 ≤ a ∧ a ≤ 2) (B : -2 ≤ b ∧ b ≤ 2) (C : -2 ≤ c ∧ c ≤ 2) (A' : -2 ≤ a' ∧ a' ≤ 2) (B' : -2 ≤ b' ∧ b' ≤ 2) (C' : -2 ≤ c' ∧ c' ≤ 2)
  (hN : (a * x + b * y + c * z) * (a * x + b * y + c * z) + (a' * x + b' * y + c' * z) * (a' * x + b' * y + c' * z) ≤ N) (h8 : N ≤ 8 * (x + y + z) + 4)
  (hal : ∀ u1 u2 u3, (u1 = b * c' - c * b' ∧ u2 = c * a' - a * c' ∧ u3 = a * b' - b * a') ∨ (u1 = -(b * c' - c * b') ∧ u2 = -(c * a' - a * c') ∧ u3 = -(a * b' - b * a')) → 0 ≤ u1 → 0 ≤ u2 → 0 ≤ u3 → u1 ≤ x → u2 ≤ y → u3 ≤ z → x = u1 ∧ y = u2 ∧ z = u3) :
  x < 3500 ∧ y < 3500 ∧ z < 3500 := by
 obtain ⟨w, ew⟩ : ∃ w, a * x + b * y + c * z = w := ⟨_, rfl⟩
 obtain ⟨w', ew'⟩ : ∃ w, a' * x + b' * y + c' * z = w := ⟨_, rfl⟩
 rw [ew, ew'] at hN
 have i1 : x * (c * a' - a * c') - y * (b * c' - c * b') = c * w' - c' * w := by rw [← ew, ← ew']; grind
 have i2 : y * (a * b' - b * a') - z * (c * a' - a * c') = a * w' - a' * w := by rw [← ew, ← ew']; grind
 have i3 : z * (b * c' - c * b') - x * (a * b' - b * a') = b * w' - b' * w := by rw [← ew, ← ew']; grind
 have j1 := lin_abs (w := w) (w' := w') C C'
 have j2 := lin_abs (w := w) (w' := w') A A'
 have j3 := lin_abs (w := w) (w' := w') B B'
 obtain ⟨T, eT⟩ : ∃ T : Int, ((w.natAbs + w'.natAbs : Nat) : Int) = T := ⟨_, rfl⟩
 rw [eT] at j1 j2 j3
 have hT : 0 ≤ T := by rw [← eT]; exact Int.not_lt.mp fun qz => lin [_,_] [_,_,_] [(4,.it (.c (.a (.v 0) (.v 1))) (.n 0)),(4,.jf (.c (.a (.v 0) (.v 1))) (.v 0)),(1,.il (.g (.m 2 (.v 0))) (.s (.v 1) (.v 2))),(1,.il (.s (.v 1) (.v 2)) (.m 2 (.v 0)))] rfl qz eT j1.1 j1.2
 have k := pair_case hx hy hz hT (small_prod B C' C B') (small_prod C A' A C') (small_prod A B' B A') (by rw [i1]; exact j1) (by rw [i2]; exact j2) (by rw [i3]; exact j3) (hal _ _ _ (.inl ⟨rfl, rfl, rfl⟩)) (hal _ _ _ (.inr ⟨rfl, rfl, rfl⟩))
 have hTT : T * T ≤ 2 * N := by
  have e1 : ((w.natAbs : Int)) * (w.natAbs : Int) = w * w := by rw [← Int.natCast_mul, Int.natAbs_mul_self]
  have e2 : ((w'.natAbs : Int)) * (w'.natAbs : Int) = w' * w' := by rw [← Int.natCast_mul, Int.natAbs_mul_self]
  have := sq_nonneg ((w.natAbs : Int) - (w'.natAbs : Int))
  have e3 : T = (w.natAbs : Int) + (w'.natAbs : Int) := by exact Int.le_antisymm (Int.not_lt.mp fun qz => lin [_,_] [_] [(1,.it (.a (.c (.v 0)) (.c (.v 1))) (.v 0)),(1,.jf (.c (.a (.v 0) (.v 1))) (.v 0))] rfl qz eT) (Int.not_lt.mp fun qz => lin [_,_] [_] [(1,.it (.v 0) (.a (.c (.v 0)) (.c (.v 1)))),(1,.ie (.c (.a (.v 0) (.v 1))) (.v 0))] rfl qz eT)
  have e4 : 2 * ((w.natAbs : Int) * (w.natAbs : Int)) + 2 * ((w'.natAbs : Int) * (w'.natAbs : Int)) - T * T = ((w.natAbs : Int) - (w'.natAbs : Int)) * ((w.natAbs : Int) - (w'.natAbs : Int)) := by rw [e3]; grind
  exact Int.not_lt.mp fun qz => lin [] [_,_,_,_,_,_,_] [(1,.it (.m 2 (.v 0)) (.v 1)),(1,.jf (.s (.a (.m 2 (.v 2)) (.m 2 (.v 3))) (.v 1)) (.v 4)),(1,.il (.n 0) (.v 4)),(2,.ie (.v 3) (.v 5)),(2,.ie (.v 2) (.v 6)),(2,.il (.a (.v 6) (.v 5)) (.v 0))] rfl qz e4 this e2 e1 hN
 have hT2 : T ≤ 205 := by
  apply Classical.byContradiction
  intro q
  have := Int.mul_le_mul_of_nonneg_right (show 206 ≤ T by exact Int.not_lt.mp fun qz => lin [] [_] [(1,.it (.v 0) (.n 206)),(1,.it (.n 205) (.v 0))] rfl qz (Int.not_le.mp q)) hT
  exact lin [] [_,_,_,_,_,_] [(1,.il (.m 206 (.v 0)) (.v 1)),(14,.it (.n 205) (.v 0)),(1,.il (.v 1) (.m 2 (.v 2))),(16,.il (.a (.a (.v 3) (.v 4)) (.v 5)) (.a (.m 12 (.v 0)) (.n 168))),(2,.il (.v 2) (.a (.m 8 (.a (.a (.v 3) (.v 4)) (.v 5))) (.n 4)))] rfl this (Int.not_le.mp q) hTT k.2.2.2 h8
 exact ⟨Int.not_le.mp fun qz => lin [] [_,_] [(1,.il (.n 3500) (.v 0)),(10,.il (.v 1) (.n 205)),(1,.il (.v 0) (.a (.m 10 (.v 1)) (.n 56)))] rfl qz hT2 k.1, ⟨Int.not_le.mp fun qz => lin [] [_,_] [(1,.il (.n 3500) (.v 0)),(10,.il (.v 1) (.n 205)),(1,.il (.v 0) (.a (.m 10 (.v 1)) (.n 56)))] rfl qz hT2 k.2.1, Int.not_le.mp fun qz => lin [] [_,_] [(1,.il (.n 3500) (.v 0)),(10,.il (.v 1) (.n 205)),(1,.il (.v 0) (.a (.m 10 (.v 1)) (.n 56)))] rfl qz hT2 k.2.2.1⟩⟩
end Mine
namespace Mine
noncomputable abbrev Par (e f : List Int) : Prop := ∀ i j, e.getD i 0 * f.getD j 0 = e.getD j 0 * f.getD i 0
theorem line_of {E : List (List Int)} {n : Nat} {e : List Int} {i : Nat} (hE : ∀ f ∈ E, f.length = n) (he : e.length = n) (hi : e.getD i 0 = 1 ∨ e.getD i 0 = -1) (hp : ∀ f ∈ E, Par e f) : ∃ as : List Int, E = as.map fun a => e.map (a * ·) := by
 refine ⟨E.map fun f => f.getD i 0 * e.getD i 0, ?_⟩
 rw [List.map_map]
 symm
 refine (List.map_congr_left (g := id) fun f hf => ?_).trans (List.map_id _)
 refine ext_get (by simp [he, hE f hf]) fun j hj => ?_
 simp only [Function.comp_def, List.length_map] at hj ⊢
 have hp1 := hp f hf i j
 have e1 : (e.map (f.getD i 0 * e.getD i 0 * ·)).getD j 0 = f.getD i 0 * e.getD i 0 * e.getD j 0 := by
  simp [List.getD_eq_getElem?_getD, hj]
 rw [e1]
 show _ = f.getD j 0
 rcases hi with h | h
 ·rw [h] at hp1 ⊢
  rw [Int.mul_one, Int.mul_comm]; exact Int.le_antisymm (Int.not_lt.mp fun qz => lin [] [_,_] [(1,.it (.v 0) (.v 1)),(1,.jf (.m 1 (.v 0)) (.v 1))] rfl qz hp1) (Int.not_lt.mp fun qz => lin [] [_,_] [(1,.it (.v 0) (.v 1)),(1,.ie (.m 1 (.v 1)) (.v 0))] rfl qz hp1)
 ·rw [h] at hp1 ⊢
  rw [Int.mul_neg, Int.mul_one, Int.neg_mul, Int.mul_comm]; omega
theorem half_get {e : List Int} (i : Nat) : (e.map (· / 2)).getD i 0 = e.getD i 0 / 2 := by
 rw [List.getD_eq_getElem?_getD, List.getElem?_map, List.getD_eq_getElem?_getD]
 cases e[i]? <;> rfl
theorem Fits.parallel {E : List (List Int)} {n : Nat} {once : Bool} (hE : ∀ f ∈ E, f.length = n) (hn : 0 < n) (hn2 : n ≤ 8) (hw : ∀ e ∈ E, ∀ x ∈ e, -2 ≤ x ∧ x ≤ 2) (hp : ∀ e ∈ E, ∀ f ∈ E, Par e f) : Fits E n once := by
 have fit : ∀ (as e : List Int), e.length = n → (∀ x ∈ e, -2 ≤ x ∧ x ≤ 2) → Fits (as.map fun a => e.map (a * ·)) n once := fun as e he hx =>
  Fits.line (w := 2) he hn hx (Nat.le_trans (Nat.pow_le_pow_right (by decide) (show n - 1 ≤ 7 by exact Nat.not_lt.mp fun qz => lin [_,_] [] [(1,.nt (.n 7) (.v 0)),(1,.nl (.v 1) (.n 8)),(1,.ne (.a (.v 0) (.n 1)) (.v 1))] rfl qz hn2 (Nat.sub_add_cancel (Nat.not_lt.mp fun qz => lin [_] [] [(1,.nt (.v 0) (.n 1)),(1,.nt (.n 0) (.v 0))] rfl qz hn)))) (by decide))
 by_cases h1 : ∃ e ∈ E, ∃ i, e.getD i 0 = 1 ∨ e.getD i 0 = -1
 ·obtain ⟨e, he, i, hi⟩ := h1
  obtain ⟨as, h⟩ := line_of hE (hE e he) hi (hp e he)
  rw [h]; exact fit as e (hE e he) (hw e he)
 ·have ev : ∀ e ∈ E, ∀ i, e.getD i 0 = -2 ∨ e.getD i 0 = 0 ∨ e.getD i 0 = 2 := fun e he i => by
   have h2 : ¬ (e.getD i 0 = 1 ∨ e.getD i 0 = -1) := fun q => h1 ⟨e, he, i, q⟩
   have h3 : -2 ≤ e.getD i 0 ∧ e.getD i 0 ≤ 2 := by
    by_cases q : i < e.length
    ·exact hw e he _ (get_mem q)
    ·rw [List.getD_eq_getElem?_getD, List.getElem?_eq_none (by exact (Nat.not_lt.mp q))]; decide
   omega
  by_cases h2 : ∃ e ∈ E, ∃ i, e.getD i 0 = 2 ∨ e.getD i 0 = -2
  ·obtain ⟨e, he, i, hi⟩ := h2
   have hl : (e.map (· / 2)).length = n := by rw [List.length_map]; exact hE e he
   obtain ⟨as, h⟩ := line_of (e := e.map (· / 2)) (i := i) hE hl (by rw [half_get]; omega) fun f hf a b => by
    have h3 := hp e he f hf a b
    rw [half_get, half_get]
    have ha := ev e he a
    have hb := ev e he b
    rcases ha with ha | ha | ha <;> rcases hb with hb | hb | hb <;> rw [ha, hb] at h3 ⊢ <;> omega
   rw [h]
   refine fit as _ hl fun x hx => ?_
   obtain ⟨y, hy, rfl⟩ := List.mem_map.mp hx
   have := hw e he y hy
   omega
  ·have z : E = (E.map fun _ => (0 : Int)).map fun a => (List.replicate n (0 : Int)).map (a * ·) := by
    rw [List.map_map]
    symm
    refine (List.map_congr_left (g := id) fun f hf => ?_).trans (List.map_id _)
    refine ext_get (by simp [hE f hf]) fun j hj => ?_
    have : f.getD j 0 = 0 := by
     have := ev f hf j
     have h3 : ¬ (f.getD j 0 = 2 ∨ f.getD j 0 = -2) := fun q => h2 ⟨f, hf, j, q⟩
     omega
    show _ = f.getD j 0
    rw [this]
    simp [List.getD_eq_getElem?_getD, List.getElem?_replicate]
    split <;> rfl
   rw [z]
   exact fit _ _ (by simp) fun x hx => by
    have := (List.mem_replicate.mp hx).2; exact ⟨Int.not_lt.mp fun qz => lin [] [_] [(1,.it (.v 0) (.g (.n 2))),(1,.jf (.v 0) (.n 0))] rfl qz this, Int.le_of_lt (Int.lt_of_le_of_lt (Int.le_of_eq this) (by decide))⟩
theorem par3 {a b c a' b' c' : Int} (h1 : b * c' - c * b' = 0) (h2 : c * a' - a * c' = 0) (h3 : a * b' - b * a' = 0) : Par [a, b, c] [a', b', c'] := by
 intro i j
 have g : ∀ (a b c : Int) (k : Nat), [a, b, c].getD k 0 = if k = 0 then a else if k = 1 then b else if k = 2 then c else 0 := fun a b c k => by
  match k with
  | 0 => rfl
  | 1 => rfl
  | 2 => rfl
  | k + 3 => simp
 rw [g, g, g, g]
 have e1 := Int.mul_comm a' b
 by_cases i0 : i = 0 <;> by_cases i1 : i = 1 <;> by_cases i2 : i = 2 <;> by_cases j0 : j = 0 <;> by_cases j1 : j = 1 <;> by_cases j2 : j = 2 <;> simp [i0, i1, i2, j0, j1, j2] <;> omega
theorem Par.refl (e : List Int) : Par e e := fun i j => Int.mul_comm _ _
theorem Par.symm {e f : List Int} (h : Par e f) : Par f e := fun i j => by rw [Int.mul_comm, Int.mul_comm (f.getD j 0)]; exact (h j i).symm ▸ rfl
theorem Fits.size3 {E : List (List Int)} {once : Bool} (hE : ∀ e ∈ E, e.length = 3) (hm : E.length ≤ 3) (hw : ∀ e ∈ E, ∀ x ∈ e, -2 ≤ x ∧ x ≤ 2) : Fits E 3 once := by
 obtain ⟨a1, b1, c1, a2, b2, c2, a3, b3, c3, T⟩ := three_of (w := 2) (by decide) hE hm hw
 have hN : ∀ R v, Reach E 3 once R v → dot (wor E v) (wor E v) ≤ 8 * v.sum + 4 := fun R v x => norm_reach hE hm hw x
 have fin : (∀ R v, Alive E 3 once R v → ∀ i, v.getD i 0 < 3500) → Fits E 3 once := fun h =>
  Fits.of (bs := [3500, 3500]) (K := 12288) hE rfl (fun R v x => by
   have hs := x.reach.row.sum
   simp only [sumN_succ, sumN_zero] at hs
   have := h R v x 0; have := h R v x 1; have := h R v x 2
   omega) (fun R v x i hi => by
   have := h R v x (i + 1)
   match i, hi with
   | 0, _ => simpa using this
   | 1, _ => simpa using this) (by decide)
 by_cases hD : a1 * (b2 * c3 - c2 * b3) - b1 * (a2 * c3 - c2 * a3) + c1 * (a2 * b3 - b2 * a3) ≠ 0
 ·exact fin (det_bound T hN hD)
 have hD : a1 * (b2 * c3 - c2 * b3) - b1 * (a2 * c3 - c2 * a3) + c1 * (a2 * b3 - b2 * a3) = 0 := Classical.byContradiction hD
 obtain ⟨⟨A1, B1, C1⟩, ⟨A2, B2, C2⟩, ⟨A3, B3, C3⟩⟩ : _ ∧ _ ∧ _ := ⟨T.s1, T.s2, T.s3⟩
 have bnd : ∀ {a b c a' b' c' : Int}, (-2 ≤ a ∧ a ≤ 2) → (-2 ≤ b ∧ b ≤ 2) → (-2 ≤ c ∧ c ≤ 2) → (-2 ≤ a' ∧ a' ≤ 2) → (-2 ≤ b' ∧ b' ≤ 2) → (-2 ≤ c' ∧ c' ≤ 2) →
   (∀ x y z, (a * x + b * y + c * z) * (a * x + b * y + c * z) + (a' * x + b' * y + c' * z) * (a' * x + b' * y + c' * z) ≤ dot (wor E [x, y, z]) (wor E [x, y, z])) →
   Even E [b * c' - c * b', c * a' - a * c', a * b' - b * a'] → (b * c' - c * b' ≠ 0 ∨ c * a' - a * c' ≠ 0 ∨ a * b' - b * a' ≠ 0) → Fits E 3 once := by
  intro a b c a' b' c' A B C A' B' C' hn hev hne
  refine fin fun R v x => ?_
  obtain ⟨X, Y, Z, rfl, hx, hy, hz⟩ := x.reach.row.three
  have h8 := hN R _ x.reach
  simp only [List.sum_cons, List.sum_nil] at h8
  have hev2 : Even E [-(b * c' - c * b'), -(c * a' - a * c'), -(a * b' - b * a')] := fun t ht => by
   obtain ⟨f, hf, rfl⟩ := List.mem_map.mp ht
   have h1 := Even.iff.mp hev f hf
   have hl := hE f hf
   match f, hl with
   | [p, q, r], _ =>
    simp [dot] at h1 ⊢
    rw [Int.mul_neg, Int.mul_neg, Int.mul_neg]; exact Int.le_antisymm (Int.not_lt.mp fun qz => lin [] [_,_,_] [(1,.it (.n 0) (.a (.g (.v 0)) (.a (.g (.v 1)) (.g (.v 2))))),(1,.jf (.a (.v 0) (.a (.v 1) (.v 2))) (.n 0))] rfl qz h1) (Int.not_lt.mp fun qz => lin [] [_,_,_] [(1,.it (.a (.g (.v 0)) (.a (.g (.v 1)) (.g (.v 2)))) (.n 0)),(1,.ie (.a (.v 0) (.a (.v 1) (.v 2))) (.n 0))] rfl qz h1)
  have := pair_bound hx hy hz A B C A' B' C' (hn X Y Z) (by exact Int.not_lt.mp fun qz => lin [] [_,_,_,_] [(1,.it (.a (.m 8 (.a (.a (.v 0) (.v 1)) (.v 2))) (.n 4)) (.v 3)),(1,.il (.v 3) (.a (.m 8 (.a (.v 0) (.a (.v 1) (.a (.v 2) (.n 0))))) (.n 4)))] rfl qz h8) fun u1 u2 u3 hu p1 p2 p3 l1 l2 l3 => by
   have heu : Even E [u1, u2, u3] := by
    rcases hu with ⟨rfl, rfl, rfl⟩ | ⟨rfl, rfl, rfl⟩
    ·exact hev
    ·exact hev2
   have h := x.bare [u1, u2, u3] (.of rfl fun t ht => by
    simp at ht; rcases ht with rfl | rfl | rfl <;> assumption) heu (by
    simp only [List.sum_cons, List.sum_nil]
    rcases hu with ⟨e1, e2, e3⟩ | ⟨e1, e2, e3⟩ <;> omega) fun i => by
     match i with
     | 0 => simpa using l1
     | 1 => simpa using l2
     | 2 => simpa using l3
     | i + 3 => simp
   simp at h
   exact ⟨(h.1).symm, ⟨(h.2.1).symm, (h.2.2).symm⟩⟩
  intro i
  match i with
  | 0 => simpa using this.1
  | 1 => simpa using this.2.1
  | 2 => simpa using this.2.2
  | i + 3 => simp
 have sq := sq_nonneg
 by_cases h12 : b1 * c2 - c1 * b2 ≠ 0 ∨ c1 * a2 - a1 * c2 ≠ 0 ∨ a1 * b2 - b1 * a2 ≠ 0
 ·exact bnd A1 B1 C1 A2 B2 C2 (fun x y z => by rw [T.norm]; have := sq (a3 * x + b3 * y + c3 * z); exact Int.not_lt.mp fun qz => lin [] [_,_,_] [(1,.it (.a (.a (.v 0) (.v 1)) (.v 2)) (.a (.v 0) (.v 1))),(1,.il (.n 0) (.v 2))] rfl qz this) (T.even (by grind) (by grind) (by grind)) h12
 by_cases h13 : b1 * c3 - c1 * b3 ≠ 0 ∨ c1 * a3 - a1 * c3 ≠ 0 ∨ a1 * b3 - b1 * a3 ≠ 0
 ·exact bnd A1 B1 C1 A3 B3 C3 (fun x y z => by rw [T.norm]; have := sq (a2 * x + b2 * y + c2 * z); exact Int.not_lt.mp fun qz => lin [] [_,_,_] [(1,.it (.a (.a (.v 0) (.v 1)) (.v 2)) (.a (.v 0) (.v 2))),(1,.il (.n 0) (.v 1))] rfl qz this) (T.even (by grind) (by grind) (by grind)) h13
 by_cases h23 : b2 * c3 - c2 * b3 ≠ 0 ∨ c2 * a3 - a2 * c3 ≠ 0 ∨ a2 * b3 - b2 * a3 ≠ 0
 ·exact bnd A2 B2 C2 A3 B3 C3 (fun x y z => by rw [T.norm]; have := sq (a1 * x + b1 * y + c1 * z); exact Int.not_lt.mp fun qz => lin [] [_,_,_] [(1,.it (.a (.a (.v 0) (.v 1)) (.v 2)) (.a (.v 1) (.v 2))),(1,.il (.n 0) (.v 0))] rfl qz this) (T.even (by grind) (by grind) (by grind)) h23
 have q12 : Par [a1, b1, c1] [a2, b2, c2] := par3 (by omega) (by omega) (by omega)
 have q13 : Par [a1, b1, c1] [a3, b3, c3] := par3 (by omega) (by omega) (by omega)
 have q23 : Par [a2, b2, c2] [a3, b3, c3] := par3 (by omega) (by omega) (by omega)
 refine Fits.parallel hE (by decide) (by decide) hw fun e he f hf => ?_
 rcases T.mem e he with rfl | rfl | rfl <;> rcases T.mem f hf with rfl | rfl | rfl
 ·exact .refl _
 ·exact q12
 ·exact q13
 ·exact q12.symm
 ·exact .refl _
 ·exact q23
 ·exact q13.symm
 ·exact q23.symm
 ·exact .refl _
noncomputable def mostN (n m : Nat) : Int := if n < 3 then 20 else if n = 3 then (if m < 2 then 5 else 2) else (if m < 2 then 2 else 1)
theorem Fits.base {E : List (List Int)} {n : Nat} {once : Bool} (h1 : 1 ≤ n) (h5 : n ≤ 5) (hE : ∀ e ∈ E, e.length = n) (hm : E.length ≤ 3) (hw : ∀ e ∈ E, ∀ x ∈ e, -mostN n E.length ≤ x ∧ x ≤ mostN n E.length) : Fits E n once := by
 have hone : ∀ w : Nat, E.length < 2 → (∀ e ∈ E, ∀ x ∈ e, -(w : Int) ≤ x ∧ x ≤ w) → (2 * w + 3) ^ (n - 1) ≤ 16000000 → w ≤ 20 → Fits E n once := fun w hl hx hk hk2 => by
  match E, hl with
  | [], _ => exact Fits.none h1 (by exact Nat.le_of_lt (Nat.lt_of_le_of_lt h5 (by decide)))
  | [e], _ => exact Fits.one (hE e (.head _)) h1 (hx e (.head _)) hk hk2
 have : n = 1 ∨ n = 2 ∨ n = 3 ∨ n = 4 ∨ n = 5 := by omega
 rcases this with rfl | rfl | rfl | rfl | rfl
 ·exact Fits.size1 hE
 ·exact Fits.size2 hE hm hw
 ·by_cases hl : E.length < 2
  ·exact hone 5 hl (by simpa [mostN, hl] using hw) (by decide) (by decide)
  ·exact Fits.size3 hE hm (by simpa [mostN, hl] using hw)
 ·by_cases hl : E.length < 2
  ·exact hone 2 hl (by simpa [mostN, hl] using hw) (by decide) (by decide)
  ·exact Fits.ones hE hm (by simpa [mostN, hl] using hw) h1 h5
 ·by_cases hl : E.length < 2
  ·exact hone 2 hl (by simpa [mostN, hl] using hw) (by decide) (by decide)
  ·exact Fits.ones hE hm (by simpa [mostN, hl] using hw) h1 h5
end Mine
namespace Mine
noncomputable def takR (l o : List Int) (k : Int) : List Int := (l.zip o).map fun q => q.1 - k * q.2
noncomputable def putR (l o : List Int) (k : Int) : List Int := (l.zip o).map fun q => q.1 + k * q.2
theorem takR_len {l o : List Int} {k : Int} {n : Nat} (h1 : l.length = n) (h2 : o.length = n) : (takR l o k).length = n := by simp [takR, h1, h2]
theorem putR_len {l o : List Int} {k : Int} {n : Nat} (h1 : l.length = n) (h2 : o.length = n) : (putR l o k).length = n := by simp [putR, h1, h2]
theorem takR_get {l o : List Int} {k : Int} (h : l.length = o.length) (i : Nat) : (takR l o k).getD i 0 = l.getD i 0 - k * o.getD i 0 := by
 unfold takR
 induction l generalizing o i with
 | nil => cases o <;> simp at h ⊢
 | cons a l ih =>
  cases o with
  | nil => simp at h
  | cons b o =>
   cases i with
   | zero => simp
   | succ i => simpa using ih (by simpa using h) i
theorem putR_get {l o : List Int} {k : Int} (h : l.length = o.length) (i : Nat) : (putR l o k).getD i 0 = l.getD i 0 + k * o.getD i 0 := by
 unfold putR
 induction l generalizing o i with
 | nil => cases o <;> simp at h ⊢
 | cons a l ih =>
  cases o with
  | nil => simp at h
  | cons b o =>
   cases i with
   | zero => simp
   | succ i => simpa using ih (by simpa using h) i
theorem dot_takR {e l o : List Int} {k : Int} (h : l.length = o.length) : dot e (takR l o k) = dot e l - k * dot e o := by
 unfold takR
 induction l generalizing e o with
 | nil => cases o <;> simp at h ⊢ ; simp [dot_nil_r]
 | cons a l ih =>
  cases o with
  | nil => simp at h
  | cons b o =>
   cases e with
   | nil => simp [dot_nil_l]
   | cons c e =>
    rw [List.zip_cons_cons, List.map_cons, dot_cons, dot_cons, dot_cons, ih (by simpa using h)]
    simp only
    rw [Int.mul_sub, Int.mul_add, ← Int.mul_assoc c k b, Int.mul_comm c k, Int.mul_assoc k c b]
    exact Int.le_antisymm (Int.not_lt.mp fun qz => lin [] [_,_,_,_] [(1,.it (.s (.a (.v 0) (.v 1)) (.a (.v 2) (.v 3))) (.a (.s (.v 0) (.v 2)) (.s (.v 1) (.v 3))))] rfl qz) (Int.not_lt.mp fun qz => lin [] [_,_,_,_] [(1,.it (.a (.s (.v 0) (.v 1)) (.s (.v 2) (.v 3))) (.s (.a (.v 0) (.v 2)) (.a (.v 1) (.v 3))))] rfl qz)
structure Oft (o l : List Int) (k : Int) : Prop where
 lo : 0 ≤ k
 le : ∀ i, k * o.getD i 0 ≤ l.getD i 0
 top : ∃ i, l.getD i 0 < (k + 1) * o.getD i 0
theorem Oft.row {n : Nat} {o l : List Int} {k : Int} (h : Oft o l k) (ro : Row n o) (rl : Row n l) : Row n (takR l o k) := ⟨takR_len rl.len ro.len, fun i => by
 rw [takR_get (by rw [rl.len, ro.len])]; have := h.le i; exact Int.not_lt.mp fun qz => lin [] [_,_] [(1,.it (.s (.v 0) (.v 1)) (.n 0)),(1,.il (.v 1) (.v 0))] rfl qz this⟩
theorem Oft.below {n : Nat} {o l : List Int} {k : Int} (h : Oft o l k) (ro : Row n o) (rl : Row n l) : Le (takR l o k) l := fun i => by
 rw [takR_get (by rw [rl.len, ro.len])]; have := Int.mul_nonneg h.lo (ro.pos i); exact Int.not_lt.mp fun qz => lin [] [_,_] [(1,.it (.v 0) (.s (.v 0) (.v 1))),(1,.il (.n 0) (.v 1))] rfl qz this
theorem Oft.out {n : Nat} {o l : List Int} {k : Int} (h : Oft o l k) (ro : Row n o) (rl : Row n l) : ¬ Le o (takR l o k) := fun q => by
 obtain ⟨i, hi⟩ := h.top
 have := q i
 rw [takR_get (by rw [rl.len, ro.len])] at this
 rw [Int.add_mul] at hi
 exact lin [] [_,_,_] [(1,.il (.v 0) (.s (.v 1) (.v 2))),(1,.it (.v 1) (.a (.v 2) (.m 1 (.v 0))))] rfl this hi
theorem Oft.even {E : List (List Int)} {n : Nat} {o l : List Int} {k : Int} (ro : Row n o) (rl : Row n l) (eo : Even E o) (el : Even E l) : Even E (takR l o k) := by
 rw [Even.iff] at *
 intro e he
 rw [dot_takR (by rw [rl.len, ro.len]), eo e he, el e he]; simp
noncomputable def lefF (l : List Int) (os : List (List Int)) (ks : List Int) : List Int := (os.zip ks).foldl (fun m q => takR m q.1 q.2) l
theorem lefF_snoc {l o : List Int} {os : List (List Int)} {ks : List Int} {k : Int} (h : os.length = ks.length) : lefF l (os ++ [o]) (ks ++ [k]) = takR (lefF l os ks) o k := by
 simp [lefF, List.zip_append h]
structure Good (os : List (List Int)) (l ks : List Int) : Prop where
 len : ks.length = os.length
 oft : ∀ j o k, os[j]? = some o → ks[j]? = some k → Oft o (lefF l (os.take j) (ks.take j)) k
theorem Good.nil {l : List Int} : Good [] l [] := ⟨rfl, fun j o k h => by simp at h⟩
theorem Good.snoc {os : List (List Int)} {l ks o : List Int} {k : Int} (G : Good os l ks) (h : Oft o (lefF l os ks) k) : Good (os ++ [o]) l (ks ++ [k]) where
 len := by simp [G.len]
 oft := fun j o' k' h1 h2 => by
  have hl := G.len
  by_cases q : j < os.length
  ·rw [List.getElem?_append_left q] at h1
   rw [List.getElem?_append_left (by exact Nat.lt_of_lt_of_le q (Nat.le_of_eq hl.symm))] at h2
   rw [List.take_append_of_le_length (by exact Nat.le_of_lt q), List.take_append_of_le_length (by exact Nat.le_of_lt (Nat.lt_of_lt_of_le q (Nat.le_of_eq hl.symm)))]
   exact G.oft j o' k' h1 h2
  ·have hj : j = os.length := by
    have := (List.getElem?_eq_some_iff.mp h1).1
    simp at this; exact Nat.le_antisymm (Nat.not_lt.mp fun qz => lin [_,_] [] [(1,.nt (.v 0) (.v 1)),(1,.nt (.v 1) (.a (.v 0) (.n 1)))] rfl qz this) (Nat.not_lt.mp fun qz => lin [_,_] [] [(1,.nt (.v 0) (.v 1)),(1,.nl (.v 1) (.v 0))] rfl qz (Nat.not_lt.mp q))
   subst hj
   rw [List.getElem?_append_right (by exact Nat.not_lt.mp fun qz => lin [_] [] [(1,.nt (.v 0) (.v 0))] rfl qz)] at h1
   rw [List.getElem?_append_right (by exact (Nat.le_of_eq hl))] at h2
   rw [Nat.sub_self] at h1
   rw [hl, Nat.sub_self] at h2
   simp at h1 h2
   subst h1; subst h2
   rw [List.take_append_of_le_length (by exact Nat.not_lt.mp fun qz => lin [_] [] [(1,.nt (.v 0) (.v 0))] rfl qz), List.take_append_of_le_length (by exact (Nat.le_of_eq hl.symm)), List.take_length, ← hl, List.take_length]
   exact h
theorem snoc_take {α : Type} {l : List α} {j : Nat} {x : α} (h : l[j]? = some x) : l.take (j + 1) = l.take j ++ [x] := by
 rw [List.take_add_one, h]; rfl
theorem lefF_next {l o : List Int} {os : List (List Int)} {ks : List Int} {k : Int} {j : Nat} (h1 : os[j]? = some o) (h2 : ks[j]? = some k) : lefF l (os.take (j + 1)) (ks.take (j + 1)) = takR (lefF l (os.take j) (ks.take j)) o k := by
 have a1 := (List.getElem?_eq_some_iff.mp h1).1
 have a2 := (List.getElem?_eq_some_iff.mp h2).1
 rw [snoc_take h1, snoc_take h2, lefF_snoc (by simp; omega)]
theorem Good.all {n : Nat} {os : List (List Int)} {l ks : List Int} (G : Good os l ks) (rl : Row n l) (ro : ∀ o ∈ os, Row n o) : ∀ j, j ≤ os.length → Row n (lefF l (os.take j) (ks.take j)) ∧ Le (lefF l (os.take j) (ks.take j)) l ∧ (∀ i o, i < j → os[i]? = some o → ¬ Le o (lefF l (os.take j) (ks.take j))) := by
 intro j
 induction j with
 | zero => intro _; exact ⟨by simpa [lefF] using rl, by simp only [lefF, List.take_zero, List.zip_nil_left, List.foldl_nil]; exact Le.refl l, fun i o h => by omega⟩
 | succ j ih =>
  intro hj
  obtain ⟨a, b, c⟩ := ih (by exact Nat.le_of_lt hj)
  have e1 : os[j]? = some os[j] := List.getElem?_eq_getElem hj
  have hl := G.len
  have e2 : ks[j]? = some ks[j] := List.getElem?_eq_getElem (by exact Nat.lt_of_lt_of_le hj (Nat.le_of_eq hl.symm))
  have h := G.oft j _ _ e1 e2
  have ro' := ro _ (List.getElem_mem hj)
  rw [lefF_next e1 e2]
  refine ⟨h.row ro' a, (h.below ro' a).trans b, fun i o hi ho => ?_⟩
  by_cases q : i < j
  ·exact fun z => c i o q ho (z.trans (h.below ro' a))
  ·have : i = j := by exact Nat.le_antisymm (Nat.not_lt.mp fun qz => lin [_,_] [] [(1,.nt (.v 0) (.v 1)),(1,.nt (.v 1) (.a (.v 0) (.n 1)))] rfl qz hi) (Nat.not_lt.mp fun qz => lin [_,_] [] [(1,.nt (.v 0) (.v 1)),(1,.nl (.v 1) (.v 0))] rfl qz (Nat.not_lt.mp q))
   subst this
   rw [e1] at ho
   cases ho
   exact h.out ro' a
theorem Good.even {E : List (List Int)} {n : Nat} {os : List (List Int)} {l ks : List Int} (G : Good os l ks) (rl : Row n l) (ro : ∀ o ∈ os, Row n o) (el : Even E l) (eo : ∀ o ∈ os, Even E o) : ∀ j, j ≤ os.length → Even E (lefF l (os.take j) (ks.take j)) := by
 intro j
 induction j with
 | zero => intro _; simpa [lefF] using el
 | succ j ih =>
  intro hj
  have e1 : os[j]? = some os[j] := List.getElem?_eq_getElem hj
  have hl := G.len
  have e2 : ks[j]? = some ks[j] := List.getElem?_eq_getElem (by exact Nat.lt_of_lt_of_le hj (Nat.le_of_eq hl.symm))
  rw [lefF_next e1 e2]
  exact Oft.even (ro _ (List.getElem_mem hj)) (G.all rl ro j (by exact Nat.le_of_lt hj)).1 (eo _ (List.getElem_mem hj)) (ih (by exact Nat.le_of_lt hj))
theorem Row.zero {n : Nat} {v : List Int} (r : Row n v) (h : v.sum ≤ 0) : v = List.replicate n 0 := by
 refine List.eq_replicate_iff.mpr ⟨r.len, fun x hx => ?_⟩
 obtain ⟨i, _, e⟩ := mem_get hx
 have := get_le_sum r i
 have := r.pos i
 omega
theorem Good.done {E : List (List Int)} {n : Nat} {os : List (List Int)} {l ks : List Int} (G : Good os l ks) (rl : Row n l) (el : Even E l) (hm : ∀ s, s ∈ os ↔ Least E n s) : lefF l os ks = List.replicate n 0 := by
 have ro : ∀ o ∈ os, Row n o := fun o ho => ((hm o).mp ho).row
 have h := G.all rl ro os.length (Nat.le_refl _)
 have he := G.even rl ro el (fun o ho => ((hm o).mp ho).even) os.length (Nat.le_refl _)
 have hl := G.len
 rw [List.take_length, ← hl, List.take_length] at h he
 refine h.1.zero ?_
 apply Classical.byContradiction
 intro q
 obtain ⟨s, ls, hs⟩ := least_below _ (Nat.le_refl _) h.1 he (by exact (Int.not_le.mp q))
 obtain ⟨i, hi, e⟩ := List.mem_iff_getElem.mp ((hm s).mpr ls)
 exact h.2.2 i s (by exact Nat.lt_of_lt_of_le hi (Nat.le_of_eq hl.symm)) (by rw [List.getElem?_eq_getElem hi, e]) hs
end Mine
namespace Mine
end Mine
namespace Mine
noncomputable def comb : List Int → List (Nat → Int) → Nat → Int
 | a :: as, v :: vs, i => a * v i + comb as vs i
 | _, _, _ => 0
noncomputable def Dep (vs : List (Nat → Int)) : Prop := ∃ as : List Int, as.length = vs.length ∧ (∃ a ∈ as, a ≠ 0) ∧ ∀ i, comb as vs i = 0
noncomputable def Dm (V : (Nat → Int) → Prop) (k : Nat) : Prop := ∀ vs : List (Nat → Int), vs.length = k + 1 → (∀ v ∈ vs, V v) → Dep vs
theorem Dep.cons {vs : List (Nat → Int)} (v : Nat → Int) (h : Dep vs) : Dep (v :: vs) := by
 obtain ⟨as, h1, ⟨a, ha, h2⟩, h3⟩ := h
 exact ⟨0 :: as, congrArg (· + 1) h1, ⟨a, .tail _ ha, h2⟩, fun i => by rw [comb, h3, Int.zero_mul]; rfl⟩
theorem comb_perm {us vs : List (Nat → Int)} (h : us.Perm vs) : ∀ as : List Int, as.length = us.length → ∃ bs : List Int, bs.length = vs.length ∧ (∀ x ∈ as, x ∈ bs) ∧ ∀ i, comb bs vs i = comb as us i := by
 induction h with
 | nil => exact fun as h => ⟨as, h, fun _ h => h, fun _ => rfl⟩
 | cons x _ ih =>
  intro as h
  cases as with
  | nil => cases h
  | cons a as =>
   obtain ⟨bs, h1, h2, h3⟩ := ih as (Nat.succ.inj h)
   refine ⟨a :: bs, congrArg (· + 1) h1, fun x hx => ?_, fun i => by rw [comb, comb, h3]⟩
   rcases List.mem_cons.mp hx with h | h
   ·exact h ▸ .head _
   ·exact .tail _ (h2 x h)
 | swap x y l =>
  intro as h
  match as, h with
  | a :: b :: as, h =>
   refine ⟨b :: a :: as, h, fun x hx => by simp only [List.mem_cons] at hx ⊢; rcases hx with h | h | h <;> simp [h], fun i => ?_⟩
   simp only [comb]; exact Int.le_antisymm (Int.not_lt.mp fun qz => lin [] [_,_,_] [(1,.it (.a (.v 0) (.a (.v 1) (.v 2))) (.a (.v 1) (.a (.v 0) (.v 2))))] rfl qz) (Int.not_lt.mp fun qz => lin [] [_,_,_] [(1,.it (.a (.v 0) (.a (.v 1) (.v 2))) (.a (.v 1) (.a (.v 0) (.v 2))))] rfl qz)
 | trans _ _ ih1 ih2 =>
  intro as h
  obtain ⟨bs, h1, h2, h3⟩ := ih1 as h
  obtain ⟨cs, h4, h5, h6⟩ := ih2 bs h1
  exact ⟨cs, h4, fun x hx => h5 x (h2 x hx), fun i => (h6 i).trans (h3 i)⟩
theorem Dep.perm {us vs : List (Nat → Int)} (h : us.Perm vs) (d : Dep us) : Dep vs := by
 obtain ⟨as, h1, ⟨a, ha, h2⟩, h3⟩ := d
 obtain ⟨bs, h4, h5, h6⟩ := comb_perm h as h1
 exact ⟨bs, h4, ⟨a, h5 a ha, h2⟩, fun i => (h6 i).trans (h3 i)⟩
theorem comb_scale (c : Int) (i : Nat) : ∀ (as : List Int) (vs : List (Nat → Int)), comb (as.map (c * ·)) vs i = c * comb as vs i
 | [], _ => by simp [comb]
 | _ :: _, [] => by simp [comb]
 | a :: as, v :: vs => by rw [List.map_cons, comb, comb, comb_scale c i as vs, Int.mul_add, Int.mul_assoc]
theorem comb_elim (c : Int) (p : Nat → Int) (n i : Nat) : ∀ (as : List Int) (vs : List (Nat → Int)), comb as (vs.map fun v i => c * v i - v n * p i) i = c * comb as vs i - comb as vs n * p i
 | [], _ => by simp [comb]
 | _ :: _, [] => by simp [comb]
 | a :: as, v :: vs => by rw [List.map_cons, comb, comb, comb, comb_elim c p n i as vs]; grind
theorem Dm.all : ∀ n, Dm (fun v => ∀ i, n ≤ i → v i = 0) n
 | 0, [v], _, h => ⟨[1], rfl, ⟨1, .head _, by decide⟩, fun i => by rw [comb, h v (.head _) i (Nat.zero_le _)]; rfl⟩
 | n + 1, vs, hl, h => by
  by_cases q : ∃ p ∈ vs, p n ≠ 0
  ·obtain ⟨p, hp, hn⟩ := q
   obtain ⟨l1, l2, rfl⟩ := List.append_of_mem hp
   refine Dep.perm List.perm_middle.symm ?_
   have hm : ∀ v ∈ l1 ++ l2, v ∈ l1 ++ p :: l2 := fun v hv => (List.perm_middle.mem_iff).mpr (.tail _ hv)
   have hl' : (l1 ++ l2).length = n + 1 := Nat.succ.inj ((List.perm_middle (a := p) (l₁ := l1) (l₂ := l2)).length_eq.symm.trans hl)
   generalize l1 ++ l2 = us at hm hl'
   obtain ⟨as, h1, ⟨a, ha, h2⟩, h3⟩ := Dm.all n (us.map fun v i => p n * v i - v n * p i) (by rw [List.length_map, hl']) fun w hw => by
    obtain ⟨v, hv, rfl⟩ := List.mem_map.mp hw
    have hv := h v (hm v hv)
    intro i hi
    by_cases e : i = n
    ·subst e; show p i * v i - v i * p i = 0; rw [Int.mul_comm]; exact Int.le_antisymm (Int.not_lt.mp fun qz => lin [] [_] [(1,.it (.n 0) (.s (.v 0) (.v 0)))] rfl qz) (Int.not_lt.mp fun qz => lin [] [_] [(1,.it (.s (.v 0) (.v 0)) (.n 0))] rfl qz)
    ·show p n * v i - v n * p i = 0
     rw [hv i (by omega), h p hp i (by omega)]; simp
   refine ⟨-(comb as us n) :: as.map (p n * ·), by rw [List.length_cons, List.length_map, h1, List.length_map]; rfl, ⟨p n * a, .tail _ (List.mem_map.mpr ⟨a, ha, rfl⟩), Int.mul_ne_zero hn h2⟩, fun i => ?_⟩
   have := h3 i
   rw [comb_elim] at this
   rw [comb, comb_scale, Int.neg_mul]; exact Int.le_antisymm (Int.not_lt.mp fun qz => lin [] [_,_] [(1,.it (.n 0) (.a (.g (.v 0)) (.v 1))),(1,.ie (.s (.v 1) (.v 0)) (.n 0))] rfl qz this) (Int.not_lt.mp fun qz => lin [] [_,_] [(1,.it (.a (.g (.v 0)) (.v 1)) (.n 0)),(1,.jf (.s (.v 1) (.v 0)) (.n 0))] rfl qz this)
  ·match vs, hl with
   | v :: vs, hl =>
    refine Dep.cons v (Dm.all n vs (Nat.succ.inj hl) fun w hw i hi => ?_)
    by_cases e : i = n
    ·subst e; exact Classical.byContradiction fun z => q ⟨w, .tail _ hw, z⟩
    ·exact h w (.tail _ hw) i (by omega)
structure Ln (f : (Nat → Int) → Int) : Prop where
 add : ∀ a v w, f (fun i => a * v i + w i) = a * f v + f w
 zero : f (fun _ => 0) = 0
theorem Ln.comb {f : (Nat → Int) → Int} (L : Ln f) : ∀ (as : List Int) (vs : List (Nat → Int)), (∀ v ∈ vs, f v = 0) → f (Mine.comb as vs) = 0
 | [], _, _ => L.zero
 | _ :: _, [], _ => L.zero
 | a :: as, v :: vs, h => by
  have := L.add a v (Mine.comb as vs)
  rw [h v (.head _), L.comb as vs fun w hw => h w (.tail _ hw), Int.mul_zero] at this
  exact this
theorem Dm.cut {V : (Nat → Int) → Prop} {k : Nat} {f : (Nat → Int) → Int} (D : Dm V (k + 1)) (L : Ln f) {d : Nat → Int} (hd : V d) (hf : f d ≠ 0) : Dm (fun v => V v ∧ f v = 0) k := fun vs hl hv => by
 obtain ⟨as, h1, ⟨b, hb, h2⟩, h3⟩ := D (d :: vs) (congrArg (· + 1) hl) fun v h => by
  rcases List.mem_cons.mp h with h | h
  ·exact h ▸ hd
  ·exact (hv v h).1
 match as, h1 with
 | a :: as, h1 =>
  have h4 := L.add a d (Mine.comb as vs)
  rw [L.comb as vs fun v h => (hv v h).2, show (fun i => a * d i + Mine.comb as vs i) = fun _ => 0 from funext h3, L.zero, Int.add_zero] at h4
  have ha : a = 0 := (Int.mul_eq_zero.mp h4.symm).resolve_right hf
  subst ha
  refine ⟨as, Nat.succ.inj h1, ⟨b, (List.mem_cons.mp hb).resolve_left h2, h2⟩, fun i => ?_⟩
  have := h3 i
  rw [Mine.comb, Int.zero_mul, Int.zero_add] at this
  exact this
theorem Dm.nil {V : (Nat → Int) → Prop} (D : Dm V 0) {v : Nat → Int} (h : V v) (i : Nat) : v i = 0 := by
 obtain ⟨as, h1, ⟨b, hb, h2⟩, h3⟩ := D [v] rfl fun w hw => (List.mem_singleton.mp hw) ▸ h
 match as, h1 with
 | [a], _ =>
  have : a * v i + 0 = 0 := h3 i
  rw [Int.add_zero] at this
  exact (Int.mul_eq_zero.mp this).resolve_left (List.mem_singleton.mp hb ▸ h2)
noncomputable def ev (n : Nat) (e : List Int) (v : Nat → Int) : Int := sumN n fun i => e.getD i 0 * v i
theorem ev_ln (n : Nat) (e : List Int) : Ln (ev n e) where
 add := fun a v w => by
  unfold ev
  rw [← sumN_mul, ← sumN_add]
  exact sumN_congr fun i _ => by rw [Int.mul_add, ← Int.mul_assoc, ← Int.mul_assoc, Int.mul_comm a]
 zero := (sumN_congr fun i _ => Int.mul_zero _).trans (sumN_const0 n)
noncomputable def Ker (n : Nat) (F : List (List Int)) (v : Nat → Int) : Prop := (∀ i, n ≤ i → v i = 0) ∧ ∀ f ∈ F, ev n f v = 0
theorem basis (n : Nat) : ∀ E : List (List Int), ∃ (F : List (List Int)) (k : Nat), F.Sublist E ∧ F.length + k = n ∧ Dm (Ker n F) k ∧ ∀ v, Ker n F v → Ker n E v
 | [] => ⟨[], n, .slnil, by simp, fun vs hl h => Dm.all n vs hl fun v hv => (h v hv).1, fun _ h => h⟩
 | e :: E => by
  obtain ⟨F, k, h1, h2, h3, h4⟩ := basis n E
  by_cases q : ∃ d, Ker n F d ∧ ev n e d ≠ 0
  ·obtain ⟨d, hd, ne⟩ := q
   cases k with
   | zero => exact absurd ((congrArg (ev n e) (funext (h3.nil hd))).trans (ev_ln n e).zero) ne
   | succ k =>
    refine ⟨e :: F, k, h1.cons₂ e, by rw [List.length_cons]; exact Nat.le_antisymm (Nat.not_lt.mp fun qz => lin [_,_,_] [] [(1,.nt (.v 0) (.a (.a (.v 1) (.n 1)) (.v 2))),(1,.ne (.a (.v 1) (.a (.v 2) (.n 1))) (.v 0))] rfl qz h2) (Nat.not_lt.mp fun qz => lin [_,_,_] [] [(1,.nt (.a (.a (.v 0) (.n 1)) (.v 1)) (.v 2)),(1,.nf (.a (.v 0) (.a (.v 1) (.n 1))) (.v 2))] rfl qz h2), fun vs hl h => h3.cut (ev_ln n e) hd ne vs hl fun v hv => ?_, fun v hv => ?_⟩
    ·have := h v hv
     exact ⟨⟨this.1, fun f hf => this.2 f (.tail _ hf)⟩, this.2 e (.head _)⟩
    ·refine ⟨hv.1, fun f hf => ?_⟩
     rcases List.mem_cons.mp hf with rfl | hf
     ·exact hv.2 _ (.head _)
     ·exact (h4 v ⟨hv.1, fun f hf => hv.2 f (.tail _ hf)⟩).2 f hf
  ·refine ⟨F, k, h1.cons e, h2, h3, fun v hv => ⟨hv.1, fun f hf => ?_⟩⟩
   rcases List.mem_cons.mp hf with rfl | hf
   ·exact Classical.byContradiction fun z => q ⟨v, hv, z⟩
   ·exact (h4 v hv).2 f hf
end Mine
namespace Mine
section
variable {E : List (List Int)} {n : Nat} {x y : List Int}
theorem Row.beyond (r : Row n x) {i : Nat} (h : n ≤ i) : x.getD i 0 = 0 := by
 rw [List.getD_eq_getElem?_getD, List.getElem?_eq_none (by rw [r.len]; exact h)]; rfl
theorem ev_dot {e : List Int} (he : e.length = n) (r : Row n x) : ev n e (fun i => x.getD i 0) = dot e x := by
 rw [dot_eq_sumN (by rw [he, r.len]), r.len]; rfl
theorem Least.ker (hE : ∀ e ∈ E, e.length = n) (L : Least E n x) : Ker n E fun i => x.getD i 0 :=
 ⟨fun i h => L.row.beyond h, fun e he => (ev_dot (hE e he) L.row).trans (Even.iff.mp L.even e he)⟩
theorem Ker.even (hE : ∀ e ∈ E, e.length = n) (r : Row n x) (h : Ker n E fun i => x.getD i 0) : Even E x :=
 Even.iff.mpr fun e he => (ev_dot (hE e he) r).symm.trans (h.2 e he)
theorem Least.via {F : List (List Int)} (hE : ∀ e ∈ E, e.length = n) (hs : F.Sublist E) (hk : ∀ v, Ker n F v → Ker n E v) (L : Least E n x) : Least F n x where
 row := L.row
 even := Even.iff.mpr fun e he => Even.iff.mp L.even e (hs.subset he)
 pos := L.pos
 least := fun g rg eg pg lg => L.least g rg (Ker.even hE rg (hk _ ⟨fun i h => rg.beyond h, fun e he => (ev_dot (hE e (hs.subset he)) rg).trans (Even.iff.mp eg e he)⟩)) pg lg
theorem Least.ne (L : Least E n x) : ∃ i, x.getD i 0 ≠ 0 := Classical.byContradiction fun q => by
 have h := L.pos
 rw [L.row.sum, sumN_congr (g := fun _ => 0) fun i _ => Classical.byContradiction fun z => q ⟨i, z⟩, sumN_const0] at h
 exact absurd h (by decide)
theorem Least.le (a : Least E n x) (b : Least E n y) (h : ∀ i, x.getD i 0 ≤ y.getD i 0) : x = y := b.least x a.row a.even a.pos h
theorem Least.prop (a : Least E n x) (b : Least E n y) {p q : Int} {u : Nat → Int} (hp : p ≠ 0) (h : ∀ i, p * (x.getD i 0 - y.getD i 0) = q * u i) (hu : ∀ i, 0 ≤ u i) : x = y := by
 have aux : ∀ {p q t u : Int}, 0 < p → 0 ≤ q → 0 ≤ u → p * t = q * u → 0 ≤ t := fun {p q t u} hp hq hu e => by
  apply Classical.byContradiction
  intro z
  have h1 := Int.mul_neg_of_pos_of_neg hp (show t < 0 by exact (Int.not_le.mp z))
  have h2 := Int.mul_nonneg hq hu
  exact lin [] [_,_] [(1,.il (.n 0) (.v 0)),(1,.it (.v 1) (.n 0)),(1,.jf (.v 1) (.v 0))] rfl h2 h1 e
 have key : ∀ {p q : Int}, 0 < p → (∀ i, p * (x.getD i 0 - y.getD i 0) = q * u i) → x = y := fun {p q} hp h => by
  by_cases hq : 0 ≤ q
  ·exact (b.le a fun i => Int.sub_nonneg.mp (aux hp hq (hu i) (h i))).symm
  ·refine a.le b fun i => Int.sub_nonneg.mp (aux hp (show 0 ≤ -q by exact Int.not_lt.mp fun qz => lin [] [_] [(1,.it (.g (.v 0)) (.n 0)),(1,.it (.v 0) (.n 0))] rfl qz (Int.not_le.mp hq)) (hu i) ?_)
   have := h i
   rw [Int.neg_mul, ← this, ← Int.mul_neg, Int.neg_sub]
 rcases Int.lt_or_gt_of_ne hp with z | z
 ·exact key (p := -p) (q := -q) (by exact Int.not_le.mp fun qz => lin [] [_] [(1,.il (.g (.v 0)) (.n 0)),(1,.it (.v 0) (.n 0))] rfl qz z) fun i => by rw [Int.neg_mul, Int.neg_mul, h]
 ·exact key z h
noncomputable def Pr (d u : Nat → Int) : Prop := ∃ p q : Int, p ≠ 0 ∧ ∀ i, p * d i = q * u i
theorem Dm.ray : ∀ (k : Nat) {V : (Nat → Int) → Prop} {u : Nat → Int} {Z : Nat → Prop}, Dm V (k + 1) → V u → (∃ i, u i ≠ 0) → (∀ i, Z i → u i = 0) → (∀ d, V d → (∀ i, Z i → d i = 0) → Pr d u) → ∃ is : List Nat, is.length ≤ k ∧ ∀ d, V d → (∀ i ∈ is, d i = 0) → Pr d u
 | 0, V, u, Z, D, hu, hne, hz, hp => ⟨[], Nat.le_refl _, fun d hd _ => by
  obtain ⟨as, h1, ⟨c, hc, h2⟩, h3⟩ := D [d, u] rfl fun v hv => by
   rcases List.mem_cons.mp hv with rfl | hv
   ·exact hd
   ·exact List.mem_singleton.mp hv ▸ hu
  match as, h1 with
  | [p, q], _ =>
   have h3 : ∀ i, p * d i + (q * u i + 0) = 0 := h3
   refine ⟨p, -q, fun z => ?_, fun i => by have := h3 i; rw [Int.neg_mul]; exact Int.le_antisymm (Int.not_lt.mp fun qz => lin [] [_,_] [(1,.it (.g (.v 0)) (.v 1)),(1,.ie (.a (.v 1) (.a (.v 0) (.n 0))) (.n 0))] rfl qz this) (Int.not_lt.mp fun qz => lin [] [_,_] [(1,.it (.v 0) (.g (.v 1))),(1,.jf (.a (.v 0) (.a (.v 1) (.n 0))) (.n 0))] rfl qz this)⟩
   subst z
   obtain ⟨i, hi⟩ := hne
   have h4 := h3 i
   rw [Int.zero_mul] at h4
   have hq := (Int.mul_eq_zero.mp (show q * u i = 0 by exact Int.le_antisymm (Int.not_lt.mp fun qz => lin [] [_] [(1,.it (.n 0) (.v 0)),(1,.ie (.a (.n 0) (.a (.v 0) (.n 0))) (.n 0))] rfl qz h4) (Int.not_lt.mp fun qz => lin [] [_] [(1,.it (.v 0) (.n 0)),(1,.jf (.a (.n 0) (.a (.v 0) (.n 0))) (.n 0))] rfl qz h4))).resolve_right hi
   subst hq
   rcases List.mem_cons.mp hc with e | e
   ·exact h2 e
   ·exact h2 (List.mem_singleton.mp e)⟩
 | k + 1, V, u, Z, D, hu, hne, hz, hp => by
  by_cases q : ∀ d, V d → Pr d u
  ·exact ⟨[], Nat.zero_le _, fun d hd _ => q d hd⟩
  ·obtain ⟨d, hd⟩ := Classical.not_forall.mp q
   obtain ⟨hd, nd⟩ := Classical.not_imp.mp hd
   obtain ⟨i, hi⟩ := Classical.not_forall.mp fun z => nd (hp d hd z)
   obtain ⟨zi, di⟩ := Classical.not_imp.mp hi
   obtain ⟨is, h1, h2⟩ := Dm.ray k (Z := Z) (D.cut (f := fun v => v i) ⟨fun _ _ _ => rfl, rfl⟩ hd di) ⟨hu, hz i zi⟩ hne hz fun d hd h => hp d hd.1 h
   exact ⟨i :: is, Nat.succ_le_succ h1, fun d hd h => h2 d ⟨hd, h i (.head _)⟩ fun j hj => h j (.tail _ hj)⟩
theorem ratio {x y : Nat → Int} {i : Nat} (hi : 0 < y i) : ∀ m, ∃ i, 0 < y i ∧ ∀ j, j < m → 0 < y j → x i * y j ≤ x j * y i
 | 0 => ⟨i, hi, fun j hj => absurd hj (Nat.not_lt_zero _)⟩
 | m + 1 => by
  obtain ⟨k, hk, h⟩ := ratio (x := x) hi m
  by_cases z : 0 < y m ∧ x m * y k < x k * y m
  ·refine ⟨m, z.1, fun j hj hp => ?_⟩
   by_cases e : j = m
   ·subst e; exact Int.le_refl _
   ·have h1 := Int.mul_le_mul_of_nonneg_right (h j (by omega) hp) (Int.le_of_lt z.1)
    have h2 := Int.mul_le_mul_of_nonneg_right (Int.le_of_lt z.2) (Int.le_of_lt hp)
    refine Int.le_of_mul_le_mul_right (a := y k) ?_ hk
    rw [Int.mul_right_comm (x m), Int.mul_right_comm (x j)]
    rw [Int.mul_right_comm (x k)] at h2
    exact Int.le_trans h2 h1
  ·refine ⟨k, hk, fun j hj hp => ?_⟩
   by_cases e : j = m
   ·subst e; exact Int.not_lt.mp fun q => z ⟨hp, q⟩
   ·exact h j (by omega) hp
theorem exists_min {α : Type} {P : α → Prop} (f : α → Nat) : ∀ (k : Nat) {a : α}, f a ≤ k → P a → ∃ a, P a ∧ ∀ b, P b → f a ≤ f b
 | 0, a, h, pa => ⟨a, pa, fun b _ => Nat.le_trans h (Nat.zero_le _)⟩
 | k + 1, a, h, pa => by
  by_cases q : ∃ b, P b ∧ f b ≤ k
  ·obtain ⟨b, pb, hb⟩ := q; exact exists_min f k hb pb
  ·exact ⟨a, pa, fun b pb => Nat.le_trans h (Nat.lt_of_not_le fun z => q ⟨b, pb, z⟩)⟩
theorem row_of {f : Nat → Int} (hE : ∀ e ∈ E, e.length = n) (k : Ker n E f) (hp : ∀ i, 0 ≤ f i) : ∃ z, Row n z ∧ Even E z ∧ ∀ i, z.getD i 0 = f i := by
 have hg : ∀ i, ((List.range n).map f).getD i 0 = f i := fun i => by
  by_cases h : i < n
  ·simp [List.getD_eq_getElem?_getD, h]
  ·rw [k.1 i (by exact (Nat.not_lt.mp h))]; simp [List.getD_eq_getElem?_getD, h]
 have r : Row n ((List.range n).map f) := ⟨by simp, fun i => by rw [hg]; exact hp i⟩
 exact ⟨_, r, Ker.even hE r (by rw [show (fun i => ((List.range n).map f).getD i 0) = f from funext hg]; exact k), hg⟩
theorem comb2 {e : List Int} {v w : Nat → Int} (h : ev n e v = 0) (h' : ev n e w = 0) (p q : Int) : ev n e (comb [p, q] [v, w]) = 0 := (ev_ln n e).comb _ _ fun z hz => by
 rcases List.mem_cons.mp hz with rfl | hz
 ·exact h
 ·exact List.mem_singleton.mp hz ▸ h'
theorem Least.ray (hE : ∀ e ∈ E, e.length = n) (a : Least E n x) : ∃ u, Least E n u ∧ ∀ d, Ker n E d → (∀ i, u.getD i 0 = 0 → d i = 0) → Pr d fun i => u.getD i 0 := by
 obtain ⟨u, lu, hu⟩ := exists_min (P := Least E n) (fun s => (sumN n fun i => if s.getD i 0 = 0 then 0 else 1).toNat) _ (Nat.le_refl _) a
 have ku := lu.ker hE
 have key : ∀ d, Ker n E d → (∀ i, u.getD i 0 = 0 → d i = 0) → (∃ j, 0 < d j) → Pr d fun i => u.getD i 0 := by
  intro d kd hv ⟨j, hj⟩
  obtain ⟨i, hi, h⟩ := ratio (x := fun i => u.getD i 0) hj n
  have ui : u.getD i 0 ≠ 0 := fun z => by rw [hv i z] at hi; exact absurd hi (by decide)
  have hz : ∀ j, comb [d i, -u.getD i 0] [fun i => u.getD i 0, d] j = d i * u.getD j 0 - u.getD i 0 * d j := fun j => by
   show d i * u.getD j 0 + (-u.getD i 0 * d j + 0) = _
   rw [Int.neg_mul]; exact Int.le_antisymm (Int.not_lt.mp fun qz => lin [] [_,_] [(1,.it (.s (.v 0) (.v 1)) (.a (.v 0) (.a (.g (.v 1)) (.n 0))))] rfl qz) (Int.not_lt.mp fun qz => lin [] [_,_] [(1,.it (.a (.v 0) (.a (.g (.v 1)) (.n 0))) (.s (.v 0) (.v 1)))] rfl qz)
  obtain ⟨z, rz, ez, gz⟩ := row_of (f := comb [d i, -u.getD i 0] [fun i => u.getD i 0, d]) hE ⟨fun j hj => by
   rw [hz, lu.row.beyond hj, kd.1 j hj]; simp, fun e he => comb2 (ku.2 e he) (kd.2 e he) _ _⟩ fun j => by
   rw [hz]
   by_cases q : 0 < d j
   ·by_cases hn : j < n
    ·have h1 : u.getD i 0 * d j ≤ u.getD j 0 * d i := h j hn q
     rw [Int.mul_comm (d i)]; exact Int.not_lt.mp fun qz => lin [] [_,_] [(1,.it (.s (.v 0) (.v 1)) (.n 0)),(1,.il (.v 1) (.v 0))] rfl qz h1
    ·rw [kd.1 j (by exact (Nat.not_lt.mp hn))] at q; exact absurd q (by decide)
   ·have h1 := Int.mul_nonneg (Int.le_of_lt hi) (lu.row.pos j)
    have h2 := Int.mul_nonneg (lu.row.pos i) (show 0 ≤ -d j by exact Int.not_lt.mp fun qz => lin [] [_] [(1,.it (.g (.v 0)) (.n 0)),(1,.il (.v 0) (.n 0))] rfl qz (Int.not_lt.mp q))
    rw [Int.mul_neg] at h2; exact Int.not_lt.mp fun qz => lin [] [_,_] [(1,.it (.s (.v 0) (.v 1)) (.n 0)),(1,.il (.n 0) (.g (.v 1))),(1,.il (.n 0) (.v 0))] rfl qz h2 h1
  by_cases pz : 0 < z.sum
  ·obtain ⟨s, ls, hs⟩ := least_below _ (Nat.le_refl _) rz ez pz
   exfalso
   have hle : ∀ j, u.getD j 0 = 0 → s.getD j 0 = 0 := fun j q => by
    have h1 := hs j
    rw [gz, hz, q, hv j q, Int.mul_zero, Int.mul_zero] at h1
    exact Int.le_antisymm h1 (ls.row.pos j)
   have h0 : s.getD i 0 = 0 := by
    have h1 := hs i
    rw [gz, hz, Int.mul_comm (d i), Int.sub_self] at h1
    exact Int.le_antisymm h1 (ls.row.pos i)
   have hin : i < n := Nat.lt_of_not_le fun q => ui (lu.row.beyond q)
   have m1 : ∀ j, (if s.getD j 0 = 0 then (0 : Int) else 1) + (fun _ => 1) j * (if j = i then 1 else 0) ≤ if u.getD j 0 = 0 then 0 else 1 := fun j => by
    by_cases q : j = i
    ·subst q; rw [if_pos h0, if_pos rfl, if_neg ui]; exact (by decide : (0 : Int) + 1 * 1 ≤ 1)
    ·rw [if_neg q]
     by_cases q2 : u.getD j 0 = 0
     ·rw [if_pos q2, if_pos (hle j q2)]; exact (by decide : (0 : Int) + 1 * 0 ≤ 0)
     ·rw [if_neg q2]; split
      ·exact (by decide : (0 : Int) + 1 * 0 ≤ 1)
      ·exact (by decide : (1 : Int) + 1 * 0 ≤ 1)
   have m2 := sumN_mono (n := n) fun j _ => m1 j
   rw [sumN_add, sumN_one hin] at m2
   have m3 := hu s ls
   have m4 := sumN_mono (n := n) (f := fun _ => 0) (g := fun j => if s.getD j 0 = 0 then (0 : Int) else 1) fun j _ => by split <;> decide
   rw [sumN_const0] at m4
   omega
  ·have h1 : ∀ j, z.getD j 0 = 0 := fun j => Int.le_antisymm (Int.le_trans (get_le_sum rz j) (by exact (Int.not_lt.mp pz))) (rz.pos j)
   refine ⟨u.getD i 0, d i, ui, fun j => ?_⟩
   have h2 := h1 j
   rw [gz, hz] at h2
   exact (Int.eq_of_sub_eq_zero h2).symm
 refine ⟨u, lu, fun d kd hv => ?_⟩
 by_cases q : ∃ j, 0 < d j
 ·exact key d kd hv q
 ·by_cases q2 : ∃ j, d j < 0
  ·obtain ⟨j, hj⟩ := q2
   obtain ⟨p, r, hp, h⟩ := key (comb [-1, 0] [d, d]) ⟨fun i hi => by show -1 * d i + (0 * d i + 0) = 0; rw [kd.1 i hi]; rfl, fun e he => comb2 (kd.2 e he) (kd.2 e he) _ _⟩ (fun i hi => by show -1 * d i + (0 * d i + 0) = 0; rw [hv i hi]; rfl) ⟨j, by show 0 < -1 * d j + (0 * d j + 0); omega⟩
   refine ⟨p, -r, hp, fun i => ?_⟩
   have h1 : p * (-1 * d i + (0 * d i + 0)) = r * u.getD i 0 := h i
   rw [show -1 * d i + (0 * d i + 0) = -d i by omega, Int.mul_neg] at h1
   rw [Int.neg_mul, ← h1, Int.neg_neg]
  ·refine ⟨1, 0, by decide, fun i => ?_⟩
   have : d i = 0 := Int.le_antisymm (Int.not_lt.mp fun z => q ⟨i, z⟩) (Int.not_lt.mp fun z => q2 ⟨i, z⟩)
   rw [this, Int.mul_zero, Int.zero_mul]
end
section
variable {E : List (List Int)} {n : Nat} {l : List (List Int)}
theorem boxZ_len (lo : Int) (b : Nat) : ∀ m, (boxZ lo b m).length = b ^ m
 | 0 => rfl
 | m + 1 => by
  rw [boxZ, List.length_flatMap]
  simp only [List.length_map, boxZ_len lo b m, List.map_const', List.sum_replicate_nat, List.length_range]
  rw [Nat.pow_succ, Nat.mul_comm]
theorem Dm.count {k B : Nat} (D : Dm (Ker n E) (k + 1)) (hE : ∀ e ∈ E, e.length = n) (nd : l.Nodup) (hl : ∀ s ∈ l, Least E n s) (hB : ∀ s ∈ l, ∀ i, s.getD i 0 ≤ B) : l.length ≤ (B + 1) ^ k := by
 match l, nd, hl, hB with
 | [], _, _, _ => exact Nat.zero_le _
 | x :: l, nd, hl, hB =>
  obtain ⟨u, lu, hu⟩ := (hl x (.head _)).ray hE
  obtain ⟨is, h1, h2⟩ := D.ray k (Z := fun i => u.getD i 0 = 0) (lu.ker hE) lu.ne (fun _ h => h) hu
  refine Nat.le_trans ?_ (Nat.pow_le_pow_right (Nat.succ_pos B) h1)
  rw [← boxZ_len 0 (B + 1) is.length, ← List.length_map (f := fun s : List Int => is.map fun i => s.getD i 0)]
  refine length_le_of_nodup ?_ fun v hv => ?_
  ·rw [List.Nodup, List.pairwise_map]
   refine List.Pairwise.imp_of_mem (fun {a b} ha hb hab e => hab ?_) nd
   have ka := (hl a ha).ker hE
   have kb := (hl b hb).ker hE
   have e := List.map_inj_left.mp e
   have hc : ∀ i, comb [1, -1] [fun i => a.getD i 0, fun i => b.getD i 0] i = a.getD i 0 - b.getD i 0 := fun i => by
    show 1 * a.getD i 0 + (-1 * b.getD i 0 + 0) = _
    omega
   obtain ⟨p, q, hp, h⟩ := h2 (comb [1, -1] [fun i => a.getD i 0, fun i => b.getD i 0]) ⟨fun j hj => by
     rw [hc, (hl a ha).row.beyond hj, (hl b hb).row.beyond hj]; rfl, fun e he => comb2 (ka.2 e he) (kb.2 e he) _ _⟩ fun i hi => by rw [hc, e i hi, Int.sub_self]
   exact (hl a ha).prop (hl b hb) hp (fun i => by rw [← hc]; exact h i) lu.row.pos
  ·obtain ⟨s, hs, rfl⟩ := List.mem_map.mp hv
   have := boxZ_mem (lo := 0) (b := B + 1) (v := is.map fun i => s.getD i 0) fun x hx => by
    obtain ⟨i, _, rfl⟩ := List.mem_map.mp hx
    have := hB s hs i
    have := (hl s hs).row.pos i
    omega
   rwa [List.length_map] at this
noncomputable def rowsTo : Nat → Nat → List (List Int)
 | 0, _ => [[]]
 | n + 1, s => (List.range (s + 1)).flatMap fun (i : Nat) => (rowsTo n (s - i)).map fun r => (i : Int) :: r
theorem mem_rowsTo : ∀ {v : List Int} {s : Nat}, (∀ x ∈ v, 0 ≤ x) → v.sum ≤ s → v ∈ rowsTo v.length s
 | [], s, _, _ => by simp [rowsTo]
 | x :: v, s, h, hs => by
  have h0 := h x (.head _)
  have h1 : 0 ≤ v.sum := (Row.of (n := v.length) rfl fun y hy => h y (.tail _ hy)).sum_nonneg
  rw [List.sum_cons] at hs
  rw [List.length_cons, rowsTo, List.mem_flatMap]
  exact ⟨x.toNat, List.mem_range.mpr (by omega), List.mem_map.mpr ⟨v, mem_rowsTo (fun y hy => h y (.tail _ hy)) (by omega), by rw [Int.toNat_of_nonneg h0]⟩⟩
theorem rowsTo_len (n : Nat) (h : n ≤ 5) : (rowsTo n 3).length < 64 := by
 have : n ∈ List.range 6 := List.mem_range.mpr (by exact Nat.lt_of_le_of_lt h (by decide))
 exact (show ∀ n ∈ List.range 6, (rowsTo n 3).length < 64 by decide +kernel) n this
theorem count_sum (h5 : n ≤ 5) (nd : l.Nodup) (hl : ∀ s ∈ l, Least E n s) (hB : ∀ s ∈ l, s.sum ≤ 3) : l.length < 64 :=
 Nat.lt_of_le_of_lt (length_le_of_nodup nd fun s hs => by
  have := mem_rowsTo (v := s) (s := 3) (hl s hs).row.mem (hB s hs)
  rwa [(hl s hs).row.len] at this) (rowsTo_len n h5)
end
end Mine
namespace Mine
theorem sumN_pos_some {n : Nat} {f : Nat → Int} (h : 0 < sumN n f) : ∃ i, i < n ∧ 0 < f i := Classical.byContradiction fun q => by
 have := sumN_mono (n := n) (f := f) (g := fun _ => 0) fun i hi => Int.not_lt.mp fun z => q ⟨i, hi, z⟩
 rw [sumN_const0] at this
 exact absurd h (Int.not_lt.mpr this)
section
variable {α : Type} [DecidableEq α] {n : Nat} {c : Nat → α} {x : Nat → Int}
noncomputable def tot (n : Nat) (c : Nat → α) (x : Nat → Int) (t : α) : Int := sumN n fun i => if c i = t then x i else 0
theorem tot_nonneg (h : ∀ i, 0 ≤ x i) (t : α) : 0 ≤ tot n c x t := by
 rw [← sumN_const0 n]
 exact sumN_mono fun i _ => by split; exact h i; exact Int.le_refl _
theorem pickT {t : α} : ∀ (k : Nat) {x : Nat → Int}, (∀ i, 0 ≤ x i) → (k : Int) ≤ tot n c x t → ∃ is : List Nat, is.map c = List.replicate k t ∧ (∀ i ∈ is, i < n) ∧ ∀ j, (is.count j : Int) ≤ x j
 | 0, x, h, _ => ⟨[], rfl, fun _ h => (List.not_mem_nil h).elim, h⟩
 | k + 1, x, h, hk => by
  obtain ⟨i, hi, hp⟩ := sumN_pos_some (show 0 < tot n c x t by exact Int.not_le.mp fun qz => lin [_] [_] [(1,.il (.v 0) (.n 0)),(1,.il (.c (.a (.v 0) (.n 1))) (.v 0))] rfl qz hk)
  have hc : c i = t := Classical.byContradiction fun z => by rw [if_neg z] at hp; exact absurd hp (by decide)
  rw [if_pos hc] at hp
  have ht : tot n c (fun j => x j + -1 * if j = i then 1 else 0) t = tot n c x t + -1 := by
   have e1 := sumN_add n (fun j => if c j = t then x j else 0) (fun j => -1 * if j = i then 1 else 0)
   rw [sumN_one hi (fun _ => -1)] at e1
   refine (sumN_congr fun j _ => ?_).trans e1
   show (if c j = t then x j + -1 * (if j = i then 1 else 0) else 0) = _
   by_cases q : j = i
   ·subst q; rw [if_pos hc, if_pos hc]
   ·rw [if_neg q, Int.mul_zero, Int.add_zero]
    exact (Int.add_zero _).symm
  obtain ⟨is, h1, h2, h3⟩ := pickT k (x := fun j => x j + -1 * if j = i then 1 else 0) (fun j => by
   by_cases q : j = i
   ·subst q; rw [if_pos rfl]; omega
   ·rw [if_neg q]; have := h j; omega) (by rw [ht]; exact Int.not_lt.mp fun qz => lin [_] [_] [(1,.it (.a (.v 0) (.g (.n 1))) (.c (.v 0))),(1,.il (.c (.a (.v 0) (.n 1))) (.v 0))] rfl qz hk)
  refine ⟨i :: is, by rw [List.map_cons, h1, hc]; rfl, fun j hj => ?_, fun j => ?_⟩
  ·rcases List.mem_cons.mp hj with rfl | hj
   ·exact hi
   ·exact h2 j hj
  ·have h4 := h3 j
   by_cases q : j = i
   ·subst q; rw [if_pos rfl] at h4; rw [List.count_cons_self]; omega
   ·rw [if_neg q] at h4; rw [List.count_cons_of_ne (fun e => q e.symm)]; omega
noncomputable def flatT (ts : List (α × Nat)) : List α := ts.flatMap fun q => List.replicate q.2 q.1
theorem flatT_mem {ts : List (α × Nat)} {t : α} (h : t ∈ flatT ts) : t ∈ ts.map (·.1) := by
 obtain ⟨q, hq, h⟩ := List.mem_flatMap.mp h
 exact List.mem_map.mpr ⟨q, hq, (List.eq_of_mem_replicate h).symm⟩
theorem pickTs (h : ∀ i, 0 ≤ x i) : ∀ ts : List (α × Nat), (ts.map (·.1)).Nodup → (∀ q ∈ ts, (q.2 : Int) ≤ tot n c x q.1) → ∃ is : List Nat, is.map c = flatT ts ∧ (∀ i ∈ is, i < n) ∧ ∀ j, (is.count j : Int) ≤ x j
 | [], _, _ => ⟨[], rfl, fun _ h => (List.not_mem_nil h).elim, h⟩
 | q :: ts, nd, hq => by
  rw [List.map_cons, List.nodup_cons] at nd
  obtain ⟨is, a1, a2, a3⟩ := pickT q.2 h (hq q (.head _))
  obtain ⟨js, b1, b2, b3⟩ := pickTs h ts nd.2 fun r hr => hq r (.tail _ hr)
  refine ⟨is ++ js, by rw [List.map_append, a1, b1]; rfl, fun i hi => (List.mem_append.mp hi).elim (a2 i) (b2 i), fun j => ?_⟩
  rw [List.count_append]
  by_cases e : j ∈ is
  ·have e1 : c j = q.1 := List.eq_of_mem_replicate (a1 ▸ List.mem_map.mpr ⟨j, e, rfl⟩)
   have : js.count j = 0 := List.count_eq_zero.mpr fun e2 => nd.1 (e1 ▸ flatT_mem (b1 ▸ List.mem_map.mpr ⟨j, e2, rfl⟩))
   rw [this]; exact a3 j
  ·rw [List.count_eq_zero.mpr e, Nat.zero_add]; exact b3 j
theorem one_hot {w : α → Int} {y : Int} {a : α} : ∀ {all : List α}, all.Nodup → a ∈ all → (all.map fun t => w t * if a = t then y else 0).sum = w a * y
 | b :: all, nd, h => by
  rw [List.nodup_cons] at nd
  rw [List.map_cons, List.sum_cons]
  by_cases e : a = b
  ·subst e
   have : ∀ l : List α, a ∉ l → (l.map fun t => w t * if a = t then y else 0).sum = 0 := by
    intro l
    induction l with
    | nil => intro _; rfl
    | cons d l ih => intro h; rw [List.map_cons, List.sum_cons, ih fun q => h (.tail _ q), if_neg (fun (q : a = d) => h (q ▸ .head _)), Int.mul_zero]; rfl
   rw [if_pos rfl, this all nd.1, Int.add_zero]
  ·rw [if_neg e, Int.mul_zero, Int.zero_add, one_hot nd.2 ((List.mem_cons.mp h).resolve_left e)]
theorem sum_map_add (f g : α → Int) : ∀ l : List α, (l.map fun t => f t + g t).sum = (l.map f).sum + (l.map g).sum
 | [] => rfl
 | a :: l => by rw [List.map_cons, List.map_cons, List.map_cons, List.sum_cons, List.sum_cons, List.sum_cons, sum_map_add f g l]; exact Int.le_antisymm (Int.not_lt.mp fun qz => lin [] [_,_,_,_] [(1,.it (.a (.a (.v 0) (.v 1)) (.a (.v 2) (.v 3))) (.a (.a (.v 0) (.v 2)) (.a (.v 1) (.v 3))))] rfl qz) (Int.not_lt.mp fun qz => lin [] [_,_,_,_] [(1,.it (.a (.a (.v 0) (.v 1)) (.a (.v 2) (.v 3))) (.a (.a (.v 0) (.v 2)) (.a (.v 1) (.v 3))))] rfl qz)
theorem tot_sum (w : α → Int) {all : List α} (nd : all.Nodup) : ∀ {n : Nat}, (∀ i, i < n → c i ∈ all) → sumN n (fun i => w (c i) * x i) = (all.map fun t => w t * tot n c x t).sum
 | 0, _ => by
  rw [sumN_zero]
  show 0 = (all.map fun t => w t * 0).sum
  have : ∀ l : List α, 0 = (l.map fun t => w t * 0).sum := by
   intro l
   induction l with
   | nil => rfl
   | cons a l ih => rw [List.map_cons, List.sum_cons, ← ih, Int.mul_zero]; rfl
  exact this all
 | n + 1, h => by
  rw [sumN_succ, tot_sum w nd fun i hi => h i (by exact Nat.not_le.mp fun qz => lin [_,_] [] [(1,.nl (.a (.v 0) (.n 1)) (.v 1)),(1,.nt (.v 1) (.v 0))] rfl qz hi), ← one_hot (w := w) (y := x n) nd (h n (by exact Nat.not_le.mp fun qz => lin [_] [] [(1,.nl (.a (.v 0) (.n 1)) (.v 0))] rfl qz)), ← sum_map_add]
  refine congrArg List.sum (List.map_congr_left fun t _ => ?_)
  unfold tot
  rw [sumN_succ, Int.mul_add]
end
theorem count_sumN {n : Nat} (f : Nat → Int) : ∀ {is : List Nat}, (∀ i ∈ is, i < n) → sumN n (fun j => f j * (is.count j : Int)) = (is.map f).sum
 | [], _ => by
  exact (sumN_congr fun i _ => by rw [List.count_nil]; exact Int.mul_zero _).trans (sumN_const0 n)
 | i :: is, h => by
  rw [List.map_cons, List.sum_cons, ← count_sumN f fun j hj => h j (.tail _ hj), ← sumN_one (h i (.head _)) f, ← sumN_add]
  refine sumN_congr fun j _ => ?_
  by_cases q : j = i
  ·subst q; rw [List.count_cons_self, if_pos rfl, ← Int.mul_add, Int.natCast_add, Int.add_comm]; rfl
  ·rw [List.count_cons_of_ne fun e => q e.symm, if_neg q, Int.mul_zero, Int.zero_add]
theorem Least.hit {E : List (List Int)} {n : Nat} {x : List Int} (hE : ∀ e ∈ E, e.length = n) (L : Least E n x) {is : List Nat} (ne : is ≠ []) (hi : ∀ i ∈ is, i < n) (hc : ∀ j, (is.count j : Int) ≤ x.getD j 0) (hz : ∀ e ∈ E, (is.map fun i => e.getD i 0).sum = 0) :
  (∀ j, x.getD j 0 = is.count j) ∧ x.sum = is.length := by
 obtain ⟨z, rz, ez, gz⟩ := row_of (f := fun j => (is.count j : Int)) hE ⟨fun j hj => by
  have : is.count j = 0 := List.count_eq_zero.mpr fun q => by have := hi j q; exact lin [_,_] [] [(1,.nt (.v 0) (.v 1)),(1,.nl (.v 1) (.v 0))] rfl this hj
  show ((is.count j : Nat) : Int) = 0
  rw [this]; rfl, fun e he => (count_sumN _ hi).trans (hz e he)⟩ fun j => Int.natCast_nonneg _
 have hs : z.sum = is.length := by
  rw [rz.sum, sumN_congr (g := fun j => 1 * (is.count j : Int)) fun j _ => by rw [gz, Int.one_mul], count_sumN (fun _ => 1) hi]
  clear hi hc hz ez gz rz ne
  induction is with
  | nil => rfl
  | cons a is ih => rw [List.map_cons, List.sum_cons, ih, List.length_cons]; exact Int.le_antisymm (Int.not_lt.mp fun qz => lin [_] [] [(1,.it (.c (.a (.v 0) (.n 1))) (.a (.n 1) (.c (.v 0))))] rfl qz) (Int.not_lt.mp fun qz => lin [_] [] [(1,.it (.a (.n 1) (.c (.v 0))) (.c (.a (.v 0) (.n 1))))] rfl qz)
 have e := L.least z rz ez (by rw [hs]; have := List.length_pos_iff.mpr ne; exact Int.not_le.mp fun qz => lin [_] [] [(1,.il (.c (.v 0)) (.n 0)),(1,.nt (.n 0) (.v 0))] rfl qz this) fun j => by rw [gz]; exact hc j
 subst e
 exact ⟨gz, hs⟩
theorem sum_none {n : Nat} {x : List Int} (L : Least [] n x) : x.sum ≤ 3 := by
 have h := L.pos
 rw [L.row.sum] at h
 obtain ⟨i, hi, hp⟩ := sumN_pos_some h
 have := (L.hit (by simp) (is := [i]) (by simp) (fun j hj => List.mem_singleton.mp hj ▸ hi) (fun j => by
  by_cases q : i = j
  ·subst q; rw [List.count_cons_self]; exact hp
  ·rw [List.count_cons_of_ne q]; exact L.row.pos j) fun e he => (List.not_mem_nil he).elim).2
 rw [this]; show (1 : Int) ≤ 3; decide
noncomputable def okT {α : Type} [DecidableEq α] (B m : Nat) (ws : List (α → Int)) (ts : List (α × Nat)) : Bool := decide (ts.map (·.1)).Nodup && (ws.all fun w => decide (((flatT ts).map w).sum = 0)) && ((flatT ts).all fun t => decide ((flatT ts).count t ≤ B)) && decide ((flatT ts).length ≤ m) && !(flatT ts).isEmpty
noncomputable def Has {α : Type} (T : α → Int) : List (α × Nat) → Prop
 | [] => True
 | q :: ts => (q.2 : Int) ≤ T q.1 ∧ Has T ts
theorem Has.mem {α : Type} {T : α → Int} : ∀ {ts : List (α × Nat)}, Has T ts → ∀ q ∈ ts, (q.2 : Int) ≤ T q.1
 | _ :: _, h, q, hq => (List.mem_cons.mp hq).elim (fun e => e ▸ h.1) (Has.mem h.2 q)
theorem Least.take {α : Type} [DecidableEq α] {E : List (List Int)} {n : Nat} {x : List Int} (hE : ∀ e ∈ E, e.length = n) (L : Least E n x) {c : Nat → α} {ws : List (α → Int)} (hw : ∀ e ∈ E, ∃ w ∈ ws, ∀ i, e.getD i 0 = w (c i)) {B m : Nat} (ts : List (α × Nat)) (ok : okT B m ws ts = true) (h : Has (tot n c fun i => x.getD i 0) ts) :
  (∀ i, x.getD i 0 ≤ B) ∧ x.sum ≤ m := by
 simp only [okT, Bool.and_eq_true, decide_eq_true_eq, List.all_eq_true] at ok
 obtain ⟨⟨⟨⟨nd, hs⟩, hc⟩, hm⟩, ne⟩ := ok
 obtain ⟨is, a, b, d⟩ := pickTs L.row.pos ts nd h.mem
 obtain ⟨h5, h6⟩ := L.hit hE (is := is) (fun q => by rw [← a, q] at ne; cases ne) b d fun e he => by
  obtain ⟨w, hw, he⟩ := hw e he
  have := hs w hw
  rw [← a, List.map_map] at this
  rw [show (fun i => e.getD i 0) = w ∘ c from funext he]; exact this
 refine ⟨fun i => ?_, ?_⟩
 ·rw [h5 i]
  refine Int.ofNat_le.mpr (Nat.le_trans (List.count_le_count_map (f := c)) ?_)
  rw [a]
  by_cases q : c i ∈ flatT ts
  ·exact hc _ q
  ·rw [List.count_eq_zero.mpr q]; exact Nat.zero_le _
 ·rw [h6, ← List.length_map (f := c), a]; exact Int.ofNat_le.mpr hm
theorem Least.even0 {E : List (List Int)} {n : Nat} {x : List Int} (hE : ∀ e ∈ E, e.length = n) (L : Least E n x) {α : Type} [DecidableEq α] {c : Nat → α} {w : α → Int} {all : List α} (nd : all.Nodup) (hc : ∀ i, i < n → c i ∈ all) (h : ∃ e ∈ E, ∀ i, e.getD i 0 = w (c i)) : (all.map fun t => w t * tot n c (fun i => x.getD i 0) t).sum = 0 := by
 obtain ⟨e, he, hw⟩ := h
 have h1 := Even.iff.mp L.even e he
 rw [dot_eq_sumN (by rw [hE e he, L.row.len]), L.row.len] at h1
 rw [← tot_sum w nd hc]
 exact (sumN_congr fun i _ => by rw [hw]).trans h1
theorem Least.pos1 {E : List (List Int)} {n : Nat} {x : List Int} (L : Least E n x) {α : Type} [DecidableEq α] {c : Nat → α} {all : List α} (nd : all.Nodup) (hc : ∀ i, i < n → c i ∈ all) : ∃ t ∈ all, 1 ≤ tot n c (fun i => x.getD i 0) t := by
 have h1 := L.pos
 rw [L.row.sum] at h1
 obtain ⟨i, hi, hp⟩ := sumN_pos_some h1
 refine ⟨c i, hc i hi, ?_⟩
 have := sumN_mono (n := n) (f := fun j => (fun _ => 1) j * if j = i then 1 else 0) (g := fun j => if c j = c i then x.getD j 0 else 0) fun j _ => by
  by_cases q : j = i
  ·subst q; rw [if_pos rfl, if_pos rfl]; omega
  ·rw [if_neg q]; split
   ·exact L.row.pos j
   ·exact Int.le_refl _
 rwa [sumN_one hi] at this
theorem p1 {u v : Int} (h : 0 < u - v) (hv : 0 ≤ v) : 1 ≤ u := by exact Int.not_lt.mp fun qz => lin [] [_,_] [(1,.it (.v 0) (.n 1)),(1,.il (.n 0) (.v 1)),(1,.it (.n 0) (.s (.v 0) (.v 1)))] rfl qz hv h
theorem p2 {u v p q : Int} (e : u - v + p + q = 0) (hu : 0 ≤ u) (hp : 0 < p) (hq : 0 < q) : 2 ≤ v := by exact Int.not_lt.mp fun qz => lin [] [_,_,_,_] [(1,.it (.v 0) (.n 2)),(1,.it (.n 0) (.v 1)),(1,.it (.n 0) (.v 2)),(1,.il (.n 0) (.v 3)),(1,.ie (.a (.a (.s (.v 3) (.v 0)) (.v 2)) (.v 1)) (.n 0))] rfl qz hq hp hu e
theorem p3 {u v p q : Int} (e : u - v + p + q = 0) (hu : 0 ≤ u) (hp : 0 < p) (hq : q = 0) : 1 ≤ v := by exact Int.not_lt.mp fun qz => lin [] [_,_,_,_] [(1,.it (.v 0) (.n 1)),(1,.jf (.v 1) (.n 0)),(1,.it (.n 0) (.v 2)),(1,.il (.n 0) (.v 3)),(1,.ie (.a (.a (.s (.v 3) (.v 0)) (.v 2)) (.v 1)) (.n 0))] rfl qz hq hp hu e
theorem tri {u v : Int} : 0 < u - v ∨ 0 < v - u ∨ u - v = 0 ∧ v - u = 0 := by omega
theorem sum_single {n : Nat} {x e : List Int} (he : e.length = n) (hw : ∀ y ∈ e, -2 ≤ y ∧ y ≤ 2) (L : Least [e] n x) : x.sum ≤ 3 := by
 have all : ∀ i, i < n → e.getD i 0 ∈ [0, 1, -1, 2, -2] := fun i hi => by
  have := hw _ (get_mem (a := e) (i := i) (by exact Nat.lt_of_lt_of_le hi (Nat.le_of_eq he.symm)))
  generalize e.getD i 0 = a at this
  simp; omega
 have hE : ∀ g ∈ [e], g.length = n := fun g hg => List.mem_singleton.mp hg ▸ he
 have fin := fun ts ok h => (L.take (c := fun i => e.getD i 0) (ws := [id]) (B := 3) (m := 3) hE (fun g hg => ⟨id, .head _, fun i => by rw [List.mem_singleton.mp hg]; rfl⟩) ts ok h).2
 have h1 := L.even0 (c := fun i => e.getD i 0) (w := id) hE (by decide) all ⟨e, .head _, fun i => rfl⟩
 obtain ⟨t, ht, hp⟩ := L.pos1 (c := fun i => e.getD i 0) (by decide) all
 have p := tot_nonneg (n := n) (c := fun i => e.getD i 0) (x := fun i => x.getD i 0) L.row.pos
 generalize tot n (fun i => e.getD i 0) (fun i => x.getD i 0) = T at *
 have e1 : T 1 - T (-1) + 2 * (T 2 - T (-2)) = 0 := by
  simp only [List.map_cons, List.map_nil, List.sum_cons, List.sum_nil, id] at h1
  omega
 have p1' := p 1; have p2' := p (-1); have p3' := p 2; have p4' := p (-2)
 rcases tri (u := T 2) (v := T (-2)) with h | h | h
 ·exact fin [(-1, 2), (2, 1)] (by decide) ⟨by clear fin hp h1; omega, p1 h p4', trivial⟩
 ·exact fin [(1, 2), (-2, 1)] (by decide) ⟨by clear fin hp h1; omega, p1 h p3', trivial⟩
 ·have k1 : T 1 = T (-1) := by clear fin hp h1; exact Int.le_antisymm (Int.not_lt.mp fun qz => lin [] [_,_,_,_] [(1,.it (.v 0) (.v 1)),(2,.jf (.s (.v 2) (.v 3)) (.n 0)),(1,.ie (.a (.s (.v 1) (.v 0)) (.m 2 (.s (.v 2) (.v 3)))) (.n 0))] rfl qz h.1 e1) (Int.not_lt.mp fun qz => lin [] [_,_,_,_] [(1,.it (.v 0) (.v 1)),(2,.ie (.s (.v 2) (.v 3)) (.n 0)),(1,.jf (.a (.s (.v 0) (.v 1)) (.m 2 (.s (.v 2) (.v 3)))) (.n 0))] rfl qz h.1 e1)
  have k2 : T 2 = T (-2) := by clear fin hp h1; exact Int.le_antisymm (Int.not_lt.mp fun qz => lin [] [_,_] [(1,.it (.v 0) (.v 1)),(1,.ie (.s (.v 1) (.v 0)) (.n 0))] rfl qz h.1) (Int.not_lt.mp fun qz => lin [] [_,_] [(1,.it (.v 0) (.v 1)),(1,.jf (.s (.v 0) (.v 1)) (.n 0))] rfl qz h.1)
  simp only [List.mem_cons, List.not_mem_nil, or_false] at ht
  rcases ht with rfl | rfl | rfl | rfl | rfl
  ·exact fin [(0, 1)] (by decide) ⟨hp, trivial⟩
  ·exact fin [(1, 1), (-1, 1)] (by decide) ⟨hp, k1 ▸ hp, trivial⟩
  ·exact fin [(1, 1), (-1, 1)] (by decide) ⟨k1 ▸ hp, hp, trivial⟩
  ·exact fin [(2, 1), (-2, 1)] (by decide) ⟨hp, k2 ▸ hp, trivial⟩
  ·exact fin [(2, 1), (-2, 1)] (by decide) ⟨k2 ▸ hp, hp, trivial⟩
theorem three_double {n : Nat} {x e f : List Int} (he : e.length = n) (hf : f.length = n) (hw : ∀ y ∈ e, -1 ≤ y ∧ y ≤ 1) (hv : ∀ y ∈ f, -1 ≤ y ∧ y ≤ 1) (L : Least [e, f] n x) : ∀ i, x.getD i 0 ≤ 3 := by
 have all : ∀ i, i < n → (e.getD i 0, f.getD i 0) ∈ [((0 : Int), (0 : Int)), (1, 0), (-1, 0), (0, 1), (0, -1), (1, 1), (-1, -1), (1, -1), (-1, 1)] := fun i hi => by
  have h1 := hw _ (get_mem (a := e) (i := i) (by exact Nat.lt_of_lt_of_le hi (Nat.le_of_eq he.symm)))
  have h2 := hv _ (get_mem (a := f) (i := i) (by exact Nat.lt_of_lt_of_le hi (Nat.le_of_eq hf.symm)))
  have three : ∀ {a : Int}, -1 ≤ a ∧ a ≤ 1 → a = 0 ∨ a = 1 ∨ a = -1 := by omega
  rcases three h1 with h | h | h <;> rcases three h2 with k | k | k <;> rw [h, k] <;> decide
 have hE : ∀ g ∈ [e, f], g.length = n := by simp [he, hf]
 have fin := fun ts ok h => (L.take (c := fun i => (e.getD i 0, f.getD i 0)) (ws := [Prod.fst, Prod.snd]) (B := 3) (m := 4) hE (fun g hg => by
  rcases List.mem_cons.mp hg with rfl | hg
  ·exact ⟨Prod.fst, .head _, fun i => rfl⟩
  ·rw [List.mem_singleton.mp hg]; exact ⟨Prod.snd, .tail _ (.head _), fun i => rfl⟩) ts ok h).1
 have h1 := L.even0 (c := fun i => (e.getD i 0, f.getD i 0)) (w := Prod.fst) hE (by decide) all ⟨e, .head _, fun i => rfl⟩
 have h2 := L.even0 (c := fun i => (e.getD i 0, f.getD i 0)) (w := Prod.snd) hE (by decide) all ⟨f, .tail _ (.head _), fun i => rfl⟩
 obtain ⟨t, ht, hp⟩ := L.pos1 (c := fun i => (e.getD i 0, f.getD i 0)) (by decide) all
 have p := tot_nonneg (n := n) (c := fun i => (e.getD i 0, f.getD i 0)) (x := fun i => x.getD i 0) L.row.pos
 generalize tot n (fun i => (e.getD i 0, f.getD i 0)) (fun i => x.getD i 0) = T at *
 simp only [List.map_cons, List.map_nil, List.sum_cons, List.sum_nil] at h1 h2
 have q1 := p (1, 0); have q2 := p (-1, 0); have q3 := p (0, 1); have q4 := p (0, -1); have q5 := p (1, 1); have q6 := p (-1, -1); have q7 := p (1, -1); have q8 := p (-1, 1)
 have e1 : T (1, 0) - T (-1, 0) + (T (1, 1) - T (-1, -1)) + (T (1, -1) - T (-1, 1)) = 0 := by clear fin hp p; omega
 have e2 : T (0, 1) - T (0, -1) + (T (1, 1) - T (-1, -1)) + (T (-1, 1) - T (1, -1)) = 0 := by clear fin hp p; omega
 have e1' : T (-1, 0) - T (1, 0) + (T (-1, -1) - T (1, 1)) + (T (-1, 1) - T (1, -1)) = 0 := by clear fin hp p; exact Int.le_antisymm (Int.not_lt.mp fun qz => lin [] [_,_,_,_,_,_] [(1,.it (.n 0) (.a (.a (.s (.v 0) (.v 1)) (.s (.v 2) (.v 3))) (.s (.v 4) (.v 5)))),(1,.jf (.a (.a (.s (.v 1) (.v 0)) (.s (.v 3) (.v 2))) (.s (.v 5) (.v 4))) (.n 0))] rfl qz e1) (Int.not_lt.mp fun qz => lin [] [_,_,_,_,_,_] [(1,.it (.a (.a (.s (.v 0) (.v 1)) (.s (.v 2) (.v 3))) (.s (.v 4) (.v 5))) (.n 0)),(1,.ie (.a (.a (.s (.v 1) (.v 0)) (.s (.v 3) (.v 2))) (.s (.v 5) (.v 4))) (.n 0))] rfl qz e1)
 have e2' : T (0, -1) - T (0, 1) + (T (-1, -1) - T (1, 1)) + (T (1, -1) - T (-1, 1)) = 0 := by clear fin hp p; exact Int.le_antisymm (Int.not_lt.mp fun qz => lin [] [_,_,_,_,_,_] [(1,.it (.n 0) (.a (.a (.s (.v 0) (.v 1)) (.s (.v 2) (.v 3))) (.s (.v 4) (.v 5)))),(1,.jf (.a (.a (.s (.v 1) (.v 0)) (.s (.v 3) (.v 2))) (.s (.v 5) (.v 4))) (.n 0))] rfl qz e2) (Int.not_lt.mp fun qz => lin [] [_,_,_,_,_,_] [(1,.it (.a (.a (.s (.v 0) (.v 1)) (.s (.v 2) (.v 3))) (.s (.v 4) (.v 5))) (.n 0)),(1,.ie (.a (.a (.s (.v 1) (.v 0)) (.s (.v 3) (.v 2))) (.s (.v 5) (.v 4))) (.n 0))] rfl qz e2)
 have sw : ∀ {a b c d : Int}, a - b + c + d = 0 → a - b + d + c = 0 := by omega
 rcases tri (u := T (1, 1)) (v := T (-1, -1)) with h | h | h <;> rcases tri (u := T (1, -1)) (v := T (-1, 1)) with k | k | k
 ·exact fin [((1, 1), 1), ((1, -1), 1), ((-1, 0), 2)] (by decide) ⟨p1 h q6, p1 k q8, p2 e1 q1 h k, trivial⟩
 ·exact fin [((1, 1), 1), ((-1, 1), 1), ((0, -1), 2)] (by decide) ⟨p1 h q6, p1 k q7, p2 e2 q3 h k, trivial⟩
 ·exact fin [((1, 1), 1), ((-1, 0), 1), ((0, -1), 1)] (by decide) ⟨p1 h q6, p3 e1 q1 h k.1, p3 e2 q3 h k.2, trivial⟩
 ·exact fin [((-1, -1), 1), ((1, -1), 1), ((0, 1), 2)] (by decide) ⟨p1 h q5, p1 k q8, p2 e2' q4 h k, trivial⟩
 ·exact fin [((-1, -1), 1), ((-1, 1), 1), ((1, 0), 2)] (by decide) ⟨p1 h q5, p1 k q7, p2 e1' q2 h k, trivial⟩
 ·exact fin [((-1, -1), 1), ((1, 0), 1), ((0, 1), 1)] (by decide) ⟨p1 h q5, p3 e1' q2 h k.2, p3 e2' q4 h k.1, trivial⟩
 ·exact fin [((1, -1), 1), ((-1, 0), 1), ((0, 1), 1)] (by decide) ⟨p1 k q8, p3 (sw e1) q1 k h.1, p3 (sw e2') q4 k h.2, trivial⟩
 ·exact fin [((-1, 1), 1), ((1, 0), 1), ((0, -1), 1)] (by decide) ⟨p1 k q7, p3 (sw e1') q2 k h.2, p3 (sw e2) q3 k h.1, trivial⟩
 ·have g : ∀ {a b c d : Int}, a - b + c + d = 0 → c = 0 → d = 0 → a = b := by omega
  have k1 := g e1 h.1 k.1
  have k2 := g e2 h.1 k.2
  have k3 := Int.eq_of_sub_eq_zero h.1
  have k4 := Int.eq_of_sub_eq_zero k.1
  simp only [List.mem_cons, List.not_mem_nil, or_false] at ht
  rcases ht with rfl | rfl | rfl | rfl | rfl | rfl | rfl | rfl | rfl
  ·exact fin [((0, 0), 1)] (by decide) ⟨hp, trivial⟩
  ·exact fin [((1, 0), 1), ((-1, 0), 1)] (by decide) ⟨hp, k1 ▸ hp, trivial⟩
  ·exact fin [((1, 0), 1), ((-1, 0), 1)] (by decide) ⟨k1 ▸ hp, hp, trivial⟩
  ·exact fin [((0, 1), 1), ((0, -1), 1)] (by decide) ⟨hp, k2 ▸ hp, trivial⟩
  ·exact fin [((0, 1), 1), ((0, -1), 1)] (by decide) ⟨k2 ▸ hp, hp, trivial⟩
  ·exact fin [((1, 1), 1), ((-1, -1), 1)] (by decide) ⟨hp, k3 ▸ hp, trivial⟩
  ·exact fin [((1, 1), 1), ((-1, -1), 1)] (by decide) ⟨k3 ▸ hp, hp, trivial⟩
  ·exact fin [((1, -1), 1), ((-1, 1), 1)] (by decide) ⟨hp, k4 ▸ hp, trivial⟩
  ·exact fin [((1, -1), 1), ((-1, 1), 1)] (by decide) ⟨k4 ▸ hp, hp, trivial⟩
theorem Dm.mono {V : (Nat → Int) → Prop} {k : Nat} (D : Dm V k) : Dm V (k + 1) := fun vs hl h => by
 match vs, hl with
 | v :: vs, hl => exact (D vs (Nat.succ.inj hl) fun w hw => h w (.tail _ hw)).cons v
theorem few1 {E : List (List Int)} {n : Nat} {l : List (List Int)} (D : Dm (Ker n E) 1) (hE : ∀ e ∈ E, e.length = n) (nd : l.Nodup) (hl : ∀ s ∈ l, Least E n s) : l.length < 64 := by
 have : ∀ l : List (List Int), ∃ B : Nat, ∀ s ∈ l, ∀ i, s.getD i 0 ≤ B := fun l => by
  induction l with
  | nil => exact ⟨0, fun s hs => (List.not_mem_nil hs).elim⟩
  | cons a l ih =>
   obtain ⟨B, hB⟩ := ih
   refine ⟨B + (a.map Int.natAbs).sum, fun s hs i => ?_⟩
   rcases List.mem_cons.mp hs with rfl | hs
   ·have : ∀ (a : List Int) (i : Nat), a.getD i 0 ≤ ((a.map Int.natAbs).sum : Nat) := fun a => by
     induction a with
     | nil => intro i; simp
     | cons y a ih =>
      intro i
      cases i with
      | zero => rw [List.map_cons, List.sum_cons, List.getD_cons_zero]; omega
      | succ i => have := ih i; rw [List.map_cons, List.sum_cons, List.getD_cons_succ]; exact Int.not_lt.mp fun qz => lin [_,_] [_] [(1,.it (.c (.a (.v 0) (.v 1))) (.v 0)),(1,.il (.v 0) (.c (.v 1)))] rfl qz this
    have := this s i
    exact Int.not_lt.mp fun qz => lin [_,_] [_] [(1,.it (.c (.a (.v 0) (.v 1))) (.v 0)),(1,.il (.v 0) (.c (.v 1)))] rfl qz this
   ·have := hB s hs i; exact Int.not_lt.mp fun qz => lin [_,_] [_] [(1,.it (.c (.a (.v 0) (.v 1))) (.v 0)),(1,.il (.v 0) (.c (.v 0)))] rfl qz this
 obtain ⟨B, hB⟩ := this l
 exact Nat.lt_of_le_of_lt (D.count (k := 0) hE nd hl hB) (by rw [Nat.pow_zero]; decide)
theorem mostN_le {n m : Nat} : mostN n m ≤ 20 := by unfold mostN; split; decide; split; split <;> decide; split <;> decide
theorem few_base {E : List (List Int)} {n : Nat} (h1 : 1 ≤ n) (h5 : n ≤ 5) (hE : ∀ e ∈ E, e.length = n) (hm : E.length ≤ 3) (hw : ∀ e ∈ E, ∀ x ∈ e, -mostN n E.length ≤ x ∧ x ≤ mostN n E.length) {l : List (List Int)} (nd : l.Nodup) (hl : ∀ s ∈ l, Least E n s) : l.length < 64 := by
 obtain ⟨F, k, hs, hk, D, hK⟩ := basis n E
 have hF : ∀ e ∈ F, e.length = n := fun e he => hE e (hs.subset he)
 have hw : ∀ e ∈ F, ∀ x ∈ e, -mostN n E.length ≤ x ∧ x ≤ mostN n E.length := fun e he => hw e (hs.subset he)
 have hm' := hs.length_le
 have hl : ∀ s ∈ l, Least F n s := fun s h => (hl s h).via hE hs hK
 have ones : 4 ≤ n → 2 ≤ F.length → ∀ e ∈ F, ∀ x ∈ e, -1 ≤ x ∧ x ≤ 1 := fun h h' => by
  have : mostN n E.length = 1 := by unfold mostN; rw [if_neg (by exact fun qz => lin [_] [] [(1,.nt (.v 0) (.n 3)),(1,.nl (.n 4) (.v 0))] rfl qz h), if_neg (by exact fun qz => lin [_] [] [(1,.ne (.v 0) (.n 3)),(1,.nl (.n 4) (.v 0))] rfl qz h), if_neg (by exact fun qz => lin [_,_] [] [(1,.nt (.v 0) (.n 2)),(1,.nl (.n 2) (.v 1)),(1,.nl (.v 1) (.v 0))] rfl qz h' hm')]
  rwa [this] at hw
 have two : 4 ≤ n → ∀ e ∈ F, ∀ x ∈ e, -2 ≤ x ∧ x ≤ 2 := fun h e he x hx => by
  have : mostN n E.length ≤ 2 := by unfold mostN; rw [if_neg (by exact fun qz => lin [_] [] [(1,.nt (.v 0) (.n 3)),(1,.nl (.n 4) (.v 0))] rfl qz h), if_neg (by exact fun qz => lin [_] [] [(1,.ne (.v 0) (.n 3)),(1,.nl (.n 4) (.v 0))] rfl qz h)]; split <;> decide
  have := hw e he x hx; omega
 have lev : F.length ≤ 3 → (∀ e ∈ F, ∀ x ∈ e, -1 ≤ x ∧ x ≤ 1) → ∀ s ∈ l, ∀ i, s.getD i 0 ≤ (34 : Nat) := fun h h' s hs i => Int.le_trans (get_le_sum (hl s hs).row i) (most_of (once := false) hF (level_ones hF h h') (hl s hs) fun q => by cases q)
 match F, hF, hl, hk, D, hw, hm', ones, two, lev with
 | [], _, hl, _, _, _, _, _, _, _ => exact count_sum h5 nd hl fun s hs => sum_none (hl s hs)
 | [e], hF, hl, hk, D, hw, _, _, two, _ =>
  by_cases q : 4 ≤ n
  ·exact count_sum h5 nd hl fun s hs => sum_single (hF e (.head _)) (two q e (.head _)) (hl s hs)
  ·have D2 : Dm (Ker n [e]) 2 := by
    have : k = 0 ∨ k = 1 ∨ k = 2 := by simp at hk; omega
    rcases this with rfl | rfl | rfl
    ·exact D.mono.mono
    ·exact D.mono
    ·exact D
   refine Nat.lt_of_le_of_lt (D2.count (k := 1) (B := 42) hF nd hl fun s hs i => Int.le_trans (get_le_sum (hl s hs).row i) ?_) (by decide)
   refine most_of (once := false) (K := 42) hF (fun R v x => ?_) (hl s hs) fun q => by cases q
   have e1 : ([1] : List Int).map (fun a => e.map (a * ·)) = [e] := by simp
   rw [← e1] at x
   exact level_line (w := 20) (hF e (.head _)) (fun y hy => by have := hw e (.head _) y hy; have := mostN_le (n := n) (m := E.length); omega) R v x
 | [e, f], hF, hl, hk, D, _, _, ones, _, lev =>
  simp at hk
  by_cases q : 4 ≤ n
  ·have o := ones q (Nat.le_refl _)
   have : k = 2 ∨ k = 3 := by omega
   rcases this with rfl | rfl
   ·exact Nat.lt_of_le_of_lt (D.count (k := 1) (B := 34) hF nd hl (lev (by decide : 2 ≤ 3) o)) (by decide)
   ·exact Nat.lt_of_le_of_lt (D.count (k := 2) (B := 3) hF nd hl fun s hs => three_double (hF e (.head _)) (hF f (.tail _ (.head _))) (o e (.head _)) (o f (.tail _ (.head _))) (hl s hs)) (by decide)
  ·have D1 : Dm (Ker n [e, f]) 1 := by
    have : k = 0 ∨ k = 1 := by omega
    rcases this with rfl | rfl
    ·exact D.mono
    ·exact D
   exact few1 D1 hF nd hl
 | [e, f, g], hF, hl, hk, D, _, _, ones, _, lev =>
  simp at hk
  by_cases q : n = 5
  ·obtain rfl : k = 2 := by exact Nat.le_antisymm (Nat.not_lt.mp fun qz => lin [_,_] [] [(1,.nt (.n 2) (.v 0)),(1,.ne (.v 1) (.n 5)),(1,.ne (.a (.n 3) (.v 0)) (.v 1))] rfl qz q hk) (Nat.not_lt.mp fun qz => lin [_,_] [] [(1,.nt (.v 0) (.n 2)),(1,.nf (.v 1) (.n 5)),(1,.nf (.a (.n 3) (.v 0)) (.v 1))] rfl qz q hk)
   exact Nat.lt_of_le_of_lt (D.count (k := 1) (B := 34) hF nd hl (lev (by decide : 3 ≤ 3) (ones (by exact Nat.le_of_lt (Nat.lt_of_lt_of_le (by decide) (Nat.le_of_eq q.symm))) (by decide : 2 ≤ 3)))) (by decide)
  ·have D1 : Dm (Ker n [e, f, g]) 1 := by
    have : k = 0 ∨ k = 1 := by omega
    rcases this with rfl | rfl
    ·exact D.mono
    ·exact D
   exact few1 D1 hF nd hl
 | _ :: _ :: _ :: _ :: _, _, _, _, _, _, hm', _, _, _ => simp at hm'; exact Nat.not_le.mp fun qz => lin [_,_] [] [(1,.nl (.a (.a (.a (.a (.v 0) (.n 1)) (.n 1)) (.n 1)) (.n 1)) (.v 1)),(1,.nl (.v 1) (.n 3))] rfl hm' hm
end Mine
namespace Mine
noncomputable def Fits6 (E : List (List Int)) (n : Nat) : Prop := Fits E n false ∧ ∀ l : List (List Int), l.Nodup → (∀ s ∈ l, Least E n s) → l.length < 64
theorem Fits6.base {E : List (List Int)} {n : Nat} (h1 : 1 ≤ n) (h5 : n ≤ 5) (hE : ∀ e ∈ E, e.length = n) (hm : E.length ≤ 3) (hw : ∀ e ∈ E, ∀ x ∈ e, -mostN n E.length ≤ x ∧ x ≤ mostN n E.length) : Fits6 E n :=
 ⟨Fits.base h1 h5 hE hm hw, fun l nd hl => few_base h1 h5 hE hm hw nd hl⟩
end Mine
namespace Mine
open PySem PySem.Calls PyProof.Rows
section
variable {c : Cx} {A : Around} {fr : List Addr} {σ : Sto} {X : Addr → Sto → Prop} {Q : D → Sto → Prop} {env : Env} {m : Vars} {N : Vars → Sto → Prop} {R : D → Sto → Prop}
theorem W1.while {test : Expr} {body : List Stmt} {pos : Pos} {sc : Scope} (fe : Fe A env sc) (L : Nat → Vars → Sto → Prop) (n : Nat) (h0 : L n m σ)
  (turn : ∀ k m' σ', L k m' σ' → WT c A fr env m' σ' test (fun b σ1 => if b = true then WS c A fr env m' σ1 body (fun m'' σ'' => ∃ j, j < k ∧ L j m'' σ'') R X else N m' σ1) X) :
  W1 c A fr env m σ (.While test body [] pos) N R X := fun s ok fm => by
 have hin := ok.frames_in
 refine wpAny_While (codeAny_whileLoop (fun k s' => ∃ m' σ', L k m' σ' ∧ Post (Fa env) fr σ s s' σ' ∧ Ok c A fr σ' s'.heap ∧ Fm env m' fr (keys σ' ++ fr) s'.heap) ?_ n ⟨m, σ, h0, Post.refl .., ok, fm⟩)
 rintro k s' ⟨m', σ', hL, p, okk, fmk⟩
 refine wpAny_mono (turn k m' σ' hL s' okk fmk) (fun b s2 ⟨b', σ2, p2, ok2, e, q⟩ => ?_) fun v s3 x => Ex.loop (wr := []) fe.stack fe.frame hin fm.inn (Post.refl ..) (fun a ha => by cases ha) p (x.wide fmk)
 cases e
 have fm2 := fmk.move p2
 have pp := p.trans (p2.wide (F' := Fa env) (by simp))
 cases b with
 | true =>
  simp only [if_true] at q ⊢
  refine wpAny_mono (q s2 ok2 fm2) (fun fl s3 hx => ?_) fun v s3 x => Ex.loop (wr := []) fe.stack fe.frame hin fm.inn (Post.refl ..) (fun a ha => by cases ha) pp x
  obtain ⟨out, σ3, p3, ok3, r3, q3⟩ := hx
  cases out with
  | next m3 =>
   obtain ⟨rfl, fm3⟩ := r3
   obtain ⟨j, hj, hL'⟩ := q3
   exact ⟨j, hj, m3, σ3, hL', pp.trans p3, ok3, fm3⟩
  | ret d =>
   obtain ⟨v, rfl, hv, fv⟩ := r3
   exact ⟨.ret d, σ3, pp.trans p3, ok3, ⟨v, rfl, hv, fv⟩, q3⟩
 | false =>
  simp only [Bool.false_eq_true, if_false] at q ⊢
  exact wpAny_execs_nil ⟨.next m', σ2, pp, ok2, ⟨rfl, fm2⟩, q⟩
theorem WE.dict0 (gd : c.Good) {pos : Pos} (h : ∀ a, a ∉ keys σ → Q (.ref a) ((a, .rows []) :: σ)) : WE c A fr env m σ (.Dict [] [] pos) Q X := fun s ok fm => by
 have kp : ∀ b o, s.heap.get? b = some o → (s.heap.push { cls := .type "dict", data := .dict #[] }).get? b = some o := fun b o e => Heap.get?_push_of_some _ e
 have hsz : 3 < s.heap.objs.size := by
  obtain ⟨o, es, ep, g0, _⟩ := gd.g
  exact Heap.lt_size (ok.base _ _ g0)
 refine wpAny_Dict_empty ⟨.ref s.heap.objs.size, (s.heap.objs.size, .rows []) :: σ, Post.add (tk := s.toks) kp (Nat.le_refl _), Ok.add (o := .rows []) ok kp (Nat.le_refl _) ⟨[], rfl, ⟨Vs.nil, beq_eq_false_iff_ne.mpr fun e => by have h1 : s.heap.objs.size = 1 := e; exact lin [_] [] [(1,.ne (.v 0) (.n 1)),(1,.nt (.n 3) (.v 0))] rfl h1 hsz⟩, Heap.DictOfH.new _⟩, by unfold V; rfl, h _ fun z => ?_⟩
 exact Nat.lt_irrefl _ (ok.lt (List.mem_append_left _ z))
theorem atKey_rows {rs : List (List Int)} {as : List Addr} (hl : as.length = rs.length) {f : List Int} : (atKey (rowItems rs as) f).isSome = decide (f ∈ rs) := by
 unfold atKey
 rw [Option.isSome_map, List.isSome_find?]
 apply Bool.eq_iff_iff.mpr
 rw [List.any_eq_true, decide_eq_true_eq]
 constructor
 ·rintro ⟨x, hx, e⟩
  unfold rowItems at hx
  obtain ⟨p, hp, rfl⟩ := List.mem_map.mp hx
  have := (List.of_mem_zip hp).1
  simp only [decide_eq_true_eq] at e
  rw [← e]; exact this
 ·intro hf
  obtain ⟨i, hi, e⟩ := List.mem_iff_getElem.mp hf
  refine ⟨(rs[i], as[i]'(by exact Nat.lt_of_lt_of_le hi (Nat.le_of_eq hl.symm)), Value.bool true), ?_, by simp [e]⟩
  unfold rowItems
  exact List.mem_map.mpr ⟨(rs[i], as[i]'(by exact Nat.lt_of_lt_of_le hi (Nat.le_of_eq hl.symm))), List.mem_iff_getElem.mpr ⟨i, by simp; omega, by simp⟩, rfl⟩
theorem rows_stored {K : List Addr} {h : Heap} {rs : List (List Int)} {as : List Addr} {b : Addr} (hl : as.length = rs.length) {f : List Int} (hv : Vs K h (rs.map row) (as.map .ref)) (hb : V K h (row f) (.ref b)) : ∃ as', as'.length = (ins rs f).length ∧ Vs K h ((ins rs f).map row) (as'.map .ref) ∧ storedH (rowItems rs as) f b (.bool true) = rowItems (ins rs f) as' := by
 unfold storedH ins
 rw [atKey_rows hl]
 by_cases q : f ∈ rs
 ·rw [decide_eq_true q]
  simp only [if_true]
  rw [if_pos q]
  refine ⟨as, hl, hv, ?_⟩
  have : ∀ x ∈ rowItems rs as, putAt f (.bool true) x = x := fun x hx => by
   unfold rowItems at hx
   obtain ⟨p, hp, rfl⟩ := List.mem_map.mp hx
   unfold putAt
   split <;> rfl
  rw [List.map_congr_left this, List.map_id']
 ·rw [decide_eq_false q]
  simp only [Bool.false_eq_true, if_false]
  rw [if_neg q]
  refine ⟨as ++ [b], by simp [hl], by rw [List.map_append, List.map_append]; exact hv.append (Vs.cons hb Vs.nil), ?_⟩
  unfold rowItems
  rw [List.zip_append hl.symm, List.map_append]
  rfl
theorem V.isKey {K : List Addr} {h : Heap} {f : List Int} {v : Value} (x : V K h (row f) v) : ∃ b, v = .ref b ∧ b ∉ K ∧ IsTupleKey (intKind c.prog c.w) h f b := by
 unfold V at x
 obtain ⟨b, vs, n, rfl, nk, g, r⟩ := x
 refine ⟨b, rfl, nk, _, vs.toArray, n, g, rfl, rfl, ?_⟩
 rw [List.toList_toArray]
 clear g nk
 induction f generalizing vs with
 | nil =>
  simp only [List.map_nil] at r
  unfold Vs at r; subst r; exact .nil
 | cons i f ih =>
  simp only [List.map_cons] at r
  unfold Vs at r
  obtain ⟨v, us, rfl, x1, x2⟩ := r
  obtain ⟨t, rfl⟩ := x1.toInt
  exact .cons (by simp [intKind, Value.isInt]) (ih us x2)
theorem W1.setRow {n : Nat} (rm : Room n A) {o i value : Expr} {pos' pos : Pos} (h : WE c A fr env m σ value (fun dv σ1 => dv = .bool true ∧ WE c A fr env m σ1 o (fun d σ2 => WE c A fr env m σ2 i (fun di σ3 => ∃ (a : Addr) (rs : List (List Int)) (f : List Int) (σa σb : Sto), d = .ref a ∧ di = row f ∧ σ3 = σa ++ (a, .rows rs) :: σb ∧ rs.length ≤ sizeLine ∧ N m (σa ++ (a, .rows (ins rs f)) :: σb)) X) X) X)
  (hs : swapsWith value (some (.Subscript o i pos')) pos.line env = pure false) : W1 c A fr env m σ (.Assign [.Subscript o i pos'] value pos) N R X := fun s ok fm => by
 refine wpAny_Assign_Subscript (wpAny_mono (h s ok fm) (fun v s1 hx => ?_) fun _ _ x => x.wide fm) hs
 obtain ⟨dv, τ1, p1, ok1, x1, rfl, q1⟩ := hx
 refine wpAny_mono (q1 s1 ok1 (fm.move p1)) (fun ov s2 hx => ?_) fun _ _ x => (Ex.back (G := none) p1 x fun _ _ y => y).wide fm
 obtain ⟨d, τ2, p2, ok2, x2, q2⟩ := hx
 refine wpAny_mono (q2 s2 ok2 ((fm.move p1).move p2)) (fun iv s3 hx => ?_) fun _ _ x => (Ex.back (G := none) (p1.trans p2) x fun _ _ y => y).wide fm
 obtain ⟨di, τ3, p3, ok3, x3, a, rs, f, σa, σb, rfl, rfl, rfl, hsz, q⟩ := hx
 have x2' := p3.v x2
 unfold V at x2'; subst x2'
 unfold V at x1; subst x1
 obtain ⟨b, rfl, nb, hkey⟩ := V.isKey (c := c) x3
 have ha : a ∈ keys (σa ++ (a, O.rows rs) :: σb) := by simp [keys]
 have nfr : a ∉ fr := fun z => (List.nodup_append.mp ok3.nd).2.2 a ha a z rfl
 obtain ⟨as, hl, hn, hd⟩ := ok3.sto (a, O.rows rs) (by simp)
 have hu : A.units + 1 < cLine := by have := rm.1.2; have e : cLine = 9900 := rfl; omega
 refine wpAny_setItem_heap (knd := tupleKind (intKind c.prog c.w)) (k := f) (tupleKind_room_in1 hu) hkey hd (fun h' hd' hb => ?_) (by unfold rowItems; simp [hl]; exact hsz)
 have k' : ∀ b ob, b ≠ a → s3.heap.get? b = some ob → h'.get? b = some ob := fun b ob hne e => by rw [hb.2 b hne]; exact e
 obtain ⟨as', l1, l2, l3⟩ := rows_stored (b := b) hl (f := f) hn.1 x3
 rw [l3] at hd'
 have st : Stay (keys (σa ++ (a, O.rows rs) :: σb) ++ fr) s3.heap h' := fun b ob nb e => k' b ob (fun z => nb (by rw [z]; exact List.mem_append_left _ ha)) e
 have pp : Post [] fr (σa ++ (a, .rows rs) :: σb) s3 { s3 with heap := h', toks := s3.toks + (tupleKind (intKind c.prog c.w)).draws f } (σa ++ (a, .rows (ins rs f)) :: σb) := Post.put nfr k' (by obtain ⟨o, _, _, e, _⟩ := hd'; exact ⟨o, e⟩)
 refine ⟨.next m, _, (((p1.trans p2).trans p3).trans pp).wide (by simp), ok3.put k' ⟨as', l1, ⟨Vs.move st (fun _ z => .inl z) _ _ l2, hn.2⟩, hd'⟩, ⟨rfl, (((fm.move p1).move p2).move p3).move pp⟩, q⟩
end
end Mine
set_option maxRecDepth 100000
namespace Mine
open PySem PySem.Calls PyProof.Rows
noncomputable def RawD (h : Heap) (d : Addr) (es : Array DictEntry) (ep : Nat) : Prop := ∃ o, h.get? d = some o ∧ o.ExactDict ∧ o.data = .dict es ep
theorem RawD.ty {s : Shared} {d : Addr} {es : Array DictEntry} {ep : Nat} (x : RawD s.heap d es ep) : s.TypeIs (.ref d) "dict" := let ⟨o, ho, hc, _⟩ := x; ⟨o, ho, hc.1⟩
theorem RawD.at {h h' : Heap} {d : Addr} {es : Array DictEntry} {ep : Nat} (x : RawD h d es ep) (e : ∀ o, h.get? d = some o → h'.get? d = some o) : RawD h' d es ep := let ⟨o, ho, r⟩ := x; ⟨o, e _ ho, r⟩
section
variable {prog : Program} {w : World} {A : Around} {E : Value → Shared → Prop} {s : Shared} {d : Addr} {es : Array DictEntry} {ep : Nat}
theorem iterD {Q : Value → Shared → Prop} (hd : (d == sysModules) = false) (hm : RawD s.heap d es ep)
  (hQ : Q (.ref s.heap.objs.size) { s with heap := s.heap.push { cls := .type "dict_keyiterator", data := .fields #[.ref d, .int 0 0, .int es.size 0, .int ep 0] } }) : wpAny (model prog w) A (pyIter (.ref d)) Q E s := by
 obtain ⟨o, ho, hc, hdat⟩ := id hm
 have hT := hm.ty
 refine wpAny_pyIter_slot hT F.slot_dict_iter (wpAny_call_entry F.slot_dict_iter hT F.entry_dict_iter ?_ (F.args_dict_iter_1 _))
 unfold Builtin.«dict.__iter__»
 refine wpAny_bind ?_
 unfold Builtin.Dict.dictSlotNone
 refine wpAny_bind (wpAny_notOrdered_dict hT ?_)
 show wpAny _ _ (pure (Value.ref d)) _ _ s
 refine wpAny_pure ?_
 show wpAny _ _ (Builtin.Dict.showsAll d >>= _) _ _ s
 unfold Builtin.Dict.showsAll
 rw [if_neg (by rw [hd]; exact Bool.false_ne_true)]
 refine wpAny_bind (wpAny_pure ?_)
 refine wpAny_bind (wpAny_dictEntries ho hdat ?_)
 refine wpAny_bind (wpAny_dictEpoch ho hdat ?_)
 refine wpAny_bind (wpAny_newObj_type (wpAny_pure ⟨_, rfl, "dict_keyiterator", _, ⟨_, Heap.get?_push_size _ rfl, rfl⟩, F.slot_dict_keyiterator_next.lookup, ?_⟩))
 simpa [rawInt] using hQ
theorem nextD {it : Addr} {i : Nat} {en : DictEntry} {Q : Option Value → Shared → Prop} (hit : s.heap.IsKeyIter it d i es.size ep) (hm : RawD s.heap d es ep) (hx : es[i]? = some en)
  (hQ : ∀ h', h'.IsKeyIter it d (i + 1) es.size ep → Heap.SameBut it s.heap h' → Q (some en.key) { s with heap := h' }) : wpAny (model prog w) A (pyNext (.ref it)) Q E s := by
 obtain ⟨o, ho, hc, hd⟩ := id hit
 obtain ⟨od, hod, hcd, hdd⟩ := id hm
 unfold pyNext
 refine wpAny_bind (wpAny_attempt (wpAny_callSpecial?_slot (name := Str.ofString "__next__") hit.typeIs F.slot_dict_keyiterator_next
  (wpAny_call_entry F.slot_dict_keyiterator_next hit.typeIs F.entry_dict_keyiterator_next ?_ (F.args_dict_keyiterator_next_1 _))))
 refine wpAny_bind (wpAny_pure ?_)
 refine wpAny_bind ?_
 refine wpAny_bind ?_
 first | refine wpAny_bind (wpAny_typeNameOfWhole_keyiter hit.typeIs (wpAny_pure ?_)) | refine wpAny_bind (wpAny_typeNameOf_keyiter hit.typeIs (wpAny_pure ?_))
 refine wpAny_bind (wpAny_fieldsOf ho hd ?_)
 have hown : Builtin.Dict_items.ownsTuple "dict_keyiterator" = false := by decide
 simp only [hown, Bool.false_eq_true, if_false]
 show wpAny _ _ (if (Value.ref d == Value.none) = true then _ else _) _ _ s
 rw [if_neg (show ¬ ((Value.ref d == Value.none) = true) from Bool.false_ne_true)]
 refine wpAny_bind (wpAny_pure ?_)
 refine wpAny_bind (wpAny_dictEntries hod hdd ?_)
 rw [if_neg (by simp)]
 refine wpAny_bind (wpAny_pure ?_)
 refine wpAny_bind (wpAny_dictEpoch hod hdd ?_)
 rw [if_neg (by simp)]
 refine wpAny_pure ?_
 simp only [show ¬ ((i : Int) < 0) from by exact fun qz => lin [_] [] [(1,.it (.c (.v 0)) (.n 0))] rfl qz, if_false, Int.toNat_natCast, hx]
 refine wpAny_bind ?_
 first | refine wpAny_bind (wpAny_typeNameOfWhole_keyiter hit.typeIs (wpAny_pure ?_)) | refine wpAny_bind (wpAny_typeNameOf_keyiter hit.typeIs (wpAny_pure ?_))
 refine wpAny_bind (wpAny_isOneOf_keyiter hit.typeIs ?_)
 show wpAny _ _ (setField (.ref it) 1 (rawInt ((i : Int) + 1)) >>= _) _ _ s
 refine wpAny_bind (wpAny_setField ho hd (by simp) ?_)
 have hit' : (s.heap.update it (Obj.mapFields (·.setIfInBounds 1 (rawInt ((i : Int) + 1))))).IsKeyIter it d (i + 1) es.size ep :=
  ⟨_, Heap.get?_update_self _ ho (Obj.isFreed_of_fields (Obj.data_mapFields hd _)), (Obj.cls_mapFields ..).trans hc, by rw [Obj.data_mapFields hd]; simp [rawInt]⟩
 refine wpAny_bind (wpAny_holding ?_)
 refine wpAny_bind (wpAny_isOneOf_keyiter (s := { s with heap := s.heap.update it (Obj.mapFields (·.setIfInBounds 1 (rawInt ((i : Int) + 1)))) }) hit'.typeIs ?_)
 show wpAny _ _ (pure en.key) _ _ _
 exact wpAny_pure (wpAny_pure ⟨_, rfl, wpAny_pure (hQ _ hit' (Heap.SameBut.update ..))⟩)
theorem endD {it : Addr} {i : Nat} {Q : Option Value → Shared → Prop} (hh : A.handled = none) (hit : s.heap.IsKeyIter it d i es.size ep) (hm : RawD s.heap d es ep) (hge : es.size ≤ i)
  (hQ : ∀ h', Heap.ExtBut it s.heap h' → Q none { s with heap := h' }) : wpAny (model prog w) A (pyNext (.ref it)) Q E s := by
 obtain ⟨o, ho, hc, hd⟩ := id hit
 obtain ⟨od, hod, hcd, hdd⟩ := id hm
 unfold pyNext
 refine wpAny_bind (wpAny_attempt (wpAny_callSpecial?_slot (name := Str.ofString "__next__") hit.typeIs F.slot_dict_keyiterator_next
  (wpAny_call_entry F.slot_dict_keyiterator_next hit.typeIs F.entry_dict_keyiterator_next ?_ (F.args_dict_keyiterator_next_1 _))))
 refine wpAny_bind (wpAny_pure ?_)
 refine wpAny_bind ?_
 refine wpAny_bind ?_
 first | refine wpAny_bind (wpAny_typeNameOfWhole_keyiter hit.typeIs (wpAny_pure ?_)) | refine wpAny_bind (wpAny_typeNameOf_keyiter hit.typeIs (wpAny_pure ?_))
 refine wpAny_bind (wpAny_fieldsOf ho hd ?_)
 have hown : Builtin.Dict_items.ownsTuple "dict_keyiterator" = false := by decide
 simp only [hown, Bool.false_eq_true, if_false]
 show wpAny _ _ (if (Value.ref d == Value.none) = true then _ else _) _ _ s
 rw [if_neg (show ¬ ((Value.ref d == Value.none) = true) from Bool.false_ne_true)]
 refine wpAny_bind (wpAny_pure ?_)
 refine wpAny_bind (wpAny_dictEntries hod hdd ?_)
 rw [if_neg (by simp)]
 refine wpAny_bind (wpAny_pure ?_)
 refine wpAny_bind (wpAny_dictEpoch hod hdd ?_)
 rw [if_neg (by simp)]
 refine wpAny_pure ?_
 simp only [show ¬ ((i : Int) < 0) from by exact fun qz => lin [_] [] [(1,.it (.c (.v 0)) (.n 0))] rfl qz, if_false, Int.toNat_natCast, Array.getElem?_eq_none hge]
 refine wpAny_bind ?_
 first | refine wpAny_bind (wpAny_typeNameOfWhole_keyiter hit.typeIs (wpAny_pure ?_)) | refine wpAny_bind (wpAny_typeNameOf_keyiter hit.typeIs (wpAny_pure ?_))
 show wpAny _ _ (setField (.ref it) 0 .none >>= _) _ _ s
 refine wpAny_bind (wpAny_setField ho hd (by simp) ?_)
 show wpAny _ _ (newExc (.type "StopIteration") [] >>= _) _ _ _
 refine wpAny_bind ?_
 simp only [newExc, newTuple]
 refine wpAny_bind (wpAny_newObj_type ?_ (by size_fits))
 refine wpAny_bind (m := firstArgMember _ _) (wpAny_of_eq (a := Value.none) (by first | rfl | (simp only [firstArgMember]; rfl)) ?_)
 refine wpAny_newObj_type ?_ (by size_fits)
 simp only [raiseNew]
 refine wpAny_bind (wpAny_handled ?_)
 rw [show A.in1.handled = none from hh]
 refine wpAny_bind (wpAny_pure (wpAny_throw ?_))
 refine wpAny_bind (wpAny_isInstance (T := "StopIteration") (b := true) ⟨_, Heap.get?_push_size _ rfl, rfl⟩ isSubtype_stop ?_)
 exact wpAny_pure (hQ _ (((Heap.SameBut.update ..).extBut.push _).push _))
theorem walkD (hh : A.handled = none) (I : Addr) (hne : d ≠ I) : Walks prog w A I [I, d] [I] es.size (fun i v => ∃ e, es[i]? = some e ∧ v = e.key) (fun i h => h.IsKeyIter I d i es.size ep ∧ RawD h d es ep) where
 sub := fun b hb => by simp at hb; simp [hb]
 frame := fun _ _ _ st hk => ⟨st.1.at fun o e => hk I (by simp) o e, st.2.at fun o e => hk d (by simp) o e⟩
 item := fun i s Q E hi st hQ => by
  have hx : es[i]? = some es[i] := by simp [hi]
  refine nextD st.1 st.2 hx fun h' hit' hs' => ?_
  exact hQ _ h' s.toks ⟨_, hx, rfl⟩ ⟨hit', st.2.at fun o e => (hs'.2 d hne).trans e⟩ fun b o hb e => hs'.extBut b o (fun h => hb (by simp [h])) e
 done := fun s Q E st hQ => endD hh st.1 st.2 (Nat.le_refl _) fun h' he' => hQ h' s.toks fun b o hb e => he' b o (fun h => hb (by simp [h])) e
 self := fun _ _ _ _ st hQ => wpAny_pyIter_keyiter st.1 hQ
theorem hintD {Q : Bool → Shared → Prop} (hd : (d == sysModules) = false) (hm : RawD s.heap d es ep) (h : Q false s) : wpAny (model prog w) A (Builtin.List.listLengthHint (.ref d)) Q E s := by
 unfold Builtin.List.listLengthHint
 refine wpAny_bind (wpAny_specialOf hm.ty F.slot_dict_len.lookup ?_)
 generalize hid : ("dict.__len__" : String) = id0
 wp_delta
 rw [show splitId id0 = some ("dict", "__len__") from by subst hid; decide +kernel]
 subst hid
 refine wpAny_bind (wpAny_isInstance (T := "dict") (b := true) hm.ty (by rw [isSubtype_type]; kernel_rfl) ?_)
 refine wpAny_ite_split (fun hab => absurd hab (by decide)) (fun _ => ?_)
 refine wpAny_ite_split (fun _ => ?_) (fun hab => absurd (by decide +kernel) hab)
 refine wpAny_bind (wpAny_typeOf hm.ty ?_)
 exact wpAny_pure h
theorem extendD {R : Result → Shared → Prop} (hh : A.handled = none) (hd : (d == sysModules) = false) (hm : RawD s.heap d es ep) (hlen : es.size ≤ 2 ^ 24) (S : Addr) (res : Value) (c₀ : Nat) (hS : s.heap.get? S = some { cls := .type "list", data := .seq #[] c₀ })
  (hR : ∀ h' tk acc' c', (∀ b o, b ≠ S → s.heap.get? b = some o → h'.get? b = some o) → h'.get? S = some { cls := .type "list", dict := none, data := .seq acc' c', slots := #[] } →
   ItemsOf (fun i v => ∃ e, es[i]? = some e ∧ v = e.key) acc' es.size → R (.ok (.ret res)) { s with heap := h', toks := tk }) :
  wpAny (model prog w) A.in1 (Builtin.List.listExtendWith (.ref S) (.ref d) res)
   (fun fin s' => match fin with | .done f => R (.ok f) s' | .again c' => c'.quiet = true ∧ codeAny (model prog w) A c' R s') (fun e s' => R (.error e) s') s := by
 have hSr : S ≠ d := fun e => by
  obtain ⟨o, ho, hc, hdat⟩ := hm
  rw [e, ho] at hS
  cases hS
  cases hdat
 have hSlt : S < s.heap.objs.size := Heap.lt_size hS
 have hdlt : d < s.heap.objs.size := let ⟨o, ho, _⟩ := hm; Heap.lt_size ho
 have hSI : S ≠ s.heap.objs.size := Nat.ne_of_lt hSlt
 have hdI : d ≠ s.heap.objs.size := Nat.ne_of_lt hdlt
 have hSf : S ∉ [s.heap.objs.size, d] := fun hmem => by
  simp only [List.mem_cons, List.not_mem_nil, or_false] at hmem
  exact hmem.elim hSI hSr
 have W := (walkD (prog := prog) (w := w) (A := A.in1) (es := es) (ep := ep) hh s.heap.objs.size hdI).toS
 have key : ∀ (h : Heap) (c₁ tk : Nat), h.IsKeyIter s.heap.objs.size d 0 es.size ep → (∀ b o, b ≠ S → s.heap.get? b = some o → h.get? b = some o) →
   h.get? S = some { cls := .type "list", data := .seq #[] c₁ } → codeAny (model prog w) A (.builtin "list.extend.loop" ⟨[.ref S, .ref s.heap.objs.size, res], []⟩) R { s with heap := h, toks := tk } := by
  intro h c₁ tk hit hk hS₁
  refine codeAny_extend_loopS W (by rw [PySem.sizeLine_eq]; omega) S hSf res es.size 0 _ #[] c₁ rfl (Nat.zero_le _) ⟨hit, hm.at fun o e => hk d o (Ne.symm hSr) e⟩ hS₁ (ItemsOf.nil _) fun s' acc' c' hm' hS' hacc => ?_
  rw [Moved.eq_with hm']
  refine hR s'.heap s'.toks acc' c' (fun b o hb e => hm'.heap b o (fun hmem => ?_) (hk b o hb e)) hS' hacc
  rcases List.mem_cons.mp hmem with e' | hmem
  ·exact hb e'
  ·exact absurd (Heap.lt_size e) (by rw [List.mem_singleton.mp hmem]; exact Nat.lt_irrefl _)
 unfold Builtin.List.listExtendWith
 refine wpAny_bind (wpAny_typeOf (T := "dict") hm.ty ?_)
 have h1 : Builtin.List.listSameRef (.ref S) (.ref d) = false := (show Builtin.List.listSameRef (.ref S) (.ref d) = (S == d) from rfl).trans (by simp [hSr])
 have h2 : (Value.type "dict" == Value.type "list") = false := by decide
 have h3 : (Value.type "dict" == Value.type "tuple") = false := by decide
 rw [if_neg (show ¬ (Builtin.List.listSameRef (.ref S) (.ref d) || Value.type "dict" == Value.type "list" || Value.type "dict" == Value.type "tuple") = true from by rw [h1, h2, h3]; decide)]
 refine wpAny_bind (iterD hd hm ?_)
 refine wpAny_bind (wpAny_holding (hintD hd (hm.at fun o e => Heap.get?_push_of_some _ e) ?_))
 have hit₁ : (s.heap.push { cls := .type "dict_keyiterator", data := .fields #[.ref d, .int 0 0, .int es.size 0, .int ep 0] }).IsKeyIter s.heap.objs.size d 0 es.size ep := ⟨_, Heap.get?_push_size _ rfl, rfl, rfl⟩
 have hS₁ := Heap.get?_push_of_some { cls := .type "dict_keyiterator", data := .fields #[.ref d, .int 0 0, .int es.size 0, .int ep 0] } hS
 refine wpAny_ite_split (fun _ => ?_) (fun _ => wpAny_pure ⟨plainId_quiet F.plain_extend_loop _, key _ c₀ _ hit₁ (fun b o _ e => Heap.get?_push_of_some _ e) hS₁⟩)
 refine wpAny_bind (wpAny_rule ?_)
 refine wpAny_bind ?_
 show wpAny _ _ (updateSeq S (·.push .none) >>= fun _ => updateSeq S (·.pop)) _ _ _
 refine wpAny_bind (wpAny_updateSeq hS₁ rfl ?_)
 have hS₂ := Heap.get?_update_self (Obj.mapSeq (·.push Value.none)) hS₁ rfl
 refine wpAny_updateSeq (hz := by seq_fits) hS₂ rfl ?_
 have hS₃ := Heap.get?_update_self (Obj.mapSeq (·.pop)) hS₂ rfl
 refine wpAny_pure ⟨plainId_quiet F.plain_extend_loop _, key _ _ _ (hit₁.at fun o e => ?_) (fun b o hb e => ?_) hS₃⟩
 ·exact (Heap.get?_update_other _ _ hSI).trans ((Heap.get?_update_other _ _ hSI).trans e)
 ·exact (Heap.get?_update_other _ _ (Ne.symm hb)).trans ((Heap.get?_update_other _ _ (Ne.symm hb)).trans (Heap.get?_push_of_some _ e))
theorem initD {R : Result → Shared → Prop} (hh : A.handled = none) (hd : (d == sysModules) = false) (hm : RawD s.heap d es ep) (hlen : es.size ≤ 2 ^ 24) (S : Addr) (hS : s.heap.get? S = some { cls := .type "list", data := .seq #[] })
  (hR : ∀ h' tk acc' c', (∀ b o, b ≠ S → s.heap.get? b = some o → h'.get? b = some o) → h'.get? S = some { cls := .type "list", dict := none, data := .seq acc' c', slots := #[] } →
   ItemsOf (fun i v => ∃ e, es[i]? = some e ∧ v = e.key) acc' es.size → R (.ok (.ret .none)) { s with heap := h', toks := tk }) :
  wpAny (model prog w) A.in1 (Builtin.«list.__init__» ⟨[.ref S, .ref d], []⟩)
   (fun fin s' => match fin with | .done f => R (.ok f) s' | .again c' => c'.quiet = true ∧ codeAny (model prog w) A c' R s') (fun e s' => R (.error e) s') s := by
 have hSr : S ≠ d := fun e => by
  obtain ⟨o, ho, hc, hdat⟩ := hm
  rw [e, ho] at hS
  cases hS
  cases hdat
 show wpAny _ _ (do let old ← Builtin.List.listItems (.ref S); Builtin.List.listUpdate (.ref S) (fun _ => #[]); letGo old.toList.reverse; Builtin.List.listExtendWith (.ref S) (.ref d) .none) _ _ s
 refine wpAny_bind ?_
 unfold Builtin.List.listItems
 refine wpAny_bind (wpAny_seqItems hS rfl (wpAny_pure ?_))
 show wpAny _ _ (updateSeq S (fun _ => #[]) >>= fun _ => letGo (#[] : Array Value).toList.reverse >>= fun _ => Builtin.List.listExtendWith (.ref S) (.ref d) .none) _ _ s
 refine wpAny_bind (wpAny_updateSeq hS rfl ?_)
 have hS₂ := Heap.get?_update_self (Obj.mapSeq (fun _ => (#[] : Array Value))) hS rfl
 have oth : ∀ b o, b ≠ S → s.heap.get? b = some o → (s.heap.update S (Obj.mapSeq (fun _ => (#[] : Array Value)))).get? b = some o :=
  fun b o hb e => (Heap.get?_update_other _ _ (Ne.symm hb)).trans e
 refine wpAny_bind (wpAny_letGo ?_)
 refine extendD hh hd (hm.at fun o e => oth d o (Ne.symm hSr) e) hlen S .none _ hS₂ fun h' tk acc' c' hk hS' hacc => ?_
 exact hR h' tk acc' c' (fun b o hb e => hk b o hb (oth b o hb e)) hS' hacc
theorem listD {Q : Value → Shared → Prop} (hh : A.handled = none) (hd : (d == sysModules) = false) (hm : RawD s.heap d es ep) (hlen : es.size ≤ 2 ^ 24)
  (hQ : ∀ h' tk acc' c', (∀ b o, s.heap.get? b = some o → h'.get? b = some o) → h'.get? s.heap.objs.size = some { cls := .type "list", dict := none, data := .seq acc' c', slots := #[] } →
   ItemsOf (fun i v => ∃ e, es[i]? = some e ∧ v = e.key) acc' es.size → Q (.ref s.heap.objs.size) { s with heap := h', toks := tk }) : wpAny (model prog w) A (call (.type "list") [.ref d]) Q E s := by
 refine callType_codes (Q₁ := fun obj s₁ => obj = .ref s.heap.objs.size ∧ s₁ = { s with heap := s.heap.push { cls := .type "list", data := .seq #[] } }) F.called_list (F.typeCall_list_1 _) F.entry_list_init
  (code_list_new _ ⟨rfl, rfl⟩) fun obj s₁ h₁ => ?_
 obtain ⟨rfl, rfl⟩ := h₁
 have hS : (s.heap.push { cls := .type "list", data := .seq #[] }).get? s.heap.objs.size = some { cls := .type "list", data := .seq #[] } := Heap.get?_push_size _ rfl
 refine ⟨⟨_, hS, rfl⟩, F.args_list_init_2 _ _, initD (A := A.in1) hh hd (hm.at fun o e => Heap.get?_push_of_some _ e) hlen _ hS fun h' tk acc' c' hk hS' hacc => ?_⟩
 exact ⟨rfl, hQ h' tk acc' c' (fun b o e => hk b o (Nat.ne_of_lt (Heap.lt_size e)) (Heap.get?_push_of_some _ e)) hS' hacc⟩
end
end Mine
namespace Mine
open PySem PySem.Calls PyProof.Rows
section
variable {c : Cx} {A : Around} {fr : List Addr} {σ : Sto} {X : Addr → Sto → Prop} {Q : D → Sto → Prop} {env : Env} {m : Vars} {N : Vars → Sto → Prop} {R : D → Sto → Prop}
theorem At1.listRows {a : Addr} {rs : List (List Int)} (hm : (a, O.rows rs) ∈ σ) (hh : A.handled = none) (hsz : rs.length ≤ sizeLine) (h : QL Q (rs.map row) σ) : At1 c A fr σ (.type "list") [.ref a] Q X := .one fun s v ok hv => by
 unfold V at hv; subst hv
 obtain ⟨as, hl, ⟨hv, hne⟩, o, es, ep, g, ex, hd, he, hk, nd⟩ := ok.sto _ hm
 have hes : es.size = rs.length := by
  rw [← Array.length_toList, he]; unfold rowItems; simp [hl]
 have e24 : sizeLine = 2 ^ 24 := rfl
 refine listD hh hne ⟨o, g, ex, hd⟩ (by rw [hes]; exact Nat.le_trans hsz (Nat.le_of_eq e24)) fun h' tk acc' c' kp g' hI => ?_
 have hn : ∀ a ∈ [s.heap.objs.size], s.heap.get? a = none := fun a ha => by rw [List.mem_singleton.mp ha]; exact none_of_ge (Nat.le_refl _)
 have oka : Ok c A ([s.heap.objs.size] ++ fr) σ h' := ok.more kp hn (fun a ha => by rw [List.mem_singleton.mp ha]; exact ⟨_, g'⟩) (by simp)
 have hacc : acc'.toList = as.map Value.ref := by
  apply List.ext_getElem?
  intro i
  rw [Array.getElem?_toList, List.getElem?_map]
  cases hq : acc'[i]? with
  | none =>
   have h1 := hI.1
   have h2 : acc'.size ≤ i := Array.getElem?_eq_none_iff.mp hq
   rw [List.getElem?_eq_none (by exact Nat.le_trans (Nat.le_trans (Nat.le_trans (Nat.le_of_eq hl) (Nat.le_of_eq hes.symm)) (Nat.le_of_eq h1.symm)) h2)]; rfl
  | some v =>
   obtain ⟨en, e1, rfl⟩ := hI.2 i v hq
   rw [entry_at he i] at e1
   obtain ⟨x, hx, rfl⟩ := Option.map_eq_some_iff.mp e1
   unfold rowItems at hx
   rw [List.getElem?_map] at hx
   obtain ⟨p, hp, rfl⟩ := Option.map_eq_some_iff.mp hx
   obtain ⟨_, hp2⟩ := List.getElem?_zip_eq_some.mp hp
   rw [hp2]; rfl
 refine QL.use (G := none) (vs := as.map Value.ref) (n := c') (s' := { s with heap := h', toks := tk }) h (Post.keeps kp) oka ok.frames_in (by rw [g', ← hacc]) (Vs.move (K := keys σ ++ fr) (fun b o _ e => kp b o e) (less_add hn) _ _ hv) (hn _ (by simp))
end
end Mine
namespace Mine
open PySem PySem.Calls PyProof.Rows PySem.W PySem.SeqAt PySem.MeetsSeq PySem.MeetsSeq2 PySem.MeetsSeq3 PySem.SeqRoads2
end Mine
set_option maxHeartbeats 1000000
namespace Mine
open PySem PySem.Calls PyProof.Rows
section
variable {prog : Program} {w : World} {A : Around} {E : Value → Shared → Prop} {s : Shared}
theorem sliceApplied_upto {sl : Addr} {b n : Nat} {u : Tok} {Q : Int × Int × Nat → Shared → Prop} (hs : s.heap.IsSliceOf sl .none (.int b u) .none) (hb : b ≤ n) (h : Q (0, 1, b) s) :
  wpAny (model prog w) A (Builtin.Slice.sliceApplied (.ref sl) (pure (n : Int))) Q E s := by
 obtain ⟨os, hos, hcs, hds⟩ := id hs
 unfold Builtin.Slice.sliceApplied Builtin.Slice.sliceFields
 refine wpAny_bind (wpAny_bind (wpAny_field hos hds (x := .none) rfl (wpAny_bind (wpAny_field hos hds (x := .int b u) rfl (wpAny_bind (wpAny_field hos hds (x := .none) rfl (wpAny_pure ?_)))))))
 refine wpAny_bind (slicePart_none ?_)
 show wpAny _ _ (if ((1 : Int) == 0) = true then _ else _) _ _ s
 rw [if_neg (by decide)]
 refine wpAny_bind (slicePart_none (wpAny_bind (slicePart_int (wpAny_bind (wpAny_pure ?_)))))
 show wpAny _ _ (match Builtin.Slice.sliceAdjust none (some (b : Int)) 1 (n : Int) with | (lo, hi) => pure (lo, (1 : Int), Builtin.Slice.slicePlaces lo hi 1)) _ _ s
 have e : Builtin.Slice.sliceAdjust none (some (b : Int)) 1 (n : Int) = (0, (b : Int)) := by
  unfold Builtin.Slice.sliceAdjust
  have h1 : ¬ ((1 : Int) < 0) := by exact fun qz => lin [] [] [(1,.it (.n 1) (.n 0))] rfl qz
  have h2 : ¬ ((b : Int) < 0) := by exact fun qz => lin [_] [] [(1,.it (.c (.v 0)) (.n 0))] rfl qz
  simp only [h1, h2, if_false]
  congr 1
  omega
 rw [e]
 show wpAny _ _ (pure ((0 : Int), (1 : Int), Builtin.Slice.slicePlaces (0 : Int) (b : Int) 1)) _ _ s
 have e2 : Builtin.Slice.slicePlaces (0 : Int) (b : Int) 1 = b := by
  unfold Builtin.Slice.slicePlaces
  have h1 : (1 : Int) > 0 := by exact (by decide)
  simp only [h1, if_true, Int.ediv_one]
  split <;> omega
 rw [e2]
 exact wpAny_pure h
theorem pick_upto_arr (xs : Array Value) (b : Nat) : ((List.range b).filterMap fun (k : Nat) => xs[((0 : Int) + (k : Int) * 1).toNat]?).toArray = (xs.toList.take b).toArray := by
 have e : (fun (k : Nat) => xs[((0 : Int) + (k : Int) * 1).toNat]?) = fun k => xs[0 + k]? := by
  funext k
  have : ((0 : Int) + (k : Int) * 1).toNat = 0 + k := by omega
  rw [this]
 rw [e]
 have := pick_run xs 0 b
 rw [List.filterMap_map] at this
 have e2 : ((fun x => xs[x]?) ∘ fun x => 0 + x) = fun k => xs[0 + k]? := rfl
 rw [e2] at this
 rw [this, List.drop_zero]
theorem getItem_tuple_whole {t sl : Addr} {items : Array Value} {Q : Value → Shared → Prop} (ht : IsTup s.heap t items) (hTs : s.TypeIs (.ref sl) "slice")
  (hap : ∀ Q' : Int × Int × Nat → Shared → Prop, Q' (0, 1, items.size) s → wpAny (model prog w) A.in1 (Builtin.Slice.sliceApplied (.ref sl) (pure (items.size : Int))) Q' E s)
  (h : Q (.ref t) s) : wpAny (model prog w) A (getItem (.ref t) (.ref sl)) Q E s := by
 unfold getItem
 try with_reducible refine wpAny_holding ?_
 first | refine wpAny_bind (wpAny_pure ?_) | skip
 refine wpAny_bind (wpAny_sequenceKey ht.typeIs (by decide) ?_)
 refine wpAny_bind (wpAny_callSpecial?_slot (name := Str.ofString "__getitem__") ht.typeIs slot_tuple_getitem
  (wpAny_call_entry slot_tuple_getitem ht.typeIs entry_tuple_getitem ?_ (args_tuple_getitem _ _)))
 show wpAny _ _ (Builtin.Tuple.tupleItemsOf (.ref t) >>= _) _ _ s
 refine wpAny_bind (tupleItemsOf_ ht ?_)
 refine wpAny_bind (wpAny_typeOf hTs ?_)
 rw [if_pos (by decide)]
 refine wpAny_bind (hap _ ?_)
 show wpAny _ _ (if ((0 : Int) == 0 && (1 : Int) == 1 && items.size == items.size) = true then _ else _) _ _ s
 rw [if_pos (by simp)]
 unfold Builtin.Tuple.tupleIsExact
 refine wpAny_bind (wpAny_bind (wpAny_typeOf ht.typeIs (wpAny_pure ?_)))
 rw [if_pos (by decide)]
 refine wpAny_bind (wpAny_rule ?_)
 first
  | exact wpAny_pure ⟨_, rfl, wpAny_pure h⟩
  | exact wpAny_bind (wpAny_pure (wpAny_pure ⟨_, rfl, wpAny_pure h⟩))
  | exact wpAny_bind (wpAny_pure ⟨_, rfl, wpAny_pure h⟩)
theorem getItem_tuple_upto {t sl : Addr} {items : Array Value} {b : Nat} {u : Tok} {Q : Value → Shared → Prop} (ht : IsTup s.heap t items) (hs : s.heap.IsSliceOf sl .none (.int b u) .none) (hb : b < items.size)
  (h : Q (.ref s.heap.objs.size) { s with heap := s.heap.push { cls := .type "tuple", data := .seq (items.toList.take b).toArray } })
  (hsz : items.size ≤ sizeLine) : wpAny (model prog w) A (getItem (.ref t) (.ref sl)) Q E s := by
 have hdrop : sizeOk (.seq (items.toList.take b).toArray) := by
  show (items.toList.take b).toArray.size ≤ sizeLine
  rw [List.size_toArray, List.length_take, Array.length_toList]
  omega
 obtain ⟨os, hos, hcs, hds⟩ := id hs
 have hTs : s.TypeIs (.ref sl) "slice" := ⟨os, hos, hcs⟩
 unfold getItem
 try with_reducible refine wpAny_holding ?_
 first | refine wpAny_bind (wpAny_pure ?_) | skip
 refine wpAny_bind (wpAny_sequenceKey ht.typeIs (by decide) ?_)
 refine wpAny_bind (wpAny_callSpecial?_slot (name := Str.ofString "__getitem__") ht.typeIs slot_tuple_getitem
  (wpAny_call_entry slot_tuple_getitem ht.typeIs entry_tuple_getitem ?_ (args_tuple_getitem _ _)))
 show wpAny _ _ (Builtin.Tuple.tupleItemsOf (.ref t) >>= _) _ _ s
 refine wpAny_bind (tupleItemsOf_ ht ?_)
 refine wpAny_bind (wpAny_typeOf hTs ?_)
 rw [if_pos (by decide)]
 refine wpAny_bind (sliceApplied_upto hs (Nat.le_of_lt hb) ?_)
 have hno : ¬ (((0 : Int) == 0 && (1 : Int) == 1 && b == items.size) = true) := by
  have : (b == items.size) = false := by rw [beq_eq_false_iff_ne]; omega
  rw [this]; simp
 show wpAny _ _ (if ((0 : Int) == 0 && (1 : Int) == 1 && b == items.size) = true then _ else _) _ _ s
 rw [if_neg hno, pick_upto_arr items b]
 first
  | exact wpAny_bind (m := Builtin.Tuple.tupleExact _) (wpAny_newObj_type (wpAny_pure ⟨_, rfl, wpAny_pure h⟩) hdrop)
  | exact wpAny_bind (m := Builtin.Tuple.tupleExact _) (wpAny_newObj_type (wpAny_bind (wpAny_pure (wpAny_pure ⟨_, rfl, wpAny_pure h⟩))) hdrop)
  | exact wpAny_bind (wpAny_bind (m := Builtin.Tuple.tupleExact _) (wpAny_newObj_type (wpAny_pure (wpAny_pure ⟨_, rfl, wpAny_pure h⟩)) hdrop))
  | exact wpAny_bind (wpAny_bind (m := Builtin.Tuple.tupleExact _) (wpAny_newObj_type (wpAny_pure ⟨_, rfl, wpAny_pure h⟩) hdrop))
end
end Mine
set_option maxHeartbeats 1000000
namespace Mine
open PySem PySem.Calls PyProof.Rows
section
variable {c : Cx} {A : Around} {fr : List Addr} {σ σ1 σ2 : Sto} {X : Addr → Sto → Prop} {Q : D → Sto → Prop} {env : Env} {m : Vars} {N : Vars → Sto → Prop} {R : D → Sto → Prop}
theorem WE.sliceTf {value e : Expr} {p pos : Pos} (h : WE c A fr env m σ value (fun d σ1 => WE c A fr env m σ1 e (fun d2 σ2 => ∃ (ds : List D) (k : Nat), d = .tup ds ∧ d2 = .int k ∧ k ≤ ds.length ∧ ds.length ≤ sizeLine ∧ Q (.tup (ds.drop k)) σ2) X) X)
  (ht : ∀ o r, letTemporaryGo value o r = pure () := by intro _ _; rfl) : WE c A fr env m σ (.Subscript value (.Slice (some e) none none p) pos) Q X := fun s ok fm => by
 refine wpAny_Subscript_Slice (T := "tuple") slot_tuple_getitem.lookup (wpAny_mono (h s ok fm) (fun v s1 ⟨d, σ1, p1, ok1, x1, q1⟩ => wpAny_Slice ?_) fun _ _ x => x) ht
 rw [evalPart_some]
 refine wpAny_mono (q1 s1 ok1 (fm.move p1)) (fun vl s2 ⟨d2, σ2, p2, ok2, x2, ds, k, e1, e2, h2, h3, q2⟩ => ?_) fun _ _ x => Ex.back p1 x fun _ _ y => y
 subst e1; subst e2
 obtain ⟨u, rfl⟩ := x2.toInt
 rw [evalPart_none]
 refine wpAny_pure ?_
 refine wpAny_pure ?_
 have x3 := p2.v x1
 obtain ⟨l, rfl, z⟩ := SD.of_v (sd := .tup ds) x3
 obtain ⟨vs, n, g, r⟩ := z.tuple rfl
 have hlen : vs.length = ds.length := r.length
 have k1 : ∀ b o, s2.heap.get? b = some o → (s2.heap.push { cls := .type "slice", data := .fields #[.int k u, .none, .none] }).get? b = some o := fun b o e => Heap.get?_push_of_some _ e
 have p4 : Post [] fr σ2 s2 { s2 with heap := s2.heap.push { cls := .type "slice", data := .fields #[.int k u, .none, .none] }, toks := s2.toks } σ2 := Post.keeps k1
 have ok4 := ok2.keeps k1
 refine ⟨⟨_, k1 _ _ g, rfl⟩, ?_⟩
 by_cases h1 : 1 ≤ k
 ·refine getItem_tuple_from (s := { s2 with heap := s2.heap.push { cls := .type "slice", data := .fields #[.int k u, .none, .none] } }) (items := vs.toArray) (u := u) ⟨_, k1 _ _ g, rfl, n, rfl⟩ (Heap.IsSliceOf.new ..) h1 (by rw [List.size_toArray]; exact Nat.le_trans h2 (Nat.le_of_eq hlen.symm)) ?_ (by rw [List.size_toArray]; exact Nat.le_trans (Nat.le_of_eq hlen) h3)
  obtain ⟨d5, σ5, p5, ok5, x5, q5⟩ := newT (Q := Q) (tk := s2.toks) (s := { s2 with heap := s2.heap.push { cls := .type "slice", data := .fields #[.int k u, .none, .none] }, toks := s2.toks }) ok4 (p4.vs (r.drop k)) q2
  exact ⟨d5, σ5, ((p1.trans p2).trans p4).trans p5, ok5, x5, q5⟩
 ·obtain rfl : k = 0 := by omega
  refine getItem_tuple_whole (s := { s2 with heap := s2.heap.push { cls := .type "slice", data := .fields #[.int ((0 : Nat) : Int) u, .none, .none] } }) (items := vs.toArray) ⟨_, k1 _ _ g, rfl, n, rfl⟩ ⟨_, Heap.get?_push_size _ rfl, rfl⟩ (fun Q' hq => sliceApplied_from (a := 0) (u := u) (Heap.IsSliceOf.new ..) (Nat.zero_le _) (by simpa using hq)) ?_
  exact ⟨.tup ds, σ2, (p1.trans p2).trans p4, ok4, p4.v x3, by simpa using q2⟩
theorem WE.sliceTu {value e : Expr} {p pos : Pos} (h : WE c A fr env m σ value (fun d σ1 => WE c A fr env m σ1 e (fun d2 σ2 => ∃ (ds : List D) (k : Nat), d = .tup ds ∧ d2 = .int k ∧ k ≤ ds.length ∧ ds.length ≤ sizeLine ∧ Q (.tup (ds.take k)) σ2) X) X)
  (ht : ∀ o r, letTemporaryGo value o r = pure () := by intro _ _; rfl) : WE c A fr env m σ (.Subscript value (.Slice none (some e) none p) pos) Q X := fun s ok fm => by
 refine wpAny_Subscript_Slice (T := "tuple") slot_tuple_getitem.lookup (wpAny_mono (h s ok fm) (fun v s1 ⟨d, σ1, p1, ok1, x1, q1⟩ => wpAny_Slice ?_) fun _ _ x => x) ht
 rw [evalPart_none]
 refine wpAny_pure ?_
 rw [evalPart_some]
 refine wpAny_mono (q1 s1 ok1 (fm.move p1)) (fun vl s2 ⟨d2, σ2, p2, ok2, x2, ds, k, e1, e2, h2, h3, q2⟩ => ?_) fun _ _ x => Ex.back p1 x fun _ _ y => y
 subst e1; subst e2
 obtain ⟨u, rfl⟩ := x2.toInt
 refine wpAny_pure ?_
 have x3 := p2.v x1
 obtain ⟨l, rfl, z⟩ := SD.of_v (sd := .tup ds) x3
 obtain ⟨vs, n, g, r⟩ := z.tuple rfl
 have hlen : vs.length = ds.length := r.length
 have k1 : ∀ b o, s2.heap.get? b = some o → (s2.heap.push { cls := .type "slice", data := .fields #[.none, .int k u, .none] }).get? b = some o := fun b o e => Heap.get?_push_of_some _ e
 have p4 : Post [] fr σ2 s2 { s2 with heap := s2.heap.push { cls := .type "slice", data := .fields #[.none, .int k u, .none] }, toks := s2.toks } σ2 := Post.keeps k1
 have ok4 := ok2.keeps k1
 refine ⟨⟨_, k1 _ _ g, rfl⟩, ?_⟩
 by_cases h1 : k < ds.length
 ·refine getItem_tuple_upto (s := { s2 with heap := s2.heap.push { cls := .type "slice", data := .fields #[.none, .int k u, .none] } }) (items := vs.toArray) (u := u) ⟨_, k1 _ _ g, rfl, n, rfl⟩ (Heap.IsSliceOf.new ..) (by rw [List.size_toArray]; exact Nat.lt_of_lt_of_le h1 (Nat.le_of_eq hlen.symm)) ?_ (by rw [List.size_toArray]; exact Nat.le_trans (Nat.le_of_eq hlen) h3)
  obtain ⟨d5, σ5, p5, ok5, x5, q5⟩ := newT (Q := Q) (tk := s2.toks) (s := { s2 with heap := s2.heap.push { cls := .type "slice", data := .fields #[.none, .int k u, .none] }, toks := s2.toks }) ok4 (p4.vs (r.take k)) q2
  exact ⟨d5, σ5, ((p1.trans p2).trans p4).trans p5, ok5, x5, q5⟩
 ·obtain rfl : k = ds.length := by omega
  refine getItem_tuple_whole (s := { s2 with heap := s2.heap.push { cls := .type "slice", data := .fields #[.none, .int (ds.length : Int) u, .none] } }) (items := vs.toArray) ⟨_, k1 _ _ g, rfl, n, rfl⟩ ⟨_, Heap.get?_push_size _ rfl, rfl⟩ (fun Q' hq => sliceApplied_upto (b := ds.length) (u := u) (Heap.IsSliceOf.new ..) (by rw [List.size_toArray]; exact (Nat.le_of_eq hlen.symm)) (by rw [List.size_toArray, hlen] at hq; exact hq)) ?_
  exact ⟨.tup ds, σ2, (p1.trans p2).trans p4, ok4, p4.v x3, by simpa using q2⟩
end
end Mine
set_option maxRecDepth 10000
set_option maxHeartbeats 1000000
namespace Mine
open PySem PySem.Calls PyProof.Rows PySem.W
local macro_rules | `(tactic| walk_at "k") => `(tactic| with_unfolding_all exact kindOf_of (by assumption) (by rfl))
local macro_rules | `(tactic| walk_at "k2") => `(tactic| with_unfolding_all first | exact .inl (kindOf_of (by assumption) (by rfl)) | exact .inr (kindOf_of (by assumption) (by rfl)))
local macro_rules | `(tactic| walk_at "v") => `(tactic| with_unfolding_all first | rfl | assumption | exact lk_here | exact lk_skip (by decide) (by assumption) | exact lk_skip (by decide) (capt_lk (by rfl) (by walk_at "v")) | exact lk_skip (by decide) (lk_skip (by decide) (capt_lk (by rfl) (by walk_at "v"))) | exact lk_skip (by decide) (lk_skip (by decide) (by assumption)) | exact lk_skip (by decide) (lk_skip (by decide) (lk_skip (by decide) (by assumption))) | exact lk_skip (by decide) (lk_skip (by decide) (lk_skip (by decide) (lk_skip (by decide) (by assumption)))) | exact lk_skip (by decide) (lk_skip (by decide) (lk_skip (by decide) (lk_skip (by decide) (lk_skip (by decide) (by assumption))))))
local macro_rules | `(tactic| walk_at "m") => `(tactic| simp only [List.zip_cons_cons, List.zip_nil_left])
local macro_rules | `(tactic| walk_at "z") => `(tactic| (simp only [SD.ds, List.length_map, List.length_range, List.length_zip, List.length_take, List.length_drop, List.length_append, List.length_replicate, List.length_cons, List.length_nil, sizeLine] <;> omega))
noncomputable abbrev B07 : List Stmt := PySem.Challenge.pw_uf050013_07.main.body
noncomputable abbrev Bd07 : List Stmt := ((B07[29]?).map bodyOf).getD []
noncomputable abbrev N07 : List (Str × Value) := [("range", .type "range"), ("tuple", .type "tuple"), ("zip", .type "zip"), ("all", .builtin "all"), ("any", .builtin "any"), ("sum", .builtin "sum"), ("max", .builtin "max"), ("min", .builtin "min"), ("isinstance", .builtin "isinstance"), ("int", .type "int"), ("bool", .type "bool"), ("list", .type "list"), ("len", .builtin "len"), ("sorted", .builtin "sorted"), ("enumerate", .type "enumerate"), ("ValueError", .type "ValueError")]
noncomputable abbrev G07 : List (Str × Int) := [("MOST_SIZE", 5), ("MOST_EQUATIONS", 3), ("MOST_WEIGHT", 20)]
noncomputable abbrev il (xs : List Int) : D := .lst (xs.map D.int)
noncomputable def okW (n : Nat) (xs : List Int) : Prop := xs.length = n ∧ ∀ x ∈ xs, -20 ≤ x ∧ x ≤ 20
structure Ints (σ : Sto) (sd : SD) (xs : List Int) : Prop where
 isL : sd.isL = true
 ds : sd.ds = xs.map D.int
 inv : sd.inv σ
section
variable {c : Cx} {σ : Sto} {X : Addr → Sto → Prop} {Q : D → Sto → Prop} {K : Frag} {C : Addr}
theorem is_whole_ {i lo hi : Int} {b : Bool} (T : Tp c B07 N07) (hb : decide (lo ≤ i ∧ i ≤ hi) = b) (h : Q (.bool b) σ) : WF c (Room 1) "is_whole" [.int i, .int lo, .int hi] σ Q X := by
 refine WF.by 22 T rfl (bind3 fun _ _ _ _ _ _ => rfl) (by rfl) rfl fun A fr env r hh hs fe => ?_
 with_reducible (refine WS.cons ?_; refine W1.ret ?_; refine WE.boolop ?_; refine WBs.and ?_; refine WE.callI (by assumption) (by walk_at "k") (by with_unfolding_all rfl) ?_ (hp := by with_unfolding_all rfl); refine WA.cons ?_ (hp := by with_unfolding_all rfl); refine WE.nLocal (by walk_at "v") (by walk_at "k") ?_; refine WA.cons ?_ (hp := by with_unfolding_all rfl); refine WE.nType (Tp.good (by assumption)) (by walk_at "k") (Tp.bn (by assumption) _ _ (by with_unfolding_all rfl)).1 (Tp.bn (by assumption) _ _ (by with_unfolding_all rfl)).2 ?_; refine WA.nil ?_)
 refine At1.isi (b := true) (by decide) rfl ?_
 with_reducible (refine WTr.bool ?_; refine ite_t ?_; refine WBs.and ?_; refine WE.unary ?_; refine WE.callI (by assumption) (by walk_at "k") (by with_unfolding_all rfl) ?_ (hp := by with_unfolding_all rfl); refine WA.cons ?_ (hp := by with_unfolding_all rfl); refine WE.nLocal (by walk_at "v") (by walk_at "k") ?_; refine WA.cons ?_ (hp := by with_unfolding_all rfl); refine WE.nType (Tp.good (by assumption)) (by walk_at "k") (Tp.bn (by assumption) _ _ (by with_unfolding_all rfl)).1 (Tp.bn (by assumption) _ _ (by with_unfolding_all rfl)).2 ?_; refine WA.nil ?_)
 refine At1.isi (b := false) (by decide) rfl ?_
 with_reducible (refine WU.notB ?_; refine WTr.bool ?_; refine ite_nf ?_; refine WBs.one ?_; refine WE.compare2 ?_ (hb2 := by with_unfolding_all rfl); refine WE.nLocal (by walk_at "v") (by walk_at "k") ?_; refine WE.nLocal (by walk_at "v") (by walk_at "k") ?_; refine WB.le ?_; refine WTr.bool ?_)
 by_cases h1 : lo ≤ i
 ·rw [decide_eq_true h1]
  with_reducible (refine ite_t ?_; refine WE.nLocal (by walk_at "v") (by walk_at "k") ?_; refine WB.le ?_)
  simpa [h1, ← hb] using h
 ·rw [decide_eq_false h1]
  with_reducible (refine ite_f ?_)
  simpa [h1, ← hb] using h
theorem is_weights_ {sd : SD} {xs : List Int} {n : Nat} (T : Tp c B07 N07) (G : Gi c G07) (w : Ints σ sd xs) (ok : okW n xs) (hn : n < 100) (h : Q (.bool true) σ) : WF c (Room 2) "is_weights" [sd.d, .int n] σ Q X := by
 refine WF.by 23 T rfl (bind2 fun _ _ _ _ _ => rfl) (by rfl) rfl fun A fr env r hh hs fe => ?_
 have d1 : Dfn c "is_whole" := Dfn.by 22 T rfl
 have hl : sd.ds.length = n := by rw [w.ds, List.length_map, ok.1]
 with_reducible (refine WS.cons ?_; refine W1.ite ?_; refine WT.boolop ?_; refine WTs.or ?_; refine WT.not ?_; refine WT.plain ?_ (he := by with_unfolding_all (intro _; rfl)); refine WE.callI (by assumption) (by walk_at "k") (by with_unfolding_all rfl) ?_ (hp := by with_unfolding_all rfl); refine WA.cons ?_ (hp := by with_unfolding_all rfl); refine WE.nLocal (by walk_at "v") (by walk_at "k") ?_; refine WA.cons ?_ (hp := by with_unfolding_all rfl); refine WE.nType (Tp.good (by assumption)) (by walk_at "k") (Tp.bn (by assumption) _ _ (by with_unfolding_all rfl)).1 (Tp.bn (by assumption) _ _ (by with_unfolding_all rfl)).2 ?_; refine WA.nil ?_)
 refine At1.isiL w.isL w.inv ?_
 with_reducible (refine WTr.bool ?_; refine ite_nt ?_; refine WTs.or ?_; refine WT.compare ?_ (hb := by with_unfolding_all rfl); refine WE.callI (by assumption) (by walk_at "k") (by with_unfolding_all rfl) ?_ (hp := by with_unfolding_all rfl); refine WA.cons ?_ (hp := by with_unfolding_all rfl); refine WE.nLocal (by walk_at "v") (by walk_at "k") ?_; refine WA.nil ?_)
 refine At1.len w.inv (by omega) ?_
 rw [hl]
 with_reducible (refine WE.nLocal (by walk_at "v") (by walk_at "k") ?_; refine WB.neI ?_; refine WTr.bool ?_)
 rw [show ((n : Int) != n) = false by simp]
 with_reducible (refine ite_f ?_; refine WTs.nilOr ?_; refine ite_f ?_; refine WS.nil ?_; refine WS.cons ?_; refine W1.ret ?_; refine WE.callI (by assumption) (by walk_at "k") (by with_unfolding_all rfl) ?_ (hp := by with_unfolding_all rfl); refine WA.cons ?_ (hp := by with_unfolding_all rfl); refine WE.comp ?_ (by with_unfolding_all rfl) (by with_unfolding_all exact freeOk_of (by assumption) (by rfl)) (hs := by with_unfolding_all (intro _; rfl)); refine WIt.of ?_; refine WE.nLocal (by walk_at "v") (by walk_at "k") ?_)
 refine WIv.seq D.int hh w.ds w.inv (Turns.map (fun _ => .bool true) (fun _ _ => loc1 rfl) w.inv (by have := ok.1; walk_at "z") (fun x hx fr' cenv hc => ?_) (.inl ?_))
 ·have hc := relab_of hc hs
  with_reducible (refine WE.callN (by assumption) (by assumption) (by walk_at "k") (by assumption) ?_ (hp := by with_unfolding_all rfl); refine WA.cons ?_ (hp := by with_unfolding_all rfl); refine WE.nLocal (by walk_at "v") (by walk_at "k") ?_; refine WA.cons ?_ (hp := by with_unfolding_all rfl); refine WE.unary ?_; refine WE.gInt (by assumption) (by assumption) (by walk_at "k") (by with_unfolding_all rfl) ?_; refine WU.neg ?_; refine WA.cons ?_ (hp := by with_unfolding_all rfl); refine WE.gInt (by assumption) (by assumption) (by walk_at "k") (by with_unfolding_all rfl) ?_; refine WA.nil ?_)
  have := ok.2 x hx
  refine WF.at (is_whole_ T (decide_eq_true (by exact ⟨this.1, this.2⟩)) ?_) (by decide)
  exact ⟨rfl, rfl⟩
 ·with_reducible (refine WA.nil ?_)
  refine At1.all (sd := .lst _) (l := xs.map fun _ => true) hh (by simp [SD.ds, Function.comp_def]) trivial ?_
  rw [show (xs.map fun _ => true).all id = true by simp]
  exact h
end
section
variable {c : Cx} {σ : Sto} {X : Addr → Sto → Prop} {Q : D → Sto → Prop} {K : Frag} {C : Addr}
structure Eqs (σ : Sto) (n : Nat) (ws : List (SD × List Int)) : Prop where
 each : ∀ w ∈ ws, Ints σ w.1 w.2 ∧ okW n w.2
 few : ws.length ≤ 3
theorem all_true {α : Type} (l : List α) : (l.map fun _ => true).all id = true := by simp
theorem is_system_ {sd : SD} {ws : List (SD × List Int)} {n : Nat} (T : Tp c B07 N07) (G : Gi c G07) (hL : sd.isL = true) (hi : sd.inv σ) (hd : sd.ds = ws.map fun w => w.1.d) (E : Eqs σ n ws) (h1 : 1 ≤ n) (h5 : n ≤ 5) (h : Q (.bool true) σ) : WF c (Room 3) "is_system" [.int n, sd.d] σ Q X := by
 refine WF.by 24 T rfl (bind2 fun _ _ _ _ _ => rfl) (by rfl) rfl fun A fr env r hh hs fe => ?_
 have d1 : Dfn c "is_whole" := Dfn.by 22 T rfl
 have d2 : Dfn c "is_weights" := Dfn.by 23 T rfl
 have hl : sd.ds.length = ws.length := by rw [hd, List.length_map]
 have h3 := E.few
 with_reducible (refine WS.cons ?_; refine W1.ite ?_; refine WT.boolop ?_; refine WTs.or ?_; refine WT.not ?_; refine WT.plain ?_ (he := by with_unfolding_all (intro _; rfl)); refine WE.callN (by assumption) (by assumption) (by walk_at "k") (by assumption) ?_ (hp := by with_unfolding_all rfl); refine WA.cons ?_ (hp := by with_unfolding_all rfl); refine WE.nCell (by walk_at "v") (by walk_at "k") ?_; refine WA.cons ?_ (hp := by with_unfolding_all rfl); refine WE.kInt ?_; refine WA.cons ?_ (hp := by with_unfolding_all rfl); refine WE.gInt (by assumption) (by assumption) (by walk_at "k") (by with_unfolding_all rfl) ?_; refine WA.nil ?_)
 refine WF.at (is_whole_ T (decide_eq_true (by exact ⟨Int.not_lt.mp fun qz => lin [_] [] [(1,.it (.c (.v 0)) (.n 1)),(1,.nl (.n 1) (.v 0))] rfl qz h1, Int.not_lt.mp fun qz => lin [_] [] [(1,.it (.n 5) (.c (.v 0))),(1,.nl (.v 0) (.n 5))] rfl qz h5⟩)) ?_) (by decide)
 with_reducible (refine WTr.bool ?_; refine ite_nt ?_; refine WTs.or ?_; refine WT.not ?_; refine WT.plain ?_ (he := by with_unfolding_all (intro _; rfl)); refine WE.callI (by assumption) (by walk_at "k") (by with_unfolding_all rfl) ?_ (hp := by with_unfolding_all rfl); refine WA.cons ?_ (hp := by with_unfolding_all rfl); refine WE.nLocal (by walk_at "v") (by walk_at "k") ?_; refine WA.cons ?_ (hp := by with_unfolding_all rfl); refine WE.nType (Tp.good (by assumption)) (by walk_at "k") (Tp.bn (by assumption) _ _ (by with_unfolding_all rfl)).1 (Tp.bn (by assumption) _ _ (by with_unfolding_all rfl)).2 ?_; refine WA.nil ?_)
 refine At1.isiL hL hi ?_
 with_reducible (refine WTr.bool ?_; refine ite_nt ?_; refine WTs.or ?_; refine WT.compare ?_ (hb := by with_unfolding_all rfl); refine WE.callI (by assumption) (by walk_at "k") (by with_unfolding_all rfl) ?_ (hp := by with_unfolding_all rfl); refine WA.cons ?_ (hp := by with_unfolding_all rfl); refine WE.nLocal (by walk_at "v") (by walk_at "k") ?_; refine WA.nil ?_)
 refine At1.len hi (by omega) ?_
 rw [hl]
 with_reducible (refine WE.gInt (by assumption) (by assumption) (by walk_at "k") (by with_unfolding_all rfl) ?_; refine WB.gt ?_; refine WTr.bool ?_)
 rw [decide_eq_false (by exact fun qz => lin [_] [] [(1,.it (.n 3) (.c (.v 0))),(1,.nl (.v 0) (.n 3))] rfl qz h3)]
 with_reducible (refine ite_f ?_; refine WTs.nilOr ?_; refine ite_f ?_; refine WS.nil ?_; refine WS.cons ?_; refine W1.ret ?_; refine WE.callI (by assumption) (by walk_at "k") (by with_unfolding_all rfl) ?_ (hp := by with_unfolding_all rfl); refine WA.cons ?_ (hp := by with_unfolding_all rfl); refine WE.comp ?_ (by with_unfolding_all rfl) (by with_unfolding_all exact freeOk_of (by assumption) (by rfl)) (hs := by with_unfolding_all (intro _; rfl)); refine WIt.of ?_; refine WE.nLocal (by walk_at "v") (by walk_at "k") ?_)
 refine WIv.seq (fun w : SD × List Int => w.1.d) hh hd hi (Turns.map (fun _ => .bool true) (fun _ _ => loc1 rfl) hi (by walk_at "z") (fun x hx fr' cenv hc => ?_) (.inl ?_))
 ·have hc := relab_of hc hs
  with_reducible (refine WE.callN (by assumption) (by assumption) (by walk_at "k") (by assumption) ?_ (hp := by with_unfolding_all rfl); refine WA.cons ?_ (hp := by with_unfolding_all rfl); refine WE.nLocal (by walk_at "v") (by walk_at "k") ?_; refine WA.cons ?_ (hp := by with_unfolding_all rfl); refine WE.nCell (by walk_at "v") (by walk_at "k") ?_; refine WA.nil ?_)
  refine WF.at (is_weights_ T G (E.each x hx).1 (E.each x hx).2 (by exact Nat.lt_of_le_of_lt h5 (by decide)) ?_) (by decide)
  exact ⟨rfl, rfl⟩
 ·with_reducible (refine WA.nil ?_)
  refine At1.all (sd := .lst _) (l := ws.map fun _ => true) hh (by simp [SD.ds, Function.comp_def]) trivial ?_
  rw [all_true]
  exact h
noncomputable abbrev rl (rows : List (List Int)) : D := .lst (rows.map il)
noncomputable abbrev sy (C : Addr) (n : Nat) (rows : List (List Int)) : D := .sys C (.int n) (rl rows)
theorem init_ {sd : SD} {ws : List (SD × List Int)} {n : Nat} {dx : Addr} (T : Tp c B07 N07) (G : Gi c G07) (S : Ks c K C "System" Bd07) (hL : sd.isL = true) (hi : sd.inv ((dx, .flds []) :: σ)) (hd : sd.ds = ws.map fun w => w.1.d) (E : Eqs ((dx, .flds []) :: σ) n ws)
  (hi2 : ∀ fs, sd.inv ((dx, .flds fs) :: σ) ∧ ∀ w ∈ ws, w.1.inv ((dx, .flds fs) :: σ)) (h1 : 1 ≤ n) (h5 : n ≤ 5) (h : Q .none ((dx, .flds [("rules", rl (ws.map (·.2))), ("size", .int n)]) :: σ)) : WM c K C (Room 4) "__init__" [.own C dx, .int n, sd.d] ((dx, .flds []) :: σ) Q X := by
 refine WM.by 0 T S rfl (mbind3 fun _ _ _ _ _ _ _ => rfl) (by rfl) rfl fun A fr env r hh hs fe => ?_
 have d1 : Dfn c "is_system" := Dfn.by 24 T rfl
 have h3 := E.few
 with_reducible (refine WS.cons ?_; refine W1.ite ?_; refine WT.not ?_; refine WT.plain ?_ (he := by with_unfolding_all (intro _; rfl)); refine WE.callN (by assumption) (by assumption) (by walk_at "k") (by assumption) ?_ (hp := by with_unfolding_all rfl); refine WA.cons ?_ (hp := by with_unfolding_all rfl); refine WE.nLocal (by walk_at "v") (by walk_at "k") ?_; refine WA.cons ?_ (hp := by with_unfolding_all rfl); refine WE.nLocal (by walk_at "v") (by walk_at "k") ?_; refine WA.nil ?_)
 refine WF.at (is_system_ T G hL hi hd E h1 h5 ?_) (by decide)
 with_reducible (refine WTr.bool ?_; refine ite_nt ?_; refine WS.nil ?_; refine WS.cons ?_)
 refine W1.attrS S ?_ (.inl rfl) (by with_unfolding_all rfl)
 with_reducible (refine WE.nLocal (by walk_at "v") (by walk_at "k") ?_; refine WE.nLocal (by walk_at "v") (by walk_at "k") ?_)
 refine ⟨dx, [], σ, [], rfl, rfl, by decide, ?_⟩
 with_reducible (refine WS.cons ?_)
 refine W1.attrS S ?_ (.inr rfl) (by with_unfolding_all rfl)
 with_reducible (refine WE.comp ?_ (by with_unfolding_all rfl) (by with_unfolding_all exact freeOk_of (by assumption) (by rfl)) (hs := by with_unfolding_all (intro _; rfl)); refine WIt.of ?_; refine WE.nLocal (by walk_at "v") (by walk_at "k") ?_)
 refine WIv.seq (fun w : SD × List Int => w.1.d) hh hd (hi2 _).1 (Turns.map (fun w => il w.2) (fun _ _ => loc1 rfl) (hi2 _).1 (by walk_at "z") (fun w hw fr' cenv hc => ?_) (.inl ?_))
 ·have hc := relab_of hc hs
  with_reducible (refine WE.callY (by assumption) (by walk_at "k") (by with_unfolding_all rfl) ?_ (hp := by with_unfolding_all rfl); refine WA.cons ?_ (hp := by with_unfolding_all rfl); refine WE.nLocal (by walk_at "v") (by walk_at "k") ?_; refine WA.nil ?_)
  have hw1 := (E.each w hw).1
  have hw2 := (E.each w hw).2.1
  refine At1.list ((hi2 _).2 w hw) (by rw [hw1.ds]; walk_at "z") (.inl ?_)
  rw [hw1.ds]
  exact ⟨rfl, rfl⟩
 ·with_reducible (refine WE.nLocal (by walk_at "v") (by walk_at "k") ?_)
  refine ⟨dx, [], σ, _, rfl, rfl, by simp, ?_⟩
  with_reducible (refine WS.nil ?_)
  have e : rl (ws.map (·.2)) = .lst (ws.map fun w => il w.2) := by simp [rl, Function.comp_def]
  rw [e] at h
  exact h
theorem new_ {sd : SD} {ws : List (SD × List Int)} {n : Nat} (T : Tp c B07 N07) (G : Gi c G07) (S : Ks c K C "System" Bd07) (hL : sd.isL = true) (hi : sd.inv σ) (hd : sd.ds = ws.map fun w => w.1.d) (E : Eqs σ n ws) (h1 : 1 ≤ n) (h5 : n ≤ 5)
  (h : Q (sy C n (ws.map (·.2))) σ) (dx : Addr) : WM c K C (Room 4) "__init__" [.own C dx, .int n, sd.d] ((dx, .flds []) :: σ) (NewQ C dx Q) (NewX dx X) := by
 have inv : ∀ {w : SD} {p : Addr × O}, w.inv σ → w.inv (p :: σ) := fun {w p} hw => by
  cases w
  ·trivial
  ·trivial
  ·exact List.mem_cons_of_mem _ hw
 refine init_ T G S hL (inv hi) hd ⟨fun w hw => ⟨⟨(E.each w hw).1.isL, (E.each w hw).1.ds, inv (E.each w hw).1.inv⟩, (E.each w hw).2⟩, E.few⟩ (fun fs => ⟨inv hi, fun w hw => inv (E.each w hw).1.inv⟩) h1 h5 ?_
 refine ⟨rfl, [], σ, _, .int n, rl (ws.map (·.2)), rfl, rfl, rfl, fun x n1 n2 => ?_, h⟩
 rw [lookup_cons_eq, if_neg n2, lookup_cons_eq, if_neg n1]; rfl
end
section
variable {c : Cx} {σ : Sto} {X : Addr → Sto → Prop} {Q : D → Sto → Prop} {K : Frag} {C : Addr}
noncomputable abbrev small (ws : List Int) : Prop := ∀ x ∈ ws, x.natAbs < 2 ^ 64
theorem unit_ {n p : Int} (T : Tp c B07 N07) (h0 : 0 ≤ n) (h1 : n < 100) (h : Q (row ((List.range n.toNat).map fun (i : Nat) => if ((i : Int) == p) = true then (1 : Int) else 0)) σ) : WF c (Room 1) "unit" [.int n, .int p] σ Q X := by
 refine WF.by 11 T rfl (bind2 fun _ _ _ _ _ => rfl) (by rfl) rfl fun A fr env r hh hs fe => ?_
 with_reducible (refine WS.cons ?_; refine W1.ret ?_; refine WE.callY (by assumption) (by walk_at "k") (by with_unfolding_all rfl) ?_ (hp := by with_unfolding_all rfl); refine WA.cons ?_ (hp := by with_unfolding_all rfl); refine WE.comp ?_ (by with_unfolding_all rfl) (by with_unfolding_all exact freeOk_of (by assumption) (by rfl)) (hs := by with_unfolding_all (intro _; rfl)); refine WIt.range (by assumption) (by assumption) (by walk_at "k") (by with_unfolding_all rfl) ?_ (hp := by with_unfolding_all rfl); refine WE.nLocal (by walk_at "v") (by walk_at "k") ?_)
 refine ⟨n, rfl, by omega, by omega, Turns.map (fun (i : Nat) => .int (if ((i : Int) == p) = true then (1 : Int) else 0)) (fun _ _ => loc1 rfl) trivial (by walk_at "z") (fun x hx fr' cenv hc => ?_) (.inl ?_)⟩
 ·have hc := relab_of hc hs
  with_reducible (refine WE.callY (by assumption) (by walk_at "k") (by with_unfolding_all rfl) ?_ (hp := by with_unfolding_all rfl); refine WA.cons ?_ (hp := by with_unfolding_all rfl); refine WE.compare ?_ (hb := by with_unfolding_all rfl); refine WE.nLocal (by walk_at "v") (by walk_at "k") ?_; refine WE.nCell (by walk_at "v") (by walk_at "k") ?_; refine WB.eqI ?_; refine WA.nil ?_)
  refine At1.intB ?_
  exact ⟨rfl, rfl⟩
 ·with_reducible (refine WA.nil ?_)
  refine At1.tuple (sd := .lst _) trivial (by walk_at "z") ?_
  simpa [row, SD.ds, Function.comp_def] using h
theorem within_ {xs ys : List Int} (T : Tp c B07 N07) (hsz : xs.length < 100) (h : Q (.bool ((xs.zip ys).all fun q => decide (q.1 ≤ q.2))) σ) : WF c (Room 1) "within" [row xs, row ys] σ Q X := by
 refine WF.by 12 T rfl (bind2 fun _ _ _ _ _ => rfl) (by rfl) rfl fun A fr env r hh hs fe => ?_
 with_reducible (refine WS.cons ?_; refine W1.ret ?_; refine WE.callI (by assumption) (by walk_at "k") (by with_unfolding_all rfl) ?_ (hp := by with_unfolding_all rfl); refine WA.cons ?_ (hp := by with_unfolding_all rfl); refine WE.comp ?_ (by with_unfolding_all rfl) (by with_unfolding_all exact freeOk_of (by assumption) (by rfl)) (hs := by with_unfolding_all (intro _; rfl)); refine WIt.zipX (by assumption) (by assumption) (by walk_at "k") (by with_unfolding_all rfl) ?_ (hp := by with_unfolding_all rfl); refine WE.nLocal (by walk_at "v") (by walk_at "k") ?_; refine WE.nLocal (by walk_at "v") (by walk_at "k") ?_)
 refine ⟨_, _, .tup _, .tup _, xs, ys, D.int, D.int, rfl, rfl, rfl, rfl, trivial, trivial, Turns.map (fun q => .bool (decide (q.1 ≤ q.2))) (fun _ _ => loc2 rfl rfl) ⟨trivial, trivial⟩ (by walk_at "z") (fun x hx fr' cenv hc => ?_) (.inl ?_)⟩
 ·have hc := relab_of hc hs
  with_reducible (refine WE.compare ?_ (hb := by with_unfolding_all rfl); refine WE.nLocal (by walk_at "v") (by walk_at "k") ?_; refine WE.nLocal (by walk_at "v") (by walk_at "k") ?_; refine WB.le ?_)
  exact ⟨rfl, rfl⟩
 ·with_reducible (refine WA.nil ?_)
  refine At1.all (sd := .lst _) (l := (xs.zip ys).map fun q => decide (q.1 ≤ q.2)) hh (by simp [SD.ds, Function.comp_def]) trivial ?_
  simpa [Function.comp_def] using h
theorem added_ {xs ys : List Int} (T : Tp c B07 N07) (hsz : xs.length < 100) (h : Q (row ((xs.zip ys).map fun q => q.1 + q.2)) σ) : WF c (Room 1) "added" [row xs, row ys] σ Q X := by
 refine WF.by 13 T rfl (bind2 fun _ _ _ _ _ => rfl) (by rfl) rfl fun A fr env r hh hs fe => ?_
 with_reducible (refine WS.cons ?_; refine W1.ret ?_; refine WE.callY (by assumption) (by walk_at "k") (by with_unfolding_all rfl) ?_ (hp := by with_unfolding_all rfl); refine WA.cons ?_ (hp := by with_unfolding_all rfl); refine WE.comp ?_ (by with_unfolding_all rfl) (by with_unfolding_all exact freeOk_of (by assumption) (by rfl)) (hs := by with_unfolding_all (intro _; rfl)); refine WIt.zipX (by assumption) (by assumption) (by walk_at "k") (by with_unfolding_all rfl) ?_ (hp := by with_unfolding_all rfl); refine WE.nLocal (by walk_at "v") (by walk_at "k") ?_; refine WE.nLocal (by walk_at "v") (by walk_at "k") ?_)
 refine ⟨_, _, .tup _, .tup _, xs, ys, D.int, D.int, rfl, rfl, rfl, rfl, trivial, trivial, Turns.map (fun q => .int (q.1 + q.2)) (fun _ _ => loc2 rfl rfl) ⟨trivial, trivial⟩ (by walk_at "z") (fun x hx fr' cenv hc => ?_) (.inl ?_)⟩
 ·have hc := relab_of hc hs
  with_reducible (refine WE.binop ?_; refine WE.nLocal (by walk_at "v") (by walk_at "k") ?_; refine WE.nLocal (by walk_at "v") (by walk_at "k") ?_; refine WB.add ?_)
  exact ⟨rfl, rfl⟩
 ·with_reducible (refine WA.nil ?_)
  refine At1.tuple (sd := .lst _) trivial (by walk_at "z") ?_
  simpa [row, SD.ds, Function.comp_def] using h
theorem by_sum_ {xs : List Int} (T : Tp c B07 N07) (h : Q (keyD xs) σ) : WF c (Room 1) "by_sum" [row xs] σ Q X := by
 refine WF.by 16 T rfl (bind1 fun _ _ _ _ => rfl) (by rfl) rfl fun A fr env r hh hs fe => ?_
 with_reducible (refine WS.cons ?_; refine W1.ret ?_; refine WE.tuple ?_; refine WA.cons ?_ (hp := by with_unfolding_all rfl); refine WE.callI (by assumption) (by walk_at "k") (by with_unfolding_all rfl) ?_ (hp := by with_unfolding_all rfl); refine WA.cons ?_ (hp := by with_unfolding_all rfl); refine WE.nLocal (by walk_at "v") (by walk_at "k") ?_; refine WA.nil ?_)
 refine At1.sum (sd := .tup _) (l := xs) hh rfl trivial ?_
 with_reducible (refine WA.cons ?_ (hp := by with_unfolding_all rfl); refine WE.nLocal (by walk_at "v") (by walk_at "k") ?_; refine WA.nil ?_)
 exact ⟨by simp [sizeLine], h⟩
theorem ranked_ {rows : List (List Int)} (T : Tp c B07 N07) (h64 : rows.length < 64) (h : ∀ out : List (List Int), out.Perm rows → out.Pairwise keyLe → QL Q (out.map row) σ) : WF c (Room 3) "ranked" [.lst (rows.map row)] σ Q X := by
 refine WF.by 17 T rfl (bind1 fun _ _ _ _ => rfl) (by rfl) rfl fun A fr env r hh hs fe => ?_
 with_reducible (refine WS.cons ?_; refine W1.ret ?_)
 refine WE.sorted T (n := 0) r (by walk_at "k") (by rfl) (by walk_at "k") (Dfn.by 16 T rfl) ?_
 with_reducible (refine WE.nLocal (by walk_at "v") (by walk_at "k") ?_)
 exact ⟨.lst _, rows, rfl, rfl, rfl, trivial, h64, fun r hr => by_sum_ T ⟨rfl, rfl⟩, h⟩
theorem times_ {sd sd2 : SD} {ws xs : List Int} (T : Tp c B07 N07) (hd : sd.ds = ws.map D.int) (hi : sd.inv σ) (hd2 : sd2.ds = xs.map D.int) (hi2 : sd2.inv σ) (hs1 : ∀ q ∈ ws.zip xs, IntMulOk q.1 q.2) (hl : ws.length < 100) (h : Q (.int (dot ws xs)) σ) : WF c (Room 1) "times" [sd.d, sd2.d] σ Q X := by
 refine WF.by 26 T rfl (bind2 fun _ _ _ _ _ => rfl) (by rfl) rfl fun A fr env r hh hs fe => ?_
 with_reducible (refine WS.cons ?_; refine W1.ret ?_; refine WE.callI (by assumption) (by walk_at "k") (by with_unfolding_all rfl) ?_ (hp := by with_unfolding_all rfl); refine WA.cons ?_ (hp := by with_unfolding_all rfl); refine WE.comp ?_ (by with_unfolding_all rfl) (by with_unfolding_all exact freeOk_of (by assumption) (by rfl)) (hs := by with_unfolding_all (intro _; rfl)); refine WIt.zipX (by assumption) (by assumption) (by walk_at "k") (by with_unfolding_all rfl) ?_ (hp := by with_unfolding_all rfl); refine WE.nLocal (by walk_at "v") (by walk_at "k") ?_; refine WE.nLocal (by walk_at "v") (by walk_at "k") ?_)
 refine ⟨_, _, sd, sd2, ws, xs, D.int, D.int, rfl, rfl, hd, hd2, hi, hi2, Turns.map (fun q => .int (q.1 * q.2)) (fun _ _ => loc2 rfl rfl) ⟨hi, hi2⟩ (by walk_at "z") (fun q hq fr' cenv hc => ?_) (.inl ?_)⟩
 ·have hc := relab_of hc hs
  with_reducible (refine WE.binop ?_; refine WE.nLocal (by walk_at "v") (by walk_at "k") ?_; refine WE.nLocal (by walk_at "v") (by walk_at "k") ?_)
  refine WB.mul (hs1 q hq) ?_
  exact ⟨rfl, rfl⟩
 ·with_reducible (refine WA.nil ?_)
  refine At1.sum (sd := .lst _) (l := (ws.zip xs).map fun q => q.1 * q.2) hh (by simp [SD.ds, Function.comp_def]) trivial ?_
  exact h
theorem worths_ {rows : List (List Int)} {xs : List Int} (T : Tp c B07 N07) (hr : ∀ r ∈ rows, small r ∧ r.length < 100) (hl : rows.length < 100) (h : QL Q (rows.map fun r => .int (dot r xs)) σ) : WF c (Room 2) "worths" [rl rows, row xs] σ Q X := by
 refine WF.by 27 T rfl (bind2 fun _ _ _ _ _ => rfl) (by rfl) rfl fun A fr env r hh hs fe => ?_
 have d1 : Dfn c "times" := Dfn.by 26 T rfl
 with_reducible (refine WS.cons ?_; refine W1.ret ?_; refine WE.comp ?_ (by with_unfolding_all rfl) (by with_unfolding_all exact freeOk_of (by assumption) (by rfl)) (hs := by with_unfolding_all (intro _; rfl)); refine WIt.of ?_; refine WE.nLocal (by walk_at "v") (by walk_at "k") ?_)
 refine WIv.seq (sd := .lst _) il hh rfl trivial (Turns.map (fun r => .int (dot r xs)) (fun _ _ => loc1 rfl) trivial (by walk_at "z") (fun w hw fr' cenv hc => ?_) h)
 have hc := relab_of hc hs
 with_reducible (refine WE.callN (by assumption) (by assumption) (by walk_at "k") (by assumption) ?_ (hp := by with_unfolding_all rfl); refine WA.cons ?_ (hp := by with_unfolding_all rfl); refine WE.nLocal (by walk_at "v") (by walk_at "k") ?_; refine WA.cons ?_ (hp := by with_unfolding_all rfl); refine WE.nCell (by walk_at "v") (by walk_at "k") ?_; refine WA.nil ?_)
 refine WF.at (times_ (sd := .lst _) (sd2 := .tup _) T rfl trivial rfl trivial (fun q hq => mulOk_left ((hr w hw).1 _ (List.of_mem_zip hq).1)) (hr w hw).2 ?_) (by decide)
 exact ⟨rfl, rfl⟩
end
section
variable {c : Cx} {σ : Sto} {X : Addr → Sto → Prop} {Q : D → Sto → Prop} {K : Frag} {C : Addr}
theorem unitN_ {n p : Nat} (T : Tp c B07 N07) (h1 : n < 100) (h : Q (row (unitR n p)) σ) : WF c (Room 1) "unit" [.int n, .int p] σ Q X := unit_ T (by exact Int.not_lt.mp fun qz => lin [_] [] [(1,.it (.c (.v 0)) (.n 0))] rfl qz) (by exact Int.not_le.mp fun qz => lin [_] [] [(1,.il (.n 100) (.c (.v 0))),(1,.nt (.v 0) (.n 100))] rfl qz h1) h
theorem worthsN_ {E : List (List Int)} {xs : List Int} (T : Tp c B07 N07) (hr : ∀ r ∈ E, small r ∧ r.length < 100) (hl : E.length < 100) (h : QL Q ((wor E xs).map D.int) σ) : WF c (Room 2) "worths" [rl E, row xs] σ Q X :=
 worths_ T hr hl (by unfold wor at h; rw [List.map_map] at h; exact h)
theorem addedN_ {xs ys : List Int} (T : Tp c B07 N07) (hsz : xs.length < 100) (h : Q (row (addR xs ys)) σ) : WF c (Room 1) "added" [row xs, row ys] σ Q X := added_ T hsz h
theorem withinN_ {xs ys : List Int} (T : Tp c B07 N07) (hsz : xs.length < 100) (h : Q (.bool (inR xs ys)) σ) : WF c (Room 1) "within" [row xs, row ys] σ Q X := within_ T hsz h
theorem lst_ne {l : List (List Int)} : (!PyData.eqv (.list (l.map fun r => .tuple (r.map .int))) (.list [])) = !l.isEmpty := by
 cases l <;> rfl
theorem ins_len (l : List (List Int)) (f : List Int) : l.length ≤ (ins l f).length := by
 unfold ins; split
 ·exact Nat.le_refl _
 ·simp
theorem foldl_ins_len : ∀ (fs l : List (List Int)), l.length ≤ (fs.foldl ins l).length
 | [], l => Nat.le_refl _
 | f :: fs, l => Nat.le_trans (ins_len l f) (foldl_ins_len fs _)
theorem foldl_part {fs gs l : List (List Int)} : (fs.foldl ins l).length ≤ ((fs ++ gs).foldl ins l).length := by rw [List.foldl_append]; exact foldl_ins_len gs _
theorem take_next {α : Type} {l : List α} {k : Nat} {x : α} (h : l[k]? = some x) : l.take (k + 1) = l.take k ++ [x] := by
 rw [List.take_add_one, h]; rfl
theorem cands_snoc {E : List (List Int)} {n : Nat} {once : Bool} {found rs : List (List Int)} {r : List Int} : cands E n once found (rs ++ [r]) = cands E n once found rs ++ (List.range n).filterMap fun p => cand E n once found r p := by
 unfold cands; rw [List.flatMap_append]; simp
theorem cands_pre {E : List (List Int)} {n : Nat} {once : Bool} {found op : List (List Int)} {w : List Int} {i p : Nat} (hk : op[i]? = some w) : ∃ gs, cands E n once found op = (cands E n once found (op.take i) ++ ((List.range n).take p).filterMap fun q => cand E n once found w q) ++ gs := by
 obtain ⟨hi, hw⟩ := List.getElem?_eq_some_iff.mp hk
 refine ⟨((List.range n).drop p).filterMap (fun q => cand E n once found w q) ++ cands E n once found (op.drop (i + 1)), ?_⟩
 have e : op = op.take i ++ w :: op.drop (i + 1) := by
  rw [← hw, ← List.drop_eq_getElem_cons hi, List.take_append_drop]
 conv => lhs; rw [e]
 unfold cands
 rw [List.flatMap_append, List.flatMap_cons]
 conv => lhs; rw [← List.take_append_drop p (List.range n), List.filterMap_append]
 simp only [List.append_assoc, List.take_append_drop]
structure FwA (E : List (List Int)) (n : Nat) (a : Addr) (m : Vars) : Prop where
 found : has m "found" (.ref a)
 columns : has m "columns" (.lst ((List.range n).map fun (i : Nat) => il (wor E (unitR n i))))
 equations : has m "equations" (rl E)
 size : has m "size" (.int n)
 once : has m "once" (.bool false)
theorem FwA.skip {E : List (List Int)} {n : Nat} {a : Addr} {m : Vars} (h : FwA E n a m) {x : Str} {d : D} (hx : ["found", "columns", "equations", "size", "once"].all (fun y => !(y == x)) = true) : FwA E n a ((x, d) :: m) := by
 simp only [List.all_cons, List.all_nil, Bool.and_eq_true, Bool.not_eq_true'] at hx
 obtain ⟨h1, h2, h3, h4, h5, _⟩ := hx
 exact ⟨lk_skip h1 h.found, lk_skip h2 h.columns, lk_skip h3 h.equations, lk_skip h4 h.size, lk_skip h5 h.once⟩
theorem fewest_ {E : List (List Int)} {n : Nat} (T : Tp c B07 N07) (F : Fits E n false) (hr : ∀ r ∈ E, small r ∧ r.length < 100) (hl : E.length < 100) (hn : n < 100) (h1 : 1 ≤ n)
  (h : ∀ found : List (List Int), found.Nodup → (∀ s, s ∈ found ↔ Least E n s) → Q (.lst (found.map row)) σ) : WF c (Room 3) "fewest" [rl E, .int n, .bool false] σ Q X := by
 refine WF.by 28 T rfl (bind3 fun _ _ _ _ _ _ => rfl) (by rfl) rfl fun A fr env r hh hs fe => ?_
 have d1 : Dfn c "worths" := Dfn.by 27 T rfl
 have d2 : Dfn c "unit" := Dfn.by 11 T rfl
 have d3 : Dfn c "times" := Dfn.by 26 T rfl
 have d4 : Dfn c "added" := Dfn.by 13 T rfl
 have d5 : Dfn c "within" := Dfn.by 12 T rfl
 with_reducible (refine WS.cons ?_; refine W1.assignC (by assumption) ?_ (by with_unfolding_all rfl) (by with_unfolding_all rfl) (by with_unfolding_all rfl) (hs := by with_unfolding_all (intro _; rfl)); refine WIt.range (by assumption) (by assumption) (by walk_at "k") (by with_unfolding_all rfl) ?_ (hp := by with_unfolding_all rfl); refine WE.nCell (by walk_at "v") (by walk_at "k") ?_)
 refine ⟨n, rfl, by omega, by omega, Turns.map (fun (i : Nat) => il (wor E (unitR n i))) (fun _ _ => loc1 rfl) trivial (by walk_at "z") (fun x hx fr' cenv hc => ?_) (.inl ?_)⟩
 ·have hc := relab_of hc hs
  with_reducible (refine WE.callN (by assumption) (by assumption) (by walk_at "k") (by assumption) ?_ (hp := by with_unfolding_all rfl); refine WA.cons ?_ (hp := by with_unfolding_all rfl); refine WE.nCell (by walk_at "v") (by walk_at "k") ?_; refine WA.cons ?_ (hp := by with_unfolding_all rfl); refine WE.callN (by assumption) (by assumption) (by walk_at "k") (by assumption) ?_ (hp := by with_unfolding_all rfl); refine WA.cons ?_ (hp := by with_unfolding_all rfl); refine WE.nCell (by walk_at "v") (by walk_at "k") ?_; refine WA.cons ?_ (hp := by with_unfolding_all rfl); refine WE.nLocal (by walk_at "v") (by walk_at "k") ?_; refine WA.nil ?_)
  refine WF.at (unitN_ T hn ?_) (by decide)
  with_reducible (refine WA.nil ?_)
  refine WF.at (worthsN_ T hr hl (.inl ⟨rfl, rfl⟩)) (by decide)
 with_reducible (refine WS.cons ?_; refine W1.assign ?_ (by walk_at "k2") (by with_unfolding_all rfl); refine WE.list ?_; refine WA.nil ?_)
 refine ⟨by simp [sizeLine], .inr fun a ha => ?_⟩
 with_reducible (refine WS.cons ?_; refine W1.assignC (by assumption) ?_ (by with_unfolding_all rfl) (by with_unfolding_all rfl) (by with_unfolding_all rfl) (hs := by with_unfolding_all (intro _; rfl)); refine WIt.range (by assumption) (by assumption) (by walk_at "k") (by with_unfolding_all rfl) ?_ (hp := by with_unfolding_all rfl); refine WE.nCell (by walk_at "v") (by walk_at "k") ?_)
 refine ⟨n, rfl, by omega, by omega, Turns.map (fun (i : Nat) => row (unitR n i)) (fun _ _ => loc1 rfl) trivial (by walk_at "z") (fun x hx fr' cenv hc => ?_) (.inl ?_)⟩
 ·have hc := relab_of hc hs
  with_reducible (refine WE.callN (by assumption) (by assumption) (by walk_at "k") (by assumption) ?_ (hp := by with_unfolding_all rfl); refine WA.cons ?_ (hp := by with_unfolding_all rfl); refine WE.nCell (by walk_at "v") (by walk_at "k") ?_; refine WA.cons ?_ (hp := by with_unfolding_all rfl); refine WE.nLocal (by walk_at "v") (by walk_at "k") ?_; refine WA.nil ?_)
  refine WF.at (unitN_ T hn ?_) (by decide)
  exact ⟨rfl, rfl⟩
 with_reducible (refine WS.cons ?_)
 obtain ⟨Kk, hK⟩ := F.ends
 refine W1.while fe (fun k m' σ' => ∃ j σx, j + k = Kk ∧ σ' = σx ++ (a, .lst ((stF E n false j).1.map row)) :: σ ∧ has m' "front" (.lst ((stF E n false j).2.map row)) ∧ FwA E n a m') Kk ⟨0, [], by exact Nat.le_antisymm (Nat.not_lt.mp fun qz => lin [_] [] [(1,.nt (.v 0) (.a (.n 0) (.v 0)))] rfl qz) (Nat.not_lt.mp fun qz => lin [_] [] [(1,.nt (.a (.n 0) (.v 0)) (.v 0))] rfl qz), rfl, ?_, ⟨by walk_at "v", by walk_at "v", by walk_at "v", by walk_at "v", by walk_at "v"⟩⟩ ?_
 ·have e : (stF E n false 0).2.map row = List.map (fun (i : Nat) => row (unitR n i)) (List.range ((n : Int)).toNat) := by simp [stF, Function.comp_def]
  rw [e]; exact lk_here
 rintro k m' σ' ⟨j, σx, hj, rfl, v1, hA⟩
 obtain ⟨fo, hfo⟩ : ∃ fo, fo = (stF E n false j).1 := ⟨_, rfl⟩
 obtain ⟨fn, hfn⟩ : ∃ fn, fn = (stF E n false j).2 := ⟨_, rfl⟩
 rw [← hfn] at v1
 rw [← hfo]
 with_reducible (refine WT.compare ?_ (hb := by with_unfolding_all rfl); refine WE.nLocal (by walk_at "v") (by walk_at "k") ?_; refine WE.list ?_; refine WA.nil ?_)
 refine ⟨by simp [sizeLine], .inl ?_⟩
 skip
 refine WB.neD r (.of (Py.lst (n := 3) PyAll.rows)) (.of (Py.lst (n := 1) .nil)) ?_
 rw [lst_ne]
 have hlen := F.len
 by_cases hfe : fn = []
 ·subst hfe
  rw [show (!([] : List (List Int)).isEmpty) = false from rfl]
  refine WTr.bool ?_
  simp only [Bool.false_eq_true, if_false]
  refine WS.forget (σ' := (a, .lst (fo.map row)) :: σ) (List.sublist_append_right _ _) ?_
  have v2 := hA.found
  refine WS.cons (W1.ret (WE.freeze ?_))
  with_reducible (refine WE.nLocal (by walk_at "v") (by walk_at "k") ?_)
  have I := Inv.at (once := false) hlen j
  rw [← hfn, ← hfo] at I
  obtain ⟨i1, i2⟩ := I.done
  exact ⟨a, _, [], σ, rfl, rfl, h fo i1 fun s => (i2 s).trans ⟨fun q => q.1, fun q => ⟨q, fun z => by cases z⟩⟩⟩
 ·have hfb : fn.isEmpty = false := by cases fn with
   | nil => exact absurd rfl hfe
   | cons => rfl
  have hjK : j < Kk := by
   rcases Nat.lt_or_ge j Kk with q | q
   ·exact q
   ·exact absurd (hfn.trans (hK j q)) hfe
  have hrow : ∀ x ∈ fn, x.length = n := fun x hx => by
   have I := Inv.at (once := false) hlen j
   rw [← hfn] at I
   obtain ⟨⟨R, hR⟩, _⟩ := I.reach x hx
   exact hR.row.len
  have hfoL : ∀ x ∈ fo, x.length = n := fun x hx => by
   have I := Inv.at (once := false) hlen j
   rw [← hfo] at I
   exact (I.least x hx).1.row.len
  have s1 := F.front j
  rw [← hfn] at s1
  have s2 := F.found (j + 1)
  have s3 := F.front (j + 1)
  have e1 : (stF E n false (j + 1)).1 = foundN E fo fn := by rw [hfo, hfn]; rfl
  have e2 : (stF E n false (j + 1)).2 = frontN E n false fo fn := by rw [hfo, hfn]; rfl
  rw [e1] at s2
  rw [e2] at s3
  rw [hfb]
  refine WTr.bool ?_
  simp only [Bool.not_false, if_true]
  refine WS.forget (σ' := (a, .lst (fo.map row)) :: σ) (List.sublist_append_right _ _) ?_
  with_reducible (refine WS.cons ?_; refine W1.assign ?_ (by walk_at "k2") (by with_unfolding_all rfl); refine WE.list ?_; refine WA.nil ?_)
  refine ⟨by simp [sizeLine], .inr fun b hb => ?_⟩
  with_reducible (refine WS.cons ?_; refine W1.forL (by assumption) ?_ (hs := by with_unfolding_all (intro _; rfl)); refine WIt.of ?_; refine WE.nLocal (by walk_at "v") (by walk_at "k") ?_)
  refine WIv.seq (sd := .lst _) row hh rfl trivial ?_
  refine Loop.of (fun i m' σ' => σ' = (b, .lst (((fn.take i).filter (isOpen E)).map row)) :: (a, .lst ((fo ++ (fn.take i).filter fun r => !isOpen E r).map row)) :: σ ∧ has m' "open_rows" (.ref b) ∧ FwA E n a m') (fun _ _ => kinds1 (by walk_at "k2")) ⟨by simp, by walk_at "v", by repeat first | assumption | refine FwA.skip ?_ rfl⟩ (fun _ _ _ _ => trivial) (fun i w m' σ' hk hL fr' => ?_) (fun m' σ' hL => ?_)
  ·obtain ⟨rfl, u1, hA⟩ := hL
   have u2 := hA.found
   have u4 := hA.equations
   have hw := List.mem_of_getElem? hk
   have hlt : i < fn.length := (List.getElem?_eq_some_iff.mp hk).1
   with_reducible (refine WS.cons ?_; refine W1.ite ?_; refine WT.plain ?_ (he := by with_unfolding_all (intro _; rfl)); refine WE.callI (by assumption) (by walk_at "k") (by with_unfolding_all rfl) ?_ (hp := by with_unfolding_all rfl); refine WA.cons ?_ (hp := by with_unfolding_all rfl); refine WE.comp ?_ (by with_unfolding_all rfl) (by with_unfolding_all exact freeOk_of (by assumption) (by rfl)) (hs := by with_unfolding_all (intro _; rfl)); refine WIt.of ?_; refine WE.callN (by assumption) (by assumption) (by walk_at "k") (by assumption) ?_ (hp := by with_unfolding_all rfl); refine WA.cons ?_ (hp := by with_unfolding_all rfl); refine WE.nCell (by walk_at "v") (by walk_at "k") ?_; refine WA.cons ?_ (hp := by with_unfolding_all rfl); refine WE.nLocal (by walk_at "v") (by walk_at "k") ?_; refine WA.nil ?_)
   refine WF.at (worthsN_ T hr hl (.inl ?_)) (by decide)
   refine WIv.seq (sd := .lst _) D.int hh rfl trivial (Turns.map (fun x => .bool (x != 0)) (fun _ _ => loc1 rfl) trivial (by simp only [wor]; walk_at "z") (fun x hx fr' cenv hc => ?_) (.inl ?_))
   ·have hc := relab_of hc hs
    with_reducible (refine WE.compare ?_ (hb := by with_unfolding_all rfl); refine WE.nLocal (by walk_at "v") (by walk_at "k") ?_; refine WE.kInt ?_; refine WB.neI ?_)
    exact ⟨rfl, rfl⟩
   with_reducible (refine WA.nil ?_)
   refine At1.any (sd := .lst _) (l := (wor E w).map (· != 0)) hh (by simp [SD.ds, Function.comp_def]) trivial ?_
   have eo : ((wor E w).map (· != 0)).any id = isOpen E w := by simp [isOpen, List.any_map, Function.comp_def]
   rw [eo, take_next hk, List.filter_append, List.filter_append]
   by_cases ho : isOpen E w = true
   ·have f1 : [w].filter (isOpen E) = [w] := by simp [ho]
    have f2 : [w].filter (fun r => !isOpen E r) = [] := by simp [ho]
    rw [f1, f2, List.append_nil, ho]
    with_reducible (refine WTr.bool ?_; refine ite_t ?_; refine WS.cons ?_; refine W1.expr ?_ (by with_unfolding_all rfl); refine WE.methL PySem.F.slot_list_append (by with_unfolding_all rfl) ?_ (hp := by with_unfolding_all rfl) (hb := by with_unfolding_all (intro _; rfl)) (hl := by with_unfolding_all rfl) (hn := by with_unfolding_all rfl); refine WE.nLocal (by walk_at "v") (by walk_at "k") ?_)
    refine ⟨.ref b _, rfl, rfl, List.mem_cons_self, ?_⟩
    with_reducible (refine WA.cons ?_ (hp := by with_unfolding_all rfl); refine WE.nLocal (by walk_at "v") (by walk_at "k") ?_; refine WA.nil ?_)
    have hle : ((fn.take i).filter (isOpen E)).length ≤ i := Nat.le_trans (List.length_filter_le _ _) (by simp; omega)
    refine At1.append (σ1 := []) (by walk_at "z") ?_
    with_reducible (refine WS.nil ?_; refine WS.nil ?_)
    refine ⟨by simp, by walk_at "v", by repeat first | assumption | refine FwA.skip ?_ rfl⟩
   ·have ho : isOpen E w = false := by simpa using ho
    have f1 : [w].filter (isOpen E) = [] := by simp [ho]
    have f2 : [w].filter (fun r => !isOpen E r) = [w] := by simp [ho]
    rw [f1, f2, List.append_nil, ho]
    with_reducible (refine WTr.bool ?_; refine ite_f ?_; refine WS.cons ?_; refine W1.expr ?_ (by with_unfolding_all rfl); refine WE.methL PySem.F.slot_list_append (by with_unfolding_all rfl) ?_ (hp := by with_unfolding_all rfl) (hb := by with_unfolding_all (intro _; rfl)) (hl := by with_unfolding_all rfl) (hn := by with_unfolding_all rfl); refine WE.nLocal (by walk_at "v") (by walk_at "k") ?_)
    refine ⟨.ref a _, rfl, rfl, List.mem_cons_of_mem _ List.mem_cons_self, ?_⟩
    with_reducible (refine WA.cons ?_ (hp := by with_unfolding_all rfl); refine WE.nLocal (by walk_at "v") (by walk_at "k") ?_; refine WA.nil ?_)
    have hle : fo.length + ((fn.take i).filter fun r => !isOpen E r).length ≤ 16000000 := by
     unfold foundN at s2
     rw [List.length_append] at s2
     have := (List.Sublist.filter (fun r => !isOpen E r) (List.take_sublist i fn)).length_le
     exact Nat.not_lt.mp fun qz => lin [_,_,_] [] [(1,.nt (.n 16000000) (.a (.v 0) (.v 1))),(1,.nl (.v 1) (.v 2)),(1,.nl (.a (.v 0) (.v 2)) (.n 16000000))] rfl qz this s2
    refine At1.append (σ1 := [(b, _)]) (by walk_at "z") ?_
    with_reducible (refine WS.nil ?_; refine WS.nil ?_)
    refine ⟨by simp, by walk_at "v", by repeat first | assumption | refine FwA.skip ?_ rfl⟩
  ·obtain ⟨rfl, u1, hA⟩ := hL
   rw [List.take_length]
   with_reducible (refine WS.cons ?_; refine W1.assign ?_ (by walk_at "k2") (by with_unfolding_all rfl))
   have e3 : fo ++ fn.filter (fun r => !isOpen E r) = foundN E fo fn := rfl
   rw [e3]
   have hfd : ∀ x ∈ foundN E fo fn, x.length = n := fun x hx => by
    rcases List.mem_append.mp hx with z | z
    ·exact hfoL x z
    ·exact hrow x (List.mem_filter.mp z).1
   have s4 : ((cands E n false (foundN E fo fn) (fn.filter (isOpen E))).foldl ins []).length ≤ 16000000 := s3
   have hop : ∀ x ∈ fn.filter (isOpen E), x.length = n := fun x hx => hrow x (List.mem_filter.mp hx).1
   have hopl : (fn.filter (isOpen E)).length ≤ 16000000 := Nat.le_trans (List.length_filter_le _ _) s1
   have e4 : frontN E n false fo fn = (cands E n false (foundN E fo fn) (fn.filter (isOpen E))).foldl ins [] := rfl
   generalize foundN E fo fn = fd at *
   generalize fn.filter (isOpen E) = op at *
   refine WE.dict0 T.good fun e he => ?_
   with_reducible (refine WS.cons ?_; refine W1.forL (by assumption) ?_ (hs := by with_unfolding_all (intro _; rfl)); refine WIt.of ?_; refine WE.nLocal (by walk_at "v") (by walk_at "k") ?_)
   refine WIv.seq (sd := .ref b _) row hh rfl (List.mem_cons_of_mem _ List.mem_cons_self) ?_
   refine Loop.of (fun i m' σ' => σ' = (e, .rows ((cands E n false fd (op.take i)).foldl ins [])) :: (b, .lst (op.map row)) :: (a, .lst (fd.map row)) :: σ ∧ has m' "open_rows" (.ref b) ∧ has m' "later" (.ref e) ∧ FwA E n a m') (fun _ _ => kinds1 (by walk_at "k2")) ⟨by simp [cands], by walk_at "v", by walk_at "v", by repeat first | assumption | refine FwA.skip ?_ rfl⟩ (fun _ _ _ hL => by rw [hL.1]; exact List.mem_cons_of_mem _ List.mem_cons_self) (fun i w m' σ' hk hL fr' => ?_) (fun m' σ' hL => ?_)
   ·obtain ⟨rfl, u1, u7, hA⟩ := hL
    have u4 := hA.equations
    have u5 := hA.size
    have hw := List.mem_of_getElem? hk
    have hwl := hop w hw
    have hlt : i < op.length := (List.getElem?_eq_some_iff.mp hk).1
    with_reducible (refine WS.cons ?_; refine W1.assign ?_ (by walk_at "k2") (by with_unfolding_all rfl); refine WE.callN (by assumption) (by assumption) (by walk_at "k") (by assumption) ?_ (hp := by with_unfolding_all rfl); refine WA.cons ?_ (hp := by with_unfolding_all rfl); refine WE.nCell (by walk_at "v") (by walk_at "k") ?_; refine WA.cons ?_ (hp := by with_unfolding_all rfl); refine WE.nLocal (by walk_at "v") (by walk_at "k") ?_; refine WA.nil ?_)
    refine WF.at (worthsN_ T hr hl (.inl ?_)) (by decide)
    with_reducible (refine WS.cons ?_; refine W1.forL (by assumption) ?_ (hs := by with_unfolding_all (intro _; rfl)); refine WIt.range (by assumption) (by assumption) (by walk_at "k") (by with_unfolding_all rfl) ?_ (hp := by with_unfolding_all rfl); refine WE.nCell (by walk_at "v") (by walk_at "k") ?_)
    refine ⟨n, rfl, by omega, by omega, ?_⟩
    simp only [Int.toNat_natCast]
    refine Loop.of (fun p m' σ' => σ' = (e, .rows ((cands E n false fd (op.take i) ++ ((List.range n).take p).filterMap fun q => cand E n false fd w q).foldl ins [])) :: (b, .lst (op.map row)) :: (a, .lst (fd.map row)) :: σ ∧ has m' "open_rows" (.ref b) ∧ has m' "later" (.ref e) ∧ has m' "worth" (il (wor E w)) ∧ has m' "row" (row w) ∧ FwA E n a m') (fun _ _ => kinds1 (by walk_at "k2")) ⟨by simp, by walk_at "v", by walk_at "v", by walk_at "v", by walk_at "v", by repeat first | assumption | refine FwA.skip ?_ rfl⟩ (fun _ _ _ hL => trivial) (fun p pl m' σ' hp hL fr' => ?_) (fun m' σ' hL => ?_)
    ·obtain ⟨rfl, y1, y7, y8, y9, hA⟩ := hL
     have y2 := hA.found
     have y3 := hA.columns
     have y5 := hA.size
     have y6 := hA.once
     have hpl : p < n := by have := (List.getElem?_eq_some_iff.mp hp).1; simpa using this
     have hpe : pl = p := by rw [List.getElem?_range hpl] at hp; cases hp; rfl
     subst hpe
     with_reducible (refine WS.cons ?_; refine W1.assign ?_ (by walk_at "k2") (by with_unfolding_all rfl); refine WE.callN (by assumption) (by assumption) (by walk_at "k") (by assumption) ?_ (hp := by with_unfolding_all rfl); refine WA.cons ?_ (hp := by with_unfolding_all rfl); refine WE.nLocal (by walk_at "v") (by walk_at "k") ?_; refine WA.cons ?_ (hp := by with_unfolding_all rfl); refine WE.callN (by assumption) (by assumption) (by walk_at "k") (by assumption) ?_ (hp := by with_unfolding_all rfl); refine WA.cons ?_ (hp := by with_unfolding_all rfl); refine WE.nCell (by walk_at "v") (by walk_at "k") ?_; refine WA.cons ?_ (hp := by with_unfolding_all rfl); refine WE.nLocal (by walk_at "v") (by walk_at "k") ?_; refine WA.nil ?_)
     refine WF.at (unitN_ T hn ?_) (by decide)
     with_reducible (refine WA.nil ?_)
     refine WF.at (addedN_ T (by exact Nat.lt_of_le_of_lt (Nat.le_of_eq hwl) hn) ?_) (by decide)
     with_reducible (refine WS.cons ?_; refine W1.ite ?_; refine WT.boolop ?_; refine WTs.and ?_; refine WT.compare ?_ (hb := by with_unfolding_all rfl); refine WE.callN (by assumption) (by assumption) (by walk_at "k") (by assumption) ?_ (hp := by with_unfolding_all rfl); refine WA.cons ?_ (hp := by with_unfolding_all rfl); refine WE.nLocal (by walk_at "v") (by walk_at "k") ?_; refine WA.cons ?_ (hp := by with_unfolding_all rfl); refine WE.sub ?_; refine WE.nLocal (by walk_at "v") (by walk_at "k") ?_; refine WE.nLocal (by walk_at "v") (by walk_at "k") ?_)
     refine WSb.at (sd := .lst _) rfl trivial (by simp only [SD.ds]; rw [List.getElem?_map, List.getElem?_range hpl]; rfl) (by omega) ?_
     with_reducible (refine WA.nil ?_)
     refine WF.at (times_ (sd := .lst _) (sd2 := .lst _) T rfl trivial rfl trivial (fun q hq => mulOk_right ?_) (by simp only [wor, List.length_map]; exact hl) ?_) (by decide)
     ·have hq2 := (List.of_mem_zip hq).2
      unfold wor at hq2
      obtain ⟨ee, he1, he2⟩ := List.mem_map.mp hq2
      rw [← he2, dot_unit (hlen ee he1) hpl]
      have hpe : pl < ee.length := by rw [hlen ee he1]; exact hpl
      rw [List.getD_eq_getElem?_getD, List.getElem?_eq_getElem hpe]
      exact (hr ee he1).1 _ (List.getElem_mem _)
     with_reducible (refine WE.kInt ?_; refine WB.lt ?_; refine WTr.bool ?_)
     have tk : (List.range n).take (pl + 1) = (List.range n).take pl ++ [pl] := take_next (by rw [List.getElem?_range hpl])
     by_cases hA : dot (wor E w) (wor E (unitR n pl)) < 0
     ·rw [decide_eq_true hA]
      have hO : false = true → (addR w (unitR n pl)).getD (n - 1) 0 < 2 := fun q => by cases q
      with_reducible (refine ite_t ?_; refine WTs.and ?_; refine WT.boolop ?_; refine WTs.or ?_; refine WT.not ?_; refine WT.plain ?_ (he := by with_unfolding_all (intro _; rfl)); refine WE.nLocal (by walk_at "v") (by walk_at "k") ?_; refine WTr.bool ?_; refine ite_nf ?_; refine ite_t ?_; refine WTs.nilAnd ?_; refine ite_t ?_; refine WS.cons ?_; refine W1.ite ?_; refine WT.not ?_; refine WT.plain ?_ (he := by with_unfolding_all (intro _; rfl)); refine WE.callI (by assumption) (by walk_at "k") (by with_unfolding_all rfl) ?_ (hp := by with_unfolding_all rfl); refine WA.cons ?_ (hp := by with_unfolding_all rfl); refine WE.comp ?_ (by with_unfolding_all rfl) (by with_unfolding_all exact freeOk_of (by assumption) (by rfl)) (hs := by with_unfolding_all (intro _; rfl)); refine WIt.of ?_; refine WE.nLocal (by walk_at "v") (by walk_at "k") ?_)
      refine WIv.seq (sd := .ref a _) row hh rfl (List.mem_cons_of_mem _ (List.mem_cons_of_mem _ List.mem_cons_self)) (Turns.map (fun g => .bool (inR g (addR w (unitR n pl)))) (fun _ _ => loc1 rfl) (List.mem_cons_of_mem _ (List.mem_cons_of_mem _ List.mem_cons_self)) (by walk_at "z") (fun g hg fr' cenv hc => ?_) (.inl ?_))
      ·have hc := relab_of hc hs
       have := hfd g hg
       with_reducible (refine WE.callN (by assumption) (by assumption) (by walk_at "k") (by assumption) ?_ (hp := by with_unfolding_all rfl); refine WA.cons ?_ (hp := by with_unfolding_all rfl); refine WE.nLocal (by walk_at "v") (by walk_at "k") ?_; refine WA.cons ?_ (hp := by with_unfolding_all rfl); refine WE.nCell (by walk_at "v") (by walk_at "k") ?_; refine WA.nil ?_)
       refine WF.at (withinN_ T (by exact Nat.lt_of_le_of_lt (Nat.le_of_eq this) hn) ⟨rfl, rfl⟩) (by decide)
      with_reducible (refine WA.nil ?_)
      refine At1.any (sd := .lst _) (l := fd.map fun g => inR g (addR w (unitR n pl))) hh (by simp [SD.ds, Function.comp_def]) trivial ?_
      have eo : (fd.map fun g => inR g (addR w (unitR n pl))).any id = fd.any fun g => inR g (addR w (unitR n pl)) := by simp [List.any_map, Function.comp_def]
      rw [eo]
      by_cases hin : (fd.any fun g => inR g (addR w (unitR n pl))) = true
      ·rw [hin]
       have hc : cand E n false fd w pl = none := by unfold cand; rw [if_neg (fun q => by rw [hin] at q; exact absurd q.2.2 (by simp))]
       with_reducible (refine WTr.bool ?_; refine ite_nt ?_; refine WS.nil ?_; refine WS.nil ?_; refine WS.nil ?_)
       refine ⟨by rw [tk, List.filterMap_append]; simp [hc], by walk_at "v", by walk_at "v", by walk_at "v", by walk_at "v", by repeat first | assumption | refine FwA.skip ?_ rfl⟩
      ·have hin : (fd.any fun g => inR g (addR w (unitR n pl))) = false := by simpa using hin
       rw [hin]
       have hc : cand E n false fd w pl = some (addR w (unitR n pl)) := by unfold cand; rw [if_pos ⟨hA, hO, hin⟩]
       with_reducible (refine WTr.bool ?_; refine ite_nf ?_; refine WS.cons ?_)
       refine W1.setRow (n := 2) r ?_ (by with_unfolding_all rfl)
       with_reducible (refine WE.kBool ?_)
       refine ⟨rfl, ?_⟩
       with_reducible (refine WE.nLocal (by walk_at "v") (by walk_at "k") ?_; refine WE.nCell (by walk_at "v") (by walk_at "k") ?_)
       obtain ⟨gs, hgs⟩ := cands_pre (E := E) (n := n) (once := false) (found := fd) (p := pl) hk
       refine ⟨e, _, _, [], _, rfl, rfl, rfl, ?_, ?_⟩
       ·rw [hgs] at s4
        exact Nat.le_trans foldl_part (Nat.le_trans s4 (by decide))
       ·with_reducible (refine WS.nil ?_; refine WS.nil ?_; refine WS.nil ?_)
        refine ⟨by rw [tk, List.filterMap_append]; simp [hc, List.foldl_append], by walk_at "v", by walk_at "v", by walk_at "v", by walk_at "v", by repeat first | assumption | refine FwA.skip ?_ rfl⟩
     ·rw [decide_eq_false hA]
      have hc : cand E n false fd w pl = none := by unfold cand; rw [if_neg (fun q => hA q.1)]
      with_reducible (refine ite_f ?_; refine ite_f ?_; refine WS.nil ?_; refine WS.nil ?_)
      refine ⟨by rw [tk, List.filterMap_append]; simp [hc], by walk_at "v", by walk_at "v", by walk_at "v", by walk_at "v", by repeat first | assumption | refine FwA.skip ?_ rfl⟩
    ·obtain ⟨rfl, y1, y7, y8, y9, hA⟩ := hL
     with_reducible (refine WS.nil ?_)
     refine ⟨?_, by walk_at "v", by walk_at "v", by repeat first | assumption | refine FwA.skip ?_ rfl⟩
     rw [take_next hk, cands_snoc, List.take_length]
   ·obtain ⟨rfl, y1, y7, hA⟩ := hL
    rw [List.take_length]
    with_reducible (refine WS.cons ?_; refine W1.assign ?_ (by walk_at "k2") (by with_unfolding_all rfl); refine WE.callY (by assumption) (by walk_at "k") (by with_unfolding_all rfl) ?_ (hp := by with_unfolding_all rfl); refine WA.cons ?_ (hp := by with_unfolding_all rfl); refine WE.nLocal (by walk_at "v") (by walk_at "k") ?_; refine WA.nil ?_)
    refine At1.listRows List.mem_cons_self hh (Nat.le_trans s4 (by decide)) (.inl ?_)
    with_reducible (refine WS.nil ?_)
    refine ⟨k - 1, by exact Nat.not_le.mp fun qz => lin [_,_] [] [(1,.nl (.v 0) (.v 1)),(1,.ne (.a (.v 1) (.n 1)) (.v 0))] rfl qz (Nat.sub_add_cancel (Nat.not_lt.mp fun qz => lin [_,_,_] [] [(1,.nt (.v 0) (.n 1)),(1,.nt (.v 1) (.v 2)),(1,.nf (.a (.v 1) (.v 0)) (.v 2))] rfl qz hjK hj)), j + 1, [_, _], by exact Nat.le_antisymm (Nat.not_lt.mp fun qz => lin [_,_,_,_] [] [(1,.nt (.v 0) (.a (.a (.v 1) (.n 1)) (.v 2))),(1,.ne (.a (.v 1) (.v 3)) (.v 0)),(1,.ne (.a (.v 2) (.n 1)) (.v 3))] rfl qz hj (Nat.sub_add_cancel (Nat.not_lt.mp fun qz => lin [_,_,_] [] [(1,.nt (.v 0) (.n 1)),(1,.nt (.v 1) (.v 2)),(1,.nf (.a (.v 1) (.v 0)) (.v 2))] rfl qz hjK hj))) (Nat.not_lt.mp fun qz => lin [_,_,_,_] [] [(1,.nt (.a (.a (.v 0) (.n 1)) (.v 1)) (.v 2)),(1,.nf (.a (.v 0) (.v 3)) (.v 2)),(1,.nl (.v 3) (.a (.v 1) (.n 1)))] rfl qz hj (Nat.sub_le_iff_le_add.mp (Nat.le_refl _))), by rw [e1]; rfl, ?_, by repeat first | assumption | refine FwA.skip ?_ rfl⟩
    rw [e2, e4]; exact lk_here
end
structure Lst (E : List (List Int)) (n : Nat) (out : List (List Int)) : Prop where
 srt : out.Pairwise fun x y => keyLt x y = true
 mem : ∀ s, s ∈ out ↔ Least E n s
 few : out.length ≤ 16000000
theorem Lst.of {E : List (List Int)} {n : Nat} {found out : List (List Int)} (nd : found.Nodup) (hm : ∀ s, s ∈ found ↔ Least E n s) (hl : found.length ≤ 16000000) (hp : out.Perm found) (hs : out.Pairwise keyLe) : Lst E n out where
 srt := by
  have hn : out.Nodup := hp.nodup_iff.mpr nd
  refine (List.pairwise_and_iff.mpr ⟨hs, hn⟩).imp fun {x y} h => ?_
  cases q : keyLt x y with
  | true => rfl
  | false => exact absurd (keyLt_total q h.1) h.2
 mem := fun s => hp.mem_iff.trans (hm s)
 few := by rw [hp.length_eq]; exact hl
theorem sorted_eq : ∀ {l l' : List (List Int)}, l.Pairwise (fun x y => keyLt x y = true) → l'.Pairwise (fun x y => keyLt x y = true) → (∀ s, s ∈ l ↔ s ∈ l') → l = l'
 | [], [], _, _, _ => rfl
 | [], y :: l', _, _, h => by have := (h y).mpr (.head _); cases this
 | x :: l, [], _, _, h => by have := (h x).mp (.head _); cases this
 | x :: l, y :: l', h1, h2, h => by
  obtain ⟨a1, b1⟩ := List.pairwise_cons.mp h1
  obtain ⟨a2, b2⟩ := List.pairwise_cons.mp h2
  have hxy : x = y := by
   rcases List.mem_cons.mp ((h x).mp (.head _)) with e | e
   ·exact e
   ·rcases List.mem_cons.mp ((h y).mpr (.head _)) with e' | e'
    ·exact e'.symm
    ·have h3 := keyLt_trans (a2 x e) (a1 y e')
     rw [keyLt_irrefl] at h3; cases h3
  subst hxy
  have nx : ∀ {m : List (List Int)}, (∀ z ∈ m, keyLt x z = true) → x ∉ m := fun hm hx => by have := hm x hx; rw [keyLt_irrefl] at this; cases this
  rw [sorted_eq b1 b2 fun s => ⟨fun hs => ?_, fun hs => ?_⟩]
  ·rcases List.mem_cons.mp ((h s).mp (.tail _ hs)) with rfl | q
   ·exact absurd hs (nx a1)
   ·exact q
  ·rcases List.mem_cons.mp ((h s).mpr (.tail _ hs)) with rfl | q
   ·exact absurd hs (nx a2)
   ·exact q
theorem Lst.eq {E : List (List Int)} {n : Nat} {l l' : List (List Int)} (a : Lst E n l) (b : Lst E n l') : l = l' := sorted_eq a.srt b.srt fun s => (a.mem s).trans (b.mem s).symm
section
variable {c : Cx} {σ : Sto} {X : Addr → Sto → Prop} {Q : D → Sto → Prop} {K : Frag} {C : Addr}
theorem least_ {E : List (List Int)} {n : Nat} (T : Tp c B07 N07) (S : Ks c K C "System" Bd07) (F : Fits6 E n) (hr : ∀ r ∈ E, small r ∧ r.length < 100) (hl : E.length < 100) (hn : n < 100) (h1 : 1 ≤ n)
  (h : ∀ out : List (List Int), Lst E n out → QL Q (out.map row) σ) : WM c K C (Room 4) "least" [sy C n E] σ Q X := by
 refine WM.by 5 T S rfl (mbind1 fun _ _ _ _ _ => rfl) (by rfl) rfl fun A fr env r hh hs fe => ?_
 have d1 : Dfn c "ranked" := Dfn.by 17 T rfl
 have d2 : Dfn c "fewest" := Dfn.by 28 T rfl
 with_reducible (refine WS.cons ?_; refine W1.ret ?_; refine WE.callN (by assumption) (by assumption) (by walk_at "k") (by assumption) ?_ (hp := by with_unfolding_all rfl); refine WA.cons ?_ (hp := by with_unfolding_all rfl); refine WE.callN (by assumption) (by assumption) (by walk_at "k") (by assumption) ?_ (hp := by with_unfolding_all rfl); refine WA.cons ?_ (hp := by with_unfolding_all rfl); refine WE.fld (by assumption) ?_ (hb := by with_unfolding_all (intro _; rfl)); refine WE.nLocal (by walk_at "v") (by walk_at "k") ?_; refine AtSys.mk ?_; refine AtFld.rules ?_; refine WA.cons ?_ (hp := by with_unfolding_all rfl); refine WE.fld (by assumption) ?_ (hb := by with_unfolding_all (intro _; rfl)); refine WE.nLocal (by walk_at "v") (by walk_at "k") ?_; refine AtSys.mk ?_; refine AtFld.size ?_; refine WA.cons ?_ (hp := by with_unfolding_all rfl); refine WE.kBool ?_; refine WA.nil ?_)
 refine WF.at (fewest_ T F.1 hr hl hn h1 fun found nd hm => ?_) (by decide)
 with_reducible (refine WA.nil ?_)
 have hf := F.2 found nd fun s hs => (hm s).mp hs
 refine WF.at (ranked_ T hf fun out hp hs => h out (.of nd hm (Nat.le_trans (Nat.le_of_lt hf) (by decide)) hp hs)) (by decide)
end
section
variable {c : Cx} {σ : Sto} {X : Addr → Sto → Prop} {Q : D → Sto → Prop} {K : Frag} {C : Addr}
theorem cell_at_ {S : List Int} {k : Int} (T : Tp c B07 N07) (hS : S.length ≤ 63) (hk : 0 ≤ k) (hk2 : k < 2 ^ 60) (h : Q (.int (S.getD k.toNat 0)) σ) : WF c (Room 1) "_law_cell_at" [.lst (S.map .int), .int k] σ Q X := by
 refine WF.by 31 T rfl (bind2 fun _ _ _ _ _ => rfl) (by rfl) rfl fun A fr env r hh hs fe => ?_
 with_reducible (refine WS.cons ?_; refine W1.ite ?_; refine WT.compare ?_ (hb := by with_unfolding_all rfl); refine WE.nLocal (by walk_at "v") (by walk_at "k") ?_; refine WE.callI (by assumption) (by walk_at "k") (by with_unfolding_all rfl) ?_ (hp := by with_unfolding_all rfl); refine WA.cons ?_ (hp := by with_unfolding_all rfl); refine WE.nLocal (by walk_at "v") (by walk_at "k") ?_; refine WA.nil ?_)
 refine At1.len (sd := .lst _) trivial (by walk_at "z") ?_
 with_reducible (refine WB.lt ?_; refine WTr.bool ?_)
 simp only [SD.ds, List.length_map]
 by_cases hl : k < S.length
 ·simp only [hl, decide_true, if_true]
  with_reducible (refine WS.cons ?_; refine W1.ret ?_; refine WE.sub ?_; refine WE.nLocal (by walk_at "v") (by walk_at "k") ?_; refine WE.nLocal (by walk_at "v") (by walk_at "k") ?_)
  have hi : k.toNat < S.length := by omega
  refine WSb.item (sd := .lst _) (d := .int (S.getD k.toNat 0)) trivial (by omega) (by omega) (by simp only [SD.ds, List.length_map]; omega) ?_ h
  have : ¬ k < 0 := by omega
  simp [SD.ds, idx, this, hi, List.getD_eq_getElem?_getD]
 ·simp only [hl, decide_false, Bool.false_eq_true, if_false]
  with_reducible (refine WS.nil ?_; refine WS.cons ?_; refine W1.ret ?_; refine WE.kInt ?_)
  have e : S.getD k.toNat 0 = 0 := by
   have : S.length ≤ k.toNat := by omega
   simp [List.getD_eq_getElem?_getD, this]
  rw [e] at h
  exact h
theorem whole_ {i : Int} (T : Tp c B07 N07) (h : Q (.bool true) σ) : WF c (Room 1) "_law_whole" [.int i] σ Q X := by
 refine WF.by 32 T rfl (bind1 fun _ _ _ _ => rfl) (by rfl) rfl fun A fr env r hh hs fe => ?_
 with_reducible (refine WS.cons ?_; refine W1.ret ?_; refine WE.boolop ?_; refine WBs.and ?_; refine WE.callI (by assumption) (by walk_at "k") (by with_unfolding_all rfl) ?_ (hp := by with_unfolding_all rfl); refine WA.cons ?_ (hp := by with_unfolding_all rfl); refine WE.nLocal (by walk_at "v") (by walk_at "k") ?_; refine WA.cons ?_ (hp := by with_unfolding_all rfl); refine WE.nType (Tp.good (by assumption)) (by walk_at "k") (Tp.bn (by assumption) _ _ (by with_unfolding_all rfl)).1 (Tp.bn (by assumption) _ _ (by with_unfolding_all rfl)).2 ?_; refine WA.nil ?_)
 refine At1.isi (b := true) (by decide) rfl ?_
 with_reducible (refine WTr.bool ?_; refine ite_t ?_; refine WBs.one ?_; refine WE.unary ?_; refine WE.callI (by assumption) (by walk_at "k") (by with_unfolding_all rfl) ?_ (hp := by with_unfolding_all rfl); refine WA.cons ?_ (hp := by with_unfolding_all rfl); refine WE.nLocal (by walk_at "v") (by walk_at "k") ?_; refine WA.cons ?_ (hp := by with_unfolding_all rfl); refine WE.nType (Tp.good (by assumption)) (by walk_at "k") (Tp.bn (by assumption) _ _ (by with_unfolding_all rfl)).1 (Tp.bn (by assumption) _ _ (by with_unfolding_all rfl)).2 ?_; refine WA.nil ?_)
 refine At1.isi (b := false) (by decide) rfl ?_
 with_reducible (refine WU.notB ?_)
 exact h
noncomputable def numS (S : List Int) (k : Int) : Int := if k + 3 < S.length then S.getD (k + 3).toNat 0 else 7 * S.getD 1 0 + S.getD 2 0 * k * k + 13 * k
theorem number_ {S : List Int} {k : Int} (T : Tp c B07 N07) (hS : S.length ≤ 63) (hk : 0 ≤ k) (hk2 : k < 1099511627776) (h : Q (.int (numS S k)) σ) : WF c (Room 2) "_law_number" [.lst (S.map .int), .int k] σ Q X := by
 refine WF.by 33 T rfl (bind2 fun _ _ _ _ _ => rfl) (by rfl) rfl fun A fr env r hh hs fe => ?_
 have d1 : Dfn c "_law_cell_at" := Dfn.by 31 T rfl
 with_reducible (refine WS.cons ?_; refine W1.ite ?_; refine WT.compare ?_ (hb := by with_unfolding_all rfl); refine WE.binop ?_; refine WE.nLocal (by walk_at "v") (by walk_at "k") ?_; refine WE.kInt ?_; refine WB.add ?_; refine WE.callI (by assumption) (by walk_at "k") (by with_unfolding_all rfl) ?_ (hp := by with_unfolding_all rfl); refine WA.cons ?_ (hp := by with_unfolding_all rfl); refine WE.nLocal (by walk_at "v") (by walk_at "k") ?_; refine WA.nil ?_)
 refine At1.len (sd := .lst _) trivial (by walk_at "z") ?_
 with_reducible (refine WB.lt ?_; refine WTr.bool ?_)
 simp only [SD.ds, List.length_map]
 by_cases hl : k + 3 < S.length
 ·rw [decide_eq_true hl]
  unfold numS at h
  rw [if_pos hl] at h
  with_reducible (refine ite_t ?_; refine WS.cons ?_; refine W1.ret ?_; refine WE.sub ?_; refine WE.nLocal (by walk_at "v") (by walk_at "k") ?_; refine WE.binop ?_; refine WE.nLocal (by walk_at "v") (by walk_at "k") ?_; refine WE.kInt ?_; refine WB.add ?_)
  have hi : (k + 3).toNat < S.length := by omega
  refine WSb.item (sd := .lst _) (d := .int (S.getD (k + 3).toNat 0)) trivial (by omega) (by omega) (by simp only [SD.ds, List.length_map]; exact Int.not_lt.mp fun qz => lin [_] [_] [(1,.it (.a (.v 0) (.n 3)) (.g (.c (.v 0)))),(1,.it (.a (.v 0) (.n 3)) (.c (.v 0))),(2,.il (.n 0) (.v 0))] rfl qz hl hk) ?_ h
  have : ¬ k + 3 < 0 := by exact fun qz => lin [] [_] [(1,.it (.a (.v 0) (.n 3)) (.n 0)),(1,.il (.n 0) (.v 0))] rfl qz hk
  simp [SD.ds, idx, this, hi, List.getD_eq_getElem?_getD]
 ·rw [decide_eq_false hl]
  unfold numS at h
  rw [if_neg hl] at h
  with_reducible (refine ite_f ?_; refine WS.nil ?_; refine WS.cons ?_; refine W1.ret ?_; refine WE.binop ?_; refine WE.binop ?_; refine WE.binop ?_; refine WE.kInt ?_; refine WE.callN (by assumption) (by assumption) (by walk_at "k") (by assumption) ?_ (hp := by with_unfolding_all rfl); refine WA.cons ?_ (hp := by with_unfolding_all rfl); refine WE.nLocal (by walk_at "v") (by walk_at "k") ?_; refine WA.cons ?_ (hp := by with_unfolding_all rfl); refine WE.kInt ?_; refine WA.nil ?_)
  refine WF.at (cell_at_ T hS (by decide) (by decide) ?_) (by decide)
  refine WB.mul (mulOk_left (by decide)) ?_
  with_reducible (refine WE.binop ?_; refine WE.binop ?_; refine WE.callN (by assumption) (by assumption) (by walk_at "k") (by assumption) ?_ (hp := by with_unfolding_all rfl); refine WA.cons ?_ (hp := by with_unfolding_all rfl); refine WE.nLocal (by walk_at "v") (by walk_at "k") ?_; refine WA.cons ?_ (hp := by with_unfolding_all rfl); refine WE.kInt ?_; refine WA.nil ?_)
  refine WF.at (cell_at_ T hS (by decide) (by decide) ?_) (by decide)
  with_reducible (refine WE.nLocal (by walk_at "v") (by walk_at "k") ?_)
  refine WB.mul (mulOk_right (by omega)) ?_
  with_reducible (refine WE.nLocal (by walk_at "v") (by walk_at "k") ?_)
  refine WB.mul (mulOk_right (by omega)) ?_
  with_reducible (refine WB.add ?_; refine WE.binop ?_; refine WE.kInt ?_; refine WE.nLocal (by walk_at "v") (by walk_at "k") ?_)
  refine WB.mul (mulOk_left (by decide)) ?_
  with_reducible (refine WB.add ?_)
  exact h
noncomputable def szS (S : List Int) : Nat := if S.getD 0 0 / 12 % 24 = 7 then 5 else (1 + S.getD 0 0 % 4).toNat
theorem szS_ok (S : List Int) : 1 ≤ szS S ∧ szS S ≤ 5 := by
 unfold szS
 split <;> omega
theorem size_ {S : List Int} (T : Tp c B07 N07) (hS : S.length ≤ 63) (h : Q (.int (szS S)) σ) : WF c (Room 2) "_law_size" [.lst (S.map .int)] σ Q X := by
 refine WF.by 34 T rfl (bind1 fun _ _ _ _ => rfl) (by rfl) rfl fun A fr env r hh hs fe => ?_
 have d1 : Dfn c "_law_cell_at" := Dfn.by 31 T rfl
 unfold szS at h
 with_reducible (refine WS.cons ?_; refine W1.assign ?_ (by walk_at "k2") (by with_unfolding_all rfl); refine WE.callN (by assumption) (by assumption) (by walk_at "k") (by assumption) ?_ (hp := by with_unfolding_all rfl); refine WA.cons ?_ (hp := by with_unfolding_all rfl); refine WE.nLocal (by walk_at "v") (by walk_at "k") ?_; refine WA.cons ?_ (hp := by with_unfolding_all rfl); refine WE.kInt ?_; refine WA.nil ?_)
 refine WF.at (cell_at_ T hS (by decide) (by decide) ?_) (by decide)
 with_reducible (refine WS.cons ?_; refine W1.ite ?_; refine WT.compare ?_ (hb := by with_unfolding_all rfl); refine WE.binop ?_; refine WE.binop ?_; refine WE.nLocal (by walk_at "v") (by walk_at "k") ?_; refine WE.kInt ?_; refine WB.fdivE (by with_unfolding_all decide) (by with_unfolding_all decide) ?_; refine WE.kInt ?_; refine WB.modE (by with_unfolding_all decide) (by with_unfolding_all decide) ?_; refine WE.kInt ?_; refine WB.eqI ?_; refine WTr.bool ?_)
 simp only [Int.toNat_zero]
 by_cases h7 : S.getD 0 0 / 12 % 24 = 7
 ·rw [show (S.getD 0 0 / 12 % 24 == 7) = true by simpa using h7]
  rw [if_pos h7] at h
  with_reducible (refine ite_t ?_; refine WS.cons ?_; refine W1.ret ?_; refine WE.kInt ?_)
  exact h
 ·rw [show (S.getD 0 0 / 12 % 24 == 7) = false by simpa using h7]
  rw [if_neg h7] at h
  with_reducible (refine ite_f ?_; refine WS.nil ?_; refine WS.cons ?_; refine W1.ret ?_; refine WE.binop ?_; refine WE.kInt ?_; refine WE.binop ?_; refine WE.nLocal (by walk_at "v") (by walk_at "k") ?_; refine WE.kInt ?_; refine WB.modE (by with_unfolding_all decide) (by with_unfolding_all decide) ?_; refine WB.add ?_)
  rw [show (((1 + S.getD 0 0 % 4).toNat : Nat) : Int) = 1 + S.getD 0 0 % 4 by omega] at h
  exact h
theorem mostN_ok (n m : Nat) : 1 ≤ mostN n m ∧ mostN n m ≤ 20 := by
 unfold mostN
 repeat' split
 all_goals omega
theorem most_ {n k : Nat} (T : Tp c B07 N07) (hk : k ≤ 3) (h : Q (.int (mostN n k)) σ) : WF c (Room 1) "_law_most" [.int n, .int k] σ Q X := by
 refine WF.by 35 T rfl (bind2 fun _ _ _ _ _ => rfl) (by rfl) rfl fun A fr env r hh hs fe => ?_
 unfold mostN at h
 with_reducible (refine WS.cons ?_; refine W1.ite ?_; refine WT.compare ?_ (hb := by with_unfolding_all rfl); refine WE.nLocal (by walk_at "v") (by walk_at "k") ?_; refine WE.kInt ?_; refine WB.lt ?_; refine WTr.bool ?_)
 by_cases h3 : n < 3
 ·rw [decide_eq_true (by exact Int.not_le.mp fun qz => lin [_] [] [(1,.il (.n 3) (.c (.v 0))),(1,.nt (.v 0) (.n 3))] rfl qz h3)]
  rw [if_pos h3] at h
  with_reducible (refine ite_t ?_; refine WS.cons ?_; refine W1.ret ?_; refine WE.kInt ?_)
  exact h
 rw [decide_eq_false (by exact fun qz => lin [_] [] [(1,.it (.c (.v 0)) (.n 3)),(1,.nl (.n 3) (.v 0))] rfl qz (Nat.not_lt.mp h3))]
 rw [if_neg h3] at h
 with_reducible (refine ite_f ?_; refine WS.nil ?_; refine WS.cons ?_; refine W1.ite ?_; refine WT.compare ?_ (hb := by with_unfolding_all rfl); refine WE.nLocal (by walk_at "v") (by walk_at "k") ?_; refine WE.kInt ?_; refine WB.eqI ?_; refine WTr.bool ?_)
 by_cases h4 : n = 3
 ·rw [show ((n : Int) == 3) = true by simp [h4]]
  rw [if_pos h4] at h
  with_reducible (refine ite_t ?_; refine WS.cons ?_; refine W1.ret ?_; refine WE.sub ?_; refine WE.list ?_; refine WA.cons ?_ (hp := by with_unfolding_all rfl); refine WE.kInt ?_; refine WA.cons ?_ (hp := by with_unfolding_all rfl); refine WE.kInt ?_; refine WA.cons ?_ (hp := by with_unfolding_all rfl); refine WE.kInt ?_; refine WA.cons ?_ (hp := by with_unfolding_all rfl); refine WE.kInt ?_; refine WA.nil ?_)
  refine ⟨by simp [sizeLine], .inl ?_⟩
  with_reducible (refine WE.nLocal (by walk_at "v") (by walk_at "k") ?_)
  refine WSb.at (sd := .lst _) (d := .int (if k < 2 then 5 else 2)) rfl trivial ?_ (by omega) h
  match k, hk with
  | 0, _ => rfl
  | 1, _ => rfl
  | 2, _ => rfl
  | 3, _ => rfl
 ·rw [show ((n : Int) == 3) = false by simp; omega]
  rw [if_neg h4] at h
  with_reducible (refine ite_f ?_; refine WS.nil ?_; refine WS.cons ?_; refine W1.ret ?_; refine WE.sub ?_; refine WE.list ?_; refine WA.cons ?_ (hp := by with_unfolding_all rfl); refine WE.kInt ?_; refine WA.cons ?_ (hp := by with_unfolding_all rfl); refine WE.kInt ?_; refine WA.cons ?_ (hp := by with_unfolding_all rfl); refine WE.kInt ?_; refine WA.cons ?_ (hp := by with_unfolding_all rfl); refine WE.kInt ?_; refine WA.nil ?_)
  refine ⟨by simp [sizeLine], .inl ?_⟩
  with_reducible (refine WE.nLocal (by walk_at "v") (by walk_at "k") ?_)
  refine WSb.at (sd := .lst _) (d := .int (if k < 2 then 2 else 1)) rfl trivial ?_ (by omega) h
  match k, hk with
  | 0, _ => rfl
  | 1, _ => rfl
  | 2, _ => rfl
  | 3, _ => rfl
noncomputable def manyS (S : List Int) : Nat := [0, 1, 1, 1, 2, 1, 2, 3].getD (S.getD 0 0 / 4 % 3 + S.getD 1 0 % 6).toNat 0
theorem manyS_ok (S : List Int) : manyS S ≤ 3 := by
 unfold manyS
 generalize (S.getD 0 0 / 4 % 3 + S.getD 1 0 % 6).toNat = i
 match i with
 | 0 => decide
 | 1 => decide
 | 2 => decide
 | 3 => decide
 | 4 => decide
 | 5 => decide
 | 6 => decide
 | 7 => decide
 | i + 8 => simp
theorem system_ {S : List Int} (T : Tp c B07 N07) (hS : S.length ≤ 63)
  (h : ∀ rows : List (List Int), rows.length = manyS S → (∀ r ∈ rows, r.length = szS S ∧ ∀ x ∈ r, -(mostN (szS S) (manyS S)) ≤ x ∧ x ≤ mostN (szS S) (manyS S)) → Q (rl rows) σ) : WF c (Room 4) "_law_system" [.lst (S.map .int)] σ Q X := by
 refine WF.by 36 T rfl (bind1 fun _ _ _ _ => rfl) (by rfl) rfl fun A fr env r hh hs fe => ?_
 have d1 : Dfn c "_law_cell_at" := Dfn.by 31 T rfl
 have d2 : Dfn c "_law_size" := Dfn.by 34 T rfl
 have d3 : Dfn c "_law_most" := Dfn.by 35 T rfl
 have d4 : Dfn c "_law_number" := Dfn.by 33 T rfl
 have hn := szS_ok S
 have hm := manyS_ok S
 generalize hN : szS S = n at h hn
 with_reducible (refine WS.cons ?_; refine W1.assign ?_ (by walk_at "k2") (by with_unfolding_all rfl); refine WE.callN (by assumption) (by assumption) (by walk_at "k") (by assumption) ?_ (hp := by with_unfolding_all rfl); refine WA.cons ?_ (hp := by with_unfolding_all rfl); refine WE.nCell (by walk_at "v") (by walk_at "k") ?_; refine WA.nil ?_)
 refine WF.at (size_ T hS ?_) (by decide)
 rw [hN]
 with_reducible (refine WS.cons ?_; refine W1.assign ?_ (by walk_at "k2") (by with_unfolding_all rfl); refine WE.sub ?_; refine WE.list ?_; refine WA.cons ?_ (hp := by with_unfolding_all rfl); refine WE.kInt ?_; refine WA.cons ?_ (hp := by with_unfolding_all rfl); refine WE.kInt ?_; refine WA.cons ?_ (hp := by with_unfolding_all rfl); refine WE.kInt ?_; refine WA.cons ?_ (hp := by with_unfolding_all rfl); refine WE.kInt ?_; refine WA.cons ?_ (hp := by with_unfolding_all rfl); refine WE.kInt ?_; refine WA.cons ?_ (hp := by with_unfolding_all rfl); refine WE.kInt ?_; refine WA.cons ?_ (hp := by with_unfolding_all rfl); refine WE.kInt ?_; refine WA.cons ?_ (hp := by with_unfolding_all rfl); refine WE.kInt ?_; refine WA.nil ?_)
 refine ⟨by simp [sizeLine], .inl ?_⟩
 with_reducible (refine WE.binop ?_; refine WE.binop ?_; refine WE.binop ?_; refine WE.callN (by assumption) (by assumption) (by walk_at "k") (by assumption) ?_ (hp := by with_unfolding_all rfl); refine WA.cons ?_ (hp := by with_unfolding_all rfl); refine WE.nCell (by walk_at "v") (by walk_at "k") ?_; refine WA.cons ?_ (hp := by with_unfolding_all rfl); refine WE.kInt ?_; refine WA.nil ?_)
 refine WF.at (cell_at_ T hS (by decide) (by decide) ?_) (by decide)
 with_reducible (refine WE.kInt ?_; refine WB.fdivE (by with_unfolding_all decide) (by with_unfolding_all decide) ?_; refine WE.kInt ?_; refine WB.modE (by with_unfolding_all decide) (by with_unfolding_all decide) ?_; refine WE.binop ?_; refine WE.callN (by assumption) (by assumption) (by walk_at "k") (by assumption) ?_ (hp := by with_unfolding_all rfl); refine WA.cons ?_ (hp := by with_unfolding_all rfl); refine WE.nCell (by walk_at "v") (by walk_at "k") ?_; refine WA.cons ?_ (hp := by with_unfolding_all rfl); refine WE.kInt ?_; refine WA.nil ?_)
 refine WF.at (cell_at_ T hS (by decide) (by decide) ?_) (by decide)
 with_reducible (refine WE.kInt ?_; refine WB.modE (by with_unfolding_all decide) (by with_unfolding_all decide) ?_; refine WB.add ?_)
 refine WSb.at (sd := .lst _) (d := .int (manyS S)) (k := (S.getD 0 0 / 4 % 3 + S.getD 1 0 % 6).toNat) ?_ trivial ?_ (by omega) ?_
 ·show S.getD 0 0 / 4 % 3 + S.getD 1 0 % 6 = _
  omega
 ·unfold manyS
  have hi : (S.getD 0 0 / 4 % 3 + S.getD 1 0 % 6).toNat < 8 := by omega
  generalize (S.getD 0 0 / 4 % 3 + S.getD 1 0 % 6).toNat = i at hi ⊢
  match i, hi with
  | 0, _ => rfl
  | 1, _ => rfl
  | 2, _ => rfl
  | 3, _ => rfl
  | 4, _ => rfl
  | 5, _ => rfl
  | 6, _ => rfl
  | 7, _ => rfl
 generalize manyS S = k at h hm
 with_reducible (refine WS.cons ?_; refine W1.assign ?_ (by walk_at "k2") (by with_unfolding_all rfl); refine WE.callN (by assumption) (by assumption) (by walk_at "k") (by assumption) ?_ (hp := by with_unfolding_all rfl); refine WA.cons ?_ (hp := by with_unfolding_all rfl); refine WE.nCell (by walk_at "v") (by walk_at "k") ?_; refine WA.cons ?_ (hp := by with_unfolding_all rfl); refine WE.nLocal (by walk_at "v") (by walk_at "k") ?_; refine WA.nil ?_)
 refine WF.at (most_ T hm ?_) (by decide)
 have hq := mostN_ok n k
 generalize mostN n k = q at h hq
 with_reducible (refine WS.cons ?_; refine W1.assign ?_ (by walk_at "k2") (by with_unfolding_all rfl); refine WE.list ?_; refine WA.nil ?_)
 refine ⟨by simp [sizeLine], .inr fun a ha => ?_⟩
 with_reducible (refine WS.cons ?_; refine W1.forL (by assumption) ?_ (hs := by with_unfolding_all (intro _; rfl)); refine WIt.range (by assumption) (by assumption) (by walk_at "k") (by with_unfolding_all rfl) ?_ (hp := by with_unfolding_all rfl); refine WE.nLocal (by walk_at "v") (by walk_at "k") ?_)
 refine ⟨_, rfl, by omega, by omega, ?_⟩
 rw [Int.toNat_natCast]
 refine Loop.of (fun j m' σ' => ∃ rows : List (List Int), rows.length = j ∧ j ≤ k ∧ (∀ r ∈ rows, r.length = n ∧ ∀ x ∈ r, -q ≤ x ∧ x ≤ q) ∧ σ' = (a, .lst (rows.map il)) :: σ ∧ has m' "_law_found" (.ref a) ∧ has m' "_law_most_here" (.int q) ∧ has m' "_law_size_here" (.int n) ∧ has m' "_law_script" (.lst (S.map D.int)))
  (fun _ _ => kinds1 (by walk_at "k2")) ⟨[], rfl, Nat.zero_le _, fun _ h => (by cases h), rfl, rfl, rfl, rfl, rfl⟩ (fun _ _ _ _ => trivial) (fun j i m' σ' hi hL fr' => ?_) (fun m' σ' hL => ?_)
 ·obtain ⟨rows, rfl, hj, hr, rfl, e1, e2, e3, e4⟩ := hL
  have hi' : i = rows.length ∧ i < k := by
   obtain ⟨h1, h2⟩ := List.getElem?_eq_some_iff.mp hi
   simp at h1 h2
   exact ⟨(h2).symm, Nat.lt_of_le_of_lt (Nat.le_of_eq h2.symm) h1⟩
  obtain ⟨rfl, hik⟩ := hi'
  with_reducible (refine WS.cons ?_; refine W1.assignC (by assumption) ?_ (by with_unfolding_all rfl) (by with_unfolding_all rfl) (by with_unfolding_all rfl) (hs := by with_unfolding_all (intro _; rfl)); refine WIt.range (by assumption) (by assumption) (by walk_at "k") (by with_unfolding_all rfl) ?_ (hp := by with_unfolding_all rfl); refine WE.nCell (by walk_at "v") (by walk_at "k") ?_)
  refine ⟨_, rfl, by omega, by omega, ?_⟩
  rw [Int.toNat_natCast]
  refine Turns.map (fun p : Nat => .int (numS S ((rows.length : Int) * n + p))) (fun _ _ => loc1 rfl) trivial (by walk_at "z") (fun p hp fr' cenv hc => ?_) (.inl ?_)
  ·have hc := relab_of hc hs
   have hp' := List.mem_range.mp hp
   with_reducible (refine WE.callN (by assumption) (by assumption) (by walk_at "k") (by assumption) ?_ (hp := by with_unfolding_all rfl); refine WA.cons ?_ (hp := by with_unfolding_all rfl); refine WE.nCell (by walk_at "v") (by walk_at "k") ?_; refine WA.cons ?_ (hp := by with_unfolding_all rfl); refine WE.binop ?_; refine WE.binop ?_; refine WE.nCell (by walk_at "v") (by walk_at "k") ?_; refine WE.nCell (by walk_at "v") (by walk_at "k") ?_)
   refine WB.mul (mulOk_left (by omega)) ?_
   with_reducible (refine WE.nLocal (by walk_at "v") (by walk_at "k") ?_; refine WB.add ?_; refine WA.nil ?_)
   have b1 : (rows.length : Int) * n ≤ 15 := by
    have : (rows.length : Int) * n ≤ 3 * 5 := Int.mul_le_mul (by exact Int.not_lt.mp fun qz => lin [_,_] [] [(1,.it (.n 3) (.c (.v 0))),(1,.nt (.v 0) (.v 1)),(1,.nl (.v 1) (.n 3))] rfl qz hik hm) (by exact Int.not_lt.mp fun qz => lin [_] [] [(1,.it (.n 5) (.c (.v 0))),(1,.nl (.v 0) (.n 5))] rfl qz hn.2) (by exact Int.not_lt.mp fun qz => lin [_] [] [(1,.it (.c (.v 0)) (.n 0)),(1,.nl (.n 1) (.v 0))] rfl qz hn.1) (by exact Int.le_of_lt (by decide))
    exact Int.not_lt.mp fun qz => lin [] [_] [(1,.it (.n 15) (.v 0)),(1,.il (.v 0) (.m 3 (.n 5)))] rfl qz this
   have b0 : 0 ≤ (rows.length : Int) * n := Int.mul_nonneg (by exact Int.not_lt.mp fun qz => lin [_] [] [(1,.it (.c (.v 0)) (.n 0))] rfl qz) (by exact Int.not_lt.mp fun qz => lin [_] [] [(1,.it (.c (.v 0)) (.n 0)),(1,.nl (.n 1) (.v 0))] rfl qz hn.1)
   refine WF.at (number_ T hS (by exact Int.not_lt.mp fun qz => lin [_] [_] [(1,.it (.a (.v 0) (.c (.v 0))) (.n 0)),(1,.il (.n 0) (.v 0))] rfl qz b0) (by omega) ?_) (by decide)
   exact ⟨rfl, rfl⟩
  with_reducible (refine WS.cons ?_; refine W1.expr ?_ (by with_unfolding_all rfl); refine WE.methL PySem.F.slot_list_append (by with_unfolding_all rfl) ?_ (hp := by with_unfolding_all rfl) (hb := by with_unfolding_all (intro _; rfl)) (hl := by with_unfolding_all rfl) (hn := by with_unfolding_all rfl); refine WE.nLocal (by walk_at "v") (by walk_at "k") ?_)
  refine ⟨.ref a _, rfl, rfl, List.mem_cons_self, ?_⟩
  with_reducible (refine WA.cons ?_ (hp := by with_unfolding_all rfl); refine WE.comp ?_ (by with_unfolding_all rfl) (by with_unfolding_all exact freeOk_of (by assumption) (by rfl)) (hs := by with_unfolding_all (intro _; rfl)); refine WIt.of ?_; refine WE.nLocal (by walk_at "v") (by walk_at "k") ?_)
  refine WIv.seq (sd := .lst _) (fun p : Nat => .int (numS S ((rows.length : Int) * n + p))) hh rfl trivial (Turns.map (fun p => .int (numS S ((rows.length : Int) * n + p) % (2 * q + 1) - q)) (fun _ _ => loc1 rfl) trivial (by walk_at "z") (fun p hp fr' cenv hc => ?_) (.inl ?_))
  ·have hc := relab_of hc hs
   with_reducible (refine WE.binop ?_; refine WE.binop ?_; refine WE.nLocal (by walk_at "v") (by walk_at "k") ?_; refine WE.binop ?_; refine WE.binop ?_; refine WE.kInt ?_; refine WE.nCell (by walk_at "v") (by walk_at "k") ?_)
   refine WB.mul (mulOk_left (by decide)) ?_
   with_reducible (refine WE.kInt ?_; refine WB.add ?_)
   refine WB.modE (by exact Int.not_le.mp fun qz => lin [] [_] [(1,.il (.a (.m 2 (.v 0)) (.n 1)) (.n 0)),(2,.il (.n 1) (.v 0))] rfl qz hq.1) (by omega) ?_
   with_reducible (refine WE.nCell (by walk_at "v") (by walk_at "k") ?_; refine WB.sub ?_)
   exact ⟨rfl, rfl⟩
  with_reducible (refine WA.nil ?_)
  refine At1.append (σ1 := []) (by walk_at "z") ?_
  with_reducible (refine WS.nil ?_)
  refine ⟨rows ++ [(List.range n).map fun (p : Nat) => numS S ((rows.length : Int) * n + p) % (2 * q + 1) - q], by simp, hik, fun r hr' => ?_, by simp [Function.comp_def], by walk_at "v", by walk_at "v", by walk_at "v", by walk_at "v"⟩
  rcases List.mem_append.mp hr' with z | z
  ·exact hr r z
  ·rw [List.mem_singleton.mp z]
   refine ⟨by simp, fun x hx => ?_⟩
   obtain ⟨p, _, rfl⟩ := List.mem_map.mp hx
   have h1 := Int.emod_nonneg (numS S ((rows.length : Int) * n + p)) (show 2 * q + 1 ≠ 0 by exact fun qz => lin [] [_] [(1,.ie (.a (.m 2 (.v 0)) (.n 1)) (.n 0)),(2,.il (.n 1) (.v 0))] rfl qz hq.1)
   have h2 := Int.emod_lt_of_pos (numS S ((rows.length : Int) * n + p)) (show 0 < 2 * q + 1 by exact Int.not_le.mp fun qz => lin [] [_] [(1,.il (.a (.m 2 (.v 0)) (.n 1)) (.n 0)),(2,.il (.n 1) (.v 0))] rfl qz hq.1)
   exact ⟨Int.not_lt.mp fun qz => lin [] [_,_] [(1,.it (.s (.v 0) (.v 1)) (.g (.v 1))),(1,.il (.n 0) (.v 0))] rfl qz h1, Int.not_lt.mp fun qz => lin [] [_,_] [(1,.it (.v 0) (.s (.v 1) (.v 0))),(1,.it (.v 1) (.a (.m 2 (.v 0)) (.n 1)))] rfl qz h2⟩
 ·obtain ⟨rows, h1, h2, hr, rfl, e1, e2, e3, e4⟩ := hL
  rw [List.length_range] at h1
  refine WS.cons (W1.ret (WE.freeze ?_))
  with_reducible (refine WE.nLocal (by walk_at "v") (by walk_at "k") ?_)
  exact ⟨a, _, [], σ, rfl, rfl, h rows h1 hr⟩
end
section
variable {c : Cx} {σ : Sto} {X : Addr → Sto → Prop} {Q : D → Sto → Prop} {K : Frag} {C : Addr}
theorem law_worth_ {rows : List (List Int)} {xs : List Int} (T : Tp c B07 N07) (hr : ∀ r ∈ rows, small r ∧ r.length < 100) (hl : rows.length < 100) (h : Q (.lst (rows.map fun r => .int (dot r xs))) σ) : WF c (Room 1) "_law_worth" [rl rows, row xs] σ Q X := by
 refine WF.by 37 T rfl (bind2 fun _ _ _ _ _ => rfl) (by rfl) rfl fun A fr env r hh hs fe => ?_
 with_reducible (refine WS.cons ?_; refine W1.assign ?_ (by walk_at "k2") (by with_unfolding_all rfl); refine WE.list ?_; refine WA.nil ?_)
 refine ⟨by simp [sizeLine], .inr fun a ha => ?_⟩
 with_reducible (refine WS.cons ?_; refine W1.forL (by assumption) ?_ (hs := by with_unfolding_all (intro _; rfl)); refine WIt.of ?_; refine WE.nLocal (by walk_at "v") (by walk_at "k") ?_)
 refine WIv.seq (sd := .lst _) il hh rfl trivial ?_
 refine Loop.of (fun k m' σ' => k ≤ rows.length ∧ σ' = (a, .lst ((rows.take k).map fun r => .int (dot r xs))) :: σ ∧ has m' "_law_found" (.ref a) ∧ has m' "_law_row_here" (row xs)) (fun _ _ => kinds1 (by walk_at "k2")) ⟨Nat.zero_le _, by simp, rfl, rfl⟩ (fun _ _ _ _ => trivial) (fun k w m' σ' hk hL fr' => ?_) (fun m' σ' hL => ?_)
 ·obtain ⟨hk1, rfl, e1, e2⟩ := hL
  have hw := List.mem_of_getElem? hk
  have hk2 : k < rows.length := (List.getElem?_eq_some_iff.mp hk).1
  with_reducible (refine WS.cons ?_; refine W1.assign ?_ (by walk_at "k2") (by with_unfolding_all rfl); refine WE.kInt ?_; refine WS.cons ?_; refine W1.forL (by assumption) ?_ (hs := by with_unfolding_all (intro _; rfl)); refine WIt.zipX (by assumption) (by assumption) (by walk_at "k") (by with_unfolding_all rfl) ?_ (hp := by with_unfolding_all rfl); refine WE.nLocal (by walk_at "v") (by walk_at "k") ?_; refine WE.nLocal (by walk_at "v") (by walk_at "k") ?_)
  refine ⟨_, _, .lst _, .tup _, w, xs, D.int, D.int, rfl, rfl, rfl, rfl, trivial, trivial, ?_⟩
  refine Loop.of (fun j m'' σ' => σ' = (a, .lst ((rows.take k).map fun r => .int (dot r xs))) :: σ ∧ has m'' "_law_found" (.ref a) ∧ has m'' "_law_row_here" (row xs) ∧ has m'' "_law_worth_here" (.int ((((w.zip xs).take j).map fun q => q.1 * q.2).sum))) (fun _ _ => kinds2 (by walk_at "k2") (by walk_at "k2")) ⟨rfl, by walk_at "v", by walk_at "v", by simp; walk_at "v"⟩ (fun _ _ _ _ => ⟨trivial, trivial⟩) (fun j q m'' σ' hq hL fr' => ?_) (fun m'' σ' hL => ?_)
  ·obtain ⟨rfl, f1, f2, f3⟩ := hL
   have hq' := (List.of_mem_zip (List.mem_of_getElem? hq)).1
   with_reducible (refine WS.cons ?_; refine W1.assign ?_ (by walk_at "k2") (by with_unfolding_all rfl); refine WE.binop ?_; refine WE.nLocal (by walk_at "v") (by walk_at "k") ?_; refine WE.binop ?_; refine WE.nLocal (by walk_at "v") (by walk_at "k") ?_; refine WE.nLocal (by walk_at "v") (by walk_at "k") ?_)
   refine WB.mul (mulOk_left ((hr w hw).1 _ hq')) ?_
   with_reducible (refine WB.add ?_; refine WS.nil ?_)
   refine ⟨rfl, by walk_at "v", by walk_at "v", ?_⟩
   rw [take_next hq, List.map_append, List.sum_append, List.map_singleton, List.sum_singleton]
   exact lk_here
  ·obtain ⟨rfl, f1, f2, f3⟩ := hL
   rw [List.take_length] at f3
   with_reducible (refine WS.cons ?_; refine W1.expr ?_ (by with_unfolding_all rfl); refine WE.methL PySem.F.slot_list_append (by with_unfolding_all rfl) ?_ (hp := by with_unfolding_all rfl) (hb := by with_unfolding_all (intro _; rfl)) (hl := by with_unfolding_all rfl) (hn := by with_unfolding_all rfl); refine WE.nLocal (by walk_at "v") (by walk_at "k") ?_)
   refine ⟨.ref a _, rfl, rfl, List.mem_cons_self, ?_⟩
   with_reducible (refine WA.cons ?_ (hp := by with_unfolding_all rfl); refine WE.nLocal (by walk_at "v") (by walk_at "k") ?_; refine WA.nil ?_)
   refine At1.append (σ1 := []) (by walk_at "z") ?_
   with_reducible (refine WS.nil ?_)
   refine ⟨hk2, ?_, by walk_at "v", by walk_at "v"⟩
   rw [take_next hk, List.map_append]
   rfl
 ·obtain ⟨_, rfl, e1, e2⟩ := hL
  rw [List.take_length]
  refine WS.cons (W1.ret (WE.freeze ?_))
  with_reducible (refine WE.nLocal (by walk_at "v") (by walk_at "k") ?_)
  exact ⟨a, _, [], σ, rfl, rfl, h⟩
theorem is_even_ {rows : List (List Int)} {xs : List Int} (T : Tp c B07 N07) (hr : ∀ r ∈ rows, small r ∧ r.length < 100) (hl : rows.length < 100) (h : Q (.bool (rows.all fun r => dot r xs == 0)) σ) : WF c (Room 2) "_law_is_even" [rl rows, row xs] σ Q X := by
 refine WF.by 38 T rfl (bind2 fun _ _ _ _ _ => rfl) (by rfl) rfl fun A fr env r hh hs fe => ?_
 have d1 : Dfn c "_law_worth" := Dfn.by 37 T rfl
 with_reducible (refine WS.cons ?_; refine W1.forL (by assumption) ?_ (hs := by with_unfolding_all (intro _; rfl)); refine WIt.of ?_; refine WE.callN (by assumption) (by assumption) (by walk_at "k") (by assumption) ?_ (hp := by with_unfolding_all rfl); refine WA.cons ?_ (hp := by with_unfolding_all rfl); refine WE.nLocal (by walk_at "v") (by walk_at "k") ?_; refine WA.cons ?_ (hp := by with_unfolding_all rfl); refine WE.nLocal (by walk_at "v") (by walk_at "k") ?_; refine WA.nil ?_)
 refine WF.at (law_worth_ T hr hl ?_) (by decide)
 refine WIv.seq (sd := .lst _) (fun r => .int (dot r xs)) hh rfl trivial ?_
 refine Loop.of (fun k m' σ' => σ' = σ ∧ ∀ r ∈ rows.take k, dot r xs = 0) (fun _ _ => kinds1 (by walk_at "k2")) ⟨rfl, fun _ h => (by simp at h)⟩ (fun _ _ _ _ => trivial) (fun k w m' σ' hk hL fr' => ?_) (fun m' σ' hL => ?_)
 ·obtain ⟨rfl, e1⟩ := hL
  have hw := List.mem_of_getElem? hk
  with_reducible (refine WS.cons ?_; refine W1.ite ?_; refine WT.compare ?_ (hb := by with_unfolding_all rfl); refine WE.nLocal (by walk_at "v") (by walk_at "k") ?_; refine WE.kInt ?_; refine WB.neI ?_; refine WTr.bool ?_)
  by_cases h0 : dot w xs = 0
  ·rw [show (dot w xs != 0) = false by simp [h0]]
   with_reducible (refine ite_f ?_; refine WS.nil ?_; refine WS.nil ?_)
   refine ⟨rfl, fun r hr' => ?_⟩
   rw [take_next hk] at hr'
   rcases List.mem_append.mp hr' with z | z
   ·exact e1 r z
   ·rw [List.mem_singleton.mp z]; exact h0
  ·rw [show (dot w xs != 0) = true by simp [h0]]
   with_reducible (refine ite_t ?_; refine WS.cons ?_; refine W1.ret ?_; refine WE.kBool ?_)
   have : rows.all (fun r => dot r xs == 0) = false := by
    rw [List.all_eq_false]
    exact ⟨w, hw, by simp [h0]⟩
   rw [this] at h
   exact h
 ·obtain ⟨rfl, e1⟩ := hL
  rw [List.take_length] at e1
  with_reducible (refine WS.cons ?_; refine W1.ret ?_; refine WE.kBool ?_)
  have : rows.all (fun r => dot r xs == 0) = true := by
   rw [List.all_eq_true]
   intro r hr'; simp [e1 r hr']
  rw [this] at h
  exact h
theorem okW_of {n : Nat} {q : Int} {r : List Int} (h : r.length = n ∧ ∀ x ∈ r, -q ≤ x ∧ x ≤ q) (hq : q ≤ 20) : okW n r := ⟨h.1, fun x hx => by have := h.2 x hx; exact ⟨Int.not_lt.mp fun qz => lin [] [_,_] [(1,.it (.v 0) (.g (.n 20))),(1,.il (.g (.v 1)) (.v 0)),(1,.il (.v 1) (.n 20))] rfl qz this.1 hq, Int.le_trans this.2 hq⟩⟩
theorem small_of {n : Nat} {r : List Int} (h : okW n r) (hn : n ≤ 5) : small r ∧ r.length < 100 := ⟨fun x hx => by have := h.2 x hx; omega, by have := h.1; exact Nat.lt_of_le_of_lt (Nat.le_trans (Nat.le_of_eq this) hn) (by decide)⟩
noncomputable def lstW (rows : List (List Int)) : List (SD × List Int) := rows.map fun r => (SD.lst (r.map D.int), r)
theorem lstW_d {rows : List (List Int)} : rows.map il = (lstW rows).map fun w => w.1.d := by unfold lstW; rw [List.map_map]; rfl
theorem lstW_2 {rows : List (List Int)} : (lstW rows).map (·.2) = rows := by unfold lstW; rw [List.map_map]; exact List.map_id _
theorem lstW_len {rows : List (List Int)} : (lstW rows).length = rows.length := by simp [lstW]
theorem lstW_ok {rows : List (List Int)} {w : SD × List Int} (h : w ∈ lstW rows) : Ints σ w.1 w.2 ∧ w.2 ∈ rows := by
 obtain ⟨p, hp, rfl⟩ := List.mem_map.mp h
 exact ⟨⟨rfl, rfl, trivial⟩, hp⟩
theorem flat_rep (k : Nat) (v : Int) : (List.replicate k [D.int v]).flatten = (List.replicate k v).map D.int := by
 induction k with
 | zero => rfl
 | succ k ih => simp [List.replicate_succ, ih]
end
section
variable {c : Cx} {σ : Sto} {X : Addr → Sto → Prop} {Q : D → Sto → Prop} {K : Frag} {C : Addr}
theorem inR_false {xs ys : List Int} {k : Nat} {q : Int × Int} (h : (xs.zip ys)[k]? = some q) (hq : q.2 < q.1) : inR xs ys = false := by
 unfold inR
 rw [List.all_eq_false]
 exact ⟨q, List.mem_of_getElem? h, by simp; exact hq⟩
theorem lawWithin_ {xs ys : List Int} (T : Tp c B07 N07) (h : Q (.bool (inR xs ys)) σ) : WF c (Room 1) "_law_within" [row xs, row ys] σ Q X := by
 refine WF.by 39 T rfl (bind2 fun _ _ _ _ _ => rfl) (by rfl) rfl fun A fr env r hh hs fe => ?_
 with_reducible (refine WS.cons ?_; refine W1.forL (by assumption) ?_ (hs := by with_unfolding_all (intro _; rfl)); refine WIt.zipX (by assumption) (by assumption) (by walk_at "k") (by with_unfolding_all rfl) ?_ (hp := by with_unfolding_all rfl); refine WE.nLocal (by walk_at "v") (by walk_at "k") ?_; refine WE.nLocal (by walk_at "v") (by walk_at "k") ?_)
 refine ⟨_, _, .tup _, .tup _, xs, ys, D.int, D.int, rfl, rfl, rfl, rfl, trivial, trivial, ?_⟩
 refine Loop.of (fun k m' σ' => σ' = σ ∧ ∀ q ∈ (xs.zip ys).take k, q.1 ≤ q.2) (fun _ _ => kinds2 (by walk_at "k2") (by walk_at "k2")) ⟨rfl, by simp⟩ (fun _ _ _ hL => ⟨trivial, trivial⟩) (fun k q m' σ' hk hL fr' => ?_) (fun m' σ' hL => ?_)
 ·obtain ⟨rfl, e1⟩ := hL
  with_reducible (refine WS.cons ?_; refine W1.ite ?_; refine WT.compare ?_ (hb := by with_unfolding_all rfl); refine WE.nLocal (by walk_at "v") (by walk_at "k") ?_; refine WE.nLocal (by walk_at "v") (by walk_at "k") ?_; refine WB.gt ?_; refine WTr.bool ?_)
  by_cases hq : q.1 > q.2
  ·rw [decide_eq_true hq]
   with_reducible (refine ite_t ?_; refine WS.cons ?_; refine W1.ret ?_; refine WE.kBool ?_)
   rw [inR_false hk hq] at h
   exact h
  ·rw [decide_eq_false hq]
   with_reducible (refine ite_f ?_; refine WS.nil ?_; refine WS.nil ?_)
   refine ⟨rfl, fun p hp => ?_⟩
   rw [take_next hk] at hp
   rcases List.mem_append.mp hp with z | z
   ·exact e1 p z
   ·rw [List.mem_singleton.mp z]; exact (Int.not_lt.mp hq)
 ·obtain ⟨rfl, e1⟩ := hL
  rw [List.take_length] at e1
  have e2 : inR xs ys = true := by unfold inR; rw [List.all_eq_true]; exact fun q hq => by simpa using e1 q hq
  rw [e2] at h
  with_reducible (refine WS.cons ?_; refine W1.ret ?_; refine WE.kBool ?_)
  exact h
end
theorem eqvRows : ∀ {xs ys : List (List Int)}, PyData.eqvAll (xs.map fun r => .tuple (r.map .int)) (ys.map fun r => .tuple (r.map .int)) = decide (xs = ys)
 | [], [] => rfl
 | [], _ :: _ => rfl
 | _ :: _, [] => rfl
 | a :: r, b :: t => by
  simp only [List.map_cons, PyData.eqvAll, eqvRows (xs := r) (ys := t)]
  have : PyData.eqv (.tuple (a.map .int)) (.tuple (b.map .int)) = decide (a = b) := eqv_all a b
  rw [this]
  by_cases h1 : a = b <;> by_cases h2 : r = t <;> simp [h1, h2]
theorem eqvRows1 {xs : List (List Int)} : PyData.eqv (.list (xs.map fun r => .tuple (r.map .int))) (.list (xs.map fun r => .tuple (r.map .int))) = true := (eqvRows (xs := xs) (ys := xs)).trans (by simp)
theorem getD_row {x : List Int} {n p : Nat} (hx : x.length = n) (hp : p < n) : (x.map D.int)[p]? = some (.int (x.getD p 0)) := by
 have : p < x.length := by exact Nat.lt_of_lt_of_le hp (Nat.le_of_eq hx.symm)
 simp [List.getElem?_map, List.getD_eq_getElem?_getD, this]
noncomputable abbrev xEven07 : Addr := 68
section
variable {c : Cx} {σ : Sto} {X : Addr → Sto → Prop} {Q : D → Sto → Prop} {K : Frag} {C : Addr}
theorem is_row_ {xs : List Int} {n : Nat} (T : Tp c B07 N07) (hl : xs.length = n) (h0 : ∀ x ∈ xs, 0 ≤ x) (hn : n < 100) (h : Q (.bool true) σ) : WF c (Room 1) "is_row" [row xs, .int n] σ Q X := by
 refine WF.by 25 T rfl (bind2 fun _ _ _ _ _ => rfl) (by rfl) rfl fun A fr env r hh hs fe => ?_
 with_reducible (refine WS.cons ?_; refine W1.ite ?_; refine WT.boolop ?_; refine WTs.or ?_; refine WT.not ?_; refine WT.plain ?_ (he := by with_unfolding_all (intro _; rfl)); refine WE.callI (by assumption) (by walk_at "k") (by with_unfolding_all rfl) ?_ (hp := by with_unfolding_all rfl); refine WA.cons ?_ (hp := by with_unfolding_all rfl); refine WE.nLocal (by walk_at "v") (by walk_at "k") ?_; refine WA.cons ?_ (hp := by with_unfolding_all rfl); refine WE.nType (Tp.good (by assumption)) (by walk_at "k") (Tp.bn (by assumption) _ _ (by with_unfolding_all rfl)).1 (Tp.bn (by assumption) _ _ (by with_unfolding_all rfl)).2 ?_; refine WA.nil ?_)
 refine At1.isi (b := true) (by decide) rfl ?_
 with_reducible (refine WTr.bool ?_; refine ite_nt ?_; refine WTs.or ?_; refine WT.compare ?_ (hb := by with_unfolding_all rfl); refine WE.callI (by assumption) (by walk_at "k") (by with_unfolding_all rfl) ?_ (hp := by with_unfolding_all rfl); refine WA.cons ?_ (hp := by with_unfolding_all rfl); refine WE.nLocal (by walk_at "v") (by walk_at "k") ?_; refine WA.nil ?_)
 refine At1.len (sd := .tup _) trivial (by walk_at "z") ?_
 rw [show ((SD.tup (xs.map D.int)).ds.length : Int) = n by simp [SD.ds, hl]]
 with_reducible (refine WE.nLocal (by walk_at "v") (by walk_at "k") ?_; refine WB.neI ?_; refine WTr.bool ?_)
 rw [show ((n : Int) != n) = false by simp]
 with_reducible (refine ite_f ?_; refine WTs.nilOr ?_; refine ite_f ?_; refine WS.nil ?_; refine WS.cons ?_; refine W1.forL (by assumption) ?_ (hs := by with_unfolding_all (intro _; rfl)); refine WIt.of ?_; refine WE.nLocal (by walk_at "v") (by walk_at "k") ?_)
 refine WIv.seq (sd := .tup _) D.int hh rfl trivial ?_
 refine Loop.of (fun k m' σ' => σ' = σ) (fun _ _ => kinds1 (by walk_at "k2")) rfl (fun _ _ _ _ => trivial) (fun k i m' σ' hi hL fr' => ?_) (fun m' σ' hL => ?_)
 ·subst hL
  have := h0 i (List.mem_of_getElem? hi)
  with_reducible (refine WS.cons ?_; refine W1.ite ?_; refine WT.boolop ?_; refine WTs.or ?_; refine WT.not ?_; refine WT.plain ?_ (he := by with_unfolding_all (intro _; rfl)); refine WE.callI (by assumption) (by walk_at "k") (by with_unfolding_all rfl) ?_ (hp := by with_unfolding_all rfl); refine WA.cons ?_ (hp := by with_unfolding_all rfl); refine WE.nLocal (by walk_at "v") (by walk_at "k") ?_; refine WA.cons ?_ (hp := by with_unfolding_all rfl); refine WE.nType (Tp.good (by assumption)) (by walk_at "k") (Tp.bn (by assumption) _ _ (by with_unfolding_all rfl)).1 (Tp.bn (by assumption) _ _ (by with_unfolding_all rfl)).2 ?_; refine WA.nil ?_)
  refine At1.isi (b := true) (by decide) rfl ?_
  with_reducible (refine WTr.bool ?_; refine ite_nt ?_; refine WTs.or ?_; refine WT.plain ?_ (he := by with_unfolding_all (intro _; rfl)); refine WE.callI (by assumption) (by walk_at "k") (by with_unfolding_all rfl) ?_ (hp := by with_unfolding_all rfl); refine WA.cons ?_ (hp := by with_unfolding_all rfl); refine WE.nLocal (by walk_at "v") (by walk_at "k") ?_; refine WA.cons ?_ (hp := by with_unfolding_all rfl); refine WE.nType (Tp.good (by assumption)) (by walk_at "k") (Tp.bn (by assumption) _ _ (by with_unfolding_all rfl)).1 (Tp.bn (by assumption) _ _ (by with_unfolding_all rfl)).2 ?_; refine WA.nil ?_)
  refine At1.isi (b := false) (by decide) rfl ?_
  with_reducible (refine WTr.bool ?_; refine ite_f ?_; refine WTs.or ?_; refine WT.compare ?_ (hb := by with_unfolding_all rfl); refine WE.nLocal (by walk_at "v") (by walk_at "k") ?_; refine WE.kInt ?_; refine WB.lt ?_; refine WTr.bool ?_)
  rw [decide_eq_false (by exact fun qz => lin [] [_] [(1,.it (.v 0) (.n 0)),(1,.il (.n 0) (.v 0))] rfl qz this)]
  with_reducible (refine ite_f ?_; refine WTs.nilOr ?_; refine ite_f ?_; refine WS.nil ?_; refine WS.nil ?_)
  rfl
 ·subst hL
  with_reducible (refine WS.cons ?_; refine W1.ret ?_; refine WE.kBool ?_)
  exact h
theorem need_row_ {xs : List Int} {n : Nat} {ru : D} (T : Tp c B07 N07) (S : Ks c K C "System" Bd07) (hl : xs.length = n) (h0 : ∀ x ∈ xs, 0 ≤ x) (hn : n < 100) (h : Q .none σ) : WM c K C (Room 2) "need_row" [.sys C (.int n) ru, row xs] σ Q X := by
 refine WM.by 2 T S rfl (mbind2 fun _ _ _ _ _ _ => rfl) (by rfl) rfl fun A fr env r hh hs fe => ?_
 have d1 : Dfn c "is_row" := Dfn.by 25 T rfl
 with_reducible (refine WS.cons ?_; refine W1.ite ?_; refine WT.not ?_; refine WT.plain ?_ (he := by with_unfolding_all (intro _; rfl)); refine WE.callN (by assumption) (by assumption) (by walk_at "k") (by assumption) ?_ (hp := by with_unfolding_all rfl); refine WA.cons ?_ (hp := by with_unfolding_all rfl); refine WE.nLocal (by walk_at "v") (by walk_at "k") ?_; refine WA.cons ?_ (hp := by with_unfolding_all rfl); refine WE.fld (by assumption) ?_ (hb := by with_unfolding_all (intro _; rfl)); refine WE.nLocal (by walk_at "v") (by walk_at "k") ?_; refine AtSys.mk ?_; refine AtFld.size ?_; refine WA.nil ?_)
 refine WF.at (is_row_ T hl h0 hn ?_) (by decide)
 with_reducible (refine WTr.bool ?_; refine ite_nt ?_; refine WS.nil ?_; refine WS.nil ?_)
 exact h
theorem worth_ {rows : List (List Int)} {xs : List Int} {n : Nat} (T : Tp c B07 N07) (S : Ks c K C "System" Bd07) (hl : xs.length = n) (h0 : ∀ x ∈ xs, 0 ≤ x) (hn : n < 100) (hr : ∀ r ∈ rows, small r ∧ r.length < 100) (hl2 : rows.length < 100)
  (h : QL Q (rows.map fun r => .int (dot r xs)) σ) : WM c K C (Room 3) "worth" [sy C n rows, row xs] σ Q X := by
 refine WM.by 3 T S rfl (mbind2 fun _ _ _ _ _ _ => rfl) (by rfl) rfl fun A fr env r hh hs fe => ?_
 have d1 : Dfn c "worths" := Dfn.by 27 T rfl
 have d2 : Mth K C "need_row" := Mth.by 2 S rfl
 with_reducible (refine WS.cons ?_; refine W1.expr ?_ (by with_unfolding_all rfl); refine WE.mth (by assumption) (by assumption) (by assumption) ?_ (h1 := by with_unfolding_all decide) (h2 := by with_unfolding_all decide) (hp := by with_unfolding_all rfl) (hb := by with_unfolding_all (intro _; rfl)) (hl := by with_unfolding_all rfl) (hn := by with_unfolding_all rfl); refine WE.nLocal (by walk_at "v") (by walk_at "k") ?_; refine AtSys.mk ?_; refine WA.cons ?_ (hp := by with_unfolding_all rfl); refine WE.nLocal (by walk_at "v") (by walk_at "k") ?_; refine WA.nil ?_)
 refine WM.at (need_row_ T S hl h0 hn ?_) (by decide)
 with_reducible (refine WS.cons ?_; refine W1.ret ?_; refine WE.callN (by assumption) (by assumption) (by walk_at "k") (by assumption) ?_ (hp := by with_unfolding_all rfl); refine WA.cons ?_ (hp := by with_unfolding_all rfl); refine WE.fld (by assumption) ?_ (hb := by with_unfolding_all (intro _; rfl)); refine WE.nLocal (by walk_at "v") (by walk_at "k") ?_; refine AtSys.mk ?_; refine AtFld.rules ?_; refine WA.cons ?_ (hp := by with_unfolding_all rfl); refine WE.nLocal (by walk_at "v") (by walk_at "k") ?_; refine WA.nil ?_)
 refine WF.at (worths_ T hr hl2 h) (by decide)
theorem meets_ {rows : List (List Int)} {xs : List Int} {n : Nat} (T : Tp c B07 N07) (S : Ks c K C "System" Bd07) (hl : xs.length = n) (h0 : ∀ x ∈ xs, 0 ≤ x) (hn : n < 100) (hr : ∀ r ∈ rows, small r ∧ r.length < 100) (hl2 : rows.length < 100)
  (h : Q (.bool (rows.all fun r => dot r xs == 0)) σ) : WM c K C (Room 4) "meets" [sy C n rows, row xs] σ Q X := by
 refine WM.by 4 T S rfl (mbind2 fun _ _ _ _ _ _ => rfl) (by rfl) rfl fun A fr env r hh hs fe => ?_
 have d2 : Mth K C "worth" := Mth.by 3 S rfl
 with_reducible (refine WS.cons ?_; refine W1.ret ?_; refine WE.callI (by assumption) (by walk_at "k") (by with_unfolding_all rfl) ?_ (hp := by with_unfolding_all rfl); refine WA.cons ?_ (hp := by with_unfolding_all rfl); refine WE.comp ?_ (by with_unfolding_all rfl) (by with_unfolding_all exact freeOk_of (by assumption) (by rfl)) (hs := by with_unfolding_all (intro _; rfl)); refine WIt.of ?_; refine WE.mth (by assumption) (by assumption) (by assumption) ?_ (h1 := by with_unfolding_all decide) (h2 := by with_unfolding_all decide) (hp := by with_unfolding_all rfl) (hb := by with_unfolding_all (intro _; rfl)) (hl := by with_unfolding_all rfl) (hn := by with_unfolding_all rfl); refine WE.nLocal (by walk_at "v") (by walk_at "k") ?_; refine AtSys.mk ?_; refine WA.cons ?_ (hp := by with_unfolding_all rfl); refine WE.nLocal (by walk_at "v") (by walk_at "k") ?_; refine WA.nil ?_)
 refine WM.at (worth_ T S hl h0 hn hr hl2 (.inl ?_)) (by decide)
 refine WIv.seq (sd := .lst _) (fun r => .int (dot r xs)) hh rfl trivial (Turns.map (fun r => .bool (dot r xs == 0)) (fun _ _ => loc1 rfl) trivial (by walk_at "z") (fun w hw fr' cenv hc => ?_) (.inl ?_))
 ·have hc := relab_of hc hs
  with_reducible (refine WE.compare ?_ (hb := by with_unfolding_all rfl); refine WE.nLocal (by walk_at "v") (by walk_at "k") ?_; refine WE.kInt ?_; refine WB.eqI ?_)
  exact ⟨rfl, rfl⟩
 ·with_reducible (refine WA.nil ?_)
  refine At1.all (sd := .lst _) (l := rows.map fun r => dot r xs == 0) hh (by simp [SD.ds, Function.comp_def]) trivial ?_
  simpa [Function.comp_def] using h
end
theorem even_all {rows : List (List Int)} {xs : List Int} : (rows.all fun r => dot r xs == 0) = true ↔ Even rows xs := by
 rw [List.all_eq_true, Even.iff]
 simp
noncomputable def of1 (q : Int × Int) : Option Int := if 0 < q.1 then some (q.2 / q.1) else none
theorem minL_le {l : List Int} : ∀ x ∈ l, minL l ≤ x := by
 have mono : ∀ (l : List Int) (b : Int), l.foldl min b ≤ b ∧ ∀ x ∈ l, l.foldl min b ≤ x := by
  intro l
  induction l with
  | nil => exact fun b => ⟨Int.le_refl _, fun x hx => by cases hx⟩
  | cons y l ih =>
   intro b
   obtain ⟨a1, a2⟩ := ih (min b y)
   have hb : min b y ≤ b ∧ min b y ≤ y := by omega
   refine ⟨Int.le_trans a1 hb.1, fun x hx => ?_⟩
   rcases List.mem_cons.mp hx with rfl | hx
   ·exact Int.le_trans a1 hb.2
   ·exact a2 x hx
 cases l with
 | nil => intro x hx; cases hx
 | cons a l =>
  intro x hx
  rcases List.mem_cons.mp hx with rfl | hx
  ·exact (mono l x).1
  ·exact (mono l a).2 x hx
theorem minL_mem {l : List Int} (h : l ≠ []) : minL l ∈ l := by
 have : ∀ (l : List Int) (b : Int), l.foldl min b = b ∨ l.foldl min b ∈ l := by
  intro l
  induction l with
  | nil => exact fun b => .inl rfl
  | cons y l ih =>
   intro b
   rcases ih (min b y) with q | q
   ·rw [List.foldl_cons, q]
    rcases Int.le_total b y with z | z
    ·left; omega
    ·right; rw [show min b y = y by omega]; exact .head _
   ·exact .inr (.tail _ q)
 cases l with
 | nil => exact absurd rfl h
 | cons a l =>
  rcases this l a with q | q
  ·show l.foldl min a ∈ _
   rw [q]; exact .head _
  ·exact .tail _ q
theorem zip_get {a b : List Int} {q : Int × Int} (h : q ∈ a.zip b) : ∃ i, i < a.length ∧ i < b.length ∧ q = (a.getD i 0, b.getD i 0) := by
 obtain ⟨i, hi, e⟩ := List.mem_iff_getElem.mp h
 have hi' : i < a.length ∧ i < b.length := by simp only [List.length_zip] at hi; omega
 refine ⟨i, hi'.1, hi'.2, ?_⟩
 rw [← e, List.getElem_zip]
 simp [List.getD_eq_getElem?_getD, hi'.1, hi'.2]
theorem get_zip {a b : List Int} {i : Nat} (h1 : i < a.length) (h2 : i < b.length) : (a.getD i 0, b.getD i 0) ∈ a.zip b := by
 have : i < (a.zip b).length := by simp only [List.length_zip]; omega
 have e : (a.zip b)[i] = (a.getD i 0, b.getD i 0) := by
  rw [List.getElem_zip]
  simp [List.getD_eq_getElem?_getD, h1, h2]
 rw [← e]; exact List.getElem_mem _
theorem of1_ne {n : Nat} {o l : List Int} (ro : Row n o) (rl : Row n l) (hp : 0 < o.sum) : (o.zip l).filterMap of1 ≠ [] := by
 intro q
 have h0 : o.sum ≤ 0 := by
  have hz : ∀ i, o.getD i 0 ≤ 0 := fun i => by
   by_cases hi : i < n
   ·have hm := get_zip (a := o) (b := l) (i := i) (by rw [ro.len]; exact hi) (by rw [rl.len]; exact hi)
    apply Classical.byContradiction
    intro z
    have : (l.getD i 0 / o.getD i 0) ∈ (o.zip l).filterMap of1 := List.mem_filterMap.mpr ⟨_, hm, by simp only [of1]; rw [if_pos (by exact (Int.not_le.mp z))]⟩
    rw [q] at this; cases this
   ·rw [List.getD_eq_getElem?_getD, List.getElem?_eq_none (by rw [ro.len]; exact (Nat.not_lt.mp hi))]; decide
  rw [ro.sum]
  have := sumN_mono (n := n) (f := fun i => o.getD i 0) (g := fun _ => 0) fun i _ => hz i
  rw [sumN_const0] at this
  exact this
 exact lin [] [_] [(1,.il (.v 0) (.n 0)),(1,.it (.n 0) (.v 0))] rfl h0 hp
theorem oft_of {n : Nat} {o l : List Int} (ro : Row n o) (rl : Row n l) (hp : 0 < o.sum) : Oft o l (minL ((o.zip l).filterMap of1)) := by
 have hne := of1_ne ro rl hp
 obtain ⟨q, hq, e⟩ := List.mem_filterMap.mp (minL_mem hne)
 have hle := minL_le (l := (o.zip l).filterMap of1)
 generalize minL ((o.zip l).filterMap of1) = k at hle e ⊢
 obtain ⟨i, hi1, hi2, rfl⟩ := zip_get hq
 have hoi : 0 < o.getD i 0 := by
  by_cases z : 0 < o.getD i 0
  ·exact z
  ·simp only [of1] at e; rw [if_neg z] at e; cases e
 have hk : l.getD i 0 / o.getD i 0 = k := by
  simp only [of1] at e; rw [if_pos hoi] at e; exact Option.some.inj e
 have hk0 : 0 ≤ k := by rw [← hk]; exact Int.ediv_nonneg (rl.pos i) (Int.le_of_lt hoi)
 refine ⟨hk0, fun j => ?_, i, ?_⟩
 ·by_cases hj : j < n
  ·by_cases z : 0 < o.getD j 0
   ·have hm := get_zip (a := o) (b := l) (i := j) (by rw [ro.len]; exact hj) (by rw [rl.len]; exact hj)
    have h1 := hle (l.getD j 0 / o.getD j 0) (List.mem_filterMap.mpr ⟨_, hm, by simp only [of1]; rw [if_pos z]⟩)
    have h2 := Int.mul_le_mul_of_nonneg_right h1 (Int.le_of_lt z)
    have h3 := Int.ediv_mul_le (l.getD j 0) (show o.getD j 0 ≠ 0 by exact fun qz => lin [] [_] [(1,.ie (.v 0) (.n 0)),(1,.it (.n 0) (.v 0))] rfl qz z)
    exact Int.le_trans h2 h3
   ·have := ro.pos j
    rw [show o.getD j 0 = 0 by exact Int.le_antisymm (Int.not_lt.mp fun qz => lin [] [_] [(1,.it (.n 0) (.v 0)),(1,.il (.v 0) (.n 0))] rfl qz (Int.not_lt.mp z)) (Int.not_lt.mp fun qz => lin [] [_] [(1,.it (.v 0) (.n 0)),(1,.il (.n 0) (.v 0))] rfl qz this), Int.mul_zero]; exact rl.pos j
  ·rw [List.getD_eq_getElem?_getD, List.getElem?_eq_none (by rw [ro.len]; exact (Nat.not_lt.mp hj))]
   simpa using rl.pos j
 ·have h3 := Int.lt_ediv_add_one_mul_self (l.getD i 0) hoi
  rw [hk] at h3
  exact h3
section
variable {c : Cx} {σ : Sto} {X : Addr → Sto → Prop} {Q : D → Sto → Prop} {K : Frag} {C : Addr}
theorem taken_ {xs ys : List Int} {k : Int} (T : Tp c B07 N07) (hsz : xs.length < 100) (hy : small ys) (h : Q (row (takR xs ys k)) σ) : WF c (Room 1) "taken" [row xs, row ys, .int k] σ Q X := by
 refine WF.by 14 T rfl (bind3 fun _ _ _ _ _ _ => rfl) (by rfl) rfl fun A fr env r hh hs fe => ?_
 with_reducible (refine WS.cons ?_; refine W1.ret ?_; refine WE.callY (by assumption) (by walk_at "k") (by with_unfolding_all rfl) ?_ (hp := by with_unfolding_all rfl); refine WA.cons ?_ (hp := by with_unfolding_all rfl); refine WE.comp ?_ (by with_unfolding_all rfl) (by with_unfolding_all exact freeOk_of (by assumption) (by rfl)) (hs := by with_unfolding_all (intro _; rfl)); refine WIt.zipX (by assumption) (by assumption) (by walk_at "k") (by with_unfolding_all rfl) ?_ (hp := by with_unfolding_all rfl); refine WE.nLocal (by walk_at "v") (by walk_at "k") ?_; refine WE.nLocal (by walk_at "v") (by walk_at "k") ?_)
 refine ⟨_, _, .tup _, .tup _, xs, ys, D.int, D.int, rfl, rfl, rfl, rfl, trivial, trivial, Turns.map (fun q => .int (q.1 - k * q.2)) (fun _ _ => loc2 rfl rfl) ⟨trivial, trivial⟩ (by walk_at "z") (fun x hx fr' cenv hc => ?_) (.inl ?_)⟩
 ·have hc := relab_of hc hs
  with_reducible (refine WE.binop ?_; refine WE.nLocal (by walk_at "v") (by walk_at "k") ?_; refine WE.binop ?_; refine WE.nCell (by walk_at "v") (by walk_at "k") ?_; refine WE.nLocal (by walk_at "v") (by walk_at "k") ?_)
  refine WB.mul (mulOk_right (hy _ (List.of_mem_zip hx).2)) ?_
  with_reducible (refine WB.sub ?_)
  exact ⟨rfl, rfl⟩
 ·with_reducible (refine WA.nil ?_)
  refine At1.tuple (sd := .lst _) trivial (by walk_at "z") ?_
  simpa [row, takR, SD.ds, Function.comp_def] using h
theorem often_within_ {xs ys : List Int} (T : Tp c B07 N07) (hsz : xs.length < 100) (hb : small xs) (hne : (xs.zip ys).filterMap of1 ≠ []) (h : Q (.int (minL ((xs.zip ys).filterMap of1))) σ) : WF c (Room 1) "often_within" [row xs, row ys] σ Q X := by
 refine WF.by 15 T rfl (bind2 fun _ _ _ _ _ => rfl) (by rfl) rfl fun A fr env r hh hs fe => ?_
 with_reducible (refine WS.cons ?_; refine W1.ret ?_; refine WE.callI (by assumption) (by walk_at "k") (by with_unfolding_all rfl) ?_ (hp := by with_unfolding_all rfl); refine WA.cons ?_ (hp := by with_unfolding_all rfl); refine WE.comp ?_ (by with_unfolding_all rfl) (by with_unfolding_all exact freeOk_of (by assumption) (by rfl)) (hs := by with_unfolding_all (intro _; rfl)); refine WIt.zipX (by assumption) (by assumption) (by walk_at "k") (by with_unfolding_all rfl) ?_ (hp := by with_unfolding_all rfl); refine WE.nLocal (by walk_at "v") (by walk_at "k") ?_; refine WE.nLocal (by walk_at "v") (by walk_at "k") ?_)
 refine ⟨_, _, .tup _, .tup _, xs, ys, D.int, D.int, rfl, rfl, rfl, rfl, trivial, trivial, Turns.of (fun q => (of1 q).map D.int) (fun _ _ => loc2 rfl rfl) ⟨trivial, trivial⟩ (by walk_at "z") (fun x hx fr' cenv hc => WIfs.one ?_) (.inl ?_)⟩
 ·have hc := relab_of hc hs
  with_reducible (refine WT.compare ?_ (hb := by with_unfolding_all rfl); refine WE.nLocal (by walk_at "v") (by walk_at "k") ?_; refine WE.kInt ?_; refine WB.gt ?_; refine WTr.bool ?_)
  have hx1 : x.1 ∈ xs := (List.of_mem_zip hx).1
  by_cases h0 : 0 < x.1
  ·rw [decide_eq_true h0]
   with_reducible (refine ite_t ?_; refine WE.binop ?_; refine WE.nLocal (by walk_at "v") (by walk_at "k") ?_; refine WE.nLocal (by walk_at "v") (by walk_at "k") ?_)
   refine WB.fdivE h0 (hb _ hx1) ?_
   exact ⟨rfl, by simp [of1, h0]⟩
  ·simp [h0, of1]
 ·with_reducible (refine WA.nil ?_)
  refine At1.min (sd := .lst _) (l := (xs.zip ys).filterMap of1) hh ?_ hne trivial h
  show List.filterMap _ _ = List.map _ (List.filterMap _ _)
  rw [List.map_filterMap]
theorem small_least {E : List (List Int)} {n : Nat} {s : List Int} (F : Fits6 E n) (h : Least E n s) : small s := fun x hx => by
 have h1 := F.1.most s h (fun z => by cases z)
 obtain ⟨i, _, e⟩ := mem_get hx
 have h2 := get_le_sum h.row i
 have h3 := h.row.pos i
 omega
theorem parts_ {E : List (List Int)} {n : Nat} {xs : List Int} (T : Tp c B07 N07) (S : Ks c K C "System" Bd07) (F : Fits6 E n) (hr : ∀ r ∈ E, small r ∧ r.length < 100) (hl : E.length < 100) (hn : n < 100) (h1 : 1 ≤ n) (rx : Row n xs) (ex : Even E xs)
  (h : ∀ (out : List (List Int)) (ks : List Int), Lst E n out → Good out xs ks → QL Q (ks.map D.int) σ) : WM c K C (Room 5) "parts" [sy C n E, row xs] σ Q X := by
 refine WM.by 6 T S rfl (mbind2 fun _ _ _ _ _ _ => rfl) (by rfl) rfl fun A fr env r hh hs fe => ?_
 have d1 : Dfn c "often_within" := Dfn.by 15 T rfl
 have d2 : Dfn c "taken" := Dfn.by 14 T rfl
 have m1 : Mth K C "meets" := Mth.by 4 S rfl
 have m2 : Mth K C "least" := Mth.by 5 S rfl
 with_reducible (refine WS.cons ?_; refine W1.ite ?_; refine WT.not ?_; refine WT.plain ?_ (he := by with_unfolding_all (intro _; rfl)); refine WE.mth (by assumption) (by assumption) (by assumption) ?_ (h1 := by with_unfolding_all decide) (h2 := by with_unfolding_all decide) (hp := by with_unfolding_all rfl) (hb := by with_unfolding_all (intro _; rfl)) (hl := by with_unfolding_all rfl) (hn := by with_unfolding_all rfl); refine WE.nLocal (by walk_at "v") (by walk_at "k") ?_; refine AtSys.mk ?_; refine WA.cons ?_ (hp := by with_unfolding_all rfl); refine WE.nLocal (by walk_at "v") (by walk_at "k") ?_; refine WA.nil ?_)
 refine WM.at (meets_ T S rx.len rx.mem hn hr hl ?_) (by decide)
 rw [even_all.mpr ex]
 with_reducible (refine WTr.bool ?_; refine ite_nt ?_; refine WS.nil ?_; refine WS.cons ?_; refine W1.assign ?_ (by walk_at "k2") (by with_unfolding_all rfl); refine WE.nLocal (by walk_at "v") (by walk_at "k") ?_; refine WS.cons ?_; refine W1.assign ?_ (by walk_at "k2") (by with_unfolding_all rfl); refine WE.list ?_; refine WA.nil ?_)
 refine ⟨by simp [sizeLine], .inr fun a ha => ?_⟩
 with_reducible (refine WS.cons ?_; refine W1.forL (by assumption) ?_ (hs := by with_unfolding_all (intro _; rfl)); refine WIt.of ?_; refine WE.mth (by assumption) (by assumption) (by assumption) ?_ (h1 := by with_unfolding_all decide) (h2 := by with_unfolding_all decide) (hp := by with_unfolding_all rfl) (hb := by with_unfolding_all (intro _; rfl)) (hl := by with_unfolding_all rfl) (hn := by with_unfolding_all rfl); refine WE.nLocal (by walk_at "v") (by walk_at "k") ?_; refine AtSys.mk ?_; refine WA.nil ?_)
 refine WM.at (least_ T S F hr hl hn h1 fun out L => .inl ?_) (by decide)
 have few := L.few
 refine WIv.seq (sd := .lst _) row hh rfl trivial ?_
 refine Loop.of (fun k m' σ' => k ≤ out.length ∧ ∃ ks : List Int, Good (out.take k) xs ks ∧ σ' = (a, .lst (ks.map D.int)) :: σ ∧ has m' "found" (.ref a) ∧ has m' "left" (row (lefF xs (out.take k) ks))) (fun _ _ => kinds1 (by walk_at "k2")) ⟨Nat.zero_le _, [], Good.nil, rfl, by walk_at "v", by walk_at "v"⟩ (fun _ _ _ _ => trivial) (fun k o m' σ' hk hL fr' => ?_) (fun m' σ' hL => ?_)
 ·obtain ⟨hk1, ks, hg, rfl, e1, e2⟩ := hL
  have ho := (L.mem o).mp (List.mem_of_getElem? hk)
  have hk2 : k < out.length := (List.getElem?_eq_some_iff.mp hk).1
  have rows : ∀ o ∈ out.take k, Row n o := fun o ho => ((L.mem o).mp (List.mem_of_mem_take ho)).row
  have hkl := hg.len
  have rm : Row n (lefF xs (out.take k) ks) := by
   have := (hg.all rx rows (out.take k).length (Nat.le_refl _)).1
   rw [List.take_length, ← hkl, List.take_length] at this
   exact this
  have hof := oft_of ho.row rm ho.pos
  have hg2 := hg.snoc hof
  have hnx := lefF_snoc (l := xs) (o := o) (os := out.take k) (ks := ks) (k := minL ((o.zip (lefF xs (out.take k) ks)).filterMap of1)) (by exact (hkl).symm)
  rw [← take_next hk] at hg2 hnx
  have hsz : ks.length ≤ 16000000 := by rw [hkl, List.length_take]; omega
  with_reducible (refine WS.cons ?_; refine W1.assign ?_ (by walk_at "k2") (by with_unfolding_all rfl); refine WE.callN (by assumption) (by assumption) (by walk_at "k") (by assumption) ?_ (hp := by with_unfolding_all rfl); refine WA.cons ?_ (hp := by with_unfolding_all rfl); refine WE.nLocal (by walk_at "v") (by walk_at "k") ?_; refine WA.cons ?_ (hp := by with_unfolding_all rfl); refine WE.nLocal (by walk_at "v") (by walk_at "k") ?_; refine WA.nil ?_)
  refine WF.at (often_within_ T (by have := ho.row.len; exact Nat.lt_of_le_of_lt (Nat.le_of_eq this) hn) (small_least F ho) (of1_ne ho.row rm ho.pos) ?_) (by decide)
  with_reducible (refine WS.cons ?_; refine W1.expr ?_ (by with_unfolding_all rfl); refine WE.methL PySem.F.slot_list_append (by with_unfolding_all rfl) ?_ (hp := by with_unfolding_all rfl) (hb := by with_unfolding_all (intro _; rfl)) (hl := by with_unfolding_all rfl) (hn := by with_unfolding_all rfl); refine WE.nLocal (by walk_at "v") (by walk_at "k") ?_)
  refine ⟨.ref a _, rfl, rfl, List.mem_cons_self, ?_⟩
  with_reducible (refine WA.cons ?_ (hp := by with_unfolding_all rfl); refine WE.nLocal (by walk_at "v") (by walk_at "k") ?_; refine WA.nil ?_)
  refine At1.append (σ1 := []) (by simp only [List.length_map, sizeLine]; omega) ?_
  with_reducible (refine WS.cons ?_; refine W1.assign ?_ (by walk_at "k2") (by with_unfolding_all rfl); refine WE.callN (by assumption) (by assumption) (by walk_at "k") (by assumption) ?_ (hp := by with_unfolding_all rfl); refine WA.cons ?_ (hp := by with_unfolding_all rfl); refine WE.nLocal (by walk_at "v") (by walk_at "k") ?_; refine WA.cons ?_ (hp := by with_unfolding_all rfl); refine WE.nLocal (by walk_at "v") (by walk_at "k") ?_; refine WA.cons ?_ (hp := by with_unfolding_all rfl); refine WE.nLocal (by walk_at "v") (by walk_at "k") ?_; refine WA.nil ?_)
  refine WF.at (taken_ T (by have := rm.len; exact Nat.lt_of_le_of_lt (Nat.le_of_eq this) hn) (small_least F ho) ?_) (by decide)
  with_reducible (refine WS.nil ?_)
  refine ⟨hk2, ks ++ [minL ((o.zip (lefF xs (out.take k) ks)).filterMap of1)], hg2, by simp, by walk_at "v", ?_⟩
  rw [hnx]
  exact lk_here
 ·obtain ⟨_, ks, hg, rfl, e1, e2⟩ := hL
  rw [List.take_length] at hg
  rcases h out ks L hg with q | q
  ·refine WS.cons (W1.ret (WE.freeze ?_))
   with_reducible (refine WE.nLocal (by walk_at "v") (by walk_at "k") ?_)
   exact ⟨a, _, [], σ, rfl, rfl, q⟩
  ·with_reducible (refine WS.cons ?_; refine W1.ret ?_; refine WE.nLocal (by walk_at "v") (by walk_at "k") ?_)
   exact q a ha
end
section
variable {c : Cx} {σ : Sto} {X : Addr → Sto → Prop} {Q : D → Sto → Prop} {K Kx : Frag} {C : Addr}
theorem ve_type : typeOf (.type "ValueError") = pure (.type "type") := by kernel_rfl
theorem ve_is : isType (.type "ValueError") = pure true := by kernel_rfl
theorem word_even (T : Tp c B07 N07) (E : Xs c Kx E07) (h : Q (.str "even") σ) : WF c (Room' 1) "_law_word_of" [.exc xEven07] σ Q X := by
 refine WF.byH 42 T rfl (bind1 fun _ _ _ _ => rfl) (by rfl) rfl fun A fr env r hs fe => ?_
 walk_at "m"
 with_reducible (refine WS.cons ?_; refine W1.assign ?_ (by walk_at "k2") (by with_unfolding_all rfl); refine WE.kStr ?_; refine WS.cons ?_; refine W1.ite ?_; refine WT.plain ?_ (he := by with_unfolding_all (intro _; rfl)); refine WE.callI (by assumption) (by walk_at "k") (by with_unfolding_all rfl) ?_ (hp := by with_unfolding_all rfl); refine WA.cons ?_ (hp := by with_unfolding_all rfl); refine WE.nLocal (by walk_at "v") (by walk_at "k") ?_; refine WA.cons ?_ (hp := by with_unfolding_all rfl); refine WE.nX (by assumption) (by walk_at "k") (by with_unfolding_all rfl) ?_; refine WA.nil ?_)
 refine At1.isiX (x := "NotEven") (y := "BadSystem") (b := false) E rfl rfl (by decide) (by decide) ?_
 with_reducible (refine WTr.bool ?_; refine ite_f ?_; refine WS.nil ?_; refine WS.cons ?_; refine W1.ite ?_; refine WT.plain ?_ (he := by with_unfolding_all (intro _; rfl)); refine WE.callI (by assumption) (by walk_at "k") (by with_unfolding_all rfl) ?_ (hp := by with_unfolding_all rfl); refine WA.cons ?_ (hp := by with_unfolding_all rfl); refine WE.nLocal (by walk_at "v") (by walk_at "k") ?_; refine WA.cons ?_ (hp := by with_unfolding_all rfl); refine WE.nX (by assumption) (by walk_at "k") (by with_unfolding_all rfl) ?_; refine WA.nil ?_)
 refine At1.isiX (x := "NotEven") (y := "BadRow") (b := false) E rfl rfl (by decide) (by decide) ?_
 with_reducible (refine WTr.bool ?_; refine ite_f ?_; refine WS.nil ?_; refine WS.cons ?_; refine W1.ite ?_; refine WT.plain ?_ (he := by with_unfolding_all (intro _; rfl)); refine WE.callI (by assumption) (by walk_at "k") (by with_unfolding_all rfl) ?_ (hp := by with_unfolding_all rfl); refine WA.cons ?_ (hp := by with_unfolding_all rfl); refine WE.nLocal (by walk_at "v") (by walk_at "k") ?_; refine WA.cons ?_ (hp := by with_unfolding_all rfl); refine WE.nX (by assumption) (by walk_at "k") (by with_unfolding_all rfl) ?_; refine WA.nil ?_)
 refine At1.isiX (x := "NotEven") (y := "NotEven") (b := true) E rfl rfl (by decide) (by decide) ?_
 with_reducible (refine WTr.bool ?_; refine ite_t ?_; refine WS.cons ?_; refine W1.assign ?_ (by walk_at "k2") (by with_unfolding_all rfl); refine WE.binop ?_; refine WE.nLocal (by walk_at "v") (by walk_at "k") ?_; refine WE.kStr ?_; refine WB.addS (by with_unfolding_all decide) ?_; refine WS.nil ?_; refine WS.cons ?_; refine W1.ite ?_; refine WT.plain ?_ (he := by with_unfolding_all (intro _; rfl)); refine WE.callI (by assumption) (by walk_at "k") (by with_unfolding_all rfl) ?_ (hp := by with_unfolding_all rfl); refine WA.cons ?_ (hp := by with_unfolding_all rfl); refine WE.nLocal (by walk_at "v") (by walk_at "k") ?_; refine WA.cons ?_ (hp := by with_unfolding_all rfl); refine WE.nX (by assumption) (by walk_at "k") (by with_unfolding_all rfl) ?_; refine WA.nil ?_)
 refine At1.isiX (x := "NotEven") (y := "BadWants") (b := false) E rfl rfl (by decide) (by decide) ?_
 with_reducible (refine WTr.bool ?_; refine ite_f ?_; refine WS.nil ?_; refine WS.cons ?_; refine W1.ite ?_; refine WT.plain ?_ (he := by with_unfolding_all (intro _; rfl)); refine WE.callI (by assumption) (by walk_at "k") (by with_unfolding_all rfl) ?_ (hp := by with_unfolding_all rfl); refine WA.cons ?_ (hp := by with_unfolding_all rfl); refine WE.nLocal (by walk_at "v") (by walk_at "k") ?_; refine WA.cons ?_ (hp := by with_unfolding_all rfl); refine WE.nX (by assumption) (by walk_at "k") (by with_unfolding_all rfl) ?_; refine WA.nil ?_)
 refine At1.isiX (x := "NotEven") (y := "BadBound") (b := false) E rfl rfl (by decide) (by decide) ?_
 with_reducible (refine WTr.bool ?_; refine ite_f ?_; refine WS.nil ?_; refine WS.cons ?_; refine W1.ite ?_; refine WT.plain ?_ (he := by with_unfolding_all (intro _; rfl)); refine WE.callI (by assumption) (by walk_at "k") (by with_unfolding_all rfl) ?_ (hp := by with_unfolding_all rfl); refine WA.cons ?_ (hp := by with_unfolding_all rfl); refine WE.nLocal (by walk_at "v") (by walk_at "k") ?_; refine WA.cons ?_ (hp := by with_unfolding_all rfl); refine WE.nX (by assumption) (by walk_at "k") (by with_unfolding_all rfl) ?_; refine WA.nil ?_)
 refine At1.isiX (x := "NotEven") (y := "TooMany") (b := false) E rfl rfl (by decide) (by decide) ?_
 with_reducible (refine WTr.bool ?_; refine ite_f ?_; refine WS.nil ?_; refine WS.cons ?_; refine W1.ite ?_; refine WT.plain ?_ (he := by with_unfolding_all (intro _; rfl)); refine WE.callI (by assumption) (by walk_at "k") (by with_unfolding_all rfl) ?_ (hp := by with_unfolding_all rfl); refine WA.cons ?_ (hp := by with_unfolding_all rfl); refine WE.nLocal (by walk_at "v") (by walk_at "k") ?_; refine WA.cons ?_ (hp := by with_unfolding_all rfl); refine WE.nX (by assumption) (by walk_at "k") (by with_unfolding_all rfl) ?_; refine WA.nil ?_)
 refine At1.isiX (x := "NotEven") (y := "Unread") (b := false) E rfl rfl (by decide) (by decide) ?_
 with_reducible (refine WTr.bool ?_; refine ite_f ?_; refine WS.nil ?_; refine WS.cons ?_; refine W1.ite ?_; refine WT.plain ?_ (he := by with_unfolding_all (intro _; rfl)); refine WE.callI (by assumption) (by walk_at "k") (by with_unfolding_all rfl) ?_ (hp := by with_unfolding_all rfl); refine WA.cons ?_ (hp := by with_unfolding_all rfl); refine WE.nLocal (by walk_at "v") (by walk_at "k") ?_; refine WA.cons ?_ (hp := by with_unfolding_all rfl); refine WE.nType (Tp.good (by assumption)) (by walk_at "k") (Tp.bn (by assumption) _ _ (by with_unfolding_all rfl)).1 (Tp.bn (by assumption) _ _ (by with_unfolding_all rfl)).2 ?_; refine WA.nil ?_)
 refine At1.isiV (x := "NotEven") (b := true) E rfl (by decide) ve_type ve_is ?_
 with_reducible (refine WTr.bool ?_; refine ite_t ?_; refine WS.cons ?_; refine W1.ret ?_; refine WE.rstrip ?_ (by with_unfolding_all rfl) (hl := by with_unfolding_all rfl); refine WE.nLocal (by walk_at "v") (by walk_at "k") ?_)
 refine ⟨_, rfl, by with_unfolding_all decide, ?_⟩
 have e : Txt.rstrip (Str.ofString "" ++ Str.ofString "even ") = Str.ofString "even" := by kernel_rfl
 rw [e]
 exact h
theorem parts_bad {E : List (List Int)} {n : Nat} {xs : List Int} (T : Tp c B07 N07) (S : Ks c K C "System" Bd07) (Ex : Xs c Kx E07) (ra : Rai c "NotEven") (hr : ∀ r ∈ E, small r ∧ r.length < 100) (hl : E.length < 100) (hn : n < 100) (rx : Row n xs) (ex : ¬ Even E xs)
  (h : X xEven07 σ) : WM c K C (Room 5) "parts" [sy C n E, row xs] σ Q X := by
 refine WM.by 6 T S rfl (mbind2 fun _ _ _ _ _ _ => rfl) (by rfl) rfl fun A fr env r hh hs fe => ?_
 walk_at "m"
 have m1 : Mth K C "meets" := Mth.by 4 S rfl
 with_reducible (refine WS.cons ?_; refine W1.ite ?_; refine WT.not ?_; refine WT.plain ?_ (he := by with_unfolding_all (intro _; rfl)); refine WE.mth (by assumption) (by assumption) (by assumption) ?_ (h1 := by with_unfolding_all decide) (h2 := by with_unfolding_all decide) (hp := by with_unfolding_all rfl) (hb := by with_unfolding_all (intro _; rfl)) (hl := by with_unfolding_all rfl) (hn := by with_unfolding_all rfl); refine WE.nLocal (by walk_at "v") (by walk_at "k") ?_; refine AtSys.mk ?_; refine WA.cons ?_ (hp := by with_unfolding_all rfl); refine WE.nLocal (by walk_at "v") (by walk_at "k") ?_; refine WA.nil ?_)
 refine WM.at (meets_ T S rx.len rx.mem hn hr hl ?_) (by decide)
 rw [show (E.all fun r => dot r xs == 0) = false from by
  cases q : (E.all fun r => dot r xs == 0) with
  | false => rfl
  | true => exact absurd (even_all.mp q) ex]
 with_reducible (refine WTr.bool ?_; refine ite_nf ?_; refine WS.cons ?_; refine W1.raiseX (by assumption) (by with_unfolding_all rfl) (by assumption) (by assumption) (by walk_at "k") ?_ (hp := by with_unfolding_all rfl); refine WA.cons ?_ (hp := by with_unfolding_all rfl); refine WE.kStr ?_; refine WA.nil ?_)
 exact ⟨by simp [sizeLine], h⟩
theorem told_ {E : List (List Int)} {n : Nat} {xs : List Int} (T : Tp c B07 N07) (S : Ks c K C "System" Bd07) (Ex : Xs c Kx E07) (F : Fits6 E n) (hr : ∀ r ∈ E, small r ∧ r.length < 100) (hl : E.length < 100) (hn : n < 100) (h1 : 1 ≤ n) (rx : Row n xs) (ex : Even E xs)
  (h : ∀ (out : List (List Int)) (ks : List Int), Lst E n out → Good out xs ks → QL Q (ks.map D.int) σ) : WF c (Room 7) "_law_told" [sy C n E, row xs] σ Q X := by
 refine WF.by 44 T rfl (bind2 fun _ _ _ _ _ => rfl) (by rfl) rfl fun A fr env r hh hs fe => ?_
 walk_at "m"
 have m1 : Mth K C "parts" := Mth.by 6 S rfl
 refine WS.cons (W1.join (fun m' σ' => False) ?_ fun m' σ' hf => hf.elim)
 refine W1.tryAs (Xb := fun C' σ' => False) fe Ex (by walk_at "k") rfl (by walk_at "k") ?_ fun C' σ' hf => hf.elim
 with_reducible (refine WS.cons ?_; refine W1.ret ?_; refine WE.mth (by assumption) (by assumption) (by assumption) ?_ (h1 := by with_unfolding_all decide) (h2 := by with_unfolding_all decide) (hp := by with_unfolding_all rfl) (hb := by with_unfolding_all (intro _; rfl)) (hl := by with_unfolding_all rfl) (hn := by with_unfolding_all rfl); refine WE.nLocal (by walk_at "v") (by walk_at "k") ?_; refine AtSys.mk ?_; refine WA.cons ?_ (hp := by with_unfolding_all rfl); refine WE.nLocal (by walk_at "v") (by walk_at "k") ?_; refine WA.nil ?_)
 refine WM.at (parts_ T S F hr hl hn h1 rx ex h) (by decide)
theorem told_bad {E : List (List Int)} {n : Nat} {xs : List Int} (T : Tp c B07 N07) (S : Ks c K C "System" Bd07) (Ex : Xs c Kx E07) (ra : Rai c "NotEven") (hr : ∀ r ∈ E, small r ∧ r.length < 100) (hl : E.length < 100) (hn : n < 100) (rx : Row n xs) (ex : ¬ Even E xs)
  (h : Q (.str "even") σ) : WF c (Room 7) "_law_told" [sy C n E, row xs] σ Q X := by
 refine WF.by 44 T rfl (bind2 fun _ _ _ _ _ => rfl) (by rfl) rfl fun A fr env r hh hs fe => ?_
 walk_at "m"
 have d1 : Dfn c "_law_word_of" := Dfn.by 42 T rfl
 have m1 : Mth K C "parts" := Mth.by 6 S rfl
 refine WS.cons (W1.join (fun m' σ' => False) ?_ fun m' σ' hf => hf.elim)
 refine W1.tryAs (Xb := fun C' σ' => C' = xEven07 ∧ σ' = σ) fe Ex (by walk_at "k") rfl (by walk_at "k") ?_ fun C' σ' ⟨e1, e2⟩ => ?_
 ·with_reducible (refine WS.cons ?_; refine W1.ret ?_; refine WE.mth (by assumption) (by assumption) (by assumption) ?_ (h1 := by with_unfolding_all decide) (h2 := by with_unfolding_all decide) (hp := by with_unfolding_all rfl) (hb := by with_unfolding_all (intro _; rfl)) (hl := by with_unfolding_all rfl) (hn := by with_unfolding_all rfl); refine WE.nLocal (by walk_at "v") (by walk_at "k") ?_; refine AtSys.mk ?_; refine WA.cons ?_ (hp := by with_unfolding_all rfl); refine WE.nLocal (by walk_at "v") (by walk_at "k") ?_; refine WA.nil ?_)
  exact WM.at (parts_bad T S Ex ra hr hl hn rx ex ⟨rfl, rfl⟩) (by decide)
 ·subst e1 e2
  refine ⟨"NotEven", up07 xEven07, rfl, by decide, fun e => ?_⟩
  refine WS.cons (W1.ret (WE.callP (P := Room' 1) T (Room.mono r (by decide)).1.mark (by walk_at "k") d1 ?_))
  with_reducible (refine WA.cons ?_ (hp := by with_unfolding_all rfl); refine WE.nLocal (by walk_at "v") (by walk_at "k") ?_; refine WA.nil ?_)
  exact word_even T Ex h
end
theorem putR_neg {l o : List Int} {k : Int} : putR l o k = takR l o (-k) := by
 unfold putR takR
 refine List.map_congr_left fun q _ => ?_
 rw [Int.neg_mul]; exact Int.le_antisymm (Int.not_lt.mp fun qz => lin [] [_,_] [(1,.it (.s (.v 0) (.g (.v 1))) (.a (.v 0) (.v 1)))] rfl qz) (Int.not_lt.mp fun qz => lin [] [_,_] [(1,.it (.a (.v 0) (.v 1)) (.s (.v 0) (.g (.v 1))))] rfl qz)
theorem Row.put {n : Nat} {l o : List Int} {k : Int} (rl : Row n l) (ro : Row n o) (hk : 0 ≤ k) : Row n (putR l o k) := ⟨putR_len rl.len ro.len, fun i => by
 rw [putR_get (by rw [rl.len, ro.len])]
 have := rl.pos i
 have := Int.mul_nonneg hk (ro.pos i)
 omega⟩
theorem Even.put {E : List (List Int)} {n : Nat} {l o : List Int} {k : Int} (rl : Row n l) (ro : Row n o) (el : Even E l) (eo : Even E o) : Even E (putR l o k) := by
 rw [putR_neg]; exact Oft.even ro rl eo el
theorem Row.nought (n : Nat) : Row n (List.replicate n 0) := .of (by simp) fun x hx => by rw [(List.mem_replicate.mp hx).2]; exact Int.le_refl _
theorem Even.nought {E : List (List Int)} {n : Nat} : Even E (List.replicate n 0) := by
 rw [Even.iff]
 exact fun e _ => dot_zero_r _ _ fun x hx => (List.mem_replicate.mp hx).2
theorem row_set {xs : List Int} {p : Nat} {v : Int} (hp : p < xs.length) : (xs.map D.int).take p ++ [D.int v] ++ (xs.map D.int).drop (p + 1) = (xs.set p v).map D.int := by
 rw [List.set_eq_take_append_cons_drop, if_pos hp]
 simp
theorem Row.setAt {n p : Nat} {xs : List Int} {v : Int} (r : Row n xs) (hv : 0 ≤ v) : Row n (xs.set p v) := .of (by rw [List.length_set]; exact r.len) fun x hx => by
 rcases List.mem_or_eq_of_mem_set hx with q | q
 ·exact r.mem x q
 ·rw [q]; exact hv
theorem set_back {xs : List Int} {p : Nat} (hp : p < xs.length) : (xs.set p (xs.getD p 0 + 1)).set p ((xs.set p (xs.getD p 0 + 1)).getD p 0 - 1) = xs := by
 have e : (xs.set p (xs.getD p 0 + 1)).getD p 0 = xs.getD p 0 + 1 := by
  simp [List.getD_eq_getElem?_getD, hp]
 rw [e, List.set_set, show xs.getD p 0 + 1 - 1 = xs.getD p 0 by exact Int.le_antisymm (Int.not_lt.mp fun qz => lin [] [_] [(1,.it (.v 0) (.s (.a (.v 0) (.n 1)) (.n 1)))] rfl qz) (Int.not_lt.mp fun qz => lin [] [_] [(1,.it (.s (.a (.v 0) (.n 1)) (.n 1)) (.v 0))] rfl qz), List.getD_eq_getElem?_getD, List.getElem?_eq_getElem hp]
 simp
theorem maxL_zero {n : Nat} (h : 1 ≤ n) : maxL (List.replicate n 0) = 0 := by
 obtain ⟨k, rfl⟩ : ∃ k, n = k + 1 := ⟨n - 1, by exact ((Nat.sub_add_cancel (Nat.not_lt.mp fun qz => lin [_] [] [(1,.nt (.v 0) (.n 1)),(1,.nl (.n 1) (.v 0))] rfl qz h))).symm⟩
 have : ∀ k : Nat, (List.replicate k (0 : Int)).foldl max 0 = 0 := by
  intro k
  induction k with
  | zero => rfl
  | succ k ih => rw [List.replicate_succ, List.foldl_cons]; exact ih
 exact this k
theorem minL_row {n : Nat} {s : List Int} (h : Row n s) (hn : 1 ≤ n) : 0 ≤ minL s := by
 have hne : s ≠ [] := fun e => by have := h.len; rw [e] at this; simp at this; exact lin [_] [] [(1,.nf (.n 0) (.v 0)),(1,.nl (.n 1) (.v 0))] rfl this hn
 exact h.mem _ (minL_mem hne)
section
variable {c : Cx} {σ : Sto} {X : Addr → Sto → Prop} {Q : D → Sto → Prop} {K Kx : Frag} {C : Addr}
theorem law_row_ {S : List Int} {E out : List (List Int)} {n : Nat} (T : Tp c B07 N07) (hS : S.length ≤ 63) (F : Fits6 E n) (L : Lst E n out) (hn : n < 100) (h : ∀ xs, Row n xs → Even E xs → Q (row xs) σ) : WF c (Room 3) "_law_row" [.lst (S.map .int), .lst (out.map row), .int n] σ Q X := by
 refine WF.by 43 T rfl (bind3 fun _ _ _ _ _ _ => rfl) (by rfl) rfl fun A fr env r hh hs fe => ?_
 have d1 : Dfn c "_law_number" := Dfn.by 33 T rfl
 have few := L.few
 with_reducible (refine WS.cons ?_; refine W1.assign ?_ (by walk_at "k2") (by with_unfolding_all rfl); refine WE.binop ?_; refine WE.list ?_; refine WA.cons ?_ (hp := by with_unfolding_all rfl); refine WE.kInt ?_; refine WA.nil ?_)
 refine ⟨by simp [sizeLine], .inl ?_⟩
 with_reducible (refine WE.nLocal (by walk_at "v") (by walk_at "k") ?_)
 refine WB.mulL (sd := .lst _) rfl trivial (by omega) (by omega) (by simp only [SD.ds, List.length_cons, List.length_nil]; omega) (.inl ?_)
 simp only [SD.ds, Int.toNat_natCast]
 rw [flat_rep]
 with_reducible (refine WS.cons ?_; refine W1.forL (by assumption) ?_ (hs := by with_unfolding_all (intro _; rfl)); refine WIt.enum (by assumption) (by assumption) (by walk_at "k") (by with_unfolding_all rfl) ?_ (hp := by with_unfolding_all rfl); refine WE.nLocal (by walk_at "v") (by walk_at "k") ?_)
 refine ⟨_, .lst _, out, row, rfl, rfl, rfl, trivial, ?_⟩
 refine Loop.of (fun k m' σ' => σ' = σ ∧ has m' "_law_script" (.lst (S.map D.int)) ∧ ∃ xs, Row n xs ∧ Even E xs ∧ has m' "_law_row_here" (il xs)) (fun _ _ => kinds2 (by walk_at "k2") (by walk_at "k2")) ⟨rfl, by walk_at "v", _, Row.nought n, Even.nought, by walk_at "v"⟩ (fun _ _ _ _ => trivial) (fun k p m' σ' hk hL fr' => ?_) (fun m' σ' hL => ?_)
 ·obtain ⟨rfl, e0, xs, rx, ex, e1⟩ := hL
  obtain ⟨w, k', hwk⟩ : ∃ w k', p = (w, k') := ⟨_, _, rfl⟩
  subst hwk
  rw [List.getElem?_zipIdx] at hk
  obtain ⟨w', hw', hp⟩ := Option.map_eq_some_iff.mp hk
  have hk' : k' = k := by injection hp with h1 h2; exact Nat.le_antisymm (Nat.not_lt.mp fun qz => lin [_,_] [] [(1,.nt (.v 0) (.v 1)),(1,.nf (.a (.n 0) (.v 0)) (.v 1))] rfl qz h2) (Nat.not_lt.mp fun qz => lin [_,_] [] [(1,.nt (.v 0) (.v 1)),(1,.ne (.a (.n 0) (.v 1)) (.v 0))] rfl qz h2)
  have hw'' : w' = w := by injection hp
  subst hk'; subst hw''
  have hle := (L.mem w').mp (List.mem_of_getElem? hw')
  have hlt : k' < out.length := (List.getElem?_eq_some_iff.mp hw').1
  with_reducible (refine WS.cons ?_; refine W1.assign ?_ (by walk_at "k2") (by with_unfolding_all rfl); refine WE.callN (by assumption) (by assumption) (by walk_at "k") (by assumption) ?_ (hp := by with_unfolding_all rfl); refine WA.cons ?_ (hp := by with_unfolding_all rfl); refine WE.nLocal (by walk_at "v") (by walk_at "k") ?_; refine WA.cons ?_ (hp := by with_unfolding_all rfl); refine WE.binop ?_; refine WE.kInt ?_; refine WE.nLocal (by walk_at "v") (by walk_at "k") ?_; refine WB.add ?_; refine WA.nil ?_)
  refine WF.at (number_ T hS (by simp only; exact Int.not_lt.mp fun qz => lin [_] [] [(1,.it (.a (.n 20) (.c (.v 0))) (.n 0))] rfl qz) (by simp only; omega) ?_) (by decide)
  simp only
  generalize numS S (20 + (k' : Int)) = N
  with_reducible (refine WS.cons ?_; refine W1.assign ?_ (by walk_at "k2") (by with_unfolding_all rfl); refine WE.sub ?_; refine WE.list ?_; refine WA.cons ?_ (hp := by with_unfolding_all rfl); refine WE.binop ?_; refine WE.binop ?_; refine WE.nLocal (by walk_at "v") (by walk_at "k") ?_; refine WE.kInt ?_; refine WB.fdivE (by with_unfolding_all decide) (by with_unfolding_all decide) ?_; refine WE.kInt ?_; refine WB.modE (by with_unfolding_all decide) (by with_unfolding_all decide) ?_; refine WA.cons ?_ (hp := by with_unfolding_all rfl); refine WE.binop ?_; refine WE.binop ?_; refine WE.nLocal (by walk_at "v") (by walk_at "k") ?_; refine WE.kInt ?_; refine WB.fdivE (by with_unfolding_all decide) (by with_unfolding_all decide) ?_; refine WE.kInt ?_; refine WB.modE (by with_unfolding_all decide) (by with_unfolding_all decide) ?_; refine WA.cons ?_ (hp := by with_unfolding_all rfl); refine WE.kInt ?_; refine WA.cons ?_ (hp := by with_unfolding_all rfl); refine WE.binop ?_; refine WE.binop ?_; refine WE.nLocal (by walk_at "v") (by walk_at "k") ?_; refine WE.kInt ?_; refine WB.fdivE (by with_unfolding_all decide) (by with_unfolding_all decide) ?_; refine WE.kInt ?_; refine WB.modE (by with_unfolding_all decide) (by with_unfolding_all decide) ?_; refine WA.nil ?_)
  refine ⟨by simp [sizeLine], .inl ?_⟩
  with_reducible (refine WE.binop ?_; refine WE.nLocal (by walk_at "v") (by walk_at "k") ?_; refine WE.kInt ?_; refine WB.modE (by with_unfolding_all decide) (by with_unfolding_all decide) ?_)
  obtain ⟨j, hj, ej⟩ : ∃ j : Nat, j < 4 ∧ N % 4 = j := ⟨(N % 4).toNat, by omega, by omega⟩
  rw [ej]
  obtain ⟨o, ho, eo⟩ : ∃ o : Int, 0 ≤ o ∧ [D.int (N / 4 % 4), D.int (N / 4 % 2), D.int 0, D.int (N / 4 % 1000001)][j]? = some (.int o) := by
   match j, hj with
   | 0, _ => exact ⟨_, by omega, rfl⟩
   | 1, _ => exact ⟨_, by omega, rfl⟩
   | 2, _ => exact ⟨_, by exact Int.not_lt.mp fun qz => lin [] [] [(1,.it (.n 0) (.n 0))] rfl qz, rfl⟩
   | 3, _ => exact ⟨_, by omega, rfl⟩
  refine WSb.at (sd := .lst _) rfl trivial eo (by omega) ?_
  with_reducible (refine WS.cons ?_; refine W1.assignC (by assumption) ?_ (by with_unfolding_all rfl) (by with_unfolding_all rfl) (by with_unfolding_all rfl) (hs := by with_unfolding_all (intro _; rfl)); refine WIt.zipX (by assumption) (by assumption) (by walk_at "k") (by with_unfolding_all rfl) ?_ (hp := by with_unfolding_all rfl); refine WE.nLocal (by walk_at "v") (by walk_at "k") ?_; refine WE.nLocal (by walk_at "v") (by walk_at "k") ?_)
  refine ⟨_, _, .lst _, .tup _, xs, w', D.int, D.int, rfl, rfl, rfl, rfl, trivial, trivial, Turns.map (fun q => .int (q.1 + o * q.2)) (fun _ _ => loc2 rfl rfl) ⟨trivial, trivial⟩ (by rw [List.length_zip, rx.len]; simp only [sizeLine]; omega) (fun x hx fr' cenv hc => ?_) (.inl ?_)⟩
  ·have hc := relab_of hc hs
   with_reducible (refine WE.binop ?_; refine WE.nLocal (by walk_at "v") (by walk_at "k") ?_; refine WE.binop ?_; refine WE.nCell (by walk_at "v") (by walk_at "k") ?_; refine WE.nLocal (by walk_at "v") (by walk_at "k") ?_)
   refine WB.mul (mulOk_right (small_least F hle _ (List.of_mem_zip hx).2)) ?_
   with_reducible (refine WB.add ?_)
   exact ⟨rfl, rfl⟩
  ·with_reducible (refine WS.nil ?_)
   refine ⟨rfl, by walk_at "v", putR xs w' o, rx.put hle.row ho, Even.put rx hle.row ex hle.even, ?_⟩
   unfold putR il
   rw [List.map_map]
   exact lk_here
 ·obtain ⟨rfl, e0, xs, rx, ex, e1⟩ := hL
  with_reducible (refine WS.cons ?_; refine W1.ret ?_; refine WE.callY (by assumption) (by walk_at "k") (by with_unfolding_all rfl) ?_ (hp := by with_unfolding_all rfl); refine WA.cons ?_ (hp := by with_unfolding_all rfl); refine WE.nLocal (by walk_at "v") (by walk_at "k") ?_; refine WA.nil ?_)
  refine At1.tuple (sd := .lst _) trivial (by simp only [SD.ds, List.length_map, rx.len, sizeLine]; omega) ?_
  exact h xs rx ex
theorem are_parts_ {sd : SD} {E out : List (List Int)} {xs ks : List Int} {n : Nat} (T : Tp c B07 N07) (F : Fits6 E n) (L : Lst E n out) (hg : Good out xs ks) (rx : Row n xs) (ex : Even E xs) (hn : n < 100) (h1 : 1 ≤ n) (hL : sd.isL = true) (hd : sd.ds = ks.map D.int) (hi : sd.inv σ) (h : Q (.bool true) σ) :
  WF c (Room 2) "_law_are_parts" [.lst (out.map row), row xs, sd.d] σ Q X := by
 refine WF.by 45 T rfl (bind3 fun _ _ _ _ _ _ => rfl) (by rfl) rfl fun A fr env r hh hs fe => ?_
 have d1 : Dfn c "_law_whole" := Dfn.by 32 T rfl
 have d2 : Dfn c "_law_within" := Dfn.by 39 T rfl
 have few := L.few
 have hkl := hg.len
 have ro : ∀ o ∈ out, Row n o := fun o ho => ((L.mem o).mp ho).row
 with_reducible (refine WS.cons ?_; refine W1.ite ?_; refine WT.boolop ?_; refine WTs.or ?_; refine WT.not ?_; refine WT.plain ?_ (he := by with_unfolding_all (intro _; rfl)); refine WE.callI (by assumption) (by walk_at "k") (by with_unfolding_all rfl) ?_ (hp := by with_unfolding_all rfl); refine WA.cons ?_ (hp := by with_unfolding_all rfl); refine WE.nLocal (by walk_at "v") (by walk_at "k") ?_; refine WA.cons ?_ (hp := by with_unfolding_all rfl); refine WE.nType (Tp.good (by assumption)) (by walk_at "k") (Tp.bn (by assumption) _ _ (by with_unfolding_all rfl)).1 (Tp.bn (by assumption) _ _ (by with_unfolding_all rfl)).2 ?_; refine WA.nil ?_)
 refine At1.isiL hL hi ?_
 with_reducible (refine WTr.bool ?_; refine ite_nt ?_; refine WTs.or ?_; refine WT.compare ?_ (hb := by with_unfolding_all rfl); refine WE.callI (by assumption) (by walk_at "k") (by with_unfolding_all rfl) ?_ (hp := by with_unfolding_all rfl); refine WA.cons ?_ (hp := by with_unfolding_all rfl); refine WE.nLocal (by walk_at "v") (by walk_at "k") ?_; refine WA.nil ?_)
 refine At1.len hi (by rw [hd, List.length_map]; omega) ?_
 rw [show (sd.ds.length : Int) = out.length by rw [hd, List.length_map, hkl]]
 with_reducible (refine WE.callI (by assumption) (by walk_at "k") (by with_unfolding_all rfl) ?_ (hp := by with_unfolding_all rfl); refine WA.cons ?_ (hp := by with_unfolding_all rfl); refine WE.nLocal (by walk_at "v") (by walk_at "k") ?_; refine WA.nil ?_)
 refine At1.len (sd := .lst _) trivial (by simp only [SD.ds, List.length_map]; omega) ?_
 rw [show ((SD.lst (out.map row)).ds.length : Int) = out.length by simp [SD.ds]]
 with_reducible (refine WB.neI ?_; refine WTr.bool ?_)
 rw [show ((out.length : Int) != out.length) = false by simp]
 with_reducible (refine ite_f ?_; refine WTs.nilOr ?_; refine ite_f ?_; refine WS.nil ?_; refine WS.cons ?_; refine W1.assign ?_ (by walk_at "k2") (by with_unfolding_all rfl); refine WE.nLocal (by walk_at "v") (by walk_at "k") ?_; refine WS.cons ?_; refine W1.forL (by assumption) ?_ (hs := by with_unfolding_all (intro _; rfl)); refine WIt.zipX (by assumption) (by assumption) (by walk_at "k") (by with_unfolding_all rfl) ?_ (hp := by with_unfolding_all rfl); refine WE.nLocal (by walk_at "v") (by walk_at "k") ?_; refine WE.nLocal (by walk_at "v") (by walk_at "k") ?_)
 refine ⟨_, _, .lst _, sd, out, ks, row, D.int, rfl, rfl, rfl, hd, trivial, hi, ?_⟩
 refine Loop.of (fun j m' σ' => σ' = σ ∧ j ≤ out.length ∧ has m' "_law_left" (row (lefF xs (out.take j) (ks.take j)))) (fun _ _ => kinds2 (by walk_at "k2") (by walk_at "k2")) ⟨rfl, Nat.zero_le _, by simp [lefF]; walk_at "v"⟩ (fun _ _ _ hL => by rw [hL.1]; exact ⟨trivial, hi⟩) (fun j q m' σ' hq hL fr' => ?_) (fun m' σ' hL => ?_)
 ·obtain ⟨rfl, hj, e1⟩ := hL
  obtain ⟨o, k⟩ := q
  obtain ⟨z1, z2⟩ := List.getElem?_zip_eq_some.mp hq
  simp only at z1 z2
  have hlt : j < out.length := (List.getElem?_eq_some_iff.mp z1).1
  have ho := (L.mem o).mp (List.mem_of_getElem? z1)
  have hof := hg.oft j o k z1 z2
  have hnx := lefF_next (l := xs) z1 z2
  have rm := (hg.all rx ro j (by exact Nat.le_of_lt hlt)).1
  have rm2 := (hg.all rx ro (j + 1) (by exact hlt)).1
  have hno := (hg.all rx ro (j + 1) (by exact hlt)).2.2 j o (by exact Nat.not_le.mp fun qz => lin [_] [] [(1,.nl (.a (.v 0) (.n 1)) (.v 0))] rfl qz) z1
  rw [hnx] at rm2 hno
  with_reducible (refine WS.cons ?_; refine W1.ite ?_; refine WT.boolop ?_; refine WTs.or ?_; refine WT.not ?_; refine WT.plain ?_ (he := by with_unfolding_all (intro _; rfl)); refine WE.callN (by assumption) (by assumption) (by walk_at "k") (by assumption) ?_ (hp := by with_unfolding_all rfl); refine WA.cons ?_ (hp := by with_unfolding_all rfl); refine WE.nCell (by walk_at "v") (by walk_at "k") ?_; refine WA.nil ?_)
  refine WF.at (whole_ T ?_) (by decide)
  with_reducible (refine WTr.bool ?_; refine ite_nt ?_; refine WTs.or ?_; refine WT.compare ?_ (hb := by with_unfolding_all rfl); refine WE.nCell (by walk_at "v") (by walk_at "k") ?_; refine WE.kInt ?_; refine WB.lt ?_; refine WTr.bool ?_)
  rw [show decide (((o, k) : List Int × Int).snd < 0) = false from decide_eq_false (by have := hof.lo; simp only; exact fun qz => lin [] [_] [(1,.it (.v 0) (.n 0)),(1,.il (.n 0) (.v 0))] rfl qz this)]
  with_reducible (refine ite_f ?_; refine WTs.nilOr ?_; refine ite_f ?_; refine WS.nil ?_; refine WS.cons ?_; refine W1.assign ?_ (by walk_at "k2") (by with_unfolding_all rfl); refine WE.callY (by assumption) (by walk_at "k") (by with_unfolding_all rfl) ?_ (hp := by with_unfolding_all rfl); refine WA.cons ?_ (hp := by with_unfolding_all rfl); refine WE.comp ?_ (by with_unfolding_all rfl) (by with_unfolding_all exact freeOk_of (by assumption) (by rfl)) (hs := by with_unfolding_all (intro _; rfl)); refine WIt.zipX (by assumption) (by assumption) (by walk_at "k") (by with_unfolding_all rfl) ?_ (hp := by with_unfolding_all rfl); refine WE.nLocal (by walk_at "v") (by walk_at "k") ?_; refine WE.nLocal (by walk_at "v") (by walk_at "k") ?_)
  refine ⟨_, _, .tup _, .tup _, _, o, D.int, D.int, rfl, rfl, rfl, rfl, trivial, trivial, Turns.map (fun q => .int (q.1 - k * q.2)) (fun _ _ => loc2 rfl rfl) ⟨trivial, trivial⟩ (by rw [List.length_zip, rm.len]; simp only [sizeLine]; omega) (fun x hx fr' cenv hc => ?_) (.inl ?_)⟩
  ·have hc := relab_of hc hs
   with_reducible (refine WE.binop ?_; refine WE.nLocal (by walk_at "v") (by walk_at "k") ?_; refine WE.binop ?_; refine WE.nCell (by walk_at "v") (by walk_at "k") ?_; refine WE.nLocal (by walk_at "v") (by walk_at "k") ?_)
   refine WB.mul (mulOk_right (small_least F ho _ (List.of_mem_zip hx).2)) ?_
   with_reducible (refine WB.sub ?_)
   exact ⟨rfl, rfl⟩
  with_reducible (refine WA.nil ?_)
  refine At1.tuple (sd := .lst _) trivial (by simp only [SD.ds, List.length_map, List.length_zip, rm.len, sizeLine]; omega) ?_
  simp only [SD.ds]
  rw [show ((lefF xs (out.take j) (ks.take j)).zip o).map (fun q => D.int (q.1 - k * q.2)) = (takR (lefF xs (out.take j) (ks.take j)) o k).map D.int by unfold takR; rw [List.map_map]; rfl]
  with_reducible (refine WS.cons ?_; refine W1.ite ?_; refine WT.boolop ?_; refine WTs.or ?_; refine WT.compare ?_ (hb := by with_unfolding_all rfl); refine WE.callI (by assumption) (by walk_at "k") (by with_unfolding_all rfl) ?_ (hp := by with_unfolding_all rfl); refine WA.cons ?_ (hp := by with_unfolding_all rfl); refine WE.nLocal (by walk_at "v") (by walk_at "k") ?_; refine WA.nil ?_)
  refine At1.min (sd := .tup _) (l := takR (lefF xs (out.take j) (ks.take j)) o k) hh rfl (fun e => by have := rm2.len; rw [e] at this; simp at this; exact lin [_] [] [(1,.nf (.n 0) (.v 0)),(1,.nl (.n 1) (.v 0))] rfl this h1) trivial ?_
  with_reducible (refine WE.kInt ?_; refine WB.lt ?_; refine WTr.bool ?_)
  rw [decide_eq_false (by have := minL_row rm2 h1; exact fun qz => lin [] [_] [(1,.it (.v 0) (.n 0)),(1,.il (.n 0) (.v 0))] rfl qz this)]
  with_reducible (refine ite_f ?_; refine WTs.or ?_; refine WT.plain ?_ (he := by with_unfolding_all (intro _; rfl)); refine WE.callN (by assumption) (by assumption) (by walk_at "k") (by assumption) ?_ (hp := by with_unfolding_all rfl); refine WA.cons ?_ (hp := by with_unfolding_all rfl); refine WE.nLocal (by walk_at "v") (by walk_at "k") ?_; refine WA.cons ?_ (hp := by with_unfolding_all rfl); refine WE.nLocal (by walk_at "v") (by walk_at "k") ?_; refine WA.nil ?_)
  refine WF.at (lawWithin_ T ?_) (by decide)
  rw [show inR o (takR (lefF xs (out.take j) (ks.take j)) o k) = false from by
   cases q : inR o (takR (lefF xs (out.take j) (ks.take j)) o k) with
   | false => rfl
   | true => exact absurd ((ho.row.inR rm2).mp q) hno]
  with_reducible (refine WTr.bool ?_; refine ite_f ?_; refine WTs.nilOr ?_; refine ite_f ?_; refine WS.nil ?_; refine WS.nil ?_)
  refine ⟨rfl, hlt, ?_⟩
  rw [hnx]
  walk_at "v"
 ·obtain ⟨rfl, hj, e1⟩ := hL
  rw [List.length_zip, hkl, Nat.min_self, List.take_length, ← hkl, List.take_length, hg.done rx ex L.mem] at e1
  with_reducible (refine WS.cons ?_; refine W1.ret ?_; refine WE.compare ?_ (hb := by with_unfolding_all rfl); refine WE.callI (by assumption) (by walk_at "k") (by with_unfolding_all rfl) ?_ (hp := by with_unfolding_all rfl); refine WA.cons ?_ (hp := by with_unfolding_all rfl); refine WE.nLocal (by walk_at "v") (by walk_at "k") ?_; refine WA.nil ?_)
  refine At1.max (sd := .tup _) (l := List.replicate n 0) hh rfl (fun e => by have := congrArg List.length e; simp at this; exact lin [_] [] [(1,.ne (.v 0) (.n 0)),(1,.nl (.n 1) (.v 0))] rfl this h1) trivial ?_
  rw [maxL_zero h1]
  with_reducible (refine WE.kInt ?_; refine WB.eqI ?_)
  exact h
end
theorem eqv_str (x : Str) : PyData.eqv (.str x) (.str x) = true := by simp [PyData.eqv]
theorem even_ok : PyData.strOk (Str.ofString "even") = true := by kernel_rfl
section
variable {c : Cx} {σ : Sto} {X : Addr → Sto → Prop} {Q : D → Sto → Prop} {K Kx : Frag} {C : Addr}
theorem law_ {S : List Int} (T : Tp c B07 N07) (G : Gi c G07) (Sy : Ks c K C "System" Bd07) (Ex : Xs c Kx E07) (ra : Rai c "NotEven") (hS : S.length ≤ 63) : WF c (Room 14) "law" [.lst (S.map .int)] [] (fun d _ => d = .bool true) X := by
 refine WF.by 46 T rfl (bind1 fun _ _ _ _ => rfl) (by rfl) rfl fun A fr env r hh hs fe => ?_
 walk_at "m"
 have d0 : Dfn c "_law_cell_at" := Dfn.by 31 T rfl
 have d1 : Dfn c "_law_row" := Dfn.by 43 T rfl
 have d2 : Dfn c "_law_size" := Dfn.by 34 T rfl
 have d3 : Dfn c "_law_system" := Dfn.by 36 T rfl
 have d4 : Dfn c "_law_told" := Dfn.by 44 T rfl
 have d5 : Dfn c "_law_are_parts" := Dfn.by 45 T rfl
 have d6 : Dfn c "_law_is_even" := Dfn.by 38 T rfl
 have m1 : Mth K C "__init__" := Mth.by 0 Sy rfl
 have m3 : Mth K C "least" := Mth.by 5 Sy rfl
 with_reducible (refine WS.cons ?_; refine W1.assign ?_ (by walk_at "k2") (by with_unfolding_all rfl); refine WE.callN (by assumption) (by assumption) (by walk_at "k") (by assumption) ?_ (hp := by with_unfolding_all rfl); refine WA.cons ?_ (hp := by with_unfolding_all rfl); refine WE.nLocal (by walk_at "v") (by walk_at "k") ?_; refine WA.nil ?_)
 refine WF.at (size_ T hS ?_) (by decide)
 with_reducible (refine WS.cons ?_; refine W1.assign ?_ (by walk_at "k2") (by with_unfolding_all rfl); refine WE.callN (by assumption) (by assumption) (by walk_at "k") (by assumption) ?_ (hp := by with_unfolding_all rfl); refine WA.cons ?_ (hp := by with_unfolding_all rfl); refine WE.nLocal (by walk_at "v") (by walk_at "k") ?_; refine WA.nil ?_)
 refine WF.at (system_ T hS fun rows hrl hr => ?_) (by decide)
 have hn := szS_ok S
 have hm := manyS_ok S
 have hq := mostN_ok (szS S) (manyS S)
 have F : Fits6 rows (szS S) := Fits6.base hn.1 hn.2 (fun e he => (hr e he).1) (by exact Nat.le_trans (Nat.le_of_eq hrl) hm) (by rw [hrl]; exact fun e he => (hr e he).2)
 have hl3 : rows.length ≤ 3 := by exact Nat.le_trans (Nat.le_of_eq hrl) hm
 have hok : ∀ e ∈ rows, okW (szS S) e := fun e he => okW_of (hr e he) hq.2
 generalize szS S = n at hn hok F ⊢
 clear hr hq hrl hm
 have hsm : ∀ r ∈ rows, small r ∧ r.length < 100 := fun x hx => small_of (hok x hx) hn.2
 with_reducible (refine WS.cons ?_; refine W1.assign ?_ (by walk_at "k2") (by with_unfolding_all rfl); refine WE.callC (by assumption) (by assumption) (by assumption) (by walk_at "k") (by assumption) ?_ (hp := by with_unfolding_all rfl); refine WA.cons ?_ (hp := by with_unfolding_all rfl); refine WE.nLocal (by walk_at "v") (by walk_at "k") ?_; refine WA.cons ?_ (hp := by with_unfolding_all rfl); refine WE.comp ?_ (by with_unfolding_all rfl) (by with_unfolding_all exact freeOk_of (by assumption) (by rfl)) (hs := by with_unfolding_all (intro _; rfl)); refine WIt.of ?_; refine WE.nLocal (by walk_at "v") (by walk_at "k") ?_)
 refine WIv.seq (sd := .lst _) il hh rfl trivial (Turns.map (fun w => il w) (fun _ _ => loc1 rfl) trivial (by walk_at "z") (fun w hw fr' cenv hc => ?_) (.inl ?_))
 ·have hc := relab_of hc hs
  have := (hok w hw).1
  with_reducible (refine WE.callY (by assumption) (by walk_at "k") (by with_unfolding_all rfl) ?_ (hp := by with_unfolding_all rfl); refine WA.cons ?_ (hp := by with_unfolding_all rfl); refine WE.nLocal (by walk_at "v") (by walk_at "k") ?_; refine WA.nil ?_)
  refine At1.list (sd := .lst _) trivial (by walk_at "z") (.inl ⟨rfl, rfl⟩)
 with_reducible (refine WA.nil ?_)
 intro dx hdx
 refine WM.at (new_ (sd := .lst _) (ws := lstW rows) T G Sy rfl trivial lstW_d ⟨fun w hw => ⟨(lstW_ok hw).1, hok _ (lstW_ok (σ := []) hw).2⟩, by rw [lstW_len]; exact hl3⟩ hn.1 hn.2 ?_ dx) (by decide)
 rw [lstW_2]
 with_reducible (refine WS.cons ?_; refine W1.assign ?_ (by walk_at "k2") (by with_unfolding_all rfl); refine WE.mth (by assumption) (by assumption) (by assumption) ?_ (h1 := by with_unfolding_all decide) (h2 := by with_unfolding_all decide) (hp := by with_unfolding_all rfl) (hb := by with_unfolding_all (intro _; rfl)) (hl := by with_unfolding_all rfl) (hn := by with_unfolding_all rfl); refine WE.nLocal (by walk_at "v") (by walk_at "k") ?_; refine AtSys.mk ?_; refine WA.nil ?_)
 refine WM.at (least_ T Sy F hsm (by exact Nat.lt_of_le_of_lt hl3 (by decide)) (by exact Nat.lt_of_le_of_lt hn.2 (by decide)) hn.1 fun out L => .inl ?_) (by decide)
 have few := L.few
 with_reducible (refine WS.cons ?_; refine W1.assign ?_ (by walk_at "k2") (by with_unfolding_all rfl); refine WE.callN (by assumption) (by assumption) (by walk_at "k") (by assumption) ?_ (hp := by with_unfolding_all rfl); refine WA.cons ?_ (hp := by with_unfolding_all rfl); refine WE.nLocal (by walk_at "v") (by walk_at "k") ?_; refine WA.cons ?_ (hp := by with_unfolding_all rfl); refine WE.nLocal (by walk_at "v") (by walk_at "k") ?_; refine WA.cons ?_ (hp := by with_unfolding_all rfl); refine WE.nLocal (by walk_at "v") (by walk_at "k") ?_; refine WA.nil ?_)
 refine WF.at (law_row_ T hS F L (by exact Nat.lt_of_le_of_lt hn.2 (by decide)) fun xs rx ex => ?_) (by decide)
 with_reducible (refine WS.cons ?_; refine W1.forL (by assumption) ?_ (hs := by with_unfolding_all (intro _; rfl)); refine WIt.range (by assumption) (by assumption) (by walk_at "k") (by with_unfolding_all rfl) ?_ (hp := by with_unfolding_all rfl); refine WE.kInt ?_)
 refine ⟨_, rfl, by decide, by decide, ?_⟩
 refine Loop.of (fun k m' σ' => σ' = [] ∧ has m' "_law_system_here" (sy C n rows) ∧ has m' "_law_size_here" (.int n) ∧ has m' "_law_equations" (rl rows) ∧ has m' "_law_ones" (.lst (out.map row)) ∧ has m' "_law_row_here" (row xs) ∧ has m' "_law_script" (.lst (S.map D.int))) (fun _ _ => kinds1 (by walk_at "k2")) ⟨rfl, by walk_at "v", by walk_at "v", by walk_at "v", by walk_at "v", by walk_at "v", by walk_at "v"⟩ (fun _ _ _ hL => trivial) (fun k i m' σ' hk hL fr' => ?_) (fun m' σ' hL => ?_)
 ·obtain ⟨rfl, e1, e2, e3, e4, e5, e6⟩ := hL
  with_reducible (refine WS.cons ?_; refine W1.assign ?_ (by walk_at "k2") (by with_unfolding_all rfl); refine WE.callN (by assumption) (by assumption) (by walk_at "k") (by assumption) ?_ (hp := by with_unfolding_all rfl); refine WA.cons ?_ (hp := by with_unfolding_all rfl); refine WE.nLocal (by walk_at "v") (by walk_at "k") ?_; refine WA.cons ?_ (hp := by with_unfolding_all rfl); refine WE.nLocal (by walk_at "v") (by walk_at "k") ?_; refine WA.nil ?_)
  refine WF.at (told_ T Sy Ex F hsm (by exact Nat.lt_of_le_of_lt hl3 (by decide)) (by exact Nat.lt_of_le_of_lt hn.2 (by decide)) hn.1 rx ex fun out1 ks L1 hg => .inr fun a ha => ?_) (by decide)
  have eo := L1.eq L
  subst eo
  have hkl := hg.len
  with_reducible (refine WS.cons ?_; refine W1.ite ?_; refine WT.not ?_; refine WT.plain ?_ (he := by with_unfolding_all (intro _; rfl)); refine WE.callN (by assumption) (by assumption) (by walk_at "k") (by assumption) ?_ (hp := by with_unfolding_all rfl); refine WA.cons ?_ (hp := by with_unfolding_all rfl); refine WE.nLocal (by walk_at "v") (by walk_at "k") ?_; refine WA.cons ?_ (hp := by with_unfolding_all rfl); refine WE.nLocal (by walk_at "v") (by walk_at "k") ?_; refine WA.cons ?_ (hp := by with_unfolding_all rfl); refine WE.nLocal (by walk_at "v") (by walk_at "k") ?_; refine WA.nil ?_)
  refine WF.at (are_parts_ (sd := .ref a _) T F L hg rx ex (by exact Nat.lt_of_le_of_lt hn.2 (by decide)) hn.1 rfl rfl List.mem_cons_self ?_) (by decide)
  with_reducible (refine WTr.bool ?_; refine ite_nt ?_; refine WS.nil ?_; refine WS.cons ?_; refine W1.expr ?_ (by with_unfolding_all rfl); refine WE.methL PySem.F.slot_list_append (by with_unfolding_all rfl) ?_ (hp := by with_unfolding_all rfl) (hb := by with_unfolding_all (intro _; rfl)) (hl := by with_unfolding_all rfl) (hn := by with_unfolding_all rfl); refine WE.nLocal (by walk_at "v") (by walk_at "k") ?_)
  refine ⟨.ref a _, rfl, rfl, List.mem_cons_self, ?_⟩
  with_reducible (refine WA.cons ?_ (hp := by with_unfolding_all rfl); refine WE.kInt ?_; refine WA.nil ?_)
  refine At1.append (σ1 := []) (by simp only [List.length_map, sizeLine]; omega) ?_
  refine WS.forget (List.nil_sublist _) ?_
  with_reducible (refine WS.nil ?_)
  exact ⟨rfl, by walk_at "v", by walk_at "v", by walk_at "v", by walk_at "v", by walk_at "v", by walk_at "v"⟩
 ·obtain ⟨rfl, e1, e2, e3, e4, e5, e6⟩ := hL
  with_reducible (refine WS.cons ?_; refine W1.assign ?_ (by walk_at "k2") (by with_unfolding_all rfl); refine WE.binop ?_; refine WE.callN (by assumption) (by assumption) (by walk_at "k") (by assumption) ?_ (hp := by with_unfolding_all rfl); refine WA.cons ?_ (hp := by with_unfolding_all rfl); refine WE.nLocal (by walk_at "v") (by walk_at "k") ?_; refine WA.cons ?_ (hp := by with_unfolding_all rfl); refine WE.kInt ?_; refine WA.nil ?_)
  refine WF.at (cell_at_ T hS (by decide) (by decide) ?_) (by decide)
  with_reducible (refine WE.nLocal (by walk_at "v") (by walk_at "k") ?_)
  refine WB.modE (by exact Int.not_le.mp fun qz => lin [_] [] [(1,.il (.c (.v 0)) (.n 0)),(1,.nl (.n 1) (.v 0))] rfl qz hn.1) (by omega) ?_
  obtain ⟨p, hp, ep⟩ : ∃ p : Nat, p < n ∧ S.getD (Int.toNat 2) 0 % (n : Int) = p := by
   have h1 := Int.emod_nonneg (S.getD (Int.toNat 2) 0) (show (n : Int) ≠ 0 by exact fun qz => lin [_] [] [(1,.ie (.c (.v 0)) (.n 0)),(1,.nl (.n 1) (.v 0))] rfl qz hn.1)
   have h2 := Int.emod_lt_of_pos (S.getD (Int.toNat 2) 0) (show (0 : Int) < n by exact Int.not_le.mp fun qz => lin [_] [] [(1,.il (.c (.v 0)) (.n 0)),(1,.nl (.n 1) (.v 0))] rfl qz hn.1)
   exact ⟨(S.getD (Int.toNat 2) 0 % (n : Int)).toNat, by omega, by omega⟩
  rw [ep]
  have hxl := rx.len
  with_reducible (refine WS.cons ?_; refine W1.assign ?_ (by walk_at "k2") (by with_unfolding_all rfl); refine WE.binop ?_; refine WE.binop ?_; refine WE.sliceTu ?_ (ht := by with_unfolding_all (intro _ _; rfl)); refine WE.nLocal (by walk_at "v") (by walk_at "k") ?_; refine WE.nLocal (by walk_at "v") (by walk_at "k") ?_)
  refine ⟨_, p, rfl, rfl, by simp only [List.length_map]; exact Nat.le_of_lt (Nat.lt_of_lt_of_le hp (Nat.le_of_eq hxl.symm)), by simp only [List.length_map, sizeLine]; omega, ?_⟩
  with_reducible (refine WE.tuple ?_; refine WA.cons ?_ (hp := by with_unfolding_all rfl); refine WE.binop ?_; refine WE.sub ?_; refine WE.nLocal (by walk_at "v") (by walk_at "k") ?_; refine WE.nLocal (by walk_at "v") (by walk_at "k") ?_)
  refine WSb.at (sd := .tup _) rfl trivial (getD_row hxl hp) (by omega) ?_
  with_reducible (refine WE.kInt ?_; refine WB.add ?_; refine WA.nil ?_)
  refine ⟨by simp [sizeLine], ?_⟩
  refine WB.addTs (by simp only [List.length_take, List.length_map, List.length_cons, List.length_nil, sizeLine]; omega) ?_
  with_reducible (refine WE.sliceTf ?_ (ht := by with_unfolding_all (intro _ _; rfl)); refine WE.nLocal (by walk_at "v") (by walk_at "k") ?_; refine WE.binop ?_; refine WE.nLocal (by walk_at "v") (by walk_at "k") ?_; refine WE.kInt ?_; refine WB.add ?_)
  refine ⟨_, p + 1, rfl, by simp, by simp only [List.length_map]; exact Nat.lt_of_lt_of_le hp (Nat.le_of_eq hxl.symm), by simp only [List.length_map, sizeLine]; omega, ?_⟩
  refine WB.addTs (by simp only [List.length_append, List.length_drop, List.length_take, List.length_map, List.length_cons, List.length_nil, sizeLine]; omega) ?_
  rw [row_set (by exact Nat.lt_of_lt_of_le hp (Nat.le_of_eq hxl.symm))]
  have ry : Row n (xs.set p (xs.getD p 0 + 1)) := rx.setAt (by have := rx.pos p; exact Int.not_lt.mp fun qz => lin [] [_] [(1,.it (.a (.v 0) (.n 1)) (.n 0)),(1,.il (.n 0) (.v 0))] rfl qz this)
  have eback := set_back (xs := xs) (p := p) (by exact Nat.lt_of_lt_of_le hp (Nat.le_of_eq hxl.symm))
  generalize xs.set p (xs.getD p 0 + 1) = ys at ry eback ⊢
  have hyl := ry.len
  have rest : ∀ (dF : D) (m' : Vars), True := fun _ _ => trivial
  by_cases ey : Even rows ys
  ·with_reducible (refine WS.cons ?_; refine W1.assign ?_ (by walk_at "k2") (by with_unfolding_all rfl); refine WE.callN (by assumption) (by assumption) (by walk_at "k") (by assumption) ?_ (hp := by with_unfolding_all rfl); refine WA.cons ?_ (hp := by with_unfolding_all rfl); refine WE.nLocal (by walk_at "v") (by walk_at "k") ?_; refine WA.cons ?_ (hp := by with_unfolding_all rfl); refine WE.nLocal (by walk_at "v") (by walk_at "k") ?_; refine WA.nil ?_)
   refine WF.at (told_ T Sy Ex F hsm (by exact Nat.lt_of_le_of_lt hl3 (by decide)) (by exact Nat.lt_of_le_of_lt hn.2 (by decide)) hn.1 ry ey fun out1 ks L1 hg => .inl ?_) (by decide)
   have eo := L1.eq L
   subst eo
   with_reducible (refine WS.cons ?_; refine W1.assign ?_ (by walk_at "k2") (by with_unfolding_all rfl); refine WE.binop ?_; refine WE.binop ?_; refine WE.sliceTu ?_ (ht := by with_unfolding_all (intro _ _; rfl)); refine WE.nLocal (by walk_at "v") (by walk_at "k") ?_; refine WE.nLocal (by walk_at "v") (by walk_at "k") ?_)
   refine ⟨_, p, rfl, rfl, by simp only [List.length_map]; exact Nat.le_of_lt (Nat.lt_of_lt_of_le hp (Nat.le_of_eq hyl.symm)), by simp only [List.length_map, sizeLine]; omega, ?_⟩
   with_reducible (refine WE.tuple ?_; refine WA.cons ?_ (hp := by with_unfolding_all rfl); refine WE.binop ?_; refine WE.sub ?_; refine WE.nLocal (by walk_at "v") (by walk_at "k") ?_; refine WE.nLocal (by walk_at "v") (by walk_at "k") ?_)
   refine WSb.at (sd := .tup _) rfl trivial (getD_row hyl hp) (by omega) ?_
   with_reducible (refine WE.kInt ?_; refine WB.sub ?_; refine WA.nil ?_)
   refine ⟨by simp [sizeLine], ?_⟩
   refine WB.addTs (by simp only [List.length_take, List.length_map, List.length_cons, List.length_nil, sizeLine]; omega) ?_
   with_reducible (refine WE.sliceTf ?_ (ht := by with_unfolding_all (intro _ _; rfl)); refine WE.nLocal (by walk_at "v") (by walk_at "k") ?_; refine WE.binop ?_; refine WE.nLocal (by walk_at "v") (by walk_at "k") ?_; refine WE.kInt ?_; refine WB.add ?_)
   refine ⟨_, p + 1, rfl, by simp, by simp only [List.length_map]; exact Nat.lt_of_lt_of_le hp (Nat.le_of_eq hyl.symm), by simp only [List.length_map, sizeLine]; omega, ?_⟩
   refine WB.addTs (by simp only [List.length_append, List.length_drop, List.length_take, List.length_map, List.length_cons, List.length_nil, sizeLine]; omega) ?_
   rw [row_set (by exact Nat.lt_of_lt_of_le hp (Nat.le_of_eq hyl.symm)), eback]
   with_reducible (refine WS.cons ?_; refine W1.ite ?_; refine WT.not ?_; refine WT.plain ?_ (he := by with_unfolding_all (intro _; rfl)); refine WE.callN (by assumption) (by assumption) (by walk_at "k") (by assumption) ?_ (hp := by with_unfolding_all rfl); refine WA.cons ?_ (hp := by with_unfolding_all rfl); refine WE.nLocal (by walk_at "v") (by walk_at "k") ?_; refine WA.cons ?_ (hp := by with_unfolding_all rfl); refine WE.nLocal (by walk_at "v") (by walk_at "k") ?_; refine WA.cons ?_ (hp := by with_unfolding_all rfl); refine WE.callN (by assumption) (by assumption) (by walk_at "k") (by assumption) ?_ (hp := by with_unfolding_all rfl); refine WA.cons ?_ (hp := by with_unfolding_all rfl); refine WE.nLocal (by walk_at "v") (by walk_at "k") ?_; refine WA.cons ?_ (hp := by with_unfolding_all rfl); refine WE.nLocal (by walk_at "v") (by walk_at "k") ?_; refine WA.nil ?_)
   refine WF.at (told_ T Sy Ex F hsm (by exact Nat.lt_of_le_of_lt hl3 (by decide)) (by exact Nat.lt_of_le_of_lt hn.2 (by decide)) hn.1 rx ex fun out2 ks2 L2 hg2 => .inl ?_) (by decide)
   have eo2 := L2.eq L
   subst eo2
   with_reducible (refine WA.nil ?_)
   refine WF.at (are_parts_ (sd := .lst _) T F L hg2 rx ex (by exact Nat.lt_of_le_of_lt hn.2 (by decide)) hn.1 rfl rfl trivial ?_) (by decide)
   with_reducible (refine WTr.bool ?_; refine ite_nt ?_; refine WS.nil ?_; refine WS.cons ?_; refine W1.ite ?_; refine WT.boolop ?_; refine WTs.and ?_; refine WT.plain ?_ (he := by with_unfolding_all (intro _; rfl)); refine WE.callN (by assumption) (by assumption) (by walk_at "k") (by assumption) ?_ (hp := by with_unfolding_all rfl); refine WA.cons ?_ (hp := by with_unfolding_all rfl); refine WE.nLocal (by walk_at "v") (by walk_at "k") ?_; refine WA.cons ?_ (hp := by with_unfolding_all rfl); refine WE.nLocal (by walk_at "v") (by walk_at "k") ?_; refine WA.nil ?_)
   refine WF.at (is_even_ T hsm (by exact Nat.lt_of_le_of_lt hl3 (by decide)) ?_) (by decide)
   rw [even_all.mpr ey]
   with_reducible (refine WTr.bool ?_; refine ite_t ?_; refine WTs.and ?_; refine WT.not ?_; refine WT.plain ?_ (he := by with_unfolding_all (intro _; rfl)); refine WE.callN (by assumption) (by assumption) (by walk_at "k") (by assumption) ?_ (hp := by with_unfolding_all rfl); refine WA.cons ?_ (hp := by with_unfolding_all rfl); refine WE.nLocal (by walk_at "v") (by walk_at "k") ?_; refine WA.cons ?_ (hp := by with_unfolding_all rfl); refine WE.nLocal (by walk_at "v") (by walk_at "k") ?_; refine WA.cons ?_ (hp := by with_unfolding_all rfl); refine WE.nLocal (by walk_at "v") (by walk_at "k") ?_; refine WA.nil ?_)
   refine WF.at (are_parts_ (sd := .lst _) T F L hg ry ey (by exact Nat.lt_of_le_of_lt hn.2 (by decide)) hn.1 rfl rfl trivial ?_) (by decide)
   with_reducible (refine WTr.bool ?_; refine ite_nt ?_; refine ite_f ?_; refine WS.nil ?_; refine WS.cons ?_; refine W1.ret ?_; refine WE.boolop ?_; refine WBs.and ?_; refine WE.boolop ?_; refine WBs.or ?_; refine WE.callN (by assumption) (by assumption) (by walk_at "k") (by assumption) ?_ (hp := by with_unfolding_all rfl); refine WA.cons ?_ (hp := by with_unfolding_all rfl); refine WE.nLocal (by walk_at "v") (by walk_at "k") ?_; refine WA.cons ?_ (hp := by with_unfolding_all rfl); refine WE.nLocal (by walk_at "v") (by walk_at "k") ?_; refine WA.nil ?_)
   refine WF.at (is_even_ T hsm (by exact Nat.lt_of_le_of_lt hl3 (by decide)) ?_) (by decide)
   rw [even_all.mpr ey]
   with_reducible (refine WTr.bool ?_; refine ite_t ?_; refine WTr.bool ?_; refine ite_t ?_; refine WBs.one ?_; refine WE.compare ?_ (hb := by with_unfolding_all rfl); refine WE.mth (by assumption) (by assumption) (by assumption) ?_ (h1 := by with_unfolding_all decide) (h2 := by with_unfolding_all decide) (hp := by with_unfolding_all rfl) (hb := by with_unfolding_all (intro _; rfl)) (hl := by with_unfolding_all rfl) (hn := by with_unfolding_all rfl); refine WE.nLocal (by walk_at "v") (by walk_at "k") ?_; refine AtSys.mk ?_; refine WA.nil ?_)
   refine WM.at (least_ T Sy F hsm (by exact Nat.lt_of_le_of_lt hl3 (by decide)) (by exact Nat.lt_of_le_of_lt hn.2 (by decide)) hn.1 fun out3 L3 => .inl ?_) (by decide)
   have eo3 := L3.eq L
   subst eo3
   with_reducible (refine WE.nLocal (by walk_at "v") (by walk_at "k") ?_)
   refine WB.eqD r (.of (Py.lst (n := 3) PyAll.rows)) (.of (Py.lst (n := 3) PyAll.rows)) ?_
   rw [eqvRows1]
  ·have ef : (rows.all fun r => dot r ys == 0) = false := by
    cases q : (rows.all fun r => dot r ys == 0) with
    | false => rfl
    | true => exact absurd (even_all.mp q) ey
   with_reducible (refine WS.cons ?_; refine W1.assign ?_ (by walk_at "k2") (by with_unfolding_all rfl); refine WE.callN (by assumption) (by assumption) (by walk_at "k") (by assumption) ?_ (hp := by with_unfolding_all rfl); refine WA.cons ?_ (hp := by with_unfolding_all rfl); refine WE.nLocal (by walk_at "v") (by walk_at "k") ?_; refine WA.cons ?_ (hp := by with_unfolding_all rfl); refine WE.nLocal (by walk_at "v") (by walk_at "k") ?_; refine WA.nil ?_)
   refine WF.at (told_bad T Sy Ex ra hsm (by exact Nat.lt_of_le_of_lt hl3 (by decide)) (by exact Nat.lt_of_le_of_lt hn.2 (by decide)) ry ey ?_) (by decide)
   with_reducible (refine WS.cons ?_; refine W1.assign ?_ (by walk_at "k2") (by with_unfolding_all rfl); refine WE.binop ?_; refine WE.binop ?_; refine WE.sliceTu ?_ (ht := by with_unfolding_all (intro _ _; rfl)); refine WE.nLocal (by walk_at "v") (by walk_at "k") ?_; refine WE.nLocal (by walk_at "v") (by walk_at "k") ?_)
   refine ⟨_, p, rfl, rfl, by simp only [List.length_map]; exact Nat.le_of_lt (Nat.lt_of_lt_of_le hp (Nat.le_of_eq hyl.symm)), by simp only [List.length_map, sizeLine]; omega, ?_⟩
   with_reducible (refine WE.tuple ?_; refine WA.cons ?_ (hp := by with_unfolding_all rfl); refine WE.binop ?_; refine WE.sub ?_; refine WE.nLocal (by walk_at "v") (by walk_at "k") ?_; refine WE.nLocal (by walk_at "v") (by walk_at "k") ?_)
   refine WSb.at (sd := .tup _) rfl trivial (getD_row hyl hp) (by omega) ?_
   with_reducible (refine WE.kInt ?_; refine WB.sub ?_; refine WA.nil ?_)
   refine ⟨by simp [sizeLine], ?_⟩
   refine WB.addTs (by simp only [List.length_take, List.length_map, List.length_cons, List.length_nil, sizeLine]; omega) ?_
   with_reducible (refine WE.sliceTf ?_ (ht := by with_unfolding_all (intro _ _; rfl)); refine WE.nLocal (by walk_at "v") (by walk_at "k") ?_; refine WE.binop ?_; refine WE.nLocal (by walk_at "v") (by walk_at "k") ?_; refine WE.kInt ?_; refine WB.add ?_)
   refine ⟨_, p + 1, rfl, by simp, by simp only [List.length_map]; exact Nat.lt_of_lt_of_le hp (Nat.le_of_eq hyl.symm), by simp only [List.length_map, sizeLine]; omega, ?_⟩
   refine WB.addTs (by simp only [List.length_append, List.length_drop, List.length_take, List.length_map, List.length_cons, List.length_nil, sizeLine]; omega) ?_
   rw [row_set (by exact Nat.lt_of_lt_of_le hp (Nat.le_of_eq hyl.symm)), eback]
   with_reducible (refine WS.cons ?_; refine W1.ite ?_; refine WT.not ?_; refine WT.plain ?_ (he := by with_unfolding_all (intro _; rfl)); refine WE.callN (by assumption) (by assumption) (by walk_at "k") (by assumption) ?_ (hp := by with_unfolding_all rfl); refine WA.cons ?_ (hp := by with_unfolding_all rfl); refine WE.nLocal (by walk_at "v") (by walk_at "k") ?_; refine WA.cons ?_ (hp := by with_unfolding_all rfl); refine WE.nLocal (by walk_at "v") (by walk_at "k") ?_; refine WA.cons ?_ (hp := by with_unfolding_all rfl); refine WE.callN (by assumption) (by assumption) (by walk_at "k") (by assumption) ?_ (hp := by with_unfolding_all rfl); refine WA.cons ?_ (hp := by with_unfolding_all rfl); refine WE.nLocal (by walk_at "v") (by walk_at "k") ?_; refine WA.cons ?_ (hp := by with_unfolding_all rfl); refine WE.nLocal (by walk_at "v") (by walk_at "k") ?_; refine WA.nil ?_)
   refine WF.at (told_ T Sy Ex F hsm (by exact Nat.lt_of_le_of_lt hl3 (by decide)) (by exact Nat.lt_of_le_of_lt hn.2 (by decide)) hn.1 rx ex fun out2 ks2 L2 hg2 => .inl ?_) (by decide)
   have eo2 := L2.eq L
   subst eo2
   with_reducible (refine WA.nil ?_)
   refine WF.at (are_parts_ (sd := .lst _) T F L hg2 rx ex (by exact Nat.lt_of_le_of_lt hn.2 (by decide)) hn.1 rfl rfl trivial ?_) (by decide)
   with_reducible (refine WTr.bool ?_; refine ite_nt ?_; refine WS.nil ?_; refine WS.cons ?_; refine W1.ite ?_; refine WT.boolop ?_; refine WTs.and ?_; refine WT.plain ?_ (he := by with_unfolding_all (intro _; rfl)); refine WE.callN (by assumption) (by assumption) (by walk_at "k") (by assumption) ?_ (hp := by with_unfolding_all rfl); refine WA.cons ?_ (hp := by with_unfolding_all rfl); refine WE.nLocal (by walk_at "v") (by walk_at "k") ?_; refine WA.cons ?_ (hp := by with_unfolding_all rfl); refine WE.nLocal (by walk_at "v") (by walk_at "k") ?_; refine WA.nil ?_)
   refine WF.at (is_even_ T hsm (by exact Nat.lt_of_le_of_lt hl3 (by decide)) ?_) (by decide)
   rw [ef]
   with_reducible (refine WTr.bool ?_; refine ite_f ?_; refine ite_f ?_; refine WS.nil ?_; refine WS.cons ?_; refine W1.ret ?_; refine WE.boolop ?_; refine WBs.and ?_; refine WE.boolop ?_; refine WBs.or ?_; refine WE.callN (by assumption) (by assumption) (by walk_at "k") (by assumption) ?_ (hp := by with_unfolding_all rfl); refine WA.cons ?_ (hp := by with_unfolding_all rfl); refine WE.nLocal (by walk_at "v") (by walk_at "k") ?_; refine WA.cons ?_ (hp := by with_unfolding_all rfl); refine WE.nLocal (by walk_at "v") (by walk_at "k") ?_; refine WA.nil ?_)
   refine WF.at (is_even_ T hsm (by exact Nat.lt_of_le_of_lt hl3 (by decide)) ?_) (by decide)
   rw [ef]
   with_reducible (refine WTr.bool ?_; refine ite_f ?_; refine WBs.one ?_; refine WE.compare ?_ (hb := by with_unfolding_all rfl); refine WE.nLocal (by walk_at "v") (by walk_at "k") ?_; refine WE.kStr ?_)
   refine WB.eqD r (.of (Py.str (n := 1) even_ok)) (.of (Py.str (n := 1) even_ok)) ?_
   rw [eqv_str]
   with_reducible (refine WTr.bool ?_; refine ite_t ?_; refine WBs.one ?_; refine WE.compare ?_ (hb := by with_unfolding_all rfl); refine WE.mth (by assumption) (by assumption) (by assumption) ?_ (h1 := by with_unfolding_all decide) (h2 := by with_unfolding_all decide) (hp := by with_unfolding_all rfl) (hb := by with_unfolding_all (intro _; rfl)) (hl := by with_unfolding_all rfl) (hn := by with_unfolding_all rfl); refine WE.nLocal (by walk_at "v") (by walk_at "k") ?_; refine AtSys.mk ?_; refine WA.nil ?_)
   refine WM.at (least_ T Sy F hsm (by exact Nat.lt_of_le_of_lt hl3 (by decide)) (by exact Nat.lt_of_le_of_lt hn.2 (by decide)) hn.1 fun out3 L3 => .inl ?_) (by decide)
   have eo3 := L3.eq L
   subst eo3
   with_reducible (refine WE.nLocal (by walk_at "v") (by walk_at "k") ?_)
   refine WB.eqD r (.of (Py.lst (n := 3) PyAll.rows)) (.of (Py.lst (n := 3) PyAll.rows)) ?_
   rw [eqvRows1]
end
end Mine
open PySem PySem.W PyProof.Rows
set_option maxRecDepth 100000
set_option maxHeartbeats 8000000
theorem PySem.Challenge.cw_uf050013_07_holds : PySem.Challenge.rw_uf050013_07.Holds := by
 w_on
 refine holds_law Mine.said07 fun said => ?_
 refine holds_open (q := Mine.q07) (loose := []) (Xt := fun s => xlAt Mine.q07 [] s && recOk (RowW.records PySem.Challenge.rw_uf050013_07.row.toRowW) s) (XP := XL Mine.q07 []) (Yf := Hook.obs (Mine.xHook Mine.A07 Mine.E07)) (Ya := Hook.val (Mine.xHook Mine.A07 Mine.E07)) (YP := Hook.says (Mine.xHook Mine.A07 Mine.E07)) (N := 6380) Mine.left07 (Hook.of (Mine.xHook Mine.A07 Mine.E07)) (Hook.keeps (Mine.xHook Mine.A07 Mine.E07)) (fun s e => xl_of s (Bool.and_eq_true_iff.mp e).1) XL.keeps (by rfl) (by rfl) (by rfl) (fun s e => recFacts_of (Bool.and_eq_true_iff.mp e).2) (by rfl) (by assumption) (by decide +kernel) ⟨rfl, rfl, rfl, rfl, rfl, by decide +kernel⟩ ?hw ?hc
 (case hw => w_witness2)
 intro w s₀ s₁ mg mb G Y fa o pm cd doc dV kV ho hd hcd hD hmg hg args vals as hpre hlay hrd hwl hlo
 refine Ground.open G ?_
 intro T B D TE TW
 clear ho hd hcd hD
 wrow_args hpre hlay hrd hwl hlo
 rename_i S hs1 hlay0 hL1 hr1 hl2 w4 w3 l vs as' hL ra w1 r0 hI hr hc1 hc2
 have Tm : Mine.Tp ⟨PySem.Challenge.rw_uf050013_07.row.prog, w, s₁.heap, mg, mb⟩ Mine.B07 Mine.N07 := Mine.Tp.ofTop T (by kernel_rfl) (by kernel_rfl) (by kernel_rfl)
 have Gm : Mine.Gi ⟨PySem.Challenge.rw_uf050013_07.row.prog, w, s₁.heap, mg, mb⟩ Mine.G07 := Mine.Gi.ofTop T (by kernel_rfl)
 have Xm := Mine.Xs.ofHook (c := ⟨PySem.Challenge.rw_uf050013_07.row.prog, w, s₁.heap, mg, mb⟩) Y Tm.good
 have R1 : Mine.Rai ⟨PySem.Challenge.rw_uf050013_07.row.prog, w, s₁.heap, mg, mb⟩ (Str.ofString "NotEven") := Mine.Rai.ofTop T (by kernel_rfl)
 obtain ⟨K, C, Sm⟩ := Mine.Ks.ofTop (c := ⟨PySem.Challenge.rw_uf050013_07.row.prog, w, s₁.heap, mg, mb⟩) (cn := Str.ofString "System") (Bd := Mine.Bd07) TE 0 (by kernel_rfl)
 have w2 : Well w.params s₁.heap (.ref l) (.list (S.map WData.int)) := by
  have := w1
  simp only [ofPy, Mine.ofPys_ints] at this
  exact this
 exact Mine.last (c := ⟨PySem.Challenge.rw_uf050013_07.row.prog, w, s₁.heap, mg, mb⟩) (Mine.law_ Tm Gm Sm Xm R1 (by omega)) (by decide) hmg (Mine.V.ofWell w2) rfl hg (Mine.post_ok _ _ _) (Mine.raises_ok _ _)
