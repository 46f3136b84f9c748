import PyProof.Rows.All
import Wide.FinOn
import Open.Line
import PyProof.Walks
import PyProof.WalksMore
import PyProof.WalksT
import PyProof.CompFree
import PyProof.Cells
import PyProof.Rows.Many
import PyProof.RaisesMany
import PyProof.TupleKey
import PyProof.DictRoadsH
import PyProof.RangeFor
import PyProof.Rows.Range3
import PyProof.ZipIter
import PyProof.EnumMake
import PyProof.Rows.ZipGen
import PyProof.IsInstance
import PyProof.IsInstanceH
import PyProof.IsiNone
import PyProof.Rows.IntRules
import PyProof.Rows.RuleB_mul
import PyProof.Rows.RuleB_floordiv
import PyProof.Rows.RuleB_pow
import PyProof.Rows.RuleC_int
import PyProof.Rows.RuleU_int
import PyProof.SumAny
import PyProof.MinMaxWalk
import PyProof.ConsumeWalk
import PyProof.TupleOfSeq
import PyProof.ListCopy
import PyProof.TupleCall
import PyProof.ListIndexNeg
import PyProof.Rows.StrTemp
import OpenK.KMore
import PyProof.Rows.CatchOwn
import PyProof.RulesAs
import PyProof.ExcAttrAll.ValueError
import PyProof.StrBlock
import PyProof.Rows.RuleN_abs
import PyProof.EnumFor
import PyProof.StrOps2
import PyProof.StrCalls2
import PyProof.StrCalls3
import PyProof.SliceStr2
import PyProof.StrWalks
import PyProof.StrLawsNeg
import PyProof.StrLawsTight
import PyProof.CallStr
import KE.KIntText
import PyProof.Rows.TupAssign
import PySem.Challenge.RW_uf050013_05
set_option Elab.async false
set_option linter.all false
set_option autoImplicit false
namespace Mine
open PySem PySem.Calls PyProof.Rows PySem.W

def xOne (K : Frag) (e : Str × Addr × List Value) : Bool :=
  nsIn K mainGlobals e.1 == some (some (.ref e.2.1)) && (clsIn K e.2.1).any (fun cd => cd.mro == e.2.2) && typeIn K (.ref e.2.1) == some (.type "type") &&
  findIn K (.ref e.2.1) "__class__" == some (some (.builtin "object.__class__")) && findIn K (.ref e.2.1) "__getattribute__" == some (some (.builtin "BaseException.__getattribute__")) && findIn K (.ref e.2.1) "__getattr__" == some none &&
  e.2.2.contains (.type "BaseException") && e.2.2.contains (.type "object") && !e.2.2.isEmpty

def fragAt (h : Heap) (as : List Addr) : Frag := as.filterMap fun a => (h.get? a).map fun o => (a, o)
def xAll (as : List Addr) (es : List (Str × Addr × List Value)) (h : Heap) : Bool := as.all (fun a => (h.get? a).isSome) && es.all (xOne (fragAt h as))
theorem fragAt_keeps {h h' : Heap} {as : List Addr} (hs : as.all (fun a => (h.get? a).isSome) = true) (k : ∀ b o, h.get? b = some o → h'.get? b = some o) : fragAt h' as = fragAt h as ∧ as.all (fun a => (h'.get? a).isSome) = true := by
  induction as with
  | nil => exact ⟨rfl, rfl⟩
  | cons a r ih =>
    rw [List.all_cons, Bool.and_eq_true] at hs
    obtain ⟨o, ho⟩ := Option.isSome_iff_exists.mp hs.1
    have ho' := k _ _ ho
    obtain ⟨i1, i2⟩ := ih hs.2
    refine ⟨?_, ?_⟩
    · have i1' : r.filterMap (fun a => (h'.get? a).map fun o => (a, o)) = r.filterMap (fun a => (h.get? a).map fun o => (a, o)) := i1
      unfold fragAt
      rw [List.filterMap_cons, List.filterMap_cons, ho, ho', i1']
    · rw [List.all_cons, ho', i2]; rfl
theorem xAll_keeps {as : List Addr} {es : List (Str × Addr × List Value)} {h h' : Heap} (x : xAll as es h = true) (k : ∀ b o, h.get? b = some o → h'.get? b = some o) : xAll as es h' = true := by
  unfold xAll at *
  rw [Bool.and_eq_true] at *
  obtain ⟨e1, e2⟩ := fragAt_keeps x.1 k
  exact ⟨e2, by rw [e1]; exact x.2⟩
def xHook (as : List Addr) (es : List (Str × Addr × List Value)) : Hook :=
  ⟨Bool, fun s => xAll as es s.heap, fun _ => true, fun _ h => xAll as es h = true, fun _ _ e => e, fun _ _ _ x k => xAll_keeps x k⟩

abbrev up05 (C : Addr) : List Value := [.ref C, .ref 24, .type "ValueError", .type "Exception", .type "BaseException", .type "object"]
abbrev E05 : List (Str × Addr × List Value) := [("EvenError", 24, [.ref 24, .type "ValueError", .type "Exception", .type "BaseException", .type "object"]), ("BadSystem", 37, up05 37), ("BadRow", 49, up05 49), ("NotEven", 61, up05 61), ("BadWants", 73, up05 73), ("BadBound", 85, up05 85), ("TooMany", 97, up05 97), ("Unread", 109, up05 109)]
abbrev A05 : List Addr := [mainGlobals, 23, 24, 36, 37, 48, 49, 60, 61, 72, 73, 84, 85, 96, 97, 108, 109]

end Mine
namespace Mine
open PySem PySem.W PyProof.Rows
def q05 : Program := { PySem.Challenge.rw_uf050013_05.row.prog with main := { PySem.Challenge.rw_uf050013_05.row.prog.main with body := [1, 2, 3, 4, 5, 6, 7, 8, 10, 11, 12, 13, 15, 16, 17, 18, 19, 20, 21, 22, 24, 25, 26, 27, 28, 29, 30, 31, 32, 33].filterMap fun i => PySem.Challenge.rw_uf050013_05.row.prog.main.body[i]? } }
set_option maxRecDepth 100000 in
theorem left05 : LeftO PySem.Challenge.rw_uf050013_05.row.prog q05 [] (fun s => xlAt q05 [] s && recOk (RowW.records PySem.Challenge.rw_uf050013_05.row.toRowW) s) (Hook.obs (xHook A05 E05)) (Hook.val (xHook A05 E05)) 4654 := fun w => by kernel_rfl
end Mine
set_option autoImplicit false
namespace Mine
open PySem PySem.Calls PyProof.Rows

inductive D where
  | none
  | bool (b : Bool)
  | int (i : Int)
  | str (x : Str)
  | tup (ds : List D)
  | lst (ds : List D)
  | sys (C : Addr) (size rules : D)
  | own (C dx : Addr)
  | exc (C : Addr)
  | typ (T : String)
  | ref (a : Addr)

abbrev tupObj (vs : List Value) (n : Nat) : Obj := { cls := .type "tuple", data := .seq vs.toArray n }
abbrev lstObj (vs : List Value) (n : Nat) : Obj := { cls := .type "list", data := .seq vs.toArray n }

mutual
def V (K : List Addr) (h : Heap) : D → Value → Prop
  | .none, v => v = .none
  | .bool b, v => v = .bool b
  | .int i, v => ∃ t, v = .int i t
  | .str x, v => ∃ t, v = .str x t
  | .tup ds, v => ∃ a vs n, v = .ref a ∧ a ∉ K ∧ h.get? a = some (tupObj vs n) ∧ Vs K h ds vs
  | .lst ds, v => ∃ a vs n, v = .ref a ∧ a ∉ K ∧ h.get? a = some (lstObj vs n) ∧ Vs K h ds vs
  | .sys C sz ru, v => ∃ a dx v1 v2 mA, v = .ref a ∧ a ∉ K ∧ dx ∉ K ∧ h.get? a = some { cls := .ref C, dict := some dx, data := .plain } ∧
      h.Ns dx mA ∧ mA "size" = some v1 ∧ mA "rules" = some v2 ∧ (∀ x : Str, x ≠ "size" → x ≠ "rules" → mA x = none) ∧ V K h sz v1 ∧ V K h ru v2
  | .own C dx, v => ∃ a, v = .ref a ∧ a ∉ K ∧ h.get? a = some { cls := .ref C, dict := some dx, data := .plain }
  | .exc C, v => ∃ a o vs, v = .ref a ∧ a ∉ K ∧ h.get? a = some o ∧ o.cls = .ref C ∧ o.data = .fields vs ∧ o.dict = none
  | .typ T, v => v = .type T
  | .ref a, v => v = .ref a
def Vs (K : List Addr) (h : Heap) : List D → List Value → Prop
  | [], vs => vs = []
  | d :: ds, vs => ∃ v r, vs = v :: r ∧ V K h d v ∧ Vs K h ds r
end

def Stay (K : List Addr) (h h' : Heap) : Prop := ∀ b o, b ∉ K → h.get? b = some o → h'.get? b = some o
def Less (K K' : List Addr) (h : Heap) : Prop := ∀ a, a ∈ K' → a ∈ K ∨ h.get? a = none
theorem Less.nin {K K' : List Addr} {h : Heap} (l : Less K K' h) {a : Addr} {o : Obj} (n : a ∉ K) (e : h.get? a = some o) : a ∉ K' := fun m =>
  (l a m).elim n fun q => by rw [q] at e; cases e

mutual
theorem V.move {K K' : List Addr} {h h' : Heap} (k : Stay K h h') (l : Less K K' h) : ∀ (d : D) (v : Value), V K h d v → V K' h' d v
  | .none, v, x => by unfold V at *; exact x
  | .bool b, v, x => by unfold V at *; exact x
  | .int i, v, x => by unfold V at *; exact x
  | .str y, v, x => by unfold V at *; exact x
  | .tup ds, v, x => by
    unfold V at *
    obtain ⟨a, vs, n, e, nk, g, r⟩ := x
    exact ⟨a, vs, n, e, l.nin nk g, k _ _ nk g, Vs.move k l ds vs r⟩
  | .lst ds, v, x => by
    unfold V at *
    obtain ⟨a, vs, n, e, nk, g, r⟩ := x
    exact ⟨a, vs, n, e, l.nin nk g, k _ _ nk g, Vs.move k l ds vs r⟩
  | .sys C sz ru, v, x => by
    unfold V at *
    obtain ⟨a, dx, v1, v2, mA, e, nk, nd, g, ⟨od, es, ep, gd, hd⟩, f1, f2, f3, r1, r2⟩ := x
    exact ⟨a, dx, v1, v2, mA, e, l.nin nk g, l.nin nd gd, k _ _ nk g, ⟨od, es, ep, k _ _ nd gd, hd⟩, f1, f2, f3, V.move k l sz v1 r1, V.move k l ru v2 r2⟩
  | .own C dx, v, x => by
    unfold V at *
    obtain ⟨a, e, nk, g⟩ := x
    exact ⟨a, e, l.nin nk g, k _ _ nk g⟩
  | .exc C, v, x => by
    unfold V at *
    obtain ⟨a, o, vs, e, nk, g, r⟩ := x
    exact ⟨a, o, vs, e, l.nin nk g, k _ _ nk g, r⟩
  | .typ T, v, x => by unfold V at *; exact x
  | .ref a, v, x => by unfold V at *; exact x
theorem Vs.move {K K' : List Addr} {h h' : Heap} (k : Stay K h h') (l : Less K K' h) : ∀ (ds : List D) (vs : List Value), Vs K h ds vs → Vs K' h' ds vs
  | [], vs, x => by unfold Vs at *; exact x
  | d :: ds, vs, x => by
    unfold Vs at *
    obtain ⟨v, r, e, p, q⟩ := x
    exact ⟨v, r, e, V.move k l d v p, Vs.move k l ds r q⟩
end

theorem Vs.length {K : List Addr} {h : Heap} : ∀ {ds : List D} {vs : List Value}, Vs K h ds vs → vs.length = ds.length
  | [], _, x => by unfold Vs at x; subst x; rfl
  | _ :: _, _, x => by unfold Vs at x; obtain ⟨v, r, rfl, _, q⟩ := x; simp [q.length]
theorem Vs.get {K : List Addr} {h : Heap} : ∀ {ds : List D} {vs : List Value}, Vs K h ds vs → ∀ {i : Nat} {v : Value}, vs[i]? = some v → ∃ d, ds[i]? = some d ∧ V K h d v
  | [], _, x, i, v, e => by unfold Vs at x; subst x; simp at e
  | d :: ds, _, x, i, v, e => by
    unfold Vs at x
    obtain ⟨v', r, rfl, p, q⟩ := x
    cases i with
    | zero => simp at e; subst e; exact ⟨d, rfl, p⟩
    | succ i => simp at e; simpa using q.get e
theorem Vs.got {K : List Addr} {h : Heap} : ∀ {ds : List D} {vs : List Value}, Vs K h ds vs → ∀ {i : Nat} {d : D}, ds[i]? = some d → ∃ v, vs[i]? = some v ∧ V K h d v
  | [], _, x, i, v, e => by simp at e
  | d :: ds, _, x, i, d', e => by
    unfold Vs at x
    obtain ⟨v', r, rfl, p, q⟩ := x
    cases i with
    | zero => simp at e; subst e; exact ⟨v', rfl, p⟩
    | succ i => simp at e; simpa using q.got e
theorem Vs.nil {K : List Addr} {h : Heap} : Vs K h [] [] := by unfold Vs; rfl
theorem Vs.cons {K : List Addr} {h : Heap} {d : D} {v : Value} {ds : List D} {vs : List Value} (a : V K h d v) (b : Vs K h ds vs) : Vs K h (d :: ds) (v :: vs) := by unfold Vs; exact ⟨v, vs, rfl, a, b⟩
theorem Vs.append {K : List Addr} {h : Heap} : ∀ {ds : List D} {vs : List Value} {es : List D} {us : List Value}, Vs K h ds vs → Vs K h es us → Vs K h (ds ++ es) (vs ++ us)
  | [], _, _, _, x, y => by unfold Vs at x; subst x; exact y
  | d :: ds, _, _, _, x, y => by unfold Vs at x; obtain ⟨v, r, rfl, p, q⟩ := x; exact .cons p (q.append y)
theorem Vs.snoc {K : List Addr} {h : Heap} {d : D} {v : Value} {ds : List D} {vs : List Value} (b : Vs K h ds vs) (a : V K h d v) : Vs K h (ds ++ [d]) (vs ++ [v]) := b.append (.cons a .nil)
theorem Vs.take {K : List Addr} {h : Heap} : ∀ (n : Nat) {ds : List D} {vs : List Value}, Vs K h ds vs → Vs K h (ds.take n) (vs.take n)
  | 0, _, _, _ => by simpa using Vs.nil
  | n + 1, [], _, x => by unfold Vs at x; subst x; simpa using Vs.nil
  | n + 1, d :: ds, _, x => by unfold Vs at x; obtain ⟨v, r, rfl, p, q⟩ := x; exact .cons p (q.take n)
theorem Vs.drop {K : List Addr} {h : Heap} : ∀ (n : Nat) {ds : List D} {vs : List Value}, Vs K h ds vs → Vs K h (ds.drop n) (vs.drop n)
  | 0, _, _, x => x
  | n + 1, [], _, x => by unfold Vs at x; subst x; simpa using Vs.nil
  | n + 1, d :: ds, _, x => by unfold Vs at x; obtain ⟨v, r, rfl, p, q⟩ := x; exact q.drop n

inductive O where
  | lst (ds : List D)
  | rows (rs : List (List Int))
  | flds (fs : List (Str × D))

abbrev Sto := List (Addr × O)
abbrev keys (σ : Sto) : List Addr := σ.map (·.1)

def rowItems (rs : List (List Int)) (as : List Addr) : List (List Int × Addr × Value) := (rs.zip as).map fun p => (p.1, p.2, Value.bool true)

def IsO (prog : Program) (w : World) (K : List Addr) (h : Heap) (a : Addr) : O → Prop
  | .lst ds => ∃ vs n, h.get? a = some (lstObj vs n) ∧ Vs K h ds vs
  | .rows rs => ∃ as : List Addr, as.length = rs.length ∧ (∀ x ∈ as, x ∉ K) ∧ h.DictOfH (tupleKind (intKind prog w)) a (rowItems rs as)
  | .flds fs => ∃ mA, h.Ns1 a mA ∧ (∀ x d, fs.lookup x = some d → ∃ v, mA x = some v ∧ V K h d v) ∧ ∀ x, fs.lookup x = none → mA x = none

theorem IsTupleKey.stay {prog : Program} {w : World} {K : List Addr} {h h' : Heap} {ks : List Int} {a : Addr} (x : IsTupleKey (intKind prog w) h ks a) (k : Stay K h h') (n : a ∉ K) : IsTupleKey (intKind prog w) h' ks a := by
  obtain ⟨o, items, n', ho, r⟩ := x
  exact ⟨o, items, n', k _ _ n ho, r⟩
theorem IsTupleKey.there {prog : Program} {w : World} {h : Heap} {ks : List Int} {a : Addr} (x : IsTupleKey (intKind prog w) h ks a) : ∃ o, h.get? a = some o := by
  obtain ⟨o, items, n', ho, r⟩ := x
  exact ⟨o, ho⟩

theorem mem_rowItems {rs : List (List Int)} {as : List Addr} {x : List Int × Addr × Value} (h : x ∈ rowItems rs as) : x.2.1 ∈ as := by
  unfold rowItems at h
  obtain ⟨p, hp, rfl⟩ := List.mem_map.mp h
  exact (List.of_mem_zip hp).2
theorem rowItems_mem {rs : List (List Int)} {as : List Addr} (hl : as.length = rs.length) {a : Addr} (h : a ∈ as) : ∃ x ∈ rowItems rs as, x.2.1 = a := by
  obtain ⟨i, hi, e⟩ := List.mem_iff_getElem.mp h
  refine ⟨(rs[i]'(by omega), as[i], Value.bool true), ?_, e⟩
  unfold rowItems
  refine List.mem_map.mpr ⟨(rs[i]'(by omega), as[i]), ?_, rfl⟩
  exact List.mem_iff_getElem.mpr ⟨i, by simp; omega, by simp⟩

theorem IsO.move {prog : Program} {w : World} {K K' : List Addr} {h h' : Heap} {a : Addr} {o : O} (k : Stay K h h') (l : Less K K' h) (e : ∀ x, h.get? a = some x → h'.get? a = some x) (x : IsO prog w K h a o) : IsO prog w K' h' a o := by
  cases o with
  | lst ds =>
    obtain ⟨vs, n, g, r⟩ := x
    exact ⟨vs, n, e _ g, Vs.move k l ds vs r⟩
  | rows rs =>
    obtain ⟨as, hl, hn, o, es, ep, g, ex, hd, he, hk, nd⟩ := x
    refine ⟨as, hl, fun y hy => ?_, o, es, ep, e _ g, ex, hd, he, fun y hy => ?_, nd⟩
    · obtain ⟨x, hx, rfl⟩ := rowItems_mem hl hy
      obtain ⟨o', ho'⟩ := IsTupleKey.there (hk x hx)
      exact l.nin (hn _ hy) ho'
    · exact IsTupleKey.stay (hk y hy) k (hn _ (mem_rowItems hy))
  | flds fs =>
    obtain ⟨mA, ⟨o, es, ep, g, hd⟩, h1, h2⟩ := x
    refine ⟨mA, ⟨o, es, ep, e _ g, hd⟩, fun x d q => ?_, h2⟩
    obtain ⟨v, a, b⟩ := h1 x d q
    exact ⟨v, a, V.move k l d v b⟩
end Mine
set_option linter.unusedVariables false
set_option linter.unusedSimpArgs false
set_option autoImplicit false
namespace Mine
open PySem PySem.Calls PyProof.Rows

structure Cx where
  prog : Program
  w : World
  h0 : Heap
  mg : Str → Option Value
  mb : Str → Option Value

abbrev Vars := List (Str × D)

structure Fm (env : Env) (m : Vars) (fr K : List Addr) (h : Heap) : Prop where
  kind : env.scope.kind = .function
  glob : env.globals = mainGlobals
  bui : env.builtins = builtinsNs
  ns : ∃ mv, h.Ns env.locals mv ∧ ∀ x d, m.lookup x = some d → env.kindOf x = some .local → ∃ v, mv x = some v ∧ V K h d v
  cell : ∀ x c, env.cells.lookup x = some c → ∃ ov, h.IsCell c ov ∧ ∀ d, m.lookup x = some d → (env.kindOf x = some .cell ∨ env.kindOf x = some .free) → ∃ v, ov = some v ∧ V K h d v
  has : ∀ x, (env.kindOf x = some .cell ∨ env.kindOf x = some .free) → ∃ c, env.cells.lookup x = some c
  inn : env.locals ∈ fr ∧ ∀ p ∈ env.cells, p.2 ∈ fr
  apart : (env.cells.Pairwise fun x y => x.2 ≠ y.2) ∧ ∀ p ∈ env.cells, p.2 ≠ env.locals

def DictAt (h : Heap) (b : Addr) : Prop := ∃ o es n, h.get? b = some o ∧ o.data = .dict es n

structure Ok (c : Cx) (A : Around) (fr : List Addr) (σ : Sto) (h : Heap) : Prop where
  base : c.h0.StaysIn h
  sto : ∀ p ∈ σ, IsO c.prog c.w (keys σ ++ fr) h p.1 p.2
  nd : (keys σ ++ fr).Nodup
  new : ∀ a ∈ keys σ ++ fr, c.h0.get? a = none
  live : ∀ a ∈ fr, ∃ o, h.get? a = some o
  stack : ∃ l, A.frames = some l ∧ h.FunFrames c.h0 l ∧ (∀ b ∈ l.filterMap (·.frame), b ∈ fr) ∧ ∀ b ∈ l.filterMap (·.frame), DictAt h b

structure Post (F fr : List Addr) (σ : Sto) (s s' : Shared) (σ' : Sto) : Prop where
  shape : ∃ h tk, s' = { s with heap := h, toks := tk }
  kept : ∀ b o, b ∉ keys σ ++ fr → s.heap.get? b = some o → s'.heap.get? b = some o
  slots : ∀ b o, b ∈ fr → b ∉ F → s.heap.get? b = some o → ∃ sl, s'.heap.get? b = some { o with slots := sl } ∧ ((∀ es n, o.data ≠ .dict es n) → sl = o.slots)
  alive : ∀ b o, s.heap.get? b = some o → ∃ o', s'.heap.get? b = some o'
  grow : ∀ a, a ∈ keys σ' → a ∈ keys σ ∨ s.heap.get? a = none

theorem Post.stay {F fr : List Addr} {σ σ' : Sto} {s s' : Shared} (p : Post F fr σ s s' σ') : Stay (keys σ ++ fr) s.heap s'.heap := fun b o n e => p.kept b o n e
theorem Post.less {F fr : List Addr} {σ σ' : Sto} {s s' : Shared} (p : Post F fr σ s s' σ') : Less (keys σ ++ fr) (keys σ' ++ fr) s.heap := fun a m => by
  rcases List.mem_append.mp m with q | q
  · exact (p.grow a q).imp (List.mem_append_left _) id
  · exact .inl (List.mem_append_right _ q)
theorem Post.v {F fr : List Addr} {σ σ' : Sto} {s s' : Shared} {d : D} {v : Value} (p : Post F fr σ s s' σ') (x : V (keys σ ++ fr) s.heap d v) : V (keys σ' ++ fr) s'.heap d v := V.move p.stay p.less d v x
theorem Post.vs {F fr : List Addr} {σ σ' : Sto} {s s' : Shared} {d : List D} {v : List Value} (p : Post F fr σ s s' σ') (x : Vs (keys σ ++ fr) s.heap d v) : Vs (keys σ' ++ fr) s'.heap d v := Vs.move p.stay p.less d v x

theorem Post.refl (F fr : List Addr) (σ : Sto) (s : Shared) : Post F fr σ s s σ :=
  ⟨⟨s.heap, s.toks, rfl⟩, fun _ _ _ e => e, fun _ o _ _ e => ⟨o.slots, e, fun _ => rfl⟩, fun _ o e => ⟨o, e⟩, fun _ m => .inl m⟩
theorem Post.tok (F fr : List Addr) (σ : Sto) (s : Shared) (tk : Nat) : Post F fr σ s { s with toks := tk } σ :=
  ⟨⟨s.heap, tk, rfl⟩, fun _ _ _ e => e, fun _ o _ _ e => ⟨o.slots, e, fun _ => rfl⟩, fun _ o e => ⟨o, e⟩, fun _ m => .inl m⟩
theorem Post.trans {F fr : List Addr} {σ σ' σ'' : Sto} {s s' s'' : Shared} (p : Post F fr σ s s' σ') (q : Post F fr σ' s' s'' σ'') : Post F fr σ s s'' σ'' where
  shape := by obtain ⟨h, tk, rfl⟩ := p.shape; obtain ⟨h', tk', rfl⟩ := q.shape; exact ⟨h', tk', rfl⟩
  kept := fun b o n e => q.kept b o (p.less.nin n e) (p.kept b o n e)
  slots := fun b o m n e => by
    obtain ⟨sl, e1, r1⟩ := p.slots b o m n e
    obtain ⟨sl', e2, r2⟩ := q.slots b _ m n e1
    exact ⟨sl', e2, fun z => (r2 z).trans (r1 z)⟩
  alive := fun b o e => by obtain ⟨o1, e1⟩ := p.alive b o e; exact q.alive b o1 e1
  grow := fun a m => by
    rcases q.grow a m with h | h
    · exact p.grow a h
    · refine .inr ?_
      cases e : s.heap.get? a with
      | none => rfl
      | some o => obtain ⟨o1, e1⟩ := p.alive a o e; rw [e1] at h; cases h
theorem Post.wide {F F' fr : List Addr} {σ σ' : Sto} {s s' : Shared} (p : Post F fr σ s s' σ') (h : ∀ a ∈ F, a ∈ F') : Post F' fr σ s s' σ' :=
  ⟨p.shape, p.kept, fun b o m n e => p.slots b o m (fun q => n (h b q)) e, p.alive, p.grow⟩

theorem Fm.move {env : Env} {m : Vars} {fr : List Addr} {σ σ' : Sto} {s s' : Shared} (f : Fm env m fr (keys σ ++ fr) s.heap) (p : Post [] fr σ s s' σ') : Fm env m fr (keys σ' ++ fr) s'.heap where
  kind := f.kind
  glob := f.glob
  bui := f.bui
  ns := by
    obtain ⟨mv, ⟨o, es, ep, g, hd, hk, hf⟩, r⟩ := f.ns
    obtain ⟨sl, g', _⟩ := p.slots _ _ f.inn.1 (by simp) g
    exact ⟨mv, ⟨_, es, ep, g', hd, hk, hf⟩, fun x d e k => by obtain ⟨v, a, b⟩ := r x d e k; exact ⟨v, a, p.v b⟩⟩
  cell := fun x c e => by
    obtain ⟨ov, ⟨o, g, hd⟩, r⟩ := f.cell x c e
    obtain ⟨sl, g', _⟩ := p.slots _ _ (f.inn.2 _ (mem_of_lookup e)) (by simp) g
    exact ⟨ov, ⟨_, g', hd⟩, fun d e k => by obtain ⟨v, a, b⟩ := r d e k; exact ⟨v, a, p.v b⟩⟩
  has := f.has
  inn := f.inn
  apart := f.apart

abbrev Fa (env : Env) : List Addr := env.locals :: env.cells.map (·.2)
abbrev Fo : Option Env → List Addr
  | none => []
  | some env => Fa env
def Fx (fr K : List Addr) (h : Heap) : Option Env → Prop
  | none => True
  | some env => Fm env [] fr K h

def ExcOk (h : Heap) (ex : List Addr) (e C : Addr) (t : Bool) : Prop :=
  ∃ oe vs, h.get? e = some oe ∧ (oe.cls = .ref C ∧ oe.dict = none) ∧ oe.data = .fields vs ∧ 5 ≤ vs.size ∧
    ((t = false ∧ ex = [e] ∧ vs[1]? = some .none) ∨ ∃ T oT ts, ex = [e, T] ∧ vs[1]? = some (.ref T) ∧ h.get? T = some oT ∧ oT.data = .fields ts ∧ 5 ≤ ts.size)

def Ex (c : Cx) (A : Around) (G : Option Env) (fr : List Addr) (σ : Sto) (s : Shared) (t : Bool) (X : Addr → Sto → Prop) : Value → Shared → Prop := fun v s' =>
  ∃ e C σ' ex, v = .ref e ∧ Post (Fo G) fr σ s s' σ' ∧ Ok c A (ex ++ fr) σ' s'.heap ∧ (∀ a ∈ ex, s.heap.get? a = none) ∧ ExcOk s'.heap ex e C t ∧ Fx fr (keys σ' ++ fr) s'.heap G ∧ X C σ'

theorem none_back {F fr : List Addr} {σ σ' : Sto} {s s' : Shared} (p : Post F fr σ s s' σ') {a : Addr} (h : s'.heap.get? a = none) : s.heap.get? a = none := by
  cases e : s.heap.get? a with
  | none => rfl
  | some o => obtain ⟨o1, e1⟩ := p.alive a o e; rw [e1] at h; cases h

theorem Ex.back {c : Cx} {A : Around} {G : Option Env} {fr : List Addr} {σ σ' : Sto} {s s' s'' : Shared} {t : Bool} {X X' : Addr → Sto → Prop} {v : Value} (p : Post (Fo G) fr σ s s' σ') (x : Ex c A G fr σ' s' t X v s'') (hX : ∀ C σ, X C σ → X' C σ) : Ex c A G fr σ s t X' v s'' := by
  obtain ⟨e, C, σ2, ex, rfl, q, ok, n, r, f, hx⟩ := x
  exact ⟨e, C, σ2, ex, rfl, p.trans q, ok, fun a ha => none_back p (n a ha), r, f, hX _ _ hx⟩

def W {α β : Type} (c : Cx) (A : Around) (G : Option Env) (fr : List Addr) (σ : Sto) (t : Sem α) (R : List Addr → Heap → β → α → Prop) (Q : β → Sto → Prop) (X : Addr → Sto → Prop) (s : Shared) : Prop :=
  wpAny (model c.prog c.w) A t (fun a s' => ∃ b σ', Post (Fo G) fr σ s s' σ' ∧ Ok c A fr σ' s'.heap ∧ R (keys σ' ++ fr) s'.heap b a ∧ Q b σ') (Ex c A G fr σ s false X) s

def WE (c : Cx) (A : Around) (fr : List Addr) (env : Env) (m : Vars) (σ : Sto) (e : Expr) (Q : D → Sto → Prop) (X : Addr → Sto → Prop) : Prop :=
  ∀ s, Ok c A fr σ s.heap → Fm env m fr (keys σ ++ fr) s.heap → W c A none fr σ (eval e env) V Q X s

section
variable {c : Cx} {A : Around} {G : Option Env} {fr : List Addr} {σ : Sto} {X : Addr → Sto → Prop} {env : Env} {m : Vars}

theorem W.mono {α β : Type} {t : Sem α} {R : List Addr → Heap → β → α → Prop} {Q Q' : β → Sto → Prop} {X' : Addr → Sto → Prop} {s : Shared} (h : W c A G fr σ t R Q X s) (hQ : ∀ b σ, Q b σ → Q' b σ) (hX : ∀ C σ, X C σ → X' C σ) : W c A G fr σ t R Q' X' s :=
  wpAny_mono h (fun _ _ ⟨b, σ', p, ok, r, q⟩ => ⟨b, σ', p, ok, r, hQ _ _ q⟩) fun _ _ x => Ex.back (Post.refl ..) x hX

theorem W.bind {α β α' β' : Type} {t : Sem α} {k : α → Sem α'} {R : List Addr → Heap → β → α → Prop} {R' : List Addr → Heap → β' → α' → Prop} {Q : β' → Sto → Prop} {s : Shared}
    (h : W c A G fr σ t R (fun b σ' => ∀ a s', Post (Fo G) fr σ s s' σ' → Ok c A fr σ' s'.heap → R (keys σ' ++ fr) s'.heap b a → W c A G fr σ' (k a) R' Q X s') X s) : W c A G fr σ (t >>= k) R' Q X s := by
  refine wpAny_bind (wpAny_mono h (fun a s' ⟨b, σ', p, ok, r, q⟩ => ?_) fun _ _ x => x)
  refine wpAny_mono (q a s' p ok r) (fun a2 s2 ⟨b2, σ2, p2, ok2, r2, q2⟩ => ⟨b2, σ2, p.trans p2, ok2, r2, q2⟩) fun _ _ x => Ex.back p x fun _ _ y => y

theorem W.pure {α β : Type} {a : α} {b : β} {R : List Addr → Heap → β → α → Prop} {Q : β → Sto → Prop} {s : Shared} (ok : Ok c A fr σ s.heap) (r : R (keys σ ++ fr) s.heap b a) (q : Q b σ) : W c A G fr σ (Pure.pure a) R Q X s :=
  wpAny_pure ⟨b, σ, Post.refl .., ok, r, q⟩

theorem W.standAt {β : Type} {α : Type} {pos : Pos} {k : Sem α} {R : List Addr → Heap → β → α → Prop} {Q : β → Sto → Prop} {s : Shared} (h : W c A G fr σ k R Q X s) : W c A G fr σ (PySem.standAt pos >>= fun _ => k) R Q X s :=
  wpAny_bind (wpAny_standAt h)
theorem W.holding {β : Type} {α : Type} {vs : List Value} {k : Sem α} {R : List Addr → Heap → β → α → Prop} {Q : β → Sto → Prop} {s : Shared} (h : W c A G fr σ k R Q X s) : W c A G fr σ (PySem.holding vs k) R Q X s :=
  wpAny_holding h
end

theorem FunFrames.stays {c : Cx} {h h' : Heap} {l : List Env} {fr : List Addr} (hk : ∀ b o, b ∈ fr → h.get? b = some o → ∃ sl, h'.get? b = some { o with slots := sl }) (hl : h.FunFrames c.h0 l) (hin : ∀ b ∈ l.filterMap (·.frame), b ∈ fr) : h'.FunFrames c.h0 l := by
  induction l with
  | nil => trivial
  | cons env rest ih =>
    obtain ⟨hk1, ⟨L, o, hf, hn, ho, hd⟩, hr⟩ := hl
    have hL : L ∈ fr := hin L (by simp [List.filterMap_cons, hf])
    obtain ⟨sl, e⟩ := hk L o hL ho
    exact ⟨hk1, ⟨L, _, hf, hn, e, hd⟩, ih hr fun b hb => hin b (by simp only [List.filterMap_cons, hf]; exact List.mem_cons_of_mem _ hb)⟩

theorem Ok.keeps {c : Cx} {A : Around} {fr : List Addr} {σ : Sto} {h h' : Heap} (ok : Ok c A fr σ h) (k : ∀ b o, h.get? b = some o → h'.get? b = some o) : Ok c A fr σ h' where
  base := fun b o e => k b o (ok.base b o e)
  sto := fun p hp => IsO.move (fun b o _ e => k b o e) (fun a m => .inl m) (fun x e => k _ x e) (ok.sto p hp)
  nd := ok.nd
  new := ok.new
  live := fun a ha => by obtain ⟨o, e⟩ := ok.live a ha; exact ⟨o, k _ _ e⟩
  stack := by
    obtain ⟨l, a, b, d, f⟩ := ok.stack
    exact ⟨l, a, FunFrames.stays (fun b o _ e => ⟨o.slots, k b o e⟩) b d, d, fun x hx => by obtain ⟨o, es, n, g, r⟩ := f x hx; exact ⟨o, es, n, k _ _ g, r⟩⟩
theorem Post.keeps {F fr : List Addr} {σ : Sto} {s : Shared} {h : Heap} {tk : Nat} (k : ∀ b o, s.heap.get? b = some o → h.get? b = some o) : Post F fr σ s { s with heap := h, toks := tk } σ :=
  ⟨⟨h, tk, rfl⟩, fun b o _ e => k b o e, fun b o _ _ e => ⟨o.slots, k b o e, fun _ => rfl⟩, fun b o e => ⟨o, k b o e⟩, fun _ m => .inl m⟩
end Mine
set_option linter.unusedVariables false
set_option linter.unusedSimpArgs false
set_option autoImplicit false
namespace Mine
open PySem PySem.Calls PyProof.Rows

section
variable {c : Cx} {A : Around} {G : Option Env} {fr : List Addr} {σ : Sto} {X : Addr → Sto → Prop} {env : Env} {m : Vars} {Q : D → Sto → Prop}

theorem wpAny_release {M : Model} {A : Around} {E : Value → Shared → Prop} {s : Shared} {vs keep : List Value} {Q : Unit → Shared → Prop} (h : Q () s) : wpAny M A (release vs keep) Q E s := fun Γ p hΓ => by
  unfold release
  rw [Sem.wp_release_go]; exact h

theorem W.operate {β : Type} {vs : List Value} {t : Sem Value} {R : List Addr → Heap → β → Value → Prop} {Q : β → Sto → Prop} {s : Shared} (h : W c A G fr σ t R Q X s) : W c A G fr σ (PySem.operate vs t) R Q X s := by
  unfold PySem.operate
  exact wpAny_bind (wpAny_holding (wpAny_mono h (fun a s' q => wpAny_bind (wpAny_release (wpAny_pure q))) fun _ _ x => x))

theorem WE.kInt {i : Int} {k : Nat} {pos : Pos} (h : Q (.int i) σ) : WE c A fr env m σ (.Constant (.int i) k pos) Q X := fun s ok fm =>
  wpAny_Constant_int ⟨.int i, σ, Post.tok .., ok, by unfold V; exact ⟨_, rfl⟩, h⟩
theorem WE.kStr {x : Str} {k : Nat} {pos : Pos} (h : Q (.str x) σ) : WE c A fr env m σ (.Constant (.str x) k pos) Q X := fun s ok fm =>
  Constant_str ⟨.str x, σ, Post.tok .., ok, by unfold V; exact ⟨_, rfl⟩, h⟩
theorem WE.kBool {b : Bool} {k : Nat} {pos : Pos} (h : Q (.bool b) σ) : WE c A fr env m σ (.Constant (.bool b) k pos) Q X := fun s ok fm =>
  wpAny_pure ⟨.bool b, σ, Post.refl .., ok, by unfold V; rfl, h⟩
theorem WE.kNone {k : Nat} {pos : Pos} (h : Q .none σ) : WE c A fr env m σ (.Constant .none k pos) Q X := fun s ok fm =>
  wpAny_pure ⟨.none, σ, Post.refl .., ok, by unfold V; rfl, h⟩

theorem WE.mono {e : Expr} {Q' : D → Sto → Prop} {X' : Addr → Sto → Prop} (h : WE c A fr env m σ e Q X) (hQ : ∀ d σ, Q d σ → Q' d σ) (hX : ∀ C σ, X C σ → X' C σ) : WE c A fr env m σ e Q' X' :=
  fun s ok fm => (h s ok fm).mono hQ hX

theorem WE.nLocal {x : Str} {pos : Pos} {d : D} (hv : m.lookup x = some d) (hk : env.kindOf x = some .local) (h : Q d σ) (hd : (x == ("__debug__" : Str)) = false := by decide) : WE c A fr env m σ (.Name x pos) Q X := fun s ok fm => by
  obtain ⟨mv, hn, r⟩ := fm.ns
  obtain ⟨v, e, hV⟩ := r x d hv hk
  exact wpAny_Name (wpAny_loadName_local fm.kind hk hn e ⟨d, σ, Post.refl .., ok, hV, h⟩) hd
theorem WE.nCell {x : Str} {pos : Pos} {d : D} (hv : m.lookup x = some d) (hk : env.kindOf x = some .cell) (h : Q d σ) (hd : (x == ("__debug__" : Str)) = false := by decide) : WE c A fr env m σ (.Name x pos) Q X := fun s ok fm => by
  obtain ⟨cc, hc⟩ := fm.has x (.inl hk)
  obtain ⟨ov, hcell, r⟩ := fm.cell x cc hc
  obtain ⟨v, rfl, hV⟩ := r d hv (.inl hk)
  exact wpAny_Name (wpAny_loadName_cell fm.kind hk hc hcell ⟨d, σ, Post.refl .., ok, hV, h⟩) hd
def WB (c : Cx) (A : Around) (fr : List Addr) (σ : Sto) (t : Value → Value → Sem Value) (d1 d2 : D) (Q : D → Sto → Prop) (X : Addr → Sto → Prop) : Prop :=
  ∀ v1 v2 s, Ok c A fr σ s.heap → V (keys σ ++ fr) s.heap d1 v1 → V (keys σ ++ fr) s.heap d2 v2 → W c A none fr σ (t v1 v2) V Q X s
def WU (c : Cx) (A : Around) (fr : List Addr) (σ : Sto) (t : Value → Sem Value) (d1 : D) (Q : D → Sto → Prop) (X : Addr → Sto → Prop) : Prop :=
  ∀ v1 s, Ok c A fr σ s.heap → V (keys σ ++ fr) s.heap d1 v1 → W c A none fr σ (t v1) V Q X s

theorem WE.binop {l r : Expr} {op : Operator} {pos : Pos} (h : WE c A fr env m σ l (fun d1 σ1 => WE c A fr env m σ1 r (fun d2 σ2 => WB c A fr σ2 (binaryOp op) d1 d2 Q X) X) X) : WE c A fr env m σ (.BinOp l op r pos) Q X := fun s ok fm => by
  unfold W
  rw [eval_BinOp]
  refine W.bind (W.mono (h s ok fm) (fun d1 σ1 q1 a s1 p1 ok1 x1 => ?_) fun _ _ y => y)
  refine W.bind (W.holding (W.mono (q1 s1 ok1 (fm.move p1)) (fun d2 σ2 q2 b s2 p2 ok2 x2 => ?_) fun _ _ y => y))
  exact W.standAt (W.operate (q2 a b s2 ok2 (p2.v x1) x2))

theorem WE.compare {l r : Expr} {op : CmpOp} {pos : Pos} (h : WE c A fr env m σ l (fun d1 σ1 => WE c A fr env m σ1 r (fun d2 σ2 => WB c A fr σ2 (compareOp op) d1 d2 Q X) X) X) (hb : behindInMarks op r = false := by rfl) :
    WE c A fr env m σ (.Compare l [op] [r] pos) Q X := fun s ok fm => by
  unfold W
  rw [eval_Compare1, markedBehindIn_of_false hb]
  refine W.bind (W.mono (h s ok fm) (fun d1 σ1 q1 a s1 p1 ok1 x1 => ?_) fun _ _ y => y)
  refine W.bind (W.holding (W.mono (q1 s1 ok1 (fm.move p1)) (fun d2 σ2 q2 b s2 p2 ok2 x2 => ?_) fun _ _ y => y))
  exact W.standAt (W.operate (q2 a b s2 ok2 (p2.v x1) x2))

theorem WE.unary {x : Expr} {op : UnaryOp} {pos : Pos} (h : WE c A fr env m σ x (fun d1 σ1 => WU c A fr σ1 (unaryOp op) d1 Q X) X) : WE c A fr env m σ (.UnaryOp op x pos) Q X := fun s ok fm => by
  unfold W
  rw [arm_eval_UnaryOp]
  refine W.bind (W.mono (h s ok fm) (fun d1 σ1 q1 a s1 p1 ok1 x1 => ?_) fun _ _ y => y)
  exact W.standAt (W.holding (q1 a s1 ok1 x1))
end
end Mine
set_option linter.unusedVariables false
set_option linter.unusedSimpArgs false
set_option autoImplicit false
namespace Mine
open PySem PySem.Calls PyProof.Rows

theorem FunFrames.turn {c : Cx} {h h' : Heap} {l : List Env} {fr : List Addr} (hk : ∀ b o, b ∈ fr → h.get? b = some o → (∀ vs, o.data ≠ .fields vs) → ∃ o', h'.get? b = some o' ∧ ∀ vs, o'.data ≠ .fields vs) (hl : h.FunFrames c.h0 l) (hin : ∀ b ∈ l.filterMap (·.frame), b ∈ fr) : h'.FunFrames c.h0 l := by
  induction l with
  | nil => trivial
  | cons env rest ih =>
    obtain ⟨hk1, ⟨L, o, hf, hn, ho, hd⟩, hr⟩ := hl
    have hL : L ∈ fr := hin L (by simp [List.filterMap_cons, hf])
    obtain ⟨o', e, hd'⟩ := hk L o hL ho hd
    exact ⟨hk1, ⟨L, _, hf, hn, e, hd'⟩, ih hr fun b hb => hin b (by simp only [List.filterMap_cons, hf]; exact List.mem_cons_of_mem _ hb)⟩

theorem Ok.turn {c : Cx} {A : Around} {fr : List Addr} {σ : Sto} {h h' : Heap} {a : Addr} {oa : Obj} (ok : Ok c A fr σ h) (ha : a ∈ fr) (sb : Heap.SameBut a h h') (e : h'.get? a = some oa) (hd : ∀ vs, oa.data ≠ .fields vs) (hdd : DictAt h a → DictAt h' a) : Ok c A fr σ h' where
  base := fun b o e => (sb.2 b fun q => by rw [q, ok.new a (List.mem_append_right _ ha)] at e; cases e).trans (ok.base b o e)
  sto := fun p hp => IsO.move (fun b o n e => (sb.2 b fun q => n (q ▸ List.mem_append_right _ ha)).trans e) (fun a m => .inl m) (fun x e => (sb.2 _ fun q => by
    have := ok.nd
    rw [List.nodup_append] at this
    exact this.2.2 _ (List.mem_map_of_mem hp) _ ha q).trans e) (ok.sto p hp)
  nd := ok.nd
  new := ok.new
  live := fun b hb => by
    by_cases q : b = a
    · subst q; exact ⟨_, e⟩
    · obtain ⟨o, x⟩ := ok.live b hb; exact ⟨o, (sb.2 b q).trans x⟩
  stack := by
    obtain ⟨l, x, y, z, zd⟩ := ok.stack
    refine ⟨l, x, FunFrames.turn (fun b o _ g k => ?_) y z, z, fun b hb => ?_⟩
    · by_cases q : b = a
      · subst q; exact ⟨_, e, hd⟩
      · exact ⟨o, (sb.2 b q).trans g, k⟩
    · by_cases q : b = a
      · subst q; exact hdd (zd _ hb)
      · obtain ⟨o, es, n, g, r⟩ := zd b hb; exact ⟨o, es, n, (sb.2 b q).trans g, r⟩

theorem Post.turn {env : Env} {fr : List Addr} {σ : Sto} {s : Shared} {h' : Heap} {tk : Nat} {a : Addr} {oa : Obj} (ha : a ∈ Fa env) (hi : ∀ b ∈ Fa env, b ∈ fr) (sb : Heap.SameBut a s.heap h') (e : h'.get? a = some oa) : Post (Fa env) fr σ s { s with heap := h', toks := tk } σ :=
  ⟨⟨h', tk, rfl⟩, fun b o n g => (sb.2 b fun q => n (q ▸ List.mem_append_right _ (hi _ ha))).trans g, fun b o _ n g => ⟨o.slots, (sb.2 b fun q => n (q ▸ ha)).trans g, fun _ => rfl⟩,
    fun b o g => by
      by_cases q : b = a
      · subst q; exact ⟨_, e⟩
      · exact ⟨o, (sb.2 b q).trans g⟩, fun _ m => .inl m⟩

theorem Fm.fa {env : Env} {m : Vars} {fr K : List Addr} {h : Heap} (f : Fm env m fr K h) : ∀ b ∈ Fa env, b ∈ fr := fun b hb => by
  rcases List.mem_cons.mp hb with rfl | hb
  · exact f.inn.1
  · obtain ⟨p, hp, rfl⟩ := List.mem_map.mp hb; exact f.inn.2 p hp

theorem lookup_cons_eq {x y : Str} {d : D} {m : Vars} : List.lookup y ((x, d) :: m) = if y = x then some d else m.lookup y := by
  rw [List.lookup_cons]
  by_cases h : y = x
  · subst h; simp
  · have : (y == x) = false := by simpa using h
    rw [this, if_neg h]

theorem Fm.storeL {env : Env} {m : Vars} {fr K : List Addr} {h h' : Heap} {x : Str} {d : D} {v : Value} {mv : Str → Option Value} (f : Fm env m fr K h) (hK : ∀ b ∈ fr, b ∈ K) (hmv : ∀ x d, m.lookup x = some d → env.kindOf x = some .local → ∃ v, mv x = some v ∧ V K h d v)
    (hn : h'.Ns env.locals (fun y => if y = x then some v else mv y)) (sb : Heap.SameBut env.locals h h') (hV : V K h d v) (hk : env.kindOf x = some .local) : Fm env ((x, d) :: m) fr K h' := by
  have st : Stay K h h' := fun b o n e => (sb.2 b fun q => n (q ▸ hK _ f.inn.1)).trans e
  have ls : Less K K h := fun a m => .inl m
  exact {
    kind := f.kind
    glob := f.glob
    bui := f.bui
    ns := ⟨_, hn, fun y d' e k => by
      rw [lookup_cons_eq] at e
      by_cases q : y = x
      · rw [if_pos q] at e; cases e; exact ⟨v, by simp [q], V.move st ls _ _ hV⟩
      · rw [if_neg q] at e
        obtain ⟨u, a, b⟩ := hmv y d' e k
        exact ⟨u, by simp [q, a], V.move st ls _ _ b⟩⟩
    cell := fun y cc e => by
      obtain ⟨ov, hc, r⟩ := f.cell y cc e
      refine ⟨ov, hc.sameBut sb (f.apart.2 _ (mem_of_lookup e)), fun d' e' k => ?_⟩
      rw [lookup_cons_eq] at e'
      by_cases q : y = x
      · subst q; rw [hk] at k; rcases k with k | k <;> cases k
      · rw [if_neg q] at e'
        obtain ⟨u, a, b⟩ := r d' e' k
        exact ⟨u, a, V.move st ls _ _ b⟩
    has := f.has
    inn := f.inn
    apart := f.apart }

theorem Fm.storeC {env : Env} {m : Vars} {fr K : List Addr} {h h' : Heap} {x : Str} {d : D} {v : Value} {cc : Addr} (f : Fm env m fr K h) (hK : ∀ b ∈ fr, b ∈ K) (hcc : env.cells.lookup x = some cc)
    (hn : h'.IsCell cc (some v)) (sb : Heap.SameBut cc h h') (hV : V K h d v) (hk : env.kindOf x = some .cell) : Fm env ((x, d) :: m) fr K h' := by
  have hin := mem_of_lookup hcc
  have st : Stay K h h' := fun b o n e => (sb.2 b fun q => n (q ▸ hK _ (f.inn.2 _ hin))).trans e
  have ls : Less K K h := fun a m => .inl m
  exact {
    kind := f.kind
    glob := f.glob
    bui := f.bui
    ns := by
      obtain ⟨mv, hns, r⟩ := f.ns
      refine ⟨mv, hns.sameBut sb (Ne.symm (f.apart.2 _ hin)), fun y d' e k => ?_⟩
      rw [lookup_cons_eq] at e
      by_cases q : y = x
      · subst q; rw [hk] at k; cases k
      · rw [if_neg q] at e
        obtain ⟨u, a, b⟩ := r y d' e k
        exact ⟨u, a, V.move st ls _ _ b⟩
    cell := fun y c' e => by
      by_cases q : y = x
      · subst q
        rw [hcc] at e; cases e
        refine ⟨some v, hn, fun d' e' k => ?_⟩
        rw [lookup_cons_eq, if_pos rfl] at e'
        cases e'
        exact ⟨v, rfl, V.move st ls _ _ hV⟩
      · obtain ⟨ov, hc, r⟩ := f.cell y c' e
        refine ⟨ov, hc.sameBut sb fun z => q (name_of_addr f.apart.1 (mem_of_lookup e) (z ▸ hin)), fun d' e' k => ?_⟩
        rw [lookup_cons_eq, if_neg q] at e'
        obtain ⟨u, a, b⟩ := r d' e' k
        exact ⟨u, a, V.move st ls _ _ b⟩
    has := f.has
    inn := f.inn
    apart := f.apart }

section
variable {c : Cx} {A : Around} {fr : List Addr} {σ : Sto} {X : Addr → Sto → Prop} {env : Env} {m : Vars}

theorem W.store {x : Str} {d : D} {v : Value} {s : Shared} (ok : Ok c A fr σ s.heap) (f : Fm env m fr (keys σ ++ fr) s.heap) (hV : V (keys σ ++ fr) s.heap d v) (hk : env.kindOf x = some .local ∨ env.kindOf x = some .cell) :
    W c A (some env) fr σ (storeName env x v) (fun K h (_ : Unit) _ => Fm env ((x, d) :: m) fr K h) (fun _ σ' => σ' = σ) X s := by
  have hK : ∀ b ∈ fr, b ∈ keys σ ++ fr := fun b hb => List.mem_append_right _ hb
  rcases hk with hk | hk
  · obtain ⟨mv, hn, r⟩ := f.ns
    refine wpAny_storeName_local hk hn (fun h' hn' sb => ?_) (by rw [f.kind]; rfl)
    obtain ⟨o, es, ep, e, hd, _⟩ := id hn'
    refine ⟨(), σ, Post.turn (List.mem_cons_self) f.fa sb e, ok.turn f.inn.1 sb e (fun vs => by rw [hd]; intro q; cases q) (fun _ => ⟨o, es, ep, e, hd⟩), ?_, rfl⟩
    exact f.storeL hK r hn' sb hV hk
  · obtain ⟨cc, hcc⟩ := f.has x (.inl hk)
    obtain ⟨ov, hc, _⟩ := f.cell x cc hcc
    refine wpAny_storeName_cell f.kind hk hcc hc fun h' hc' sb => ?_
    obtain ⟨o, e, hd⟩ := id hc'
    have hin := mem_of_lookup hcc
    refine ⟨(), σ, Post.turn (tk := s.toks) (List.mem_cons_of_mem _ (List.mem_map_of_mem (f := (·.2)) hin)) f.fa sb e, ok.turn (f.inn.2 _ hin) sb e (fun vs => by rw [hd]; intro q; cases q) (fun z => by
      obtain ⟨o1, es, n, g1, d1⟩ := z
      obtain ⟨o2, g2, d2⟩ := hc
      rw [g1] at g2; cases g2; rw [d1] at d2; cases d2), ?_, rfl⟩
    exact f.storeC hK hcc hc' sb hV hk

inductive Out where
  | next (m : Vars)
  | ret (d : D)

def RO (env : Env) (fr : List Addr) (K : List Addr) (h : Heap) : Out → Flow → Prop
  | .next m', fl => fl = .next ∧ Fm env m' fr K h
  | .ret d, fl => ∃ v, fl = .ret v ∧ V K h d v ∧ Fm env [] fr K h
def QO (N : Vars → Sto → Prop) (R : D → Sto → Prop) : Out → Sto → Prop
  | .next m', σ => N m' σ
  | .ret d, σ => R d σ

def W1 (c : Cx) (A : Around) (fr : List Addr) (env : Env) (m : Vars) (σ : Sto) (st : Stmt) (N : Vars → Sto → Prop) (R : D → Sto → Prop) (X : Addr → Sto → Prop) : Prop :=
  ∀ s, Ok c A fr σ s.heap → Fm env m fr (keys σ ++ fr) s.heap → W c A (some env) fr σ (exec st env) (RO env fr) (QO N R) X s
def WS (c : Cx) (A : Around) (fr : List Addr) (env : Env) (m : Vars) (σ : Sto) (ss : List Stmt) (N : Vars → Sto → Prop) (R : D → Sto → Prop) (X : Addr → Sto → Prop) : Prop :=
  ∀ s, Ok c A fr σ s.heap → Fm env m fr (keys σ ++ fr) s.heap → W c A (some env) fr σ (execs ss env) (RO env fr) (QO N R) X s

variable {N : Vars → Sto → Prop} {R : D → Sto → Prop}

theorem WS.nil (h : N m σ) : WS c A fr env m σ [] N R X := fun s ok fm => wpAny_execs_nil ⟨.next m, σ, Post.refl .., ok, ⟨rfl, fm⟩, h⟩
theorem WS.cons {st : Stmt} {rest : List Stmt} (h : W1 c A fr env m σ st (fun m' σ' => WS c A fr env m' σ' rest N R X) R X) : WS c A fr env m σ (st :: rest) N R X := fun s ok fm => by
  unfold W
  rw [execs_cons]
  refine W.bind (W.mono (h s ok fm) (fun o σ1 q1 a s1 p1 ok1 x1 => ?_) fun _ _ y => y)
  cases o with
  | next m1 => obtain ⟨rfl, fm1⟩ := x1; exact q1 s1 ok1 fm1
  | ret d => obtain ⟨v, rfl, hv⟩ := x1; exact W.pure (b := Out.ret d) ok1 ⟨v, rfl, hv⟩ q1
theorem Fm.forget {env : Env} {m : Vars} {fr K : List Addr} {h : Heap} (f : Fm env m fr K h) : Fm env [] fr K h where
  kind := f.kind
  glob := f.glob
  bui := f.bui
  ns := by obtain ⟨mv, hn, _⟩ := f.ns; exact ⟨mv, hn, fun x d e => by cases e⟩
  cell := fun x cc e => by obtain ⟨ov, h, _⟩ := f.cell x cc e; exact ⟨ov, h, fun d e => by cases e⟩
  has := f.has
  inn := f.inn
  apart := f.apart
theorem Ex.wide {v : Value} {s s' : Shared} {t : Bool} (fm : Fm env m fr (keys σ ++ fr) s.heap) (x : Ex c A none fr σ s t X v s') : Ex c A (some env) fr σ s t X v s' := by
  obtain ⟨e, C, σ2, ex, rfl, q, ok, n, r, f, hx⟩ := x
  exact ⟨e, C, σ2, ex, rfl, q.wide (by simp), ok, n, r, (fm.move q).forget, hx⟩
theorem W.bindE {α β α' β' : Type} {t : Sem α} {k : α → Sem α'} {R : List Addr → Heap → β → α → Prop} {R' : List Addr → Heap → β' → α' → Prop} {Q : β' → Sto → Prop} {s : Shared} (fm : Fm env m fr (keys σ ++ fr) s.heap)
    (h : W c A none fr σ t R (fun b σ' => ∀ a s', Fm env m fr (keys σ' ++ fr) s'.heap → Post [] fr σ s s' σ' → Ok c A fr σ' s'.heap → R (keys σ' ++ fr) s'.heap b a → W c A (some env) fr σ' (k a) R' Q X s') X s) : W c A (some env) fr σ (t >>= k) R' Q X s := by
  refine wpAny_bind (wpAny_mono h (fun a s' ⟨b, σ', p, ok, r, q⟩ => ?_) fun _ _ x => x.wide fm)
  refine wpAny_mono (q a s' (fm.move p) p ok r) (fun a2 s2 ⟨b2, σ2, p2, ok2, r2, q2⟩ => ⟨b2, σ2, (p.wide (by simp)).trans p2, ok2, r2, q2⟩) fun _ _ x => Ex.back (p.wide (by simp)) x fun _ _ y => y

theorem W1.ret {e : Expr} {pos : Pos} (h : WE c A fr env m σ e R X) : W1 c A fr env m σ (.Return (some e) pos) N R X := fun s ok fm => by
  unfold W
  rw [exec_Return_some]
  refine W.standAt (W.bindE fm (W.mono (h s ok fm) (fun d σ1 q1 a s1 fm1 p1 ok1 x1 => ?_) fun _ _ y => y))
  exact W.pure (b := Out.ret d) ok1 ⟨a, rfl, x1, fm1.forget⟩ q1

theorem W1.assign {x : Str} {pos' pos : Pos} {value : Expr} (h : WE c A fr env m σ value (fun d σ' => N ((x, d) :: m) σ') X) (hk : env.kindOf x = some .local ∨ env.kindOf x = some .cell)
    (hs : swapsWith value (some (.Name x pos')) pos.line env = pure false) : W1 c A fr env m σ (.Assign [.Name x pos'] value pos) N R X := fun s ok fm => by
  unfold W
  rw [exec_Assign_Name (hs := hs)]
  refine W.standAt (W.bindE fm (W.mono (h s ok fm) (fun d σ1 q1 a s1 fm1 p1 ok1 x1 => ?_) fun _ _ y => y))
  refine W.standAt (W.bind (R := fun K h (_ : Unit) _ => Fm env ((x, d) :: m) fr K h) (wpAny_bindName (W.mono (W.store ok1 fm1 x1 hk) (fun _ σ2 q2 _ s2 p2 ok2 x2 => ?_) fun _ _ y => y)))
  subst q2; exact W.pure (b := Out.next _) ok2 ⟨rfl, x2⟩ q1
end
end Mine
set_option linter.unusedVariables false
set_option linter.unusedSimpArgs false
set_option autoImplicit false
namespace Mine
open PySem PySem.Calls PyProof.Rows

theorem dict_mapFields (f : Array Value → Array Value) (o : Obj) : (o.mapFields f).dict = o.dict := by
  obtain ⟨a, b, d, e⟩ := o
  cases d <;> rfl
theorem Ok.side {c : Cx} {A : Around} {fr : List Addr} {σ : Sto} {h h' : Heap} (ok : Ok c A fr σ h)
    (k : ∀ b o, b ∉ fr → h.get? b = some o → h'.get? b = some o)
    (k2 : ∀ b o, b ∈ fr → h.get? b = some o → ∃ o', h'.get? b = some o' ∧ ((∃ vs, o.data = .fields vs) ∨ o'.data = o.data)) : Ok c A fr σ h' where
  base := fun b o e => k b o (fun q => by rw [ok.new b (List.mem_append_right _ q)] at e; cases e) (ok.base b o e)
  sto := fun p hp => IsO.move (fun b o n e => k b o (fun q => n (List.mem_append_right _ q)) e) (fun a m => .inl m) (fun x e => k _ _ (fun q => by
    have := ok.nd
    rw [List.nodup_append] at this
    exact this.2.2 _ (List.mem_map_of_mem hp) _ q rfl) e) (ok.sto p hp)
  nd := ok.nd
  new := ok.new
  live := fun b hb => by obtain ⟨o, x⟩ := ok.live b hb; obtain ⟨o', y, _⟩ := k2 b o hb x; exact ⟨o', y⟩
  stack := by
    obtain ⟨l, x, y, z, zd⟩ := ok.stack
    refine ⟨l, x, FunFrames.turn (fun b o hb g q => ?_) y z, z, fun b hb => ?_⟩
    · obtain ⟨o', y, r⟩ := k2 b o hb g
      rcases r with ⟨vs, r⟩ | r
      · exact absurd r (q vs)
      · exact ⟨o', y, fun vs => r ▸ q vs⟩
    · obtain ⟨o, es, n, g, d⟩ := zd b hb
      obtain ⟨o', y, r⟩ := k2 b o (z b hb) g
      rcases r with ⟨vs, r⟩ | r
      · rw [d] at r; cases r
      · exact ⟨o', es, n, y, r.trans d⟩

theorem Fm.bare {env : Env} {fr K K' : List Addr} {h h' : Heap} (f : Fm env [] fr K h) (k : ∀ b o, b ∈ fr → h.get? b = some o → ∃ sl, h'.get? b = some { o with slots := sl }) : Fm env [] fr K' h' where
  kind := f.kind
  glob := f.glob
  bui := f.bui
  ns := by
    obtain ⟨mv, ⟨o, es, ep, g, r⟩, _⟩ := f.ns
    obtain ⟨sl, g'⟩ := k _ _ f.inn.1 g
    exact ⟨mv, ⟨_, es, ep, g', r⟩, fun x d e => by cases e⟩
  cell := fun x cc e => by
    obtain ⟨ov, ⟨o, g, hd⟩, _⟩ := f.cell x cc e
    obtain ⟨sl, g'⟩ := k _ _ (f.inn.2 _ (mem_of_lookup e)) g
    exact ⟨ov, ⟨_, g', hd⟩, fun d e => by cases e⟩
  has := f.has
  inn := f.inn
  apart := f.apart
theorem Fx.bare {G : Option Env} {fr K K' : List Addr} {h h' : Heap} (f : Fx fr K h G) (k : ∀ b o, b ∈ fr → h.get? b = some o → ∃ sl, h'.get? b = some { o with slots := sl }) : Fx fr K' h' G := by
  cases G with
  | none => trivial
  | some env => exact Fm.bare f k

structure Fly (ex fr : List Addr) (h h' : Heap) : Prop where
  kept : ∀ b o, b ∉ ex ++ fr → h.get? b = some o → h'.get? b = some o
  slots : ∀ b o, b ∈ fr → h.get? b = some o → ∃ sl, h'.get? b = some { o with slots := sl } ∧ ((∀ es n, o.data ≠ .dict es n) → sl = o.slots)
  own : ∀ b o, b ∈ ex → h.get? b = some o → ∃ o' vs, h'.get? b = some o' ∧ o'.data = .fields vs ∧ ∃ vs, o.data = .fields vs

theorem Fly.ok {c : Cx} {A : Around} {ex fr : List Addr} {σ : Sto} {h h' : Heap} (y : Fly ex fr h h') (ok : Ok c A (ex ++ fr) σ h) : Ok c A (ex ++ fr) σ h' := by
  refine ok.side y.kept fun b o hb e => ?_
  by_cases q : b ∈ ex
  · obtain ⟨o', vs, g, _, z⟩ := y.own b o q e; exact ⟨o', g, .inl z⟩
  · obtain ⟨sl, g, _⟩ := y.slots b o ((List.mem_append.mp hb).resolve_left q) e
    exact ⟨_, g, .inr rfl⟩
theorem Fly.post {F fr ex : List Addr} {σ σ' : Sto} {s s' : Shared} {h' : Heap} (y : Fly ex fr s'.heap h') (p : Post F fr σ s s' σ') (n : ∀ a ∈ ex, s.heap.get? a = none) (nk : ∀ a ∈ ex, a ∉ keys σ' ++ fr) (ne : ∀ a ∈ keys σ', a ∉ ex ++ fr) : Post F fr σ s { s' with heap := h' } σ' where
  shape := by obtain ⟨h, tk, rfl⟩ := p.shape; exact ⟨h', tk, rfl⟩
  kept := fun b o hb e => y.kept b o (fun q => by
    rcases List.mem_append.mp q with q | q
    · rw [n b q] at e; cases e
    · exact hb (List.mem_append_right _ q)) (p.kept b o hb e)
  slots := fun b o m nf e => by
    obtain ⟨sl, e1, r1⟩ := p.slots b o m nf e
    obtain ⟨sl', e2, r2⟩ := y.slots b _ m e1
    exact ⟨sl', e2, fun z => (r2 z).trans (r1 z)⟩
  alive := fun b o e => by
    obtain ⟨o1, e1⟩ := p.alive b o e
    by_cases q : b ∈ fr
    · obtain ⟨sl', e2, _⟩ := y.slots b _ q e1; exact ⟨_, e2⟩
    · exact ⟨o1, y.kept b o1 (fun z => by
        rcases List.mem_append.mp z with z | z
        · rw [n b z] at e; cases e
        · exact q z) e1⟩
  grow := p.grow

theorem Ok.apart {c : Cx} {A : Around} {ex fr : List Addr} {σ : Sto} {h : Heap} (ok : Ok c A (ex ++ fr) σ h) : (∀ a ∈ ex, a ∉ keys σ ++ fr) ∧ (∀ a ∈ keys σ, a ∉ ex ++ fr) ∧ ex.Nodup := by
  have := ok.nd
  rw [List.nodup_append, List.nodup_append] at this
  obtain ⟨h1, ⟨h2, h3, h4⟩, h5⟩ := this
  refine ⟨fun a ha hm => ?_, fun a ha hm => h5 a ha a hm rfl, h2⟩
  rcases List.mem_append.mp hm with q | q
  · exact h5 a q a (List.mem_append_left _ ha) rfl
  · exact h4 a ha a q rfl

theorem fly_update {ex fr : List Addr} {h : Heap} {a : Addr} {o : Obj} {vs : Array Value} {i : Nat} {x : Value} (ha : a ∈ ex) (nf : a ∉ fr) (e : h.get? a = some o) (hd : o.data = .fields vs) (hall : ∀ b o, b ∈ ex → h.get? b = some o → ∃ vs, o.data = .fields vs) :
    Fly ex fr h (h.update a (Obj.mapFields (·.setIfInBounds i x))) := by
  have hd' := Obj.data_mapFields hd (·.setIfInBounds i x)
  have e' := Heap.get?_update_self (Obj.mapFields (·.setIfInBounds i x)) e (Obj.isFreed_of_fields hd')
  refine ⟨fun b o hb g => ?_, fun b o hb g => ?_, fun b o hb g => ?_⟩
  · rw [Heap.get?_update_other (b := b) _ _ (fun (q : a = b) => hb (q ▸ List.mem_append_left _ ha))]; exact g
  · exact ⟨o.slots, by rw [Heap.get?_update_other (b := b) _ _ (fun (q : a = b) => nf (q ▸ hb))]; exact g, fun _ => rfl⟩
  · by_cases q : b = a
    · subst q; rw [e] at g; cases g; exact ⟨_, _, e', hd', vs, hd⟩
    · obtain ⟨us, hu⟩ := hall b o hb g
      exact ⟨o, us, by rw [Heap.get?_update_other _ _ (Ne.symm q)]; exact g, hu, us, hu⟩

section
variable {c : Cx} {A : Around} {G : Option Env} {fr : List Addr} {σ : Sto} {X : Addr → Sto → Prop} {env : Env} {s s' : Shared} {v : Value} {E : Value → Shared → Prop}

theorem Ex.weak {t : Bool} (x : Ex c A G fr σ s t X v s') : Ex c A G fr σ s false X v s' := by
  obtain ⟨e, C, σ2, ex, rfl, q, ok, n, ⟨oe, vs, g, gc, gd, gs, r⟩, f, hx⟩ := x
  refine ⟨e, C, σ2, ex, rfl, q, ok, n, ⟨oe, vs, g, gc, gd, gs, ?_⟩, f, hx⟩
  rcases r with ⟨_, r⟩ | r
  · exact .inl ⟨rfl, r⟩
  · exact .inr r

theorem Ex.flight {f? : Option Addr} (x : Ex c A G fr σ s true X v s') : wpAny (model c.prog c.w) A (setFlight v f?) (fun _ s'' => Ex c A G fr σ s true X v s'') E s' := by
  obtain ⟨e, C, σ2, ex, rfl, q, ok, n, ⟨oe, vs, g, gc, gd, gs, r⟩, f, hx⟩ := x
  rcases r with ⟨r, _⟩ | ⟨T, oT, ts, rfl, hT, gT, dT, sT⟩
  · cases r
  obtain ⟨ap1, ap2, ap3⟩ := ok.apart
  unfold setFlight
  refine wpAny_bind (wpAny_field g gd hT ?_)
  rw [if_pos (by simp)]
  refine wpAny_setField gT dT (by omega) ?_
  have hne : T ≠ e := fun z => by subst z; simp at ap3
  have hall : ∀ b o, b ∈ [e, T] → s'.heap.get? b = some o → ∃ vs, o.data = .fields vs := fun b o hb gb => by
    rcases List.mem_cons.mp hb with rfl | hb
    · rw [g] at gb; cases gb; exact ⟨_, gd⟩
    · rw [List.mem_singleton.mp hb, gT] at gb; cases gb; exact ⟨_, dT⟩
  have y := fly_update (ex := [e, T]) (fr := fr) (i := 3) (x := f?.elim Value.none fun f => rawInt f) (by simp) (fun z => ap1 T (by simp) (List.mem_append_right _ z)) gT dT hall
  refine ⟨e, C, σ2, [e, T], rfl, y.post q n ap1 ap2, y.ok ok, n, ⟨oe, vs, ?_, gc, gd, gs, .inr ⟨T, _, _, rfl, hT, Heap.get?_update_self _ gT (Obj.isFreed_of_fields (Obj.data_mapFields dT _)), Obj.data_mapFields dT _, by simpa using sT⟩⟩, f.bare (fun b o hb e => by obtain ⟨sl, z, _⟩ := y.slots b o hb e; exact ⟨sl, z⟩), hx⟩
  rw [Heap.get?_update_other _ _ hne]; exact g

theorem Ex.noted {t : Bool} {l : List Env} {L : Addr} (x : Ex c A G fr σ s t X v s') (hA : A.frames = some (env :: l)) (hf : env.frame = some L) : wpAny (model c.prog c.w) A (noteFrame v env) (fun _ s'' => Ex c A G fr σ s true X v s'') E s' := by
  obtain ⟨e, C, σ2, ex, rfl, q, ok, n, ⟨oe, vs, g, gc, gd, gs, r⟩, f, hx⟩ := x
  obtain ⟨l', hl', hff, hin, hdict⟩ := ok.stack
  obtain rfl : env :: l = l' := by rw [hA] at hl'; exact Option.some.inj hl'
  obtain ⟨ap1, ap2, ap3⟩ := ok.apart
  have hall : ∀ b o, b ∈ ex → s'.heap.get? b = some o → ∃ vs, o.data = .fields vs := fun b o hb gb => by
    rcases r with ⟨_, rfl, _⟩ | ⟨T, oT, ts, rfl, hT, gT, dT, sT⟩
    · rw [List.mem_singleton.mp hb, g] at gb; cases gb; exact ⟨_, gd⟩
    · rcases List.mem_cons.mp hb with rfl | hb
      · rw [g] at gb; cases gb; exact ⟨_, gd⟩
      · rw [List.mem_singleton.mp hb, gT] at gb; cases gb; exact ⟨_, dT⟩
  have hnex : ∀ b ∈ (env :: l).filterMap (·.frame), b ∈ fr := fun b hm => by
    rcases List.mem_append.mp (hin b hm) with z | z
    · obtain ⟨_, o, ho, hnf⟩ := hff.mem hm
      obtain ⟨us, hu⟩ := hall b o z ho
      exact absurd hu (hnf us)
    · exact z
  -- the entry that is laid, ahead of whatever stood there
  have lay : ∀ (head : Value) (h1 : Heap), Fly ex fr s'.heap h1 → h1.get? e = some oe → e ∈ ex → (head = Value.none ∨ ∃ T, head = Value.ref T) →
      wpAny (model c.prog c.w) A (do setField (.ref e) 1 (← EntryCells.newEntry head (← frameOf env) .none (rawInt L) .none (← entryPlaceOf L (head != .none)))) (fun _ s'' => Ex c A G fr σ s true X (.ref e) s'') E { s' with heap := h1 } := by
    intro head h1 y1 ge hex hhd
    have ok1 := y1.ok ok
    obtain ⟨l1, hl1, hff1, hin1, hdict1⟩ := ok1.stack
    obtain rfl : env :: l = l1 := by rw [hA] at hl1; exact Option.some.inj hl1
    refine wpAny_bind (wpAny_frameOf_fun (s := { s' with heap := h1 }) hA hff1 hf fun h2 hs2 => ?_)
    refine wpAny_bind (wpAny_entryPlaceOf fun pl hpl => ?_)
    unfold EntryCells.newEntry newFields
    refine wpAny_bind (wpAny_newObj_type ?_ (hpl.sizeOk5 _ _ _ _ _))
    have hene : e ∉ (env :: l).filterMap (·.frame) := fun hm => by
      obtain ⟨_, o, ho, hnf⟩ := hff1.mem hm
      rw [ge] at ho; injection ho with ho; subst ho; exact hnf vs gd
    have he2 : h2.get? e = some oe := (hs2.2.1 e hene).trans ge
    have he3 := Heap.get?_push_of_some (h := h2) { cls := .type "traceback", dict := none, data := .fields ([head, .ref L, .none, rawInt L, .none] ++ (if pl.isEmpty then List.replicate 6 Value.none else pl)).toArray } he2
    refine wpAny_setField he3 gd (by omega) ?_
    have hd3 := Obj.data_mapFields gd (·.setIfInBounds 1 (Value.ref h2.objs.size))
    have hTe : h2.objs.size ≠ e := Nat.ne_of_gt (Heap.lt_size he2)
    -- the new heap
    generalize hH3 : (h2.push { cls := .type "traceback", dict := none, data := .fields ([head, .ref L, .none, rawInt L, .none] ++ (if pl.isEmpty then List.replicate 6 Value.none else pl)).toArray }) = H3 at he3 ⊢
    have gT : (H3.update e (Obj.mapFields (·.setIfInBounds 1 (Value.ref h2.objs.size)))).get? h2.objs.size = some { cls := .type "traceback", dict := none, data := .fields ([head, .ref L, .none, rawInt L, .none] ++ (if pl.isEmpty then List.replicate 6 Value.none else pl)).toArray } := by
      rw [Heap.get?_update_other _ _ (Ne.symm hTe), ← hH3]; exact Heap.get?_push_size _ rfl
    have h23 : ∀ b o, b ≠ e → h2.get? b = some o → (H3.update e (Obj.mapFields (·.setIfInBounds 1 (Value.ref h2.objs.size)))).get? b = some o := fun b o hb gb => by
      rw [Heap.get?_update_other _ _ (Ne.symm hb), ← hH3]; exact Heap.get?_push_of_some _ gb
    have gee := Heap.get?_update_self (Obj.mapFields (·.setIfInBounds 1 (Value.ref h2.objs.size))) he3 (Obj.isFreed_of_fields hd3)
    have hefr : e ∉ fr := fun z => ap1 e hex (List.mem_append_right _ z)
    -- as a flight of e alone
    have k12 : ∀ b o, b ∉ fr → h1.get? b = some o → h2.get? b = some o := fun b o hb gb => by
      by_cases z : b ∈ ex
      · exact (hs2.2.1 b fun hm => by
          obtain ⟨_, o2, ho2, hnf⟩ := hff1.mem hm
          rw [gb] at ho2; cases ho2
          by_cases zz : ∃ vs, o.data = .fields vs
          · obtain ⟨vs, zz⟩ := zz; exact hnf vs zz
          · cases hg0 : s'.heap.get? b with
            | none =>
              obtain ⟨oo, hoo⟩ := ok.live b (List.mem_append_left _ z)
              rw [hg0] at hoo; cases hoo
            | some o0 =>
              obtain ⟨o', us, q1, q2, _⟩ := y1.own b o0 z hg0
              rw [gb] at q1; cases q1; exact zz ⟨us, q2⟩).trans gb
      · exact (hs2.2.1 b fun hm => (List.mem_append.mp (hin1 b hm)).elim z hb).trans gb
    have k13 : ∀ b o, b ∉ [e] ++ fr → h1.get? b = some o → (H3.update e (Obj.mapFields (·.setIfInBounds 1 (Value.ref h2.objs.size)))).get? b = some o := fun b o hb gb =>
      h23 b o (fun z => hb (z ▸ by simp)) (k12 b o (fun z => hb (List.mem_append_right _ z)) gb)
    have s13 : ∀ b o, b ∈ fr → h1.get? b = some o → ∃ sl, (H3.update e (Obj.mapFields (·.setIfInBounds 1 (Value.ref h2.objs.size)))).get? b = some { o with slots := sl } ∧ ((∀ es n, o.data ≠ .dict es n) → sl = o.slots) := fun b o hb gb => by
      by_cases hst : b ∈ (env :: l).filterMap (·.frame)
      · obtain ⟨sl, z⟩ := hs2.2.2 b o gb
        obtain ⟨o1, es, nn, g1, d1⟩ := hdict1 b hst
        rw [gb] at g1; cases g1
        exact ⟨sl, h23 b _ (fun z => hefr (z ▸ hb)) z, fun q => absurd d1 (q es nn)⟩
      · exact ⟨o.slots, h23 b _ (fun z => hefr (z ▸ hb)) ((hs2.2.1 b hst).trans gb), fun _ => rfl⟩
    have s03 : ∀ b o, b ∈ fr → s'.heap.get? b = some o → ∃ sl, (H3.update e (Obj.mapFields (·.setIfInBounds 1 (Value.ref h2.objs.size)))).get? b = some { o with slots := sl } ∧ ((∀ es n, o.data ≠ .dict es n) → sl = o.slots) := fun b o hb gb => by
      obtain ⟨sl, z, r⟩ := y1.slots b o hb gb
      obtain ⟨sl', z', r'⟩ := s13 b _ hb z
      exact ⟨sl', z', fun q => (r' q).trans (r q)⟩
    have live1 : ∀ b o, s'.heap.get? b = some o → ∃ o', h1.get? b = some o' := fun b o gb => by
      by_cases z1 : b ∈ ex
      · obtain ⟨o', _, z, _⟩ := y1.own b o z1 gb; exact ⟨_, z⟩
      · by_cases z2 : b ∈ fr
        · obtain ⟨sl, z, _⟩ := y1.slots b o z2 gb; exact ⟨_, z⟩
        · exact ⟨_, y1.kept b o (fun z => (List.mem_append.mp z).elim z1 z2) gb⟩
    have nT1 : h1.get? h2.objs.size = none := by
      cases hg : h1.get? h2.objs.size with
      | none => rfl
      | some o =>
        obtain ⟨sl, z⟩ := hs2.2.2 _ o hg
        exact absurd (Heap.lt_size z) (Nat.lt_irrefl _)
    have nT : s'.heap.get? h2.objs.size = none := by
      cases hg : s'.heap.get? h2.objs.size with
      | none => rfl
      | some o => obtain ⟨o', z⟩ := live1 _ o hg; rw [nT1] at z; cases z
    have okE : Ok c A (ex ++ fr) σ2 (H3.update e (Obj.mapFields (·.setIfInBounds 1 (Value.ref h2.objs.size)))) := by
      refine ok1.side (fun b o hb gb => k13 b o (fun z => hb ?_) gb) fun b o hb gb => ?_
      · rcases List.mem_append.mp z with z | z
        · rw [List.mem_singleton.mp z]; exact List.mem_append_left _ hex
        · exact List.mem_append_right _ z
      · by_cases z : b = e
        · subst z; rw [ge] at gb; cases gb; exact ⟨_, gee, .inl ⟨_, gd⟩⟩
        · by_cases z2 : b ∈ fr
          · obtain ⟨sl, zz, _⟩ := s13 b o z2 gb
            exact ⟨_, zz, .inr rfl⟩
          · exact ⟨o, h23 b o z (k12 b o z2 gb), .inr rfl⟩
    have okF : Ok c A ([e, h2.objs.size] ++ fr) σ2 (H3.update e (Obj.mapFields (·.setIfInBounds 1 (Value.ref h2.objs.size)))) := by
      have hsub : ∀ a ∈ keys σ2 ++ ([e, h2.objs.size] ++ fr), a ∈ keys σ2 ++ (ex ++ fr) ∨ a = h2.objs.size := fun a ha => by
        rcases List.mem_append.mp ha with z | z
        · exact .inl (List.mem_append_left _ z)
        · rcases List.mem_append.mp z with z | z
          · rcases List.mem_cons.mp z with rfl | z
            · exact .inl (List.mem_append_right _ (List.mem_append_left _ hex))
            · exact .inr (List.mem_singleton.mp z)
          · exact .inl (List.mem_append_right _ (List.mem_append_right _ z))
      have hnin : h2.objs.size ∉ keys σ2 ++ (ex ++ fr) := fun z => by
        have : ∃ o, s'.heap.get? h2.objs.size = some o := by
          rcases List.mem_append.mp z with z | z
          · obtain ⟨p, hp, e⟩ := List.mem_map.mp z
            have := ok.sto p hp
            rw [e] at this
            cases hpo : p.2 with
            | lst ds => rw [hpo] at this; obtain ⟨vs, n, g, _⟩ := this; exact ⟨_, g⟩
            | rows rs => rw [hpo] at this; obtain ⟨as, _, _, o, es, ep, g, _⟩ := this; exact ⟨_, g⟩
            | flds fs => rw [hpo] at this; obtain ⟨mA, ⟨o, es, ep, g, _⟩, _⟩ := this; exact ⟨_, g⟩
          · exact ok.live _ z
        obtain ⟨o, z⟩ := this
        rw [nT] at z; cases z
      exact {
        base := okE.base
        sto := fun p hp => IsO.move (K := keys σ2 ++ (ex ++ fr)) (fun b o nb e => k13 b o (fun z => nb (by
            rcases List.mem_append.mp z with z | z
            · rw [List.mem_singleton.mp z]; exact List.mem_append_right _ (List.mem_append_left _ hex)
            · exact List.mem_append_right _ (List.mem_append_right _ z))) e)
          (fun a m => (hsub a m).elim Or.inl fun (z : a = h2.objs.size) => Or.inr (z ▸ nT1)) (fun x gx => k13 _ _ (fun z => ap2 p.1 (List.mem_map_of_mem hp) (by
            rcases List.mem_append.mp z with z | z
            · rw [List.mem_singleton.mp z]; exact List.mem_append_left _ hex
            · exact List.mem_append_right _ z)) gx) (ok1.sto p hp)
        nd := by
          have h0 := ok.nd
          rw [List.nodup_append, List.nodup_append] at h0
          rw [List.nodup_append, List.nodup_append]
          refine ⟨h0.1, ⟨by simp [Ne.symm hTe], h0.2.1.2.1, fun a ha b hb => ?_⟩, fun a ha b hb => ?_⟩
          · rcases List.mem_cons.mp ha with rfl | ha
            · exact fun z => hefr (z ▸ hb)
            · rw [List.mem_singleton.mp ha]; exact fun z => hnin (z ▸ List.mem_append_right _ (List.mem_append_right _ hb))
          · rcases List.mem_append.mp hb with hb | hb
            · rcases List.mem_cons.mp hb with rfl | hb
              · exact fun z => ap2 a ha (z ▸ List.mem_append_left _ hex)
              · rw [List.mem_singleton.mp hb]; exact fun z => hnin (z ▸ List.mem_append_left _ ha)
            · exact fun z => ap2 a ha (z ▸ List.mem_append_right _ hb)
        new := fun a ha => by
          rcases hsub a ha with z | rfl
          · exact ok.new a z
          · cases hg : c.h0.get? h2.objs.size with
            | none => rfl
            | some o => have := ok1.base _ o hg; rw [nT1] at this; cases this
        live := fun a ha => by
          rcases List.mem_append.mp ha with z | z
          · rcases List.mem_cons.mp z with rfl | z
            · exact ⟨_, gee⟩
            · rw [List.mem_singleton.mp z]; exact ⟨_, gT⟩
          · exact okE.live a (List.mem_append_right _ z)
        stack := by
          obtain ⟨l3, hl3, hff3, _, hd3⟩ := okE.stack
          obtain rfl : env :: l = l3 := by rw [hA] at hl3; exact Option.some.inj hl3
          exact ⟨_, hl3, hff3, fun b hb => List.mem_append_right _ (hnex b hb), hd3⟩ }
    refine ⟨e, C, σ2, [e, h2.objs.size], rfl, ?_, okF, ?_, ⟨_, _, gee, ⟨(Obj.cls_mapFields _ _).trans gc.1, (dict_mapFields _ _).trans gc.2⟩, hd3, by simpa using gs, .inr ⟨h2.objs.size, _, _, rfl, ?_, gT, rfl, ?_⟩⟩, f.bare (fun b o hb e => by obtain ⟨sl, z, _⟩ := s03 b o hb e; exact ⟨sl, z⟩), hx⟩
    · refine { shape := by obtain ⟨h, tk, rfl⟩ := q.shape; exact ⟨_, _, rfl⟩, kept := fun b o hb gb => ?_, slots := fun b o hb nf gb => ?_, alive := fun b o gb => ?_, grow := q.grow }
      · have gb' := q.kept b o hb gb
        have hbx : b ∉ ex := fun z => by rw [n b z] at gb; cases gb
        have hbf : b ∉ fr := fun z => hb (List.mem_append_right _ z)
        exact k13 b o (fun z => by
          rcases List.mem_append.mp z with z | z
          · exact hbx (List.mem_singleton.mp z ▸ hex)
          · exact hbf z) (y1.kept b o (fun z => (List.mem_append.mp z).elim hbx hbf) gb')
      · obtain ⟨sl, z, r⟩ := q.slots b o hb nf gb
        obtain ⟨sl', z', r'⟩ := s03 b _ hb z
        exact ⟨sl', z', fun y => (r' y).trans (r y)⟩
      · obtain ⟨o1, g1⟩ := q.alive b o gb
        have hbx : b ∉ ex := fun z => by rw [n b z] at gb; cases gb
        by_cases z2 : b ∈ fr
        · obtain ⟨sl', z', _⟩ := s03 b _ z2 g1; exact ⟨_, z'⟩
        · exact ⟨o1, k13 b o1 (fun z => by
            rcases List.mem_append.mp z with z | z
            · exact hbx (List.mem_singleton.mp z ▸ hex)
            · exact z2 z) (y1.kept b o1 (fun z => (List.mem_append.mp z).elim hbx z2) g1)⟩
    · intro a ha
      rcases List.mem_cons.mp ha with rfl | ha
      · exact n _ hex
      · rw [List.mem_singleton.mp ha]; exact none_back q nT
    · exact Array.getElem?_setIfInBounds_self_of_lt (by omega)
    · simp only [List.size_toArray, List.length_append, List.length_cons, List.length_nil]; omega
  unfold noteFrame
  simp only [hf]
  rcases r with ⟨_, rfl, h1⟩ | ⟨T, oT, ts, rfl, hT, gT, dT, sT⟩
  · refine wpAny_bind (wpAny_field g gd h1 ?_)
    rw [if_neg (by decide)]
    exact lay .none s'.heap ⟨fun _ _ _ e => e, fun b o _ e => ⟨o.slots, e, fun _ => rfl⟩, fun b o hb e => by obtain ⟨us, hu⟩ := hall b o hb e; exact ⟨o, us, e, hu, us, hu⟩⟩ g (by simp) (.inl rfl)
  · refine wpAny_bind (wpAny_field g gd hT ?_)
    rw [if_pos (show (Value.ref T != Value.none) = true from by simp)]
    refine wpAny_bind (wpAny_field gT dT (x := ts[3]) (by simp) ?_)
    by_cases hb : (ts[3] == rawInt L) = true
    · rw [if_pos hb]
      exact wpAny_pure ⟨e, C, σ2, [e, T], rfl, q, ok, n, ⟨oe, vs, g, gc, gd, gs, .inr ⟨T, oT, ts, rfl, hT, gT, dT, sT⟩⟩, f, hx⟩
    · rw [if_neg hb]
      refine wpAny_bind (wpAny_setField gT dT (by omega) ?_)
      have hne : T ≠ e := fun z => by subst z; simp at ap3
      have y := fly_update (ex := [e, T]) (fr := fr) (i := 3) (x := Value.none) (by simp) (fun z => ap1 T (by simp) (List.mem_append_right _ z)) gT dT hall
      exact lay (.ref T) _ y (by rw [Heap.get?_update_other _ _ hne]; exact g) (by simp) (.inr ⟨T, rfl⟩)
end
end Mine
set_option linter.unusedVariables false
set_option linter.unusedSimpArgs false
set_option autoImplicit false
namespace Mine
open PySem PySem.Calls PyProof.Rows

def Room' (n : Nat) (A : Around) : Prop := A.depth + n < 990 ∧ A.units + 10 * n < 9800
def Room (n : Nat) (A : Around) : Prop := Room' n A ∧ A.handled = none
theorem Room'.deeper {n : Nat} {A : Around} {env : Env} (r : Room' (n + 1) A) : Room' n (A.deeper env) := by
  unfold Room' at *; show A.depth + 1 + n < 990 ∧ A.units + 3 + 10 * n < 9800; omega
theorem Room.deeper {n : Nat} {A : Around} {env : Env} (r : Room (n + 1) A) : Room n (A.deeper env) := ⟨r.1.deeper, r.2⟩
theorem Room.less {n k : Nat} {A : Around} (r : Room (n + k) A) : Room n A := ⟨by have := r.1; unfold Room' at *; omega, r.2⟩

structure Fn (c : Cx) (f : Addr) (ps : List Str) (body : List Stmt) (scope : Scope) : Prop where
  at_ : ∃ o fd, c.h0.get? f = some o ∧ o.data = .func fd ∧ fd.body = .stmts body ∧ fd.scope = scope ∧ fd.closure = [] ∧ fd.globals = mainGlobals ∧ fd.builtins = builtinsNs ∧ c.h0.CodeRec fd.code fd.qualname ∧
    ∀ vals : List Value, vals.length = ps.length → bindArgs fd ⟨vals, []⟩ = pure (ps.zip vals)
  nolimit : c.h0.NoLimit
  nd : ps.Nodup
  kinds : ∀ x ∈ ps, scope.names.lookup x = some .local ∨ scope.names.lookup x = some .cell
  cells : ((cellsFrom 0 scope.names []).map (·.1)).Nodup
  nofree : ∀ x, scope.names.lookup x ≠ some .free
  kind : scope.kind = .function
  co : scope.isCoroutine = false
  gen : scope.isGenerator = false

def WC (c : Cx) (P : Around → Prop) (f : Value) (ds : List D) (σ : Sto) (Q : D → Sto → Prop) (X : Addr → Sto → Prop) : Prop :=
  ∀ A fr s vals, P A → Ok c A fr σ s.heap → Vs (keys σ ++ fr) s.heap ds vals → W c A none fr σ (call f vals) V Q X s

theorem bindL_nin {k : Str → Option NameKind} {x : Str} : ∀ {b : List (Str × Value)} {m : Str → Option Value}, x ∉ b.map (·.1) → bindL k b m x = m x
  | [], m, _ => rfl
  | (n, v) :: r, m, h => by
    simp only [List.map_cons, List.mem_cons, not_or] at h
    unfold bindL
    rw [bindL_nin h.2]
    split
    · exact if_neg h.1
    · rfl
theorem bindC_nin {k : Str → Option NameKind} {x : Str} : ∀ {b : List (Str × Value)} {m : Str → Option Value}, x ∉ b.map (·.1) → bindC k b m x = m x
  | [], m, _ => rfl
  | (n, v) :: r, m, h => by
    simp only [List.map_cons, List.mem_cons, not_or] at h
    unfold bindC
    rw [bindC_nin h.2]
    split
    · rfl
    · exact if_neg h.1
theorem zip_fst {ps : List Str} {vs : List Value} (h : vs.length = ps.length) : (ps.zip vs).map (·.1) = ps := by
  rw [List.map_fst_zip (by omega)]
theorem bound {K : List Addr} {h : Heap} {k : Str → Option NameKind} {x : Str} {d : D} : ∀ {ps : List Str} {ds : List D} {vs : List Value} {m cm : Str → Option Value}, ps.Nodup → ds.length = ps.length → Vs K h ds vs → (ps.zip ds).lookup x = some d →
    (k x = some .local → ∃ v, bindL k (ps.zip vs) m x = some v ∧ V K h d v) ∧ (k x ≠ some .local → ∃ v, bindC k (ps.zip vs) cm x = some v ∧ V K h d v)
  | [], _, _, _, _, _, _, _, e => by simp at e
  | p :: ps, [], _, _, _, _, e, _, _ => by simp at e
  | p :: ps, d' :: ds, vs, m, cm, nd, hl, hv, e => by
    unfold Vs at hv
    obtain ⟨v, r, rfl, p1, p2⟩ := hv
    simp only [List.zip_cons_cons] at e ⊢
    have hr : r.length = ps.length := by rw [p2.length]; simpa using hl
    rw [lookup_cons_eq] at e
    unfold bindL bindC
    by_cases q : x = p
    · rw [if_pos q] at e; cases e
      subst q
      have hn : x ∉ (ps.zip r).map (·.1) := by rw [zip_fst hr]; exact (List.nodup_cons.mp nd).1
      rw [bindL_nin hn, bindC_nin hn]
      exact ⟨fun z => ⟨v, by rw [if_pos z]; simp, p1⟩, fun z => ⟨v, by rw [if_neg z]; simp, p1⟩⟩
    · rw [if_neg q] at e
      exact bound (List.nodup_cons.mp nd).2 (by simpa using hl) p2 e

theorem cellsFrom_names : ∀ (names : List (Str × NameKind)) (n n' : Nat) (acc acc' : List (Str × Addr)), acc.map (·.1) = acc'.map (·.1) → (cellsFrom n names acc).map (·.1) = (cellsFrom n' names acc').map (·.1)
  | [], _, _, _, _, h => h
  | (x, k) :: r, n, n', acc, acc', h => by
    unfold cellsFrom
    split
    · exact cellsFrom_names r _ _ _ _ (by simp [h])
    · exact cellsFrom_names r _ _ _ _ h

theorem lookup_isSome_of_cell {x : Str} : ∀ (names : List (Str × NameKind)) (n : Nat) (acc : List (Str × Addr)), names.lookup x = some .cell ∨ (acc.lookup x).isSome = true → ((cellsFrom n names acc).lookup x).isSome = true
  | [], _, _, h => h.elim (fun e => by cases e) id
  | (y, k) :: r, n, acc, h => by
    unfold cellsFrom
    by_cases hk : (k == .cell) = true
    · rw [if_pos hk]
      refine lookup_isSome_of_cell r (n + 1) ((y, n) :: acc) ?_
      by_cases hy : (x == y) = true
      · exact .inr (by rw [List.lookup_cons, hy]; rfl)
      · refine h.imp (fun e => ?_) fun e => ?_
        · rw [List.lookup_cons] at e; simpa only [hy] using e
        · rw [List.lookup_cons]; simpa only [hy] using e
    · rw [if_neg hk]
      refine lookup_isSome_of_cell r n acc ?_
      by_cases hy : (x == y) = true
      · refine .inr (h.elim (fun e => ?_) id)
        rw [List.lookup_cons, hy] at e
        exact absurd (by rw [Option.some.inj e]; rfl) hk
      · refine h.imp (fun e => ?_) id
        rw [List.lookup_cons] at e; simpa only [hy] using e

theorem lookup_of_mem_nodup {x : Str} {a : Addr} : ∀ {l : List (Str × Addr)}, (l.map (·.1)).Nodup → (x, a) ∈ l → l.lookup x = some a
  | [], _, h => nomatch h
  | (y, b) :: r, nd, h => by
    simp only [List.map_cons, List.nodup_cons] at nd
    rw [List.lookup_cons]
    rcases List.mem_cons.mp h with e | hm
    · cases e; simp
    · skip
      have : (x == y) = false := by
        simp only [beq_eq_false_iff_ne, ne_eq]
        rintro rfl
        exact nd.1 (List.mem_map.mpr ⟨(x, a), hm, rfl⟩)
      rw [this]; exact lookup_of_mem_nodup nd.2 hm

theorem IsO.there {prog : Program} {w : World} {K : List Addr} {h : Heap} {a : Addr} {o : O} (x : IsO prog w K h a o) : ∃ ob, h.get? a = some ob := by
  cases o with
  | lst ds => obtain ⟨vs, n, g, _⟩ := x; exact ⟨_, g⟩
  | rows rs => obtain ⟨as, _, _, o, es, ep, g, _⟩ := x; exact ⟨_, g⟩
  | flds fs => obtain ⟨mA, ⟨o, es, ep, g, _⟩, _⟩ := x; exact ⟨_, g⟩
theorem Ok.there {c : Cx} {A : Around} {fr : List Addr} {σ : Sto} {h : Heap} (ok : Ok c A fr σ h) {a : Addr} (m : a ∈ keys σ ++ fr) : ∃ o, h.get? a = some o := by
  rcases List.mem_append.mp m with z | z
  · obtain ⟨p, hp, rfl⟩ := List.mem_map.mp z; exact (ok.sto p hp).there
  · exact ok.live _ z
theorem Ok.lt {c : Cx} {A : Around} {fr : List Addr} {σ : Sto} {h : Heap} (ok : Ok c A fr σ h) {a : Addr} (m : a ∈ keys σ ++ fr) : a < h.objs.size := by
  obtain ⟨o, e⟩ := ok.there m; exact Heap.lt_size e
theorem none_of_ge {h : Heap} {a : Addr} (x : h.objs.size ≤ a) : h.get? a = none := by
  cases e : h.get? a with
  | none => rfl
  | some o => exact absurd (Heap.lt_size e) (Nat.not_lt.mpr x)

theorem Ok.pop {c : Cx} {A : Around} {env : Env} {fr ex : List Addr} {σ : Sto} {h : Heap} {l : List Env} (hA : A.frames = some l) (hf : env.frame = some env.locals) (hin : ∀ b ∈ l.filterMap (·.frame), b ∈ fr) (ok : Ok c (A.deeper env) (ex ++ (Fa env ++ fr)) σ h) : Ok c A (ex ++ fr) σ h where
  base := ok.base
  sto := fun p hp => IsO.move (K := keys σ ++ (ex ++ (Fa env ++ fr))) (fun b o _ e => e) (fun a m => .inl (by
    rcases List.mem_append.mp m with z | z
    · exact List.mem_append_left _ z
    · rcases List.mem_append.mp z with z | z
      · exact List.mem_append_right _ (List.mem_append_left _ z)
      · exact List.mem_append_right _ (List.mem_append_right _ (List.mem_append_right _ z)))) (fun x e => e) (ok.sto p hp)
  nd := by
    refine List.Sublist.nodup ?_ ok.nd
    refine List.Sublist.append (List.Sublist.refl _) (List.Sublist.append (List.Sublist.refl _) (List.sublist_append_right _ _))
  new := fun a m => ok.new a (by
    rcases List.mem_append.mp m with z | z
    · exact List.mem_append_left _ z
    · rcases List.mem_append.mp z with z | z
      · exact List.mem_append_right _ (List.mem_append_left _ z)
      · exact List.mem_append_right _ (List.mem_append_right _ (List.mem_append_right _ z)))
  live := fun a m => ok.live a (by
    rcases List.mem_append.mp m with z | z
    · exact List.mem_append_left _ z
    · exact List.mem_append_right _ (List.mem_append_right _ z))
  stack := by
    obtain ⟨l', h1, h2, h3, h4⟩ := ok.stack
    have : A.frames.map (env :: ·) = some l' := h1
    rw [hA] at this
    obtain rfl : env :: l = l' := Option.some.inj this
    exact ⟨l, hA, h2.2.2, fun b hb => List.mem_append_right _ (hin b hb), fun b hb => h4 b (by simp only [List.filterMap_cons, hf]; exact List.mem_cons_of_mem _ hb)⟩

structure Fe (A : Around) (env : Env) (scope : Scope) : Prop where
  scope : env.scope = scope
  frame : env.frame = some env.locals
  stack : ∃ l, A.frames = some (env :: l)

def WD (c : Cx) (P : Around → Prop) (f : Value) (ds : List D) (σ : Sto) (Q : D → Sto → Prop) (X : Addr → Sto → Prop) : Prop :=
  ∀ A fr s vals, P A → Ok c A fr σ s.heap → Vs (keys σ ++ fr) s.heap ds vals → codeAny (model c.prog c.w) A (.call f ⟨vals, []⟩) (fun r s' => match r with
    | .ok (.ret a) => ∃ b σ', Post (Fo none) fr σ s s' σ' ∧ Ok c A fr σ' s'.heap ∧ V (keys σ' ++ fr) s'.heap b a ∧ Q b σ'
    | .ok _ => False
    | .error e => Ex c A none fr σ s false X e s') s
theorem WD.wc {c : Cx} {P : Around → Prop} {f : Value} {ds : List D} {σ : Sto} {Q : D → Sto → Prop} {X : Addr → Sto → Prop} (h : WD c P f ds σ Q X) : WC c P f ds σ Q X := fun A fr s vals hA ok hv => wpAny_call (h A fr s vals hA ok hv)

theorem WD.of {c : Cx} {P P' : Around → Prop} {f : Addr} {ps : List Str} {body : List Stmt} {scope : Scope} {ds : List D} {σ : Sto} {Q : D → Sto → Prop} {X : Addr → Sto → Prop} (fn : Fn c f ps body scope) (hP : ∀ A env, P A → A.depth < recursionLimit ∧ P' (A.deeper env)) (hl : ds.length = ps.length)
    (h : ∀ A fr env, P' A → Fe A env scope → WS c A (Fa env ++ fr) env (ps.zip ds) σ body (fun _ σ' => Q .none σ') Q X) : WD c P (.ref f) ds σ Q X := by
  intro A fr s vals hA ok hV
  obtain ⟨o, fd, ho, hdata, hbody, hsc, hclo, hglob, hbui, hcd, hbind⟩ := fn.at_
  have hlen : vals.length = ps.length := hV.length.trans hl
  have hfst : ((ps.zip vals).map (·.1)) = ps := zip_fst hlen
  obtain ⟨l, hAl, hff, hin, hdict⟩ := ok.stack
  refine codeAny_call_cells (hP A (callEnvC fd s.heap.objs.size f) hA).1 (ok.base _ _ ho) hdata (fn.nolimit.keeps ok.base) (hcd.keeps ok.base) hbody (hbind vals hlen) hclo (fun x hx => ?_) (fun s₁ ic => ?_) (hsc ▸ fn.co) (hsc ▸ fn.gen) (hsc ▸ fn.kind)
  · have hx' : x.1 ∈ ps := hfst ▸ List.mem_map_of_mem hx
    rw [hsc]
    exact (fn.kinds x.1 hx').imp id fun z => ⟨z, lookup_isSome_of_cell _ _ _ (.inl z)⟩
  generalize hE : callEnvC fd s.heap.objs.size f = env at ic ⊢
  have e1 : env.scope = scope := by rw [← hE]; exact hsc
  have e2 : env.frame = some env.locals := by rw [← hE]; rfl
  have e3 : env.locals = s.heap.objs.size := by rw [← hE]; rfl
  have e4 : env.cells = cellsFrom (s.heap.objs.size + 1) scope.names [] := by rw [← hE, ← hsc]; rfl
  have e5 : env.globals = mainGlobals := by rw [← hE]; exact hglob
  have e6 : env.builtins = builtinsNs := by rw [← hE]; exact hbui
  obtain ⟨⟨hsame, hns, hkeep, hfresh⟩, hcell, hap, habove⟩ := ic
  have hge : ∀ a ∈ Fa env, s.heap.objs.size ≤ a := fun a ha => by
    rcases List.mem_cons.mp ha with rfl | ha
    · exact Nat.le_of_eq e3.symm
    · obtain ⟨p, hp, rfl⟩ := List.mem_map.mp ha
      exact Nat.le_of_lt (e3 ▸ habove p.1 p.2 hp)
  have hcellsnd : (env.cells.map (·.1)).Nodup := by rw [e4, cellsFrom_names _ _ 0 _ [] rfl]; exact fn.cells
  have hlook : ∀ p ∈ env.cells, env.cells.lookup p.1 = some p.2 := fun p hp => lookup_of_mem_nodup hcellsnd hp
  have hlive : ∀ a ∈ Fa env, ∃ o, s₁.heap.get? a = some o ∧ ∀ vs, o.data ≠ .fields vs := fun a ha => by
    rcases List.mem_cons.mp ha with rfl | ha
    · obtain ⟨o, es, ep, g, hd, _⟩ := hns; exact ⟨o, g, fun vs q => by rw [hd] at q; cases q⟩
    · obtain ⟨p, hp, rfl⟩ := List.mem_map.mp ha
      obtain ⟨o, g, hd⟩ := hcell p.1 p.2 (hlook p hp); exact ⟨o, g, fun vs q => by rw [hd] at q; cases q⟩
  have hnew : ∀ a ∈ Fa env, s.heap.get? a = none := fun a ha => none_of_ge (hge a ha)
  have less1 : Less (keys σ ++ fr) (keys σ ++ (Fa env ++ fr)) s.heap := fun a m => by
    rcases List.mem_append.mp m with z | z
    · exact .inl (List.mem_append_left _ z)
    · rcases List.mem_append.mp z with z | z
      · exact .inr (hnew a z)
      · exact .inl (List.mem_append_right _ z)
  have stay1 : Stay (keys σ ++ fr) s.heap s₁.heap := fun b o _ e => hkeep b o e
  have ok1 : Ok c (A.deeper env) (Fa env ++ fr) σ s₁.heap := {
    base := fun b o e => hkeep b o (ok.base b o e)
    sto := fun p hp => IsO.move stay1 less1 (fun x e => hkeep _ x e) (ok.sto p hp)
    nd := by
      have h0 := ok.nd
      rw [List.nodup_append] at h0
      rw [List.nodup_append, List.nodup_append]
      refine ⟨h0.1, ⟨?_, h0.2.1, fun a ha b hb => fun z => ?_⟩, fun a ha b hb => ?_⟩
      · rw [List.nodup_cons]
        refine ⟨fun z => ?_, ?_⟩
        · obtain ⟨p, hp, e⟩ := List.mem_map.mp z
          exact Nat.ne_of_gt (habove p.1 p.2 hp) e
        · exact List.pairwise_map.mpr hap
      · exact Nat.lt_irrefl _ (Nat.lt_of_lt_of_le (ok.lt (List.mem_append_right _ hb)) (z ▸ hge a ha))
      · rcases List.mem_append.mp hb with hb | hb
        · exact fun z => Nat.lt_irrefl _ (Nat.lt_of_lt_of_le (ok.lt (List.mem_append_left _ ha)) (z ▸ hge b hb))
        · exact h0.2.2 a ha b hb
    new := fun a m => by
      rcases List.mem_append.mp m with z | z
      · exact ok.new a (List.mem_append_left _ z)
      · rcases List.mem_append.mp z with z | z
        · cases hg : c.h0.get? a with
          | none => rfl
          | some o => have := ok.base _ o hg; rw [hnew a z] at this; cases this
        · exact ok.new a (List.mem_append_right _ z)
    live := fun a m => by
      rcases List.mem_append.mp m with z | z
      · obtain ⟨o, g, _⟩ := hlive a z; exact ⟨o, g⟩
      · obtain ⟨o, g⟩ := ok.live a z; exact ⟨o, hkeep _ _ g⟩
    stack := by
      refine ⟨env :: l, by show A.frames.map (env :: ·) = _; rw [hAl]; rfl, ⟨?_, ⟨env.locals, ?_⟩, ?_⟩, fun b hb => ?_, fun b hb => ?_⟩
      · rw [e1, fn.kind]; decide
      · obtain ⟨o, g, hd⟩ := hlive env.locals List.mem_cons_self
        refine ⟨o, e2, ?_, g, hd⟩
        cases hg : c.h0.get? env.locals with
        | none => rfl
        | some o => have := ok.base _ o hg; rw [hnew _ List.mem_cons_self] at this; cases this
      · exact FunFrames.stays (fun b o _ e => ⟨o.slots, hkeep b o e⟩) hff hin
      · simp only [List.filterMap_cons, e2] at hb
        rcases List.mem_cons.mp hb with rfl | hb
        · exact List.mem_append_left _ List.mem_cons_self
        · exact List.mem_append_right _ (hin b hb)
      · simp only [List.filterMap_cons, e2] at hb
        rcases List.mem_cons.mp hb with rfl | hb
        · obtain ⟨o, es, ep, g, hd, _⟩ := hns; exact ⟨o, es, ep, g, hd⟩
        · obtain ⟨o, es, n, g, r⟩ := hdict b hb; exact ⟨o, es, n, hkeep _ _ g, r⟩ }
  have fm1 : Fm env (ps.zip ds) (Fa env ++ fr) (keys σ ++ (Fa env ++ fr)) s₁.heap := {
    kind := by rw [e1]; exact fn.kind
    glob := e5
    bui := e6
    ns := ⟨_, hns, fun x d e k => by
      obtain ⟨v, z, zz⟩ := (bound (k := env.kindOf) (m := fun _ => none) (cm := fun _ => none) fn.nd hl hV e).1 k
      exact ⟨v, z, V.move stay1 less1 _ _ zz⟩⟩
    cell := fun x cc e => by
      refine ⟨_, hcell x cc e, fun d e' k => ?_⟩
      obtain ⟨v, z, zz⟩ := (bound (k := env.kindOf) (m := fun _ => none) (cm := fun _ => none) fn.nd hl hV e').2 (by rcases k with k | k <;> rw [k] <;> decide)
      exact ⟨v, z, V.move stay1 less1 _ _ zz⟩
    has := fun x k => by
      rcases k with k | k
      · have : ((cellsFrom (s.heap.objs.size + 1) scope.names []).lookup x).isSome = true := lookup_isSome_of_cell _ _ _ (.inl (by rw [← e1]; exact k))
        rw [← e4] at this
        exact Option.isSome_iff_exists.mp this
      · exact absurd k (by
          intro k
          exact fn.nofree x (by rw [← e1]; exact k))
    inn := ⟨List.mem_append_left _ List.mem_cons_self, fun p hp => List.mem_append_left _ (List.mem_cons_of_mem _ (List.mem_map_of_mem (f := (·.2)) hp))⟩
    apart := ⟨hap, fun p hp => Nat.ne_of_gt (habove p.1 p.2 hp)⟩ }
  have p01 : ∀ {σ'} {s' : Shared}, Post (Fa env) (Fa env ++ fr) σ s₁ s' σ' → Post [] fr σ s s' σ' := fun p => {
    shape := by obtain ⟨h, tk, rfl⟩ := hsame; obtain ⟨h', tk', rfl⟩ := p.shape; exact ⟨h', tk', rfl⟩
    kept := fun b o nb e => p.kept b o (less1.nin nb e) (hkeep b o e)
    slots := fun b o m _ e => p.slots b o (List.mem_append_right _ m) (fun z => by rw [hnew b z] at e; cases e) (hkeep b o e)
    alive := fun b o e => p.alive b o (hkeep b o e)
    grow := fun a m => (p.grow a m).imp id fun z => by
      cases hg : s.heap.get? a with
      | none => rfl
      | some o => have := hkeep a o hg; rw [z] at this; cases this }
  have less2 : ∀ σ' (h : Heap), Less (keys σ' ++ (Fa env ++ fr)) (keys σ' ++ fr) h := fun σ' h a m => by
    rcases List.mem_append.mp m with z | z
    · exact .inl (List.mem_append_left _ z)
    · exact .inl (List.mem_append_right _ (List.mem_append_right _ z))
  have fe : Fe (A.deeper env) env scope := ⟨e1, e2, l, by show A.frames.map (env :: ·) = _; rw [hAl]; rfl⟩
  refine wpAny_mono (h (A.deeper env) fr env (hP A env hA).2 fe s₁ ok1 fm1) (fun fl s' hx => ?_) fun v s' hx => ?_
  · obtain ⟨out, σ', p, ok2, r, q⟩ := hx
    have ok3 : Ok c A fr σ' s'.heap := Ok.pop (ex := []) hAl e2 hin ok2
    cases out with
    | next m' => obtain ⟨rfl, _⟩ := r; exact ⟨.none, σ', p01 p, ok3, by unfold V; rfl, q⟩
    | ret d => obtain ⟨v, rfl, hv, _⟩ := r; exact ⟨d, σ', p01 p, ok3, V.move (fun b o _ e => e) (less2 σ' _) _ _ hv, q⟩
  · unfold leaving
    refine wpAny_bind (wpAny_mono (Ex.noted hx fe.stack.choose_spec e2) (fun _ s'' hx2 => ?_) fun _ _ f => f)
    refine wpAny_mono (Ex.flight hx2) (fun _ s3 hx3 => ?_) fun _ _ f => f
    obtain ⟨e, C, σ', ex, rfl, p, ok2, hn, he, _, hX⟩ := hx3
    refine Ex.weak ⟨e, C, σ', ex, rfl, p01 p, Ok.pop hAl e2 hin ok2, fun a ha => ?_, he, trivial, hX⟩
    cases hg : s.heap.get? a with
    | none => rfl
    | some o => have := hkeep a o hg; rw [hn a ha] at this; cases this
theorem WC.of {c : Cx} {P P' : Around → Prop} {f : Addr} {ps : List Str} {body : List Stmt} {scope : Scope} {ds : List D} {σ : Sto} {Q : D → Sto → Prop} {X : Addr → Sto → Prop} (fn : Fn c f ps body scope) (hP : ∀ A env, P A → A.depth < recursionLimit ∧ P' (A.deeper env)) (hl : ds.length = ps.length)
    (h : ∀ A fr env, P' A → Fe A env scope → WS c A (Fa env ++ fr) env (ps.zip ds) σ body (fun _ σ' => Q .none σ') Q X) : WC c P (.ref f) ds σ Q X := (WD.of fn hP hl h).wc
end Mine
set_option linter.unusedVariables false
set_option linter.unusedSimpArgs false
set_option autoImplicit false
namespace Mine
open PySem PySem.Calls PyProof.Rows

structure Cx.Good (c : Cx) : Prop where
  g : c.h0.Ns mainGlobals c.mg
  b : c.h0.Ns builtinsNs c.mb

def plainArgs : List Expr → Bool
  | [] => true
  | .Starred _ _ :: _ => false
  | _ :: r => plainArgs r

theorem plainArgs_starEach {env : Env} {pos : Pos} : ∀ {es : List Expr}, plainArgs es = true → ∀ x ∈ backTo pos (starEach es env), x.1 = false
  | [], _, x, hx => by simp [starEach, backTo] at hx
  | e :: r, h, x, hx => by
    have step : plainArgs r = true ∧ starEach (e :: r) env = (false, eval e env) :: starEach r env := by
      cases e <;> first | exact ⟨h, rfl⟩ | (simp [plainArgs] at h)
    rw [step.2] at hx
    rcases List.mem_cons.mp hx with rfl | hx
    · rfl
    · exact plainArgs_starEach step.1 x hx
theorem starEach_cons {env : Env} {e : Expr} {r : List Expr} (h : plainArgs (e :: r) = true) : starEach (e :: r) env = (false, eval e env) :: starEach r env ∧ plainArgs r = true := by
  cases e <;> first | exact ⟨rfl, h⟩ | (simp [plainArgs] at h)

theorem wpAny_evalArgs {M : Model} {A : Around} {E : Value → Shared → Prop} {s : Shared} {f : Value} {args : List (Bool × Sem Value)} {Q : Args → Shared → Prop} (hns : ∀ x ∈ args, x.1 = false)
    (h : wpAny M A (spliced args) (fun vs s' => Q ⟨vs, []⟩ s') E s) : wpAny M A (evalArgs f true args []) Q E s := by
  cases args with
  | nil =>
    unfold evalArgs
    show wpAny M A (spliced [] >>= _) Q E s
    refine wpAny_bind (wpAny_mono h (fun vs s' h' => ?_) fun _ _ x => x)
    refine wpAny_holding ?_
    exact wpAny_bind (wpAny_pure (wpAny_bind (wpAny_pure (wpAny_pure h'))))
  | cons x r =>
    obtain ⟨b, t⟩ := x
    obtain rfl : b = false := hns _ List.mem_cons_self
    exact evalArgs_plain h

section
variable {c : Cx} {A : Around} {G : Option Env} {fr : List Addr} {σ : Sto} {X : Addr → Sto → Prop} {env : Env} {m : Vars}

def WA (c : Cx) (A : Around) (fr : List Addr) (env : Env) (m : Vars) (σ : Sto) (es : List Expr) (Q : List D → Sto → Prop) (X : Addr → Sto → Prop) : Prop :=
  ∀ pos s, Ok c A fr σ s.heap → Fm env m fr (keys σ ++ fr) s.heap → W c A none fr σ (spliced (backTo pos (starEach es env))) Vs Q X s

theorem WA.nil {Q : List D → Sto → Prop} (h : Q [] σ) : WA c A fr env m σ [] Q X := fun pos s ok fm => spliced_nil ⟨[], σ, Post.refl .., ok, Vs.nil, h⟩
theorem WA.cons {e : Expr} {r : List Expr} {Q : List D → Sto → Prop} (h : WE c A fr env m σ e (fun d σ1 => WA c A fr env m σ1 r (fun ds σ2 => Q (d :: ds) σ2) X) X) (hp : plainArgs (e :: r) = true := by rfl) : WA c A fr env m σ (e :: r) Q X := fun pos s ok fm => by
  unfold W
  rw [(starEach_cons hp).1]
  show wpAny _ _ (spliced ((false, eval e env) :: backTo pos (starEach r env))) _ _ _
  refine spliced_cons (wpAny_mono (h s ok fm) (fun v s1 ⟨d, σ1, p1, ok1, x1, q1⟩ => ?_) fun _ _ x => x)
  refine wpAny_mono (q1 pos s1 ok1 (fm.move p1)) (fun vs s2 ⟨ds, σ2, p2, ok2, x2, q2⟩ => ⟨d :: ds, σ2, p1.trans p2, ok2, Vs.cons (p2.v x1) x2, q2⟩) fun _ _ x => Ex.back p1 x fun _ _ y => y

variable {Q : D → Sto → Prop}

theorem eval_Call_Name (f : Str) (fp : Pos) (args : List Expr) (pos : Pos) : eval (.Call (.Name f fp) args [] pos) env = (do callWith pos (← eval (.Name f fp) env) [] (backTo pos (starEach args env)) []) := rfl

theorem WE.callF (g : c.Good) {f : Str} {fp pos : Pos} {args : List Expr} {a : Addr} {o : Obj} {fd : FuncData} {P : Around → Prop} (hP : P A) (hk : env.kindOf f = some .globalImplicit) (hg : c.mg f = some (.ref a)) (ho : c.h0.get? a = some o) (hd : o.data = .func fd)
    (h : WA c A fr env m σ args (fun ds σ1 => WC c P (.ref a) ds σ1 Q X) X) (hp : plainArgs args = true := by rfl) (hdb : (f == ("__debug__" : Str)) = false := by decide) : WE c A fr env m σ (.Call (.Name f fp) args [] pos) Q X := fun s ok fm => by
  unfold W
  rw [eval_Call_Name]
  refine wpAny_bind (Name_function_global fm.kind hk (loadGlobal_global (by rw [fm.glob]; exact g.g.keeps ok.base) hg ?_) hdb)
  refine callWith_function (o := o) (fd := fd) (wpAny_evalArgs (plainArgs_starEach hp) (wpAny_mono (h pos s ok fm) (fun vs s1 ⟨ds, σ1, p1, ok1, x1, q1⟩ => ⟨⟨ok1.base _ _ ho, hd⟩, ?_⟩) fun _ _ x => x))
  refine wpAny_mono (q1 A fr s1 vs hP ok1 x1) (fun v s2 ⟨d, σ2, p2, ok2, x2, q2⟩ => ⟨d, σ2, p1.trans p2, ok2, x2, q2⟩) fun _ _ x => Ex.back p1 x fun _ _ y => y

theorem WE.callB (g : c.Good) {f : Str} {fp pos : Pos} {args : List Expr} {id : String} (hk : env.kindOf f = some .globalImplicit) (hg : c.mg f = none) (hb : c.mb f = some (.builtin id))
    (h : WA c A fr env m σ args (fun ds σ1 => ∀ s vals, Ok c A fr σ1 s.heap → Vs (keys σ1 ++ fr) s.heap ds vals → W c A none fr σ1 (call (.builtin id) vals) V Q X s) X) (hp : plainArgs args = true := by rfl) (hdb : (f == ("__debug__" : Str)) = false := by decide) : WE c A fr env m σ (.Call (.Name f fp) args [] pos) Q X := fun s ok fm => by
  unfold W
  rw [eval_Call_Name]
  refine wpAny_bind (Name_function_global fm.kind hk (loadGlobal_builtin (by rw [fm.glob]; exact g.g.keeps ok.base) hg (by rw [fm.bui]; exact g.b.keeps ok.base) hb ?_) hdb)
  refine callWith_builtin (by
    have := plainArgs_starEach (env := env) (pos := pos) hp
    rw [List.any_eq_false]; intro x hx; simp [this x hx]) (wpAny_evalArgs (plainArgs_starEach hp) (wpAny_mono (h pos s ok fm) (fun vs s1 ⟨ds, σ1, p1, ok1, x1, q1⟩ => ?_) fun _ _ x => x))
  refine wpAny_mono (q1 s1 vs ok1 x1) (fun v s2 ⟨d, σ2, p2, ok2, x2, q2⟩ => ⟨d, σ2, p1.trans p2, ok2, x2, q2⟩) fun _ _ x => Ex.back p1 x fun _ _ y => y
end
end Mine
set_option linter.unusedVariables false
set_option linter.unusedSimpArgs false
set_option autoImplicit false
namespace Mine
open PySem PySem.Calls PyProof.Rows

section
variable {c : Cx} {A : Around} {G : Option Env} {fr : List Addr} {σ : Sto} {X : Addr → Sto → Prop} {env : Env} {m : Vars}

abbrev RB (_ : List Addr) (_ : Heap) (b a : Bool) : Prop := a = b

def WTr (c : Cx) (A : Around) (fr : List Addr) (σ : Sto) (d : D) (Q : Bool → Sto → Prop) (X : Addr → Sto → Prop) : Prop :=
  ∀ v s, Ok c A fr σ s.heap → V (keys σ ++ fr) s.heap d v → W c A none fr σ (truthy v) RB Q X s
def WT (c : Cx) (A : Around) (fr : List Addr) (env : Env) (m : Vars) (σ : Sto) (e : Expr) (Q : Bool → Sto → Prop) (X : Addr → Sto → Prop) : Prop :=
  ∀ s, Ok c A fr σ s.heap → Fm env m fr (keys σ ++ fr) s.heap → W c A none fr σ (isTrue e env (eval e env)) RB Q X s

theorem WTr.bool {b : Bool} {Q : Bool → Sto → Prop} (h : Q b σ) : WTr c A fr σ (.bool b) Q X := fun v s ok x => by
  unfold V at x; subst x
  exact wpAny_truthy_bool ⟨b, σ, Post.refl .., ok, rfl, h⟩

theorem WT.plain {e : Expr} {Q : Bool → Sto → Prop} (h : WE c A fr env m σ e (fun d σ1 => WTr c A fr σ1 d Q X) X) (he : ∀ whole, isTrue e env whole = (do let v ← whole; standAt e.pos; holding [v] (truthy v)) := by intro _; rfl) : WT c A fr env m σ e Q X := fun s ok fm => by
  unfold W
  rw [he]
  refine W.bind (W.mono (h s ok fm) (fun d1 σ1 q1 a s1 p1 ok1 x1 => ?_) fun _ _ y => y)
  exact W.standAt (W.holding (q1 a s1 ok1 x1))
theorem WT.not {e : Expr} {pos : Pos} {Q : Bool → Sto → Prop} (h : WT c A fr env m σ e (fun b σ1 => Q (!b) σ1) X) : WT c A fr env m σ (.UnaryOp .Not e pos) Q X := fun s ok fm => by
  unfold W
  rw [arm_isTrue_UnaryOp]
  refine W.bind (W.mono (h s ok fm) (fun d1 σ1 q1 a s1 p1 ok1 x1 => ?_) fun _ _ y => y)
  obtain rfl : a = d1 := x1
  exact W.pure ok1 rfl q1

def WTs (c : Cx) (A : Around) (fr : List Addr) (env : Env) (m : Vars) (σ : Sto) (op : BoolOp) (es : List Expr) (Q : Bool → Sto → Prop) (X : Addr → Sto → Prop) : Prop :=
  ∀ s, Ok c A fr σ s.heap → Fm env m fr (keys σ ++ fr) s.heap → W c A none fr σ (allTrue op es env) RB Q X s
theorem WTs.nilAnd {Q : Bool → Sto → Prop} (h : Q true σ) : WTs c A fr env m σ .And [] Q X := fun s ok fm => by
  unfold W; rw [arm_allTrue_nil]; exact wpAny_pure ⟨true, σ, Post.refl .., ok, rfl, h⟩
theorem WTs.nilOr {Q : Bool → Sto → Prop} (h : Q false σ) : WTs c A fr env m σ .Or [] Q X := fun s ok fm => by
  unfold W; rw [arm_allTrue_nil]; exact wpAny_pure ⟨false, σ, Post.refl .., ok, rfl, h⟩
theorem WTs.and {e : Expr} {es : List Expr} {Q : Bool → Sto → Prop} (h : WT c A fr env m σ e (fun b σ1 => if b = true then WTs c A fr env m σ1 .And es Q X else Q false σ1) X) : WTs c A fr env m σ .And (e :: es) Q X := fun s ok fm => by
  unfold W
  rw [arm_allTrue_cons]
  refine W.bind (W.mono (h s ok fm) (fun d1 σ1 q1 a s1 p1 ok1 x1 => ?_) fun _ _ y => y)
  obtain rfl : a = d1 := x1
  cases a with
  | true => exact q1 s1 ok1 (fm.move p1)
  | false => exact W.pure ok1 rfl q1
theorem WTs.or {e : Expr} {es : List Expr} {Q : Bool → Sto → Prop} (h : WT c A fr env m σ e (fun b σ1 => if b = true then Q true σ1 else WTs c A fr env m σ1 .Or es Q X) X) : WTs c A fr env m σ .Or (e :: es) Q X := fun s ok fm => by
  unfold W
  rw [arm_allTrue_cons]
  refine W.bind (W.mono (h s ok fm) (fun d1 σ1 q1 a s1 p1 ok1 x1 => ?_) fun _ _ y => y)
  obtain rfl : a = d1 := x1
  cases a with
  | false => exact q1 s1 ok1 (fm.move p1)
  | true => exact W.pure ok1 rfl q1
theorem WT.boolop {op : BoolOp} {es : List Expr} {pos : Pos} {Q : Bool → Sto → Prop} (h : WTs c A fr env m σ op es Q X) : WT c A fr env m σ (.BoolOp op es pos) Q X := fun s ok fm => by
  unfold W
  rw [arm_isTrue_BoolOp]
  exact h s ok fm

theorem WT.compare {l r : Expr} {op : CmpOp} {pos : Pos} {Q : Bool → Sto → Prop} (h : WE c A fr env m σ l (fun d1 σ1 => WE c A fr env m σ1 r (fun d2 σ2 => WB c A fr σ2 (compareOp op) d1 d2 (fun d3 σ3 => WTr c A fr σ3 d3 Q X) X) X) X) (hb : behindInMarks op r = false := by rfl) :
    WT c A fr env m σ (.Compare l [op] [r] pos) Q X := fun s ok fm => by
  unfold W
  rw [arm_isTrue_Compare]
  refine W.bind (W.mono (h s ok fm) (fun d1 σ1 q1 a s1 p1 ok1 x1 => ?_) fun _ _ y => y)
  show W c A none fr σ1 (testChain pos a [op] [markedBehindIn op r (eval r env)]) RB Q X s1
  rw [markedBehindIn_of_false hb]
  unfold testChain
  refine W.bind (W.holding (W.mono (q1 s1 ok1 (fm.move p1)) (fun d2 σ2 q2 b s2 p2 ok2 x2 => ?_) fun _ _ y => y))
  refine W.standAt (W.bind (W.operate (W.mono (q2 a b s2 ok2 (p2.v x1) x2) (fun d3 σ3 q3 e s3 p3 ok3 x3 => ?_) fun _ _ y => y)))
  exact W.holding (q3 e s3 ok3 x3)

theorem WT.compare2 {l r r2 : Expr} {op op2 : CmpOp} {pos : Pos} {Q : Bool → Sto → Prop} (h : WE c A fr env m σ l (fun d1 σ1 => WE c A fr env m σ1 r (fun d2 σ2 => WB c A fr σ2 (compareOp op) d1 d2 (fun d3 σ3 => WTr c A fr σ3 d3 (fun b σ4 => if b = true then WE c A fr env m σ4 r2 (fun d4 σ5 => WB c A fr σ5 (compareOp op2) d2 d4 (fun d5 σ6 => WTr c A fr σ6 d5 Q X) X) X else Q false σ4) X) X) X) X) (hb2 : behindInMarks op2 r2 = false := by rfl) :
    WT c A fr env m σ (.Compare l [op, op2] [r, r2] pos) Q X := fun s ok fm => by
  unfold W
  rw [arm_isTrue_Compare]
  refine W.bind (W.mono (h s ok fm) (fun d1 σ1 q1 a s1 p1 ok1 x1 => ?_) fun _ _ y => y)
  show W c A none fr σ1 (testChain pos a [op, op2] [eval r env, markedBehindIn op2 r2 (eval r2 env)]) RB Q X s1
  rw [markedBehindIn_of_false hb2]
  unfold testChain
  have fm1 := fm.move p1
  refine W.bind (W.holding (W.mono (q1 s1 ok1 fm1) (fun d2 σ2 q2 b s2 p2 ok2 x2 => ?_) fun _ _ y => y))
  have fm2 := fm1.move p2
  refine W.standAt (W.bind (W.holding (W.mono (q2 a b s2 ok2 (p2.v x1) x2) (fun d3 σ3 q3 e s3 p3 ok3 x3 => ?_) fun _ _ y => y)))
  have fm3 := fm2.move p3
  refine wpAny_bind (wpAny_release ?_)
  refine W.bind (W.holding (W.mono (q3 e s3 ok3 x3) (fun b1 σ4 q4 t s4 p4 ok4 x4 => ?_) fun _ _ y => y))
  obtain rfl : t = b1 := x4
  cases t with
  | false => exact W.pure ok4 rfl q4
  | true =>
    show W c A none fr σ4 (testChain pos b [op2] [eval r2 env]) RB Q X s4
    unfold testChain
    refine W.bind (W.holding (W.mono (q4 s4 ok4 (fm3.move p4)) (fun d4 σ5 q5 f s5 p5 ok5 x5 => ?_) fun _ _ y => y))
    refine W.standAt (W.bind (W.operate (W.mono (q5 b f s5 ok5 (p5.v (p4.v (p3.v x2))) x5) (fun d5 σ6 q6 g s6 p6 ok6 x6 => ?_) fun _ _ y => y)))
    exact W.holding (q6 g s6 ok6 x6)

def WBs (c : Cx) (A : Around) (fr : List Addr) (env : Env) (m : Vars) (σ : Sto) (op : BoolOp) (es : List Expr) (Q : D → Sto → Prop) (X : Addr → Sto → Prop) : Prop :=
  ∀ pos s, Ok c A fr σ s.heap → Fm env m fr (keys σ ++ fr) s.heap → W c A none fr σ (boolOp pos op (evalEach es env)) V Q X s
theorem WBs.one {op : BoolOp} {e : Expr} {Q : D → Sto → Prop} (h : WE c A fr env m σ e Q X) : WBs c A fr env m σ op [e] Q X := fun pos s ok fm => h s ok fm
theorem WBs.and {e e2 : Expr} {es : List Expr} {Q : D → Sto → Prop} (h : WE c A fr env m σ e (fun d σ1 => WTr c A fr σ1 d (fun b σ2 => if b = true then WBs c A fr env m σ2 .And (e2 :: es) Q X else Q d σ2) X) X) : WBs c A fr env m σ .And (e :: e2 :: es) Q X := fun pos s ok fm => by
  show W c A none fr σ (boolOp pos .And (eval e env :: eval e2 env :: evalEach es env)) V Q X s
  unfold boolOp
  refine W.bind (W.mono (h s ok fm) (fun d1 σ1 q1 a s1 p1 ok1 x1 => ?_) fun _ _ y => y)
  have fm1 := fm.move p1
  refine W.standAt (W.bind (W.holding (W.mono (q1 a s1 ok1 x1) (fun b σ2 q2 t s2 p2 ok2 x2 => ?_) fun _ _ y => y)))
  obtain rfl : t = b := x2
  cases t with
  | true => exact q2 pos s2 ok2 (fm1.move p2)
  | false => exact W.pure ok2 (p2.v x1) q2
theorem WE.boolop {op : BoolOp} {es : List Expr} {pos : Pos} {Q : D → Sto → Prop} (h : WBs c A fr env m σ op es Q X) : WE c A fr env m σ (.BoolOp op es pos) Q X := fun s ok fm => h pos s ok fm

theorem WE.compare2 {l r r2 : Expr} {op op2 : CmpOp} {pos : Pos} {Q : D → Sto → Prop} (h : WE c A fr env m σ l (fun d1 σ1 => WE c A fr env m σ1 r (fun d2 σ2 => WB c A fr σ2 (compareOp op) d1 d2 (fun d3 σ3 => WTr c A fr σ3 d3 (fun b σ4 => if b = true then WE c A fr env m σ4 r2 (fun d4 σ5 => WB c A fr σ5 (compareOp op2) d2 d4 Q X) X else Q d3 σ4) X) X) X) X) (hb2 : behindInMarks op2 r2 = false := by rfl) :
    WE c A fr env m σ (.Compare l [op, op2] [r, r2] pos) Q X := fun s ok fm => by
  unfold W
  rw [arm_eval_Compare]
  refine W.bind (W.mono (h s ok fm) (fun d1 σ1 q1 a s1 p1 ok1 x1 => ?_) fun _ _ y => y)
  show W c A none fr σ1 (compareChain pos a [op, op2] [eval r env, markedBehindIn op2 r2 (eval r2 env)]) V Q X s1
  rw [markedBehindIn_of_false hb2]
  unfold compareChain
  have fm1 := fm.move p1
  refine W.bind (W.holding (W.mono (q1 s1 ok1 fm1) (fun d2 σ2 q2 b s2 p2 ok2 x2 => ?_) fun _ _ y => y))
  have fm2 := fm1.move p2
  refine W.standAt (W.bind (W.holding (W.mono (q2 a b s2 ok2 (p2.v x1) x2) (fun d3 σ3 q3 e s3 p3 ok3 x3 => ?_) fun _ _ y => y)))
  have fm3 := fm2.move p3
  refine wpAny_bind (wpAny_release ?_)
  refine W.bind (W.holding (W.mono (q3 e s3 ok3 x3) (fun b1 σ4 q4 t s4 p4 ok4 x4 => ?_) fun _ _ y => y))
  obtain rfl : t = b1 := x4
  cases t with
  | false => exact W.pure ok4 (p4.v x3) q4
  | true =>
    show W c A none fr σ4 (compareChain pos b [op2] [eval r2 env]) V Q X s4
    unfold compareChain
    refine W.bind (W.holding (W.mono (q4 s4 ok4 (fm3.move p4)) (fun d4 σ5 q5 f s5 p5 ok5 x5 => ?_) fun _ _ y => y))
    exact W.standAt (W.operate (q5 b f s5 ok5 (p5.v (p4.v (p3.v x2))) x5))

variable {N : Vars → Sto → Prop} {R : D → Sto → Prop}
theorem W1.ite {test : Expr} {body orelse : List Stmt} {pos : Pos} (h : WT c A fr env m σ test (fun b σ1 => if b = true then WS c A fr env m σ1 body N R X else WS c A fr env m σ1 orelse N R X) X) : W1 c A fr env m σ (.If test body orelse pos) N R X := fun s ok fm => by
  unfold W
  rw [exec_If]
  refine W.standAt (W.bindE fm (W.mono (h s ok fm) (fun d σ1 q1 a s1 fm1 p1 ok1 x1 => ?_) fun _ _ y => y))
  obtain rfl : a = d := x1
  cases a with
  | true => exact q1 s1 ok1 fm1
  | false => exact q1 s1 ok1 fm1
end
end Mine
set_option linter.unusedVariables false
set_option linter.unusedSimpArgs false
set_option autoImplicit false
namespace Mine
open PySem PySem.Calls PyProof.Rows

theorem codeAny_forLoopT {prog : Program} {w : World} {A : Around} {s : Shared} {R : Result → Shared → Prop} {target it body orelse env} (I : Nat → Shared → Prop)
    (turn : ∀ n s, I n s → wpAny (model prog w) A (pyNext it) (fun r s₁ => match r with
      | none => wpAny (model prog w) A (execs orelse env) (fun f s₃ => R (.ok f) s₃) (notedBy (model prog w) A env fun e s' => R (.error e) s') s₁
      | some v => wpAny (model prog w) A (letOwnedTupleGo target it v) (fun _ s₁' => wpAny (model prog w) A (assign target env v) (fun _ s₂ => wpAny (model prog w) A (execs body env) (fun f s₃ => match f with
          | .next | .cont => ∃ m, m < n ∧ I m s₃
          | .brk => R (.ok .next) s₃
          | .ret v => R (.ok (.ret v)) s₃) (notedBy (model prog w) A env fun e s' => R (.error e) s') s₂) (notedBy (model prog w) A env fun e s' => R (.error e) s') s₁') (notedBy (model prog w) A env fun e s' => R (.error e) s') s₁) (notedBy (model prog w) A env fun e s' => R (.error e) s') s)
    (n : Nat) (h : I n s) : codeAny (model prog w) A (.forLoop target it body orelse env) R s := by
  refine codeAny_loop' rfl I (fun n s hI => ?_) n h
  show wpAny _ _ ((forTurn target it body orelse env).onRaise (fun x => do noteFrame x env; theTreesLotGoes x)) _ _ s
  refine wpAny_noted ?_
  simp only [forTurn]
  refine wpAny_bind (wpAny_standAt (wpAny_bind (wpAny_onRaise (wpAny_mono (turn n s hI) (fun r s₁ h₁ => ?_) fun _ _ h' => wpAny_standAt h'))))
  cases r with
  | none => exact wpAny_pure (.inr ⟨rfl, codeAny_block h₁⟩)
  | some v =>
    refine wpAny_bind (wpAny_mono h₁ (fun _ s₁' h₁' => ?_) fun _ _ h' => h')
    refine wpAny_bind (wpAny_mono h₁' (fun _ s₂ h₂ => wpAny_bind (wpAny_mono h₂ (fun f s₃ h₃ => ?_) fun _ _ h' => h')) fun _ _ h' => h')
    cases f with
    | next => exact wpAny_pure (.inl ⟨rfl, h₃⟩)
    | cont => exact wpAny_pure (.inl ⟨rfl, h₃⟩)
    | brk => exact wpAny_pure h₃
    | ret v => exact wpAny_pure h₃

theorem codeAny_compLoopT {prog : Program} {w : World} {A : Around} {s : Shared} {R : Result → Shared → Prop} {elt target iter : Expr} {ifs : List Expr} {scope : Scope} {pos : Pos} {it acc : Value} {env : Env} (I : Nat → Shared → Prop)
    (turn : ∀ n s, I n s → wpAny (model prog w) A (pyNext it) (fun r s₁ => match r with
      | none => R (.ok .next) s₁
      | some v => wpAny (model prog w) A (letOwnedTupleGo target it v) (fun _ s₁' => wpAny (model prog w) A (assign target env v) (fun _ s₂ =>
          wpAny (model prog w) A (forIn ifs true fun c r => if r = true then do let ok ← isTrue c env (eval c env); pure (ForInStep.yield ok) else pure (ForInStep.yield r)) (fun ok s₃ =>
            if ok = true then wpAny (model prog w) A (eval elt env) (fun x s₄ =>
              wpAny (model prog w) A (call (.builtin "list.append") [acc, x]) (fun _ s₅ => ∃ m, m < n ∧ I m s₅) (fun _ _ => False) s₄) (fun _ _ => False) s₃
            else ∃ m, m < n ∧ I m s₃) (fun _ _ => False) s₂) (fun _ _ => False) s₁') (fun _ _ => False) s₁) (fun _ _ => False) s)
    (n : Nat) (h : I n s) : codeAny (model prog w) A (.compLoop (.ListComp elt [⟨target, iter, ifs, 0⟩] scope pos) 0 it acc env) R s := by
  refine codeAny_loop rfl I (fun n s hI => ?_) n h
  show wpAny _ A ((compTurn (.ListComp elt [⟨target, iter, ifs, 0⟩] scope pos) 0 it acc env).onRaise (fun x => do noteFrame x env; theTreesLotGoes x)) _ _ s
  refine wpAny_noted ?_
  rw [compTurn_list]
  refine wpAny_bind (wpAny_standAt (wpAny_bind (wpAny_mono (turn n s hI) (fun r s₁ h₁ => ?_) fun _ _ h' => h'.elim)))
  cases r with
  | none => exact wpAny_pure h₁
  | some v =>
    refine wpAny_bind (wpAny_mono h₁ (fun _ s₁' h₁' => ?_) fun _ _ h' => h'.elim)
    refine wpAny_bind (wpAny_mono h₁' (fun _ s₂ h₂ => wpAny_bind (wpAny_mono h₂ (fun ok s₃ h₃ => ?_) fun _ _ h' => h'.elim)) fun _ _ h' => h'.elim)
    cases ok with
    | false => exact wpAny_pure ⟨rfl, h₃⟩
    | true =>
      exact wpAny_bind (wpAny_bind (wpAny_mono h₃ (fun x s₄ h₄ => wpAny_bind (wpAny_mono h₄ (fun _ s₅ h₅ => wpAny_pure (wpAny_pure ⟨rfl, h₅⟩)) fun _ _ h' => h'.elim)) fun _ _ h' => h'.elim))

theorem Ok.more {c : Cx} {A : Around} {fr wr : List Addr} {σ : Sto} {h h' : Heap} (ok : Ok c A fr σ h) (k : ∀ b o, h.get? b = some o → h'.get? b = some o) (hn : ∀ a ∈ wr, h.get? a = none) (hl : ∀ a ∈ wr, ∃ o, h'.get? a = some o) (nd : wr.Nodup) : Ok c A (wr ++ fr) σ h' where
  base := fun b o e => k b o (ok.base b o e)
  sto := fun p hp => IsO.move (K := keys σ ++ fr) (fun b o _ e => k b o e) (fun a m => by
    rcases List.mem_append.mp m with z | z
    · exact .inl (List.mem_append_left _ z)
    · rcases List.mem_append.mp z with z | z
      · exact .inr (hn a z)
      · exact .inl (List.mem_append_right _ z)) (fun x e => k _ x e) (ok.sto p hp)
  nd := by
    have h0 := ok.nd
    have ap : ∀ a ∈ wr, a ∉ keys σ ++ fr := fun a ha m => by obtain ⟨o, e⟩ := ok.there m; rw [hn a ha] at e; cases e
    rw [List.nodup_append] at h0
    rw [List.nodup_append, List.nodup_append]
    refine ⟨h0.1, ⟨nd, h0.2.1, fun a ha b hb z => ap a ha (z ▸ List.mem_append_right _ hb)⟩, fun a ha b hb => ?_⟩
    rcases List.mem_append.mp hb with hb | hb
    · exact fun z => ap b hb (z ▸ List.mem_append_left _ ha)
    · exact h0.2.2 a ha b hb
  new := fun a m => by
    rcases List.mem_append.mp m with z | z
    · exact ok.new a (List.mem_append_left _ z)
    · rcases List.mem_append.mp z with z | z
      · cases hg : c.h0.get? a with
        | none => rfl
        | some o => have := ok.base _ o hg; rw [hn a z] at this; cases this
      · exact ok.new a (List.mem_append_right _ z)
  live := fun a m => by
    rcases List.mem_append.mp m with z | z
    · exact hl a z
    · obtain ⟨o, g⟩ := ok.live a z; exact ⟨o, k _ _ g⟩
  stack := by
    obtain ⟨l, a, b, d, f⟩ := (ok.keeps k).stack
    exact ⟨l, a, b, fun x hx => List.mem_append_right _ (d x hx), f⟩

theorem Ok.less {c : Cx} {A : Around} {fr wr ex : List Addr} {σ : Sto} {h : Heap} (ok : Ok c A (ex ++ (wr ++ fr)) σ h) (hin : ∀ l, A.frames = some l → ∀ b ∈ l.filterMap (·.frame), b ∈ fr) : Ok c A (ex ++ fr) σ h where
  base := ok.base
  sto := fun p hp => IsO.move (K := keys σ ++ (ex ++ (wr ++ fr))) (fun b o _ e => e) (fun a m => .inl (by
    rcases List.mem_append.mp m with z | z
    · exact List.mem_append_left _ z
    · rcases List.mem_append.mp z with z | z
      · exact List.mem_append_right _ (List.mem_append_left _ z)
      · exact List.mem_append_right _ (List.mem_append_right _ (List.mem_append_right _ z)))) (fun x e => e) (ok.sto p hp)
  nd := by
    refine List.Sublist.nodup ?_ ok.nd
    exact List.Sublist.append (List.Sublist.refl _) (List.Sublist.append (List.Sublist.refl _) (List.sublist_append_right _ _))
  new := fun a m => ok.new a (by
    rcases List.mem_append.mp m with z | z
    · exact List.mem_append_left _ z
    · rcases List.mem_append.mp z with z | z
      · exact List.mem_append_right _ (List.mem_append_left _ z)
      · exact List.mem_append_right _ (List.mem_append_right _ (List.mem_append_right _ z)))
  live := fun a m => ok.live a (by
    rcases List.mem_append.mp m with z | z
    · exact List.mem_append_left _ z
    · exact List.mem_append_right _ (List.mem_append_right _ z))
  stack := by
    obtain ⟨l, h1, h2, h3, h4⟩ := ok.stack
    exact ⟨l, h1, h2, fun b hb => List.mem_append_right _ (hin l h1 b hb), h4⟩

theorem less_drop {fr wr : List Addr} (σ : Sto) (h : Heap) : Less (keys σ ++ (wr ++ fr)) (keys σ ++ fr) h := fun a m => by
  rcases List.mem_append.mp m with z | z
  · exact .inl (List.mem_append_left _ z)
  · exact .inl (List.mem_append_right _ (List.mem_append_right _ z))
theorem less_add {fr wr : List Addr} {σ : Sto} {h : Heap} (hn : ∀ a ∈ wr, h.get? a = none) : Less (keys σ ++ fr) (keys σ ++ (wr ++ fr)) h := fun a m => by
  rcases List.mem_append.mp m with z | z
  · exact .inl (List.mem_append_left _ z)
  · rcases List.mem_append.mp z with z | z
    · exact .inr (hn a z)
    · exact .inl (List.mem_append_right _ z)

theorem Fm.shift {env : Env} {m : Vars} {fr fr' K K' : List Addr} {h : Heap} (f : Fm env m fr K h) (hi : env.locals ∈ fr' ∧ ∀ p ∈ env.cells, p.2 ∈ fr') (hl : Less K K' h) : Fm env m fr' K' h where
  kind := f.kind
  glob := f.glob
  bui := f.bui
  ns := by obtain ⟨mv, hn, r⟩ := f.ns; exact ⟨mv, hn, fun x d e k => by obtain ⟨v, a, b⟩ := r x d e k; exact ⟨v, a, V.move (fun _ _ _ e => e) hl _ _ b⟩⟩
  cell := fun x cc e => by obtain ⟨ov, hc, r⟩ := f.cell x cc e; exact ⟨ov, hc, fun d e k => by obtain ⟨v, a, b⟩ := r d e k; exact ⟨v, a, V.move (fun _ _ _ e => e) hl _ _ b⟩⟩
  has := f.has
  inn := hi
  apart := f.apart

theorem Post.drop {F fr wr : List Addr} {σ σ1 σ2 : Sto} {s s1 s2 : Shared} (p : Post [] fr σ s s1 σ1) (hn : ∀ a ∈ wr, s.heap.get? a = none) (q : Post (wr ++ F) (wr ++ fr) σ1 s1 s2 σ2) : Post F fr σ s s2 σ2 where
  shape := by obtain ⟨h, tk, rfl⟩ := p.shape; obtain ⟨h', tk', rfl⟩ := q.shape; exact ⟨h', tk', rfl⟩
  kept := fun b o nb e => q.kept b o (fun m => by
    rcases List.mem_append.mp m with z | z
    · exact p.less.nin nb e (List.mem_append_left _ z)
    · rcases List.mem_append.mp z with z | z
      · rw [hn b z] at e; cases e
      · exact nb (List.mem_append_right _ z)) (p.kept b o nb e)
  slots := fun b o m nf e => by
    obtain ⟨sl, e1, r1⟩ := p.slots b o m (by simp) e
    obtain ⟨sl', e2, r2⟩ := q.slots b _ (List.mem_append_right _ m) (fun z => by
      rcases List.mem_append.mp z with z | z
      · rw [hn b z] at e; cases e
      · exact nf z) e1
    exact ⟨sl', e2, fun z => (r2 z).trans (r1 z)⟩
  alive := fun b o e => by obtain ⟨o1, e1⟩ := p.alive b o e; exact q.alive b o1 e1
  grow := fun a m => by
    rcases q.grow a m with z | z
    · exact p.grow a z
    · exact .inr (none_back p z)

theorem Ex.drop {c : Cx} {A : Around} {env : Env} {fr wr : List Addr} {σ σ1 : Sto} {s s1 s2 : Shared} {t : Bool} {X : Addr → Sto → Prop} {v : Value} (hin : ∀ l, A.frames = some l → ∀ b ∈ l.filterMap (·.frame), b ∈ fr) (p : Post [] fr σ s s1 σ1) (hn : ∀ a ∈ wr, s.heap.get? a = none) (hi : env.locals ∈ fr ∧ ∀ p ∈ env.cells, p.2 ∈ fr)
    (x : ∃ e C σ' ex, v = .ref e ∧ Post (wr ++ Fa env) (wr ++ fr) σ1 s1 s2 σ' ∧ Ok c A (ex ++ (wr ++ fr)) σ' s2.heap ∧ (∀ a ∈ ex, s1.heap.get? a = none) ∧ ExcOk s2.heap ex e C t ∧ Fm env [] (wr ++ fr) (keys σ' ++ (wr ++ fr)) s2.heap ∧ X C σ') : Ex c A (some env) fr σ s t X v s2 := by
  obtain ⟨e, C, σ', ex, rfl, q, ok, n, r, f, hx⟩ := x
  exact ⟨e, C, σ', ex, rfl, Post.drop p hn q, ok.less hin, fun a ha => none_back p (n a ha), r, f.shift hi (less_drop _ _), hx⟩
end Mine
set_option linter.unusedVariables false
set_option linter.unusedSimpArgs false
set_option autoImplicit false
namespace Mine
open PySem PySem.Calls PyProof.Rows

structure Ow (wr : List Addr) (h h' : Heap) : Prop where
  kept : ∀ b o, b ∉ wr → h.get? b = some o → h'.get? b = some o
  live : ∀ b ∈ wr, ∃ o, h'.get? b = some o

theorem Ok.ow {c : Cx} {A : Around} {fr wr : List Addr} {σ : Sto} {h h' : Heap} (ok : Ok c A (wr ++ fr) σ h) (hnd : ∀ b ∈ wr, ∀ o, h.get? b = some o → ∀ es n, o.data ≠ .dict es n) (y : Ow wr h h') : Ok c A (wr ++ fr) σ h' where
  base := fun b o e => y.kept b o (fun m => by rw [ok.new b (List.mem_append_right _ (List.mem_append_left _ m))] at e; cases e) (ok.base b o e)
  sto := fun p hp => IsO.move (fun b o n e => y.kept b o (fun m => n (List.mem_append_right _ (List.mem_append_left _ m))) e) (fun a m => .inl m) (fun x e => y.kept _ _ (fun m => by
    have := ok.nd
    rw [List.nodup_append] at this
    exact this.2.2 _ (List.mem_map_of_mem hp) _ (List.mem_append_left _ m) rfl) e) (ok.sto p hp)
  nd := ok.nd
  new := ok.new
  live := fun a m => by
    by_cases z : a ∈ wr
    · exact y.live a z
    · obtain ⟨o, e⟩ := ok.live a m; exact ⟨o, y.kept _ _ z e⟩
  stack := by
    obtain ⟨l, a, b, d, f⟩ := ok.stack
    have nw : ∀ x ∈ l.filterMap (·.frame), x ∉ wr := fun x hx hw => by
      obtain ⟨o, es, n, g, r⟩ := f x hx
      exact hnd x hw o g es n r
    refine ⟨l, a, ?_, d, fun x hx => ?_⟩
    · have : ∀ x ∈ l.filterMap (·.frame), x ∈ l.filterMap (·.frame) := fun x hx => hx
      refine FunFrames.turn (fr := l.filterMap (·.frame)) (fun x o hx g k => ⟨o, y.kept _ _ (nw x hx) g, k⟩) b this
    · obtain ⟨o, es, n, g, r⟩ := f x hx; exact ⟨o, es, n, y.kept _ _ (nw x hx) g, r⟩

theorem Post.ow {F fr wr : List Addr} {σ : Sto} {s : Shared} {h' : Heap} {tk : Nat} (y : Ow wr s.heap h') : Post (wr ++ F) (wr ++ fr) σ s { s with heap := h', toks := tk } σ where
  shape := ⟨h', tk, rfl⟩
  kept := fun b o n e => y.kept b o (fun m => n (List.mem_append_right _ (List.mem_append_left _ m))) e
  slots := fun b o m n e => ⟨o.slots, y.kept b o (fun z => n (List.mem_append_left _ z)) e, fun _ => rfl⟩
  alive := fun b o e => by
    by_cases z : b ∈ wr
    · exact y.live b z
    · exact ⟨o, y.kept _ _ z e⟩
  grow := fun _ m => .inl m

theorem Fm.ow {env : Env} {m : Vars} {fr wr K : List Addr} {h h' : Heap} (f : Fm env m (wr ++ fr) K h) (hK : ∀ b ∈ wr, b ∈ K) (hn : env.locals ∉ wr ∧ ∀ p ∈ env.cells, p.2 ∉ wr) (y : Ow wr h h') : Fm env m (wr ++ fr) K h' := by
  have st : Stay K h h' := fun b o n e => y.kept b o (fun m => n (hK _ m)) e
  have ls : Less K K h := fun a m => .inl m
  exact {
    kind := f.kind
    glob := f.glob
    bui := f.bui
    ns := by
      obtain ⟨mv, ⟨o, es, ep, g, r⟩, q⟩ := f.ns
      exact ⟨mv, ⟨o, es, ep, y.kept _ _ hn.1 g, r⟩, fun x d e k => by obtain ⟨v, a, b⟩ := q x d e k; exact ⟨v, a, V.move st ls _ _ b⟩⟩
    cell := fun x cc e => by
      obtain ⟨ov, ⟨o, g, r⟩, q⟩ := f.cell x cc e
      exact ⟨ov, ⟨o, y.kept _ _ (hn.2 _ (mem_of_lookup e)) g, r⟩, fun d e k => by obtain ⟨v, a, b⟩ := q d e k; exact ⟨v, a, V.move st ls _ _ b⟩⟩
    has := f.has
    inn := f.inn
    apart := f.apart }

structure Src (c : Cx) (A : Around) (tg : Expr) (I : Addr) (wr : List Addr) (vals : List Vars) (Inv : Sto → Prop) (St : Nat → List Addr → Heap → Prop) (Mid : Nat → List Addr → Heap → Value → Prop) : Prop where
  nodict : ∀ i K h, St i K h → ∀ b ∈ wr, ∀ o, h.get? b = some o → ∀ es n, o.data ≠ .dict es n
  move : ∀ i K K' h h', St i K h → Stay K h h' → (∀ b ∈ wr, ∀ o, h.get? b = some o → h'.get? b = some o) → Less K K' h → St i K' h'
  next : ∀ i σ fr (s : Shared) (Q : Option Value → Shared → Prop) (E : Value → Shared → Prop), i < vals.length → Ok c A (wr ++ fr) σ s.heap → St i (keys σ ++ (wr ++ fr)) s.heap → Inv σ →
    (∀ v h' tk, Mid i (keys σ ++ (wr ++ fr)) h' v → Ow wr s.heap h' → Q (some v) { s with heap := h', toks := tk }) → wpAny (model c.prog c.w) A (pyNext (.ref I)) Q E s
  put : ∀ i σ fr (F : List Addr) (env : Env) (m : Vars) v (s : Shared) (Q : Unit → Shared → Prop) (E : Value → Shared → Prop) x, vals[i]? = some x → Mid i (keys σ ++ (wr ++ fr)) s.heap v → Ok c A (wr ++ fr) σ s.heap → Fm env m (wr ++ fr) (keys σ ++ (wr ++ fr)) s.heap → (env.locals ∈ fr ∧ ∀ p ∈ env.cells, p.2 ∈ fr) →
    (∀ y ∈ x, env.kindOf y.1 = some .local ∨ env.kindOf y.1 = some .cell) → (env.locals ∈ F ∧ ∀ y ∈ x, env.kindOf y.1 = some .cell → ∀ cc, env.cells.lookup y.1 = some cc → cc ∈ F) → (∀ b ∈ wr, ∀ o, s.heap.get? b = some o → ∀ es n, o.data ≠ .dict es n) →
    (∀ h' tk, St (i + 1) (keys σ ++ (wr ++ fr)) h' → Fm env (x ++ m) (wr ++ fr) (keys σ ++ (wr ++ fr)) h' → Ok c A (wr ++ fr) σ h' → Post (wr ++ F) (wr ++ fr) σ s { s with heap := h', toks := tk } σ → Q () { s with heap := h', toks := tk }) →
    wpAny (model c.prog c.w) A (letOwnedTupleGo tg (.ref I) v) (fun _ s' => wpAny (model c.prog c.w) A (assign tg env v) Q E s') E s
  midnd : ∀ i K h v, Mid i K h v → ∀ b ∈ wr, ∀ o, h.get? b = some o → ∀ es n, o.data ≠ .dict es n
  done : ∀ σ fr (s : Shared) (Q : Option Value → Shared → Prop) (E : Value → Shared → Prop), Ok c A (wr ++ fr) σ s.heap → St vals.length (keys σ ++ (wr ++ fr)) s.heap → Inv σ →
    (∀ h' tk, (∀ b o, b ∉ wr → s.heap.get? b = some o → h'.get? b = some o) → Q none { s with heap := h', toks := tk }) → wpAny (model c.prog c.w) A (pyNext (.ref I)) Q E s
  self : ∀ i K (s : Shared) (Q : Value → Shared → Prop) (E : Value → Shared → Prop), St i K s.heap → Q (.ref I) s → wpAny (model c.prog c.w) A (pyIter (.ref I)) Q E s

def WIt (c : Cx) (A : Around) (fr : List Addr) (env : Env) (m : Vars) (σ : Sto) (iter tg : Expr) (Q : List Vars → (Sto → Prop) → Sto → Prop) (X : Addr → Sto → Prop) : Prop :=
  ∀ s, Ok c A fr σ s.heap → Fm env m fr (keys σ ++ fr) s.heap →
    wpAny (model c.prog c.w) A (eval iter env) (fun x s1 => wpAny (model c.prog c.w) A (pyIter x) (fun it s2 => ∃ I wr vals Inv St Mid σ', it = .ref I ∧ Post [] fr σ s s2 σ' ∧ Ok c A fr σ' s2.heap ∧ Ok c A (wr ++ fr) σ' s2.heap ∧ (∀ a ∈ wr, s.heap.get? a = none) ∧
      Fm env m (wr ++ fr) (keys σ' ++ (wr ++ fr)) s2.heap ∧ Src c A tg I wr vals Inv St Mid ∧ St 0 (keys σ' ++ (wr ++ fr)) s2.heap ∧ Inv σ' ∧ Q vals Inv σ') (Ex c A none fr σ s false X) s1) (Ex c A none fr σ s false X) s

theorem Post.fin {F fr wr : List Addr} {σ σ' : Sto} {s s' : Shared} {h' : Heap} {tk : Nat} (p : Post F fr σ s s' σ') (hn : ∀ a ∈ wr, s.heap.get? a = none) (hw : ∀ a ∈ fr, a ∉ wr) (k : ∀ b o, b ∉ wr → s'.heap.get? b = some o → h'.get? b = some o) : Post F fr σ s { s' with heap := h', toks := tk } σ' where
  shape := by obtain ⟨h, t, rfl⟩ := p.shape; exact ⟨h', tk, rfl⟩
  kept := fun b o n e => k b o (fun z => by rw [hn b z] at e; cases e) (p.kept b o n e)
  slots := fun b o m n e => by obtain ⟨sl, e1, r⟩ := p.slots b o m n e; exact ⟨sl, k _ _ (hw b m) e1, r⟩
  alive := fun b o e => by obtain ⟨o1, e1⟩ := p.alive b o e; exact ⟨o1, k _ _ (fun z => by rw [hn b z] at e; cases e) e1⟩
  grow := p.grow
theorem Ok.fin {c : Cx} {A : Around} {fr wr : List Addr} {σ : Sto} {h h' : Heap} (ok : Ok c A (wr ++ fr) σ h) (hin : ∀ l, A.frames = some l → ∀ b ∈ l.filterMap (·.frame), b ∈ fr) (k : ∀ b o, b ∉ wr → h.get? b = some o → h'.get? b = some o) : Ok c A fr σ h' := by
  have ok1 : Ok c A fr σ h := Ok.less (ex := []) ok hin
  have nd := ok.nd
  rw [List.nodup_append, List.nodup_append] at nd
  have nf : ∀ a ∈ fr, a ∉ wr := fun a ha hw => nd.2.1.2.2 a hw a ha rfl
  have nk : ∀ a ∈ keys σ, a ∉ wr := fun a ha hw => nd.2.2 a ha a (List.mem_append_left _ hw) rfl
  exact {
    base := fun b o e => k b o (fun m => by rw [ok.new b (List.mem_append_right _ (List.mem_append_left _ m))] at e; cases e) (ok.base b o e)
    sto := fun p hp => IsO.move (K := keys σ ++ (wr ++ fr)) (fun b o n e => k b o (fun m => n (List.mem_append_right _ (List.mem_append_left _ m))) e) (less_drop _ _) (fun x e => k _ _ (nk _ (List.mem_map_of_mem hp)) e) (ok.sto p hp)
    nd := ok1.nd
    new := ok1.new
    live := fun a m => by obtain ⟨o, e⟩ := ok1.live a m; exact ⟨o, k _ _ (nf a m) e⟩
    stack := by
      obtain ⟨l, a, b, d, f⟩ := ok1.stack
      refine ⟨l, a, FunFrames.turn (fr := fr) (fun x o hx g q => ⟨o, k _ _ (nf x hx) g, q⟩) b d, d, fun x hx => ?_⟩
      obtain ⟨o, es, n, g, r⟩ := f x hx; exact ⟨o, es, n, k _ _ (nf x (d x hx)) g, r⟩ }

theorem Ok.frames_in {c : Cx} {A : Around} {fr : List Addr} {σ : Sto} {h : Heap} (ok : Ok c A fr σ h) : ∀ l, A.frames = some l → ∀ b ∈ l.filterMap (·.frame), b ∈ fr := fun l hl b hb => by
  obtain ⟨l', h1, _, h3, _⟩ := ok.stack
  rw [hl] at h1; cases h1; exact h3 b hb

section
variable {c : Cx} {A : Around} {fr : List Addr} {σ : Sto} {X : Addr → Sto → Prop} {env : Env} {m : Vars} {N : Vars → Sto → Prop} {R : D → Sto → Prop}

theorem Ex.loop {wr : List Addr} {σ1 σ2 : Sto} {s s1 s2 s3 : Shared} {v : Value} (hst : ∃ l, A.frames = some (env :: l)) (hf : env.frame = some env.locals) (hin : ∀ l, A.frames = some l → ∀ b ∈ l.filterMap (·.frame), b ∈ fr) (hi : env.locals ∈ fr ∧ ∀ p ∈ env.cells, p.2 ∈ fr)
    (p : Post [] fr σ s s1 σ1) (hn : ∀ a ∈ wr, s.heap.get? a = none) (q : Post (wr ++ Fa env) (wr ++ fr) σ1 s1 s2 σ2) (x : Ex c A (some env) (wr ++ fr) σ2 s2 false X v s3) :
    notedBy (model c.prog c.w) A env (fun e s' => cameBackBy (model c.prog c.w) A env (Ex c A (some env) fr σ s false X) e s') v s3 := by
  unfold notedBy
  obtain ⟨l, hl⟩ := hst
  refine wpAny_mono (Ex.noted (E := fun _ _ => False) x hl hf) (fun _ s4 x4 => ?_) fun _ _ f => f.elim
  unfold cameBackBy
  obtain ⟨e, C, σ', ex, rfl, q', ok, n, ⟨oe, vs, g, gc, gd, gs, r⟩, f, hx⟩ := id x4
  rcases r with ⟨r, _⟩ | ⟨T, oT, ts, rfl, hT, gT, dT, sT⟩
  · cases r
  refine wpAny_bind (wpAny_field g gd hT ?_)
  rw [if_neg (by simp)]
  refine wpAny_mono (Ex.flight (E := fun _ _ => False) x4) (fun _ s5 x5 => ?_) fun _ _ f => f.elim
  obtain ⟨e', C', σ5, ex5, ev, q5, ok5, n5, r5, f5, hx5⟩ := x5
  refine Ex.weak (Ex.drop hin p hn hi ⟨e', C', σ5, ex5, ev, q.trans (q5.wide ?_), ok5, fun a ha => none_back q (n5 a ha), r5, f5, hx5⟩)
  intro a ha; exact List.mem_append_right _ ha

theorem W1.for_ {tg iter : Expr} {body : List Stmt} {pos : Pos} (hst : ∃ l, A.frames = some (env :: l)) (hf : env.frame = some env.locals)
    (h : WIt c A fr env m σ iter tg (fun vals Inv σ1 => (∀ x ∈ vals, ∀ y ∈ x, env.kindOf y.1 = some .local ∨ env.kindOf y.1 = some .cell) ∧ ∃ L : Nat → Vars → Sto → Prop, L 0 m σ1 ∧
      (∀ k m' σ', L k m' σ' → Inv σ') ∧
      (∀ k x m' σ', vals[k]? = some x → L k m' σ' → ∀ fr', WS c A fr' env (x ++ m') σ' body (fun m'' σ'' => L (k + 1) m'' σ'') R X) ∧
      ∀ m' σ', L vals.length m' σ' → N m' σ') X) (hs : ∀ x, foldedSetIterable iter env x = pure x := by intro _; rfl) : W1 c A fr env m σ (.For tg iter body [] pos) N R X := fun s ok fm => by
  have hin := ok.frames_in
  refine wpAny_For (wpAny_mono (h s ok fm) (fun x s1 h1 => wpAny_mono h1 (fun it s2 h2 => ?_) fun _ _ x => x.wide fm) fun _ _ x => x.wide fm) hs
  obtain ⟨I, wr, vals, Inv, St, Mid, σ1, rfl, p, ok1, okw, hn, fmw, src, st0, inv0, hkinds, L, L0, LI, Lturn, Lend⟩ := h2
  have ndw := okw.nd
  rw [List.nodup_append, List.nodup_append] at ndw
  have nf : ∀ a ∈ fr, a ∉ wr := fun a ha hw => ndw.2.1.2.2 a hw a ha rfl
  have hloc : env.locals ∉ wr ∧ ∀ q ∈ env.cells, q.2 ∉ wr := ⟨nf _ fm.inn.1, fun q hq => nf _ (fm.inn.2 q hq)⟩
  refine codeAny_forLoopT (fun k s' => ∃ i m' σ', k = vals.length + 1 - i ∧ i ≤ vals.length ∧ L i m' σ' ∧ Post (wr ++ Fa env) (wr ++ fr) σ1 s2 s' σ' ∧ Ok c A (wr ++ fr) σ' s'.heap ∧ Fm env m' (wr ++ fr) (keys σ' ++ (wr ++ fr)) s'.heap ∧ St i (keys σ' ++ (wr ++ fr)) s'.heap)
    ?_ (vals.length + 1) ⟨0, m, σ1, rfl, Nat.zero_le _, L0, Post.refl .., okw, fmw, st0⟩
  rintro k s' ⟨i, m', σ', rfl, hi, hL, pp, okk, fmk, stk⟩
  by_cases hlt : i < vals.length
  · obtain ⟨x, hx⟩ : ∃ x, vals[i]? = some x := ⟨vals[i], by simp [hlt]⟩
    refine src.next i σ' fr s' _ _ hlt okk stk (LI _ _ _ hL) fun v h' tk hmid how => ?_
    have ok' : Ok c A (wr ++ fr) σ' h' := okk.ow (src.nodict _ _ _ stk) how
    have fm' : Fm env m' (wr ++ fr) (keys σ' ++ (wr ++ fr)) h' := fmk.ow (fun b hb => List.mem_append_right _ (List.mem_append_left _ hb)) hloc how
    have pp' := pp.trans (Post.ow (F := Fa env) (fr := fr) (σ := σ') (tk := tk) how)
    refine src.put i σ' fr (Fa env) env m' v _ _ _ x hx hmid ok' fm' fm.inn (hkinds x (List.mem_of_getElem? hx)) ⟨List.mem_cons_self, fun y _ _ cc hcc => List.mem_cons_of_mem _ (List.mem_map_of_mem (f := (·.2)) (mem_of_lookup hcc))⟩ (src.midnd _ _ _ _ hmid) fun h2 tk2 st2 fm2 ok2 p2 => ?_
    have pp2 := pp'.trans p2
    refine wpAny_mono (Lturn i x m' σ' hx hL (wr ++ fr) _ ok2 fm2) (fun fl s3 hx3 => ?_) fun v s3 hx3 => ?_
    · obtain ⟨out, σ3, p3, ok3, r3, q3⟩ := hx3
      have pp3 := pp2.trans (p3.wide (F' := wr ++ Fa env) fun a ha => List.mem_append_right _ ha)
      cases out with
      | next m3 =>
        obtain ⟨rfl, fm3⟩ := r3
        refine ⟨vals.length + 1 - (i + 1), by omega, i + 1, m3, σ3, rfl, hlt, q3, pp3, ok3, fm3, ?_⟩
        refine src.move _ _ _ _ _ st2 p3.stay (fun b hb o e => ?_) p3.less
        obtain ⟨sl, e1, r1⟩ := p3.slots b o (List.mem_append_left _ hb) (fun z => by
          rcases List.mem_cons.mp z with rfl | z
          · exact hloc.1 hb
          · obtain ⟨q, hq, rfl⟩ := List.mem_map.mp z; exact hloc.2 q hq hb) e
        have := r1 (src.nodict _ _ _ st2 b hb o e)
        subst this; exact e1
      | ret d =>
        obtain ⟨v, rfl, hv, fv⟩ := r3
        exact ⟨.ret d, σ3, Post.drop p hn pp3, Ok.less (ex := []) ok3 hin, ⟨v, rfl, V.move (fun _ _ _ e => e) (less_drop _ _) _ _ hv, fv.shift fm.inn (less_drop _ _)⟩, q3⟩
    · exact Ex.loop hst hf hin fm.inn p hn pp2 hx3
  · obtain rfl : i = vals.length := by omega
    refine src.done σ' fr s' _ _ okk stk (LI _ _ _ hL) fun h' tk hk => ?_
    refine wpAny_execs_nil ?_
    have okf : Ok c A fr σ' h' := okk.fin hin hk
    refine ⟨.next m', σ', Post.fin (Post.drop p hn pp) hn nf hk, okf, ⟨rfl, ?_⟩, Lend _ _ hL⟩
    have f1 := fmk.shift (fr' := fr) (K' := keys σ' ++ fr) fm.inn (less_drop _ _)
    have st : Stay (keys σ' ++ (wr ++ fr)) s'.heap h' := fun b o n e => hk b o (fun z => n (List.mem_append_right _ (List.mem_append_left _ z))) e
    exact {
      kind := f1.kind
      glob := f1.glob
      bui := f1.bui
      ns := by
        obtain ⟨mv, ⟨o, es, ep, g, r⟩, q⟩ := fmk.ns
        exact ⟨mv, ⟨o, es, ep, hk _ _ hloc.1 g, r⟩, fun x d e k => by obtain ⟨v, a, b⟩ := q x d e k; exact ⟨v, a, V.move st (less_drop _ _) _ _ b⟩⟩
      cell := fun x cc e => by
        obtain ⟨ov, ⟨o, g, r⟩, q⟩ := fmk.cell x cc e
        exact ⟨ov, ⟨o, hk _ _ (hloc.2 _ (mem_of_lookup e)) g, r⟩, fun d e k => by obtain ⟨v, a, b⟩ := q d e k; exact ⟨v, a, V.move st (less_drop _ _) _ _ b⟩⟩
      has := f1.has
      inn := f1.inn
      apart := f1.apart }
end
end Mine
set_option linter.unusedVariables false
set_option linter.unusedSimpArgs false
set_option autoImplicit false
namespace Mine
open PySem PySem.Calls PyProof.Rows

def relab (scope sc : Scope) : Scope :=
  { scope with names := scope.names.map fun (n, k) => if (k == .free && sc.kind == .function && sc.names.lookup n == some .cell) then (n, .cell) else (n, k) }
def capt (scope : Scope) (m : Vars) : Vars := m.filter fun p => scope.names.lookup p.1 == some .free

def closOf (env : Env) : List (Str × NameKind) → List (Str × Addr) → List (Str × Addr)
  | [], acc => acc
  | (n, k) :: r, acc => closOf env r (if k == .free then (match env.cells.lookup n with | some a => (n, a) :: acc | none => acc) else acc)

theorem closureFor_eq {scope : Scope} {env : Env} (h : ∀ x ∈ scope.names, x.2 = .free → ∃ a, env.cells.lookup x.1 = some a) : closureFor scope env = pure (closOf env scope.names []) := by
  unfold closureFor
  have : ∀ (names : List (Str × NameKind)) (acc : List (Str × Addr)), (∀ x ∈ names, x.2 = .free → ∃ a, env.cells.lookup x.1 = some a) →
      (forIn names acc fun x (r : List (Str × Addr)) => (if (x.2 == NameKind.free) = true then do let a ← cellOf env x.1; pure (ForInStep.yield ((x.1, a) :: r)) else pure (ForInStep.yield r) : Sem (ForInStep (List (Str × Addr))))) = pure (closOf env names acc) := by
    intro names
    induction names with
    | nil => intro acc _; rfl
    | cons x r ih =>
      intro acc hx
      rw [List.forIn_cons]
      obtain ⟨n, k⟩ := x
      unfold closOf
      by_cases hk : (k == NameKind.free) = true
      · obtain ⟨a, ha⟩ := hx (n, k) List.mem_cons_self (by simpa using hk)
        have hc : cellOf env n = pure a := by unfold cellOf; rw [ha]
        simp only [hk, if_true, hc, ha]
        exact ih _ fun y hy => hx y (List.mem_cons_of_mem _ hy)
      · simp only [hk, if_false, Bool.false_eq_true]
        exact ih _ fun y hy => hx y (List.mem_cons_of_mem _ hy)
  exact congrArg (fun t => t >>= fun cs => pure cs) (this scope.names [] h)

theorem closOf_lookup {env : Env} {x : Str} : ∀ (names : List (Str × NameKind)) (acc : List (Str × Addr)) {a : Addr}, (closOf env names acc).lookup x = some a → acc.lookup x = some a ∨ env.cells.lookup x = some a
  | [], acc, a, h => .inl h
  | (n, k) :: r, acc, a, h => by
    unfold closOf at h
    rcases closOf_lookup r _ h with h | h
    · split at h
      · split at h
        · rename_i b hb
          rw [List.lookup_cons] at h
          by_cases q : (x == n) = true
          · rw [q] at h; cases h; rw [beq_iff_eq.mp q]; exact .inr hb
          · simp only [q] at h; exact .inl h
        · exact .inl h
      · exact .inl h
    · exact .inr h
theorem closOf_has {env : Env} {x : Str} (hx : ∃ a, env.cells.lookup x = some a) : ∀ (names : List (Str × NameKind)) (acc : List (Str × Addr)), ((x, NameKind.free) ∈ names ∨ ∃ a, acc.lookup x = some a) → ∃ a, (closOf env names acc).lookup x = some a
  | [], acc, h => h.elim (fun h => nomatch h) id
  | (n, k) :: r, acc, h => by
    unfold closOf
    refine closOf_has hx r _ ?_
    rcases h with h | ⟨a, h⟩
    · rcases List.mem_cons.mp h with e | h
      · cases e
        obtain ⟨a, ha⟩ := hx
        refine .inr ⟨a, ?_⟩
        simp [ha]
      · exact .inl h
    · refine .inr ?_
      split
      · split
        · rw [List.lookup_cons]
          by_cases q : (x == n) = true
          · exact ⟨_, by rw [q]⟩
          · exact ⟨a, by simp only [q]; exact h⟩
        · exact ⟨a, h⟩
      · exact ⟨a, h⟩
theorem closOf_mem {env : Env} : ∀ (names : List (Str × NameKind)) (acc : List (Str × Addr)) {p : Str × Addr}, p ∈ closOf env names acc → p ∈ acc ∨ env.cells.lookup p.1 = some p.2
  | [], acc, p, h => .inl h
  | (n, k) :: r, acc, p, h => by
    unfold closOf at h
    rcases closOf_mem r _ h with h | h
    · split at h
      · split at h
        · rename_i b hb
          rcases List.mem_cons.mp h with rfl | h
          · exact .inr hb
          · exact .inl h
        · exact .inl h
      · exact .inl h
    · exact .inr h
theorem closOf_pair {env : Env} (hap : env.cells.Pairwise fun x y => x.2 ≠ y.2) : ∀ (names : List (Str × NameKind)) (acc : List (Str × Addr)), (names.map (·.1)).Nodup → (∀ p ∈ acc, p.1 ∉ names.map (·.1)) → (∀ p ∈ acc, env.cells.lookup p.1 = some p.2) →
    (acc.Pairwise fun x y => x.2 ≠ y.2) → (closOf env names acc).Pairwise fun x y => x.2 ≠ y.2
  | [], acc, _, _, _, h => h
  | (n, k) :: r, acc, nd, hd, hl, h => by
    simp only [List.map_cons, List.nodup_cons] at nd
    unfold closOf
    have hd' : ∀ p ∈ acc, p.1 ∉ r.map (·.1) := fun p hp z => hd p hp (List.mem_cons_of_mem _ z)
    split
    · split
      · rename_i b hb
        refine closOf_pair hap r _ nd.2 (fun p hp => ?_) (fun p hp => ?_) (List.pairwise_cons.mpr ⟨fun y hy z => ?_, h⟩)
        · rcases List.mem_cons.mp hp with rfl | hp
          · exact nd.1
          · exact hd' p hp
        · rcases List.mem_cons.mp hp with rfl | hp
          · exact hb
          · exact hl p hp
        · have := name_of_addr hap (mem_of_lookup hb) (z ▸ mem_of_lookup (hl y hy))
          exact hd y hy (by rw [← this]; exact List.mem_cons_self)
      · exact closOf_pair hap r _ nd.2 hd' hl h
    · exact closOf_pair hap r _ nd.2 hd' hl h

theorem Fm.comp {env : Env} {m : Vars} {fr K : List Addr} {h : Heap} {scope : Scope} {C : Addr} (f : Fm env m fr K h) (hk : scope.kind = .function) (hC : C ∈ fr) (hns : h.Ns C fun _ => none) (hnd : (scope.names.map (·.1)).Nodup) (hcell : ∀ y ∈ scope.names, y.2 ≠ .cell)
    (hfree : ∀ y ∈ scope.names, y.2 = .free → ∃ a, env.cells.lookup y.1 = some a) (hCc : ∀ p ∈ env.cells, p.2 ≠ C) (hkind : ∀ x, scope.names.lookup x = some .free → env.kindOf x = some .cell ∨ env.kindOf x = some .free) : Fm (compEnvC scope (closOf env scope.names []) C env) (capt scope m) fr K h := by
  have look : ∀ x k, (relabel scope env).names.lookup x = some k → scope.names.lookup x = some k ∨ (k = .cell ∧ scope.names.lookup x = some .free) := by
    intro x k
    unfold relabel
    generalize scope.names = names
    induction names with
    | nil => intro h; cases h
    | cons y r ih =>
      obtain ⟨n, kk⟩ := y
      intro h
      simp only [List.map_cons] at h
      by_cases hc : (kk == NameKind.free && env.scope.kind == .function && env.kindOf n == some .cell) = true
      · rw [if_pos hc] at h
        rw [List.lookup_cons] at h
        by_cases q : (x == n) = true
        · rw [q] at h; cases h
          refine .inr ⟨rfl, ?_⟩
          rw [List.lookup_cons, q]
          simp only [Bool.and_eq_true, beq_iff_eq] at hc
          rw [hc.1.1]
        · simp only [q] at h
          rcases ih h with z | z
          · exact .inl (by rw [List.lookup_cons]; simp only [q]; exact z)
          · exact .inr ⟨z.1, by rw [List.lookup_cons]; simp only [q]; exact z.2⟩
      · rw [if_neg hc] at h
        rw [List.lookup_cons] at h
        by_cases q : (x == n) = true
        · rw [q] at h; cases h; exact .inl (by rw [List.lookup_cons, q])
        · simp only [q] at h
          rcases ih h with z | z
          · exact .inl (by rw [List.lookup_cons]; simp only [q]; exact z)
          · exact .inr ⟨z.1, by rw [List.lookup_cons]; simp only [q]; exact z.2⟩
  have capt_look : ∀ (l : Vars) x d, (capt scope l).lookup x = some d → l.lookup x = some d ∧ scope.names.lookup x = some .free := by
    intro l
    induction l with
    | nil => intro x d h; cases h
    | cons p r ih =>
      intro x d h
      obtain ⟨y, dy⟩ := p
      unfold capt at h
      rw [List.filter_cons] at h
      by_cases hf : (scope.names.lookup y == some NameKind.free) = true
      · rw [if_pos hf, lookup_cons_eq] at h
        by_cases q : x = y
        · subst q; rw [if_pos rfl] at h; cases h
          exact ⟨by rw [lookup_cons_eq, if_pos rfl], by simpa using hf⟩
        · rw [if_neg q] at h
          have := ih x d h
          exact ⟨by rw [lookup_cons_eq, if_neg q]; exact this.1, this.2⟩
      · rw [if_neg hf] at h
        have := ih x d h
        have q : x ≠ y := fun z => hf (by rw [← z, this.2]; rfl)
        exact ⟨by rw [lookup_cons_eq, if_neg q]; exact this.1, this.2⟩
  have notcell : ∀ x, scope.names.lookup x ≠ some .cell := fun x z => by
    have : (x, NameKind.cell) ∈ scope.names := by
      have : ∀ (l : List (Str × NameKind)), l.lookup x = some .cell → (x, NameKind.cell) ∈ l := by
        intro l
        induction l with
        | nil => intro h; cases h
        | cons p r ih =>
          obtain ⟨y, k⟩ := p
          intro h
          rw [List.lookup_cons] at h
          by_cases q : (x == y) = true
          · rw [q] at h; cases h; rw [beq_iff_eq.mp q]; exact List.mem_cons_self
          · simp only [q] at h; exact List.mem_cons_of_mem _ (ih h)
      exact this _ z
    exact hcell _ this rfl
  have memfree : ∀ x, scope.names.lookup x = some .free → (x, NameKind.free) ∈ scope.names := fun x z => by
    have : ∀ (l : List (Str × NameKind)), l.lookup x = some .free → (x, NameKind.free) ∈ l := by
      intro l
      induction l with
      | nil => intro h; cases h
      | cons p r ih =>
        obtain ⟨y, k⟩ := p
        intro h
        rw [List.lookup_cons] at h
        by_cases q : (x == y) = true
        · rw [q] at h; cases h; rw [beq_iff_eq.mp q]; exact List.mem_cons_self
        · simp only [q] at h; exact List.mem_cons_of_mem _ (ih h)
    exact this _ z
  have clmem : ∀ p ∈ closOf env scope.names [], env.cells.lookup p.1 = some p.2 := fun p hp => (closOf_mem _ _ hp).resolve_left (by simp)
  exact {
    kind := hk
    glob := f.glob
    bui := f.bui
    ns := ⟨_, hns, fun x d e k => by
      have h1 := (capt_look m x d e).2
      rcases look x .local k with z | z
      · rw [h1] at z; cases z
      · cases z.1⟩
    cell := fun x cc e => by
      have e' : env.cells.lookup x = some cc := (closOf_lookup _ _ e).resolve_left (by simp)
      obtain ⟨ov, hc, r⟩ := f.cell x cc e'
      refine ⟨ov, hc, fun d ed k => ?_⟩
      obtain ⟨h1, h2⟩ := capt_look m x d ed
      exact r d h1 (hkind x h2)
    has := fun x k => by
      have h2 : scope.names.lookup x = some .free := by
        rcases k with k | k
        · rcases look x .cell k with z | z
          · exact absurd z (notcell x)
          · exact z.2
        · rcases look x .free k with z | z
          · exact z
          · exact z.2
      have hm := memfree x h2
      exact closOf_has (hfree _ hm rfl) _ _ (.inl hm)
    inn := ⟨hC, fun p hp => f.inn.2 p (mem_of_lookup (clmem p hp))⟩
    apart := ⟨closOf_pair f.apart.1 _ _ hnd (by simp) (by simp) List.Pairwise.nil, fun p hp => hCc p (mem_of_lookup (clmem p hp))⟩ }
end Mine
set_option linter.unusedVariables false
set_option linter.unusedSimpArgs false
set_option autoImplicit false
namespace Mine
open PySem PySem.Calls PyProof.Rows

abbrev NoX : Addr → Sto → Prop := fun _ _ => False
theorem Ex.no {c : Cx} {A : Around} {G : Option Env} {fr : List Addr} {σ : Sto} {s s' : Shared} {t : Bool} {v : Value} (x : Ex c A G fr σ s t NoX v s') : False := by
  obtain ⟨e, C, σ2, ex, _, _, _, _, _, _, hx⟩ := x; exact hx

section
variable {c : Cx} {A : Around} {fr : List Addr} {σ : Sto} {X : Addr → Sto → Prop} {env : Env} {m : Vars}

def WIfs (c : Cx) (A : Around) (fr : List Addr) (env : Env) (m : Vars) (σ : Sto) (ifs : List Expr) (Q : Bool → Sto → Prop) (X : Addr → Sto → Prop) : Prop :=
  ∀ s, Ok c A fr σ s.heap → Fm env m fr (keys σ ++ fr) s.heap → W c A none fr σ (forIn ifs true fun c r => if r = true then do let ok ← isTrue c env (eval c env); pure (ForInStep.yield ok) else pure (ForInStep.yield r)) RB Q X s
theorem WIfs.nil {Q : Bool → Sto → Prop} (h : Q true σ) : WIfs c A fr env m σ [] Q X := fun s ok fm => wpAny_tests_nil ⟨true, σ, Post.refl .., ok, rfl, h⟩
theorem Fm.sub {env : Env} {m m' : Vars} {fr K : List Addr} {h : Heap} (f : Fm env m fr K h) (hs : ∀ x d, m'.lookup x = some d → m.lookup x = some d) : Fm env m' fr K h where
  kind := f.kind
  glob := f.glob
  bui := f.bui
  ns := by obtain ⟨mv, hn, r⟩ := f.ns; exact ⟨mv, hn, fun x d e k => r x d (hs x d e) k⟩
  cell := fun x cc e => by obtain ⟨ov, hc, r⟩ := f.cell x cc e; exact ⟨ov, hc, fun d e k => r d (hs x d e) k⟩
  has := f.has
  inn := f.inn
  apart := f.apart
theorem lookup_append_none {x : Str} : ∀ {a b : Vars}, (∀ p ∈ a, p.1 ≠ x) → (a ++ b).lookup x = b.lookup x
  | [], _, _ => rfl
  | (y, d) :: r, b, h => by
    rw [List.cons_append, lookup_cons_eq, if_neg (fun z => h _ List.mem_cons_self z.symm)]
    exact lookup_append_none fun p hp => h p (List.mem_cons_of_mem _ hp)
theorem capt_free {scope : Scope} {x : Str} {d : D} : ∀ {m : Vars}, (capt scope m).lookup x = some d → scope.names.lookup x = some .free
  | [], h => by cases h
  | (y, dy) :: r, h => by
    unfold capt at h
    rw [List.filter_cons] at h
    by_cases hf : (scope.names.lookup y == some NameKind.free) = true
    · rw [if_pos hf, lookup_cons_eq] at h
      by_cases q : x = y
      · subst q; simpa using hf
      · rw [if_neg q] at h; exact capt_free (m := r) h
    · rw [if_neg hf] at h; exact capt_free (m := r) h

structure FinC (c : Cx) (A : Around) (fr : List Addr) (σ : Sto) (s s' : Shared) (σ' : Sto) (ds : List D) (a C : Addr) : Prop where
  post : Post [] fr σ s s' σ'
  ok : Ok c A ([C, a] ++ fr) σ' s'.heap
  list : ∃ vs n, s'.heap.get? a = some (lstObj vs n) ∧ Vs (keys σ' ++ ([C, a] ++ fr)) s'.heap ds vs
  newa : s.heap.get? a = none
  newC : s.heap.get? C = none
  ns : ∃ m', s'.heap.Ns C m'
  frames : ∀ l, A.frames = some l → ∀ b ∈ l.filterMap (·.frame), b ∈ fr

set_option maxHeartbeats 1000000 in
theorem comp_core {tg iter elt : Expr} {ifs : List Expr} {scope : Scope} {pos p : Pos} {use : Option (Value → Sem Unit)} {Q : Value → Shared → Prop} {E : Value → Shared → Prop} {s : Shared} (ok : Ok c A fr σ s.heap) (fm : Fm env m fr (keys σ ++ fr) s.heap)
    (hkS : scope.kind = .function) (hnd : (scope.names.map (·.1)).Nodup) (hcell : ∀ y ∈ scope.names, y.2 ≠ .cell) (hfree : ∀ y ∈ scope.names, y.2 = .free → env.kindOf y.1 = some .cell ∨ env.kindOf y.1 = some .free)
    (hE : ∀ v s', Ex c A none fr σ s false X v s' → E v s')
    {Z : List D → Sto → Prop}
    (h : WIt c A fr env m σ iter tg (fun vals Inv σ1 => (∀ x ∈ vals, ∀ y ∈ x, scope.names.lookup y.1 = some .local) ∧ ∃ L : Nat → List D → Sto → Prop, L 0 [] σ1 ∧
      (∀ k ds σ', L k ds σ' → Inv σ' ∧ ds.length ≤ sizeLine) ∧
      (∀ k x ds σ', vals[k]? = some x → L k ds σ' → ∀ fr' cenv, cenv.scope = relab scope env.scope → WIfs c A fr' cenv (x ++ capt scope m) σ' ifs (fun b σ2 => if b = true then WE c A fr' cenv (x ++ capt scope m) σ2 elt (fun d σ3 => L (k + 1) (ds ++ [d]) σ3) NoX else L (k + 1) ds σ2) NoX) ∧
      ∀ ds σ', L vals.length ds σ' → Z ds σ') X)
    (hend : ∀ s' σ' ds a C, FinC c A fr σ s s' σ' ds a C → Z ds σ' → compPost (model c.prog c.w) A E use Q (.ref a) C (.ok .next) s')
    (hs : ∀ x, foldedSetIterable iter env x = pure x := by intro _; rfl) :
    wpAny (model c.prog c.w) A (comprehension (.ListComp elt [⟨tg, iter, ifs, 0⟩] scope pos) scope env p (newList []) false (eval iter env) use) Q E s := by
  have hin := ok.frames_in
  have hfree' : ∀ y ∈ scope.names, y.2 = .free → ∃ a, env.cells.lookup y.1 = some a := fun y hy hf => fm.has y.1 (hfree y hy hf)
  have hnames : ∀ x ∈ scope.names, x.2 = .local → scope.names.lookup x.1 = some .local := by
    have : ∀ (l : List (Str × NameKind)), (l.map (·.1)).Nodup → ∀ x ∈ l, l.lookup x.1 = some x.2 := by
      intro l
      induction l with
      | nil => intro _ x hx; cases hx
      | cons y r ih =>
        intro nd x hx
        simp only [List.map_cons, List.nodup_cons] at nd
        rcases List.mem_cons.mp hx with rfl | hx2
        · obtain ⟨a, b⟩ := x; simp [List.lookup_cons]
        · obtain ⟨ya, yb⟩ := y
          rw [List.lookup_cons]
          have : (x.1 == ya) = false := by
            simp only [beq_eq_false_iff_ne, ne_eq]
            intro z; exact nd.1 (List.mem_map.mpr ⟨x, hx2, z⟩)
          rw [this]; exact ih nd.2 x hx2
    intro x hx hl
    rw [this _ hnd x hx, hl]
  refine wpAny_comprehension_free (use := use) rfl hs (closureFor_eq hfree') hkS hnames (wpAny_mono (h s ok fm) (fun xv s1 h1 => wpAny_mono h1 (fun it s2 h2 => ?_) fun _ _ x => hE _ _ x) fun _ _ x => hE _ _ x)
  obtain ⟨I, wr, vals, Inv, St, Mid, σ1, rfl, p1, ok1, okw, hn, fmw, src, st0, inv0, hkinds, L, L0, LI, Lturn, Lend⟩ := h2
  refine wpAny_newObj_type (wpAny_newFunctionEnv hcell (by intro y hy; simp at hy) (fun h3 hns3 hsb3 => ?_) hkS)
  dsimp only at hns3 hsb3 ⊢
  -- the two new objects
  generalize hD : s2.heap.objs.size = D at hns3 hsb3 ⊢
  generalize hH2 : s2.heap.push { cls := .type "list", dict := none, data := .seq ([] : List Value).toArray } = H2 at hns3 hsb3 ⊢
  have hCs : H2.objs.size = D + 1 := by rw [← hH2, Heap.size_push, hD]
  generalize hC : H2.objs.size = C at hns3 hsb3 hCs ⊢
  have hCD : C ≠ D := by rw [hCs]; exact Nat.succ_ne_self D
  have keep23 : ∀ b o, s2.heap.get? b = some o → h3.get? b = some o := fun b o e => by
    have hb : b < D := hD ▸ Heap.lt_size e
    refine hsb3.extBut b o (fun z => ?_) (Heap.get?_push_of_some _ (hH2 ▸ Heap.get?_push_of_some _ e))
    rw [z, hCs] at hb; exact Nat.lt_irrefl _ (Nat.lt_of_succ_lt hb)
  have noneD : s2.heap.get? D = none := none_of_ge (Nat.le_of_eq hD)
  have noneC : s2.heap.get? C = none := none_of_ge (by rw [hD, hCs]; exact Nat.le_succ D)
  have accD : h3.get? D = some (lstObj [] 0) := hsb3.extBut _ _ (Ne.symm hCD) (Heap.get?_push_of_some _ (by rw [← hH2, ← hD]; exact Heap.get?_push_size _ rfl))
  obtain ⟨oC, esC, epC, gC, dC, _⟩ := id hns3
  have okCD : Ok c A ([C, D] ++ (wr ++ fr)) σ1 h3 := okw.more keep23 (fun a ha => by
    rcases List.mem_cons.mp ha with rfl | ha
    · exact noneC
    · rw [List.mem_singleton.mp ha]; exact noneD) (fun a ha => by
    rcases List.mem_cons.mp ha with rfl | ha
    · exact ⟨_, gC⟩
    · rw [List.mem_singleton.mp ha]; exact ⟨_, accD⟩) (by simp [hCD])
  -- the same, in the order that the source wants
  have perm : ∀ {σ' : Sto} {h : Heap}, Ok c A ([C, D] ++ (wr ++ fr)) σ' h → Ok c A (wr ++ ([C, D] ++ fr)) σ' h := fun {σ' h} o => by
    have hm : ∀ a, a ∈ keys σ' ++ ([C, D] ++ (wr ++ fr)) ↔ a ∈ keys σ' ++ (wr ++ ([C, D] ++ fr)) := fun a => by simp only [List.mem_append]; constructor <;> (intro z; rcases z with z | z | z | z <;> simp [z])
    exact {
      base := o.base
      sto := fun p hp => IsO.move (K := keys σ' ++ ([C, D] ++ (wr ++ fr))) (fun _ _ _ e => e) (fun a ha => .inl ((hm a).mpr ha)) (fun _ e => e) (o.sto p hp)
      nd := by
        have := o.nd
        refine (List.Perm.nodup_iff ?_).mp this
        refine List.Perm.append_left _ ?_
        rw [← List.append_assoc, ← List.append_assoc]
        exact List.Perm.append_right _ List.perm_append_comm
      new := fun a ha => o.new a ((hm a).mpr ha)
      live := fun a ha => o.live a (by simp only [List.mem_append] at ha ⊢; rcases ha with z | z | z <;> simp [z])
      stack := by
        obtain ⟨l, a1, a2, a3, a4⟩ := o.stack
        exact ⟨l, a1, a2, fun b hb => by have := a3 b hb; simp only [List.mem_append] at this ⊢; rcases this with z | z | z <;> simp [z], a4⟩ }
  have okL := perm okCD
  have lessCD : Less (keys σ1 ++ (wr ++ fr)) (keys σ1 ++ (wr ++ ([C, D] ++ fr))) s2.heap := fun a ha => by
    rcases List.mem_append.mp ha with z | z
    · exact .inl (List.mem_append_left _ z)
    · rcases List.mem_append.mp z with z | z
      · exact .inl (List.mem_append_right _ (List.mem_append_left _ z))
      · rcases List.mem_append.mp z with z | z
        · rcases List.mem_cons.mp z with rfl | z
          · exact .inr noneC
          · rw [List.mem_singleton.mp z]; exact .inr noneD
        · exact .inl (List.mem_append_right _ (List.mem_append_right _ z))
  have stay23 : Stay (keys σ1 ++ (wr ++ fr)) s2.heap h3 := fun b o _ e => keep23 b o e
  -- the outer frame as it stands now
  have fm3 : Fm env m (wr ++ ([C, D] ++ fr)) (keys σ1 ++ (wr ++ ([C, D] ++ fr))) h3 := by
    have fa : Fm env m (wr ++ fr) (keys σ1 ++ (wr ++ fr)) h3 := Fm.move (s := s2) (s' := { s2 with heap := h3 }) fmw (Post.keeps (tk := s2.toks) keep23)
    have fb : Fm env m (wr ++ fr) (keys σ1 ++ (wr ++ ([C, D] ++ fr))) h3 := {
      kind := fmw.kind
      glob := fmw.glob
      bui := fmw.bui
      ns := by
        obtain ⟨mv, ⟨o, es, ep, g, r⟩, q⟩ := fmw.ns
        exact ⟨mv, ⟨o, es, ep, keep23 _ _ g, r⟩, fun x d e k => by obtain ⟨v, a, b⟩ := q x d e k; exact ⟨v, a, V.move stay23 lessCD _ _ b⟩⟩
      cell := fun x cc e => by
        obtain ⟨ov, ⟨o, g, r⟩, q⟩ := fmw.cell x cc e
        exact ⟨ov, ⟨o, keep23 _ _ g, r⟩, fun d e k => by obtain ⟨v, a, b⟩ := q d e k; exact ⟨v, a, V.move stay23 lessCD _ _ b⟩⟩
      has := fmw.has
      inn := fmw.inn
      apart := fmw.apart }
    exact fb.shift ⟨List.mem_append_right _ (List.mem_append_right _ fm.inn.1), fun q hq => List.mem_append_right _ (List.mem_append_right _ (fm.inn.2 q hq))⟩ (fun a ha => .inl ha)
  have hCcell : ∀ q ∈ env.cells, q.2 ≠ C := fun q hq z => by
    obtain ⟨o, e⟩ := ok1.live q.2 (fm.inn.2 q hq)
    rw [z, noneC] at e; cases e
  have hnsC : h3.Ns C fun _ => none := by simpa using hns3
  have fmC := fm3.comp (C := C) hkS (by simp) hnsC hnd hcell hfree' hCcell (fun x hx => by
    have : (x, NameKind.free) ∈ scope.names := by
      have : ∀ (l : List (Str × NameKind)), l.lookup x = some .free → (x, NameKind.free) ∈ l := by
        intro l
        induction l with
        | nil => intro h; cases h
        | cons p r ih =>
          obtain ⟨y, k⟩ := p
          intro h
          rw [List.lookup_cons] at h
          by_cases q : (x == y) = true
          · rw [q] at h; cases h; rw [beq_iff_eq.mp q]; exact List.mem_cons_self
          · simp only [q] at h; exact List.mem_cons_of_mem _ (ih h)
      exact this _ hx
    exact hfree _ this rfl)
  have st3 : St 0 (keys σ1 ++ (wr ++ ([C, D] ++ fr))) h3 := src.move _ _ _ _ _ st0 stay23 (fun b _ o e => keep23 b o e) lessCD
  have hnS : ∀ a ∈ wr ++ [C, D], s.heap.get? a = none := fun a ha => by
    rcases List.mem_append.mp ha with z | z
    · exact hn a z
    · refine none_back p1 ?_
      rcases List.mem_cons.mp z with rfl | z
      · exact noneC
      · rw [List.mem_singleton.mp z]; exact noneD
  generalize hce : compEnvC scope (closOf env scope.names []) C env = cenv at fmC
  have ce1 : cenv.scope = relab scope env.scope := by rw [← hce]; rfl
  have ce2 : cenv.locals = C := by rw [← hce]; rfl
  have ceq : ({ newEnv scope C env.globals (closOf env scope.names []) env.qual none Value.none (some env) builtinsNs with scope := relabel scope env } : Env) = cenv := by rw [← hce]; rfl
  have kindL : ∀ x, scope.names.lookup x = some .local → cenv.kindOf x = some .local := fun x hx => by rw [← hce]; exact lookup_relabel_local hx
  -- the loop
  have loop : ∀ s3 : Shared, s3 = { s2 with heap := h3, toks := s2.toks + ([] : List (Str × Value)).length } →
      codeAny (model c.prog c.w) A (.compLoop (.ListComp elt [⟨tg, iter, ifs, 0⟩] scope pos) 0 (.ref I) (.ref D) cenv) (compPost (model c.prog c.w) A E use Q (.ref D) C) s3 := by
    rintro s3 rfl
    generalize hs3 : ({ s2 with heap := h3, toks := s2.toks + ([] : List (Str × Value)).length } : Shared) = s3
    have h3e : s3.heap = h3 := by rw [← hs3]
    have p13 : Post [] fr σ s s3 σ1 := p1.trans (by rw [← hs3]; exact Post.keeps keep23)
    have ndw := okL.nd
    rw [List.nodup_append, List.nodup_append] at ndw
    have nfw : ∀ a ∈ [C, D] ++ fr, a ∉ wr := fun a ha hw => ndw.2.1.2.2 a hw a ha rfl
    have cin : cenv.locals ∈ [C, D] ++ fr ∧ ∀ q ∈ cenv.cells, q.2 ∈ [C, D] ++ fr := by
      refine ⟨by rw [ce2]; simp, fun q hq => ?_⟩
      rw [← hce] at hq
      have := (closOf_mem _ _ hq).resolve_left (by simp)
      exact List.mem_append_right _ (fm.inn.2 q (mem_of_lookup this))
    have cloc : cenv.locals ∉ wr ∧ ∀ q ∈ cenv.cells, q.2 ∉ wr := ⟨nfw _ cin.1, fun q hq => nfw _ (cin.2 q hq)⟩
    have hDfa : D ∉ Fa cenv := fun z => by
      rcases List.mem_cons.mp z with z | z
      · exact hCD (z ▸ ce2).symm
      · obtain ⟨q, hq, e⟩ := List.mem_map.mp z
        rw [← hce] at hq
        have := (closOf_mem _ _ hq).resolve_left (by simp)
        obtain ⟨o, g⟩ := ok1.live q.2 (fm.inn.2 q (mem_of_lookup this))
        rw [e, noneD] at g; cases g
    have hDwr : D ∉ wr := nfw D (by simp)
    have hcapt : ∀ (x : Vars), (∀ y ∈ x, scope.names.lookup y.1 = some .local) → ∀ z d, (capt scope m).lookup z = some d → (x ++ capt scope m).lookup z = some d := fun x hx z d e => by
      have hf := capt_free e
      rw [lookup_append_none (fun p hp q => by rw [← q, hx p hp] at hf; cases hf)]; exact e
    refine codeAny_compLoopT (fun k s' => ∃ i ds σ' vs n, k = vals.length + 1 - i ∧ i ≤ vals.length ∧ L i ds σ' ∧ Post (wr ++ [C, D]) (wr ++ ([C, D] ++ fr)) σ1 s3 s' σ' ∧ Ok c A (wr ++ ([C, D] ++ fr)) σ' s'.heap ∧
        Fm cenv (capt scope m) (wr ++ ([C, D] ++ fr)) (keys σ' ++ (wr ++ ([C, D] ++ fr))) s'.heap ∧ St i (keys σ' ++ (wr ++ ([C, D] ++ fr))) s'.heap ∧ s'.heap.get? D = some (lstObj vs n) ∧ Vs (keys σ' ++ (wr ++ ([C, D] ++ fr))) s'.heap ds vs)
      ?_ (vals.length + 1) ⟨0, [], σ1, [], 0, rfl, Nat.zero_le _, L0, Post.refl .., h3e ▸ okL, h3e ▸ fmC, h3e ▸ st3, h3e ▸ accD, Vs.nil⟩
    rintro k s' ⟨i, ds, σ', vs, n, rfl, hi, hL, pp, okk, fmk, stk, gD, vD⟩
    by_cases hlt : i < vals.length
    · obtain ⟨x, hx⟩ : ∃ x, vals[i]? = some x := ⟨vals[i], by simp [hlt]⟩
      have hxl := hkinds x (List.mem_of_getElem? hx)
      refine src.next i σ' ([C, D] ++ fr) s' _ _ hlt okk stk (LI _ _ _ hL).1 fun v h' tk hmid how => ?_
      have ok' : Ok c A (wr ++ ([C, D] ++ fr)) σ' h' := okk.ow (src.nodict _ _ _ stk) how
      have fm' : Fm cenv (capt scope m) (wr ++ ([C, D] ++ fr)) (keys σ' ++ (wr ++ ([C, D] ++ fr))) h' := fmk.ow (fun b hb => List.mem_append_right _ (List.mem_append_left _ hb)) cloc how
      have wide : ∀ a ∈ wr ++ [C], a ∈ wr ++ [C, D] := fun a ha => by
        rcases List.mem_append.mp ha with z | z
        · exact List.mem_append_left _ z
        · exact List.mem_append_right _ (List.mem_singleton.mp z ▸ List.mem_cons_self)
      have pp' := pp.trans ((Post.ow (F := [C]) (fr := [C, D] ++ fr) (σ := σ') (tk := tk) how).wide wide)
      have gD' : h'.get? D = some (lstObj vs n) := how.kept _ _ hDwr gD
      have stK : Stay (keys σ' ++ (wr ++ ([C, D] ++ fr))) s'.heap h' := fun b o nb e => how.kept b o (fun z => nb (List.mem_append_right _ (List.mem_append_left _ z))) e
      have vD' : Vs (keys σ' ++ (wr ++ ([C, D] ++ fr))) h' ds vs := Vs.move stK (fun a ha => .inl ha) _ _ vD
      refine src.put i σ' ([C, D] ++ fr) [C] cenv (capt scope m) v { s' with heap := h', toks := tk } _ _ x hx hmid ok' fm' cin (fun y hy => .inl (kindL _ (hxl y hy))) ⟨by rw [ce2]; simp, fun y hy k => by rw [kindL _ (hxl y hy)] at k; cases k⟩ (src.midnd _ _ _ _ hmid) fun h4 tk4 st4 fm4 ok4 p4 => ?_
      have pp4 := pp'.trans (p4.wide wide)
      have gD4 : h4.get? D = some (lstObj vs n) := by
        obtain ⟨sl, e1, r1⟩ := p4.slots D _ (by simp) (fun z => by
          rcases List.mem_append.mp z with z | z
          · exact hDwr z
          · exact hCD (List.mem_singleton.mp z).symm) gD'
        have := r1 (by intro es nn q; cases q)
        subst this; exact e1
      have vD4 := p4.vs vD'
      have fm4' := fm4.sub (m' := x ++ capt scope m) fun z d e => e
      refine wpAny_mono (Lturn i x ds σ' hx hL _ cenv ce1 _ ok4 fm4') (fun b s5 hx5 => ?_) fun _ _ y => y.no
      obtain ⟨b', σ5, p5, ok5, rfl, q5⟩ := hx5
      have fm5 : Fm cenv (x ++ capt scope m) (wr ++ ([C, D] ++ fr)) (keys σ5 ++ (wr ++ ([C, D] ++ fr))) s5.heap := Fm.move (s := { s' with heap := h4, toks := tk4 }) fm4' p5
      have pp5 := pp4.trans (p5.wide (F' := wr ++ [C, D]) (by simp))
      have keepD : ∀ {σa σb : Sto} {sa sb : Shared}, Post [] (wr ++ ([C, D] ++ fr)) σa sa sb σb → sa.heap.get? D = some (lstObj vs n) → sb.heap.get? D = some (lstObj vs n) := fun {σa σb sa sb} p g => by
        obtain ⟨sl, e1, r1⟩ := p.slots D _ (by simp) (by simp) g
        have := r1 (by intro es nn q; cases q)
        subst this; exact e1
      have keepW : ∀ {σa σb : Sto} {sa sb : Shared}, Post [] (wr ++ ([C, D] ++ fr)) σa sa sb σb → (∀ b ∈ wr, ∀ o, sa.heap.get? b = some o → ∀ es n, o.data ≠ .dict es n) → ∀ b ∈ wr, ∀ o, sa.heap.get? b = some o → sb.heap.get? b = some o := fun {σa σb sa sb} p hnd b hb o g => by
        obtain ⟨sl, e1, r1⟩ := p.slots b _ (List.mem_append_left _ hb) (by simp) g
        have := r1 (hnd b hb o g)
        subst this; exact e1
      have gD5 := keepD p5 gD4
      have vD5 := p5.vs vD4
      have st5 : St (i + 1) (keys σ5 ++ (wr ++ ([C, D] ++ fr))) s5.heap := src.move _ _ _ _ _ st4 p5.stay (keepW p5 (src.nodict _ _ _ st4)) p5.less
      cases b with
      | false =>
        simp only [Bool.false_eq_true, if_false] at q5 ⊢
        exact ⟨vals.length + 1 - (i + 1), by omega, i + 1, ds, σ5, vs, n, rfl, hlt, q5, pp5, ok5, fm5.sub (hcapt x hxl), st5, gD5, vD5⟩
      | true =>
        simp only [if_true] at q5 ⊢
        refine wpAny_mono (q5 s5 ok5 fm5) (fun y s6 hx6 => ?_) fun _ _ y => y.no
        obtain ⟨d, σ6, p6, ok6, v6, q6⟩ := hx6
        have fm6 := fm5.move p6
        have pp6 := pp5.trans (p6.wide (F' := wr ++ [C, D]) (by simp))
        have gD6 := keepD p6 gD5
        have vD6 := p6.vs vD5
        have st6 : St (i + 1) (keys σ6 ++ (wr ++ ([C, D] ++ fr))) s6.heap := src.move _ _ _ _ _ st5 p6.stay (keepW p6 (src.nodict _ _ _ st5)) p6.less
        have hlen : vs.length ≤ sizeLine := by rw [vD.length]; exact (LI _ _ _ hL).2
        refine wpAny_list_append_plain (hsz := by simpa using hlen) ⟨n, gD6⟩ fun h7 pl7 sb7 => ?_
        obtain ⟨n7, g7⟩ := pl7
        have g7' : h7.get? D = some (lstObj (vs ++ [y]) n7) := by simpa [lstObj] using g7
        have hDin : D ∈ wr ++ ([C, D] ++ fr) := by simp
        have ok7 : Ok c A (wr ++ ([C, D] ++ fr)) σ6 h7 := ok6.turn hDin sb7 g7' (by intro vs q; cases q) (fun ⟨o, es, nn, g, r⟩ => by rw [gD6] at g; cases g; cases r)
        have st67 : Stay (keys σ6 ++ (wr ++ ([C, D] ++ fr))) s6.heap h7 := fun b o nb e => (sb7.2 b fun (z : b = D) => nb (by rw [z]; exact List.mem_append_right _ hDin)).trans e
        have pp7 : Post (wr ++ [C, D]) (wr ++ ([C, D] ++ fr)) σ6 s6 { s6 with heap := h7 } σ6 := {
          shape := ⟨h7, s6.toks, rfl⟩
          kept := fun b o nb e => st67 b o nb e
          slots := fun b o hb nf e => ⟨o.slots, (sb7.2 b fun z => nf (z ▸ by simp)).trans e, fun _ => rfl⟩
          alive := fun b o e => by
            by_cases z : b = D
            · subst z; exact ⟨_, g7'⟩
            · exact ⟨o, (sb7.2 b z).trans e⟩
          grow := fun _ h => .inl h }
        have fm7 : Fm cenv (x ++ capt scope m) (wr ++ ([C, D] ++ fr)) (keys σ6 ++ (wr ++ ([C, D] ++ fr))) h7 := {
          kind := fm6.kind
          glob := fm6.glob
          bui := fm6.bui
          ns := by
            obtain ⟨mv, ⟨o, es, ep, g, r⟩, q⟩ := fm6.ns
            exact ⟨mv, ⟨o, es, ep, (sb7.2 _ (fun z => hDfa (z ▸ List.mem_cons_self))).trans g, r⟩, fun x d e k => by obtain ⟨v, a, b⟩ := q x d e k; exact ⟨v, a, V.move st67 (fun a ha => .inl ha) _ _ b⟩⟩
          cell := fun x cc e => by
            obtain ⟨ov, ⟨o, g, r⟩, q⟩ := fm6.cell x cc e
            exact ⟨ov, ⟨o, (sb7.2 _ (fun z => hDfa (z ▸ List.mem_cons_of_mem _ (List.mem_map_of_mem (f := (·.2)) (mem_of_lookup e))))).trans g, r⟩, fun d e k => by obtain ⟨v, a, b⟩ := q d e k; exact ⟨v, a, V.move st67 (fun a ha => .inl ha) _ _ b⟩⟩
          has := fm6.has
          inn := fm6.inn
          apart := fm6.apart }
        refine ⟨vals.length + 1 - (i + 1), by omega, i + 1, ds ++ [d], σ6, vs ++ [y], n7, rfl, hlt, q6, pp6.trans pp7, ok7, fm7.sub (hcapt x hxl), ?_, g7', ?_⟩
        · exact src.move _ _ _ _ _ st6 st67 (fun b hb o e => (sb7.2 b fun z => hDwr (z ▸ hb)).trans e) (fun a ha => .inl ha)
        · exact (Vs.move st67 (fun a ha => .inl ha) _ _ vD6).snoc (V.move st67 (fun a ha => .inl ha) _ _ v6)
    · obtain rfl : i = vals.length := by omega
      refine src.done σ' ([C, D] ++ fr) s' _ _ okk stk (LI _ _ _ hL).1 fun h' tk hk => ?_
      have hin' : ∀ l, A.frames = some l → ∀ b ∈ l.filterMap (·.frame), b ∈ [C, D] ++ fr := fun l hl b hb => List.mem_append_right _ (hin l hl b hb)
      have okf : Ok c A ([C, D] ++ fr) σ' h' := okk.fin hin' hk
      have stf : Stay (keys σ' ++ (wr ++ ([C, D] ++ fr))) s'.heap h' := fun b o nb e => hk b o (fun z => nb (List.mem_append_right _ (List.mem_append_left _ z))) e
      refine hend _ σ' ds D C { post := ?_, ok := okf, list := ⟨vs, n, hk _ _ hDwr gD, Vs.move stf (less_drop _ _) _ _ vD⟩, newa := hnS D (by simp), newC := hnS C (by simp), ns := ?_, frames := hin } (Lend _ _ hL)
      · have pd : Post [] fr σ s s' σ' := by
          refine Post.drop (wr := wr ++ [C, D]) p13 hnS ?_
          have e1 : (wr ++ [C, D]) ++ fr = wr ++ ([C, D] ++ fr) := by simp
          rw [e1]
          exact ⟨pp.shape, pp.kept, fun b o hb nf e => pp.slots b o hb (fun q => nf (by simpa using q)) e, pp.alive, pp.grow⟩
        exact pd.fin (wr := wr) hn (fun a ha => nfw a (List.mem_append_right _ ha)) hk
      · obtain ⟨mv, ⟨o, es, ep, g, r⟩, _⟩ := fmk.ns
        rw [ce2] at g
        exact ⟨mv, o, es, ep, hk _ _ (ce2 ▸ cloc.1) g, r⟩
  show codeAny (model c.prog c.w) A (.compStart (.ListComp elt [⟨tg, iter, ifs, 0⟩] scope pos) 0 (.ref I) (.ref D) { newEnv scope C env.globals (closOf env scope.names []) env.qual none Value.none (some env) builtinsNs with scope := relabel scope env }) _ _
  rw [ceq]
  exact codeAny_compStart_list (loop _ rfl) (src.self 0 _ _ _ _ st3 (loop _ rfl))
end
end Mine
set_option linter.unusedVariables false
set_option linter.unusedSimpArgs false
set_option autoImplicit false
namespace Mine
open PySem PySem.Calls PyProof.Rows

theorem Fm.fin {env : Env} {m : Vars} {fr wr : List Addr} {σ : Sto} {h h' : Heap} (f : Fm env m (wr ++ fr) (keys σ ++ (wr ++ fr)) h) (hi : env.locals ∈ fr ∧ ∀ p ∈ env.cells, p.2 ∈ fr) (hn : env.locals ∉ wr ∧ ∀ p ∈ env.cells, p.2 ∉ wr) (k : ∀ b o, b ∉ wr → h.get? b = some o → h'.get? b = some o) : Fm env m fr (keys σ ++ fr) h' := by
  have st : Stay (keys σ ++ (wr ++ fr)) h h' := fun b o n e => k b o (fun z => n (List.mem_append_right _ (List.mem_append_left _ z))) e
  exact {
    kind := f.kind
    glob := f.glob
    bui := f.bui
    ns := by
      obtain ⟨mv, ⟨o, es, ep, g, r⟩, q⟩ := f.ns
      exact ⟨mv, ⟨o, es, ep, k _ _ hn.1 g, r⟩, fun x d e k => by obtain ⟨v, a, b⟩ := q x d e k; exact ⟨v, a, V.move st (less_drop _ _) _ _ b⟩⟩
    cell := fun x cc e => by
      obtain ⟨ov, ⟨o, g, r⟩, q⟩ := f.cell x cc e
      exact ⟨ov, ⟨o, k _ _ (hn.2 _ (mem_of_lookup e)) g, r⟩, fun d e k => by obtain ⟨v, a, b⟩ := q d e k; exact ⟨v, a, V.move st (less_drop _ _) _ _ b⟩⟩
    has := f.has
    inn := hi
    apart := f.apart }

theorem Ok.ref {c : Cx} {A : Around} {fr : List Addr} {σ : Sto} {h : Heap} {a : Addr} {ds : List D} {vs : List Value} {n : Nat} (ok : Ok c A ([a] ++ fr) σ h) (hin : ∀ l, A.frames = some l → ∀ b ∈ l.filterMap (·.frame), b ∈ fr) (g : h.get? a = some (lstObj vs n)) (hv : Vs (keys σ ++ ([a] ++ fr)) h ds vs) : Ok c A fr ((a, .lst ds) :: σ) h := by
  have mem : ∀ b, b ∈ keys ((a, O.lst ds) :: σ) ++ fr ↔ b ∈ keys σ ++ ([a] ++ fr) := fun b => by
    simp only [keys, List.map_cons, List.cons_append, List.mem_cons, List.mem_append, List.nil_append]
    constructor <;> (intro z; rcases z with z | z | z <;> simp [z])
  have nd := ok.nd
  have ok1 : Ok c A fr σ h := Ok.less (ex := []) (wr := [a]) ok hin
  exact {
    base := ok.base
    sto := fun p hp => by
      rcases List.mem_cons.mp hp with rfl | hp
      · exact ⟨vs, n, g, Vs.move (fun _ _ _ e => e) (fun b hb => .inl ((mem b).mp hb)) _ _ hv⟩
      · exact IsO.move (fun _ _ _ e => e) (fun b hb => .inl ((mem b).mp hb)) (fun _ e => e) (ok.sto p hp)
    nd := by
      refine (List.Perm.nodup_iff ?_).mp nd
      show (keys σ ++ ([a] ++ fr)).Perm (a :: (keys σ ++ fr))
      simp
    new := fun b hb => ok.new b ((mem b).mp hb)
    live := ok1.live
    stack := ok1.stack }

section
variable {c : Cx} {A : Around} {fr : List Addr} {σ : Sto} {X : Addr → Sto → Prop} {env : Env} {m : Vars}

def QL (Q : D → Sto → Prop) (ds : List D) (σ : Sto) : Prop := Q (.lst ds) σ ∨ ∀ a, a ∉ keys σ → Q (.ref a) ((a, .lst ds) :: σ)

theorem QL.use {G : Option Env} {Q : D → Sto → Prop} {ds : List D} {σ' : Sto} {s s' : Shared} {a : Addr} {vs : List Value} {n : Nat} (q : QL Q ds σ') (p : Post (Fo G) fr σ s s' σ') (ok : Ok c A ([a] ++ fr) σ' s'.heap) (hin : ∀ l, A.frames = some l → ∀ b ∈ l.filterMap (·.frame), b ∈ fr)
    (g : s'.heap.get? a = some (lstObj vs n)) (hv : Vs (keys σ' ++ ([a] ++ fr)) s'.heap ds vs) (hn : s.heap.get? a = none) : ∃ d σ'', Post (Fo G) fr σ s s' σ'' ∧ Ok c A fr σ'' s'.heap ∧ V (keys σ'' ++ fr) s'.heap d (.ref a) ∧ Q d σ'' := by
  have nd := ok.nd
  rw [List.nodup_append, List.nodup_append] at nd
  have hk : a ∉ keys σ' := fun z => nd.2.2 a z a (by simp) rfl
  have hf : a ∉ fr := fun z => nd.2.1.2.2 a (by simp) a z rfl
  rcases q with q | q
  · refine ⟨.lst ds, σ', p, Ok.less (ex := []) (wr := [a]) ok hin, ?_, q⟩
    unfold V
    exact ⟨a, vs, n, rfl, fun z => (List.mem_append.mp z).elim hk hf, g, Vs.move (fun _ _ _ e => e) (less_drop _ _) _ _ hv⟩
  · refine ⟨.ref a, (a, .lst ds) :: σ', ⟨p.shape, p.kept, p.slots, p.alive, fun b hb => ?_⟩, Ok.ref ok hin g hv, by unfold V; rfl, q a hk⟩
    rcases List.mem_cons.mp hb with rfl | hb
    · exact .inr hn
    · exact p.grow b hb

def Turns (c : Cx) (A : Around) (env : Env) (m : Vars) (scope : Scope) (ifs : List Expr) (elt : Expr) (Z : List D → Sto → Prop) (vals : List Vars) (Inv : Sto → Prop) (σ1 : Sto) : Prop :=
  (∀ x ∈ vals, ∀ y ∈ x, scope.names.lookup y.1 = some .local) ∧ ∃ L : Nat → List D → Sto → Prop, L 0 [] σ1 ∧
      (∀ k ds σ', L k ds σ' → Inv σ' ∧ ds.length ≤ sizeLine) ∧
      (∀ k x ds σ', vals[k]? = some x → L k ds σ' → ∀ fr' cenv, cenv.scope = relab scope env.scope → WIfs c A fr' cenv (x ++ capt scope m) σ' ifs (fun b σ2 => if b = true then WE c A fr' cenv (x ++ capt scope m) σ2 elt (fun d σ3 => L (k + 1) (ds ++ [d]) σ3) NoX else L (k + 1) ds σ2) NoX) ∧
      ∀ ds σ', L vals.length ds σ' → Z ds σ'

def freeOk (scope sc : Scope) : Bool := scope.names.all fun y => y.2 != .free || (sc.names.lookup y.1 == some .cell || sc.names.lookup y.1 == some .free)
def compOk (scope : Scope) : Bool := scope.kind == .function && decide (scope.names.map (·.1)).Nodup && scope.names.all fun y => y.2 != .cell
theorem compOk_kind {scope : Scope} (h : compOk scope = true) : scope.kind = .function ∧ (scope.names.map (·.1)).Nodup ∧ ∀ y ∈ scope.names, y.2 ≠ .cell := by
  unfold compOk at h
  simp only [Bool.and_eq_true, beq_iff_eq, decide_eq_true_eq, List.all_eq_true, bne_iff_ne, ne_eq] at h
  exact ⟨h.1.1, h.1.2, h.2⟩
theorem freeOk_all {scope : Scope} {env : Env} (h : freeOk scope env.scope = true) : ∀ y ∈ scope.names, y.2 = .free → env.kindOf y.1 = some .cell ∨ env.kindOf y.1 = some .free := fun y hy hf => by
  unfold freeOk at h
  rw [List.all_eq_true] at h
  have := h y hy
  simp only [hf, bne_self_eq_false, Bool.false_or, Bool.or_eq_true, beq_iff_eq] at this
  exact this

theorem WE.comp {tg iter elt : Expr} {ifs : List Expr} {scope : Scope} {pos : Pos} {Q : D → Sto → Prop} (h : WIt c A fr env m σ iter tg (Turns c A env m scope ifs elt (QL Q)) X) (h1 : compOk scope = true) (h2 : freeOk scope env.scope = true) (hs : ∀ x, foldedSetIterable iter env x = pure x := by intro _; rfl) :
    WE c A fr env m σ (.ListComp elt [⟨tg, iter, ifs, 0⟩] scope pos) Q X := fun s ok fm => by
  obtain ⟨k1, k2, k3⟩ := compOk_kind h1
  unfold W
  rw [eval_ListComp]
  refine comp_core (use := none) ok fm k1 k2 k3 (freeOk_all h2) (fun _ _ x => x) h (fun s' σ' ds a C fin q => ?_) hs
  obtain ⟨mv, hns⟩ := fin.ns
  refine ⟨mv, hns, fun h' sb => ?_⟩
  have nd := fin.ok.nd
  rw [List.nodup_append, List.nodup_append] at nd
  have hCa : C ≠ a := by have := nd.2.1.1; simp at this; exact this
  have hCf : ∀ b ∈ [a] ++ fr, b ∉ [C] := fun b hb z => by
    rw [List.mem_singleton.mp z] at hb
    rcases List.mem_append.mp hb with z | z
    · exact hCa (List.mem_singleton.mp z)
    · exact nd.2.1.2.2 C (by simp) C z rfl
  have kk : ∀ b o, b ∉ [C] → s'.heap.get? b = some o → h'.get? b = some o := fun b o nb e => (sb.2 b (fun z => nb (by simp [z]))).trans e
  have hin' : ∀ l, A.frames = some l → ∀ b ∈ l.filterMap (·.frame), b ∈ [a] ++ fr := fun l hl b hb => List.mem_append_right _ (fin.frames l hl b hb)
  have oka : Ok c A ([a] ++ fr) σ' h' := Ok.fin (wr := [C]) (fr := [a] ++ fr) fin.ok hin' kk
  obtain ⟨vs, n, g, hv⟩ := fin.list
  have hv' : Vs (keys σ' ++ ([a] ++ fr)) h' ds vs := Vs.move (K := keys σ' ++ ([C, a] ++ fr)) (fun b o nb e => kk b o (fun z => nb (by rw [List.mem_singleton.mp z]; simp)) e) (less_drop (wr := [C]) (fr := [a] ++ fr) _ _) _ _ hv
  have pf : Post [] fr σ s { s' with heap := h', toks := s'.toks } σ' := fin.post.fin (wr := [C]) (fun b hb => by rw [List.mem_singleton.mp hb]; exact fin.newC) (fun b hb => hCf b (List.mem_append_right _ hb)) kk
  exact QL.use (G := none) (s' := { s' with heap := h', toks := s'.toks }) q pf oka fin.frames (kk _ _ (fun z => hCa (List.mem_singleton.mp z).symm) g) hv' fin.newa

set_option maxHeartbeats 1000000 in
theorem W1.assignComp {x : Str} {pos' pos : Pos} {tg iter elt : Expr} {ifs : List Expr} {scope : Scope} {cpos : Pos} {N : Vars → Sto → Prop} {R : D → Sto → Prop} (h : WIt c A fr env m σ iter tg (Turns c A env m scope ifs elt (QL fun d σ' => N ((x, d) :: m) σ')) X) (h1 : compOk scope = true) (h2 : freeOk scope env.scope = true)
    (hk : env.kindOf x = some .local) (hsw : swapsWith (.ListComp elt [⟨tg, iter, ifs, 0⟩] scope cpos) (some (.Name x pos')) pos.line env = pure true) (hs : ∀ x, foldedSetIterable iter env x = pure x := by intro _; rfl) :
    W1 c A fr env m σ (.Assign [.Name x pos'] (.ListComp elt [⟨tg, iter, ifs, 0⟩] scope cpos) pos) N R X := fun s ok fm => by
  obtain ⟨k1, k2, k3⟩ := compOk_kind h1
  unfold W
  rw [exec_Assign_Name_used (hs := hsw)]
  refine wpAny_bind (wpAny_standAt (wpAny_bind ?_))
  show wpAny _ A (do let _ ← comprehension (.ListComp elt [⟨tg, iter, ifs, 0⟩] scope cpos) scope env _ (newList []) false (eval iter env) (some (PySem.assign (.Name x pos') env))) _ _ s
  refine wpAny_bind (wpAny_mono (comp_core (use := some (PySem.assign (.Name x pos') env)) (E := Ex c A (some env) fr σ s false X) (Q := fun _ s' => ∃ b σ', Post (Fa env) fr σ s s' σ' ∧ Ok c A fr σ' s'.heap ∧ RO env fr (keys σ' ++ fr) s'.heap b .next ∧ QO N R b σ') ok fm k1 k2 k3 (freeOk_all h2) (fun _ _ x => x.wide fm) h (fun s' σ' ds a C fin q => ?_) hs) (fun _ s' hq => wpAny_pure (wpAny_pure hq)) fun _ _ e => e)
  have nd := fin.ok.nd
  rw [List.nodup_append, List.nodup_append] at nd
  have hCa : C ≠ a := by have := nd.2.1.1; simp at this; exact this
  have hCf : C ∉ fr := fun z => nd.2.1.2.2 C (by simp) C z rfl
  have haf : a ∉ fr := fun z => nd.2.1.2.2 a (by simp) a z rfl
  have hak : a ∉ keys σ' := fun z => nd.2.2 a z a (by simp) rfl
  have hCk : C ∉ keys σ' := fun z => nd.2.2 C z C (by simp) rfl
  obtain ⟨vs, n, g, hv⟩ := fin.list
  -- without the list's own place
  have perm : Ok c A ([a] ++ ([C] ++ fr)) σ' s'.heap := by
    have o := fin.ok
    have hm : ∀ b, b ∈ keys σ' ++ ([C, a] ++ fr) ↔ b ∈ keys σ' ++ ([a] ++ ([C] ++ fr)) := fun b => by
      simp only [List.mem_append, List.mem_cons, List.not_mem_nil, or_false]
      constructor
      · rintro (z | (z | z) | z)
        · exact .inl z
        · exact .inr (.inr (.inl z))
        · exact .inr (.inl z)
        · exact .inr (.inr (.inr z))
      · rintro (z | z | z | z)
        · exact .inl z
        · exact .inr (.inl (.inr z))
        · exact .inr (.inl (.inl z))
        · exact .inr (.inr z)
    exact {
      base := o.base
      sto := fun p hp => IsO.move (fun _ _ _ e => e) (fun b hb => .inl ((hm b).mpr hb)) (fun _ e => e) (o.sto p hp)
      nd := by
        refine (List.Perm.nodup_iff ?_).mp o.nd
        refine List.Perm.append_left _ ?_
        exact List.Perm.swap _ _ _
      new := fun b hb => o.new b ((hm b).mpr hb)
      live := fun b hb => o.live b (by simp only [List.mem_append, List.mem_cons, List.not_mem_nil, or_false] at hb ⊢; rcases hb with z | z | z <;> simp_all)
      stack := by
        obtain ⟨l, a1, a2, a3, a4⟩ := o.stack
        exact ⟨l, a1, a2, fun b hb => List.mem_append_right _ (List.mem_append_right _ (fin.frames l a1 b hb)), a4⟩ }
  have hin1 : ∀ l, A.frames = some l → ∀ b ∈ l.filterMap (·.frame), b ∈ [C] ++ fr := fun l hl b hb => List.mem_append_right _ (fin.frames l hl b hb)
  have hv1 : Vs (keys σ' ++ ([a] ++ ([C] ++ fr))) s'.heap ds vs := Vs.move (fun _ _ _ e => e) (fun b hb => .inl (by simp only [List.mem_append, List.mem_cons, List.not_mem_nil, or_false] at hb ⊢; rcases hb with z | z | z | z <;> simp_all)) _ _ hv
  have p1 : Post [] ([C] ++ fr) σ s s' σ' := {
    shape := fin.post.shape
    kept := fun b o nb e => fin.post.kept b o (fun z => nb (by rcases List.mem_append.mp z with z | z <;> simp_all)) e
    slots := fun b o hb nf e => by
      rcases List.mem_append.mp hb with z | z
      · rw [List.mem_singleton.mp z, fin.newC] at e; cases e
      · exact fin.post.slots b o z nf e
    alive := fin.post.alive
    grow := fin.post.grow }
  obtain ⟨d, σ2, p2, ok2, v2, q2⟩ := QL.use (G := none) (fr := [C] ++ fr) q p1 perm hin1 g hv1 fin.newa
  have fm0 : Fm env m ([C] ++ fr) (keys σ ++ ([C] ++ fr)) s.heap := fm.shift ⟨List.mem_append_right _ fm.inn.1, fun q hq => List.mem_append_right _ (fm.inn.2 q hq)⟩ (less_add fun b hb => by rw [List.mem_singleton.mp hb]; exact fin.newC)
  have fm2 := fm0.move p2
  show wpAny _ A (PySem.assign (.Name x pos') env (.ref a)) _ _ _
  refine wpAny_assign_Name (wpAny_mono (W.store (X := NoX) ok2 fm2 v2 (.inl hk)) (fun _ s3 hx => ?_) fun _ _ y => y.no.elim)
  obtain ⟨_, σ3, p3, ok3, fm3, rfl⟩ := hx
  have hloc : env.locals ∉ [C] ∧ ∀ q ∈ env.cells, q.2 ∉ [C] := ⟨fun z => hCf (List.mem_singleton.mp z ▸ fm.inn.1), fun q hq z => hCf (List.mem_singleton.mp z ▸ fm.inn.2 q hq)⟩
  obtain ⟨mv, hns⟩ := fin.ns
  have hnsC : ∃ mv, s3.heap.Ns C mv := by
    obtain ⟨o, es, ep, gC, r⟩ := hns
    obtain ⟨sl, e1, _⟩ := p3.slots C o (by simp) (fun z => by
      rcases List.mem_cons.mp z with z | z
      · exact hCf (z ▸ fm.inn.1)
      · obtain ⟨q, hq, e⟩ := List.mem_map.mp z; exact hCf (e ▸ fm.inn.2 q hq)) gC
    exact ⟨mv, _, es, ep, e1, r⟩
  obtain ⟨mv3, hns3⟩ := hnsC
  refine ⟨mv3, hns3, fun h' sb => ?_⟩
  have kk : ∀ b o, b ∉ [C] → s3.heap.get? b = some o → h'.get? b = some o := fun b o nb e => (sb.2 b (fun z => nb (by simp [z]))).trans e
  have p02 : Post (Fa env) ([C] ++ fr) σ s s3 σ3 := (p2.wide (by simp)).trans p3
  have p03 : Post (Fa env) fr σ s s3 σ3 := {
    shape := p02.shape
    kept := fun b o nb e => p02.kept b o (fun z => by
      rcases List.mem_append.mp z with z | z
      · exact nb (List.mem_append_left _ z)
      · rcases List.mem_append.mp z with z | z
        · rw [List.mem_singleton.mp z, fin.newC] at e; cases e
        · exact nb (List.mem_append_right _ z)) e
    slots := fun b o hb nf e => p02.slots b o (List.mem_append_right _ hb) nf e
    alive := p02.alive
    grow := p02.grow }
  refine ⟨.next _, σ3, p03.fin (wr := [C]) (tk := s3.toks) (fun b hb => by rw [List.mem_singleton.mp hb]; exact fin.newC) (fun b hb z => hCf (List.mem_singleton.mp z ▸ hb)) kk, Ok.fin ok3 fin.frames kk, ⟨rfl, fm3.fin fm.inn hloc kk⟩, q2⟩
end
end Mine
set_option linter.unusedVariables false
set_option linter.unusedSimpArgs false
set_option autoImplicit false
namespace Mine
open PySem PySem.Calls PyProof.Rows

section
variable {c : Cx} {A : Around} {fr : List Addr} {σ : Sto} {X : Addr → Sto → Prop} {env : Env} {m : Vars}

theorem store_fine {x : Str} {d : D} {v : Value} {s : Shared} {F : List Addr} {Q : Unit → Shared → Prop} {E : Value → Shared → Prop} (ok : Ok c A fr σ s.heap) (f : Fm env m fr (keys σ ++ fr) s.heap) (hV : V (keys σ ++ fr) s.heap d v) (hk : env.kindOf x = some .local ∨ env.kindOf x = some .cell)
    (hF : (env.kindOf x = some .local → env.locals ∈ F) ∧ (env.kindOf x = some .cell → ∀ cc, env.cells.lookup x = some cc → cc ∈ F))
    (h : ∀ h' tk, Fm env ((x, d) :: m) fr (keys σ ++ fr) h' → Ok c A fr σ h' → Post F fr σ s { s with heap := h', toks := tk } σ → Q () { s with heap := h', toks := tk }) : wpAny (model c.prog c.w) A (storeName env x v) Q E s := by
  have hK : ∀ b ∈ fr, b ∈ keys σ ++ fr := fun b hb => List.mem_append_right _ hb
  have post : ∀ {a : Addr} {oa : Obj} {h' : Heap} {tk : Nat}, a ∈ F → a ∈ fr → Heap.SameBut a s.heap h' → h'.get? a = some oa → Post F fr σ s { s with heap := h', toks := tk } σ := fun {a oa h' tk} haF haf sb e =>
    ⟨⟨h', tk, rfl⟩, fun b o n g => (sb.2 b fun q => n (q ▸ List.mem_append_right _ haf)).trans g, fun b o _ n g => ⟨o.slots, (sb.2 b fun q => n (q ▸ haF)).trans g, fun _ => rfl⟩,
      fun b o g => by
        by_cases q : b = a
        · subst q; exact ⟨_, e⟩
        · exact ⟨o, (sb.2 b q).trans g⟩, fun _ m => .inl m⟩
  rcases hk with hk | hk
  · obtain ⟨mv, hn, r⟩ := f.ns
    refine wpAny_storeName_local hk hn (fun h' hn' sb => ?_) (by rw [f.kind]; rfl)
    obtain ⟨o, es, ep, e, hd, _⟩ := id hn'
    exact h h' _ (f.storeL hK r hn' sb hV hk) (ok.turn f.inn.1 sb e (fun vs => by rw [hd]; intro q; cases q) (fun _ => ⟨o, es, ep, e, hd⟩)) (post (hF.1 hk) f.inn.1 sb e)
  · obtain ⟨cc, hcc⟩ := f.has x (.inl hk)
    obtain ⟨ov, hc, _⟩ := f.cell x cc hcc
    refine wpAny_storeName_cell f.kind hk hcc hc fun h' hc' sb => ?_
    obtain ⟨o, e, hd⟩ := id hc'
    have hin := mem_of_lookup hcc
    exact h h' s.toks (f.storeC hK hcc hc' sb hV hk) (ok.turn (f.inn.2 _ hin) sb e (fun vs => by rw [hd]; intro q; cases q) (fun z => by
      obtain ⟨o1, es, n, g1, d1⟩ := z
      obtain ⟨o2, g2, d2⟩ := hc
      rw [g1] at g2; cases g2; rw [d1] at d2; cases d2)) (post (hF.2 hk cc hcc) (f.inn.2 _ hin) sb e)

def tight (env : Env) (x : Str) : List Addr := if env.kindOf x = some .cell then (match env.cells.lookup x with | some cc => [cc] | none => []) else [env.locals]
theorem tight_mem {env : Env} {x : Str} {a : Addr} (h : a ∈ tight env x) : a = env.locals ∨ (env.kindOf x = some .cell ∧ env.cells.lookup x = some a) := by
  unfold tight at h
  split at h
  · rename_i k
    split at h
    · rename_i cc e; exact .inr ⟨k, by rw [List.mem_singleton.mp h]; exact e⟩
    · cases h
  · exact .inl (List.mem_singleton.mp h)
theorem tight_ok {env : Env} {x : Str} : (env.kindOf x = some .local → env.locals ∈ tight env x) ∧ (env.kindOf x = some .cell → ∀ cc, env.cells.lookup x = some cc → cc ∈ tight env x) := by
  unfold tight
  refine ⟨fun k => ?_, fun k cc e => ?_⟩
  · rw [if_neg (by rw [k]; decide)]; simp
  · rw [if_pos k, e]; simp

theorem letOwned_Name {x : Str} {px : Pos} {it v : Value} : letOwnedTupleGo (.Name x px) it v = pure () := rfl

theorem Src.ofWalks {x : Str} {px : Pos} {I : Addr} {fp : List Addr} {n : Nat} {P : Nat → Value → Prop} {St : Nat → Heap → Prop} {ds : List D} {J : List Addr → Heap → Prop} (W : Walks c.prog c.w A I fp [I] n P St) (hlen : ds.length = n)
    (hlive : ∀ i h, St i h → ∃ o vs, h.get? I = some o ∧ o.data = .fields vs)
    (jmove : ∀ K K' h h', J K h → Stay K h h' → Less K K' h → J K' h') (jv : ∀ K h i v, i < n → J K h → P i v → ∃ d, ds[i]? = some d ∧ V K h d v) (jfp : ∀ K h, J K h → ∀ b ∈ fp, b = I ∨ b ∉ K) :
    Src c A (.Name x px) I [I] (ds.map fun d => [(x, d)]) (fun _ => True) (fun i K h => St i h ∧ J K h) (fun i K h v => St (i + 1) h ∧ J K h ∧ ∃ d, ds[i]? = some d ∧ V K h d v) where
  nodict := fun i K h st b hb o g es n e => by
    obtain ⟨o', vs, g', d'⟩ := hlive i h st.1
    rw [List.mem_singleton.mp hb, g'] at g; cases g; rw [d'] at e; cases e
  midnd := fun i K h v st b hb o g es n e => by
    obtain ⟨o', vs, g', d'⟩ := hlive _ h st.1
    rw [List.mem_singleton.mp hb, g'] at g; cases g; rw [d'] at e; cases e
  move := fun i K K' h h' st sy hw hl => ⟨W.frame i h h' st.1 fun b hb o e => by
      rcases jfp K h st.2 b hb with z | z
      · exact hw b (by simp [z]) o e
      · exact sy b o z e, jmove _ _ _ _ st.2 sy hl⟩
  next := fun i σ fr s Q E hi ok st _ hQ => by
    refine W.item i s Q E (by simpa [hlen] using hi) st.1 fun v h' tk hP st' hk => ?_
    have ow : Ow [I] s.heap h' := ⟨fun b o nb e => hk b o nb e, fun b hb => by obtain ⟨o, vs, g, _⟩ := hlive _ _ st'; rw [List.mem_singleton.mp hb]; exact ⟨o, g⟩⟩
    have j' : J (keys σ ++ ([I] ++ fr)) h' := jmove _ _ _ _ st.2 (fun b o nb e => hk b o (fun z => nb (by rw [List.mem_singleton.mp z]; simp)) e) (fun a ha => .inl ha)
    exact hQ v h' tk ⟨st', j', jv _ _ _ _ (by simpa [hlen] using hi) j' hP⟩ ow
  put := fun i σ fr F env m v s Q E y hy mid ok fm hi hkind hF hnd hQ => by
    obtain ⟨st, j, d, hd, hV⟩ := mid
    have hy' : y = [(x, d)] := by
      rw [List.getElem?_map, hd] at hy; exact (Option.some.inj hy).symm
    subst hy'
    rw [letOwned_Name]
    refine wpAny_pure (wpAny_assign_Name ?_)
    have ndw := ok.nd
    rw [List.nodup_append, List.nodup_append] at ndw
    have nI : ∀ a ∈ fr, a ≠ I := fun a ha z => ndw.2.1.2.2 I (by simp) a ha z.symm
    have hF0 : ∀ a ∈ tight env x, a ≠ I := fun a ha => by
      rcases tight_mem ha with z | ⟨_, e⟩
      · rw [z]; exact nI _ hi.1
      · exact nI _ (hi.2 _ (mem_of_lookup e))
    refine store_fine (F := tight env x) ok fm hV (hkind (x, d) (by simp)) tight_ok fun h' tk fm' ok' p' => ?_
    have gI : ∀ o, s.heap.get? I = some o → h'.get? I = some o := fun o e => by
      obtain ⟨sl, e1, r1⟩ := p'.slots I o (by simp) (fun z => hF0 I z rfl) e
      have := r1 (hnd I (by simp) o e)
      subst this; exact e1
    refine hQ h' tk ⟨W.frame _ _ _ st fun b hb o e => ?_, jmove _ _ _ _ j p'.stay p'.less⟩ fm' ok' (p'.wide fun a ha => ?_)
    · rcases jfp _ _ j b hb with z | z
      · subst z; exact gI o e
      · exact p'.stay b o z e
    · rcases tight_mem ha with z | ⟨k, e⟩
      · rw [z]; exact List.mem_append_right _ hF.1
      · exact List.mem_append_right _ (hF.2 (x, d) (by simp) k _ e)
  done := fun σ fr s Q E ok st _ hQ => by
    have e : (ds.map fun d => [(x, d)]).length = n := by simp [hlen]
    rw [e] at st
    exact W.done s Q E st.1 fun h' tk hk => hQ h' tk hk
  self := fun i K s Q E st hQ => W.self i s Q E st.1 hQ

def SP (c : Cx) (A : Around) (fr : List Addr) (σ : Sto) (tg : Expr) (Q : List Vars → (Sto → Prop) → Sto → Prop) (s : Shared) (it : Value) (s2 : Shared) : Prop :=
  ∃ I wr vals Inv St Mid, it = .ref I ∧ (∃ h tk, s2 = { s with heap := h, toks := tk }) ∧ (∀ b o, s.heap.get? b = some o → s2.heap.get? b = some o) ∧ (∀ a ∈ wr, s.heap.get? a = none) ∧ (∀ a ∈ wr, ∃ o, s2.heap.get? a = some o) ∧ wr.Nodup ∧
      Src c A tg I wr vals Inv St Mid ∧ St 0 (keys σ ++ (wr ++ fr)) s2.heap ∧ Inv σ ∧ Q vals Inv σ
def WIv (c : Cx) (A : Around) (fr : List Addr) (env : Env) (m : Vars) (σ : Sto) (d : D) (tg : Expr) (Q : List Vars → (Sto → Prop) → Sto → Prop) : Prop :=
  ∀ v s (E : Value → Shared → Prop), Ok c A fr σ s.heap → Fm env m fr (keys σ ++ fr) s.heap → V (keys σ ++ fr) s.heap d v →
    wpAny (model c.prog c.w) A (pyIter v) (SP c A fr σ tg Q s) E s

theorem SP.it {tg : Expr} {Q : List Vars → (Sto → Prop) → Sto → Prop} {σ1 : Sto} {s s1 s2 : Shared} {it : Value} (fm : Fm env m fr (keys σ ++ fr) s.heap) (p1 : Post [] fr σ s s1 σ1) (ok1 : Ok c A fr σ1 s1.heap) (hx : SP c A fr σ1 tg Q s1 it s2) :
    ∃ I wr vals Inv St Mid σ', it = .ref I ∧ Post [] fr σ s s2 σ' ∧ Ok c A fr σ' s2.heap ∧ Ok c A (wr ++ fr) σ' s2.heap ∧ (∀ a ∈ wr, s.heap.get? a = none) ∧
      Fm env m (wr ++ fr) (keys σ' ++ (wr ++ fr)) s2.heap ∧ Src c A tg I wr vals Inv St Mid ∧ St 0 (keys σ' ++ (wr ++ fr)) s2.heap ∧ Inv σ' ∧ Q vals Inv σ' := by
  have fm1 := fm.move p1
  obtain ⟨I, wr, vals, Inv, St, Mid, rfl, ⟨h2, tk2, rfl⟩, hk, hn, hl, nd, src, st0, inv, q⟩ := hx
  have p2 : Post [] fr σ1 s1 { s1 with heap := h2, toks := tk2 } σ1 := Post.keeps hk
  refine ⟨I, wr, vals, Inv, St, Mid, σ1, rfl, p1.trans p2, ok1.keeps hk, ok1.more hk hn hl nd, fun a ha => none_back p1 (hn a ha), ?_, src, st0, inv, q⟩
  have f2 : Fm env m (wr ++ fr) (keys σ1 ++ (wr ++ fr)) s1.heap := fm1.shift ⟨List.mem_append_right _ fm1.inn.1, fun q hq => List.mem_append_right _ (fm1.inn.2 q hq)⟩ (less_add hn)
  exact Fm.move (s := s1) (s' := { s1 with heap := h2, toks := tk2 }) f2 (Post.keeps hk)

theorem WIt.of {iter tg : Expr} {Q : List Vars → (Sto → Prop) → Sto → Prop} (h : WE c A fr env m σ iter (fun d σ1 => WIv c A fr env m σ1 d tg Q) X) : WIt c A fr env m σ iter tg Q X := fun s ok fm => by
  refine wpAny_mono (h s ok fm) (fun x s1 ⟨d, σ1, p1, ok1, v1, q1⟩ => ?_) fun _ _ x => x
  exact wpAny_mono (q1 x s1 _ ok1 (fm.move p1) v1) (fun it s2 hx => hx.it fm p1 ok1) fun _ _ x => x

theorem WIt.callT (g : c.Good) {f : Str} {fp pos : Pos} {args : List Expr} {T : String} {tg : Expr} {Q : List Vars → (Sto → Prop) → Sto → Prop} (hk : env.kindOf f = some .globalImplicit) (hg : c.mg f = none) (hb : c.mb f = some (.type T))
    (h : WA c A fr env m σ args (fun ds σ1 => ∀ s vals (E : Value → Shared → Prop), Ok c A fr σ1 s.heap → Fm env m fr (keys σ1 ++ fr) s.heap → Vs (keys σ1 ++ fr) s.heap ds vals → wpAny (model c.prog c.w) A (call (.type T) vals) (fun x s1 => wpAny (model c.prog c.w) A (pyIter x) (SP c A fr σ1 tg Q s) E s1) E s) X)
    (hp : plainArgs args = true := by rfl) (hdb : (f == ("__debug__" : Str)) = false := by decide) : WIt c A fr env m σ (.Call (.Name f fp) args [] pos) tg Q X := fun s ok fm => by
  rw [eval_Call_Name]
  refine wpAny_bind (Name_function_global fm.kind hk (loadGlobal_builtin (by rw [fm.glob]; exact g.g.keeps ok.base) hg (by rw [fm.bui]; exact g.b.keeps ok.base) hb ?_) hdb)
  refine PySem.callWith_type (by
    have := plainArgs_starEach (env := env) (pos := pos) hp
    rw [List.any_eq_false]; intro x hx; simp [this x hx]) (wpAny_evalArgs (plainArgs_starEach hp) (wpAny_mono (h pos s ok fm) (fun vs s1 ⟨ds, σ1, p1, ok1, x1, q1⟩ => ?_) fun _ _ x => x))
  exact wpAny_mono (q1 s1 vs _ ok1 (fm.move p1) x1) (fun x s2 hx => wpAny_mono hx (fun it s3 hx => hx.it fm p1 ok1) fun _ _ x => x) fun _ _ x => x

theorem WE.callT (g : c.Good) {f : Str} {fp pos : Pos} {args : List Expr} {T : String} {Q : D → Sto → Prop} (hk : env.kindOf f = some .globalImplicit) (hg : c.mg f = none) (hb : c.mb f = some (.type T))
    (h : WA c A fr env m σ args (fun ds σ1 => ∀ s vals, Ok c A fr σ1 s.heap → Vs (keys σ1 ++ fr) s.heap ds vals → W c A none fr σ1 (call (.type T) vals) V Q X s) X) (hp : plainArgs args = true := by rfl) (hdb : (f == ("__debug__" : Str)) = false := by decide) : WE c A fr env m σ (.Call (.Name f fp) args [] pos) Q X := fun s ok fm => by
  unfold W
  rw [eval_Call_Name]
  refine wpAny_bind (Name_function_global fm.kind hk (loadGlobal_builtin (by rw [fm.glob]; exact g.g.keeps ok.base) hg (by rw [fm.bui]; exact g.b.keeps ok.base) hb ?_) hdb)
  refine PySem.callWith_type (by
    have := plainArgs_starEach (env := env) (pos := pos) hp
    rw [List.any_eq_false]; intro x hx; simp [this x hx]) (wpAny_evalArgs (plainArgs_starEach hp) (wpAny_mono (h pos s ok fm) (fun vs s1 ⟨ds, σ1, p1, ok1, x1, q1⟩ => ?_) fun _ _ x => x))
  refine wpAny_mono (q1 s1 vs ok1 x1) (fun v s2 ⟨d, σ2, p2, ok2, x2, q2⟩ => ⟨d, σ2, p1.trans p2, ok2, x2, q2⟩) fun _ _ x => Ex.back p1 x fun _ _ y => y

theorem heap_ne {h : Heap} {a : Addr} {o : Obj} (e : h.get? a = some o) : a ≠ h.objs.size := fun z => Nat.lt_irrefl _ (z ▸ Heap.lt_size e)

theorem WIv.lst {ds : List D} {x : Str} {px : Pos} {Q : List Vars → (Sto → Prop) → Sto → Prop} (hh : A.handled = none) (h : Q (ds.map fun d => [(x, d)]) (fun _ => True) σ) : WIv c A fr env m σ (.lst ds) (.Name x px) Q := fun v s E ok fm hv => by
  unfold V at hv
  obtain ⟨a, vs, n, rfl, hak, g, hvs⟩ := hv
  have hne := heap_ne g
  have hL : s.heap.IsList a vs.toArray := ⟨_, g, rfl, n, rfl⟩
  refine wpAny_pyIter_list hL ?_
  refine ⟨_, [s.heap.objs.size], _, _, _, _, rfl, ⟨_, s.toks, rfl⟩, fun b o e => Heap.get?_push_of_some _ e, fun b hb => by rw [List.mem_singleton.mp hb]; exact none_of_ge (Nat.le_refl _), fun b hb => by rw [List.mem_singleton.mp hb]; exact ⟨_, Heap.get?_push_size _ rfl⟩, by simp,
    Src.ofWalks (J := fun K h => a ∉ K ∧ h.IsList a vs.toArray ∧ Vs K h ds vs) (Walks.list hh s.heap.objs.size a hne vs.toArray) (by simpa using hvs.length.symm) ?_ ?_ ?_ ?_, ?_, trivial, h⟩
  · rintro i h ⟨⟨o, g, _, hd⟩, _⟩; exact ⟨o, _, g, hd⟩
  · rintro K K' h h' ⟨j1, ⟨o, g, r⟩, j3⟩ sy hl
    exact ⟨hl.nin j1 g, ⟨o, sy _ _ j1 g, r⟩, Vs.move sy hl _ _ j3⟩
  · rintro K h i v _ ⟨j1, j2, j3⟩ hp
    exact j3.get (by simpa using hp)
  · rintro K h ⟨j1, j2, j3⟩ b hb
    rcases List.mem_cons.mp hb with z | z
    · exact .inl z
    · exact .inr (List.mem_singleton.mp z ▸ j1)
  · have st : Stay (keys σ ++ fr) s.heap (s.heap.push { cls := .type "list_iterator", data := .fields #[.ref a, .int 0 0] }) := fun b o _ e => Heap.get?_push_of_some _ e
    have hn : ∀ b ∈ [s.heap.objs.size], s.heap.get? b = none := fun b hb => by rw [List.mem_singleton.mp hb]; exact none_of_ge (Nat.le_refl _)
    refine ⟨⟨⟨_, Heap.get?_push_size _ rfl, rfl, rfl⟩, hL.push _⟩, (less_add hn).nin hak g, hL.push _, Vs.move st (less_add hn) _ _ hvs⟩

theorem WIv.tup {ds : List D} {x : Str} {px : Pos} {Q : List Vars → (Sto → Prop) → Sto → Prop} (hh : A.handled = none) (h : Q (ds.map fun d => [(x, d)]) (fun _ => True) σ) : WIv c A fr env m σ (.tup ds) (.Name x px) Q := fun v s E ok fm hv => by
  unfold V at hv
  obtain ⟨a, vs, n, rfl, hak, g, hvs⟩ := hv
  have hne := heap_ne g
  have hL : s.heap.IsTuple a vs.toArray := ⟨_, g, rfl, n, rfl⟩
  refine wpAny_pyIter_tuple hL ?_
  refine ⟨_, [s.heap.objs.size], _, _, _, _, rfl, ⟨_, s.toks, rfl⟩, fun b o e => Heap.get?_push_of_some _ e, fun b hb => by rw [List.mem_singleton.mp hb]; exact none_of_ge (Nat.le_refl _), fun b hb => by rw [List.mem_singleton.mp hb]; exact ⟨_, Heap.get?_push_size _ rfl⟩, by simp,
    Src.ofWalks (J := fun K h => a ∉ K ∧ h.IsTuple a vs.toArray ∧ Vs K h ds vs) (Walks.tuple hh s.heap.objs.size a hne vs.toArray) (by simpa using hvs.length.symm) ?_ ?_ ?_ ?_, ?_, trivial, h⟩
  · rintro i h ⟨⟨o, g, _, hd⟩, _⟩; exact ⟨o, _, g, hd⟩
  · rintro K K' h h' ⟨j1, ⟨o, g, r⟩, j3⟩ sy hl
    exact ⟨hl.nin j1 g, ⟨o, sy _ _ j1 g, r⟩, Vs.move sy hl _ _ j3⟩
  · rintro K h i v _ ⟨j1, j2, j3⟩ hp
    exact j3.get (by simpa using hp)
  · rintro K h ⟨j1, j2, j3⟩ b hb
    rcases List.mem_cons.mp hb with z | z
    · exact .inl z
    · exact .inr (List.mem_singleton.mp z ▸ j1)
  · have hn : ∀ b ∈ [s.heap.objs.size], s.heap.get? b = none := fun b hb => by rw [List.mem_singleton.mp hb]; exact none_of_ge (Nat.le_refl _)
    refine ⟨⟨⟨_, Heap.get?_push_size _ rfl, rfl, rfl⟩, hL.push _⟩, (less_add hn).nin hak g, hL.push _, Vs.move (K := keys σ ++ fr) (fun b o _ e => Heap.get?_push_of_some _ e) (less_add hn) _ _ hvs⟩

theorem WIv.ref {a : Addr} {ds : List D} {x : Str} {px : Pos} {Q : List Vars → (Sto → Prop) → Sto → Prop} (hh : A.handled = none) (hm : (a, O.lst ds) ∈ σ) (h : Q (ds.map fun d => [(x, d)]) (fun σ' => (a, O.lst ds) ∈ σ') σ) : WIv c A fr env m σ (.ref a) (.Name x px) Q := fun v s E ok fm hv => by
  unfold V at hv; subst hv
  obtain ⟨vs, n, g, hvs⟩ := ok.sto _ hm
  have hne := heap_ne g
  have hL : s.heap.IsList a vs.toArray := ⟨_, g, rfl, n, rfl⟩
  refine wpAny_pyIter_list hL ?_
  refine ⟨_, [s.heap.objs.size], _, fun σ' => (a, O.lst ds) ∈ σ', fun i K h => a ≠ s.heap.objs.size ∧ h.IsListIter s.heap.objs.size a i, fun i K h v => (a ≠ s.heap.objs.size ∧ h.IsListIter s.heap.objs.size a (i + 1)) ∧ ∃ d, ds[i]? = some d ∧ V K h d v, rfl, ⟨_, s.toks, rfl⟩, fun b o e => Heap.get?_push_of_some _ e, fun b hb => by rw [List.mem_singleton.mp hb]; exact none_of_ge (Nat.le_refl _), fun b hb => by rw [List.mem_singleton.mp hb]; exact ⟨_, Heap.get?_push_size _ rfl⟩, by simp,
    ?_, ⟨hne, _, Heap.get?_push_size _ rfl, rfl, rfl⟩, hm, h⟩
  exact {
    nodict := fun i K h st b hb o g es n e => by
      obtain ⟨_, o', g', _, d'⟩ := st
      rw [List.mem_singleton.mp hb, g'] at g; cases g; rw [d'] at e; cases e
    midnd := fun i K h v st b hb o g es n e => by
      obtain ⟨⟨_, o', g', _, d'⟩, _⟩ := st
      rw [List.mem_singleton.mp hb, g'] at g; cases g; rw [d'] at e; cases e
    move := fun i K K' h h' st sy hw hl => by
      obtain ⟨h1, o', g', r⟩ := st
      exact ⟨h1, o', hw _ (by simp) _ g', r⟩
    next := fun i σ fr s' Q E hi ok st inv hQ => by
      obtain ⟨us, n', g', hus⟩ := ok.sto _ inv
      have hi' : i < us.length := by rw [hus.length]; simpa using hi
      refine wpAny_pyNext_list_item (items := us.toArray) (x := us[i]) st.2 ⟨_, g', rfl, n', rfl⟩ (by simp [hi']) fun h' it' sb' => ?_
      obtain ⟨d, hd, hV⟩ := hus.get (i := i) (v := us[i]) (by simp)
      refine hQ _ h' s'.toks ⟨⟨st.1, it'⟩, d, hd, V.move (fun b o nb e => (sb'.2 b fun z => nb (by rw [z]; simp)).trans e) (fun a ha => .inl ha) _ _ hV⟩ ⟨fun b o nb e => (sb'.2 b fun z => nb (by simp [z])).trans e, fun b hb => ?_⟩
      obtain ⟨o, g, _⟩ := it'; rw [List.mem_singleton.mp hb]; exact ⟨o, g⟩
    put := fun i σ fr F env m v s' Q E y hy mid ok fm hi hkind hF hnd hQ => by
      obtain ⟨⟨hne, st⟩, d, hd, hV⟩ := mid
      have hy' : y = [(x, d)] := by
        rw [List.getElem?_map, hd] at hy; exact (Option.some.inj hy).symm
      subst hy'
      rw [letOwned_Name]
      refine wpAny_pure (wpAny_assign_Name ?_)
      have ndw := ok.nd
      rw [List.nodup_append, List.nodup_append] at ndw
      have nI : ∀ a ∈ fr, a ≠ s.heap.objs.size := fun a ha z => ndw.2.1.2.2 _ (by simp) a ha z.symm
      have hF0 : ∀ a ∈ tight env x, a ≠ s.heap.objs.size := fun a ha => by
        rcases tight_mem ha with z | ⟨_, e⟩
        · rw [z]; exact nI _ hi.1
        · exact nI _ (hi.2 _ (mem_of_lookup e))
      refine store_fine (F := tight env x) ok fm hV (hkind (x, d) (by simp)) tight_ok fun h' tk fm' ok' p' => ?_
      refine hQ h' tk ⟨hne, ?_⟩ fm' ok' (p'.wide fun a ha => ?_)
      · obtain ⟨o, g, r⟩ := st
        obtain ⟨sl, e1, r1⟩ := p'.slots _ o (by simp) (fun z => hF0 _ z rfl) g
        have := r1 (hnd _ (by simp) o g)
        subst this; exact ⟨o, e1, r⟩
      · rcases tight_mem ha with z | ⟨k, e⟩
        · rw [z]; exact List.mem_append_right _ hF.1
        · exact List.mem_append_right _ (hF.2 (x, d) (by simp) k _ e)
    done := fun σ fr s' Q E ok st inv hQ => by
      obtain ⟨us, n', g', hus⟩ := ok.sto _ inv
      have e : (ds.map fun d => [(x, d)]).length = us.length := by simp [hus.length]
      rw [e] at st
      exact wpAny_pyNext_list_end (items := us.toArray) hh st.2 ⟨_, g', rfl, n', rfl⟩ (by simp) fun h' he' => hQ h' s'.toks fun b o hb e => he' b o (fun z => hb (by simp [z])) e
    self := fun i K s' Q E st hQ => wpAny_pyIter_listiter st.2 hQ }

theorem rangeSize_toNat {n : Int} : (Builtin.Range.rangeSize 0 n 1) = ((n.toNat : Nat) : Int) := by
  rw [rangeSize_one]; split <;> omega

theorem WIt.range1 (g : c.Good) (hh : A.handled = none) {f : Str} {fp pos px : Pos} {e : Expr} {x : Str} {Q : List Vars → (Sto → Prop) → Sto → Prop} (hk : env.kindOf f = some .globalImplicit) (hg : c.mg f = none) (hb : c.mb f = some (.type "range"))
    (h : WE c A fr env m σ e (fun d σ1 => ∃ n : Int, d = .int n ∧ -(2 ^ 62) ≤ n ∧ n < 2 ^ 62 ∧ Q ((List.range n.toNat).map fun (i : Nat) => [(x, D.int (i : Int))]) (fun _ => True) σ1) X) (hp : plainArgs [e] = true := by rfl) (hdb : (f == ("__debug__" : Str)) = false := by decide) :
    WIt c A fr env m σ (.Call (.Name f fp) [e] [] pos) (.Name x px) Q X := by
  refine WIt.callT g hk hg hb (WA.cons (h.mono (fun d σ1 q => WA.nil ?_) fun _ _ y => y) hp) hp hdb
  intro s vals E ok fm hv
  obtain ⟨n, rfl, h1, h2, q⟩ := q
  unfold Vs at hv
  obtain ⟨v, r, rfl, hv, hr⟩ := hv
  unfold Vs at hr; subst hr
  unfold V at hv
  obtain ⟨t, rfl⟩ := hv
  refine call_range_1 ?_
  refine wpAny_pyIter_range (IsRange.new _ _ _ _ _ _ _) (small_one (by decide) (by decide) h1 h2) ?_
  generalize hH : s.heap.push { cls := .type "range", data := .fields #[.int 0 s.toks, .int n t, .int 1 (s.toks + 1)] } = H
  have hHk : ∀ b o, s.heap.get? b = some o → H.get? b = some o := fun b o e => hH ▸ Heap.get?_push_of_some _ e
  have hHs : H.objs.size = s.heap.objs.size + 1 := by rw [← hH, Heap.size_push]
  have hnone : s.heap.get? H.objs.size = none := none_of_ge (by rw [hHs]; exact Nat.le_succ _)
  refine ⟨H.objs.size, [H.objs.size], _, _, _, _, rfl, ⟨_, _, rfl⟩, fun b o e => Heap.get?_push_of_some _ (hHk b o e), fun b hb => by rw [List.mem_singleton.mp hb]; exact hnone, fun b hb => by rw [List.mem_singleton.mp hb]; exact ⟨_, Heap.get?_push_size _ rfl⟩, by simp,
    Src.ofWalks (ds := (List.range n.toNat).map fun (i : Nat) => D.int (i : Int)) (J := fun K h => True) (Walks.range hh H.objs.size 0 1 n.toNat) (by simp) ?_ ?_ ?_ ?_, ?_, trivial, by simpa [List.map_map, Function.comp_def] using q⟩
  · intro i h st; exact ⟨_, _, st, rfl⟩
  · intros; trivial
  · rintro K h i v hi _ ⟨t, rfl⟩
    refine ⟨.int i, by simp [hi], ?_⟩
    unfold V; exact ⟨t, by simp⟩
  · rintro K h _ b hb; exact .inl (List.mem_singleton.mp hb)
  · refine ⟨?_, trivial⟩
    have := Heap.get?_push_size H (o := { cls := .type "range_iterator", data := .fields #[rawInt 0, rawInt (Builtin.Range.rangeSize 0 n 1), rawInt 1] }) rfl
    rw [rangeSize_toNat] at this
    rw [rangeSize_toNat]
    simpa using this
end
end Mine
set_option linter.unusedVariables false
set_option linter.unusedSimpArgs false
set_option autoImplicit false
namespace Mine
open PySem PySem.Calls PyProof.Rows

def SqIt (b : Bool) (h : Heap) (i l : Addr) (k : Nat) : Prop := if b then h.IsListIter i l k else h.IsTupleIter i l k
def SqOf (b : Bool) (h : Heap) (l : Addr) (xs : Array Value) : Prop := if b then h.IsList l xs else h.IsTuple l xs

theorem SqOf.at {b : Bool} {h h' : Heap} {l : Addr} {xs : Array Value} (x : SqOf b h l xs) (e : ∀ o, h.get? l = some o → h'.get? l = some o) : SqOf b h' l xs := by
  cases b with
  | true => obtain ⟨o, g, r⟩ := x; exact ⟨o, e _ g, r⟩
  | false => obtain ⟨o, g, r⟩ := x; exact ⟨o, e _ g, r⟩
section
variable {prog : Program} {w : World} {A : Around} {E : Value → Shared → Prop} {s : Shared}

def sqObj (b : Bool) (l : Addr) : Obj := { cls := .type (if b then "list_iterator" else "tuple_iterator"), data := .fields #[.ref l, .int 0 0] }
theorem pyIter_sq {b : Bool} {l : Addr} {xs : Array Value} {Q : Value → Shared → Prop} (hl : SqOf b s.heap l xs) (hQ : Q (.ref s.heap.objs.size) { s with heap := s.heap.push (sqObj b l) }) : wpAny (model prog w) A (pyIter (.ref l)) Q E s := by
  cases b with
  | true => exact wpAny_pyIter_list hl hQ
  | false => exact wpAny_pyIter_tuple hl hQ
theorem sqObj_it {b : Bool} {h : Heap} {l i : Addr} (g : h.get? i = some (sqObj b l)) : SqIt b h i l 0 := by
  cases b with
  | true => exact ⟨_, g, rfl, rfl⟩
  | false => exact ⟨_, g, rfl, rfl⟩
end
end Mine
set_option linter.unusedVariables false
set_option linter.unusedSimpArgs false
set_option autoImplicit false
namespace Mine
open PySem PySem.Calls PyProof.Rows

theorem SqOf.push {b : Bool} {h : Heap} {l : Addr} {xs : Array Value} (x : SqOf b h l xs) (o : Obj) : SqOf b (h.push o) l xs := x.at fun _ e => Heap.get?_push_of_some _ e
theorem SqOf.lt {b : Bool} {h : Heap} {l : Addr} {xs : Array Value} (x : SqOf b h l xs) : l < h.objs.size := by
  cases b with
  | true => obtain ⟨o, g, _⟩ := x; exact Heap.lt_size g
  | false => obtain ⟨o, g, _⟩ := x; exact Heap.lt_size g

inductive SD where
  | lst (ds : List D)
  | tup (ds : List D)
  | ref (a : Addr) (ds : List D)
def SD.d : SD → D
  | .lst ds => .lst ds
  | .tup ds => .tup ds
  | .ref a _ => .ref a
def SD.ds : SD → List D
  | .lst ds => ds
  | .tup ds => ds
  | .ref _ ds => ds
def SD.isL : SD → Bool
  | .tup _ => false
  | _ => true
def SD.inv : SD → Sto → Prop
  | .ref a ds, σ => (a, O.lst ds) ∈ σ
  | _, _ => True
def SD.Fz (sd : SD) (K : List Addr) (h : Heap) (l : Addr) : Prop := match sd with
  | .lst ds => l ∉ K ∧ ∃ vs n, h.get? l = some (lstObj vs n) ∧ Vs K h ds vs
  | .tup ds => l ∉ K ∧ ∃ vs n, h.get? l = some (tupObj vs n) ∧ Vs K h ds vs
  | .ref a _ => l = a
theorem SD.Fz.move {sd : SD} {K K' : List Addr} {h h' : Heap} {l : Addr} (x : sd.Fz K h l) (sy : Stay K h h') (hl : Less K K' h) : sd.Fz K' h' l := by
  cases sd with
  | lst ds => obtain ⟨a, vs, n, g, r⟩ := x; exact ⟨hl.nin a g, vs, n, sy _ _ a g, Vs.move sy hl _ _ r⟩
  | tup ds => obtain ⟨a, vs, n, g, r⟩ := x; exact ⟨hl.nin a g, vs, n, sy _ _ a g, Vs.move sy hl _ _ r⟩
  | ref a ds => exact x
theorem SD.Fz.get {c : Cx} {A : Around} {fr : List Addr} {σ : Sto} {sd : SD} {h : Heap} {l : Addr} (x : sd.Fz (keys σ ++ fr) h l) (ok : Ok c A fr σ h) (inv : sd.inv σ) : ∃ vs : List Value, SqOf sd.isL h l vs.toArray ∧ Vs (keys σ ++ fr) h sd.ds vs := by
  cases sd with
  | lst ds => obtain ⟨a, vs, n, g, r⟩ := x; exact ⟨vs, ⟨_, g, rfl, n, rfl⟩, r⟩
  | tup ds => obtain ⟨a, vs, n, g, r⟩ := x; exact ⟨vs, ⟨_, g, rfl, n, rfl⟩, r⟩
  | ref a ds =>
    obtain ⟨vs, n, g, r⟩ := ok.sto _ inv
    obtain rfl : l = a := x
    exact ⟨vs, ⟨_, g, rfl, n, rfl⟩, r⟩
theorem SD.of_v {sd : SD} {K : List Addr} {h : Heap} {v : Value} (x : V K h sd.d v) : ∃ l, v = .ref l ∧ sd.Fz K h l := by
  cases sd with
  | lst ds => simp only [SD.d] at x; unfold V at x; obtain ⟨a, vs, n, rfl, hk, g, r⟩ := x; exact ⟨a, rfl, hk, vs, n, g, r⟩
  | tup ds => simp only [SD.d] at x; unfold V at x; obtain ⟨a, vs, n, rfl, hk, g, r⟩ := x; exact ⟨a, rfl, hk, vs, n, g, r⟩
  | ref a ds => simp only [SD.d] at x; unfold V at x; exact ⟨a, x, rfl⟩

section
variable {c : Cx} {A : Around} {fr : List Addr} {σ : Sto} {X : Addr → Sto → Prop} {env : Env} {m : Vars}

theorem store_two {x y : Str} {px py tp : Pos} {k : Nat} {d1 d2 : D} {v1 v2 : Value} {T : Addr} {s : Shared} {F : List Addr} {Q : Unit → Shared → Prop} {E : Value → Shared → Prop} (hh : A.handled = none) (ok : Ok c A fr σ s.heap) (f : Fm env m fr (keys σ ++ fr) s.heap) (hT : IsPair s.heap T v1 v2)
    (hV1 : V (keys σ ++ fr) s.heap d1 v1) (hV2 : V (keys σ ++ fr) s.heap d2 v2) (hk1 : env.kindOf x = some .local ∨ env.kindOf x = some .cell) (hk2 : env.kindOf y = some .local ∨ env.kindOf y = some .cell)
    (hF : ∀ a, a ∈ tight env x ∨ a ∈ tight env y → a ∈ F)
    (h : ∀ h' tk, Fm env ((y, d2) :: (x, d1) :: m) fr (keys σ ++ fr) h' → Ok c A fr σ h' → Post F fr σ s { s with heap := h', toks := tk } σ → Q () { s with heap := h', toks := tk }) :
    wpAny (model c.prog c.w) A (assign (.Tuple [.Name x px, .Name y py] k tp) env (.ref T)) Q E s := by
  refine wpAny_assign_Tuple hh (items := #[v1, v2]) ⟨_, hT, rfl, _, rfl⟩ rfl rfl fun h1 he1 => ?_
  have k1 : ∀ b o, s.heap.get? b = some o → h1.get? b = some o := fun b o e => he1 b o (heap_ne e) e
  have ok1 := ok.keeps k1
  have p1 : Post [] fr σ s { s with heap := h1, toks := s.toks } σ := Post.keeps k1
  have f1 : Fm env m fr (keys σ ++ fr) h1 := Fm.move (s := s) (s' := { s with heap := h1, toks := s.toks }) f p1
  show wpAny _ _ (holding [v2] (assign (.Name x px) env v1) >>= fun _ => assignInOrder [assign (.Name y py) env] [v2]) _ _ _
  refine wpAny_bind (wpAny_holding (wpAny_assign_Name ?_))
  refine store_fine (F := F) (s := { s with heap := h1 }) ok1 f1 (V.move p1.stay p1.less _ _ hV1) hk1 ⟨fun z => hF _ (.inl (tight_ok.1 z)), fun z cc e => hF _ (.inl (tight_ok.2 z cc e))⟩ fun h2 tk2 fm2 ok2 p2 => ?_
  show wpAny _ _ (holding [] (assign (.Name y py) env v2) >>= fun _ => assignInOrder [] []) _ _ _
  refine wpAny_bind (wpAny_holding (wpAny_assign_Name ?_))
  refine store_fine (F := F) (s := { s with heap := h2, toks := tk2 }) ok2 fm2 (V.move p2.stay p2.less _ _ (V.move p1.stay p1.less _ _ hV2)) hk2 ⟨fun z => hF _ (.inr (tight_ok.1 z)), fun z cc e => hF _ (.inr (tight_ok.2 z cc e))⟩ fun h3 tk3 fm3 ok3 p3 => ?_
  exact wpAny_pure (h h3 tk3 fm3 ok3 (((p1.wide (by simp)).trans p2).trans p3))

end
end Mine
set_option linter.unusedVariables false
set_option linter.unusedSimpArgs false
set_option autoImplicit false
namespace Mine
open PySem PySem.Calls PyProof.Rows

theorem V.ofInt {K : List Addr} {h : Heap} {i : Int} {t : Tok} : V K h (.int i) (.int i t) := by unfold V; exact ⟨t, rfl⟩
theorem V.ofBool {K : List Addr} {h : Heap} {b : Bool} : V K h (.bool b) (.bool b) := by unfold V; rfl
theorem V.ofStr {K : List Addr} {h : Heap} {x : Str} {t : Tok} : V K h (.str x) (.str x t) := by unfold V; exact ⟨t, rfl⟩
theorem V.toInt {K : List Addr} {h : Heap} {i : Int} {v : Value} (x : V K h (.int i) v) : ∃ t, v = .int i t := by unfold V at x; exact x
theorem V.toBool {K : List Addr} {h : Heap} {b : Bool} {v : Value} (x : V K h (.bool b) v) : v = .bool b := by unfold V at x; exact x
theorem V.toStr {K : List Addr} {h : Heap} {x : Str} {v : Value} (y : V K h (.str x) v) : ∃ t, v = .str x t := by unfold V at y; exact y
theorem V.toNone {K : List Addr} {h : Heap} {v : Value} (y : V K h .none v) : v = .none := by unfold V at y; exact y

section
variable {c : Cx} {A : Around} {fr : List Addr} {σ : Sto} {X : Addr → Sto → Prop} {env : Env} {m : Vars} {Q : D → Sto → Prop} {a b : Int}

theorem WB.add (h : Q (.int (a + b)) σ) : WB c A fr σ (binaryOp .Add) (.int a) (.int b) Q X := fun v1 v2 s ok x1 x2 => by
  obtain ⟨t, rfl⟩ := x1.toInt; obtain ⟨u, rfl⟩ := x2.toInt
  exact add_int ⟨_, σ, Post.tok .., ok, V.ofInt, h⟩
theorem WB.sub (h : Q (.int (a - b)) σ) : WB c A fr σ (binaryOp .Sub) (.int a) (.int b) Q X := fun v1 v2 s ok x1 x2 => by
  obtain ⟨t, rfl⟩ := x1.toInt; obtain ⟨u, rfl⟩ := x2.toInt
  exact sub_int ⟨_, σ, Post.tok .., ok, V.ofInt, h⟩
theorem WB.mul (hm : IntMulOk a b) (h : Q (.int (a * b)) σ) : WB c A fr σ (binaryOp .Mult) (.int a) (.int b) Q X := fun v1 v2 s ok x1 x2 => by
  obtain ⟨t, rfl⟩ := x1.toInt; obtain ⟨u, rfl⟩ := x2.toInt
  exact PyProof.Rows.mul_int ⟨_, σ, Post.tok .., ok, V.ofInt, h⟩ hm
theorem log2_small {n : Nat} (h0 : n ≠ 0) (h : n < 2 ^ 64) : n.log2 < 9000 := by
  have : n.log2 < 64 := (Nat.log2_lt h0).mpr h
  omega
theorem WB.fdiv (hb : b ≠ 0) (hs : b.natAbs < 2 ^ 64) (h : Q (.int (a.fdiv b)) σ) : WB c A fr σ (binaryOp .FloorDiv) (.int a) (.int b) Q X := fun v1 v2 s ok x1 x2 => by
  obtain ⟨t, rfl⟩ := x1.toInt; obtain ⟨u, rfl⟩ := x2.toInt
  exact floordiv_int hb ⟨_, σ, Post.tok .., ok, V.ofInt, h⟩ (.inl (PyProof.noPylong_of_log2 (log2_small (by omega) hs)))
theorem WB.mod (hb : b ≠ 0) (hs : b.natAbs < 2 ^ 64) (h : Q (.int (a.fmod b)) σ) : WB c A fr σ (binaryOp .Mod) (.int a) (.int b) Q X := fun v1 v2 s ok x1 x2 => by
  obtain ⟨t, rfl⟩ := x1.toInt; obtain ⟨u, rfl⟩ := x2.toInt
  exact PyProof.Rows.mod_int hb ⟨_, σ, Post.tok .., ok, V.ofInt, h⟩
theorem WB.lt (h : Q (.bool (decide (a < b))) σ) : WB c A fr σ (compareOp .Lt) (.int a) (.int b) Q X := fun v1 v2 s ok x1 x2 => by
  obtain ⟨t, rfl⟩ := x1.toInt; obtain ⟨u, rfl⟩ := x2.toInt
  exact PyProof.Rows.lt_int ⟨_, σ, Post.refl .., ok, V.ofBool, h⟩
theorem WB.le (h : Q (.bool (decide (a ≤ b))) σ) : WB c A fr σ (compareOp .LtE) (.int a) (.int b) Q X := fun v1 v2 s ok x1 x2 => by
  obtain ⟨t, rfl⟩ := x1.toInt; obtain ⟨u, rfl⟩ := x2.toInt
  exact PyProof.Rows.le_int ⟨_, σ, Post.refl .., ok, V.ofBool, h⟩
theorem WB.gt (h : Q (.bool (decide (b < a))) σ) : WB c A fr σ (compareOp .Gt) (.int a) (.int b) Q X := fun v1 v2 s ok x1 x2 => by
  obtain ⟨t, rfl⟩ := x1.toInt; obtain ⟨u, rfl⟩ := x2.toInt
  exact PyProof.Rows.gt_int ⟨_, σ, Post.refl .., ok, V.ofBool, h⟩
theorem WB.ge (h : Q (.bool (decide (b ≤ a))) σ) : WB c A fr σ (compareOp .GtE) (.int a) (.int b) Q X := fun v1 v2 s ok x1 x2 => by
  obtain ⟨t, rfl⟩ := x1.toInt; obtain ⟨u, rfl⟩ := x2.toInt
  exact PyProof.Rows.ge_int ⟨_, σ, Post.refl .., ok, V.ofBool, h⟩
theorem WB.eqI (h : Q (.bool (a == b)) σ) : WB c A fr σ (compareOp .Eq) (.int a) (.int b) Q X := fun v1 v2 s ok x1 x2 => by
  obtain ⟨t, rfl⟩ := x1.toInt; obtain ⟨u, rfl⟩ := x2.toInt
  exact PyProof.Rows.eq_int ⟨_, σ, Post.refl .., ok, V.ofBool, h⟩
theorem WB.neI (h : Q (.bool (a != b)) σ) : WB c A fr σ (compareOp .NotEq) (.int a) (.int b) Q X := fun v1 v2 s ok x1 x2 => by
  obtain ⟨t, rfl⟩ := x1.toInt; obtain ⟨u, rfl⟩ := x2.toInt
  exact PyProof.Rows.ne_int ⟨_, σ, Post.refl .., ok, V.ofBool, h⟩
theorem WU.neg (h : Q (.int (-a)) σ) : WU c A fr σ (unaryOp .USub) (.int a) Q X := fun v1 s ok x1 => by
  obtain ⟨t, rfl⟩ := x1.toInt
  exact PyProof.Rows.neg_int ⟨_, σ, Post.tok .., ok, V.ofInt, h⟩

theorem WE.nType (g : c.Good) {f : Str} {fp : Pos} {T : String} (hk : env.kindOf f = some .globalImplicit) (hg : c.mg f = Option.none) (hb : c.mb f = some (.type T)) (h : Q (.typ T) σ) (hdb : (f == ("__debug__" : Str)) = false := by decide) : WE c A fr env m σ (.Name f fp) Q X := fun s ok fm =>
  Name_function_global fm.kind hk (loadGlobal_builtin (by rw [fm.glob]; exact g.g.keeps ok.base) hg (by rw [fm.bui]; exact g.b.keeps ok.base) hb ⟨_, σ, Post.refl .., ok, by unfold V; rfl, h⟩) hdb
theorem WE.nInt (g : c.Good) {f : Str} {fp : Pos} {i : Int} {t : Tok} (hk : env.kindOf f = some .globalImplicit) (hg : c.mg f = some (.int i t)) (h : Q (.int i) σ) (hdb : (f == ("__debug__" : Str)) = false := by decide) : WE c A fr env m σ (.Name f fp) Q X := fun s ok fm =>
  Name_function_global fm.kind hk (loadGlobal_global (by rw [fm.glob]; exact g.g.keeps ok.base) hg ⟨_, σ, Post.refl .., ok, V.ofInt, h⟩) hdb
theorem WE.nStr (g : c.Good) {f : Str} {fp : Pos} {x : Str} {t : Tok} (hk : env.kindOf f = some .globalImplicit) (hg : c.mg f = some (.str x t)) (h : Q (.str x) σ) (hdb : (f == ("__debug__" : Str)) = false := by decide) : WE c A fr env m σ (.Name f fp) Q X := fun s ok fm =>
  Name_function_global fm.kind hk (loadGlobal_global (by rw [fm.glob]; exact g.g.keeps ok.base) hg ⟨_, σ, Post.refl .., ok, V.ofStr, h⟩) hdb
end

def tyOf (σ : Sto) : D → Option String
  | .none => some "NoneType"
  | .bool _ => some "bool"
  | .int _ => some "int"
  | .str _ => some "str"
  | .tup _ => some "tuple"
  | .lst _ => some "list"
  | .ref a => match σ.lookup a with | some (.lst _) => some "list" | _ => none
  | _ => none
def isT (σ : Sto) (T : String) (d : D) : Option Bool := (tyOf σ d).map fun t => t == T || (t == "bool" && T == "int")

theorem mem_of_lookup' {a : Addr} {o : O} : ∀ {σ : Sto}, σ.lookup a = some o → (a, o) ∈ σ
  | [], h => by cases h
  | (b, o') :: r, h => by
    rw [List.lookup_cons] at h
    by_cases q : (a == b) = true
    · rw [q] at h; cases h; rw [beq_iff_eq.mp q]; exact List.mem_cons_self
    · simp only [q] at h; exact List.mem_cons_of_mem _ (mem_of_lookup' h)

theorem V.typeIs {c : Cx} {A : Around} {fr : List Addr} {σ : Sto} {s : Shared} {d : D} {v : Value} {t : String} (ok : Ok c A fr σ s.heap) (x : V (keys σ ++ fr) s.heap d v) (e : tyOf σ d = some t) : s.TypeIs v t := by
  cases d with
  | none => cases e; rw [x.toNone]; rfl
  | bool b => cases e; rw [x.toBool]; rfl
  | int i => cases e; obtain ⟨t, rfl⟩ := x.toInt; rfl
  | str y => cases e; obtain ⟨t, rfl⟩ := x.toStr; rfl
  | tup ds => cases e; unfold V at x; obtain ⟨a, vs, n, rfl, _, g, _⟩ := x; exact ⟨_, g, rfl⟩
  | lst ds => cases e; unfold V at x; obtain ⟨a, vs, n, rfl, _, g, _⟩ := x; exact ⟨_, g, rfl⟩
  | ref a =>
    unfold V at x; subst x
    simp only [tyOf] at e
    split at e
    · rename_i ds hl
      cases e
      obtain ⟨vs, n, g, _⟩ := ok.sto _ (mem_of_lookup' hl)
      exact ⟨_, g, rfl⟩
    · cases e
  | _ => cases e

def isiTypes : List String := ["int", "bool", "list", "tuple", "str"]
def isiFrom : List String := ["NoneType", "bool", "int", "str", "tuple", "list"]
theorem isi_meta {T : String} (h : T ∈ isiTypes) : typeOf (.type T) = pure (.type "type") := by
  simp only [isiTypes, List.mem_cons, List.not_mem_nil, or_false] at h
  rcases h with rfl | rfl | rfl | rfl | rfl <;> kernel_rfl
theorem isi_sub {t T : String} (ht : t ∈ isiFrom) (hT : T ∈ isiTypes) : isSubtype (.type t) (.type T) = pure (t == T || (t == "bool" && T == "int")) := by
  simp only [isiTypes, isiFrom, List.mem_cons, List.not_mem_nil, or_false] at ht hT
  rcases ht with rfl | rfl | rfl | rfl | rfl | rfl <;> rcases hT with rfl | rfl | rfl | rfl | rfl <;> (rw [isSubtype_type]; kernel_rfl)
theorem tyOf_mem {σ : Sto} {d : D} {t : String} (h : tyOf σ d = some t) : t ∈ isiFrom := by
  cases d <;> simp only [tyOf] at h
  all_goals first | (cases h; done) | (cases h; decide) | (split at h; (cases h; decide); cases h)

section
variable {c : Cx} {A : Around} {fr : List Addr} {σ : Sto} {X : Addr → Sto → Prop} {env : Env} {m : Vars} {Q : D → Sto → Prop}

theorem call_isi {d : D} {T : String} {b : Bool} {s : Shared} {v : Value} (hT : T ∈ isiTypes) (hb : isT σ T d = some b) (ok : Ok c A fr σ s.heap) (hv : V (keys σ ++ fr) s.heap d v) (h : Q (.bool b) σ) : W c A none fr σ (call (.builtin "isinstance") [v, .type T]) V Q X s := by
  unfold isT at hb
  cases ht : tyOf σ d with
  | none => rw [ht] at hb; cases hb
  | some t =>
    rw [ht] at hb
    have hb' : (t == T || (t == "bool" && T == "int")) = b := Option.some.inj hb
    have hty := hv.typeIs ok ht
    have hm := isi_meta hT
    have hsub := isi_sub (tyOf_mem ht) hT
    rw [hb'] at hsub
    cases b with
    | true => exact call_isinstance (isinstance_true hm hsub) ⟨hty, ⟨_, σ, Post.refl .., ok, V.ofBool, h⟩⟩
    | false =>
      have hne : (Value.type t == Value.type T) = false := by
        simp only [Bool.or_eq_false_iff] at hb'
        have := hb'.1
        simp only [beq_eq_false_iff_ne, ne_eq] at this ⊢
        intro z; exact this (by injection z)
      have hq : ∃ d σ', Post (Fo none) fr σ s { s with toks := s.toks + 1 } σ' ∧ Ok c A fr σ' ({ s with toks := s.toks + 1 } : Shared).heap ∧ V (keys σ' ++ fr) ({ s with toks := s.toks + 1 } : Shared).heap d (.bool false) ∧ Q d σ' := ⟨_, σ, Post.tok .., ok, V.ofBool, h⟩
      cases d with
      | none => cases ht; rw [hv.toNone]; exact call_isinstance (isinstance_false_none hne hm hsub) hq
      | bool b => cases ht; rw [hv.toBool]; exact call_isinstance (isinstance_false_bool hne hm hsub) hq
      | int i => cases ht; obtain ⟨t, rfl⟩ := hv.toInt; exact call_isinstance (isinstance_false_int hne hm hsub) hq
      | str y => cases ht; obtain ⟨t, rfl⟩ := hv.toStr; exact call_isinstance (isinstance_false_str hne hm hsub) hq
      | tup ds => cases ht; unfold V at hv; obtain ⟨a, vs, n, rfl, _, g, _⟩ := hv; exact call_isinstance (isinstance_false_tuple hne hm hsub) ⟨⟨_, g, rfl⟩, hq⟩
      | lst ds => cases ht; unfold V at hv; obtain ⟨a, vs, n, rfl, _, g, _⟩ := hv; exact call_isinstance (isinstance_false_list hne hm hsub) ⟨⟨_, g, rfl⟩, hq⟩
      | ref a =>
        unfold V at hv; subst hv
        obtain ⟨o, g, hc⟩ := hty
        simp only [tyOf] at ht
        split at ht
        · cases ht; exact call_isinstance (isinstance_false_list hne hm hsub) ⟨⟨_, g, hc⟩, hq⟩
        · cases ht
      | _ => cases ht

end
end Mine
set_option linter.unusedVariables false
set_option linter.unusedSimpArgs false
set_option autoImplicit false
namespace Mine
open PySem PySem.Calls PyProof.Rows

section
variable {c : Cx} {A : Around} {fr : List Addr} {σ : Sto} {X : Addr → Sto → Prop} {env : Env} {m : Vars} {Q : D → Sto → Prop}

theorem sd_walk {sd : SD} {v : Value} {s : Shared} {B : Around} (hh : B.handled = none) (ok : Ok c A fr σ s.heap) (hv : V (keys σ ++ fr) s.heap sd.d v) (inv : sd.inv σ) {Qi : Value → Shared → Prop} {E : Value → Shared → Prop}
    (h : ∀ (l I : Addr) (vs : List Value) (St : Nat → Heap → Prop) (h' : Heap), v = .ref l → Walks c.prog c.w B I [I, l] [I] vs.length (fun i v => vs[i]? = some v) St → St 0 h' → (∀ b ∈ [I, l], b < h'.objs.size) → (∀ b o, s.heap.get? b = some o → h'.get? b = some o) → s.heap.get? I = none → Vs (keys σ ++ fr) s.heap sd.ds vs → Qi (.ref I) { s with heap := h' }) :
    wpAny (model c.prog c.w) B (pyIter v) Qi E s := by
  obtain ⟨l, rfl, z⟩ := SD.of_v hv
  obtain ⟨vs, sq, hvs⟩ := z.get ok inv
  refine pyIter_sq sq ?_
  have hlt := sq.lt
  have hne : l ≠ s.heap.objs.size := Nat.ne_of_lt hlt
  have hb : ∀ b ∈ [s.heap.objs.size, l], b < (s.heap.push (sqObj sd.isL l)).objs.size := fun b hb => by
    rw [Heap.size_push]
    simp only [List.mem_cons, List.not_mem_nil, or_false] at hb
    rcases hb with rfl | rfl
    · exact Nat.lt_succ_self _
    · exact Nat.lt_succ_of_lt hlt
  have hk : ∀ b o, s.heap.get? b = some o → (s.heap.push (sqObj sd.isL l)).get? b = some o := fun b o e => Heap.get?_push_of_some _ e
  have hI : s.heap.get? s.heap.objs.size = none := none_of_ge (Nat.le_refl _)
  have hit : SqIt sd.isL (s.heap.push (sqObj sd.isL l)) s.heap.objs.size l 0 := sqObj_it (Heap.get?_push_size _ rfl)
  have hsq : SqOf sd.isL (s.heap.push (sqObj sd.isL l)) l vs.toArray := sq.push _
  cases hL : sd.isL with
  | true =>
    rw [hL] at hit hsq hb hk
    have W := Walks.list (prog := c.prog) (w := c.w) hh s.heap.objs.size l hne vs.toArray
    simp only [List.size_toArray, List.getElem?_toArray] at W
    exact h l _ vs _ _ rfl W ⟨hit, hsq⟩ hb hk hI hvs
  | false =>
    rw [hL] at hit hsq hb hk
    have W := Walks.tuple (prog := c.prog) (w := c.w) hh s.heap.objs.size l hne vs.toArray
    simp only [List.size_toArray, List.getElem?_toArray] at W
    exact h l _ vs _ _ rfl W ⟨hit, hsq⟩ hb hk hI hvs

theorem walk_end {s : Shared} {h1 h' : Heap} {I : Addr} {tk : Nat} {v : Value} {d : D} (ok : Ok c A fr σ s.heap) (k1 : ∀ b o, s.heap.get? b = some o → h1.get? b = some o) (hI : s.heap.get? I = none) (k2 : ∀ b o, b ∉ [I] → h1.get? b = some o → h'.get? b = some o)
    (hv : V (keys σ ++ fr) h' d v) (h : Q d σ) : ∃ b σ', Post (Fo none) fr σ s { s with heap := h', toks := tk } σ' ∧ Ok c A fr σ' ({ s with heap := h', toks := tk } : Shared).heap ∧ V (keys σ' ++ fr) ({ s with heap := h', toks := tk } : Shared).heap b v ∧ Q b σ' := by
  have k : ∀ b o, s.heap.get? b = some o → h'.get? b = some o := fun b o e => k2 b o (fun z => by rw [List.mem_singleton.mp z, hI] at e; cases e) (k1 b o e)
  exact ⟨d, σ, Post.keeps k, ok.keeps k, hv, h⟩

theorem ints_get {K : List Addr} {h : Heap} {is : List Int} {vs : List Value} (hv : Vs K h (is.map D.int) vs) {i : Nat} {v : Value} (e : vs[i]? = some v) : ∃ t, v = .int (is[i]?.getD 0) t := by
  obtain ⟨d, hd, hV⟩ := hv.get e
  rw [List.getElem?_map] at hd
  cases hi : is[i]? with
  | none => rw [hi] at hd; cases hd
  | some n => rw [hi] at hd; cases hd; exact hV.toInt
theorem bools_get {K : List Addr} {h : Heap} {bs : List Bool} {vs : List Value} (hv : Vs K h (bs.map D.bool) vs) {i : Nat} {v : Value} (e : vs[i]? = some v) : v = .bool (bs[i]?.getD false) := by
  obtain ⟨d, hd, hV⟩ := hv.get e
  rw [List.getElem?_map] at hd
  cases hi : bs[i]? with
  | none => rw [hi] at hd; cases hd
  | some n => rw [hi] at hd; cases hd; exact hV.toBool

theorem range_all (bs : List Bool) : (List.range bs.length).all (fun i => bs[i]?.getD false) = bs.all id := by
  rw [Bool.eq_iff_iff, List.all_eq_true, List.all_eq_true]
  constructor
  · intro h b hb
    obtain ⟨i, hi, e⟩ := List.mem_iff_getElem.mp hb
    have := h i (List.mem_range.mpr hi)
    simp only [List.getElem?_eq_getElem hi, Option.getD_some, e] at this
    exact this
  · intro h i hi
    have hi := List.mem_range.mp hi
    simp only [List.getElem?_eq_getElem hi, Option.getD_some]
    exact h _ (List.getElem_mem hi)
theorem range_any (bs : List Bool) : (List.range bs.length).any (fun i => bs[i]?.getD false) = bs.any id := by
  rw [Bool.eq_iff_iff, List.any_eq_true, List.any_eq_true]
  constructor
  · rintro ⟨i, hi, h⟩
    have hi := List.mem_range.mp hi
    simp only [List.getElem?_eq_getElem hi, Option.getD_some] at h
    exact ⟨_, List.getElem_mem hi, h⟩
  · rintro ⟨b, hb, h⟩
    obtain ⟨i, hi, e⟩ := List.mem_iff_getElem.mp hb
    refine ⟨i, List.mem_range.mpr hi, ?_⟩
    simp only [List.getElem?_eq_getElem hi, Option.getD_some, e]
    exact h

theorem call_all {sd : SD} {bs : List Bool} {s : Shared} {v : Value} (hh : A.handled = none) (hd : sd.ds = bs.map D.bool) (inv : sd.inv σ) (ok : Ok c A fr σ s.heap) (hv : V (keys σ ++ fr) s.heap sd.d v) (h : Q (.bool (bs.all id)) σ) : W c A none fr σ (call (.builtin "all") [v]) V Q X s := by
  refine call_all_walk (sd_walk (B := A.in1) hh ok hv inv fun l I vs St h1 e W st hb k1 hI hvs => ?_)
  rw [hd] at hvs
  have hl : vs.length = bs.length := by rw [hvs.length]; simp
  refine ⟨I, _, _, _, _, _, fun i => bs[i]?.getD false, rfl, W, st, fun i v s Q E hp hq => ?_, fun h' tk hk => ?_⟩
  · rw [bools_get hvs hp]; exact wpAny_truthy_bool hq
  · refine walk_end ok k1 hI hk V.ofBool ?_
    rw [hl, range_all]; exact h
theorem call_any {sd : SD} {bs : List Bool} {s : Shared} {v : Value} (hh : A.handled = none) (hd : sd.ds = bs.map D.bool) (inv : sd.inv σ) (ok : Ok c A fr σ s.heap) (hv : V (keys σ ++ fr) s.heap sd.d v) (h : Q (.bool (bs.any id)) σ) : W c A none fr σ (call (.builtin "any") [v]) V Q X s := by
  refine call_any_walk (sd_walk (B := A.in1) hh ok hv inv fun l I vs St h1 e W st hb k1 hI hvs => ?_)
  rw [hd] at hvs
  have hl : vs.length = bs.length := by rw [hvs.length]; simp
  refine ⟨I, _, _, _, _, _, fun i => bs[i]?.getD false, rfl, W, st, fun i v s Q E hp hq => ?_, fun h' tk hk => ?_⟩
  · rw [bools_get hvs hp]; exact wpAny_truthy_bool hq
  · refine walk_end ok k1 hI hk V.ofBool ?_
    rw [hl, range_any]; exact h
end
end Mine
set_option linter.unusedVariables false
set_option linter.unusedSimpArgs false
set_option autoImplicit false
namespace Mine
open PySem PySem.Calls PyProof.Rows

def minL : List Int → Int
  | [] => 0
  | a :: r => r.foldl min a
def maxL : List Int → Int
  | [] => 0
  | a :: r => r.foldl max a
theorem argBest_max (a : Int) (r : List Int) : ∀ n, n < (a :: r).length → ((a :: r)[argBest (fun i j => decide ((a :: r)[j]?.getD 0 < (a :: r)[i]?.getD 0)) n]?.getD 0) = maxL ((a :: r).take (n + 1)) ∧ argBest (fun i j => decide ((a :: r)[j]?.getD 0 < (a :: r)[i]?.getD 0)) n ≤ n
  | 0, _ => by simp [argBest, maxL]
  | n + 1, h => by
    obtain ⟨ih, ih2⟩ := argBest_max a r n (by omega)
    have e : (a :: r).take (n + 2) = (a :: r).take (n + 1) ++ [(a :: r)[n + 1]] := List.take_succ_eq_append_getElem h
    have e2 : maxL ((a :: r).take (n + 2)) = max (maxL ((a :: r).take (n + 1))) ((a :: r)[n + 1]) := by
      rw [e]
      simp only [List.take_succ_cons, maxL, List.cons_append, List.foldl_append, List.foldl_cons, List.foldl_nil]
    rw [e2, argBest]
    by_cases q : decide ((a :: r)[argBest (fun i j => decide ((a :: r)[j]?.getD 0 < (a :: r)[i]?.getD 0)) n]?.getD 0 < (a :: r)[n + 1]?.getD 0) = true
    · rw [if_pos q]
      refine ⟨?_, Nat.le_refl _⟩
      have q' := of_decide_eq_true q
      rw [ih] at q'
      simp only [List.getElem?_eq_getElem h, Option.getD_some] at q' ⊢
      omega
    · rw [if_neg q]
      refine ⟨?_, Nat.le_succ_of_le ih2⟩
      have q' : ¬ _ := fun z => q (decide_eq_true z)
      rw [ih] at q'
      rw [ih]
      simp only [List.getElem?_eq_getElem h, Option.getD_some] at q'
      omega

section
variable {c : Cx} {A : Around} {fr : List Addr} {σ : Sto} {X : Addr → Sto → Prop} {env : Env} {m : Vars} {Q : D → Sto → Prop}

theorem call_max {sd : SD} {is : List Int} {s : Shared} {v : Value} (hh : A.handled = none) (hd : sd.ds = is.map D.int) (hne : is ≠ []) (inv : sd.inv σ) (ok : Ok c A fr σ s.heap) (hv : V (keys σ ++ fr) s.heap sd.d v) (h : Q (.int (maxL is)) σ) : W c A none fr σ (call (.builtin "max") [v]) V Q X s := by
  refine call_max_walk (sd_walk (B := A.in1) hh ok hv inv fun l I vs St h1 e W st hb k1 hI hvs => ?_)
  rw [hd] at hvs
  have hl : vs.length = is.length := by rw [hvs.length]; simp
  cases is with
  | nil => exact absurd rfl hne
  | cons a r =>
    refine ⟨I, _, _, _, _, _, fun i j => decide ((a :: r)[j]?.getD 0 < (a :: r)[i]?.getD 0), rfl, W, st, hb, by rw [hl]; simp, fun i j vi vj s Q E h1 h2 hq => ?_, fun v h' tk hp hk => ?_⟩
    · obtain ⟨t, rfl⟩ := ints_get hvs h1; obtain ⟨u, rfl⟩ := ints_get hvs h2
      exact PyProof.Rows.gt_int hq
    · obtain ⟨t, rfl⟩ := ints_get hvs hp
      refine walk_end ok k1 hI hk V.ofInt ?_
      have e1 : vs.length - 1 = r.length := by rw [hl]; simp
      have := (argBest_max a r r.length (by simp)).1
      rw [e1, this]
      have e2 : (a :: r).take (r.length + 1) = a :: r := by rw [List.take_of_length_le]; simp
      rw [e2]; exact h

theorem call_len {sd : SD} {s : Shared} {v : Value} (inv : sd.inv σ) (ok : Ok c A fr σ s.heap) (hv : V (keys σ ++ fr) s.heap sd.d v) (hfit : sd.ds.length < 2 ^ 62) (h : Q (.int sd.ds.length) σ) : W c A none fr σ (call (.builtin "len") [v]) V Q X s := by
  obtain ⟨l, rfl, z⟩ := SD.of_v hv
  obtain ⟨vs, sq, hvs⟩ := z.get ok inv
  have hl := hvs.length
  have hq : ∃ b σ', Post (Fo none) fr σ s { s with toks := s.toks + 1 + 1 } σ' ∧ Ok c A fr σ' ({ s with toks := s.toks + 1 + 1 } : Shared).heap ∧ V (keys σ' ++ fr) ({ s with toks := s.toks + 1 + 1 } : Shared).heap b (.int vs.toArray.size (s.toks + 1)) ∧ Q b σ' := ⟨.int sd.ds.length, σ, Post.tok .., ok, by rw [List.size_toArray, hl]; exact V.ofInt, h⟩
  have hfit' : (vs.toArray.size : Int) < 2 ^ 63 := by rw [List.size_toArray, hl]; omega
  cases hL : sd.isL with
  | true => rw [hL] at sq; exact Calls.call_len_list sq hfit' hq
  | false => rw [hL] at sq; exact PyProof.Rows.len_tuple sq hfit' hq

def idx (k : Int) (n : Nat) : Nat := if k < 0 then (k + n).toNat else k.toNat
def WSb (c : Cx) (A : Around) (fr : List Addr) (σ : Sto) (value slice : Expr) (d1 d2 : D) (Q : D → Sto → Prop) (X : Addr → Sto → Prop) : Prop :=
  ∀ v1 v2 s, Ok c A fr σ s.heap → V (keys σ ++ fr) s.heap d1 v1 → V (keys σ ++ fr) s.heap d2 v2 → W c A none fr σ (subscriptTail value slice v1 v2) V Q X s
theorem WE.sub {value slice : Expr} {pos : Pos} (h : WE c A fr env m σ value (fun d1 σ1 => WE c A fr env m σ1 slice (fun d2 σ2 => WSb c A fr σ2 value slice d1 d2 Q X) X) X) : WE c A fr env m σ (.Subscript value slice pos) Q X := fun s ok fm => by
  refine Subscript_ (wpAny_mono (h s ok fm) (fun v1 s1 ⟨d1, σ1, p1, ok1, x1, q1⟩ => ?_) fun _ _ x => x)
  refine wpAny_mono (q1 s1 ok1 (fm.move p1)) (fun v2 s2 ⟨d2, σ2, p2, ok2, x2, q2⟩ => ?_) fun _ _ x => Ex.back p1 x fun _ _ y => y
  exact wpAny_mono (q2 v1 v2 s2 ok2 (p2.v x1) x2) (fun v3 s3 ⟨d3, σ3, p3, ok3, x3, q3⟩ => ⟨d3, σ3, (p1.trans p2).trans p3, ok3, x3, q3⟩) fun _ _ x => Ex.back (p1.trans p2) x fun _ _ y => y
theorem WSb.item {value slice : Expr} {sd : SD} {k : Int} {d : D} (inv : sd.inv σ) (h0 : -(2 ^ 63) ≤ k) (h1 : k < 2 ^ 63) (hk : -(sd.ds.length : Int) ≤ k) (hi : sd.ds[idx k sd.ds.length]? = some d) (h : Q d σ)
    (hs : ∀ l u, subscripted slice false (.ref l) (.int k u) = operate [.ref l, .int k u] (getItem (.ref l) (.int k u)) := by intro _ _; with_unfolding_all rfl) : WSb c A fr σ value slice sd.d (.int k) Q X := fun v1 v2 s ok x1 x2 => by
  obtain ⟨l, rfl, z⟩ := SD.of_v x1
  obtain ⟨u, rfl⟩ := x2.toInt
  obtain ⟨vs, sq, hvs⟩ := z.get ok inv
  have hl := hvs.length
  obtain ⟨v, e, hV⟩ := hvs.got hi
  have hq : ∃ b σ', Post (Fo none) fr σ s s σ' ∧ Ok c A fr σ' s.heap ∧ V (keys σ' ++ fr) s.heap b v ∧ Q b σ' := ⟨d, σ, Post.refl .., ok, hV, h⟩
  unfold idx at e
  cases hL : sd.isL with
  | true =>
    rw [hL] at sq
    refine tail_any sq.typeIs slot_list_getitem.lookup ?_ (hs l u)
    by_cases hneg : k < 0
    · rw [if_pos hneg] at e
      exact wpAny_getItem_list_neg sq hneg (by rw [List.size_toArray, hl]; exact hk) h0 (by rw [List.size_toArray, hl]; simpa using e) hq
    · rw [if_neg hneg] at e
      exact wpAny_getItem_list sq (by omega) h1 (by simpa using e) hq
  | false =>
    rw [hL] at sq
    have hj : seqIndex? k vs.length = some (if k < 0 then (k + sd.ds.length).toNat else k.toNat) := by
      rw [hl]
      by_cases hneg : k < 0
      · rw [if_pos hneg]; exact seqIndex_neg hneg hk
      · rw [if_neg hneg]
        have hlt : k.toNat < sd.ds.length := by
          unfold idx at hi; rw [if_neg hneg] at hi
          exact (List.getElem?_eq_some_iff.mp hi).1
        have hc : (0 ≤ k ∧ k < (sd.ds.length : Int)) := ⟨by omega, by omega⟩
        simp [seqIndex?, hneg, hc.1, hc.2]
    exact item_tupleT (l := vs) sq h0 h1 hj e hq (hs l u)

theorem WE.list {elts : List Expr} {pos : Pos} (h : WA c A fr env m σ elts (fun ds σ1 => ds.length ≤ sizeLine ∧ QL Q ds σ1) X) : WE c A fr env m σ (.List elts pos) Q X := fun s ok fm => by
  refine wpAny_List_spliced (wpAny_mono (h pos s ok fm) (fun vs s1 ⟨ds, σ1, p1, ok1, x1, hl, q1⟩ => ⟨by rw [x1.length]; exact hl, ?_⟩) fun _ _ x => x)
  have hn : ∀ a ∈ [s1.heap.objs.size], s1.heap.get? a = none := fun a ha => by rw [List.mem_singleton.mp ha]; exact none_of_ge (Nat.le_refl _)
  have k1 : ∀ b o, s1.heap.get? b = some o → (s1.heap.push { cls := .type "list", data := .seq vs.toArray }).get? b = some o := fun b o e => Heap.get?_push_of_some _ e
  have g : (s1.heap.push { cls := .type "list", data := .seq vs.toArray }).get? s1.heap.objs.size = some (lstObj vs 0) := Heap.get?_push_size _ rfl
  have oka : Ok c A ([s1.heap.objs.size] ++ fr) σ1 (s1.heap.push { cls := .type "list", data := .seq vs.toArray }) := ok1.more k1 hn (fun a ha => by rw [List.mem_singleton.mp ha]; exact ⟨_, g⟩) (by simp)
  have pf : Post [] fr σ s { s1 with heap := s1.heap.push { cls := .type "list", data := .seq vs.toArray }, toks := s1.toks } σ1 := p1.trans (Post.keeps k1)
  exact QL.use (G := none) (s' := { s1 with heap := s1.heap.push { cls := .type "list", data := .seq vs.toArray }, toks := s1.toks }) q1 pf oka ok1.frames_in g (Vs.move (K := keys σ1 ++ fr) (fun b o _ e => k1 b o e) (less_add hn) _ _ x1) (none_back p1 (hn _ (by simp)))
theorem WE.tuple {elts : List Expr} {k : Nat} {pos : Pos} (h : WA c A fr env m σ elts (fun ds σ1 => ds.length ≤ sizeLine ∧ Q (.tup ds) σ1) X) : WE c A fr env m σ (.Tuple elts k pos) Q X := fun s ok fm => by
  refine wpAny_Tuple_spliced (wpAny_mono (h pos s ok fm) (fun vs s1 ⟨ds, σ1, p1, ok1, x1, hl, q1⟩ => ⟨by rw [x1.length]; exact hl, ?_⟩) fun _ _ x => x)
  have k1 : ∀ b o, s1.heap.get? b = some o → (s1.heap.push { cls := .type "tuple", data := .seq vs.toArray }).get? b = some o := fun b o e => Heap.get?_push_of_some _ e
  refine ⟨.tup ds, σ1, p1.trans (Post.keeps (tk := s1.toks) k1), ok1.keeps k1, ?_, q1⟩
  unfold V
  refine ⟨_, vs, 0, rfl, fun z => ?_, Heap.get?_push_size _ rfl, Vs.move (K := keys σ1 ++ fr) (fun b o _ e => k1 b o e) (fun a ha => .inl ha) _ _ x1⟩
  exact Nat.lt_irrefl _ (ok1.lt z)

end
end Mine
set_option linter.unusedVariables false
set_option linter.unusedSimpArgs false
set_option autoImplicit false
namespace Mine
open PySem PySem.Calls PyProof.Rows

theorem Room.mono {n k : Nat} {A : Around} (r : Room n A) (h : k ≤ n) : Room k A := by
  obtain ⟨j, rfl⟩ := Nat.exists_eq_add_of_le h
  exact r.less
theorem kindOf_of {env : Env} {sc : Scope} {x : Str} {k : NameKind} (h : env.scope = sc) (e : sc.names.lookup x = some k) : env.kindOf x = some k := by
  unfold Env.kindOf; rw [h]; exact e

def recOf : Stmt → Option PySem.DefRec
  | .FunctionDef name params body _ _ _ scope _ _ pos => some ⟨name, params, body, scope, pos⟩
  | _ => none

structure Tp (c : Cx) (B : List Stmt) (bs : List (Str × Value)) : Prop where
  good : c.Good
  nolimit : c.h0.NoLimit
  fn : ∀ d ∈ B.filterMap recOf, ∃ a o pm code doc, c.mg d.name = some (.ref a) ∧ c.h0.get? a = some o ∧ o.data = .func (docDef d.name d.params d.body d.scope pm code doc) ∧ c.h0.CodeRec code d.name
  bn : ∀ x v, bs.lookup x = some v → c.mg x = none ∧ c.mb x = some v

def WF (c : Cx) (P : Around → Prop) (f : Str) (ds : List D) (σ : Sto) (Q : D → Sto → Prop) (X : Addr → Sto → Prop) : Prop :=
  ∀ a, c.mg f = some (.ref a) → WC c P (.ref a) ds σ Q X
def Dfn (c : Cx) (f : Str) : Prop := ∃ a o fd, c.mg f = some (.ref a) ∧ c.h0.get? a = some o ∧ o.data = .func fd

def fnOk (scope : Scope) (ps : List Str) : Bool :=
  decide ps.Nodup && ps.all (fun x => scope.names.lookup x == some .local || scope.names.lookup x == some .cell) && decide ((cellsFrom 0 scope.names []).map (·.1)).Nodup &&
    scope.names.all (fun y => y.2 != .free) && scope.kind == .function && !scope.isCoroutine && !scope.isGenerator

theorem lookup_mem' {x : Str} {k : NameKind} : ∀ {l : List (Str × NameKind)}, l.lookup x = some k → ∃ y, (y, k) ∈ l
  | [], h => by simp at h
  | (y, j) :: r, h => by
    rw [List.lookup_cons] at h
    split at h
    · injection h with h; subst h; exact ⟨y, .head _⟩
    · obtain ⟨z, hz⟩ := lookup_mem' h; exact ⟨z, .tail _ hz⟩

section
variable {c : Cx} {A : Around} {fr : List Addr} {σ : Sto} {X : Addr → Sto → Prop} {Q : D → Sto → Prop} {env : Env} {m : Vars} {B : List Stmt} {bs : List (Str × Value)}

theorem WF.of {d : PySem.DefRec} {ps : List Str} {n : Nat} {f : Str} {ds : List D} (T : Tp c B bs) (hd : d ∈ B.filterMap recOf) (hf : d.name = f)
    (hb : ∀ pm code doc vals, vals.length = ps.length → bindArgs (docDef d.name d.params d.body d.scope pm code doc) ⟨vals, []⟩ = pure (ps.zip vals)) (hok : fnOk d.scope ps = true) (hl : ds.length = ps.length)
    (h : ∀ A fr env, Room n A → env.scope = d.scope → Fe A env d.scope → WS c A (Fa env ++ fr) env (ps.zip ds) σ d.body (fun _ σ' => Q .none σ') Q X) : WF c (Room (n + 1)) f ds σ Q X := fun a ha => by
  subst hf
  obtain ⟨a', o, pm, code, doc, h1, h2, h3, h4⟩ := T.fn d hd
  obtain rfl : a' = a := by rw [h1] at ha; injection ha with ha; injection ha
  simp only [fnOk, Bool.and_eq_true, decide_eq_true_eq, List.all_eq_true, Bool.or_eq_true, beq_iff_eq, bne_iff_ne, Bool.not_eq_true'] at hok
  obtain ⟨⟨⟨⟨⟨⟨k1, k2⟩, k3⟩, k4⟩, k5⟩, k6⟩, k7⟩ := hok
  refine WC.of (P' := Room n) (ps := ps) (body := d.body) (scope := d.scope) ⟨⟨o, _, h2, h3, rfl, rfl, rfl, rfl, rfl, h4, hb pm code doc⟩, T.nolimit, k1, k2, k3, fun x e => ?_, k5, k6, k7⟩ (fun A env r => ⟨?_, r.deeper⟩) hl fun A fr env r fe => h A fr env r fe.scope fe
  · obtain ⟨y, hy⟩ := lookup_mem' e
    exact k4 _ hy rfl
  · have := r.1.1
    have e : recursionLimit = 1000 := rfl
    omega
theorem rec_mem {B : List Stmt} {i : Nat} {d : PySem.DefRec} (h : (B[i]?).bind recOf = some d) : d ∈ B.filterMap recOf := by
  obtain ⟨st, h1, h2⟩ := Option.bind_eq_some_iff.mp h
  exact List.mem_filterMap.mpr ⟨st, List.mem_of_getElem? h1, h2⟩
theorem WF.by {name : Str} {params : Arguments} {body : List Stmt} {scope : Scope} {dpos : Pos} (i : Nat) {ps : List Str} {n : Nat} {ds : List D} (T : Tp c B bs) (hd : (B[i]?).bind recOf = some ⟨name, params, body, scope, dpos⟩)
    (hb : ∀ pm code doc vals, vals.length = ps.length → bindArgs (docDef name params body scope pm code doc) ⟨vals, []⟩ = pure (ps.zip vals)) (hok : fnOk scope ps = true) (hl : ds.length = ps.length)
    (h : ∀ A fr env, Room n A → A.handled = none → env.scope = scope → Fe A env scope → WS c A (Fa env ++ fr) env (ps.zip ds) σ body (fun _ σ' => Q .none σ') Q X) : WF c (Room (n + 1)) name ds σ Q X :=
  WF.of T (rec_mem hd) rfl hb hok hl fun A fr env r hs fe => h A fr env r r.2 hs fe
theorem bind1 {name x : Str} {params : Arguments} {body : List Stmt} {scope : Scope} (h : ∀ pm code doc a, bindArgs (docDef name params body scope pm code doc) ⟨[a], []⟩ = pure ([x].zip [a])) : ∀ pm code doc vals, vals.length = [x].length → bindArgs (docDef name params body scope pm code doc) ⟨vals, []⟩ = pure ([x].zip vals) := fun pm code doc vals e => by
  match vals, e with
  | [a], _ => exact h pm code doc a
theorem bind2 {name x y : Str} {params : Arguments} {body : List Stmt} {scope : Scope} (h : ∀ pm code doc a b, bindArgs (docDef name params body scope pm code doc) ⟨[a, b], []⟩ = pure ([x, y].zip [a, b])) : ∀ pm code doc vals, vals.length = [x, y].length → bindArgs (docDef name params body scope pm code doc) ⟨vals, []⟩ = pure ([x, y].zip vals) := fun pm code doc vals e => by
  match vals, e with
  | [a, b], _ => exact h pm code doc a b
theorem bind3 {name x y z : Str} {params : Arguments} {body : List Stmt} {scope : Scope} (h : ∀ pm code doc a b e, bindArgs (docDef name params body scope pm code doc) ⟨[a, b, e], []⟩ = pure ([x, y, z].zip [a, b, e])) : ∀ pm code doc vals, vals.length = [x, y, z].length → bindArgs (docDef name params body scope pm code doc) ⟨vals, []⟩ = pure ([x, y, z].zip vals) := fun pm code doc vals e => by
  match vals, e with
  | [a, b, e], _ => exact h pm code doc a b e
theorem Dfn.by {name : Str} {params : Arguments} {body : List Stmt} {scope : Scope} {dpos : Pos} (i : Nat) (T : Tp c B bs) (hd : (B[i]?).bind recOf = some ⟨name, params, body, scope, dpos⟩) : Dfn c name := by
  obtain ⟨a, o, pm, code, doc, h1, h2, h3, h4⟩ := T.fn _ (rec_mem hd)
  exact ⟨a, o, _, h1, h2, h3⟩
theorem WF.at {k n : Nat} {f : Str} {ds : List D} (h : WF c (Room k) f ds σ Q X) (hk : k ≤ n) : WF c (Room n) f ds σ Q X := fun a ha A fr s vals hA ok hv => h a ha A fr s vals (hA.mono hk) ok hv

theorem WE.callN (T : Tp c B bs) {f : Str} {fp pos : Pos} {args : List Expr} {n : Nat} (r : Room n A) (hk : env.kindOf f = some .globalImplicit) (hf : Dfn c f)
    (h : WA c A fr env m σ args (fun ds σ1 => WF c (Room n) f ds σ1 Q X) X) (hp : plainArgs args = true := by rfl) (hdb : (f == ("__debug__" : Str)) = false := by decide) : WE c A fr env m σ (.Call (.Name f fp) args [] pos) Q X := by
  obtain ⟨a, o, fd, h1, h2, h3⟩ := hf
  exact WE.callF T.good (P := Room n) r hk h1 h2 h3 (fun p s ok fm => (h p s ok fm).mono (fun ds σ1 w => w a h1) fun _ _ x => x) hp hdb

def At1 (c : Cx) (A : Around) (fr : List Addr) (σ : Sto) (f : Value) (ds : List D) (Q : D → Sto → Prop) (X : Addr → Sto → Prop) : Prop :=
  ∀ s vals, Ok c A fr σ s.heap → Vs (keys σ ++ fr) s.heap ds vals → W c A none fr σ (call f vals) V Q X s
theorem WE.callI (T : Tp c B bs) {f : Str} {fp pos : Pos} {args : List Expr} {id : String} (hk : env.kindOf f = some .globalImplicit) (hb : bs.lookup f = some (.builtin id))
    (h : WA c A fr env m σ args (fun ds σ1 => At1 c A fr σ1 (.builtin id) ds Q X) X) (hp : plainArgs args = true := by rfl) (hdb : (f == ("__debug__" : Str)) = false := by decide) : WE c A fr env m σ (.Call (.Name f fp) args [] pos) Q X :=
  WE.callB T.good hk (T.bn _ _ hb).1 (T.bn _ _ hb).2 h hp hdb
theorem WE.callY (T : Tp c B bs) {f : Str} {fp pos : Pos} {args : List Expr} {id : String} (hk : env.kindOf f = some .globalImplicit) (hb : bs.lookup f = some (.type id))
    (h : WA c A fr env m σ args (fun ds σ1 => At1 c A fr σ1 (.type id) ds Q X) X) (hp : plainArgs args = true := by rfl) (hdb : (f == ("__debug__" : Str)) = false := by decide) : WE c A fr env m σ (.Call (.Name f fp) args [] pos) Q X :=
  WE.callT T.good hk (T.bn _ _ hb).1 (T.bn _ _ hb).2 h hp hdb
theorem At1.one {f : Value} {d : D} (h : ∀ s v, Ok c A fr σ s.heap → V (keys σ ++ fr) s.heap d v → W c A none fr σ (call f [v]) V Q X s) : At1 c A fr σ f [d] Q X := fun s vals ok hv => by
  unfold Vs at hv
  obtain ⟨v, vs, rfl, h1, h2⟩ := hv
  unfold Vs at h2; subst h2
  exact h s v ok h1
theorem At1.two {f : Value} {d e : D} (h : ∀ s v u, Ok c A fr σ s.heap → V (keys σ ++ fr) s.heap d v → V (keys σ ++ fr) s.heap e u → W c A none fr σ (call f [v, u]) V Q X s) : At1 c A fr σ f [d, e] Q X := fun s vals ok hv => by
  unfold Vs at hv
  obtain ⟨v, vs, rfl, h1, h2⟩ := hv
  unfold Vs at h2
  obtain ⟨u, us, rfl, h3, h4⟩ := h2
  unfold Vs at h4; subst h4
  exact h s v u ok h1 h3

theorem At1.all {sd : SD} {l : List Bool} (hh : A.handled = none) (hd : sd.ds = l.map D.bool) (inv : sd.inv σ) (h : Q (.bool (l.all id)) σ) : At1 c A fr σ (.builtin "all") [sd.d] Q X := .one fun s v ok hv => call_all hh hd inv ok hv h
theorem At1.any {sd : SD} {l : List Bool} (hh : A.handled = none) (hd : sd.ds = l.map D.bool) (inv : sd.inv σ) (h : Q (.bool (l.any id)) σ) : At1 c A fr σ (.builtin "any") [sd.d] Q X := .one fun s v ok hv => call_any hh hd inv ok hv h
theorem At1.max {sd : SD} {l : List Int} (hh : A.handled = none) (hd : sd.ds = l.map D.int) (hne : l ≠ []) (inv : sd.inv σ) (h : Q (.int (maxL l)) σ) : At1 c A fr σ (.builtin "max") [sd.d] Q X := .one fun s v ok hv => call_max hh hd hne inv ok hv h
theorem At1.len {sd : SD} (inv : sd.inv σ) (hfit : sd.ds.length < 2 ^ 62) (h : Q (.int sd.ds.length) σ) : At1 c A fr σ (.builtin "len") [sd.d] Q X := .one fun s v ok hv => call_len inv ok hv hfit h
theorem At1.isi {d : D} {T : String} {b : Bool} (hT : T ∈ isiTypes) (hb : isT σ T d = some b) (h : Q (.bool b) σ) : At1 c A fr σ (.builtin "isinstance") [d, .typ T] Q X := .two fun s v u ok hv hu => by
  unfold V at hu; subst hu
  exact call_isi hT hb ok hv h
end
end Mine
set_option linter.unusedVariables false
set_option linter.unusedSimpArgs false
set_option autoImplicit false
namespace Mine
open PySem PySem.Calls PyProof.Rows

section
variable {c : Cx} {A : Around} {fr : List Addr} {σ : Sto} {X : Addr → Sto → Prop} {Q : D → Sto → Prop} {env : Env} {m : Vars} {B : List Stmt} {bs : List (Str × Value)}

theorem filterMap_take_succ {α β : Type} {F : α → Option β} {l : List α} {k : Nat} {x : α} (h : l[k]? = some x) : (l.take (k + 1)).filterMap F = (l.take k).filterMap F ++ (F x).toList := by
  obtain ⟨hk, rfl⟩ := List.getElem?_eq_some_iff.mp h
  rw [List.take_succ_eq_append_getElem hk, List.filterMap_append]
  cases hF : F l[k] <;> simp [hF]

theorem Turns.of {α : Type} {l : List α} {g : α → Vars} {Inv : Sto → Prop} {scope : Scope} {ifs : List Expr} {elt : Expr} {Z : List D → Sto → Prop} (F : α → Option D) (hloc : ∀ x ∈ l, ∀ y ∈ g x, scope.names.lookup y.1 = some .local) (hinv : Inv σ) (hsz : l.length ≤ sizeLine)
    (step : ∀ x ∈ l, ∀ fr' cenv, cenv.scope = relab scope env.scope → WIfs c A fr' cenv (g x ++ capt scope m) σ ifs (fun b σ2 => if b = true then WE c A fr' cenv (g x ++ capt scope m) σ2 elt (fun d σ3 => σ3 = σ ∧ F x = some d) NoX else σ2 = σ ∧ F x = none) NoX)
    (h : Z (l.filterMap F) σ) : Turns c A env m scope ifs elt Z (l.map g) Inv σ := by
  refine ⟨fun x hx y hy => ?_, fun k ds σ' => σ' = σ ∧ ds = (l.take k).filterMap F, ⟨rfl, by simp⟩, fun k ds σ' hL => ?_, fun k x ds σ' hk hL fr' cenv hc => ?_, fun ds σ' hL => ?_⟩
  · obtain ⟨z, hz, rfl⟩ := List.mem_map.mp hx
    exact hloc z hz y hy
  · obtain ⟨rfl, rfl⟩ := hL
    refine ⟨hinv, Nat.le_trans (List.length_filterMap_le _ _) (Nat.le_trans ?_ hsz)⟩
    rw [List.length_take]; exact Nat.min_le_right _ _
  · obtain ⟨rfl, rfl⟩ := hL
    rw [List.getElem?_map] at hk
    obtain ⟨z, hz, rfl⟩ := Option.map_eq_some_iff.mp hk
    have hs := step z (List.mem_of_getElem? hz) fr' cenv hc
    refine fun s ok fm => (hs s ok fm).mono (fun b σ2 hb => ?_) fun _ _ x => x
    cases b with
    | true =>
      simp only [if_true] at hb ⊢
      exact hb.mono (fun d σ3 ⟨e1, e2⟩ => ⟨e1, by rw [filterMap_take_succ hz, e2]; rfl⟩) fun _ _ x => x
    | false =>
      simp only [Bool.false_eq_true, if_false] at hb ⊢
      exact ⟨hb.1, by rw [filterMap_take_succ hz, hb.2]; simp⟩
  · obtain ⟨rfl, rfl⟩ := hL
    rw [List.length_map, List.take_length]
    exact h
theorem loc1 {scope : Scope} {x : Str} {d : D} (h : scope.names.lookup x = some .local) : ∀ y ∈ [(x, d)], scope.names.lookup y.1 = some .local := fun y hy => by
  rw [List.mem_singleton] at hy; subst hy; exact h
theorem Turns.map {α : Type} {l : List α} {g : α → Vars} {Inv : Sto → Prop} {scope : Scope} {elt : Expr} {Z : List D → Sto → Prop} (F : α → D) (hloc : ∀ x ∈ l, ∀ y ∈ g x, scope.names.lookup y.1 = some .local) (hinv : Inv σ) (hsz : l.length ≤ sizeLine)
    (step : ∀ x ∈ l, ∀ fr' cenv, cenv.scope = relab scope env.scope → WE c A fr' cenv (g x ++ capt scope m) σ elt (fun d σ3 => σ3 = σ ∧ d = F x) NoX)
    (h : Z (l.map F) σ) : Turns c A env m scope [] elt Z (l.map g) Inv σ := by
  refine Turns.of (fun x => some (F x)) hloc hinv hsz (fun x hx fr' cenv hc => WIfs.nil ?_) ?_
  · simp only [if_true]
    exact (step x hx fr' cenv hc).mono (fun d σ3 ⟨e1, e2⟩ => ⟨e1, by rw [e2]⟩) fun _ _ x => x
  · have e : l.filterMap (fun x => some (F x)) = l.map F := List.filterMap_eq_map (f := F) ▸ rfl
    rw [e]; exact h

theorem WIt.range (T : Tp c B bs) (hh : A.handled = none) {f : Str} {fp pos px : Pos} {e : Expr} {x : Str} {Q : List Vars → (Sto → Prop) → Sto → Prop} (hk : env.kindOf f = some .globalImplicit) (hb : bs.lookup f = some (.type "range"))
    (h : WE c A fr env m σ e (fun d σ1 => ∃ n : Int, d = .int n ∧ -(2 ^ 62) ≤ n ∧ n < 2 ^ 62 ∧ Q ((List.range n.toNat).map fun (i : Nat) => [(x, D.int (i : Int))]) (fun _ => True) σ1) X) (hp : plainArgs [e] = true := by rfl) (hdb : (f == ("__debug__" : Str)) = false := by decide) :
    WIt c A fr env m σ (.Call (.Name f fp) [e] [] pos) (.Name x px) Q X := WIt.range1 T.good hh hk (T.bn _ _ hb).1 (T.bn _ _ hb).2 h hp hdb
theorem WIv.seq {α : Type} {sd : SD} {l : List α} {x : Str} {px : Pos} {Q : List Vars → (Sto → Prop) → Sto → Prop} (F : α → D) (hh : A.handled = none) (hd : sd.ds = l.map F) (hi : sd.inv σ) (h : Q (l.map fun i => [(x, F i)]) sd.inv σ) : WIv c A fr env m σ sd.d (.Name x px) Q := by
  have e : sd.ds.map (fun d => [(x, d)]) = l.map fun i => [(x, F i)] := by rw [hd, List.map_map]; rfl
  cases sd with
  | lst ds => exact WIv.lst hh (by have e' : ds.map (fun d => [(x, d)]) = _ := e; rw [e']; exact h)
  | tup ds => exact WIv.tup hh (by have e' : ds.map (fun d => [(x, d)]) = _ := e; rw [e']; exact h)
  | ref a ds => exact WIv.ref hh hi (by have e' : ds.map (fun d => [(x, d)]) = _ := e; rw [e']; exact h)
end
end Mine
set_option linter.unusedVariables false
set_option linter.unusedSimpArgs false
set_option autoImplicit false
namespace Mine
open PySem PySem.Calls PyProof.Rows

mutual
/-- the datum as the library's plain data -/
def D.py : D → Option PyData
  | .none => some .none
  | .bool b => some (.bool b)
  | .int i => some (.int i)
  | .str x => some (.str x)
  | .tup ds => (pyAll ds).map .tuple
  | .lst ds => (pyAll ds).map .list
  | _ => none
def pyAll : List D → Option (List PyData)
  | [] => some []
  | d :: r => (D.py d).bind fun p => (pyAll r).map fun q => p :: q
end

mutual
theorem V.reads {K : List Addr} {h : Heap} : ∀ (d : D) (v : Value) (p : PyData), V K h d v → d.py = some p → ∃ as, Reads h v p as
  | .none, v, p, x, e => by simp only [D.py, Option.some.injEq] at e; unfold V at x; subst x; subst e; exact ⟨_, .none⟩
  | .bool b, v, p, x, e => by simp only [D.py, Option.some.injEq] at e; unfold V at x; subst x; subst e; exact ⟨_, .bool b⟩
  | .int i, v, p, x, e => by simp only [D.py, Option.some.injEq] at e; unfold V at x; obtain ⟨t, rfl⟩ := x; subst e; exact ⟨_, .int i t⟩
  | .str y, v, p, x, e => by simp only [D.py, Option.some.injEq] at e; unfold V at x; obtain ⟨t, rfl⟩ := x; subst e; exact ⟨_, .str y t⟩
  | .tup ds, v, p, x, e => by
    simp only [D.py] at e
    obtain ⟨ps, hp, rfl⟩ := Option.map_eq_some_iff.mp e
    unfold V at x
    obtain ⟨a, vs, n, rfl, nk, g, r⟩ := x
    obtain ⟨as, ra⟩ := Vs.reads ds vs ps r hp
    exact ⟨as, .tuple g rfl rfl (by rw [List.toList_toArray]; exact ra)⟩
  | .lst ds, v, p, x, e => by
    simp only [D.py] at e
    obtain ⟨ps, hp, rfl⟩ := Option.map_eq_some_iff.mp e
    unfold V at x
    obtain ⟨a, vs, n, rfl, nk, g, r⟩ := x
    obtain ⟨as, ra⟩ := Vs.reads ds vs ps r hp
    exact ⟨a :: as, .list g rfl rfl (by rw [List.toList_toArray]; exact ra)⟩
  | .sys C sz ru, v, p, x, e => by simp [D.py] at e
  | .own C dx, v, p, x, e => by simp [D.py] at e
  | .exc C, v, p, x, e => by simp [D.py] at e
  | .typ T, v, p, x, e => by simp [D.py] at e
  | .ref a, v, p, x, e => by simp [D.py] at e
theorem Vs.reads {K : List Addr} {h : Heap} : ∀ (ds : List D) (vs : List Value) (ps : List PyData), Vs K h ds vs → pyAll ds = some ps → ∃ as, ReadsAll h vs ps as
  | [], vs, ps, x, e => by simp only [pyAll, Option.some.injEq] at e; unfold Vs at x; subst x; subst e; exact ⟨_, .nil⟩
  | d :: ds, vs, ps, x, e => by
    simp only [pyAll] at e
    obtain ⟨p, hp, e⟩ := Option.bind_eq_some_iff.mp e
    obtain ⟨q, hq, rfl⟩ := Option.map_eq_some_iff.mp e
    unfold Vs at x
    obtain ⟨v, r, rfl, x1, x2⟩ := x
    obtain ⟨a1, r1⟩ := V.reads d v p x1 hp
    obtain ⟨a2, r2⟩ := Vs.reads ds r q x2 hq
    exact ⟨_, .cons r1 r2⟩
end

structure Py (n : Nat) (d : D) (p : PyData) : Prop where
  py : d.py = some p
  can : p.canLay0 = true
  dep : p.depth ≤ n
structure PyAll (n : Nat) (ds : List D) (ps : List PyData) : Prop where
  py : pyAll ds = some ps
  can : PyData.canLayAll0 ps = true
  dep : PyData.depthAll ps ≤ n
theorem Py.none {n : Nat} : Py (n + 1) .none .none := ⟨rfl, rfl, by simp [PyData.depth]⟩
theorem Py.int {n : Nat} {i : Int} : Py (n + 1) (.int i) (.int i) := ⟨rfl, rfl, by simp [PyData.depth]⟩
theorem Py.tup {n : Nat} {ds : List D} {ps : List PyData} (x : PyAll n ds ps) : Py (n + 1) (.tup ds) (.tuple ps) := ⟨by simp [D.py, x.py], x.can, by simp only [PyData.depth]; exact Nat.succ_le_succ x.dep⟩
theorem Py.lst {n : Nat} {ds : List D} {ps : List PyData} (x : PyAll n ds ps) : Py (n + 1) (.lst ds) (.list ps) := ⟨by simp [D.py, x.py], x.can, by simp only [PyData.depth]; exact Nat.succ_le_succ x.dep⟩
theorem PyAll.nil {n : Nat} : PyAll n [] [] := ⟨rfl, rfl, by simp [PyData.depthAll]⟩
theorem PyAll.cons {n : Nat} {d : D} {p : PyData} {ds : List D} {ps : List PyData} (x : Py n d p) (y : PyAll n ds ps) : PyAll n (d :: ds) (p :: ps) := ⟨by simp [pyAll, x.py, y.py], by simp [PyData.canLayAll0, x.can, y.can], by simp only [PyData.depthAll]; exact Nat.max_le.mpr ⟨x.dep, y.dep⟩⟩
theorem PyAll.map {α : Type} {n : Nat} {F : α → D} {G : α → PyData} : ∀ {l : List α}, (∀ x ∈ l, Py n (F x) (G x)) → PyAll n (l.map F) (l.map G)
  | [], _ => .nil
  | a :: r, h => .cons (h a (.head _)) (PyAll.map fun x hx => h x (.tail _ hx))

inductive PyT (σ : Sto) : Nat → D → PyData → Prop
  | of {n : Nat} {d : D} {p : PyData} (x : Py n d p) : PyT σ n d p
  | ref {n : Nat} {a : Addr} {ds : List D} {ps : List PyData} (m : (a, O.lst ds) ∈ σ) (x : PyAll n ds ps) : PyT σ (n + 1) (.ref a) (.list ps)
theorem PyT.reads {c : Cx} {A : Around} {fr : List Addr} {σ : Sto} {n : Nat} {d : D} {p : PyData} {h : Heap} {v : Value} (x : PyT σ n d p) (ok : Ok c A fr σ h) (hv : V (keys σ ++ fr) h d v) : (∃ as, Reads h v p as) ∧ p.canLay0 = true ∧ p.depth ≤ n := by
  cases x with
  | of x => exact ⟨V.reads d v p hv x.py, x.can, x.dep⟩
  | ref m x =>
    unfold V at hv; subst hv
    obtain ⟨vs, k, g, r⟩ := ok.sto _ m
    obtain ⟨as, ra⟩ := Vs.reads _ vs _ r x.py
    exact ⟨⟨_, .list g rfl rfl (by rw [List.toList_toArray]; exact ra)⟩, x.can, by simp only [PyData.depth]; exact Nat.succ_le_succ x.dep⟩

section
variable {c : Cx} {A : Around} {fr : List Addr} {σ : Sto} {X : Addr → Sto → Prop} {Q : D → Sto → Prop} {env : Env} {m : Vars}

theorem Room.units {n k : Nat} (r : Room n A) (h : k ≤ 90) : A.units + 1 + k < cLine := by
  have := r.1.2
  have e : cLine = 9900 := rfl
  omega

theorem WB.eqD {n k j : Nat} {d e : D} {p q : PyData} (r : Room j A) (x : PyT σ n d p) (y : PyT σ k e q) (h : Q (.bool (PyData.eqv p q)) σ) (hn : n ≤ 90 := by omega) : WB c A fr σ (compareOp .Eq) d e Q X := fun v1 v2 s ok x1 x2 => by
  obtain ⟨⟨as, ra⟩, c1, d1⟩ := x.reads ok x1
  obtain ⟨⟨bs, rb⟩, c2, d2⟩ := y.reads ok x2
  exact SeqAt.compareEq_reads ra rb c1 c2 (by have := r.units hn; have := Nat.min_le_left p.depth q.depth; omega) ⟨_, σ, Post.refl .., ok, V.ofBool, h⟩
theorem WB.neD {n k j : Nat} {d e : D} {p q : PyData} (r : Room j A) (x : PyT σ n d p) (y : PyT σ k e q) (h : Q (.bool (!PyData.eqv p q)) σ) (hn : n ≤ 90 := by omega) : WB c A fr σ (compareOp .NotEq) d e Q X := fun v1 v2 s ok x1 x2 => by
  obtain ⟨⟨as, ra⟩, c1, d1⟩ := x.reads ok x1
  obtain ⟨⟨bs, rb⟩, c2, d2⟩ := y.reads ok x2
  exact SeqAt.compareNe_reads ra rb c1 c2 (by have := r.units hn; have := Nat.min_le_left p.depth q.depth; omega) ⟨_, σ, Post.refl .., ok, V.ofBool, h⟩
theorem WB.notInT {n k j : Nat} {d e : D} {p : PyData} {qs : List PyData} (r : Room j A) (x : PyT σ n d p) (y : PyT σ k e (.tuple qs)) (h : Q (.bool (!qs.any fun y => PyData.eqv y p)) σ) (hn : n ≤ 90 := by omega) : WB c A fr σ (compareOp .NotIn) d e Q X := fun v1 v2 s ok x1 x2 => by
  obtain ⟨⟨as, ra⟩, c1, d1⟩ := x.reads ok x1
  obtain ⟨⟨bs, rb⟩, c2, d2⟩ := y.reads ok x2
  exact SeqAt.notIn_tuple_reads rb ra c2 c1 (by have := r.units hn; have := Nat.min_le_right (PyData.depthAll qs) p.depth; omega) ⟨_, σ, Post.refl .., ok, V.ofBool, h⟩

def isNone : D → Bool
  | .none => true
  | _ => false
theorem v_ne_none {K : List Addr} {h : Heap} {d : D} {v : Value} (x : V K h d v) : plainIs v .none = true ∧ (v == Value.none) = isNone d := by
  cases d <;> unfold V at x
  case none => subst x; exact ⟨rfl, rfl⟩
  case bool => subst x; exact ⟨rfl, rfl⟩
  case int => obtain ⟨t, rfl⟩ := x; exact ⟨rfl, rfl⟩
  case str => obtain ⟨t, rfl⟩ := x; exact ⟨rfl, rfl⟩
  case tup => obtain ⟨a, vs, n, rfl, _⟩ := x; exact ⟨rfl, rfl⟩
  case lst => obtain ⟨a, vs, n, rfl, _⟩ := x; exact ⟨rfl, rfl⟩
  case sys => obtain ⟨a, dx, v1, v2, mA, rfl, _⟩ := x; exact ⟨rfl, rfl⟩
  case own => obtain ⟨a, rfl, _⟩ := x; exact ⟨rfl, rfl⟩
  case exc => obtain ⟨a, o, vs, rfl, _⟩ := x; exact ⟨rfl, rfl⟩
  case typ => subst x; exact ⟨rfl, rfl⟩
  case ref => subst x; exact ⟨rfl, rfl⟩
theorem WB.isNone {d : D} (h : Q (.bool (Mine.isNone d)) σ) : WB c A fr σ (compareOp .Is) d .none Q X := fun v1 v2 s ok x1 x2 => by
  unfold V at x2; subst x2
  obtain ⟨h1, h2⟩ := v_ne_none x1
  refine wpAny_is_plain h1 ?_
  rw [h2]
  exact ⟨_, σ, Post.refl .., ok, V.ofBool, h⟩
theorem At1.intB {b : Bool} (h : Q (.int (if b then 1 else 0)) σ) : At1 c A fr σ (.type "int") [.bool b] Q X := .one fun s v ok hv => by
  unfold V at hv; subst hv
  exact call_int_bool ⟨_, σ, Post.tok .., ok, V.ofInt, h⟩
end
end Mine
set_option linter.unusedVariables false
set_option linter.unusedSimpArgs false
set_option autoImplicit false
namespace Mine
open PySem PySem.Calls PyProof.Rows

section
variable {c : Cx} {A : Around} {fr : List Addr} {σ σ1 σ2 : Sto} {X : Addr → Sto → Prop} {Q : D → Sto → Prop} {env : Env} {m : Vars}

theorem Ok.put {a : Addr} {o o' : O} {h h' : Heap} (ok : Ok c A fr (σ1 ++ (a, o) :: σ2) h) (k : ∀ b ob, b ≠ a → h.get? b = some ob → h'.get? b = some ob) (x : IsO c.prog c.w (keys (σ1 ++ (a, o) :: σ2) ++ fr) h' a o') : Ok c A fr (σ1 ++ (a, o') :: σ2) h' := by
  have ek : keys (σ1 ++ (a, o') :: σ2) = keys (σ1 ++ (a, o) :: σ2) := by simp [keys]
  have ha : a ∈ keys (σ1 ++ (a, o) :: σ2) := by simp [keys]
  have nd := ok.nd
  rw [List.nodup_append] at nd
  have nfr : ∀ b ∈ fr, b ≠ a := fun b hb e => nd.2.2 a ha b hb e.symm
  refine ⟨fun b ob e => k b ob (fun z => by subst z; rw [ok.new b (List.mem_append_left _ ha)] at e; cases e) (ok.base b ob e), fun p hp => ?_, by rw [ek]; exact ok.nd, by rw [ek]; exact ok.new, fun b hb => ?_, ?_⟩
  · rw [ek]
    have hnd : (keys (σ1 ++ (a, o) :: σ2)).Nodup := nd.1
    have mv : ∀ q ∈ σ1 ++ (a, o) :: σ2, q.1 ≠ a → IsO c.prog c.w (keys (σ1 ++ (a, o) :: σ2) ++ fr) h' q.1 q.2 := fun q hq hne =>
      IsO.move (fun b ob n e => k b ob (fun z => by subst z; exact n (List.mem_append_left _ ha)) e) (fun _ m => .inl m) (fun ob e => k _ _ hne e) (ok.sto q hq)
    have hnd' : (σ1.map (·.1)).Nodup ∧ (a :: σ2.map (·.1)).Nodup ∧ ∀ y ∈ σ1.map (·.1), ∀ z ∈ a :: σ2.map (·.1), y ≠ z := by
      have : (σ1.map (·.1) ++ a :: σ2.map (·.1)).Nodup := by simpa [keys] using hnd
      exact List.nodup_append.mp this
    rcases List.mem_append.mp hp with hp | hp
    · exact mv p (List.mem_append_left _ hp) fun e => hnd'.2.2 p.1 (List.mem_map_of_mem hp) a (.head _) e
    · rcases List.mem_cons.mp hp with rfl | hp
      · exact x
      · exact mv p (List.mem_append_right _ (.tail _ hp)) fun e => (List.nodup_cons.mp hnd'.2.1).1 (e ▸ List.mem_map_of_mem hp)
  · obtain ⟨ob, e⟩ := ok.live b hb
    exact ⟨ob, k b ob (nfr b hb) e⟩
  · obtain ⟨l, hl, b, d, f⟩ := ok.stack
    have nw : ∀ x ∈ l.filterMap (·.frame), x ≠ a := fun x hx => nfr x (d x hx)
    refine ⟨l, hl, ?_, d, fun x hx => ?_⟩
    · exact FunFrames.turn (fr := l.filterMap (·.frame)) (fun x o hx g k' => ⟨o, k _ _ (nw x hx) g, k'⟩) b fun x hx => hx
    · obtain ⟨o, es, n, g, r⟩ := f x hx; exact ⟨o, es, n, k _ _ (nw x hx) g, r⟩
theorem Post.put {F : List Addr} {a : Addr} {o o' : O} {s : Shared} {h' : Heap} {tk : Nat} (hn : a ∉ fr) (k : ∀ b ob, b ≠ a → s.heap.get? b = some ob → h'.get? b = some ob) (l : ∃ ob, h'.get? a = some ob) : Post F fr (σ1 ++ (a, o) :: σ2) s { s with heap := h', toks := tk } (σ1 ++ (a, o') :: σ2) := by
  have ek : keys (σ1 ++ (a, o') :: σ2) = keys (σ1 ++ (a, o) :: σ2) := by simp [keys]
  have ha : a ∈ keys (σ1 ++ (a, o) :: σ2) := by simp [keys]
  exact {
    shape := ⟨h', tk, rfl⟩
    kept := fun b ob n e => k b ob (fun z => n (by rw [z]; exact List.mem_append_left _ ha)) e
    slots := fun b ob m n e => ⟨ob.slots, k b ob (fun z => hn (z ▸ m)) e, fun _ => rfl⟩
    alive := fun b ob e => by
      by_cases z : b = a
      · subst z; exact l
      · exact ⟨ob, k _ _ z e⟩
    grow := fun _ m => .inl (ek ▸ m) }

theorem newL {ds : List D} {vs : List Value} {s : Shared} {tk : Nat} (ok : Ok c A fr σ s.heap) (hvs : Vs (keys σ ++ fr) s.heap ds vs) (q : QL Q ds σ) : ∃ d σ'', Post [] fr σ s { s with heap := s.heap.push (lstObj vs 0), toks := tk } σ'' ∧ Ok c A fr σ'' (s.heap.push (lstObj vs 0)) ∧ V (keys σ'' ++ fr) (s.heap.push (lstObj vs 0)) d (.ref s.heap.objs.size) ∧ Q d σ'' := by
  have hn : ∀ a ∈ [s.heap.objs.size], s.heap.get? a = none := fun a ha => by rw [List.mem_singleton.mp ha]; exact none_of_ge (Nat.le_refl _)
  have k1 : ∀ b o, s.heap.get? b = some o → (s.heap.push (lstObj vs 0)).get? b = some o := fun b o e => Heap.get?_push_of_some _ e
  have g : (s.heap.push (lstObj vs 0)).get? s.heap.objs.size = some (lstObj vs 0) := Heap.get?_push_size _ rfl
  have oka : Ok c A ([s.heap.objs.size] ++ fr) σ (s.heap.push (lstObj vs 0)) := ok.more k1 hn (fun a ha => by rw [List.mem_singleton.mp ha]; exact ⟨_, g⟩) (by simp)
  exact QL.use (G := none) (s' := { s with heap := s.heap.push (lstObj vs 0), toks := tk }) q (Post.keeps k1) oka ok.frames_in g (Vs.move (K := keys σ ++ fr) (fun b o _ e => k1 b o e) (less_add hn) _ _ hvs) (hn _ (by simp))
theorem SD.Fz.list {sd : SD} {h : Heap} {l : Addr} (x : sd.Fz (keys σ ++ fr) h l) (ok : Ok c A fr σ h) (inv : sd.inv σ) (hL : sd.isL = true) : ∃ vs n, h.get? l = some (lstObj vs n) ∧ Vs (keys σ ++ fr) h sd.ds vs := by
  cases sd with
  | lst ds => obtain ⟨a, vs, n, g, r⟩ := x; exact ⟨vs, n, g, r⟩
  | tup ds => cases hL
  | ref a ds =>
    obtain ⟨vs, n, g, r⟩ := ok.sto _ inv
    obtain rfl : l = a := x
    exact ⟨vs, n, g, r⟩
theorem WB.addL {sd1 sd2 : SD} (h1 : sd1.isL = true) (h2 : sd2.isL = true) (i1 : sd1.inv σ) (i2 : sd2.inv σ) (hsz : sd1.ds.length + sd2.ds.length ≤ sizeLine) (h : QL Q (sd1.ds ++ sd2.ds) σ) : WB c A fr σ (binaryOp .Add) sd1.d sd2.d Q X := fun v1 v2 s ok x1 x2 => by
  obtain ⟨l, rfl, z⟩ := SD.of_v x1
  obtain ⟨b, rfl, y⟩ := SD.of_v x2
  obtain ⟨vs, n, g, r⟩ := z.list ok i1 h1
  obtain ⟨us, k, g', r'⟩ := y.list ok i2 h2
  refine P.add_list g g' ?_ (by simp [r.length, r'.length]; exact hsz)
  have e : (vs.toArray ++ us.toArray) = (vs ++ us).toArray := by simp
  rw [e]
  exact newL (tk := s.toks) ok (r.append r') h
theorem foldl_rep (x : List Value) : ∀ (n : Nat) (acc : Array Value), List.foldl (fun x1 x2 => x1 ++ x2) acc (List.replicate n x.toArray) = acc ++ (List.replicate n x).flatten.toArray
  | 0, acc => by simp
  | n + 1, acc => by rw [List.replicate_succ, List.foldl_cons, foldl_rep x n]; simp [List.replicate_succ, Array.append_assoc]
theorem Vs.rep {K : List Addr} {h : Heap} {ds : List D} {vs : List Value} (x : Vs K h ds vs) : ∀ n, Vs K h (List.replicate n ds).flatten (List.replicate n vs).flatten
  | 0 => Vs.nil
  | n + 1 => by simp only [List.replicate_succ, List.flatten_cons]; exact x.append (Vs.rep x n)
theorem WB.mulL {sd : SD} {k : Int} (h1 : sd.isL = true) (i1 : sd.inv σ) (hlo : -(2 ^ 63) ≤ k) (hhi : k < 2 ^ 63) (hsz : sd.ds.length * k.toNat ≤ 2 ^ 24) (h : QL Q (List.replicate k.toNat sd.ds).flatten σ) : WB c A fr σ (binaryOp .Mult) sd.d (.int k) Q X := fun v1 v2 s ok x1 x2 => by
  obtain ⟨l, rfl, z⟩ := SD.of_v x1
  obtain ⟨u, rfl⟩ := x2.toInt
  obtain ⟨vs, n, hl, r⟩ := z.list ok i1 h1
  have hz : vs.toArray.size * k.toNat ≤ 2 ^ 24 := by rw [List.size_toArray, r.length]; exact hsz
  have hz2 : vs.length * k.toNat ≤ 2 ^ 24 := by simpa using hz
  have hz3 : ¬Builtin.List.listTooLong (vs.toArray.size * k.toNat) = true := by simp [Builtin.List.listTooLong, sizeLine]; omega
  refine wpAny_binaryOp_repeat_ref (T := "list") (U := "int") (by decide) ⟨_, hl, rfl⟩ (fun s' => typeIs_int s' k u) noFill_list_mul F.fills_int_mul F.slot_int_rmul repeat_list F.slot_int_index.lookup
    (call_meets F.slot_int_rmul (typeIs_int s k u) F.entry_int_rmul (F.args_int_rmul_2 _ _) (int___rmul___int_list k u l vs.toArray n)
      ⟨hl, rfl, ⟨_, hl, rfl⟩, call_meets F.slot_list_mul ⟨_, hl, rfl⟩ F.entry_list_mul (F.args_list_mul_2 _ _)
        (AutoListH.list___mul___list_int_3 l vs.toArray n k u (by simp [Builtin.List.listFitsIndex]; omega) (by omega) hz3)
        ⟨hl, ?_⟩⟩)
  have e : List.foldl (fun x1 x2 => x1 ++ x2) #[] (List.replicate (if vs.toArray.isEmpty = true then 0 else k.toNat) vs.toArray) = (List.replicate k.toNat vs).flatten.toArray := by
    rw [foldl_rep]
    by_cases hv : vs = []
    · subst hv; simp
    · simp [hv]
  show ∃ b σ', _
  rw [e]
  exact newL (tk := s.toks) ok (r.rep _) h

end
end Mine
set_option linter.unusedVariables false
set_option linter.unusedSimpArgs false
set_option autoImplicit false
namespace Mine
open PySem PySem.Calls PyProof.Rows

end Mine
set_option linter.unusedVariables false
set_option linter.unusedSimpArgs false
set_option autoImplicit false
namespace Mine
open PySem PySem.Calls PyProof.Rows

section
variable {c : Cx} {A : Around} {fr : List Addr} {σ σ1 σ2 : Sto} {X : Addr → Sto → Prop} {Q : D → Sto → Prop} {env : Env} {m : Vars} {N : Vars → Sto → Prop} {R : D → Sto → Prop}

def WPt (c : Cx) (A : Around) (fr : List Addr) (env : Env) (m : Vars) (σ : Sto) (e : Option Expr) (Q : Option Int → Sto → Prop) (X : Addr → Sto → Prop) : Prop :=
  match e with
  | none => Q none σ
  | some e => WE c A fr env m σ e (fun d σ1 => ∃ i, d = .int i ∧ Q (some i) σ1) X
theorem WPt.run {e : Option Expr} {Q : Option Int → Sto → Prop} (h : WPt c A fr env m σ e Q X) {s : Shared} (ok : Ok c A fr σ s.heap) (fm : Fm env m fr (keys σ ++ fr) s.heap) : wpAny (model c.prog c.w) A (evalPart e env) (fun v s' => ∃ i σ', IsPart v i ∧ Post [] fr σ s s' σ' ∧ Ok c A fr σ' s'.heap ∧ Q i σ') (Ex c A none fr σ s false X) s := by
  cases e with
  | none => rw [evalPart_none]; exact wpAny_pure ⟨none, σ, .none, Post.refl .., ok, h⟩
  | some e =>
    rw [evalPart_some]
    refine wpAny_mono (h s ok fm) (fun v s1 ⟨d, σ1, p1, ok1, x1, i, e1, q1⟩ => ?_) fun _ _ x => x
    subst e1
    obtain ⟨t, rfl⟩ := x1.toInt
    exact ⟨some i, σ1, .int i t, p1, ok1, q1⟩

def pick (ds : List D) (lo hi : Option Int) : List D := (ds.drop (lo.elim 0 (clipAt ds.length))).take (hi.elim ds.length (clipAt ds.length) - lo.elim 0 (clipAt ds.length))

theorem WE.sliceL {value : Expr} {lower upper : Option Expr} {p pos : Pos} (h : WE c A fr env m σ value (fun d σ1 => WPt c A fr env m σ1 lower (fun lo σ2 => WPt c A fr env m σ2 upper (fun hi σ3 => ∃ sd : SD, d = sd.d ∧ sd.isL = true ∧ sd.inv σ3 ∧ sd.ds.length ≤ sizeLine ∧ QL Q (pick sd.ds lo hi) σ3) X) X) X)
    (ht : ∀ o r, letTemporaryGo value o r = pure () := by intro _ _; rfl) : WE c A fr env m σ (.Subscript value (.Slice lower upper none p) pos) Q X := fun s ok fm => by
  refine wpAny_Subscript_list_slice (wpAny_mono (h s ok fm) (fun v s1 ⟨d, σ1, p1, ok1, x1, q1⟩ => ?_) fun _ _ x => x) ht
  refine wpAny_mono (q1.run ok1 (fm.move p1)) (fun vl s2 ⟨lo, σ2, i2, p2, ok2, q2⟩ => ?_) fun _ _ x => Ex.back p1 x fun _ _ y => y
  refine wpAny_mono (q2.run ok2 ((fm.move p1).move p2)) (fun vu s3 ⟨hi, σ3, i3, p3, ok3, sd, e, hL, inv, hsz, q3⟩ => ?_) fun _ _ x => Ex.back (p1.trans p2) x fun _ _ y => y
  subst e
  obtain ⟨l, rfl, z⟩ := SD.of_v (p3.v (p2.v x1))
  obtain ⟨vs, n, g, r⟩ := z.list ok3 inv hL
  refine ⟨l, vs.toArray, lo, hi, rfl, ⟨_, g, rfl, n, rfl⟩, by simpa [r.length] using hsz, i2, i3, ?_⟩
  have k1 : ∀ b o, s3.heap.get? b = some o → (s3.heap.push { cls := .type "slice", data := .fields #[vl, vu, .none] }).get? b = some o := fun b o e => Heap.get?_push_of_some _ e
  have p4 : Post [] fr σ3 s3 { s3 with heap := s3.heap.push { cls := .type "slice", data := .fields #[vl, vu, .none] }, toks := s3.toks } σ3 := Post.keeps k1
  have ok4 := ok3.keeps k1
  have e : slicePick vs.toArray lo hi none = ((vs.drop (lo.elim 0 (clipAt sd.ds.length))).take (hi.elim sd.ds.length (clipAt sd.ds.length) - lo.elim 0 (clipAt sd.ds.length))).toArray := by
    rw [slicePick_plain]; simp [r.length]
  rw [e]
  have w := newL (Q := Q) (tk := s3.toks) (s := { s3 with heap := s3.heap.push { cls := .type "slice", data := .fields #[vl, vu, .none] }, toks := s3.toks }) ok4 (p4.vs ((r.drop _).take _)) q3
  obtain ⟨d5, σ5, p5, ok5, x5, q5⟩ := w
  have hs : (s3.heap.push { cls := .type "slice", data := .fields #[vl, vu, .none] }).objs.size = s3.heap.objs.size + 1 := Heap.size_push _ _
  rw [← hs]
  exact ⟨d5, σ5, (((p1.trans p2).trans p3).trans p4).trans p5, ok5, x5, q5⟩

end
end Mine
set_option linter.unusedVariables false
set_option linter.unusedSimpArgs false
set_option autoImplicit false
namespace Mine
open PySem PySem.Calls PyProof.Rows PySem.W

end Mine
set_option linter.unusedVariables false
set_option linter.unusedSimpArgs false
set_option autoImplicit false
namespace Mine
open PySem PySem.Calls PyProof.Rows PySem.SeqAt PySem.MeetsSeq PySem.MeetsSeq2 PySem.MeetsSeq3 PySem.SeqRoads2

end Mine
set_option linter.unusedVariables false
set_option linter.unusedSectionVars false
set_option linter.unusedSimpArgs false
set_option autoImplicit false
namespace Mine
open PySem PySem.Calls PyProof.Rows PySem.W

section
variable {n : Nat} (hn : 0 < n)
include hn
end

end Mine
set_option linter.unusedVariables false
set_option linter.unusedSimpArgs false
set_option autoImplicit false
namespace Mine
open PySem PySem.Calls PyProof.Rows PySem.W PySem.SeqAt

end Mine
set_option linter.unusedVariables false
set_option linter.unusedSimpArgs false
set_option autoImplicit false
set_option maxHeartbeats 1000000
namespace Mine
open PySem PySem.Calls PyProof.Rows PySem.W PySem.SeqAt

end Mine
set_option linter.unusedVariables false
set_option linter.unusedSimpArgs false
set_option autoImplicit false
set_option maxHeartbeats 1000000
namespace Mine
open PySem PySem.Calls PyProof.Rows PySem.W PySem.SeqAt

end Mine
set_option linter.unusedVariables false
set_option linter.unusedSimpArgs false
set_option autoImplicit false
namespace Mine
open PySem PySem.Calls PyProof.Rows PySem.W PySem.SeqAt

theorem freeOk_of {env : Env} {scope sc : Scope} (h : env.scope = sc) (e : freeOk scope sc = true) : freeOk scope env.scope = true := by rw [h]; exact e
theorem relab_of {cenv env : Env} {scope sc : Scope} (h : cenv.scope = relab scope env.scope) (e : env.scope = sc) : cenv.scope = relab scope sc := by rw [h, e]
section
variable {c : Cx} {A : Around} {fr : List Addr} {σ : Sto} {X : Addr → Sto → Prop} {Q : D → Sto → Prop} {env : Env} {m : Vars}
theorem WU.notB {b : Bool} (h : Q (.bool (!b)) σ) : WU c A fr σ (unaryOp .Not) (.bool b) Q X := fun v s ok x => by
  unfold V at x; subst x
  exact not_value (wpAny_truthy_bool ⟨_, σ, Post.refl .., ok, V.ofBool, h⟩)
end
theorem mulOk_left {a b : Int} (h : a.natAbs < 2 ^ 64) : IntMulOk a b := IntMulOk.of_left (intBits_le h)
theorem eqv_all (xs : List Int) : ∀ ys : List Int, PyData.eqvAll (xs.map .int) (ys.map .int) = decide (xs = ys) := by
  induction xs with
  | nil => intro ys; cases ys <;> simp [PyData.eqvAll]
  | cons x xs ih =>
    intro ys
    cases ys with
    | nil => simp [PyData.eqvAll]
    | cons y ys =>
      rw [List.map_cons, List.map_cons, PyData.eqvAll, ih ys, PyData.eqv]
      by_cases h1 : x = y <;> by_cases h2 : xs = ys <;> simp [h1, h2]
theorem eqv_ints {xs ys : List Int} : PyData.eqv (.list (xs.map .int)) (.list (ys.map .int)) = decide (xs = ys) := eqv_all xs ys
theorem Py.ints {xs : List Int} {n : Nat} : Py (n + 2) (.lst (xs.map .int)) (.list (xs.map .int)) := .lst (.map fun _ _ => .int)
end Mine
set_option linter.unusedVariables false
set_option linter.unusedSimpArgs false
set_option autoImplicit false
namespace Mine
open PySem PySem.Calls PyProof.Rows PySem.W PySem.SeqAt

abbrev has (m : Vars) (x : Str) (d : D) : Prop := m.lookup x = some d
theorem lk_skip {x y : Str} {d e : D} {m : Vars} (h : (x == y) = false) (h2 : m.lookup x = some d) : List.lookup x ((y, e) :: m) = some d := by
  rw [List.lookup_cons, h]; exact h2
theorem lk_here {x : Str} {e : D} {m : Vars} : List.lookup x ((x, e) :: m) = some e := by
  rw [List.lookup_cons]; simp
section
variable {c : Cx} {A : Around} {fr : List Addr} {σ : Sto} {X : Addr → Sto → Prop} {Q : D → Sto → Prop} {env : Env} {m : Vars} {N : Vars → Sto → Prop} {R : D → Sto → Prop}

theorem kinds1 {x : Str} {d : D} (h : env.kindOf x = some .local ∨ env.kindOf x = some .cell) : ∀ y ∈ [(x, d)], env.kindOf y.1 = some .local ∨ env.kindOf y.1 = some .cell := fun y hy => by
  rw [List.mem_singleton] at hy; subst hy; exact h
theorem kinds2 {x z : Str} {d e : D} (h : env.kindOf x = some .local ∨ env.kindOf x = some .cell) (h2 : env.kindOf z = some .local ∨ env.kindOf z = some .cell) : ∀ y ∈ [(x, d), (z, e)], env.kindOf y.1 = some .local ∨ env.kindOf y.1 = some .cell := fun y hy => by
  rcases List.mem_cons.mp hy with rfl | hy
  · exact h
  · exact kinds1 h2 y hy

def Loop (c : Cx) (A : Around) (env : Env) (m : Vars) (body : List Stmt) (N : Vars → Sto → Prop) (R : D → Sto → Prop) (X : Addr → Sto → Prop) (vals : List Vars) (Inv : Sto → Prop) (σ1 : Sto) : Prop :=
  (∀ x ∈ vals, ∀ y ∈ x, env.kindOf y.1 = some .local ∨ env.kindOf y.1 = some .cell) ∧ ∃ L : Nat → Vars → Sto → Prop, L 0 m σ1 ∧
      (∀ k m' σ', L k m' σ' → Inv σ') ∧
      (∀ k x m' σ', vals[k]? = some x → L k m' σ' → ∀ fr', WS c A fr' env (x ++ m') σ' body (fun m'' σ'' => L (k + 1) m'' σ'') R X) ∧
      ∀ m' σ', L vals.length m' σ' → N m' σ'
theorem Loop.of {α : Type} {l : List α} {g : α → Vars} {Inv : Sto → Prop} {body : List Stmt} (L : Nat → Vars → Sto → Prop) (hk : ∀ i ∈ l, ∀ y ∈ g i, env.kindOf y.1 = some .local ∨ env.kindOf y.1 = some .cell) (h0 : L 0 m σ) (hinv : ∀ k m' σ', L k m' σ' → Inv σ')
    (step : ∀ k i m' σ', l[k]? = some i → L k m' σ' → ∀ fr', WS c A fr' env (g i ++ m') σ' body (fun m'' σ'' => L (k + 1) m'' σ'') R X) (fin : ∀ m' σ', L l.length m' σ' → N m' σ') : Loop c A env m body N R X (l.map g) Inv σ := by
  refine ⟨fun x hx => ?_, L, h0, hinv, fun k x m' σ' hx hL fr' => ?_, fun m' σ' hL => fin m' σ' (by rwa [List.length_map] at hL)⟩
  · obtain ⟨i, hi, rfl⟩ := List.mem_map.mp hx
    exact hk i hi
  · rw [List.getElem?_map] at hx
    obtain ⟨i, hi, rfl⟩ := Option.map_eq_some_iff.mp hx
    exact step k i m' σ' hi hL fr'
theorem W1.forL {tg iter : Expr} {body : List Stmt} {pos : Pos} {sc : Scope} (fe : Fe A env sc) (h : WIt c A fr env m σ iter tg (Loop c A env m body N R X) X) (hs : ∀ x, foldedSetIterable iter env x = pure x := by intro _; rfl) : W1 c A fr env m σ (.For tg iter body [] pos) N R X :=
  W1.for_ fe.stack fe.frame h hs
end
section
variable {c : Cx} {A : Around} {fr : List Addr} {σ : Sto} {X : Addr → Sto → Prop} {Q : D → Sto → Prop} {env : Env} {m : Vars} {N : Vars → Sto → Prop} {R : D → Sto → Prop}
theorem WE.id {e : Expr} (h : WE c A fr env m σ e Q X) : WE c A fr env m σ e Q X := h
theorem WE.idCall {f : Str} {fp pos : Pos} {args : List Expr} (h : WE c A fr env m σ (.Call (.Name f fp) args [] pos) Q X) : WE c A fr env m σ (.Call (.Name f fp) args [] pos) Q X := h
theorem WE.idName {f : Str} {fp : Pos} (h : WE c A fr env m σ (.Name f fp) Q X) : WE c A fr env m σ (.Name f fp) Q X := h
theorem WE.idConst {k : Const} {j : Nat} {fp : Pos} (h : WE c A fr env m σ (.Constant k j fp) Q X) : WE c A fr env m σ (.Constant k j fp) Q X := h
theorem WT.id {e : Expr} {Q : Bool → Sto → Prop} (h : WT c A fr env m σ e Q X) : WT c A fr env m σ e Q X := h
theorem WTs.id {op : BoolOp} {e : List Expr} {Q : Bool → Sto → Prop} (h : WTs c A fr env m σ op e Q X) : WTs c A fr env m σ op e Q X := h
theorem WBs.id {op : BoolOp} {e : List Expr} (h : WBs c A fr env m σ op e Q X) : WBs c A fr env m σ op e Q X := h
theorem WB.id {op : CmpOp} {d1 d2 : D} (h : WB c A fr σ (compareOp op) d1 d2 Q X) : WB c A fr σ (compareOp op) d1 d2 Q X := h
theorem WB.id2 {op : Operator} {d1 d2 : D} (h : WB c A fr σ (binaryOp op) d1 d2 Q X) : WB c A fr σ (binaryOp op) d1 d2 Q X := h
theorem W1.id {st : Stmt} (h : W1 c A fr env m σ st N R X) : W1 c A fr env m σ st N R X := h
theorem WS.id {st : List Stmt} (h : WS c A fr env m σ st N R X) : WS c A fr env m σ st N R X := h
theorem WIt.id {iter tg : Expr} {Q : List Vars → (Sto → Prop) → Sto → Prop} (h : WIt c A fr env m σ iter tg Q X) : WIt c A fr env m σ iter tg Q X := h
theorem WA.id {es : List Expr} {Q : List D → Sto → Prop} (h : WA c A fr env m σ es Q X) : WA c A fr env m σ es Q X := h
end
theorem ite_t {P Q : Prop} (h : P) : if true = true then P else Q := by rw [if_pos rfl]; exact h
theorem ite_f {P Q : Prop} (h : Q) : if false = true then P else Q := by rw [if_neg (by simp)]; exact h
theorem ite_nt {P Q : Prop} (h : Q) : if (!true) = true then P else Q := by rw [if_neg (by simp)]; exact h
theorem ite_nf {P Q : Prop} (h : P) : if (!false) = true then P else Q := by rw [if_pos (by simp)]; exact h
section
variable {c : Cx} {A : Around} {fr : List Addr} {σ : Sto} {X : Addr → Sto → Prop} {Q : D → Sto → Prop} {a b : Int}
theorem WB.modE (hb : 0 < b) (hs : b.natAbs < 2 ^ 64) (h : Q (.int (a % b)) σ) : WB c A fr σ (binaryOp .Mod) (.int a) (.int b) Q X :=
  WB.mod (by omega) hs (by rw [Int.fmod_eq_emod_of_nonneg a (by omega)]; exact h)
theorem WB.fdivE (hb : 0 < b) (hs : b.natAbs < 2 ^ 64) (h : Q (.int (a / b)) σ) : WB c A fr σ (binaryOp .FloorDiv) (.int a) (.int b) Q X :=
  WB.fdiv (by omega) hs (by rw [Int.fdiv_eq_ediv_of_nonneg a (by omega)]; exact h)
end
section
variable {c : Cx} {A : Around} {fr : List Addr} {σ : Sto} {X : Addr → Sto → Prop} {Q : D → Sto → Prop}
theorem WSb.at {value slice : Expr} {sd : SD} {i : Int} {k : Nat} {d : D} (e : i = (k : Int)) (inv : sd.inv σ) (hk : sd.ds[k]? = some d) (hk2 : k < 2 ^ 60) (h : Q d σ)
    (hs : ∀ l u, subscripted slice false (.ref l) (.int i u) = operate [.ref l, .int i u] (getItem (.ref l) (.int i u)) := by intro _ _; with_unfolding_all rfl) : WSb c A fr σ value slice sd.d (.int i) Q X := by
  subst e
  refine WSb.item inv (by omega) (by omega) (by omega) ?_ h hs
  have : ¬ ((k : Int) < 0) := by omega
  simp only [idx, this, if_false, Int.toNat_natCast]
  exact hk
end
section
variable {c : Cx} {A : Around} {fr : List Addr} {σ : Sto} {X : Addr → Sto → Prop} {Q : D → Sto → Prop} {env : Env} {m : Vars} {N : Vars → Sto → Prop} {R : D → Sto → Prop}
theorem QO.mono {J N : Vars → Sto → Prop} {R : D → Sto → Prop} (k : ∀ m' σ', J m' σ' → N m' σ') {b : Out} {σ : Sto} (h : QO J R b σ) : QO N R b σ := by
  cases b with
  | next m => exact k _ _ h
  | ret d => exact h
theorem W1.join {st : Stmt} (J : Vars → Sto → Prop) (h : W1 c A fr env m σ st J R X) (k : ∀ m' σ', J m' σ' → N m' σ') : W1 c A fr env m σ st N R X := fun s ok fm =>
  (h s ok fm).mono (fun b σ' q => QO.mono k q) fun _ _ x => x
theorem WPt.some {e : Expr} {Q : Option Int → Sto → Prop} (h : WE c A fr env m σ e (fun d σ1 => ∃ i, d = .int i ∧ Q (Option.some i) σ1) X) : WPt c A fr env m σ (Option.some e) Q X := h
theorem WPt.none {Q : Option Int → Sto → Prop} (h : Q Option.none σ) : WPt c A fr env m σ Option.none Q X := h
end
theorem pick_map {α : Type} {F : α → D} {S : List α} {lo hi : Option Int} : pick (S.map F) lo hi = ((S.drop (lo.elim 0 (clipAt S.length))).take (hi.elim S.length (clipAt S.length) - lo.elim 0 (clipAt S.length))).map F := by
  simp [pick, List.map_drop, List.map_take]
end Mine
set_option linter.unusedVariables false
set_option linter.unusedSimpArgs false
set_option autoImplicit false
namespace Mine
open PySem PySem.Calls PyProof.Rows PySem.W PySem.SeqAt

theorem Vs.ofWell {P : Params} {h : Heap} : ∀ {S : List Int} {vs : List Value}, WellAll P h vs (S.map WData.int) → Vs [] h (S.map D.int) vs
  | [], vs, x => by
    simp only [List.map_nil] at x ⊢
    cases x
    exact Vs.nil
  | i :: S, vs, x => by
    simp only [List.map_cons] at x ⊢
    cases x with
    | cons x1 x2 =>
      cases x1
      exact Vs.cons V.ofInt (Vs.ofWell x2)
theorem V.ofWell {P : Params} {h : Heap} {S : List Int} {v : Value} (x : Well P h v (.list (S.map WData.int))) : V [] h (.lst (S.map .int)) v := by
  cases x with
  | list g x => unfold V; exact ⟨_, _, 0, rfl, by simp, g, Vs.ofWell x⟩
theorem ofPys_ints : ∀ S : List Int, ofPys (S.map PyData.int) = S.map WData.int
  | [] => rfl
  | i :: S => by simp only [List.map_cons, ofPys, ofPy, ofPys_ints S]

def bnOk (view : Program) (loose : List Str) (x : Str) : Bool :=
  !startupNames.contains x && !loose.contains x && !((recsOf view).map (·.name)).contains x && !((litsOf view).map (·.1)).contains x && !((clssOf view loose).map (·.name)).contains x && x != ("__name__" : Str)
theorem Tp.ofTop {view : Program} {loose : List Str} {mean : ExcName → Option Value} {c : Cx} {B : List Stmt} {bs : List (Str × Value)} (T : Top view loose mean c.mg c.mb c.h0) (hp : recsOf view = B.filterMap recOf) (hb : (bs.all fun p => bnOk view loose p.1) = true) (hv : bs.map (fun p => bootBuiltins p.1) = bs.map fun p => some p.2) : Tp c B bs where
  good := ⟨T.g, T.b⟩
  nolimit := T.nolimit
  fn := fun d hd => by rw [← hp] at hd; exact T.fn d hd
  bn := fun x v hx => by
    have hm : (x, v) ∈ bs := by
      clear hb hv
      induction bs with
      | nil => simp at hx
      | cons q r ih =>
        obtain ⟨y, u⟩ := q
        rw [List.lookup_cons] at hx
        by_cases e : x = y
        · subst e
          have : u = v := by simpa using hx
          subst this; exact .head _
        · have e' : (x == y) = false := by simpa using e
          rw [e'] at hx
          exact .tail _ (ih hx)
    have h1 := List.all_eq_true.mp hb _ hm
    simp only [bnOk, Bool.and_eq_true, Bool.not_eq_true', bne_iff_ne, ne_eq, List.contains_eq_mem, decide_eq_false_iff_not] at h1
    obtain ⟨⟨⟨⟨⟨a1, a2⟩, a3⟩, a4⟩, a5⟩, a6⟩ := h1
    refine ⟨T.free x a1 a2 a3 a4 a5, ?_⟩
    rw [T.builtins x a6]
    obtain ⟨i, hi, e⟩ := List.mem_iff_getElem.mp hm
    have := congrArg (fun l => l[i]?) hv
    simp only [List.getElem?_map, List.getElem?_eq_getElem hi, Option.map_some, e] at this
    simpa using this

theorem last {c : Cx} {claim : ClaimW} {cl : Str → Option Addr} {mean : ExcName → Option Value} {args : List WData} {name : Str} {fa : Addr} {l : Value} {S : List Int} {s₁ : Shared} {k : Nat} (hw : WF c (Room k) name [.lst (S.map .int)] [] (fun d _ => d = .bool true) NoX) (hk : k ≤ 600) (hmg : c.mg name = some (.ref fa)) (hV : V [] s₁.heap (.lst (S.map .int)) l) (h0 : c.h0 = s₁.heap) (hg : s₁.gens = #[])
    (hpost : claim.post args (.bool true) args = true) (hr : ∀ cls, claim.raises args cls = false) : wpAny (model c.prog c.w) callerA (call (.ref fa) [l]) (fun v s' => GoodWG claim cl mean args s₁ (.ok (.ret v)) s') (fun e s' => GoodWG claim cl mean args s₁ (.error e) s') s₁ := by
  have room : Room k callerA := by
    refine ⟨⟨?_, ?_⟩, rfl⟩
    · show 1 + 300 + k < 990; omega
    · show 4 + 10 * k < 9800; omega
  have ok : Ok c callerA [] [] s₁.heap := ⟨fun b o e => by rw [h0] at e; exact e, fun p hp => (by cases hp), (by simp [keys]), fun a ha => (by simp [keys] at ha), fun a ha => (by cases ha), ⟨[], rfl, trivial, fun b hb => (by simp at hb), fun b hb => (by simp at hb)⟩⟩
  have hv : Vs (keys [] ++ []) s₁.heap [.lst (S.map .int)] [l] := Vs.cons hV Vs.nil
  refine wpAny_mono (hw fa hmg callerA [] s₁ [l] room ok hv) (fun v s' ⟨d, σ, p, ok', x, e⟩ => ?_) fun _ _ x => (Ex.no x).elim
  subst e
  unfold V at x; subst x
  refine GoodW.toG ⟨.inl ⟨_, .bool true, [], rfl, hr, .bool true, hpost, fun _ => ⟨List.nodup_nil, fun a ha => by cases ha⟩⟩, fun b o e => p.kept b o (by simp [keys]) e, ?_, ?_⟩
  · obtain ⟨h, tk, rfl⟩ := p.shape; rfl
  · obtain ⟨h, tk, rfl⟩ := p.shape; exact hg
theorem post_ok (l : OpenLaw) (args ds : List WData) : l.row.claim.post args (.bool true) ds = true := by
  simp only [RowW.claim, OpenLaw.row]
  rw [Bool.and_eq_true]
  constructor
  · simp [WShape.has, WShape.arms]
  · unfold WTm.holds
    simp [WTm.value, same]
theorem raises_ok (l : OpenLaw) (args : List WData) (cls : ExcName) : l.row.claim.raises args cls = false := rfl
end Mine
set_option linter.unusedVariables false
set_option linter.unusedSimpArgs false
set_option autoImplicit false
set_option maxHeartbeats 1000000
namespace Mine
open PySem PySem.Calls PyProof.Rows PySem.W

end Mine
set_option linter.unusedVariables false
set_option linter.unusedSimpArgs false
set_option autoImplicit false
set_option maxHeartbeats 1000000
namespace Mine
open PySem PySem.Calls PyProof.Rows PySem.W

theorem Stay.refl {K : List Addr} {h : Heap} : Stay K h h := fun _ _ _ e => e

section
variable {c : Cx} {A : Around} {fr : List Addr} {σ σa σb : Sto} {a : Addr} {o : O}
theorem Ok.gone {h : Heap} (ok : Ok c A fr (σa ++ (a, o) :: σb) h) : a ∉ keys (σa ++ σb) ++ fr := by
  have nd := ok.nd
  simp only [keys, List.map_append, List.map_cons, List.append_assoc, List.cons_append] at nd ⊢
  have := (List.perm_middle.nodup_iff.mp nd)
  exact (List.nodup_cons.mp this).1
theorem Ok.at {A' : Around} {h : Heap} (ok : Ok c A fr σ h) (e : A'.frames = A.frames) : Ok c A' fr σ h := ⟨ok.base, ok.sto, ok.nd, ok.new, ok.live, by rw [e]; exact ok.stack⟩

end

end Mine
set_option linter.unusedVariables false
set_option linter.unusedSimpArgs false
set_option autoImplicit false
set_option maxHeartbeats 1000000
namespace Mine
open PySem PySem.Calls PyProof.Rows PySem.W

section
variable {c : Cx} {A : Around} {fr : List Addr} {σ σ' σa σb : Sto} {X : Addr → Sto → Prop} {Q : D → Sto → Prop} {env : Env} {m : Vars} {N : Vars → Sto → Prop} {R : D → Sto → Prop}

theorem keys_sub (hs : σ'.Sublist σ) {b : Addr} (h : b ∈ keys σ') : b ∈ keys σ := (List.Sublist.map (·.1) hs).subset h
theorem less_sub (hs : σ'.Sublist σ) (h : Heap) : Less (keys σ ++ fr) (keys σ' ++ fr) h := fun b m => .inl (by
  rcases List.mem_append.mp m with z | z
  · exact List.mem_append_left _ (keys_sub hs z)
  · exact List.mem_append_right _ z)
theorem Ok.sub {h : Heap} (ok : Ok c A fr σ h) (hs : σ'.Sublist σ) : Ok c A fr σ' h where
  base := ok.base
  sto := fun p hp => IsO.move Stay.refl (less_sub hs h) (fun _ e => e) (ok.sto p (hs.subset hp))
  nd := List.Nodup.sublist (List.Sublist.append (List.Sublist.map _ hs) (List.Sublist.refl _)) ok.nd
  new := fun b m => ok.new b (by
    rcases List.mem_append.mp m with z | z
    · exact List.mem_append_left _ (keys_sub hs z)
    · exact List.mem_append_right _ z)
  live := ok.live
  stack := ok.stack
theorem Post.to {F : List Addr} {σ2 : Sto} {s s' : Shared} (p : Post F fr σ2 s s' σ) (hs : σ'.Sublist σ) : Post F fr σ2 s s' σ' :=
  ⟨p.shape, p.kept, p.slots, p.alive, fun b m => p.grow b (keys_sub hs m)⟩
def isRef (a : Addr) : D → Bool
  | .ref b => b == a
  | _ => false
def fzD (a : Addr) (ds : List D) (d : D) : D := if isRef a d then .lst ds else d
theorem drop_sub {a : Addr} {o : O} : (σa ++ σb).Sublist (σa ++ (a, o) :: σb) := List.Sublist.append (List.Sublist.refl _) (List.sublist_cons_self _ _)
theorem fz_v {a : Addr} {ds : List D} {h : Heap} {d : D} {v : Value} (ok : Ok c A fr (σa ++ (a, .lst ds) :: σb) h) (x : V (keys (σa ++ (a, .lst ds) :: σb) ++ fr) h d v) : V (keys (σa ++ σb) ++ fr) h (fzD a ds d) v := by
  unfold fzD
  split
  · rename_i hr
    cases d <;> simp [isRef] at hr
    subst hr
    unfold V at x ⊢
    obtain ⟨vs, n, g, r⟩ := ok.sto _ (List.mem_append_right σa List.mem_cons_self)
    exact ⟨_, vs, n, x, ok.gone, g, Vs.move Stay.refl (less_sub drop_sub _) _ _ r⟩
  · exact V.move Stay.refl (less_sub drop_sub _) _ _ x

theorem WE.freeze {e : Expr} (h : WE c A fr env m σ e (fun d σ1 => ∃ a ds σa σb, d = .ref a ∧ σ1 = σa ++ (a, .lst ds) :: σb ∧ Q (.lst ds) (σa ++ σb)) X) : WE c A fr env m σ e Q X := fun s ok fm =>
  wpAny_mono (h s ok fm) (fun v s1 ⟨d, σ1, p1, ok1, x1, a, ds, σa, σb, hd, hσ, q⟩ => by
    subst hd hσ
    have := fz_v ok1 x1
    simp only [fzD, isRef, beq_self_eq_true, if_true] at this
    exact ⟨.lst ds, σa ++ σb, p1.to drop_sub, ok1.sub drop_sub, this, q⟩) fun _ _ x => x
end
end Mine
set_option linter.unusedVariables false
set_option linter.unusedSimpArgs false
set_option autoImplicit false
set_option maxHeartbeats 1000000
namespace Mine
open PySem PySem.Calls PyProof.Rows PySem.W

def Gi (c : Cx) (gs : List (Str × Int)) : Prop := ∀ x i, gs.lookup x = some i → ∃ t, c.mg x = some (.int i t)
section
variable {c : Cx} {A : Around} {fr : List Addr} {σ : Sto} {X : Addr → Sto → Prop} {Q : D → Sto → Prop} {env : Env} {m : Vars} {B : List Stmt} {bs : List (Str × Value)} {gs : List (Str × Int)}
theorem WE.gInt (T : Tp c B bs) (G : Gi c gs) {f : Str} {fp : Pos} {i : Int} (hk : env.kindOf f = some .globalImplicit) (hg : gs.lookup f = some i) (h : Q (.int i) σ) (hdb : (f == ("__debug__" : Str)) = false := by decide) : WE c A fr env m σ (.Name f fp) Q X := by
  obtain ⟨t, e⟩ := G f i hg
  exact WE.nInt T.good hk e h hdb
end
end Mine
namespace Mine
open PySem PySem.Calls PyProof.Rows PySem.W
section
variable {c : Cx} {K : Frag} {C : Addr} {cn : Str} {Bd : List Stmt} {A : Around} {fr : List Addr} {σ : Sto} {X : Addr → Sto → Prop} {Q : D → Sto → Prop} {env : Env} {m : Vars}
theorem WE.idMeth {o : Expr} {name : Str} {apos pos : Pos} {args : List Expr} (h : WE c A fr env m σ (.Call (.Attribute o name apos) args [] pos) Q X) : WE c A fr env m σ (.Call (.Attribute o name apos) args [] pos) Q X := h
end
end Mine
namespace Mine
open PySem PySem.Calls PyProof.Rows PySem.W
end Mine
set_option linter.unusedVariables false
set_option linter.unusedSimpArgs false
set_option autoImplicit false
set_option maxHeartbeats 1000000
namespace Mine
open PySem PySem.Calls PyProof.Rows PySem.W

def asgOk (sc scope : Scope) (x : Str) (p cpos : Pos) : Bool := sc.kind == .function && sc.names.lookup x == some .local && p.line == cpos.line && !(scope.names.any fun (n, k) => n == x && (k == .local || k == .cell))
section
variable {c : Cx} {A : Around} {fr : List Addr} {σ : Sto} {X : Addr → Sto → Prop} {Q : D → Sto → Prop} {env : Env} {m : Vars} {N : Vars → Sto → Prop} {R : D → Sto → Prop}
theorem swaps_true {sc scope : Scope} {x : Str} {p cpos : Pos} {elt : Expr} {gs : List Comprehension} {line : Nat} (hsc : env.scope = sc) (h : asgOk sc scope x p cpos = true) : swapsWith (.ListComp elt gs scope cpos) (some (.Name x p)) line env = pure true := by
  simp only [asgOk, Bool.and_eq_true, beq_iff_eq, Bool.not_eq_true'] at h
  obtain ⟨⟨⟨h1, h2⟩, h3⟩, h4⟩ := h
  have e1 : env.blockKind = .function := by unfold Env.blockKind; rw [hsc, h1]; rfl
  have e2 : env.kindOf x = some .local := kindOf_of hsc h2
  have e3 : (Expr.ListComp elt gs scope cpos).pos.line = cpos.line := rfl
  unfold swapsWith
  dsimp only
  rw [e1, e2, h3, e3, h4]
  simp
theorem W1.assignC {sc : Scope} {x : Str} {pos' pos : Pos} {tg iter elt : Expr} {ifs : List Expr} {scope : Scope} {cpos : Pos} (hsc : env.scope = sc) (h : WIt c A fr env m σ iter tg (Turns c A env m scope ifs elt (QL fun d σ' => N ((x, d) :: m) σ')) X) (h1 : compOk scope = true) (h2 : freeOk scope sc = true)
    (h3 : asgOk sc scope x pos' cpos = true) (hs : ∀ x, foldedSetIterable iter env x = pure x := by intro _; rfl) :
    W1 c A fr env m σ (.Assign [.Name x pos'] (.ListComp elt [⟨tg, iter, ifs, 0⟩] scope cpos) pos) N R X := by
  refine W1.assignComp h h1 (freeOk_of hsc h2) ?_ (swaps_true hsc h3) hs
  simp only [asgOk, Bool.and_eq_true, beq_iff_eq] at h3
  exact kindOf_of hsc h3.1.1.2
end
end Mine
set_option linter.unusedVariables false
set_option linter.unusedSimpArgs false
set_option autoImplicit false
set_option maxHeartbeats 1000000
namespace Mine
open PySem PySem.Calls PyProof.Rows PySem.W

end Mine
set_option linter.unusedVariables false
set_option linter.unusedSimpArgs false
set_option autoImplicit false
set_option maxHeartbeats 1000000
namespace Mine
open PySem PySem.Calls PyProof.Rows PySem.W

theorem in_of_all {h : Heap} {K : Frag} (hK : ∀ p ∈ K, h.get? p.1 = some p.2) : K.In h := fun a o e => hK (a, o) (mem_of_lookup' e)
  where mem_of_lookup' {a : Addr} {o : Obj} : ∀ {K : Frag}, K.lookup a = some o → (a, o) ∈ K
  | [], h => by cases h
  | (b, q) :: r, h => by
    rw [List.lookup_cons] at h
    by_cases e : (a == b) = true
    · rw [e] at h; cases h; rw [beq_iff_eq.mp e]; exact List.mem_cons_self
    · have e' : (a == b) = false := by simpa using e
      rw [e'] at h; exact List.mem_cons_of_mem _ (mem_of_lookup' h)

theorem Gi.ofTop {c : Cx} {p : Program} {loose : List Str} {mean : ExcName → Option Value} {gs : List (Str × Int)} (T : Top p loose mean c.mg c.mb c.h0) (h : gs.map (fun q => valOf p q.1) = gs.map fun q => some (.int q.2)) : Gi c gs := fun x i e => by
  have hm := mem_of_lookup e
  have := List.map_inj_left.mp h (x, i) hm
  obtain ⟨v, h1, h2⟩ := T.const x _ this
  have r := h2 c.h0
  cases r
  exact ⟨_, h1⟩
end Mine
set_option linter.unusedVariables false
set_option linter.unusedSimpArgs false
set_option autoImplicit false
set_option maxHeartbeats 1000000
namespace Mine
open PySem PySem.Calls PyProof.Rows PySem.W

section
variable {c : Cx} {A : Around} {fr : List Addr} {σ : Sto} {X : Addr → Sto → Prop} {Q : D → Sto → Prop} {env : Env} {m : Vars} {N : Vars → Sto → Prop} {R : D → Sto → Prop}

theorem Ex.made {s s' : Shared} {h' : Heap} {e C : Addr} {vs : List Value} {σ' : Sto} (fm : Fm env m fr (keys σ ++ fr) s.heap) (p : Post [] fr σ s s' σ') (ok : Ok c A fr σ' s'.heap) (x : Heap.MadeExcOf s'.heap h' e (.ref C) vs) (hX : X C σ') :
    Ex c A (some env) fr σ s false X (.ref e) { s' with heap := h' } := by
  obtain ⟨t, he, _, _⟩ := x.there
  have pk : Post [] fr σ' s' { s' with heap := h' } σ' := Post.keeps (tk := s'.toks) x.keeps
  have pp := p.trans pk
  refine ⟨e, C, σ', [e], rfl, pp.wide (by simp), ok.more x.keeps (fun a ha => by rw [List.mem_singleton.mp ha]; exact x.new) (fun a ha => by rw [List.mem_singleton.mp ha]; exact ⟨_, he⟩) (by simp), fun a ha => ?_, ⟨_, _, he, ⟨rfl, rfl⟩, rfl, by simp, .inl ⟨rfl, rfl, rfl⟩⟩, (fm.move pp).forget, hX⟩
  rw [List.mem_singleton.mp ha]
  exact none_back p x.new

theorem W1.raise {x : Str} {C : Addr} {bm : List Value} {B newId initId : String} {np cpos pos : Pos} {args : List Expr} (g : c.Good) (O : OwnCls x C bm newId c.mg c.h0) (FB : ExcBaseFacts B newId initId bm) (hh : A.handled = none) (hk : env.kindOf x = some .globalImplicit)
    (h : WA c A fr env m σ args (fun ds σ1 => ds.length ≤ sizeLine ∧ X C σ1) X) (hp : plainArgs args = true := by rfl) (hdb : (x == ("__debug__" : Str)) = false := by decide) :
    W1 c A fr env m σ (.Raise (some (.Call (.Name x np) args [] cpos)) none pos) N R X := fun s ok fm => by
  have hst := plainArgs_starEach (env := env) (pos := cpos) hp
  obtain ⟨tl, N, nm, q, bs, hdct, sn, sub, ab, col, dd, k0, k1, k2, k3, k5, mN, hC, hN, hni, T⟩ := O.obj
  refine wpAny_Raise_call_subT (C := C) (nm := nm) (q := q) (N := N) (bs := bs) (bm := tl) (hdct := hdct) (sn := sn) (sub := sub) (ab := ab) (col := col) (dd := dd) (k0 := k0) (k1 := k1) (k2 := k2) (k3 := k3) (k5 := k5)
    FB (mN := mN) (T.hasType FB.hasBase) hh (by rw [List.any_eq_false]; intro y hy; simp [hst y hy]) hni ?_
  refine Name_function_global fm.kind hk (loadGlobal_global (by rw [fm.glob]; exact g.g.keeps ok.base) O.bound ⟨rfl, ?_⟩) hdb
  refine wpAny_evalArgs hst (wpAny_mono (h cpos s ok fm) (fun us s1 hx => ?_) fun _ _ x => x.wide fm)
  obtain ⟨ds, σ1, p1, ok1, x1, hl, hX⟩ := hx
  exact ⟨rfl, by rw [x1.length]; exact hl, ok1.base _ _ hC, hN.keeps ok1.base, T.keeps ok1.base, fun h' e hm => Ex.made fm p1 ok1 hm hX⟩
end
end Mine
set_option linter.unusedVariables false
set_option linter.unusedSimpArgs false
set_option autoImplicit false
set_option maxHeartbeats 1000000
set_option maxRecDepth 100000
namespace Mine
open PySem PySem.Calls PyProof.Rows PySem.W

structure Xd (M : Model) (h : Heap) (D : Addr) : Prop where
  cls : Looks M h (typeLookup (.ref D) "__class__") (some (.builtin "object.__class__"))
  ga : Looks M h (typeLookup (.ref D) "__getattribute__") (some (.builtin "BaseException.__getattribute__"))
  geta : Looks M h (typeLookup (.ref D) "__getattr__") none
  subB : Looks M h (isSubtype (.ref D) (.type "BaseException")) true
  subO : Looks M h (isSubtype (.ref D) (.type "object")) true
  isT : Looks M h (isType (.ref D)) true

section
variable {prog : Program} {w : World} {A : Around} {E : Value → Shared → Prop} {h : Heap} {g : Array GenState} {d : Drawn} {t : Nat} {os : OsState} {a D : Addr} {o : Obj}

theorem xc_get {R : Result → Shared → Prop} (S : Xd (model prog w) h D) (hx : h.get? a = some o) (hc : o.cls = .ref D) (hq : R (.ok (.ret (.ref D))) ⟨h, g, d, t, os⟩) :
    codeAny (model prog w) A (.call (.builtin "getset_descriptor.__get__") ⟨[.builtin "object.__class__", .ref a, .ref D], []⟩) R ⟨h, g, d, t, os⟩ := by
  have hT5 : (⟨h, g, d, t, os⟩ : Shared).TypeIs (.builtin "object.__class__") "getset_descriptor" := F.typeOf_object_class
  have L : Looks (model prog w) h (isSubtype (.ref D) (.type (".".intercalate ("object.__class__".cutAt '.').dropLast))) true := by rw [F.owner_object_class]; exact S.subO
  refine codeAny_call_builtin F.slot_gs_get.plain F.entry_gs_get (F.slot_gs_get.check _ _ _ _ _ _ _ _ hT5 (F.args_gs_get _ _ _) ?_)
  repeat (any_goals (first | assumption | (with_reducible refine wpAny_loadPart_at hx ?_; rw [hc]) | with_reducible refine L.at ?_ | wp_step))
  refine ⟨Code.quiet_builtin _ (by decide +kernel), codeAny_builtin F.entry_object_class ?_⟩
  repeat (any_goals (first | assumption | (with_reducible refine wpAny_loadPart_at hx ?_; rw [hc]) | wp_step))
theorem xc_check {nameV : Value} {Q : Unit → Shared → Prop} (S : Xd (model prog w) h D) (hx : h.get? a = some o) (hc : o.cls = .ref D) (hq : Q () ⟨h, g, d, t, os⟩) : wpAny (model prog w) A (checkBuiltinCall "BaseException.__getattribute__" ⟨[.ref a, nameV], []⟩) Q E ⟨h, g, d, t, os⟩ := by
  have hk : builtinKind "BaseException.__getattribute__" = some .slot := by decide +kernel
  have hsplit : splitId "BaseException.__getattribute__" = some ("BaseException", "__getattribute__") := by decide +kernel
  have ha := F.args_bexc_ga (.ref a) nameV
  have L := S.subB
  simp only [checkBuiltinCall, hk, hsplit]
  refine wpAny_bind ?_
  · unfold isInstance
    repeat (first | (with_reducible refine wpAny_loadPart_at hx ?_; rw [hc]) | with_reducible refine L.at ?_ | wp_step)
    exact hq
theorem xc_entry {tk : Tok} {Q : Fin → Shared → Prop} (S : Xd (model prog w) h D) (hx : h.get? a = some o) (hc : o.cls = .ref D) (hq : Q (.done (.ret (.ref D))) ⟨h, g, d, t, os⟩) :
    wpAny (model prog w) A (Builtin.«object.__getattribute__» ⟨[.ref a, .str "__class__" tk], []⟩) Q E ⟨h, g, d, t, os⟩ := by
  have hT5 : (⟨h, g, d, t, os⟩ : Shared).TypeIs (.builtin "object.__class__") "getset_descriptor" := F.typeOf_object_class
  have f5 := F.typeOf_object_class
  have f6 := F.slot_gs_get.lookup
  have f7 := F.slot_gs_set.lookup
  have L := S.cls
  repeat (any_goals (first | assumption | (with_reducible refine wpAny_loadPart_at hx ?_; rw [hc]) | with_reducible refine L.at ?_ | wp_step))
  refine xc_get S hx hc ?_
  repeat (any_goals (first | assumption | wp_step))
theorem xc_call {tk : Tok} {R : Result → Shared → Prop} (S : Xd (model prog w) h D) (hx : h.get? a = some o) (hc : o.cls = .ref D) (hq : R (.ok (.ret (.ref D))) ⟨h, g, d, t, os⟩) :
    codeAny (model prog w) A (.call (.builtin "BaseException.__getattribute__") ⟨[.ref a, .str "__class__" tk], []⟩) R ⟨h, g, d, t, os⟩ :=
  codeAny_call_builtin F.attrBase_ValueError.ga.plain F.entry_bexc_ga (xc_check S hx hc (xc_entry S hx hc hq))
theorem xc_by {tk : Tok} {Q : Value → Shared → Prop} (S : Xd (model prog w) h D) (hx : h.get? a = some o) (hc : o.cls = .ref D) (hq : Q (.ref D) ⟨h, g, d, t, os⟩) :
    wpAny (model prog w) A (getAttrBy (.ref a) (.str "__class__" tk) false) Q E ⟨h, g, d, t, os⟩ := by
  have f3 := F.attrBase_ValueError.ga.bind (.ref a)
  have hx2 : (Value.builtin "BaseException.__getattribute__" == Value.builtin "object.__getattribute__") = false := by decide +kernel
  have hx1 : (onTheHeap (Value.ref D) && Value.builtin "BaseException.__getattribute__" == Value.builtin "object.__getattribute__") = false := by rw [hx2]; rfl
  have L1 := S.ga
  have L2 := S.geta
  repeat (any_goals (first | assumption | (with_reducible refine wpAny_loadPart_at hx ?_; rw [hc]) | with_reducible refine L1.at ?_ | with_reducible refine L2.at ?_ | wp_step))
  refine xc_call S hx hc ?_
  repeat (any_goals (first | assumption | wp_step))
theorem xc_attr {Q : Option Value → Shared → Prop} (S : Xd (model prog w) h D) (hx : h.get? a = some o) (hc : o.cls = .ref D) (hq : Q (some (.ref D)) ⟨h, g, d, t + 1, os⟩) : wpAny (model prog w) A (getAttr? (.ref a) "__class__") Q E ⟨h, g, d, t, os⟩ := by
  unfold getAttr? getAttrBy?
  repeat (any_goals (first | assumption | with_reducible apply xc_by S hx hc | wp_step))
theorem xc_nested {cv : Value} {dep : Int} {tk : Tok} {Q : Fin → Shared → Prop} (S : Xd (model prog w) h D) (hx : h.get? a = some o) (hc : o.cls = .ref D) (hty : Looks (model prog w) h (typeOf cv) (.type "type")) (his : Looks (model prog w) h (isType cv) true)
    (hne : (Value.ref D == cv) = false) (hsub : Looks (model prog w) h (isSubtype (.ref D) cv) false) (hq : Q (.done (.ret (.bool false))) ⟨h, g, d, t + 1, os⟩) :
    wpAny (model prog w) A (Builtin.«isinstance.nested» ⟨[.ref a, cv, .int dep tk], []⟩) Q E ⟨h, g, d, t, os⟩ := by
  have L0 : Looks (model prog w) h (typeOf (.ref a)) (.ref D) := by
    intro A' Q' E' s' k q
    exact wpAny_bind (wpAny_loadPart (k _ _ hx) (wpAny_pure (by rw [hc]; exact q)))
  have LI : Looks (model prog w) h (isInstance (.ref a) cv) false := L0.andThen hsub
  unfold Builtin.«isinstance.nested»
  refine wpAny_bind (L0.at ?_)
  rw [if_neg (fun q => by rw [hne] at q; exact Bool.noConfusion q)]
  refine wpAny_bind (hty.at ?_)
  rw [if_pos (by decide)]
  k_delta "plainIsInstance"
  refine wpAny_bind (wpAny_bind (his.at ?_))
  simp only [Bool.not_true, Bool.false_eq_true, if_false]
  refine wpAny_bind (LI.at ?_)
  simp only [Bool.false_eq_true, if_false]
  refine wpAny_bind (xc_attr S hx hc ?_)
  refine wpAny_bind (S.isT.at ?_)
  simp only [Bool.not_true, Bool.false_eq_true, if_false]
  refine wpAny_bind (wpAny_rule ?_)
  refine hsub.at ?_
  first
    | exact wpAny_pure hq
    | exact wpAny_pure (wpAny_pure hq)
    | exact wpAny_bind (wpAny_pure (wpAny_pure hq))
end
end Mine
set_option linter.unusedVariables false
set_option linter.unusedSimpArgs false
set_option autoImplicit false
set_option maxHeartbeats 1000000
set_option maxRecDepth 100000
namespace Mine
open PySem PySem.Calls PyProof.Rows PySem.W

section
variable {prog : Program} {w : World} {A : Around} {E : Value → Shared → Prop} {h : Heap} {g : Array GenState} {d : Drawn} {t : Nat} {os : OsState} {a D : Addr} {o : Obj}
theorem xc_type {M : Model} (hx : h.get? a = some o) (hc : o.cls = .ref D) : Looks M h (typeOf (.ref a)) (.ref D) := by
  intro A' Q' E' s' k q
  exact wpAny_bind (wpAny_loadPart (k _ _ hx) (wpAny_pure (by rw [hc]; exact q)))
theorem xc_nestedT {cv : Value} {dep : Int} {tk : Tok} {Q : Fin → Shared → Prop} (hx : h.get? a = some o) (hc : o.cls = .ref D) (hty : Looks (model prog w) h (typeOf cv) (.type "type")) (his : Looks (model prog w) h (isType cv) true)
    (hsub : Looks (model prog w) h (isSubtype (.ref D) cv) true) (hq : Q (.done (.ret (.bool true))) ⟨h, g, d, t, os⟩) :
    wpAny (model prog w) A (Builtin.«isinstance.nested» ⟨[.ref a, cv, .int dep tk], []⟩) Q E ⟨h, g, d, t, os⟩ := by
  have L0 := xc_type (M := model prog w) hx hc
  have LI : Looks (model prog w) h (isInstance (.ref a) cv) true := L0.andThen hsub
  unfold Builtin.«isinstance.nested»
  refine wpAny_bind (L0.at ?_)
  by_cases q : (Value.ref D == cv) = true
  · rw [if_pos q]
    exact wpAny_bind (wpAny_rule (wpAny_bind (wpAny_pure (wpAny_pure hq))))
  · rw [if_neg q]
    refine wpAny_bind (hty.at ?_)
    rw [if_pos (by decide)]
    k_delta "plainIsInstance"
    refine wpAny_bind (wpAny_bind (his.at ?_))
    simp only [Bool.not_true, Bool.false_eq_true, if_false]
    refine wpAny_bind (LI.at ?_)
    simp only [if_true]
    exact wpAny_pure (wpAny_pure hq)
end

structure Xs (c : Cx) (K : Frag) (es : List (Str × Addr × List Value)) : Prop where
  inn : K.In c.h0
  good : c.Good
  ok : es.all (xOne K) = true
structure X1 (c : Cx) (K : Frag) (x : Str) (C : Addr) (mro : List Value) : Prop where
  inn : K.In c.h0
  name : c.mg x = some (.ref C)
  cls : ∃ cd, clsIn K C = some cd ∧ cd.mro = mro
  typ : typeIn K (.ref C) = some (.type "type")
  fc : findIn K (.ref C) "__class__" = some (some (.builtin "object.__class__"))
  fg : findIn K (.ref C) "__getattribute__" = some (some (.builtin "BaseException.__getattribute__"))
  fa : findIn K (.ref C) "__getattr__" = some none
  mB : mro.contains (.type "BaseException") = true
  mO : mro.contains (.type "object") = true
  ne : mro.isEmpty = false
theorem Xs.at {c : Cx} {K : Frag} {es : List (Str × Addr × List Value)} {x : Str} {C : Addr} {mro : List Value} (S : Xs c K es) (h : es.lookup x = some (C, mro)) : X1 c K x C mro := by
  have := List.all_eq_true.mp S.ok _ (mem_of_lookup h)
  simp only [xOne, Bool.and_eq_true, beq_iff_eq, Bool.not_eq_true'] at this
  obtain ⟨⟨⟨⟨⟨⟨⟨⟨h1, h2⟩, h3⟩, h4⟩, h5⟩, h6⟩, h7⟩, h8⟩, h9⟩ := this
  obtain ⟨cd, hc, he⟩ := any_some h2
  exact ⟨S.inn, mg_of S.inn S.good.g h1, ⟨cd, hc, beq_iff_eq.mp he⟩, h3, h4, h5, h6, h7, h8, h9⟩

section
variable {c : Cx} {K : Frag} {x : Str} {C : Addr} {mro : List Value} {M : Model} {h : Heap}
theorem X1.sub (S : X1 c K x C mro) (k : K.In h) (v : Value) : Looks M h (isSubtype (.ref C) v) (mro.contains v) := by
  obtain ⟨cd, hc, he⟩ := S.cls
  refine looks_mroIn k ?_
  unfold mroIn
  rw [hc, Option.bind_some, he, if_neg (by rw [S.ne]; decide)]
theorem X1.isT (S : X1 c K x C mro) (k : K.In h) : Looks M h (isType (.ref C)) true := by
  obtain ⟨cd, hc, _⟩ := S.cls
  unfold clsIn at hc
  split at hc
  · rename_i ho
    intro A' Q' E' s' k' q
    unfold isType loadHead
    exact wpAny_bind (wpAny_loadPart (k' _ _ (k _ _ ho)) (wpAny_pure q))
  · cases hc
theorem X1.type (S : X1 c K x C mro) (k : K.In h) : Looks M h (typeOf (.ref C)) (.type "type") := looks_typeIn k S.typ
theorem X1.xd (S : X1 c K x C mro) (k : K.In h) : Xd M h C where
  cls := looks_findIn k S.fc
  ga := looks_findIn k S.fg
  geta := looks_findIn k S.fa
  subB := by have := S.sub (M := M) k (.type "BaseException"); rwa [S.mB] at this
  subO := by have := S.sub (M := M) k (.type "object"); rwa [S.mO] at this
  isT := S.isT k
end

section
variable {c : Cx} {K : Frag} {A : Around} {fr : List Addr} {σ : Sto} {X : Addr → Sto → Prop} {Q : D → Sto → Prop} {env : Env} {m : Vars} {es : List (Str × Addr × List Value)}
theorem WE.nX (S : Xs c K es) {f : Str} {fp : Pos} {C : Addr} {mro : List Value} (hk : env.kindOf f = some .globalImplicit) (he : es.lookup f = some (C, mro)) (h : Q (.ref C) σ) (hdb : (f == ("__debug__" : Str)) = false := by decide) : WE c A fr env m σ (.Name f fp) Q X := fun s ok fm =>
  Name_function_global fm.kind hk (loadGlobal_global (by rw [fm.glob]; exact S.good.g.keeps ok.base) (S.at he).name ⟨_, σ, Post.refl .., ok, by unfold V; rfl, h⟩) hdb

structure IsiX (h : Heap) (a C : Addr) (cv : Value) (b : Bool) : Prop where
  obj : ∃ o, h.get? a = some o ∧ o.cls = .ref C
  xd : ∀ M : Model, Xd M h C
  ty : ∀ M : Model, Looks M h (typeOf cv) (.type "type")
  is_ : ∀ M : Model, Looks M h (isType cv) true
  sub : ∀ M : Model, Looks M h (isSubtype (.ref C) cv) b
  ne : b = false → (Value.ref C == cv) = false
theorem isi_any {prog : Program} {w : World} {E : Value → Shared → Prop} {s : Shared} {a C : Addr} {cv : Value} {b : Bool} {P : Value → Shared → Prop} (x : IsiX s.heap a C cv b) (h : ∀ tk, P (.bool b) { s with toks := tk }) :
    wpAny (model prog w) A (call (.builtin "isinstance") [.ref a, cv]) P E s := by
  refine call_isinstance (S := fun _ R s => IsiX s.heap a C cv b ∧ ∀ tk, R (.ok (.ret (.bool b))) { s with toks := tk }) (fun prog' w' A' R' s' hs => isinstance_outer ?_ (by intro q; cases q)) ⟨x, h⟩
  obtain ⟨⟨⟨o, hx, hc⟩, S, hty, his, hsub, hne⟩, hR⟩ := hs
  obtain ⟨hh, g, d, t, os⟩ := s'
  cases b with
  | true => exact xc_nestedT hx hc (hty _) (his _) (hsub _) (hR t)
  | false => exact xc_nested (S _) hx hc (hty _) (his _) (hne rfl) (hsub _) (hR (t + 1))

theorem V.excAt {Kk : List Addr} {h : Heap} {C : Addr} {v : Value} (x : V Kk h (.exc C) v) : ∃ a o, v = .ref a ∧ h.get? a = some o ∧ o.cls = .ref C := by
  unfold V at x
  obtain ⟨a, o, vs, e, _, g, hc, _⟩ := x
  exact ⟨a, o, e, g, hc⟩
theorem At1.isiX (S : Xs c K es) {x y : Str} {C C' : Addr} {mro mro' : List Value} {b : Bool} (hx : es.lookup x = some (C, mro)) (hy : es.lookup y = some (C', mro')) (hb : mro.contains (.ref C') = b) (hself : mro.contains (.ref C) = true) (h : Q (.bool b) σ) :
    At1 c A fr σ (.builtin "isinstance") [.exc C, .ref C'] Q X := .two fun s v u ok hv hu => by
  obtain ⟨a, o, rfl, g, hc⟩ := hv.excAt
  unfold V at hu; subst hu
  have k : K.In s.heap := S.inn.keeps ok.base
  refine isi_any (C := C) (b := b) ⟨⟨o, g, hc⟩, fun M => (S.at hx).xd k, fun M => (S.at hy).type k, fun M => (S.at hy).isT k, fun M => hb ▸ (S.at hx).sub k _, fun e => ?_⟩ fun tk => ⟨_, σ, Post.tok .., ok, V.ofBool, h⟩
  subst e
  rw [beq_eq_false_iff_ne]
  intro q
  rw [← q, hself] at hb
  cases hb
theorem At1.isiV (S : Xs c K es) {x : Str} {C : Addr} {mro : List Value} {T : String} {b : Bool} (hx : es.lookup x = some (C, mro)) (hb : mro.contains (.type T) = b) (hty : typeOf (.type T) = pure (.type "type")) (his : isType (.type T) = pure true) (h : Q (.bool b) σ) :
    At1 c A fr σ (.builtin "isinstance") [.exc C, .typ T] Q X := .two fun s v u ok hv hu => by
  obtain ⟨a, o, rfl, g, hc⟩ := hv.excAt
  unfold V at hu; subst hu
  have k : K.In s.heap := S.inn.keeps ok.base
  exact isi_any (C := C) (b := b) ⟨⟨o, g, hc⟩, fun M => (S.at hx).xd k, fun M => Looks.of_pure hty, fun M => Looks.of_pure his, fun M => hb ▸ (S.at hx).sub k _, fun e => rfl⟩ fun tk => ⟨_, σ, Post.tok .., ok, V.ofBool, h⟩
end
end Mine
set_option linter.unusedVariables false
set_option linter.unusedSimpArgs false
set_option autoImplicit false
set_option maxHeartbeats 1000000
set_option maxRecDepth 100000
namespace Mine
open PySem PySem.Calls PyProof.Rows PySem.W

section
variable {c : Cx} {K : Frag} {A : Around} {fr : List Addr} {σ : Sto} {X : Addr → Sto → Prop} {Q : D → Sto → Prop} {env : Env} {m : Vars} {es : List (Str × Addr × List Value)} {N : Vars → Sto → Prop} {R : D → Sto → Prop}

theorem xc_match {M : Model} {h : Heap} {x y : Str} {C C' e : Addr} {mro mro' : List Value} {o : Obj} (S : X1 c K x C mro) (S' : X1 c K y C' mro') (k : K.In h) (he : h.get? e = some o) (hc : o.cls = .ref C) (hb : mro.contains (.ref C') = true) :
    Looks M h (excMatches (.ref e) (.ref C')) true := by
  intro A Q E s ks q
  have L1 : Looks M s.heap (isInstance (.ref C') (.type "tuple")) false := ((S'.type k).keeps ks).andThen (Looks.of_pure tc_notTuple)
  have L2 : Looks M s.heap (isExcClass (.ref C')) true := by
    have a := (S'.isT (M := M) k).keeps ks
    have b := (S'.sub (M := M) k (.type "BaseException")).keeps ks
    rw [S'.mB] at b
    exact a.andThen b
  have L3 : Looks M s.heap (typeOf (.ref e)) (.ref C) := (xc_type he hc).keeps ks
  have L4 : Looks M s.heap (isSubtype (.ref C) (.ref C')) true := by
    have := (S.sub (M := M) k (.ref C')).keeps ks
    rwa [hb] at this
  unfold excMatches
  refine wpAny_bind (L1.here ?_)
  simp only [Bool.false_eq_true, if_false]
  refine wpAny_bind (wpAny_pure ?_)
  simp only [List.forIn_cons, List.forIn_nil]
  refine wpAny_bind (wpAny_bind (wpAny_bind (L2.here ?_)))
  simp only [Bool.not_true, Bool.false_eq_true, if_false]
  refine wpAny_pure (wpAny_pure (wpAny_bind (L3.here (wpAny_bind (wpAny_bind (wpAny_bind (L4.here ?_)))))))
  simp only [if_true]
  exact wpAny_pure (wpAny_pure (wpAny_pure q))

theorem Ex.at {A' : Around} {G : Option Env} {s s' : Shared} {t : Bool} {v : Value} (x : Ex c A G fr σ s t X v s') (e : A'.frames = A.frames) : Ex c A' G fr σ s t X v s' := by
  obtain ⟨e', C, σ2, ex, rfl, q, ok, n, r, f, hx⟩ := x
  exact ⟨e', C, σ2, ex, rfl, q, ok.at e, n, r, f, hx⟩

theorem W1.tryAs {sc : Scope} {body suite : List Stmt} {b₀ : Stmt} {T n : Str} {np hpos pos : Pos} {CE : Addr} {mroE : List Value} {Xb : Addr → Sto → Prop} (fe : Fe A env sc) (S : Xs c K es) (hT : env.kindOf T = some .globalImplicit) (heT : es.lookup T = some (CE, mroE)) (hn : env.kindOf n = some .local)
    (h : WS c A fr env m σ body N R Xb)
    (k : ∀ C σ', Xb C σ' → ∃ x mro, es.lookup x = some (C, mro) ∧ mro.contains (.ref CE) = true ∧ ∀ e, WS c (A.mark (some (.ref e))) fr env [(n, .exc C)] σ' (b₀ :: suite) (fun _ _ => False) R NoX) (hdb : (T == ("__debug__" : Str)) = false := by decide) :
    W1 c A fr env m σ (.Try body [.ExceptHandler (some (.Name T np)) (some n) (b₀ :: suite) hpos] [] [] pos) N R X := fun s ok fm => by
  obtain ⟨l, hst⟩ := fe.stack
  refine wpAny_Try_except (wpAny_mono (h s ok fm) (fun f s1 hx => ?_) fun v s1 hx => ?_)
  · obtain ⟨o, σ1, p1, ok1, r1, q1⟩ := hx
    cases o with
    | next m' => obtain ⟨rfl, fm1⟩ := r1; exact wpAny_execs_nil ⟨.next m', σ1, p1, ok1, ⟨rfl, fm1⟩, q1⟩
    | ret d => obtain ⟨v, rfl, hv⟩ := r1; exact ⟨.ret d, σ1, p1, ok1, ⟨v, rfl, hv⟩, q1⟩
  refine wpAny_mono (Ex.noted hx hst fe.frame) (fun _ s2 hx2 => ?_) fun _ _ f => f
  refine wpAny_mono (Ex.flight (f? := none) hx2) (fun _ s3 hx3 => ?_) fun _ _ f => f
  have hx3' := hx3
  obtain ⟨e, C, σ', ex, rfl, p, ok2, hnew, ⟨oe, vs, ge, ⟨gc, gd⟩, gf, gs, gt⟩, hF, hX⟩ := hx3
  obtain ⟨x, mro, hex, hmro, hsuite⟩ := k C σ' hX
  have kk : K.In s3.heap := S.inn.keeps ok2.base
  have fm3 : Fm env [] fr (keys σ' ++ fr) s3.heap := hF
  have hmk : (A.mark (some (.ref e))).frames = A.frames := rfl
  refine wpAny_handleBy_cons (codeAny_handlers_test ?_) (by intro q; cases q)
  refine Name_function_global fm3.kind hT (loadGlobal_global (by rw [fm3.glob]; exact S.good.g.keeps ok2.base) (S.at heT).name ?_) hdb
  refine (xc_match (S.at hex) (S.at heT) kk ge gc hmro).here ?_
  simp only [if_true]
  refine codeAny_handlers_suite_as ?_
  refine wpAny_mono (Ex.flight (f? := none) (hx3'.at hmk)) (fun _ s4 hx4 => ?_) fun _ _ f => f
  obtain ⟨e', C', σ'', ex', he', p4, ok4, hnew4, ⟨oe4, vs4, ge4, ⟨gc4, gd4⟩, gf4, gs4, gt4⟩, hF4, hX4⟩ := hx4
  obtain rfl : e = e' := by injection he'
  obtain ⟨x', mro', hex', hmro', hsuite'⟩ := k C' σ'' hX4
  have hin : ∀ l, (A.mark (some (.ref e))).frames = some l → ∀ b ∈ l.filterMap (·.frame), b ∈ fr := ok.frames_in
  have ok5 : Ok c (A.mark (some (.ref e))) fr σ'' s4.heap := Ok.less (ex := []) (wr := ex') ok4 hin
  have hee : e ∈ ex' := by
    rcases gt4 with ⟨_, h, _⟩ | ⟨T', _, _, h, _⟩ <;> rw [h] <;> simp
  have hV : V (keys σ'' ++ fr) s4.heap (.exc C') (.ref e) := by unfold V; exact ⟨e, oe4, vs4, rfl, ok4.apart.1 e hee, ge4, gc4, gf4, gd4⟩
  refine wpAny_mono (W.store (X := NoX) ok5 (show Fm env [] fr (keys σ'' ++ fr) s4.heap from hF4) hV (.inl hn)) (fun _ s5 hx5 => ?_) fun _ _ f => (Ex.no f).elim
  obtain ⟨_, σ5, p5, ok5', fm5, hσ5⟩ := hx5
  subst hσ5
  refine wpAny_mono (hsuite' e s5 ok5' fm5) (fun f s6 hx6 => ?_) fun v s6 hx6 => (Ex.no hx6).elim
  obtain ⟨o, σ6, p6, ok6, r6, q6⟩ := hx6
  cases o with
  | next m' => exact q6.elim
  | ret d =>
    obtain ⟨v, rfl, hv, fv⟩ := r6
    obtain ⟨mv, hns, _⟩ := fv.ns
    refine wpAny_nameGoes hn hns (by rw [fv.kind]; rfl) fun h' m' hn' sb => ?_
    obtain ⟨oL, esL, epL, eL, hdL, _⟩ := _root_.id hn'
    have pt : Post (Fa env) fr σ6 s6 { s6 with heap := h', toks := s6.toks + 1 } σ6 := Post.turn List.mem_cons_self fv.fa sb eL
    have okt : Ok c A fr σ6 h' := (ok6.turn fv.inn.1 sb eL (fun vs => by rw [hdL]; intro q; cases q) (fun _ => ⟨oL, esL, epL, eL, hdL⟩)).at rfl
    have st : Stay (keys σ6 ++ fr) s6.heap h' := fun b o' nb e => (sb.2 b fun q => nb (q ▸ List.mem_append_right _ fv.inn.1)).trans e
    refine ⟨.ret d, σ6, (p4.trans p5).trans (p6.trans pt), okt, ⟨v, rfl, V.move st (fun _ z => .inl z) _ _ hv, ?_⟩, q6⟩
    exact {
      kind := fv.kind
      glob := fv.glob
      bui := fv.bui
      ns := ⟨m', hn', fun x d e => by cases e⟩
      cell := fun x cc e => by
        obtain ⟨ov, hc, _⟩ := fv.cell x cc e
        exact ⟨ov, hc.sameBut sb (fv.apart.2 _ (mem_of_lookup e)), fun d e => by cases e⟩
      has := fv.has
      inn := fv.inn
      apart := fv.apart }
end
end Mine
set_option linter.unusedVariables false
set_option linter.unusedSimpArgs false
set_option autoImplicit false
set_option maxHeartbeats 1000000
set_option maxRecDepth 100000
namespace Mine
open PySem PySem.Calls PyProof.Rows PySem.W

section
variable {c : Cx} {K : Frag} {A : Around} {fr : List Addr} {σ σ1 σ2 : Sto} {X : Addr → Sto → Prop} {Q : D → Sto → Prop} {env : Env} {m : Vars} {es : List (Str × Addr × List Value)} {N : Vars → Sto → Prop} {R : D → Sto → Prop}

theorem WB.addS {x y : Str} (hsz : x.length + y.length ≤ sizeLine) (h : Q (.str (x ++ y)) σ) : WB c A fr σ (binaryOp .Add) (.str x) (.str y) Q X := fun v1 v2 s ok x1 x2 => by
  obtain ⟨t, rfl⟩ := x1.toStr
  obtain ⟨u, rfl⟩ := x2.toStr
  exact SB.add (fun t' k => ⟨_, σ, Post.tok .., ok, V.ofStr, h⟩) hsz
theorem At1.abs {a : Int} (h : Q (.int (if a < 0 then -a else a)) σ) : At1 c A fr σ (.builtin "abs") [.int a] Q X := .one fun s v ok hv => by
  obtain ⟨t, rfl⟩ := hv.toInt
  exact call_abs_int fun u tk => ⟨_, σ, Post.tok .., ok, V.ofInt, h⟩
theorem WE.rstrip {o : Expr} {apos pos : Pos} (h : WE c A fr env m σ o (fun d σ1 => ∃ x : Str, d = .str x ∧ x.length ≤ sizeLine ∧ Q (.str (Txt.rstrip x)) σ1) X) (hb : attributeBase o (Str.ofString "rstrip") env (eval o env) = eval o env) (hl : (apos.endLine == pos.line) = true := by rfl) :
    WE c A fr env m σ (.Call (.Attribute o (Str.ofString "rstrip") apos) [] [] pos) Q X := fun s ok fm =>
  Call_method0 hb hl (wpAny_mono (h s ok fm) (fun v s1 hx => by
    obtain ⟨d, σ1, p1, ok1, x1, x, rfl, hsz, q⟩ := hx
    obtain ⟨t, rfl⟩ := x1.toStr
    exact SB.rstrip (fun t' k => ⟨_, σ1, p1.trans (Post.tok ..), ok1, V.ofStr, q⟩) hsz) fun _ _ x => x)

theorem set_exact {prog : Program} {w : World} {E : Value → Shared → Prop} {s : Shared} {l : Addr} {vs : List Value} {n : Nat} {j : Nat} {k : Int} {t : Tok} {v : Value} {P : Unit → Shared → Prop} (g : s.heap.get? l = some (lstObj vs n)) (hk : k = (j : Int)) (hfit : k < 2 ^ 63) (hj : j < vs.length)
    (hP : ∀ n' h', h'.get? l = some (lstObj (vs.set j v) n') → (∀ b ob, b ≠ l → s.heap.get? b = some ob → h'.get? b = some ob) → P () { s with heap := h' }) :
    wpAny (model prog w) A (setItem (.ref l) (.int k t) v) P E s := by
  have hl : s.heap.IsList l vs.toArray := ⟨_, g, rfl, n, rfl⟩
  unfold setItem
  try with_reducible refine wpAny_holding ?_
  first | refine wpAny_bind (wpAny_pure ?_) | skip
  refine wpAny_bind (wpAny_sequenceKey hl.typeIs (by decide) ?_)
  refine wpAny_bind (wpAny_callSpecial?_slot (name := Str.ofString "__setitem__") hl.typeIs slot_list_setitem
    (wpAny_call_entry slot_list_setitem hl.typeIs entry_list_setitem ?_ (args_list_setitem _ _ _)))
  show wpAny _ _ (Builtin.List.listSubscript? (.int k t) >>= _) _ _ s
  refine wpAny_bind (wpAny_listSubscript_int (fitsIndex_of (by omega) hfit) ?_)
  clear hfit
  subst hk
  have hx' : vs.toArray[j]? = some vs[j] := by simp [hj]
  show wpAny _ _ ((seqItemAt l j >>= fun r => pure (r.map (j, ·))) >>= _) _ _ s
  refine wpAny_bind (wpAny_bind (wpAny_seqItemAt g rfl (wpAny_pure ?_)))
  rw [hx']
  show wpAny _ _ (setSeqItemAt l j v >>= _) _ _ s
  have e := IsL.update (h := s.heap) (l := l) (items := vs.toArray) (n := n) g (·.setIfInBounds j v)
  have e2 : vs.toArray.setIfInBounds j v = (vs.set j v).toArray := by simp
  rw [e2] at e
  have fin := hP _ _ e fun b ob hne eb => by rw [Heap.get?_update_ne _ _ _ _ hne]; exact eb
  refine wpAny_bind (wpAny_setSeqItemAt g rfl ?_)
  first
    | exact wpAny_bind (wpAny_pure (wpAny_pure ⟨.none, rfl, wpAny_pure fin⟩))
    | exact wpAny_pure ⟨.none, rfl, wpAny_pure fin⟩
theorem Vs.set {Kk : List Addr} {h : Heap} : ∀ {ds : List D} {vs : List Value} {d : D} {v : Value} (j : Nat), Vs Kk h ds vs → V Kk h d v → Vs Kk h (ds.set j d) (vs.set j v)
  | [], _, _, _, j, x, y => by unfold Vs at x; subst x; simpa using Vs.nil
  | e :: ds, _, d, v, 0, x, y => by unfold Vs at x; obtain ⟨u, r, rfl, p, q⟩ := x; exact .cons y q
  | e :: ds, _, d, v, j + 1, x, y => by unfold Vs at x; obtain ⟨u, r, rfl, p, q⟩ := x; exact .cons p (q.set j y)
theorem W1.setL {o i value : Expr} {pos' pos : Pos}
    (h : WE c A fr env m σ value (fun dv τ1 => WE c A fr env m τ1 o (fun d τ2 => WE c A fr env m τ2 i (fun di τ3 => ∃ (a : Addr) (ds : List D) (j : Nat) (σa σb : Sto), d = .ref a ∧ di = .int j ∧ τ3 = σa ++ (a, .lst ds) :: σb ∧ j < ds.length ∧ (j : Int) < 2 ^ 63 ∧ N m (σa ++ (a, .lst (ds.set j dv)) :: σb)) X) X) X)
    (hs : swapsWith value (some (.Subscript o i pos')) pos.line env = pure false) : W1 c A fr env m σ (.Assign [.Subscript o i pos'] value pos) N R X := fun s ok fm => by
  refine wpAny_Assign_Subscript (wpAny_mono (h s ok fm) (fun v s1 hx => ?_) fun _ _ x => x.wide fm) hs
  obtain ⟨dv, τ1, p1, ok1, x1, q1⟩ := hx
  refine wpAny_mono (q1 s1 ok1 (fm.move p1)) (fun ov s2 hx => ?_) fun _ _ x => (Ex.back (G := none) p1 x fun _ _ y => y).wide fm
  obtain ⟨d, τ2, p2, ok2, x2, q2⟩ := hx
  refine wpAny_mono (q2 s2 ok2 ((fm.move p1).move p2)) (fun iv s3 hx => ?_) fun _ _ x => (Ex.back (G := none) (p1.trans p2) x fun _ _ y => y).wide fm
  obtain ⟨di, τ3, p3, ok3, x3, a, ds, j, σa, σb, rfl, rfl, rfl, hj, hf, q⟩ := hx
  obtain ⟨t, rfl⟩ := x3.toInt
  have x2' := p3.v x2
  unfold V at x2'; subst x2'
  have ha : a ∈ keys (σa ++ (a, O.lst ds) :: σb) := by simp [keys]
  have nfr : a ∉ fr := fun z => (List.nodup_append.mp ok3.nd).2.2 a ha a z rfl
  obtain ⟨vs, n, g, r⟩ := ok3.sto (a, O.lst ds) (by simp)
  refine set_exact g rfl hf (by rw [r.length]; exact hj) fun n' h' g' k' => ?_
  have pp : Post [] fr (σa ++ (a, .lst ds) :: σb) s3 { s3 with heap := h' } (σa ++ (a, .lst (ds.set j dv)) :: σb) := Post.put (tk := s3.toks) nfr k' ⟨_, g'⟩
  have st : Stay (keys (σa ++ (a, O.lst ds) :: σb) ++ fr) s3.heap h' := fun b ob nb e => k' b ob (fun z => nb (by rw [z]; exact List.mem_append_left _ ha)) e
  have hv : V (keys (σa ++ (a, O.lst ds) :: σb) ++ fr) s3.heap dv v := p3.v (p2.v x1)
  refine ⟨.next m, _, (((p1.trans p2).trans p3).trans pp).wide (by simp), ok3.put k' ⟨_, n', g', ?_⟩, ⟨rfl, (((fm.move p1).move p2).move p3).move pp⟩, q⟩
  exact Vs.move st (fun _ z => .inl z) _ _ (Vs.set j r hv)

def Rai (c : Cx) (x : Str) : Prop := ∃ (C : Addr) (bm : List Value) (B newId initId : String), OwnCls x C bm newId c.mg c.h0 ∧ ExcBaseFacts B newId initId bm
theorem W1.raiseX {x : Str} {C : Addr} {mro : List Value} {np cpos pos : Pos} {args : List Expr} (S : Xs c K es) (he : es.lookup x = some (C, mro)) (O : Rai c x) (hh : A.handled = none) (hk : env.kindOf x = some .globalImplicit)
    (h : WA c A fr env m σ args (fun ds σ1 => ds.length ≤ sizeLine ∧ X C σ1) X) (hp : plainArgs args = true := by rfl) (hdb : (x == ("__debug__" : Str)) = false := by decide) :
    W1 c A fr env m σ (.Raise (some (.Call (.Name x np) args [] cpos)) none pos) N R X := by
  obtain ⟨C', bm, B, newId, initId, o, f⟩ := O
  obtain rfl : C' = C := by
    have h1 := o.bound
    rw [(S.at he).name] at h1
    injection h1 with h1; injection h1 with h1; exact h1.symm
  exact W1.raise S.good o f hh hk h hp hdb
theorem Rai.ofTop {p : Program} {loose : List Str} {mean : ExcName → Option Value} {x : Str} (T : Top p loose mean c.mg c.mb c.h0) (h : (((ownsOf p).find? fun e => e.name == x).map fun o => (o.name, o.newId, o.bm)) = some (x, "ValueError.__new__", [.type "ValueError", .type "Exception", .type "BaseException", .type "object"])) : Rai c x := by
  obtain ⟨o, h1, h2⟩ := Option.map_eq_some_iff.mp h
  simp only [Prod.mk.injEq] at h2
  obtain ⟨rfl, h3, h4⟩ := h2
  obtain ⟨C, O, _⟩ := T.own o (List.mem_of_find?_eq_some h1)
  rw [h3, h4] at O
  exact ⟨C, _, _, _, _, O.own, F.excBase_ValueError⟩
end
end Mine
set_option linter.unusedVariables false
set_option linter.unusedSimpArgs false
set_option autoImplicit false
set_option maxHeartbeats 1000000
namespace Mine
open PySem PySem.Calls PyProof.Rows PySem.W

theorem fragAt_in {h : Heap} {as : List Addr} : (fragAt h as).In h := in_of_all fun p hp => by
  obtain ⟨a, ha, e⟩ := List.mem_filterMap.mp hp
  obtain ⟨o, h1, h2⟩ := Option.map_eq_some_iff.mp e
  rw [← h2]; exact h1
theorem Xs.ofHook {c : Cx} {w : World} {as : List Addr} {es : List (Str × Addr × List Value)} (Y : (xHook as es).says w c.h0) (g : c.Good) : Xs c (fragAt c.h0 as) es :=
  ⟨fragAt_in, g, (Bool.and_eq_true_iff.mp (show xAll as es c.h0 = true from Y)).2⟩
end Mine
set_option linter.unusedVariables false
set_option linter.unusedSimpArgs false
set_option autoImplicit false
set_option maxHeartbeats 1000000
namespace Mine
open PySem PySem.Calls PyProof.Rows PySem.W

theorem Room'.mark {n : Nat} {A : Around} {v : Option Value} (r : Room' n A) : Room' n (A.mark v) := r
section
variable {c : Cx} {A : Around} {fr : List Addr} {σ : Sto} {X : Addr → Sto → Prop} {Q : D → Sto → Prop} {env : Env} {m : Vars} {B : List Stmt} {bs : List (Str × Value)}
theorem WF.byH {name : Str} {params : Arguments} {body : List Stmt} {scope : Scope} {dpos : Pos} (i : Nat) {ps : List Str} {n : Nat} {ds : List D} (T : Tp c B bs) (hd : (B[i]?).bind recOf = some ⟨name, params, body, scope, dpos⟩)
    (hb : ∀ pm code doc vals, vals.length = ps.length → bindArgs (docDef name params body scope pm code doc) ⟨vals, []⟩ = pure (ps.zip vals)) (hok : fnOk scope ps = true) (hl : ds.length = ps.length)
    (h : ∀ A fr env, Room' n A → env.scope = scope → Fe A env scope → WS c A (Fa env ++ fr) env (ps.zip ds) σ body (fun _ σ' => Q .none σ') Q X) : WF c (Room' (n + 1)) name ds σ Q X := fun a ha => by
  obtain ⟨a', o, pm, code, doc, h1, h2, h3, h4⟩ := T.fn _ (rec_mem hd)
  obtain rfl : a' = a := by dsimp only at h1; rw [h1] at ha; injection ha with ha; injection ha
  simp only [fnOk, Bool.and_eq_true, decide_eq_true_eq, List.all_eq_true, Bool.or_eq_true, beq_iff_eq, bne_iff_ne, Bool.not_eq_true'] at hok
  obtain ⟨⟨⟨⟨⟨⟨k1, k2⟩, k3⟩, k4⟩, k5⟩, k6⟩, k7⟩ := hok
  refine WC.of (P' := Room' n) (ps := ps) (body := body) (scope := scope) ⟨⟨o, _, h2, h3, rfl, rfl, rfl, rfl, rfl, h4, hb pm code doc⟩, T.nolimit, k1, k2, k3, fun x e => ?_, k5, k6, k7⟩ (fun A env r => ⟨?_, r.deeper⟩) hl fun A fr env r fe => h A fr env r fe.scope fe
  · obtain ⟨y, hy⟩ := lookup_mem' e
    exact k4 _ hy rfl
  · have := r.1
    have e : recursionLimit = 1000 := rfl
    omega
theorem WE.callP (T : Tp c B bs) {P : Around → Prop} {f : Str} {fp pos : Pos} {args : List Expr} (hP : P A) (hk : env.kindOf f = some .globalImplicit) (hf : Dfn c f)
    (h : WA c A fr env m σ args (fun ds σ1 => WF c P f ds σ1 Q X) X) (hp : plainArgs args = true := by rfl) (hdb : (f == ("__debug__" : Str)) = false := by decide) : WE c A fr env m σ (.Call (.Name f fp) args [] pos) Q X := by
  obtain ⟨a, o, fd, h1, h2, h3⟩ := hf
  exact WE.callF T.good (P := P) hP hk h1 h2 h3 (fun p s ok fm => (h p s ok fm).mono (fun ds σ1 w => w a h1) fun _ _ x => x) hp hdb
end
end Mine
set_option linter.unusedVariables false
set_option linter.unusedSimpArgs false
set_option autoImplicit false
namespace Mine
open PySem PySem.Calls PyProof.Rows

def EnumSt (sd : SD) (e it l : Addr) (i : Nat) (K : List Addr) (h : Heap) : Prop :=
  (∃ old, IsEnum h e it i old) ∧ h.IsListIter it l i ∧ sd.Fz K h l
theorem enum_nd {h : Heap} {e it : Addr} {i : Int} {old : Value} (x : IsEnum h e it i old) {o : Obj} (g : h.get? e = some o) : ∀ es n, o.data ≠ .dict es n := fun es n q => by rw [x] at g; cases g; cases q
theorem enumOut_nd {h : Heap} {e it a : Addr} {i : Int} {old : Value} (x : IsEnumOut h e it i old a) {o : Obj} (g : h.get? e = some o) : ∀ es n, o.data ≠ .dict es n := fun es n q => by rw [x] at g; cases g; cases q
theorem lit_nd {h : Heap} {i l : Addr} {k : Nat} (x : h.IsListIter i l k) {o : Obj} (g : h.get? i = some o) : ∀ es n, o.data ≠ .dict es n := fun es n e => by
  obtain ⟨o', g', _, d'⟩ := x
  rw [g'] at g; cases g; rw [d'] at e; cases e
theorem EnumSt.nd {sd : SD} {e it l : Addr} {i : Nat} {K : List Addr} {h : Heap} (x : EnumSt sd e it l i K h) : ∀ b ∈ [e, it], ∀ o, h.get? b = some o → ∀ es n, o.data ≠ .dict es n := fun b hb o g => by
  obtain ⟨⟨old, a1⟩, a2, _⟩ := x
  simp only [List.mem_cons, List.not_mem_nil, or_false] at hb
  rcases hb with rfl | rfl
  · exact enum_nd a1 g
  · exact lit_nd a2 g
theorem EnumSt.live {sd : SD} {e it l : Addr} {i : Nat} {K : List Addr} {h : Heap} (x : EnumSt sd e it l i K h) : ∀ b ∈ [e, it], ∃ o, h.get? b = some o := fun b hb => by
  obtain ⟨⟨old, a1⟩, ⟨o, a2, _⟩, _⟩ := x
  simp only [List.mem_cons, List.not_mem_nil, or_false] at hb
  rcases hb with rfl | rfl
  · exact ⟨_, a1⟩
  · exact ⟨_, a2⟩
theorem lit_at {h h' : Heap} {i l : Addr} {k : Nat} (x : h.IsListIter i l k) (e : ∀ o, h.get? i = some o → h'.get? i = some o) : h'.IsListIter i l k := by
  obtain ⟨o, g, r⟩ := x; exact ⟨o, e o g, r⟩
theorem EnumSt.move {sd : SD} {e it l : Addr} {i : Nat} {K K' : List Addr} {h h' : Heap} (x : EnumSt sd e it l i K h) (sy : Stay K h h') (hw : ∀ b ∈ [e, it], ∀ o, h.get? b = some o → h'.get? b = some o) (hl : Less K K' h) : EnumSt sd e it l i K' h' := by
  obtain ⟨⟨old, a1⟩, a2, a3⟩ := x
  exact ⟨⟨old, hw e (by simp) _ a1⟩, lit_at a2 fun o g => hw it (by simp) o g, a3.move sy hl⟩

section
variable {c : Cx} {A : Around} {fr : List Addr} {σ : Sto} {X : Addr → Sto → Prop} {env : Env} {m : Vars}
theorem Src.enum {x y : Str} {px py tp : Pos} {kt : Nat} {sd : SD} {e it l : Addr} (hh : A.handled = none) (hL : sd.isL = true) (hne : e ≠ it) :
    Src c A (.Tuple [.Name x px, .Name y py] kt tp) e [e, it] (sd.ds.zipIdx.map fun p => [(y, p.1), (x, D.int (p.2 : Int))]) (fun σ' => sd.inv σ') (EnumSt sd e it l)
      (fun i K h v => ∃ T u d t, v = .ref T ∧ T ∉ [e, it] ∧ IsEnumOut h e it ((i : Int) + 1) u T ∧ h.IsListIter it l (i + 1) ∧ sd.Fz K h l ∧ IsPair h T (.int i t) u ∧ sd.ds[i]? = some d ∧ V K h d u) where
  nodict := fun i K h st => st.nd
  midnd := fun i K h v st => by
    obtain ⟨T, u, d, t, _, _, a1, a2, _⟩ := st
    intro b hb o g
    simp only [List.mem_cons, List.not_mem_nil, or_false] at hb
    rcases hb with rfl | rfl
    · exact enumOut_nd a1 g
    · exact lit_nd a2 g
  move := fun i K K' h h' st sy hw hl => st.move sy hw hl
  next := fun i σ fr s Q E hi ok st inv hQ => by
    obtain ⟨⟨old, a1⟩, a2, a3⟩ := id st
    obtain ⟨vs, sq, hv⟩ := a3.get ok inv
    rw [hL] at sq
    simp only [List.length_map, List.length_zipIdx] at hi
    have hi1 : i < vs.length := by rw [hv.length]; omega
    refine wpAny_pyNext_enum_item (x := vs[i]) a1 a2 (show s.heap.IsList l vs.toArray from sq) (by simp [hi1]) hne fun h' b1 b2 b3 b4 hk => ?_
    obtain ⟨d, e1, w1⟩ := hv.get (i := i) (v := vs[i]) (by simp)
    have sy : Stay (keys σ ++ ([e, it] ++ fr)) s.heap h' := fun b o nb g => hk b o (fun q => nb (by rw [q]; simp)) (fun q => nb (by rw [q]; simp)) g
    have ls : Less (keys σ ++ ([e, it] ++ fr)) (keys σ ++ ([e, it] ++ fr)) s.heap := fun a ha => .inl ha
    refine hQ _ h' (s.toks + 1) ⟨s.heap.objs.size, vs[i], d, s.toks, rfl, fun hm => ?_, b1, b2, a3.move sy ls, b3, e1, V.move sy ls _ _ w1⟩ ⟨fun b o nb g => hk b o (fun q => nb (by rw [q]; simp)) (fun q => nb (by rw [q]; simp)) g, fun b hb => ?_⟩
    · obtain ⟨o, g⟩ := st.live _ hm
      exact heap_ne g rfl
    · simp only [List.mem_cons, List.not_mem_nil, or_false] at hb
      rcases hb with rfl | rfl
      · exact ⟨_, b1⟩
      · obtain ⟨o, g, _⟩ := b2; exact ⟨o, g⟩
  put := fun i σ fr F env m v s Q E yy hy mid ok fm hi hkind hF hnd hQ => by
    obtain ⟨T, u, d, t, rfl, hT, a1, a2, a3, hp, e1, w1⟩ := mid
    have hy' : yy = [(y, d), (x, D.int (i : Int))] := by
      rw [List.getElem?_map, List.getElem?_zipIdx, e1] at hy
      simpa using hy.symm
    subst hy'
    refine wpAny_letOwnedTupleGo_enum a1 fun h1 z1 sb1 => ?_
    have k1 : ∀ b o, b ≠ e → s.heap.get? b = some o → h1.get? b = some o := fun b o nb g => (sb1.2 b nb).trans g
    have ow : Ow [e, it] s.heap h1 := ⟨fun b o nb g => k1 b o (fun q => nb (by rw [q]; simp)) g, fun b hb => by
      simp only [List.mem_cons, List.not_mem_nil, or_false] at hb
      rcases hb with rfl | rfl
      · exact ⟨_, z1⟩
      · obtain ⟨o, g, _⟩ := a2; exact ⟨o, k1 _ o (Ne.symm hne) g⟩⟩
    have ok1 : Ok c A ([e, it] ++ fr) σ h1 := ok.ow hnd ow
    have ndw := ok.nd
    rw [List.nodup_append, List.nodup_append] at ndw
    have nfw : ∀ a ∈ fr, a ∉ [e, it] := fun a ha hw => ndw.2.1.2.2 a hw a ha rfl
    have fm1 := fm.ow (fun b hb => List.mem_append_right _ (List.mem_append_left _ hb)) ⟨nfw _ hi.1, fun q hq => nfw _ (hi.2 q hq)⟩ ow
    have sy1 : Stay (keys σ ++ ([e, it] ++ fr)) s.heap h1 := fun b o nb g => k1 b o (fun q => nb (by rw [q]; simp)) g
    have ls : Less (keys σ ++ ([e, it] ++ fr)) (keys σ ++ ([e, it] ++ fr)) s.heap := fun a ha => .inl ha
    have hTe : T ≠ e := fun q => hT (by rw [q]; simp)
    have st1 : EnumSt sd e it l (i + 1) (keys σ ++ ([e, it] ++ fr)) h1 :=
      ⟨⟨_, by simpa using z1⟩, lit_at a2 fun o g => k1 _ o (Ne.symm hne) g, a3.move sy1 ls⟩
    have tin : ∀ a, a ∈ tight env x ∨ a ∈ tight env y → a ∈ F := fun a ha => by
      rcases ha with ha | ha
      · rcases tight_mem ha with z | ⟨kk, g⟩
        · rw [z]; exact hF.1
        · exact hF.2 (x, D.int (i : Int)) (by simp) kk _ g
      · rcases tight_mem ha with z | ⟨kk, g⟩
        · rw [z]; exact hF.1
        · exact hF.2 (y, d) (by simp) kk _ g
    have tfr : ∀ a, a ∈ tight env x ∨ a ∈ tight env y → a ∈ fr := fun a ha => by
      rcases ha with ha | ha
      · rcases tight_mem ha with z | ⟨kk, g⟩
        · rw [z]; exact hi.1
        · exact hi.2 _ (mem_of_lookup g)
      · rcases tight_mem ha with z | ⟨kk, g⟩
        · rw [z]; exact hi.1
        · exact hi.2 _ (mem_of_lookup g)
    refine store_two (d1 := D.int (i : Int)) (F := tight env x ++ tight env y) (s := { s with heap := h1 }) hh ok1 fm1 (k1 _ _ hTe hp) V.ofInt (V.move sy1 ls _ _ w1) (hkind (x, D.int (i : Int)) (by simp)) (hkind (y, d) (by simp)) (fun a ha => by simpa [List.mem_append] using ha) fun h2 tk2 fm2 ok2 p2 => ?_
    have kw : ∀ b ∈ [e, it], ∀ o, h1.get? b = some o → h2.get? b = some o := fun b hb o g => by
      obtain ⟨sl, e1, r1⟩ := p2.slots b o (List.mem_append_left _ hb) (fun q => nfw b (tfr b (by simpa [List.mem_append] using q)) hb) g
      have := r1 (st1.nd b hb o g)
      subst this; exact e1
    refine hQ h2 tk2 (st1.move p2.stay kw p2.less) fm2 ok2 ?_
    have pa : Post ([e, it] ++ F) ([e, it] ++ fr) σ s { s with heap := h1, toks := s.toks } σ := Post.ow ow
    exact pa.trans (p2.wide fun a ha => List.mem_append_right _ (tin a (by simpa [List.mem_append] using ha)))
  done := fun σ fr s Q E ok st inv hQ => by
    obtain ⟨⟨old, a1⟩, a2, a3⟩ := id st
    obtain ⟨vs, sq, hv⟩ := a3.get ok inv
    rw [hL] at sq
    exact wpAny_pyNext_enum_end hh a1 a2 (show s.heap.IsList l vs.toArray from sq) (by simp [hv.length]) fun h' hk => hQ h' s.toks fun b o nb g => hk b o (fun q => nb (by rw [q]; simp)) g
  self := fun i K s Q E st hQ => by obtain ⟨⟨old, a1⟩, _⟩ := st; exact wpAny_pyIter_enum a1 hQ

theorem WIt.enum {B : List Stmt} {bs : List (Str × Value)} (T : Tp c B bs) (hh : A.handled = none) {f : Str} {fp pos px py tp : Pos} {k : Nat} {e1 : Expr} {x y : Str} {Q : List Vars → (Sto → Prop) → Sto → Prop} (hk : env.kindOf f = some .globalImplicit) (hb : bs.lookup f = some (.type "enumerate"))
    (h : WE c A fr env m σ e1 (fun d1 σ1 => ∃ (α : Type) (sd : SD) (is : List α) (F : α → D), d1 = sd.d ∧ sd.isL = true ∧ sd.ds = is.map F ∧ sd.inv σ1 ∧ Q (is.zipIdx.map fun p => [(y, F p.1), (x, D.int (p.2 : Int))]) (fun σ' => sd.inv σ') σ1) X) (hp : plainArgs [e1] = true := by rfl) (hdb : (f == ("__debug__" : Str)) = false := by decide) :
    WIt c A fr env m σ (.Call (.Name f fp) [e1] [] pos) (.Tuple [.Name x px, .Name y py] k tp) Q X := by
  obtain ⟨hg, hbb⟩ := T.bn _ _ hb
  refine WIt.callT T.good hk hg hbb (WA.cons (h.mono (fun d1 σ1 q => WA.nil ?_) fun _ _ y => y) hp) hp hdb
  intro s vals E ok fm hv
  obtain ⟨α, sd, is, F, rfl, hL, hds, inv, q⟩ := q
  unfold Vs at hv
  obtain ⟨v1, r, rfl, hv1, hr⟩ := hv
  unfold Vs at hr; subst hr
  obtain ⟨l, rfl, z1⟩ := SD.of_v hv1
  obtain ⟨vs, sq, _⟩ := z1.get ok inv
  rw [hL] at sq
  refine call_enumerate_list (show s.heap.IsList l vs.toArray from sq) fun h' he hit hsz hkp => ?_
  refine wpAny_pyIter_enum he ?_
  have fresh : ∀ a ∈ [s.heap.objs.size + 1, s.heap.objs.size], s.heap.get? a = none := fun a ha => by
    simp only [List.mem_cons, List.not_mem_nil, or_false] at ha
    refine none_of_ge ?_
    rcases ha with rfl | rfl
    · exact Nat.le_add_right ..
    · exact Nat.le_refl _
  have ls := less_add (σ := σ1) (fr := fr) fresh
  have st : EnumSt sd (s.heap.objs.size + 1) s.heap.objs.size l 0 (keys σ1 ++ ([s.heap.objs.size + 1, s.heap.objs.size] ++ fr)) h' :=
    ⟨⟨_, he⟩, hit, z1.move (fun b o _ g => hkp b o g) ls⟩
  have hne : s.heap.objs.size + 1 ≠ s.heap.objs.size := Nat.succ_ne_self _
  refine ⟨_, _, _, _, _, _, rfl, ⟨h', s.toks, rfl⟩, hkp, fresh, st.live, by simp, Src.enum hh hL hne, st, inv, ?_⟩
  have e : sd.ds.zipIdx.map (fun p => [(y, p.1), (x, D.int (p.2 : Int))]) = is.zipIdx.map fun p => [(y, F p.1), (x, D.int (p.2 : Int))] := by
    rw [hds, List.zipIdx_map, List.map_map]; rfl
  rw [e]; exact q
end
end Mine
set_option linter.unusedVariables false
set_option linter.unusedSimpArgs false
set_option autoImplicit false
set_option maxHeartbeats 1000000
set_option maxRecDepth 100000
namespace Mine
open PySem PySem.Calls PyProof.Rows PySem.W

abbrev tx (l : List Nat) : Str := ⟨l.toArray⟩
abbrev sg (x : Str) : List Nat := x.cps.toList
theorem sg_tx (l : List Nat) : sg (tx l) = l := rfl
theorem tx_sg (x : Str) : tx (sg x) = x := by cases x; rfl
theorem sg_app (x y : Str) : sg (x ++ y) = sg x ++ sg y := by
  show (x ++ y).cps.toList = _
  rw [Str.cps_append, Array.toList_append]
theorem sg_len (x : Str) : (sg x).length = x.length := by simp [Str.length]
theorem tx_app (a b : List Nat) : tx a ++ tx b = tx (a ++ b) := Str.ext' (by rw [Str.cps_append]; simp)

section
variable {c : Cx} {K : Frag} {A : Around} {fr : List Addr} {σ σ1 σ2 : Sto} {X : Addr → Sto → Prop} {Q : D → Sto → Prop} {env : Env} {m : Vars} {N : Vars → Sto → Prop} {R : D → Sto → Prop} {B : List Stmt} {bs : List (Str × Value)}

theorem WB.eqS {x y : Str} (h : Q (.bool (sg x == sg y)) σ) : WB c A fr σ (compareOp .Eq) (.str x) (.str y) Q X := fun v1 v2 s ok x1 x2 => by
  obtain ⟨t, rfl⟩ := x1.toStr
  obtain ⟨u, rfl⟩ := x2.toStr
  exact P.eq_str ⟨_, σ, Post.refl .., ok, V.ofBool, h⟩
theorem WB.neS {x y : Str} (h : Q (.bool (sg x != sg y)) σ) : WB c A fr σ (compareOp .NotEq) (.str x) (.str y) Q X := fun v1 v2 s ok x1 x2 => by
  obtain ⟨t, rfl⟩ := x1.toStr
  obtain ⟨u, rfl⟩ := x2.toStr
  exact P.ne_str ⟨_, σ, Post.refl .., ok, V.ofBool, h⟩
theorem WB.notInS {x : Str} {k : Nat} (h : Q (.bool (!decide (k ∈ sg x))) σ) : WB c A fr σ (compareOp .NotIn) (.str (tx [k])) (.str x) Q X := fun v1 v2 s ok x1 x2 => by
  obtain ⟨t, rfl⟩ := x1.toStr
  obtain ⟨u, rfl⟩ := x2.toStr
  rw [← StrLaws.found_one] at h
  exact P.notIn_str ⟨_, σ, Post.refl .., ok, V.ofBool, h⟩
theorem WB.mulS1 {x : Str} (h : Q (.str x) σ) : WB c A fr σ (binaryOp .Mult) (.str x) (.int 1) Q X := fun v1 v2 s ok x1 x2 => by
  obtain ⟨t, rfl⟩ := x1.toStr
  obtain ⟨u, rfl⟩ := x2.toInt
  refine P.mul_str (by decide) (fun _ e => by simp at e) (fun _ e => by simp at e) ?_
  rw [if_neg (by decide), if_pos (by simp)]
  exact ⟨_, σ, Post.refl .., ok, V.ofStr, h⟩
theorem WB.mulS0 {x : Str} (h : Q (.str (tx [])) σ) : WB c A fr σ (binaryOp .Mult) (.str x) (.int 0) Q X := fun v1 v2 s ok x1 x2 => by
  obtain ⟨t, rfl⟩ := x1.toStr
  obtain ⟨u, rfl⟩ := x2.toInt
  exact P.mul_str_none (by decide) (by decide) ⟨_, σ, Post.tok .., ok, V.ofStr, h⟩
theorem WSb.sign {value slice : Expr} {x : Str} {k : Int} {j : Nat} (h0 : -(2 ^ 63) ≤ k) (h1 : k < 2 ^ 63) (hk : -((sg x).length : Int) ≤ k) (hi : (sg x)[idx k (sg x).length]? = some j) (h : Q (.str (tx [j])) σ)
    (hs : ∀ t u, subscripted slice false (.str x t) (.int k u) = operate [.str x t, .int k u] (getItem (.str x t) (.int k u)) := by intro _ _; with_unfolding_all rfl) : WSb c A fr σ value slice (.str x) (.int k) Q X := fun v1 v2 s ok x1 x2 => by
  obtain ⟨t, rfl⟩ := x1.toStr
  obtain ⟨u, rfl⟩ := x2.toInt
  refine tail_any (typeIs_str _ _ _) F.slot_str_getitem.lookup ?_ (hs t u)
  refine P.getItem_str (c := j) (by rw [decide_eq_false (by omega), decide_eq_false (by omega)]; rfl) ?_ ⟨_, σ, Post.tok .., ok, V.ofStr, h⟩
  unfold idx at hi
  rw [sg_len] at hi hk
  by_cases hneg : k < 0
  · rw [if_pos hneg] at hi
    exact StrLaws.at_neg hneg hk (by rw [← Array.getElem?_toList]; exact hi)
  · rw [if_neg hneg] at hi
    exact StrLaws.at_nonneg (by omega) (by rw [← Array.getElem?_toList]; exact hi)
def cut (x : Str) (lo hi : Option Int) : Str := StrLaws.sliceText x lo hi
theorem cut_le (x : Str) (lo hi : Option Int) : (cut x lo hi).length ≤ x.length := by
  have := Txt.slice_le x lo hi
  exact this
theorem At1.lenS {x : Str} (hfit : x.length ≤ sizeLine) (h : Q (.int x.length) σ) : At1 c A fr σ (.builtin "len") [.str x] Q X := .one fun s v ok hv => by
  obtain ⟨t, rfl⟩ := hv.toStr
  exact P.len_str (by unfold sizeLine at hfit; omega) ⟨_, σ, Post.tok .., ok, V.ofInt, h⟩
theorem At1.strI {a : Int} (ha : a.natAbs.log2 < 1920) (h : Q (.str (toString a)) σ) : At1 c A fr σ (.type "str") [.int a] Q X := .one fun s v ok hv => by
  obtain ⟨t, rfl⟩ := hv.toInt
  exact P.str_of_int ha ⟨_, σ, Post.tok .., ok, V.ofStr, h⟩
theorem At1.intS {x : Str} {n : Int} (hn : PySem.intText? x = some n) (hl : x.length ≤ 640) (h : Q (.int n) σ) : At1 c A fr σ (.type "int") [.str x] Q X := .one fun s v ok hv => by
  obtain ⟨t, rfl⟩ := hv.toStr
  exact KIN.call_text hn hl ⟨_, σ, Post.tok .., ok, V.ofInt, h⟩
theorem WE.methS {o : Expr} {name : Str} {id : String} {apos pos : Pos} {args : List Expr} (slot : Slot "str" name id) (hty : typeOf (.builtin id) = pure (.type "method_descriptor"))
    (h : WE c A fr env m σ o (fun d σ1 => ∃ x : Str, d = .str x ∧ WA c A fr env m σ1 args (fun ds σ2 => At1 c A fr σ2 (.builtin id) (d :: ds) Q X) X) X)
    (hp : plainArgs args = true := by rfl) (hb : ∀ w, attributeBase o name env w = w := by intro _; rfl) (hl : (apos.endLine == pos.line) = true := by rfl) (hn : decide (args.length < 30) = true := by rfl) :
    WE c A fr env m σ (.Call (.Attribute o name apos) args [] pos) Q X := fun s ok fm => by
  have hst := plainArgs_starEach (env := env) (pos := pos) hp
  unfold W
  show wpAny _ A (do let ov ← attributeBase o name env (eval o env); standAt apos.atName; methodCall o name apos pos env ov (args.length + ([] : List Keyword).length) (backTo pos (starEach args env)) (backToKw pos (keywordEach [] env))) _ _ s
  rw [hb]
  refine wpAny_bind (wpAny_mono (h s ok fm) (fun ov s1 ⟨d, σ1, p1, ok1, x1, x, hsd, q1⟩ => ?_) fun _ _ x => x)
  subst hsd
  refine wpAny_bind (wpAny_standAt ?_)
  obtain ⟨t, rfl⟩ := x1.toStr
  have few : methodCallForm (args.length + ([] : List Keyword).length) (backTo pos (starEach args env)) (backToKw pos (keywordEach [] env)) = true := by
    unfold methodCallForm
    have a1 : (backTo pos (starEach args env)).all (fun x => !x.1) = true := List.all_eq_true.mpr fun x hx => by rw [hst x hx]; rfl
    have a2 : args.length < 30 := of_decide_eq_true hn
    have a3 : backToKw pos (keywordEach [] env) = [] := rfl
    rw [a1, a3]
    simp [a2]
  unfold methodCall
  rw [few]
  refine wpAny_bind (wpAny_holding ?_)
  unfold calleeOf
  rw [if_pos rfl]
  refine getMethod_builtin (typeIs_str _ _ _) F.plainAttrs_str slot hty (fun a e => nomatch e) ?_
  unfold methodCallPos
  simp only [hl, Bool.not_true, Bool.false_or, if_true]
  refine wpAny_bind (wpAny_pure ?_)
  refine callWith_builtin (by rw [List.any_eq_false]; intro x hx; simp [hst x hx]) (wpAny_evalArgs hst (wpAny_mono (q1 pos s1 ok1 (fm.move p1)) (fun us s2 ⟨ds, σ2, p2, ok2, x2, q2⟩ => ?_) fun _ _ x => Ex.back p1 x fun _ _ y => y))
  have hv : Vs (keys σ2 ++ fr) s2.heap (.str x :: ds) (.str x t :: us) := Vs.cons (p2.v x1) x2
  refine wpAny_mono (q2 s2 _ ok2 hv) (fun v s3 ⟨d3, σ3, p3, ok3, x3, q3⟩ => ⟨d3, σ3, (p1.trans p2).trans p3, ok3, x3, q3⟩) fun _ _ x => Ex.back (p1.trans p2) x fun _ _ y => y
theorem At1.find {x y : Str} (h : Q (.int (Txt.find x y)) σ) : At1 c A fr σ (.builtin "str.find") [.str x, .str y] Q X := .two fun s v u ok hv hu => by
  obtain ⟨t, rfl⟩ := hv.toStr
  obtain ⟨t2, rfl⟩ := hu.toStr
  exact SC.find ⟨_, σ, Post.tok .., ok, V.ofInt, h⟩
theorem At1.index {x y : Str} {i : Nat} {rest : List Nat} (ho : Builtin.Str.occurrences x y 0 x.length 1 = i :: rest) (h : Q (.int i) σ) : At1 c A fr σ (.builtin "str.index") [.str x, .str y] Q X := .two fun s v u ok hv hu => by
  obtain ⟨t, rfl⟩ := hv.toStr
  obtain ⟨t2, rfl⟩ := hu.toStr
  exact SC.index ho ⟨_, σ, Post.tok .., ok, V.ofInt, h⟩
theorem WIv.str {x : Str} {y : Str} {px : Pos} {Q : List Vars → (Sto → Prop) → Sto → Prop} (hh : A.handled = none) (h : Q ((sg x).map fun k => [(y, D.str (tx [k]))]) (fun _ => True) σ) : WIv c A fr env m σ (.str x) (.Name y px) Q := fun v s E ok fm hv => by
  obtain ⟨t, rfl⟩ := hv.toStr
  have hn : ∀ b ∈ [s.heap.objs.size], s.heap.get? b = none := fun b hb => by rw [List.mem_singleton.mp hb]; exact none_of_ge (Nat.le_refl _)
  have h' : Q (((sg x).map fun k => D.str (tx [k])).map fun d => [(y, d)]) (fun _ => True) σ := by rw [List.map_map]; exact h
  have jv : ∀ (K : List Addr) (h : Heap) (i : Nat) (v : Value), i < x.cps.size → True → SignAt x i v → ∃ d, ((sg x).map fun k => D.str (tx [k]))[i]? = some d ∧ V K h d v := by
    rintro K h i v hi _ ⟨k, u, e, rfl⟩
    refine ⟨.str (tx [k]), ?_, V.ofStr⟩
    rw [List.getElem?_map, Array.getElem?_toList, e]; rfl
  have jfp : ∀ (K : List Addr) (h : Heap), True → ∀ b ∈ [s.heap.objs.size], b = s.heap.objs.size ∨ b ∉ K := fun K h _ b hb => .inl (List.mem_singleton.mp hb)
  cases ha : x.cps.all (· < 128) with
  | false =>
    refine wpAny_pyIter_wide ha ?_
    refine ⟨_, [s.heap.objs.size], _, _, _, _, rfl, ⟨_, s.toks, rfl⟩, fun b o e => Heap.get?_push_of_some _ e, hn, fun b hb => by rw [List.mem_singleton.mp hb]; exact ⟨_, Heap.get?_push_size _ rfl⟩, by simp,
      Src.ofWalks (J := fun _ _ => True) (ds := (sg x).map fun k => D.str (tx [k])) (Walks.strWide hh s.heap.objs.size x t) (by simp) ?_ (fun _ _ _ _ _ _ _ => trivial) jv jfp, ?_, trivial, h'⟩
    · rintro i h ⟨o, g, _, hd⟩; exact ⟨o, _, g, hd⟩
    · exact ⟨⟨_, Heap.get?_push_size _ rfl, rfl, rfl⟩, trivial⟩
  | true =>
    refine wpAny_pyIter_ascii ha ?_
    refine ⟨_, [s.heap.objs.size], _, _, _, _, rfl, ⟨_, s.toks, rfl⟩, fun b o e => Heap.get?_push_of_some _ e, hn, fun b hb => by rw [List.mem_singleton.mp hb]; exact ⟨_, Heap.get?_push_size _ rfl⟩, by simp,
      Src.ofWalks (J := fun _ _ => True) (ds := (sg x).map fun k => D.str (tx [k])) (Walks.strAscii hh s.heap.objs.size x t) (by simp) ?_ (fun _ _ _ _ _ _ _ => trivial) jv jfp, ?_, trivial, h'⟩
    · rintro i h ⟨o, g, _, hd⟩; exact ⟨o, _, g, hd⟩
    · exact ⟨⟨_, Heap.get?_push_size _ rfl, rfl, rfl⟩, trivial⟩
theorem Vs.strs {K : List Addr} {h : Heap} : ∀ (l : List (Str × Tok)), Vs K h ((l.map (·.1)).map D.str) (strValues l)
  | [] => Vs.nil
  | (x, t) :: r => Vs.cons V.ofStr (Vs.strs r)
theorem Vs.toStrs {K : List Addr} {h : Heap} : ∀ {ts : List Str} {vs : List Value}, Vs K h (ts.map D.str) vs → ∃ l : List (Str × Tok), vs = strValues l ∧ l.map (·.1) = ts
  | [], vs, x => by simp only [List.map_nil] at x; unfold Vs at x; subst x; exact ⟨[], rfl, rfl⟩
  | y :: ts, vs, x => by
    simp only [List.map_cons] at x
    unfold Vs at x
    obtain ⟨v, r, rfl, x1, x2⟩ := x
    obtain ⟨t, rfl⟩ := x1.toStr
    obtain ⟨l, rfl, e⟩ := x2.toStrs
    exact ⟨(y, t) :: l, rfl, by simp [e]⟩
theorem split_exact {prog : Program} {w : World} {E : Value → Shared → Prop} {s : Shared} {x y : Str} {t u : Tok} {P : Value → Shared → Prop} (hy : (y.length == 0) = false) (hsz : x.length ≤ sizeLine) (hsz2 : (Builtin.Str.partsBetween x (Builtin.Str.occurrences x y 0 x.length (x.length + 1)) y.length).length ≤ sizeLine)
    (hq : ∀ (l : List (Str × Tok)) tk, l.map (·.1) = Txt.split x y → P (.ref s.heap.objs.size) { s with heap := s.heap.push (lstObj (strValues l) 0), toks := tk }) :
    wpAny (model prog w) A (call (.builtin "str.split") [.str x t, .str y u]) P E s := by
  cases h1 : (decide (x.length < y.length) || decide (Builtin.Str.strKind x < Builtin.Str.strKind y))
  · cases hf : (Builtin.Str.occurrences x y 0 x.length (x.length + 1)).isEmpty
    · refine call_meets F.slot_str_split (typeIs_str _ _ _) F.entry_str_split (F.args_str_split_2 _ _) (meets_str_split_sep x y t u h1 hy hf hsz hsz2) ?_
      show wants P E _ { s with toks := _, heap := s.heap.push { cls := .type "list", data := .seq (strsFrom s.toks (Builtin.Str.partsBetween x (Builtin.Str.occurrences x y 0 x.length (x.length + 1)) y.length)).toArray } }
      rw [strsFrom_eq]
      exact hq (numbered s.toks _) _ ((numbered_texts _ _).trans ((if_neg (ne_true_of_eq_false h1)).trans (if_neg (ne_true_of_eq_false hf))).symm)
    · exact call_meets F.slot_str_split (typeIs_str _ _ _) F.entry_str_split (F.args_str_split_2 _ _) (meets_str_split_not_found x y t u h1 hy hf)
        (hq [(x, t)] s.toks ((if_neg (ne_true_of_eq_false h1)).trans (if_pos hf)).symm)
  · exact call_meets F.slot_str_split (typeIs_str _ _ _) F.entry_str_split (F.args_str_split_2 _ _) (meets_str_split_cannot_occur x y t u h1)
      (hq [(x, t)] s.toks (if_pos h1).symm)
theorem At1.split {x y : Str} (hy : (y.length == 0) = false) (hsz : x.length ≤ sizeLine) (hsz2 : (Builtin.Str.partsBetween x (Builtin.Str.occurrences x y 0 x.length (x.length + 1)) y.length).length ≤ sizeLine) (h : QL Q ((Txt.split x y).map D.str) σ) : At1 c A fr σ (.builtin "str.split") [.str x, .str y] Q X := .two fun s v u ok hv hu => by
  obtain ⟨t, rfl⟩ := hv.toStr
  obtain ⟨t2, rfl⟩ := hu.toStr
  refine split_exact hy hsz hsz2 fun l tk e => ?_
  rw [← e] at h
  exact newL ok (Vs.strs l) h
theorem At1.join {x : Str} {sd : SD} {ts : List Str} (hL : sd.isL = true) (inv : sd.inv σ) (hd : sd.ds = ts.map D.str) (hok : JoinOk x ts = true) (h : Q (.str (Txt.join x ts)) σ) : At1 c A fr σ (.builtin "str.join") [.str x, sd.d] Q X := .two fun s v u ok hv hu => by
  obtain ⟨t, rfl⟩ := hv.toStr
  obtain ⟨l, rfl, z⟩ := SD.of_v hu
  obtain ⟨vs, n, g, r⟩ := z.list ok inv hL
  rw [hd] at r
  obtain ⟨ls, rfl, e⟩ := r.toStrs
  exact SC.join ⟨_, g, rfl, n, rfl⟩ e hok fun t' k => ⟨_, σ, Post.tok .., ok, V.ofStr, h⟩
def Gt (c : Cx) (gs : List (Str × Str)) : Prop := ∀ x i, gs.lookup x = some i → ∃ t, c.mg x = some (.str i t)
theorem WE.gStr (T : Tp c B bs) {gs : List (Str × Str)} (G : Gt c gs) {f : Str} {fp : Pos} {i : Str} (hk : env.kindOf f = some .globalImplicit) (hg : gs.lookup f = some i) (h : Q (.str i) σ) (hdb : (f == ("__debug__" : Str)) = false := by decide) : WE c A fr env m σ (.Name f fp) Q X := by
  obtain ⟨t, e⟩ := G f i hg
  exact WE.nStr T.good hk e h hdb
end
end Mine
set_option linter.unusedVariables false
set_option linter.unusedSimpArgs false
set_option autoImplicit false
namespace Mine
open PySem PySem.Calls PyProof.Rows

section
variable {c : Cx} {A : Around} {fr : List Addr} {σ : Sto} {X : Addr → Sto → Prop} {Q : D → Sto → Prop} {env : Env} {m : Vars} {N : Vars → Sto → Prop} {R : D → Sto → Prop}
theorem W1.unpack2 {x y : Str} {px py tp pos : Pos} {k : Nat} {value : Expr} (hh : A.handled = none) (h : WE c A fr env m σ value (fun d σ' => ∃ d1 d2, d = .tup [d1, d2] ∧ N ((y, d2) :: (x, d1) :: m) σ') X)
    (hk1 : env.kindOf x = some .local ∨ env.kindOf x = some .cell) (hk2 : env.kindOf y = some .local ∨ env.kindOf y = some .cell)
    (hs : swapsWithSole [.Tuple [.Name x px, .Name y py] k tp] value pos.line env = pure false := by rfl) (hw : swappedStores [.Tuple [.Name x px, .Name y py] k tp] value env = pure none := by rfl) :
    W1 c A fr env m σ (.Assign [.Tuple [.Name x px, .Name y py] k tp] value pos) N R X := fun s ok fm => by
  refine Assign_Tuple (wpAny_mono (h s ok fm) (fun v s1 hx => ?_) fun _ _ x => x.wide fm) hs hw
  obtain ⟨d, σ1, p, ok0, x1, d1, d2, rfl, q⟩ := hx
  have f := fm.move p
  unfold V at x1
  obtain ⟨T, vs, n, rfl, hT, g, hv⟩ := x1
  unfold Vs at hv
  obtain ⟨v1, r, rfl, hV1, hv⟩ := hv
  unfold Vs at hv
  obtain ⟨v2, r, rfl, hV2, hv⟩ := hv
  unfold Vs at hv; subst hv
  refine wpAny_assign_Tuple hh (items := #[v1, v2]) ⟨_, g, rfl, _, rfl⟩ rfl rfl fun h1 he1 => ?_
  have k1 : ∀ b o, s1.heap.get? b = some o → h1.get? b = some o := fun b o e => he1 b o (heap_ne e) e
  have ok1 := ok0.keeps k1
  have p1 : Post [] fr σ1 s1 { s1 with heap := h1, toks := s1.toks } σ1 := Post.keeps k1
  have f1 : Fm env m fr (keys σ1 ++ fr) h1 := Fm.move (s := s1) (s' := { s1 with heap := h1, toks := s1.toks }) f p1
  have fin : ∀ a, a ∈ tight env x ∨ a ∈ tight env y → a ∈ Fa env := fun a ha => by
    have key : ∀ z, a ∈ tight env z → a ∈ Fa env := fun z hz => by
      rcases tight_mem hz with e | ⟨_, e⟩
      · rw [e]; exact List.mem_cons_self
      · exact List.mem_cons_of_mem _ (List.mem_map_of_mem (f := (·.2)) (mem_of_lookup e))
    exact ha.elim (key x) (key y)
  show wpAny _ _ (holding [v2] (PySem.assign (.Name x px) env v1) >>= fun _ => assignInOrder [PySem.assign (.Name y py) env] [v2]) _ _ _
  refine wpAny_bind (wpAny_holding (wpAny_assign_Name ?_))
  refine store_fine (F := Fa env) (s := { s1 with heap := h1 }) ok1 f1 (V.move p1.stay p1.less _ _ hV1) hk1 ⟨fun z => fin _ (.inl (tight_ok.1 z)), fun z cc e => fin _ (.inl (tight_ok.2 z cc e))⟩ fun h2 tk2 fm2 ok2 p2 => ?_
  show wpAny _ _ (holding [] (PySem.assign (.Name y py) env v2) >>= fun _ => assignInOrder [] []) _ _ _
  refine wpAny_bind (wpAny_holding (wpAny_assign_Name ?_))
  refine store_fine (F := Fa env) (s := { s1 with heap := h2, toks := tk2 }) ok2 fm2 (V.move p2.stay p2.less _ _ (V.move p1.stay p1.less _ _ hV2)) hk2 ⟨fun z => fin _ (.inr (tight_ok.1 z)), fun z cc e => fin _ (.inr (tight_ok.2 z cc e))⟩ fun h3 tk3 fm3 ok3 p3 => ?_
  exact wpAny_pure ⟨.next _, σ1, ((((p.trans p1).wide (by simp)).trans p2).trans p3), ok3, ⟨rfl, fm3⟩, q⟩
end
end Mine
set_option linter.unusedVariables false
set_option autoImplicit false
namespace Mine
open PySem PySem.Calls PyProof.Rows PySem.W
theorem Gt.ofTop {c : Cx} {p : Program} {loose : List Str} {mean : ExcName → Option Value} {gs : List (Str × Str)} (T : Top p loose mean c.mg c.mb c.h0) (h : gs.map (fun q => valOf p q.1) = gs.map fun q => some (.str q.2)) : Gt c gs := fun x i e => by
  have hm := mem_of_lookup e
  have := List.map_inj_left.mp h (x, i) hm
  obtain ⟨v, h1, h2⟩ := T.const x _ this
  have r := h2 c.h0
  cases r
  exact ⟨_, h1⟩
end Mine
set_option linter.unusedVariables false
set_option linter.unusedSimpArgs false
set_option autoImplicit false
namespace Mine
open PySem PySem.Calls PyProof.Rows
section
variable {c : Cx} {A : Around} {fr : List Addr} {σ : Sto} {X : Addr → Sto → Prop} {Q : D → Sto → Prop} {env : Env} {m : Vars} {N : Vars → Sto → Prop} {R : D → Sto → Prop} {B : List Stmt} {bs : List (Str × Value)}
theorem small_odd {b : Int} (h0 : 0 ≤ b) (h1 : b < 2 ^ 60) : Builtin.Range.small 1 b 2 = true := by
  unfold Builtin.Range.small
  have hs : Builtin.Range.rangeSize 1 b 2 = b / 2 := by
    unfold Builtin.Range.rangeSize
    rw [if_pos (by decide)]
    split <;> omega
  rw [hs]
  simp only [Builtin.Range.rangeFitsLong, Bool.and_eq_true, Bool.or_eq_true, decide_eq_true_eq, beq_iff_eq, show (2 : Int) > 0 by decide, if_true]
  omega
theorem WIt.rangeOdd (T : Tp c B bs) (hh : A.handled = none) {f : Str} {fp pos px : Pos} {e1 e2 e3 : Expr} {x : Str} {Q : List Vars → (Sto → Prop) → Sto → Prop} (hk : env.kindOf f = some .globalImplicit) (hb : bs.lookup f = some (.type "range"))
    (h : WA c A fr env m σ [e1, e2, e3] (fun ds σ1 => ∃ n : Int, ds = [.int 1, .int n, .int 2] ∧ 0 ≤ n ∧ n < 2 ^ 60 ∧ Q ((List.range (n / 2).toNat).map fun (i : Nat) => [(x, D.int (2 * (i : Int) + 1))]) (fun _ => True) σ1) X) (hp : plainArgs [e1, e2, e3] = true := by rfl) (hdb : (f == ("__debug__" : Str)) = false := by decide) :
    WIt c A fr env m σ (.Call (.Name f fp) [e1, e2, e3] [] pos) (.Name x px) Q X := by
  obtain ⟨hg, hbb⟩ := T.bn _ _ hb
  refine WIt.callT T.good hk hg hbb (fun pos s ok fm => W.mono (h pos s ok fm) (fun ds σ1 q => ?_) fun _ _ y => y) hp hdb
  intro s vals E ok fm hv
  obtain ⟨n, rfl, h1, h2, q⟩ := q
  unfold Vs at hv
  obtain ⟨v, r, rfl, hv1, hv⟩ := hv
  unfold Vs at hv
  obtain ⟨v2, r, rfl, hv2, hv⟩ := hv
  unfold Vs at hv
  obtain ⟨v3, r, rfl, hv3, hv⟩ := hv
  unfold Vs at hv; subst hv
  obtain ⟨t1, rfl⟩ := hv1.toInt
  obtain ⟨t2, rfl⟩ := hv2.toInt
  obtain ⟨t3, rfl⟩ := hv3.toInt
  refine call_range_3 (by decide) ?_ (.inl (PyProof.noPylong_small (by omega)))
  refine wpAny_pyIter_range (IsRange.new _ _ _ _ _ _ _) (small_odd h1 h2) ?_
  generalize hH : s.heap.push { cls := .type "range", data := .fields #[.int 1 t1, .int n t2, .int 2 t3] } = H
  have hHk : ∀ b o, s.heap.get? b = some o → H.get? b = some o := fun b o e => hH ▸ Heap.get?_push_of_some _ e
  have hHs : H.objs.size = s.heap.objs.size + 1 := by rw [← hH, Heap.size_push]
  have hnone : s.heap.get? H.objs.size = none := none_of_ge (by rw [hHs]; exact Nat.le_succ _)
  have hsize : Builtin.Range.rangeSize 1 n 2 = ((n / 2).toNat : Int) := by
    unfold Builtin.Range.rangeSize
    rw [if_pos (by decide)]
    split <;> omega
  refine ⟨H.objs.size, [H.objs.size], _, _, _, _, rfl, ⟨_, s.toks, rfl⟩, fun b o e => Heap.get?_push_of_some _ (hHk b o e), fun b hb => by rw [List.mem_singleton.mp hb]; exact hnone, fun b hb => by rw [List.mem_singleton.mp hb]; exact ⟨_, Heap.get?_push_size _ rfl⟩, by simp,
    Src.ofWalks (ds := (List.range (n / 2).toNat).map fun (i : Nat) => D.int (2 * (i : Int) + 1)) (J := fun K h => True) (Walks.range hh H.objs.size 1 2 (n / 2).toNat) (by simp) ?_ ?_ ?_ ?_, ?_, trivial, by simpa [List.map_map, Function.comp_def] using q⟩
  · intro i h st; exact ⟨_, _, st, rfl⟩
  · intros; trivial
  · rintro K h i v hi _ ⟨t, rfl⟩
    refine ⟨.int (2 * (i : Int) + 1), by simp [hi], ?_⟩
    unfold V; exact ⟨t, by congr 1; omega⟩
  · rintro K h _ b hb; exact .inl (List.mem_singleton.mp hb)
  · refine ⟨?_, trivial⟩
    have := Heap.get?_push_size H (o := { cls := .type "range_iterator", data := .fields #[rawInt 1, rawInt (Builtin.Range.rangeSize 1 n 2), rawInt 2] }) rfl
    rw [hsize] at this
    rw [hsize]
    simpa using this
theorem WE.sliceSx {value : Expr} {lower upper : Option Expr} {p pos : Pos} (h : WE c A fr env m σ value (fun d σ1 => WPt c A fr env m σ1 lower (fun lo σ2 => WPt c A fr env m σ2 upper (fun hi σ3 => ∃ x : Str, d = .str x ∧ x.length ≤ sizeLine ∧ Q (.str (cut x lo hi)) σ3) X) X) X) :
    WE c A fr env m σ (.Subscript value (.Slice lower upper none p) pos) Q X := fun s ok fm => by
  refine Subscript_ (wpAny_mono (h s ok fm) (fun v s1 ⟨d, σ1, p1, ok1, x1, q1⟩ => ?_) fun _ _ x => x)
  refine wpAny_Slice (wpAny_mono (q1.run ok1 (fm.move p1)) (fun vl s2 ⟨lo, σ2, i2, p2, ok2, q2⟩ => ?_) fun _ _ x => Ex.back p1 x fun _ _ y => y)
  refine wpAny_mono (q2.run ok2 ((fm.move p1).move p2)) (fun vu s3 ⟨hi, σ3, i3, p3, ok3, x, e, hsz, q3⟩ => ?_) fun _ _ x => Ex.back (p1.trans p2) x fun _ _ y => y
  subst e
  obtain ⟨t, rfl⟩ := (p3.v (p2.v x1)).toStr
  have part : ∀ {v : Value} {k : Option Int}, IsPart v k → ∃ l : Option (Int × Tok), v = partValue l ∧ l.map (·.1) = k := fun x => by
    cases x with
    | none => exact ⟨none, rfl, rfl⟩
    | int i t => exact ⟨some (i, t), rfl, rfl⟩
  obtain ⟨l, e1, f1⟩ := part i2
  obtain ⟨u, e2, f2⟩ := part i3
  subst e1 e2
  rw [evalPart_none]
  refine wpAny_pure ?_
  refine tail_any (typeIs_str _ _ _) F.slot_str_getitem.lookup (wpAny_getItem_str_slice (l := l) (u := u) (st := none) ⟨_, Heap.get?_push_size _ rfl, rfl, rfl⟩ rfl ?_) rfl
  have k1 : ∀ b o, s3.heap.get? b = some o → (s3.heap.push { cls := .type "slice", data := .fields #[partValue l, partValue u, .none] }).get? b = some o := fun b o e => Heap.get?_push_of_some _ e
  have hsm : sliceMade x t l u none = if ((1 : Int) == 1 && (Builtin.Str.strSliceIndices lo hi 1 x.length).length == x.length) = true then .val (.str x t) else .str ⟨((Builtin.Str.strSliceIndices lo hi 1 x.length).filterMap (x.cps[·]?)).toArray⟩ := by
    unfold sliceMade slicePicked
    rw [f1, f2]; rfl
  rw [hsm]
  refine post_val_or_str ⟨Nat.le_trans (cut_le x lo hi) hsz, fun t' k => ?_⟩
  have p4 : Post [] fr σ3 s3 { s3 with heap := s3.heap.push { cls := .type "slice", data := .fields #[partValue l, partValue u, .none] }, toks := k } σ3 := Post.keeps k1
  exact ⟨_, σ3, ((p1.trans p2).trans p3).trans p4, ok3.keeps k1, V.ofStr, q3⟩
end
end Mine
set_option autoImplicit false
set_option linter.unusedVariables false
set_option linter.unusedSimpArgs false
namespace Mine
def digs (k : Nat) : List Nat := if k < 10 then [48 + k] else [48 + k / 10, 48 + k % 10]
def termL (w : Int) (p : Nat) : List Nat := (if w.natAbs = 1 then [] else digs w.natAbs) ++ [97 + p]
def signL (t : List Nat) (w : Int) : List Nat := if t = [] then (if w < 0 then [45] else []) else (if w < 0 then [32, 45, 32] else [32, 43, 32])
def bodyStep (t : List Nat) (q : Int × Nat) : List Nat := if q.1 = 0 then t else t ++ signL t q.1 ++ termL q.1 q.2
def bodyL (ws : List Int) : List Nat := ws.zipIdx.foldl bodyStep []
abbrev endL : List Nat := [32, 61, 32, 48]
def shownL (ws : List Int) : List Nat := (if bodyL ws = [] then [48] else bodyL ws) ++ endL
def digit (k : Nat) : Bool := decide (48 ≤ k) && decide (k ≤ 57)
def valL (l : List Nat) : Nat := l.foldl (fun a k => 10 * a + (k - 48)) 0
def termOfL (w : List Nat) (n : Nat) : Option (Nat × Int) := match w.getLast? with
  | none => none
  | some ch => if 97 ≤ ch ∧ ch < 97 + n ∧ w.length ≤ 3 ∧ w.dropLast.all digit = true then some (ch - 97, if w.length = 1 then 1 else (valL w.dropLast : Int)) else none
def wStep (n : Nat) (st : Option (List Int × Int)) (q : List Nat × Nat) : Option (List Int × Int) := st.bind fun s =>
  if q.2 % 2 = 1 then (if q.1 = [43] then some (s.1, 1) else if q.1 = [45] then some (s.1, -1) else none)
  else if q.2 = 0 ∧ q.1.take 1 = [45] then (termOfL (q.1.drop 1) n).map fun r => (s.1.set r.1 (-1 * r.2), -1)
  else (termOfL q.1 n).map fun r => (s.1.set r.1 (s.2 * r.2), s.2)
def weightsOfL (words : List (List Nat)) (n : Nat) : Option (List Int) := (words.zipIdx.foldl (wStep n) (some (List.replicate n 0, 1))).map (·.1)
def splitL : List Nat → List (List Nat)
  | [] => [[]]
  | a :: r => if a = 32 then [] :: splitL r else match splitL r with
    | h :: t => (a :: h) :: t
    | [] => [[a]]
def joinL : List (List Nat) → List Nat
  | [] => []
  | [p] => p
  | p :: q :: r => p ++ 32 :: joinL (q :: r)
def readL (t : List Nat) (n : Nat) : Option (List Int) :=
  if t.drop (t.length - 4) ≠ endL then none else
  (if t.take (t.length - 4) = [48] then some (List.replicate n 0) else if (splitL (t.take (t.length - 4))).length % 2 = 0 then none else weightsOfL (splitL (t.take (t.length - 4))) n).bind fun f =>
    if (f.any fun w => decide (20 < w.natAbs)) = true ∨ shownL f ≠ t then none else some f

theorem splitL_ne (l : List Nat) : splitL l ≠ [] := by
  cases l with
  | nil => simp [splitL]
  | cons a r =>
    unfold splitL
    split
    · simp
    · split <;> simp
theorem splitL_free : ∀ {p : List Nat}, 32 ∉ p → splitL p = [p]
  | [], _ => rfl
  | a :: r, h => by
    have h1 : a ≠ 32 := fun e => h (e ▸ .head _)
    rw [splitL, if_neg h1, splitL_free (p := r) fun m => h (.tail _ m)]
theorem splitL_app : ∀ {p : List Nat} (r : List Nat), 32 ∉ p → splitL (p ++ 32 :: r) = p :: splitL r
  | [], r, _ => by simp [splitL]
  | a :: p, r, h => by
    have h1 : a ≠ 32 := fun e => h (e ▸ .head _)
    rw [List.cons_append, splitL, if_neg h1, splitL_app r fun m => h (.tail _ m)]
theorem splitL_join : ∀ {ps : List (List Nat)}, ps ≠ [] → (∀ p ∈ ps, 32 ∉ p) → splitL (joinL ps) = ps
  | [], h, _ => absurd rfl h
  | [p], _, h => splitL_free (h p (.head _))
  | p :: q :: r, _, h => by
    rw [joinL, splitL_app _ (h p (.head _)), splitL_join (by simp) fun x hx => h x (.tail _ hx)]
theorem joinL_two : ∀ {acc : List (List Nat)} (s t : List Nat), acc ≠ [] → joinL (acc ++ [s, t]) = joinL acc ++ (32 :: s ++ (32 :: t))
  | [], s, t, h => absurd rfl h
  | [p], s, t, _ => by simp [joinL]
  | p :: q :: r, s, t, _ => by
    have ih := joinL_two (acc := q :: r) s t (by simp)
    rw [List.cons_append, List.cons_append, joinL, ← List.cons_append, ih, joinL]; simp
theorem joinL_nil {acc : List (List Nat)} (h : ∀ p ∈ acc, p ≠ []) : joinL acc = [] ↔ acc = [] := by
  match acc with
  | [] => simp [joinL]
  | [p] => have := h p (.head _); simp [joinL, this]
  | p :: q :: r => simp [joinL]

def wordStep (acc : List (List Nat)) (q : Int × Nat) : List (List Nat) :=
  if q.1 = 0 then acc else if acc = [] then [(if q.1 < 0 then [45] else []) ++ termL q.1 q.2] else acc ++ [if q.1 < 0 then [45] else [43], termL q.1 q.2]
def wordsL (ws : List Int) : List (List Nat) := ws.zipIdx.foldl wordStep []

structure WordsOk (acc : List (List Nat)) : Prop where
  ne : ∀ p ∈ acc, p ≠ []
  free : ∀ p ∈ acc, 32 ∉ p
  odd : acc = [] ∨ acc.length % 2 = 1
theorem WordsOk.nil : WordsOk [] := ⟨fun p h => (by cases h), fun p h => (by cases h), .inl rfl⟩
theorem digs_free (k : Nat) : 32 ∉ digs k := by
  unfold digs; split <;> simp <;> omega
theorem termL_free (w : Int) (p : Nat) : 32 ∉ termL w p := by
  unfold termL
  intro h
  rcases List.mem_append.mp h with h | h
  · split at h
    · cases h
    · exact digs_free _ h
  · simp at h; omega
theorem termL_ne (w : Int) (p : Nat) : termL w p ≠ [] := by simp [termL]
theorem WordsOk.step {acc : List (List Nat)} (x : WordsOk acc) (q : Int × Nat) : WordsOk (wordStep acc q) := by
  unfold wordStep
  split
  · exact x
  split
  · refine ⟨fun p hp => ?_, fun p hp => ?_, .inr rfl⟩
    · rw [List.mem_singleton.mp hp]; simp [termL_ne]
    · rw [List.mem_singleton.mp hp]
      intro h
      rcases List.mem_append.mp h with h | h
      · split at h <;> simp at h
      · exact termL_free _ _ h
  · rename_i h1 h2
    refine ⟨fun p hp => ?_, fun p hp => ?_, .inr ?_⟩
    · rcases List.mem_append.mp hp with h | h
      · exact x.ne p h
      · simp at h
        rcases h with rfl | rfl
        · split <;> simp
        · exact termL_ne _ _
    · rcases List.mem_append.mp hp with h | h
      · exact x.free p h
      · simp at h
        rcases h with rfl | rfl
        · split <;> simp
        · exact termL_free _ _
    · rcases x.odd with h | h
      · exact absurd h h2
      · simp; omega
theorem wordsOk (l : List (Int × Nat)) : ∀ acc, WordsOk acc → WordsOk (l.foldl wordStep acc) := by
  induction l with
  | nil => intro acc h; exact h
  | cons q l ih => intro acc h; exact ih _ (h.step q)
theorem body_join (l : List (Int × Nat)) : ∀ acc, WordsOk acc → l.foldl bodyStep (joinL acc) = joinL (l.foldl wordStep acc) := by
  induction l with
  | nil => intro acc _; rfl
  | cons q l ih =>
    intro acc h
    rw [List.foldl_cons, List.foldl_cons, ← ih _ (h.step q)]
    congr 1
    unfold bodyStep wordStep
    split
    · rfl
    · have hj := joinL_nil h.ne
      by_cases ha : acc = []
      · rw [if_pos ha]; subst ha
        simp [joinL, signL]
      · rw [if_neg ha, joinL_two _ _ ha]
        have : joinL acc ≠ [] := fun e => ha (hj.mp e)
        unfold signL
        rw [if_neg this]
        split <;> simp
theorem bodyL_eq (ws : List Int) : bodyL ws = joinL (wordsL ws) := body_join ws.zipIdx [] WordsOk.nil
theorem term_back {w : Int} {p n : Nat} (h0 : w ≠ 0) (h1 : w.natAbs ≤ 20) (hp : p < n) : termOfL (termL w p) n = some (p, (w.natAbs : Int)) := by
  unfold termOfL termL
  rw [List.getLast?_append, List.dropLast_concat]
  simp only [List.getLast?_singleton, Option.some_or]
  have hd : ((if w.natAbs = 1 then [] else digs w.natAbs) : List Nat).all digit = true ∧ ((if w.natAbs = 1 then [] else digs w.natAbs) : List Nat).length ≤ 2 ∧ (w.natAbs ≠ 1 → valL (digs w.natAbs) = w.natAbs ∧ (digs w.natAbs).length ≠ 0) := by
    have : ∀ k, k ≤ 20 → ((if k = 1 then [] else digs k) : List Nat).all digit = true ∧ ((if k = 1 then [] else digs k) : List Nat).length ≤ 2 ∧ (k ≠ 1 → valL (digs k) = k ∧ (digs k).length ≠ 0) := by decide
    exact this _ h1
  rw [if_pos ⟨by omega, by omega, by simp; have := hd.2.1; omega, hd.1⟩]
  have e1 : 97 + p - 97 = p := by omega
  rw [e1]
  by_cases h2 : w.natAbs = 1
  · simp [h2]
  · obtain ⟨e2, e3⟩ := hd.2.2 h2
    have e4 : (digs w.natAbs ++ [97 + p]).length ≠ 1 := by simp; simpa using e3
    rw [if_neg h2, if_neg e4, e2]
theorem term_head {w : Int} {p : Nat} (h1 : w.natAbs ≤ 20) : (termL w p).take 1 ≠ [45] := by
  have : ∀ k, k ≤ 20 → ∀ q, ((if k = 1 then [] else digs k) ++ [97 + q]).take 1 ≠ [45] := by
    intro k hk q
    by_cases h : k = 1
    · simp [h]; omega
    · rw [if_neg h]; unfold digs; split <;> simp <;> omega
  exact this _ h1 p
theorem sign_abs (w : Int) : (if w < 0 then -1 else 1) * (w.natAbs : Int) = w := by split <;> omega
theorem zip_snoc' {α : Type} (l : List α) (x : α) (k : Nat) : (l ++ [x]).zipIdx k = l.zipIdx k ++ [(x, k + l.length)] := by
  rw [List.zipIdx_append]; simp
theorem words_back {n : Nat} : ∀ (k : Nat) (ws : List Int), ws.length = k → k ≤ n → (∀ w ∈ ws, w.natAbs ≤ 20) → ∃ s, (wordsL ws).zipIdx.foldl (wStep n) (some (List.replicate n 0, 1)) = some (ws ++ List.replicate (n - k) 0, s) ∧ (wordsL ws = [] → s = 1) := by
  intro k
  induction k with
  | zero =>
    intro ws hl _ _
    have : ws = [] := List.length_eq_zero_iff.mp hl
    subst this
    exact ⟨1, by simp [wordsL], fun _ => rfl⟩
  | succ k ih =>
    intro ws hl hn hw
    obtain ⟨us, w, rfl⟩ : ∃ us w, ws = us ++ [w] := ⟨ws.dropLast, ws.getLast (by intro e; rw [e] at hl; simp at hl), (List.dropLast_concat_getLast _).symm⟩
    have hl' : us.length = k := by simpa using hl
    obtain ⟨s, h1, h2⟩ := ih us hl' (by omega) fun x hx => hw x (by simp [hx])
    have hwl : wordsL (us ++ [w]) = wordStep (wordsL us) (w, k) := by
      unfold wordsL
      rw [zip_snoc', List.foldl_append]; simp [hl']
    have hrep : List.replicate (n - k) (0 : Int) = 0 :: List.replicate (n - (k + 1)) 0 := by
      rw [show n - k = (n - (k + 1)) + 1 by omega, List.replicate_succ]
    have hset : ∀ v : Int, (us ++ List.replicate (n - k) 0).set k v = us ++ [v] ++ List.replicate (n - (k + 1)) 0 := fun v => by
      rw [hrep, List.set_append, if_neg (by omega), hl', Nat.sub_self]; simp
    rw [hwl]
    unfold wordStep
    by_cases h0 : w = 0
    · rw [if_pos h0]
      refine ⟨s, ?_, h2⟩
      rw [h1, hrep, h0]; simp
    rw [if_neg h0]
    have hw20 := hw w (by simp)
    have tb := term_back (n := n) h0 hw20 (show k < n by omega)
    by_cases ha : wordsL us = []
    · rw [if_pos ha]
      rw [ha] at h1
      simp only [List.zipIdx_nil, List.foldl_nil, Option.some.injEq, Prod.mk.injEq] at h1
      refine ⟨if w < 0 then -1 else 1, ?_, fun e => by simp at e⟩
      simp only [List.zipIdx_singleton, List.foldl_cons, List.foldl_nil, wStep, Option.bind_some]
      rw [if_neg (by decide)]
      by_cases hneg : w < 0
      · rw [if_pos hneg, if_pos ⟨trivial, rfl⟩]
        have : ([45] ++ termL w k).drop 1 = termL w k := rfl
        rw [this, tb, h1.1]
        simp only [Option.map_some]
        rw [hset, if_pos hneg]
        have := sign_abs w
        rw [if_pos hneg] at this
        rw [this]
      · rw [if_neg hneg, List.nil_append, if_neg (fun h => term_head hw20 h.2), tb, h1.1]
        simp only [Option.map_some]
        rw [hset, if_neg hneg]
        have := sign_abs w
        rw [if_neg hneg] at this
        rw [this]
    · rw [if_neg ha]
      have hodd : (wordsL us).length % 2 = 1 := by
        have := (wordsOk us.zipIdx [] WordsOk.nil).odd
        rcases this with h | h
        · exact absurd h ha
        · exact h
      refine ⟨if w < 0 then -1 else 1, ?_, fun e => by simp at e⟩
      rw [List.zipIdx_append, List.foldl_append, h1]
      simp only [Nat.zero_add, List.zipIdx_cons, List.zipIdx_nil, List.foldl_cons, List.foldl_nil]
      have hs1 : wStep n (some (us ++ List.replicate (n - k) 0, s)) (if w < 0 then [45] else [43], (wordsL us).length) = some (us ++ List.replicate (n - k) 0, if w < 0 then -1 else 1) := by
        unfold wStep
        simp only [Option.bind_some, hodd, if_true]
        split <;> simp
      rw [hs1]
      unfold wStep
      simp only [Option.bind_some]
      rw [if_neg (by omega), if_neg (fun h => by omega), tb]
      simp only [Option.map_some]
      rw [hset, sign_abs]
theorem bodyL_nil {ws : List Int} (h : bodyL ws = []) : ws = List.replicate ws.length 0 := by
  have h1 := (wordsOk ws.zipIdx [] WordsOk.nil)
  have h2 : wordsL ws = [] := by rw [bodyL_eq] at h; exact (joinL_nil h1.ne).mp h
  have : ∀ (l : List Int) (k : Nat), (l.zipIdx k).foldl wordStep [] = [] → ∀ w ∈ l, w = 0 := by
    intro l
    induction l with
    | nil => intro k _ w hw; cases hw
    | cons a l ih =>
      intro k h w hw
      rw [List.zipIdx_cons, List.foldl_cons] at h
      have grow : ∀ (l : List (Int × Nat)) (acc : List (List Nat)), acc ≠ [] → l.foldl wordStep acc ≠ [] := by
        intro l
        induction l with
        | nil => intro acc h; exact h
        | cons q l ih =>
          intro acc h
          rw [List.foldl_cons]
          refine ih _ ?_
          unfold wordStep
          split
          · exact h
          · split <;> simp
      by_cases ha : a = 0
      · rcases List.mem_cons.mp hw with rfl | hw
        · exact ha
        · exact ih (k + 1) (by simpa [wordStep, ha] using h) w hw
      · exact absurd h (grow _ _ (by simp [wordStep, ha]))
  exact List.eq_replicate_iff.mpr ⟨rfl, this ws 0 h2⟩
theorem body_last (l : List (Int × Nat)) : ∀ t : List Nat, (t = [] ∨ ∃ r p, t = r ++ [97 + p]) → (l.foldl bodyStep t = [] ∨ ∃ r p, l.foldl bodyStep t = r ++ [97 + p]) := by
  induction l with
  | nil => intro t h; exact h
  | cons q l ih =>
    intro t h
    rw [List.foldl_cons]
    refine ih _ ?_
    unfold bodyStep
    split
    · exact h
    · exact .inr ⟨t ++ signL t q.1 ++ (if q.1.natAbs = 1 then [] else digs q.1.natAbs), q.2, by simp [termL]⟩
theorem body_not_zero (ws : List Int) : bodyL ws ≠ [48] := by
  intro h
  rcases body_last ws.zipIdx [] (.inl rfl) with e | ⟨r, p, e⟩
  · have : bodyL ws = [] := e
    rw [this] at h; cases h
  · have : bodyL ws = r ++ [97 + p] := e
    rw [this] at h
    cases r with
    | nil => simp at h; omega
    | cons a r => simp at h
theorem read_back {ws : List Int} {n : Nat} (hn : ws.length = n) (hw : ∀ w ∈ ws, w.natAbs ≤ 20) : readL (shownL ws) n = some ws := by
  have hany : (ws.any fun w => decide (20 < w.natAbs)) = false := by
    rw [List.any_eq_false]; intro w h; have := hw w h; simp; omega
  unfold readL
  have hlen : (shownL ws).length - 4 = (if bodyL ws = [] then [48] else bodyL ws).length := by simp [shownL]
  have hd : (shownL ws).drop ((shownL ws).length - 4) = endL := by rw [hlen]; unfold shownL; exact List.drop_left
  have ht : (shownL ws).take ((shownL ws).length - 4) = if bodyL ws = [] then [48] else bodyL ws := by rw [hlen]; unfold shownL; exact List.take_left
  rw [if_neg (fun h => h hd), ht]
  by_cases hb : bodyL ws = []
  · rw [if_pos hb, if_pos rfl]
    have := bodyL_nil hb
    rw [hn] at this
    simp only [Option.bind_some]
    rw [← this, if_neg]
    rw [hany]; simp
  · rw [if_neg hb, if_neg (body_not_zero ws)]
    have ok := (wordsOk ws.zipIdx [] WordsOk.nil)
    have hne : wordsL ws ≠ [] := fun e => hb (by rw [bodyL_eq, e]; rfl)
    have hs : splitL (bodyL ws) = wordsL ws := by rw [bodyL_eq]; exact splitL_join hne ok.free
    have hodd : (wordsL ws).length % 2 = 1 := by
      rcases ok.odd with h | h
      · exact absurd h hne
      · exact h
    rw [hs, if_neg (by omega)]
    obtain ⟨s, h1, _⟩ := words_back (n := n) n ws hn (Nat.le_refl _) hw
    unfold weightsOfL
    rw [h1]
    simp only [Option.map_some, Option.bind_some, Nat.sub_self, List.replicate_zero, List.append_nil]
    rw [if_neg]
    rw [hany]; simp
theorem read_shown {t : List Nat} {n : Nat} {ws : List Int} (h : readL t n = some ws) : shownL ws = t ∧ ∀ w ∈ ws, w.natAbs ≤ 20 := by
  unfold readL at h
  split at h
  · cases h
  · obtain ⟨f, _, h2⟩ := Option.bind_eq_some_iff.mp h
    split at h2
    · cases h2
    · rename_i q
      cases h2
      refine ⟨Classical.byContradiction fun e => q (.inr e), fun w hw => ?_⟩
      have : (ws.any fun w => decide (20 < w.natAbs)) ≠ true := fun e => q (.inl e)
      rw [ne_eq, Bool.not_eq_true, List.any_eq_false] at this
      have := this w hw
      simp at this; omega
end Mine
set_option autoImplicit false
set_option linter.unusedVariables false
set_option linter.unusedSimpArgs false
namespace Mine
def numOfL (l : List Nat) : Int := if l = [] then 1 else if l.all digit = true then (if 2 < l.length then 0 else (valL l : Int)) else 0
def lawStep (n : Nat) (ws : List (List Nat)) (st : Option (List Int)) (k : Nat) : Option (List Int) := st.bind fun f =>
  match (ws.getD k []).getLast? with
  | none => none
  | some ch => if 97 ≤ ch ∧ ch < 97 + n then some (f.set (ch - 97) (if ws.getD (k - 1) [] = [45] then -numOfL (ws.getD k []).dropLast else numOfL (ws.getD k []).dropLast)) else none
def lawW2 (s : List (List Nat)) : List (List Nat) := if (s.headD []).take 1 = [45] then [45] :: (s.headD []).drop 1 :: s.tail else [43] :: s
theorem lawW2_cons (a : List Nat) (r : List (List Nat)) : lawW2 (a :: r) = if a.take 1 = [45] then [45] :: a.drop 1 :: r else [43] :: a :: r := rfl
def lawWords (t : List Nat) : List (List Nat) := lawW2 (splitL t)
def lawOf (ws : List (List Nat)) (n : Nat) : Option (List Int) := ((List.range ((ws.length - 2) / 2)).map fun i => 2 * i + 1).foldl (lawStep n ws) (some (List.replicate n 0))
def zeroL : List Nat := [48, 32, 61, 32, 48]
def dueL (t : List Nat) (n : Nat) : Option (List Int) :=
  if t = zeroL then some (List.replicate n 0) else (lawOf (lawWords t) n).bind fun f => if (f.any fun w => decide (20 < w.natAbs)) = true ∨ shownL f ≠ t then none else some f

abbrev nzL (ws : List Int) : List (Int × Nat) := ws.zipIdx.filter fun q => decide (q.1 ≠ 0)
abbrev pairW (q : Int × Nat) : List (List Nat) := [if q.1 < 0 then [45] else [43], termL q.1 q.2]
theorem words_tail : ∀ (l : List (Int × Nat)) (acc : List (List Nat)), acc ≠ [] → l.foldl wordStep acc = acc ++ (l.filter fun q => decide (q.1 ≠ 0)).flatMap pairW
  | [], acc, _ => by simp
  | q :: l, acc, h => by
    rw [List.foldl_cons]
    by_cases h0 : q.1 = 0
    · have e : wordStep acc q = acc := by simp [wordStep, h0]
      rw [e, words_tail l acc h, List.filter_cons]
      simp [h0]
    · have e : wordStep acc q = acc ++ pairW q := by simp [wordStep, h0, h]
      rw [e, words_tail l _ (by simp), List.filter_cons]
      simp [h0]
theorem words_form : ∀ (l : List (Int × Nat)), l.foldl wordStep [] = match l.filter (fun q => decide (q.1 ≠ 0)) with
    | [] => []
    | q :: r => ((if q.1 < 0 then [45] else []) ++ termL q.1 q.2) :: r.flatMap pairW
  | [] => rfl
  | q :: l => by
    rw [List.foldl_cons]
    by_cases h0 : q.1 = 0
    · have e : wordStep [] q = [] := by simp [wordStep, h0]
      rw [e, words_form l, List.filter_cons]
      simp [h0]
    · have e : wordStep [] q = [(if q.1 < 0 then [45] else []) ++ termL q.1 q.2] := by simp [wordStep, h0]
      rw [e, words_tail l _ (by simp), List.filter_cons]
      simp [h0]
theorem joinL_app : ∀ (ps : List (List Nat)), ps ≠ [] → joinL (ps ++ [[61], [48]]) = joinL ps ++ endL := fun ps h => by
  rw [joinL_two _ _ h]; rfl
theorem split_shown {ws : List Int} (hb : bodyL ws ≠ []) : splitL (shownL ws) = wordsL ws ++ [[61], [48]] := by
  have ok := wordsOk ws.zipIdx [] WordsOk.nil
  have hne : wordsL ws ≠ [] := fun e => hb (by rw [bodyL_eq, e]; rfl)
  unfold shownL
  rw [if_neg hb, bodyL_eq, ← joinL_app _ hne]
  refine splitL_join (by simp) fun p hp => ?_
  rcases List.mem_append.mp hp with h | h
  · exact ok.free p h
  · simp at h; rcases h with rfl | rfl <;> decide
theorem lawWords_shown {ws : List Int} (hb : bodyL ws ≠ []) (hw : ∀ w ∈ ws, w.natAbs ≤ 20) : lawWords (shownL ws) = (nzL ws).flatMap pairW ++ [[61], [48]] := by
  unfold lawWords
  rw [split_shown hb]
  have hf : wordsL ws = match nzL ws with
    | [] => []
    | q :: r => ((if q.1 < 0 then [45] else []) ++ termL q.1 q.2) :: r.flatMap pairW := words_form ws.zipIdx
  have hne : wordsL ws ≠ [] := fun e => hb (by rw [bodyL_eq, e]; rfl)
  cases hz : nzL ws with
  | nil => rw [hz] at hf; exact absurd hf hne
  | cons q r =>
    rw [hz] at hf
    simp only at hf
    have hq : q.1.natAbs ≤ 20 := by
      have : q ∈ nzL ws := by rw [hz]; exact .head _
      have := (List.mem_filter.mp this).1
      have := List.mem_zipIdx_iff_getElem?.mp this
      exact hw _ (List.mem_of_getElem? this)
    rw [hf, List.cons_append, lawW2_cons]
    by_cases hneg : q.1 < 0
    · rw [if_pos hneg]
      have e : ([45] ++ termL q.1 q.2).take 1 = [45] := rfl
      rw [if_pos e, List.flatMap_cons]
      simp [pairW, hneg]
    · rw [if_neg hneg, List.nil_append, if_neg (term_head hq), List.flatMap_cons]
      simp [pairW, hneg]
theorem pairs_at : ∀ (l : List (Int × Nat)) (s : List (List Nat)) (i : Nat) (q : Int × Nat), l[i]? = some q → (l.flatMap pairW ++ s).getD (2 * i) [] = (if q.1 < 0 then [45] else [43]) ∧ (l.flatMap pairW ++ s).getD (2 * i + 1) [] = termL q.1 q.2
  | [], s, i, q, h => by simp at h
  | p :: l, s, 0, q, h => by
    simp at h; subst h
    simp [List.flatMap_cons, pairW]
  | p :: l, s, i + 1, q, h => by
    have := pairs_at l s i q (by simpa using h)
    rw [List.flatMap_cons]
    simpa [pairW, Nat.mul_add, List.getD_eq_getElem?_getD] using this
theorem numOf_term {w : Int} {p : Nat} (h0 : w ≠ 0) (hw : w.natAbs ≤ 20) : numOfL (termL w p).dropLast = (w.natAbs : Int) := by
  unfold termL
  rw [List.dropLast_concat]
  have : ∀ k, k ≤ 20 → k ≠ 0 → numOfL (if k = 1 then [] else digs k) = (k : Int) := by decide
  exact this _ hw (by omega)
theorem set_fold {n : Nat} : ∀ (k : Nat) (ws : List Int), ws.length = k → k ≤ n → (nzL ws).foldl (fun f q => f.set q.2 q.1) (List.replicate n 0) = ws ++ List.replicate (n - k) 0 := by
  intro k
  induction k with
  | zero =>
    intro ws hl _
    have : ws = [] := List.length_eq_zero_iff.mp hl
    subst this; simp [nzL]
  | succ k ih =>
    intro ws hl hn
    obtain ⟨us, w, rfl⟩ : ∃ us w, ws = us ++ [w] := ⟨ws.dropLast, ws.getLast (by intro e; rw [e] at hl; simp at hl), (List.dropLast_concat_getLast _).symm⟩
    have hl' : us.length = k := by simpa using hl
    have hi := ih us hl' (by omega)
    have hrep : List.replicate (n - k) (0 : Int) = 0 :: List.replicate (n - (k + 1)) 0 := by
      rw [show n - k = (n - (k + 1)) + 1 by omega, List.replicate_succ]
    unfold nzL
    rw [zip_snoc', List.filter_append, List.foldl_append]
    have hi' : (us.zipIdx.filter fun q => decide (q.1 ≠ 0)).foldl (fun f q => f.set q.2 q.1) (List.replicate n 0) = us ++ List.replicate (n - k) 0 := hi
    rw [hi']
    by_cases h0 : w = 0
    · subst h0
      simp [hrep]
    · simp only [Nat.zero_add, hl']
      rw [List.filter_cons, if_pos (by simpa using h0)]
      simp only [List.filter_nil, List.foldl_cons, List.foldl_nil]
      rw [hrep, List.set_append, if_neg (by omega), hl', Nat.sub_self]; simp
theorem due_back {ws : List Int} {n : Nat} (hn : ws.length = n) (hw : ∀ w ∈ ws, w.natAbs ≤ 20) : dueL (shownL ws) n = some ws := by
  unfold dueL
  by_cases hb : bodyL ws = []
  · have : shownL ws = zeroL := by unfold shownL; rw [if_pos hb]; rfl
    rw [if_pos this]
    have := bodyL_nil hb
    rw [hn] at this
    rw [← this]
  · have hnz : shownL ws ≠ zeroL := fun e => by
      unfold shownL at e
      rw [if_neg hb] at e
      have : bodyL ws = [48] := by
        have h2 : bodyL ws ++ endL = [48] ++ endL := e
        exact List.append_cancel_right h2
      exact body_not_zero ws this
    rw [if_neg hnz]
    have key : lawOf (lawWords (shownL ws)) n = some ws := by
      rw [lawWords_shown hb hw]
      unfold lawOf
      have hlen : ((nzL ws).flatMap pairW ++ [[61], [48]]).length = 2 * (nzL ws).length + 2 := by
        have : ∀ l : List (Int × Nat), (l.flatMap pairW).length = 2 * l.length := by
          intro l
          induction l with
          | nil => rfl
          | cons q l ih => rw [List.flatMap_cons, List.length_append, ih]; simp [pairW]; omega
        rw [List.length_append, this]; rfl
      rw [hlen, show (2 * (nzL ws).length + 2 - 2) / 2 = (nzL ws).length by omega]
      have go : ∀ i, i ≤ (nzL ws).length → ((List.range i).map fun i => 2 * i + 1).foldl (lawStep n ((nzL ws).flatMap pairW ++ [[61], [48]])) (some (List.replicate n 0)) = some (((nzL ws).take i).foldl (fun f q => f.set q.2 q.1) (List.replicate n 0)) := by
        intro i
        induction i with
        | zero => intro _; rfl
        | succ i ih =>
          intro hi
          rw [List.range_succ, List.map_append, List.foldl_append, ih (by omega)]
          obtain ⟨q, hq⟩ : ∃ q, (nzL ws)[i]? = some q := ⟨(nzL ws)[i], by rw [List.getElem?_eq_getElem]⟩
          rw [List.take_add_one, hq, List.foldl_append]
          simp only [List.map_cons, List.map_nil, List.foldl_cons, List.foldl_nil, Option.toList]
          obtain ⟨p1, p2⟩ := pairs_at (nzL ws) [[61], [48]] i q hq
          have hm : q ∈ nzL ws := List.mem_of_getElem? hq
          have h1 := List.mem_zipIdx_iff_getElem?.mp (List.mem_filter.mp hm).1
          have h0 : q.1 ≠ 0 := by simpa using (List.mem_filter.mp hm).2
          have hwq := hw _ (List.mem_of_getElem? h1)
          have hlt : q.2 < n := by have := (List.getElem?_eq_some_iff.mp h1).1; omega
          unfold lawStep
          simp only [Option.bind_some, p2, show 2 * i + 1 - 1 = 2 * i by omega, p1]
          have hl : (termL q.1 q.2).getLast? = some (97 + q.2) := by unfold termL; simp
          rw [hl]
          simp only
          rw [if_pos (by omega), numOf_term h0 hwq, show 97 + q.2 - 97 = q.2 by omega]
          congr 2
          by_cases hneg : q.1 < 0
          · rw [if_pos hneg, if_pos rfl]; omega
          · rw [if_neg hneg, if_neg (by decide)]; omega
      rw [go _ (Nat.le_refl _), List.take_length, set_fold n ws hn (Nat.le_refl _)]
      simp
    rw [key]
    simp only [Option.bind_some]
    rw [if_neg]
    have hany : (ws.any fun w => decide (20 < w.natAbs)) = false := by
      rw [List.any_eq_false]; intro w h; have := hw w h; simp; omega
    rw [hany]; simp
theorem lawOf_len {ws : List (List Nat)} {n : Nat} {f : List Int} (h : lawOf ws n = some f) : f.length = n := by
  have go : ∀ (l : List Nat) (f0 f1 : List Int), l.foldl (lawStep n ws) (some f0) = some f1 → f1.length = f0.length := by
    intro l
    induction l with
    | nil => intro f0 f1 e; cases e; rfl
    | cons k l ih =>
      intro f0 f1 e
      rw [List.foldl_cons] at e
      have nn : ∀ l : List Nat, l.foldl (lawStep n ws) none = none := by
        intro l
        induction l with
        | nil => rfl
        | cons k l ih => rw [List.foldl_cons]; exact ih
      cases hk : lawStep n ws (some f0) k with
      | none => rw [hk, nn] at e; cases e
      | some f2 =>
        rw [hk] at e
        rw [ih f2 f1 e]
        unfold lawStep at hk
        simp only [Option.bind_some] at hk
        split at hk
        · cases hk
        · split at hk
          · cases hk; simp
          · cases hk
  have := go _ _ _ h
  simpa using this
theorem due_shown {t : List Nat} {n : Nat} {ws : List Int} (h : dueL t n = some ws) : shownL ws = t ∧ ws.length = n ∧ ∀ w ∈ ws, w.natAbs ≤ 20 := by
  unfold dueL at h
  split at h
  · rename_i e
    cases h
    refine ⟨?_, by simp, fun w hw => ?_⟩
    · have hb : bodyL (List.replicate n 0) = [] := by
        unfold bodyL
        have : ∀ (l : List (Int × Nat)), (∀ q ∈ l, q.1 = 0) → l.foldl bodyStep [] = [] := by
          intro l
          induction l with
          | nil => intro _; rfl
          | cons q l ih => intro h; rw [List.foldl_cons, bodyStep, if_pos (h q (.head _))]; exact ih fun q hq => h q (.tail _ hq)
        refine this _ fun q hq => ?_
        have := List.mem_zipIdx_iff_getElem?.mp hq
        exact (List.mem_replicate.mp (List.mem_of_getElem? this)).2
      unfold shownL; rw [if_pos hb, e]; rfl
    · rw [(List.mem_replicate.mp hw).2]; decide
  · obtain ⟨f, h1, h2⟩ := Option.bind_eq_some_iff.mp h
    split at h2
    · cases h2
    · rename_i q
      cases h2
      refine ⟨Classical.byContradiction fun e => q (.inr e), lawOf_len h1, fun w hw => ?_⟩
      have : (ws.any fun w => decide (20 < w.natAbs)) ≠ true := fun e => q (.inl e)
      rw [ne_eq, Bool.not_eq_true, List.any_eq_false] at this
      have := this w hw
      simp at this; omega
theorem due_read {t : List Nat} {n : Nat} (hl : ∀ ws, readL t n = some ws → ws.length = n) : dueL t n = readL t n := by
  cases h1 : readL t n with
  | some ws =>
    obtain ⟨e, hw⟩ := read_shown h1
    rw [← e]; exact due_back (hl ws h1) hw
  | none =>
    cases h2 : dueL t n with
    | none => rfl
    | some ws =>
      obtain ⟨e, hn, hw⟩ := due_shown h2
      rw [← e, read_back hn hw] at h1; cases h1
end Mine
set_option linter.unusedVariables false
set_option linter.unusedSimpArgs false
set_option autoImplicit false
set_option maxRecDepth 10000
set_option maxHeartbeats 1000000
namespace Mine
open PySem PySem.Calls PyProof.Rows PySem.W
local macro_rules | `(tactic| walk_at "k") => `(tactic| with_unfolding_all exact kindOf_of (by assumption) (by rfl))
local macro_rules | `(tactic| walk_at "k2") => `(tactic| with_unfolding_all first | exact .inl (kindOf_of (by assumption) (by rfl)) | exact .inr (kindOf_of (by assumption) (by rfl)))
local macro_rules | `(tactic| walk_at "v") => `(tactic| with_unfolding_all first | rfl | assumption | exact lk_here | exact lk_skip (by decide) (by assumption) | exact lk_skip (by decide) (capt_lk (by rfl) (by walk_at "v")) | exact lk_skip (by decide) (lk_skip (by decide) (capt_lk (by rfl) (by walk_at "v"))) | exact lk_skip (by decide) (lk_skip (by decide) (by assumption)) | exact lk_skip (by decide) (lk_skip (by decide) (lk_skip (by decide) (by assumption))) | exact lk_skip (by decide) (lk_skip (by decide) (lk_skip (by decide) (lk_skip (by decide) (by assumption)))) | exact lk_skip (by decide) (lk_skip (by decide) (lk_skip (by decide) (lk_skip (by decide) (lk_skip (by decide) (by assumption))))))
local macro_rules | `(tactic| walk_at "m") => `(tactic| simp only [List.zip_cons_cons, List.zip_nil_left])
local macro_rules | `(tactic| walk_at "z") => `(tactic| (simp only [SD.ds, List.length_map, List.length_range, List.length_zip, List.length_take, List.length_drop, List.length_append, List.length_replicate, List.length_cons, List.length_nil, sizeLine] <;> omega))
local macro_rules | `(tactic| walk_at "s") => `(tactic| with_reducible first
  | (refine WE.id ?_; first
     | (refine WE.idName ?_; first
        | refine WE.nLocal (by walk_at "v") (by walk_at "k") ?_
        | refine WE.nCell (by walk_at "v") (by walk_at "k") ?_
        | refine WE.nFree (by walk_at "v") (by walk_at "k") ?_
        | refine WE.nType (Tp.good (by assumption)) (by walk_at "k") (Tp.bn (by assumption) _ _ (by with_unfolding_all rfl)).1 (Tp.bn (by assumption) _ _ (by with_unfolding_all rfl)).2 ?_
        | refine WE.gInt (by assumption) (by assumption) (by walk_at "k") (by with_unfolding_all rfl) ?_
        | refine WE.gStr (by assumption) (by assumption) (by walk_at "k") (by with_unfolding_all rfl) ?_
        | refine WE.nX (by assumption) (by walk_at "k") (by with_unfolding_all rfl) ?_)
     | (refine WE.idConst ?_; first | refine WE.kInt ?_ | refine WE.kStr ?_ | refine WE.kBool ?_ | refine WE.kNone ?_)
     | (refine WE.idCall ?_; first
        | refine WE.callN (by assumption) (by assumption) (by walk_at "k") (by assumption) ?_ (hp := by with_unfolding_all rfl)
        | refine WE.callY (by assumption) (by walk_at "k") (by with_unfolding_all rfl) ?_ (hp := by with_unfolding_all rfl)
        | refine WE.callI (by assumption) (by walk_at "k") (by with_unfolding_all rfl) ?_ (hp := by with_unfolding_all rfl))
     | (refine WE.idMeth ?_; first
        | refine WE.rstrip ?_ (by with_unfolding_all rfl) (hl := by with_unfolding_all rfl)
        | refine WE.methS F.slot_str_find F.type_str_find ?_ (hp := by with_unfolding_all rfl) (hb := by with_unfolding_all (intro _; rfl)) (hl := by with_unfolding_all rfl) (hn := by with_unfolding_all rfl)
        | refine WE.methS F.slot_str_index F.type_str_index ?_ (hp := by with_unfolding_all rfl) (hb := by with_unfolding_all (intro _; rfl)) (hl := by with_unfolding_all rfl) (hn := by with_unfolding_all rfl)
        | refine WE.methS F.slot_str_split F.type_str_split ?_ (hp := by with_unfolding_all rfl) (hb := by with_unfolding_all (intro _; rfl)) (hl := by with_unfolding_all rfl) (hn := by with_unfolding_all rfl)
        | refine WE.methS F.slot_str_join F.type_str_join ?_ (hp := by with_unfolding_all rfl) (hb := by with_unfolding_all (intro _; rfl)) (hl := by with_unfolding_all rfl) (hn := by with_unfolding_all rfl)
        | refine WE.methL F.slot_list_append (by with_unfolding_all rfl) ?_ (hp := by with_unfolding_all rfl) (hb := by with_unfolding_all (intro _; rfl)) (hl := by with_unfolding_all rfl) (hn := by with_unfolding_all rfl))
     | refine WE.compare2 ?_ (hb2 := by with_unfolding_all rfl)
     | refine WE.binop ?_ | refine WE.compare ?_ (hb := by with_unfolding_all rfl) | refine WE.sliceSx ?_ | refine WE.sub ?_ | refine WE.unary ?_
     | refine WE.boolop ?_
     | refine WE.comp ?_ (by with_unfolding_all rfl) (by with_unfolding_all exact freeOk_of (by assumption) (by rfl)) (hs := by with_unfolding_all (intro _; rfl))
     | refine WE.list ?_ | refine WE.tuple ?_ | refine WE.sliceSx ?_)
  | refine WPt.some ?_ | refine WPt.none ?_
  | (refine WA.id ?_; first | refine WA.cons ?_ (hp := by with_unfolding_all rfl) | refine WA.nil ?_)
  | (refine WB.id ?_; first | refine WB.lt ?_ | refine WB.le ?_ | refine WB.gt ?_ | refine WB.ge ?_ | refine WB.eqI ?_ | refine WB.neI ?_ | refine WB.eqS ?_ | refine WB.neS ?_ | refine WB.isNone ?_ | refine WB.isNotNone ?_)
  | (refine WB.id2 ?_; first | refine WB.add ?_ | refine WB.addS (by with_unfolding_all decide) ?_ | refine WB.sub ?_ | refine WB.modE (by with_unfolding_all decide) (by with_unfolding_all decide) ?_ | refine WB.fdivE (by with_unfolding_all decide) (by with_unfolding_all decide) ?_ | refine WB.pow (by with_unfolding_all decide) (by with_unfolding_all decide) ?_)
  | (refine WS.id ?_; first | refine WS.cons ?_ | refine WS.nil ?_)
  | (refine W1.id ?_; first
     | refine W1.ret ?_
     | refine W1.ite ?_
     | refine W1.assign ?_ (by walk_at "k2") (by with_unfolding_all rfl)
     | refine W1.assignC (by assumption) ?_ (by with_unfolding_all rfl) (by with_unfolding_all rfl) (by with_unfolding_all rfl) (hs := by with_unfolding_all (intro _; rfl))
     | refine W1.assignK (by assumption) ?_ (by with_unfolding_all rfl)
     | refine W1.raiseX (by assumption) (by with_unfolding_all rfl) (by assumption) (by assumption) (by walk_at "k") ?_ (hp := by with_unfolding_all rfl)
     | refine W1.expr ?_ (by with_unfolding_all rfl)
     | refine W1.forL (by assumption) ?_ (hs := by with_unfolding_all (intro _; rfl)))
  | (refine WT.id ?_; first | refine WT.not ?_ | refine WT.boolop ?_ | refine WT.compare ?_ (hb := by with_unfolding_all rfl) | refine WT.compare2 ?_ (hb2 := by with_unfolding_all rfl) | refine WT.plain ?_ (he := by with_unfolding_all (intro _; rfl)))
  | (refine WTs.id ?_; first | refine WTs.and ?_ | refine WTs.or ?_ | refine WTs.nilAnd ?_ | refine WTs.nilOr ?_)
  | (refine WBs.id ?_; first | refine WBs.and ?_ | refine WBs.or ?_ | refine WBs.one ?_)
  | refine WTr.bool ?_
  | refine AtSys.mk ?_ | refine AtFld.size ?_ | refine AtFld.rules ?_
  | (refine WIt.id ?_; first
     | refine WIt.range (by assumption) (by assumption) (by walk_at "k") (by with_unfolding_all rfl) ?_ (hp := by with_unfolding_all rfl)
     | refine WIt.enum (by assumption) (by assumption) (by walk_at "k") (by with_unfolding_all rfl) ?_ (hp := by with_unfolding_all rfl)
     | refine WIt.zipX (by assumption) (by assumption) (by walk_at "k") (by with_unfolding_all rfl) ?_ (hp := by with_unfolding_all rfl)
     | refine WIt.of ?_)
  | refine ite_t ?_ | refine ite_f ?_ | refine ite_nt ?_ | refine ite_nf ?_
  | refine WU.neg ?_ | refine WU.notB ?_
  )
local macro_rules | `(tactic| walk_at "l") => `(tactic| with_reducible first
  | (refine WE.id ?_; first
     | (refine WE.idName ?_; first
        | refine WE.nLocal (by walk_at "v") (by walk_at "k") ?_
        | refine WE.nCell (by walk_at "v") (by walk_at "k") ?_
        | refine WE.nFree (by walk_at "v") (by walk_at "k") ?_
        | refine WE.nType (Tp.good (by assumption)) (by walk_at "k") (Tp.bn (by assumption) _ _ (by with_unfolding_all rfl)).1 (Tp.bn (by assumption) _ _ (by with_unfolding_all rfl)).2 ?_
        | refine WE.gInt (by assumption) (by assumption) (by walk_at "k") (by with_unfolding_all rfl) ?_
        | refine WE.gStr (by assumption) (by assumption) (by walk_at "k") (by with_unfolding_all rfl) ?_
        | refine WE.nX (by assumption) (by walk_at "k") (by with_unfolding_all rfl) ?_)
     | (refine WE.idConst ?_; first | refine WE.kInt ?_ | refine WE.kStr ?_ | refine WE.kBool ?_ | refine WE.kNone ?_)
     | (refine WE.idCall ?_; first
        | refine WE.callN (by assumption) (by assumption) (by walk_at "k") (by assumption) ?_ (hp := by with_unfolding_all rfl)
        | refine WE.callY (by assumption) (by walk_at "k") (by with_unfolding_all rfl) ?_ (hp := by with_unfolding_all rfl)
        | refine WE.callI (by assumption) (by walk_at "k") (by with_unfolding_all rfl) ?_ (hp := by with_unfolding_all rfl))
     | (refine WE.idMeth ?_; first
        | refine WE.rstrip ?_ (by with_unfolding_all rfl) (hl := by with_unfolding_all rfl)
        | refine WE.methS F.slot_str_find F.type_str_find ?_ (hp := by with_unfolding_all rfl) (hb := by with_unfolding_all (intro _; rfl)) (hl := by with_unfolding_all rfl) (hn := by with_unfolding_all rfl)
        | refine WE.methS F.slot_str_index F.type_str_index ?_ (hp := by with_unfolding_all rfl) (hb := by with_unfolding_all (intro _; rfl)) (hl := by with_unfolding_all rfl) (hn := by with_unfolding_all rfl)
        | refine WE.methS F.slot_str_split F.type_str_split ?_ (hp := by with_unfolding_all rfl) (hb := by with_unfolding_all (intro _; rfl)) (hl := by with_unfolding_all rfl) (hn := by with_unfolding_all rfl)
        | refine WE.methS F.slot_str_join F.type_str_join ?_ (hp := by with_unfolding_all rfl) (hb := by with_unfolding_all (intro _; rfl)) (hl := by with_unfolding_all rfl) (hn := by with_unfolding_all rfl)
        | refine WE.methL F.slot_list_append (by with_unfolding_all rfl) ?_ (hp := by with_unfolding_all rfl) (hb := by with_unfolding_all (intro _; rfl)) (hl := by with_unfolding_all rfl) (hn := by with_unfolding_all rfl))
     | refine WE.compare2 ?_ (hb2 := by with_unfolding_all rfl)
     | refine WE.binop ?_ | refine WE.compare ?_ (hb := by with_unfolding_all rfl) | refine WE.sliceL ?_ (ht := by with_unfolding_all (intro _ _; rfl)) | refine WE.sub ?_ | refine WE.unary ?_
     | refine WE.boolop ?_
     | refine WE.comp ?_ (by with_unfolding_all rfl) (by with_unfolding_all exact freeOk_of (by assumption) (by rfl)) (hs := by with_unfolding_all (intro _; rfl))
     | refine WE.list ?_ | refine WE.tuple ?_ | refine WE.sliceL ?_ (ht := by with_unfolding_all (intro _ _; rfl)))
  | refine WPt.some ?_ | refine WPt.none ?_
  | (refine WA.id ?_; first | refine WA.cons ?_ (hp := by with_unfolding_all rfl) | refine WA.nil ?_)
  | (refine WB.id ?_; first | refine WB.lt ?_ | refine WB.le ?_ | refine WB.gt ?_ | refine WB.ge ?_ | refine WB.eqI ?_ | refine WB.neI ?_ | refine WB.eqS ?_ | refine WB.neS ?_ | refine WB.isNone ?_ | refine WB.isNotNone ?_)
  | (refine WB.id2 ?_; first | refine WB.add ?_ | refine WB.addS (by with_unfolding_all decide) ?_ | refine WB.sub ?_ | refine WB.modE (by with_unfolding_all decide) (by with_unfolding_all decide) ?_ | refine WB.fdivE (by with_unfolding_all decide) (by with_unfolding_all decide) ?_ | refine WB.pow (by with_unfolding_all decide) (by with_unfolding_all decide) ?_)
  | (refine WS.id ?_; first | refine WS.cons ?_ | refine WS.nil ?_)
  | (refine W1.id ?_; first
     | refine W1.ret ?_
     | refine W1.ite ?_
     | refine W1.assign ?_ (by walk_at "k2") (by with_unfolding_all rfl)
     | refine W1.assignC (by assumption) ?_ (by with_unfolding_all rfl) (by with_unfolding_all rfl) (by with_unfolding_all rfl) (hs := by with_unfolding_all (intro _; rfl))
     | refine W1.assignK (by assumption) ?_ (by with_unfolding_all rfl)
     | refine W1.raiseX (by assumption) (by with_unfolding_all rfl) (by assumption) (by assumption) (by walk_at "k") ?_ (hp := by with_unfolding_all rfl)
     | refine W1.expr ?_ (by with_unfolding_all rfl)
     | refine W1.forL (by assumption) ?_ (hs := by with_unfolding_all (intro _; rfl)))
  | (refine WT.id ?_; first | refine WT.not ?_ | refine WT.boolop ?_ | refine WT.compare ?_ (hb := by with_unfolding_all rfl) | refine WT.compare2 ?_ (hb2 := by with_unfolding_all rfl) | refine WT.plain ?_ (he := by with_unfolding_all (intro _; rfl)))
  | (refine WTs.id ?_; first | refine WTs.and ?_ | refine WTs.or ?_ | refine WTs.nilAnd ?_ | refine WTs.nilOr ?_)
  | (refine WBs.id ?_; first | refine WBs.and ?_ | refine WBs.or ?_ | refine WBs.one ?_)
  | refine WTr.bool ?_
  | refine AtSys.mk ?_ | refine AtFld.size ?_ | refine AtFld.rules ?_
  | (refine WIt.id ?_; first
     | refine WIt.range (by assumption) (by assumption) (by walk_at "k") (by with_unfolding_all rfl) ?_ (hp := by with_unfolding_all rfl)
     | refine WIt.enum (by assumption) (by assumption) (by walk_at "k") (by with_unfolding_all rfl) ?_ (hp := by with_unfolding_all rfl)
     | refine WIt.zipX (by assumption) (by assumption) (by walk_at "k") (by with_unfolding_all rfl) ?_ (hp := by with_unfolding_all rfl)
     | refine WIt.of ?_)
  | refine ite_t ?_ | refine ite_f ?_ | refine ite_nt ?_ | refine ite_nf ?_
  | refine WU.neg ?_ | refine WU.notB ?_
  )

abbrev B05 : List Stmt := PySem.Challenge.pw_uf050013_05.main.body
abbrev N05 : List (Str × Value) := [("range", .type "range"), ("tuple", .type "tuple"), ("zip", .type "zip"), ("enumerate", .type "enumerate"), ("all", .builtin "all"), ("any", .builtin "any"), ("max", .builtin "max"), ("isinstance", .builtin "isinstance"), ("int", .type "int"), ("bool", .type "bool"), ("str", .type "str"), ("list", .type "list"), ("len", .builtin "len"), ("abs", .builtin "abs"), ("ValueError", .type "ValueError")]
abbrev G05 : List (Str × Int) := [("MOST_SIZE", 5), ("MOST_WEIGHT", 20)]
abbrev S05 : List (Str × Str) := [("LETTERS", "abcde"), ("FIGURES", "0123456789"), ("END", " = 0")]
abbrev il (xs : List Int) : D := .lst (xs.map D.int)
def wholeD (lo hi : Int) : D → Bool
  | .int i => decide (lo ≤ i ∧ i ≤ hi)
  | _ => false
def plainD : D → Bool
  | .int _ | .bool _ | .str _ | .none | .lst _ | .tup _ => true
  | _ => false
def listD : D → Option (List D)
  | .lst ds => some ds
  | _ => none
def weightsD (n : Nat) (d : D) : Bool := match d with
  | .lst ds => decide (ds.length = n) && ds.all (wholeD (-20) 20)
  | _ => false
def plainW (d : D) : Bool := plainD d && match d with
  | .lst ds => decide (ds.length < 100) && ds.all plainD
  | _ => true
section
variable {c : Cx} {σ : Sto} {X : Addr → Sto → Prop} {Q : D → Sto → Prop} {K Kx : Frag} {C : Addr}

theorem is_whole_ {d : D} {lo hi : Int} (T : Tp c B05 N05) (hd : plainD d = true) (h : Q (.bool (wholeD lo hi d)) σ) : WF c (Room 1) "is_whole" [d, .int lo, .int hi] σ Q X := by
  refine WF.by 12 T rfl (bind3 fun _ _ _ _ _ _ => rfl) (by rfl) rfl fun A fr env r hh hs fe => ?_
  repeat walk_at "s"
  cases d with
  | int i =>
    refine At1.isi (b := true) (by decide) rfl ?_
    repeat walk_at "s"
    refine At1.isi (b := false) (by decide) rfl ?_
    repeat walk_at "s"
    by_cases h1 : lo ≤ i
    · rw [decide_eq_true h1]
      repeat walk_at "s"
      simpa [h1, wholeD] using h
    · rw [decide_eq_false h1]
      repeat walk_at "s"
      simpa [h1, wholeD] using h
  | bool b =>
    refine At1.isi (b := true) (by decide) rfl ?_
    repeat walk_at "s"
    refine At1.isi (b := true) (by decide) rfl ?_
    repeat walk_at "s"
    exact h
  | none =>
    refine At1.isi (b := false) (by decide) rfl ?_
    repeat walk_at "s"
    exact h
  | str x =>
    refine At1.isi (b := false) (by decide) rfl ?_
    repeat walk_at "s"
    exact h
  | lst x =>
    refine At1.isi (b := false) (by decide) rfl ?_
    repeat walk_at "s"
    exact h
  | tup x =>
    refine At1.isi (b := false) (by decide) rfl ?_
    repeat walk_at "s"
    exact h
  | _ => simp [plainD] at hd

theorem is_weights_ {d : D} {n : Nat} (T : Tp c B05 N05) (G : Gi c G05) (hd : plainW d = true) (h : Q (.bool (weightsD n d)) σ) : WF c (Room 2) "is_weights" [d, .int n] σ Q X := by
  refine WF.by 13 T rfl (bind2 fun _ _ _ _ _ => rfl) (by rfl) rfl fun A fr env r hh hs fe => ?_
  have d1 : Dfn c "is_whole" := Dfn.by 12 T rfl
  have hp : plainD d = true := (Bool.and_eq_true_iff.mp hd).1
  repeat walk_at "s"

  cases d with
  | lst ds =>
    have hd2 := (Bool.and_eq_true_iff.mp hd).2
    simp only [Bool.and_eq_true, decide_eq_true_eq] at hd2
    refine At1.isi (b := true) (by decide) rfl ?_
    repeat walk_at "s"
    refine At1.len (sd := .lst _) trivial (by simp only [SD.ds]; omega) ?_
    rw [show (SD.lst ds).ds.length = ds.length from rfl]
    repeat walk_at "s"
    by_cases hl : ds.length = n
    · rw [show ((ds.length : Int) != n) = false by simp [hl]]
      repeat walk_at "s"
      refine WIv.seq (sd := .lst _) (l := ds) (fun d : D => d) hh (by simp [SD.ds]) trivial (Turns.map (fun d => .bool (wholeD (-20) 20 d)) (fun _ _ => loc1 rfl) trivial (by simp only [sizeLine]; omega) (fun x hx fr' cenv hc => ?_) (.inl ?_))
      · have hc := relab_of hc hs
        repeat walk_at "s"
        refine WF.at (is_whole_ T (List.all_eq_true.mp hd2.2 x hx) ?_) (by decide)
        exact ⟨rfl, rfl⟩
      · repeat walk_at "s"
        refine At1.all (sd := .lst _) (l := ds.map (wholeD (-20) 20)) hh (by simp [SD.ds, Function.comp_def]) trivial ?_
        simpa [weightsD, hl, Function.comp_def] using h
    · rw [show ((ds.length : Int) != n) = true by simp; omega]
      repeat walk_at "s"
      simpa [weightsD, hl] using h
  | int i => 
    refine At1.isi (b := false) (by decide) rfl ?_
    repeat walk_at "s"
    exact h
  | bool i => 
    refine At1.isi (b := false) (by decide) rfl ?_
    repeat walk_at "s"
    exact h
  | none => 
    refine At1.isi (b := false) (by decide) rfl ?_
    repeat walk_at "s"
    exact h
  | str i => 
    refine At1.isi (b := false) (by decide) rfl ?_
    repeat walk_at "s"
    exact h
  | tup i => 
    refine At1.isi (b := false) (by decide) rfl ?_
    repeat walk_at "s"
    exact h
  | _ => simp [plainD] at hp
end
section
variable {c : Cx} {σ : Sto} {X : Addr → Sto → Prop} {Q : D → Sto → Prop} {K Kx : Frag} {C : Addr}
theorem sg_letters : sg (Str.ofString "abcde") = [97, 98, 99, 100, 101] := by kernel_rfl
theorem sg_figures : sg (Str.ofString "0123456789") = [48, 49, 50, 51, 52, 53, 54, 55, 56, 57] := by kernel_rfl
theorem sg_end : sg (Str.ofString " = 0") = endL := by kernel_rfl
theorem end_len : (Str.ofString " = 0").length = 4 := by kernel_rfl
theorem letter_at {p : Nat} (hp : p < 5) : (sg (Str.ofString "abcde"))[idx (p : Int) (sg (Str.ofString "abcde")).length]? = some (97 + p) := by
  rw [sg_letters]
  have : p = 0 ∨ p = 1 ∨ p = 2 ∨ p = 3 ∨ p = 4 := by omega
  rcases this with rfl | rfl | rfl | rfl | rfl <;> rfl
theorem digs_text {k : Nat} (hk : k ≤ 20) : Str.ofString (toString (k : Int)) = tx (digs k) := by
  have : ∀ k : Nat, k ≤ 20 → Str.ofString (toString (k : Int)) = tx (digs k) := by decide +kernel
  exact this k hk
theorem abs_nat (w : Int) : (if w < 0 then -w else w) = (w.natAbs : Int) := by split <;> omega
theorem log_small {k : Nat} (h : k ≤ 20) : k.log2 < 1920 := by
  have : ∀ k, k ≤ 20 → k.log2 < 1920 := by decide
  exact this k h
theorem term_ {w : Int} {p : Nat} (T : Tp c B05 N05) (G : Gt c S05) (hw : w.natAbs ≤ 20) (hp : p < 5) (h : Q (.str (tx (termL w p))) σ) : WF c (Room 1) "term" [.int w, .int p] σ Q X := by
  refine WF.by 18 T rfl (bind2 fun _ _ _ _ _ => rfl) (by rfl) rfl fun A fr env r hh hs fe => ?_
  walk_at "m"
  repeat walk_at "s"
  refine At1.abs ?_
  rw [abs_nat]
  repeat walk_at "s"
  by_cases h1 : w.natAbs = 1
  · rw [show ((w.natAbs : Int) == 1) = true by simp [h1]]
    repeat walk_at "s"
    refine WSb.sign (by omega) (by omega) (by rw [sg_letters]; omega) (letter_at hp) ?_
    have e : termL w p = [97 + p] := by simp [termL, h1]
    rw [e] at h; exact h
  · rw [show ((w.natAbs : Int) == 1) = false by simp; omega]
    repeat walk_at "s"
    refine At1.abs ?_
    rw [abs_nat]
    repeat walk_at "s"
    refine At1.strI (log_small (by simpa using hw)) ?_
    rw [digs_text hw]
    repeat walk_at "s"
    refine WSb.sign (by omega) (by omega) (by rw [sg_letters]; omega) (letter_at hp) ?_
    have e : termL w p = digs w.natAbs ++ [97 + p] := by simp [termL, h1]
    rw [e, ← tx_app] at h
    refine WB.addS ?_ h
    have : (digs w.natAbs).length ≤ 2 := by unfold digs; split <;> simp
    simp [Str.length, sizeLine]; omega

theorem termL_len (w : Int) (p : Nat) : (termL w p).length ≤ 3 := by
  unfold termL digs; split <;> (try split) <;> simp
theorem bodyStep_len (t : List Nat) (q : Int × Nat) : (bodyStep t q).length ≤ t.length + 6 := by
  unfold bodyStep
  split
  · omega
  · have := termL_len q.1 q.2
    have : (signL t q.1).length ≤ 3 := by unfold signL; split <;> split <;> simp
    simp; omega
theorem body_len (ws : List Int) : ∀ k, (bodyL (ws.take k)).length ≤ 6 * k := by
  have go : ∀ (l : List (Int × Nat)) (t : List Nat), (l.foldl bodyStep t).length ≤ t.length + 6 * l.length := by
    intro l
    induction l with
    | nil => intro t; simp
    | cons q l ih => intro t; rw [List.foldl_cons]; have := ih (bodyStep t q); have := bodyStep_len t q; simp; omega
  intro k
  have := go (ws.take k).zipIdx []
  simp at this
  unfold bodyL
  have : min k ws.length ≤ k := Nat.min_le_left _ _
  omega
theorem body_next {ws : List Int} {k : Nat} {w : Int} (h : ws[k]? = some w) : bodyL (ws.take (k + 1)) = bodyStep (bodyL (ws.take k)) (w, k) := by
  have hk : k < ws.length := (List.getElem?_eq_some_iff.mp h).1
  rw [List.take_add_one, h]
  unfold bodyL
  rw [Option.toList, zip_snoc', List.foldl_append]
  simp [Nat.min_eq_left (Nat.le_of_lt hk)]
theorem zipIdx_at {α : Type} {l : List α} {k : Nat} {q : α × Nat} (h : l.zipIdx[k]? = some q) : l[k]? = some q.1 ∧ q.2 = k := by
  rw [List.getElem?_zipIdx] at h
  obtain ⟨x, hx, rfl⟩ := Option.map_eq_some_iff.mp h
  exact ⟨hx, by simp⟩
theorem il_weights {ws : List Int} (hw : ∀ w ∈ ws, w.natAbs ≤ 20) : weightsD ws.length (il ws) = true := by
  simp only [weightsD, Bool.and_eq_true, decide_eq_true_eq, List.length_map, true_and, List.all_eq_true]
  intro d hd
  obtain ⟨w, h, rfl⟩ := List.mem_map.mp hd
  have := hw w h
  simp [wholeD]; omega
theorem shown_ {ws : List Int} (T : Tp c B05 N05) (G : Gi c G05) (GS : Gt c S05) (E : Xs c Kx E05) (ra : Rai c "BadSystem") (h1 : 1 ≤ ws.length) (h5 : ws.length ≤ 5) (hw : ∀ w ∈ ws, w.natAbs ≤ 20) (h : Q (.str (tx (shownL ws))) σ) : WF c (Room 3) "shown" [il ws] σ Q X := by
  refine WF.by 19 T rfl (bind1 fun _ _ _ _ => rfl) (by rfl) rfl fun A fr env r hh hs fe => ?_
  walk_at "m"
  have d1 : Dfn c "is_weights" := Dfn.by 13 T rfl
  have d2 : Dfn c "term" := Dfn.by 18 T rfl
  repeat walk_at "s"
  refine At1.isi (b := true) (by decide) rfl ?_
  repeat walk_at "s"
  refine At1.len (sd := .lst _) trivial (by simp [SD.ds]; omega) ?_
  rw [show (SD.lst (ws.map D.int)).ds.length = ws.length by simp [SD.ds]]
  repeat walk_at "s"
  rw [decide_eq_true (by omega)]
  repeat walk_at "s"
  rw [decide_eq_true (by omega)]
  repeat walk_at "s"
  refine At1.len (sd := .lst _) trivial (by simp [SD.ds]; omega) ?_
  rw [show (SD.lst (ws.map D.int)).ds.length = ws.length by simp [SD.ds]]
  repeat walk_at "s"
  refine WF.at (is_weights_ T G ?_ ?_) (by decide)
  · simp [plainW, plainD]; omega
  rw [il_weights hw]
  repeat walk_at "s"
  refine ⟨Int, .lst _, ws, D.int, rfl, rfl, rfl, trivial, ?_⟩
  refine Loop.of (fun k m' σ' => σ' = σ ∧ has m' "text" (.str (tx (bodyL (ws.take k)))) ) (fun q hq => kinds2 (.inl (kindOf_of hs rfl)) (.inl (kindOf_of hs rfl))) ⟨rfl, ?_⟩ (fun _ _ _ _ => trivial) (fun k q m' σ' hk hL fr' => ?_) fun m' σ' hL => ?_
  · have : bodyL (ws.take 0) = [] := rfl
    rw [this]
    exact lk_here
  · obtain ⟨rfl, ht⟩ := hL
    obtain ⟨w, k'⟩ := q
    obtain ⟨hwk, e⟩ := zipIdx_at hk
    simp only at hwk e
    subst e
    have hk5 : k' < 5 := by have := (List.getElem?_eq_some_iff.mp hwk).1; omega
    have hw1 := hw w (List.mem_of_getElem? hwk)
    have hnx := body_next hwk
    have hbl := body_len ws k'
    have htl := termL_len w k'
    unfold bodyStep at hnx
    simp only at hnx
    repeat walk_at "s"
    by_cases h0 : w = 0
    · rw [show (w != 0) = false by simp [h0]]
      rw [if_pos h0] at hnx
      repeat walk_at "s"
      refine ⟨rfl, ?_⟩
      rw [hnx]
      exact lk_skip (by decide) (lk_skip (by decide) ht)
    · rw [show (w != 0) = true by simp [h0]]
      rw [if_neg h0] at hnx
      refine ite_t ?_
      refine WS.cons ?_
      refine W1.join (fun m1 σ1 => σ1 = σ' ∧ has m1 "text" (.str (tx (bodyL (ws.take k')))) ∧ has m1 "weight" (.int w) ∧ has m1 "place" (.int k') ∧ has m1 "sign" (.str (tx (signL (bodyL (ws.take k')) w)))) ?_ fun m1 σ1 hJ => ?_
      · repeat walk_at "s"
        rw [sg_tx, show sg (Str.ofString "") = [] from rfl]
        by_cases hb : bodyL (ws.take k') = []
        · rw [show (bodyL (ws.take k') == []) = true by simp [hb]]
          repeat walk_at "s"
          refine At1.intB ?_
          by_cases hneg : w < 0
          · rw [decide_eq_true hneg, if_pos rfl]
            refine WB.mulS1 ?_
            refine WS.nil ⟨rfl, ?_, ?_, ?_, ?_⟩
            · exact lk_skip (by decide) (lk_skip (by decide) (lk_skip (by decide) ht))
            · exact lk_skip (by decide) lk_here
            · exact lk_skip (by decide) (lk_skip (by decide) lk_here)
            · rw [signL, if_pos hb, if_pos hneg]; exact lk_here
          · rw [decide_eq_false hneg, if_neg (by decide)]
            refine WB.mulS0 ?_
            refine WS.nil ⟨rfl, ?_, ?_, ?_, ?_⟩
            · exact lk_skip (by decide) (lk_skip (by decide) (lk_skip (by decide) ht))
            · exact lk_skip (by decide) lk_here
            · exact lk_skip (by decide) (lk_skip (by decide) lk_here)
            · rw [signL, if_pos hb, if_neg hneg]; exact lk_here
        · rw [show (bodyL (ws.take k') == []) = false by simp [hb]]
          repeat walk_at "s"
          refine ⟨by simp [sizeLine], .inl ?_⟩
          repeat walk_at "s"
          refine At1.intB ?_
          by_cases hneg : w < 0
          · rw [decide_eq_true hneg, if_pos rfl]
            refine WSb.item (sd := .lst _) trivial (by decide) (by decide) (by decide) (d := .str " - ") rfl ?_
            refine WS.nil ⟨rfl, ?_, ?_, ?_, ?_⟩
            · exact lk_skip (by decide) (lk_skip (by decide) (lk_skip (by decide) ht))
            · exact lk_skip (by decide) lk_here
            · exact lk_skip (by decide) (lk_skip (by decide) lk_here)
            · rw [signL, if_neg hb, if_pos hneg]; exact lk_here
          · rw [decide_eq_false hneg, if_neg (by decide)]
            refine WSb.item (sd := .lst _) trivial (by decide) (by decide) (by decide) (d := .str " + ") rfl ?_
            refine WS.nil ⟨rfl, ?_, ?_, ?_, ?_⟩
            · exact lk_skip (by decide) (lk_skip (by decide) (lk_skip (by decide) ht))
            · exact lk_skip (by decide) lk_here
            · exact lk_skip (by decide) (lk_skip (by decide) lk_here)
            · rw [signL, if_neg hb, if_neg hneg]; exact lk_here
      · obtain ⟨rfl, h2, h3, h4, h5'⟩ := hJ
        have hsl : (signL (bodyL (ws.take k')) w).length ≤ 3 := by unfold signL; split <;> split <;> simp
        repeat walk_at "s"
        refine WB.addS (by simp [Str.length, sizeLine]; omega) ?_
        repeat walk_at "s"
        refine WF.at (term_ T GS hw1 hk5 ?_) (by decide)
        rw [tx_app]
        refine WB.addS (by simp [Str.length, sizeLine]; omega) ?_
        rw [tx_app]
        repeat walk_at "s"
        refine ⟨rfl, ?_⟩
        rw [hnx]; exact lk_here
  · obtain ⟨rfl, ht⟩ := hL
    rw [List.length_zipIdx, List.take_length] at ht
    have hbl := body_len ws ws.length
    rw [List.take_length] at hbl
    repeat walk_at "s"
    rw [sg_tx, show sg (Str.ofString "") = [] from rfl]
    unfold shownL at h
    by_cases hb : bodyL ws = []
    · rw [show (bodyL ws == []) = true by simp [hb]]
      rw [if_pos hb, ← tx_app] at h
      repeat walk_at "s"
      exact h
    · rw [show (bodyL ws == []) = false by simp [hb]]
      rw [if_neg hb, ← tx_app] at h
      repeat walk_at "s"
      refine WB.addS (by have := end_len; simp [Str.length, sizeLine] at this ⊢; omega) ?_
      exact h
end
section
variable {c : Cx} {σ : Sto} {X : Addr → Sto → Prop} {Q : D → Sto → Prop} {K Kx : Frag} {C : Addr}
theorem find_letter (k : Nat) : Txt.find (Str.ofString "abcde") (tx [k]) = if 97 ≤ k ∧ k < 102 then ((k - 97 : Nat) : Int) else -1 := by
  by_cases h : 97 ≤ k ∧ k < 102
  · rw [if_pos h]
    have : ∀ j, j < 5 → Txt.find (Str.ofString "abcde") (tx [97 + j]) = (j : Int) := by decide +kernel
    have e := this (k - 97) (by omega)
    rw [show 97 + (k - 97) = k by omega] at e
    exact e
  · rw [if_neg h]
    have hf := StrLaws.found_one (Str.ofString "abcde") k
    rw [decide_eq_false (by rw [show (Str.ofString "abcde").cps.toList = [97, 98, 99, 100, 101] from sg_letters]; simp; omega)] at hf
    unfold Txt.find
    cases e : Builtin.Str.occurrences (Str.ofString "abcde") (tx [k]) 0 (Str.ofString "abcde").length 1 with
    | nil => rfl
    | cons a r => rw [e] at hf; simp at hf
theorem cut_to {l : List Nat} {i : Int} (k : Nat) (hi : i = -(k : Int)) (h : k ≤ l.length) (hk : 1 ≤ k) : cut (tx l) none (some i) = tx (l.take (l.length - k)) := by
  subst hi
  unfold cut
  rw [StrLaws.sliceText_to_neg (by omega) (by simp [Str.length]; omega)]
  simp only [List.drop_zero]
  congr 2
  simp [Str.length]; omega
theorem cut_last {l : List Nat} {i : Int} (k : Nat) (hi : i = -(k : Int)) (h : k ≤ l.length) (hk : 1 ≤ k) : cut (tx l) (some i) none = tx (l.drop (l.length - k)) := by
  subst hi
  unfold cut
  rw [StrLaws.sliceText_from_neg (by omega) (by simp [Str.length]; omega)]
  have e1 : (-(k : Int) + ((tx l).length : Int)).toNat = l.length - k := by simp [Str.length]; omega
  rw [e1]
  show tx _ = tx _
  congr 1
  refine List.take_of_length_le ?_
  simp [Str.length]; omega
theorem last_at {l : List Nat} {ch : Nat} (h : l.getLast? = some ch) : l[idx (-1) l.length]? = some ch := by
  rw [List.getLast?_eq_getElem?] at h
  unfold idx
  rw [if_pos (by decide)]
  have : (-1 + (l.length : Int)).toNat = l.length - 1 := by omega
  rw [this]; exact h
theorem figure_in (k : Nat) : decide (k ∈ sg (Str.ofString "0123456789")) = digit k := by
  rw [sg_figures]
  unfold digit
  by_cases h : 48 ≤ k ∧ k ≤ 57
  · have : k = 48 ∨ k = 49 ∨ k = 50 ∨ k = 51 ∨ k = 52 ∨ k = 53 ∨ k = 54 ∨ k = 55 ∨ k = 56 ∨ k = 57 := by omega
    rcases this with rfl | rfl | rfl | rfl | rfl | rfl | rfl | rfl | rfl | rfl <;> rfl
  · rw [decide_eq_false (by simp; omega)]
    simp; omega
theorem int_text {l : List Nat} (h : l.all digit = true) (h1 : l.length ≤ 2) (h0 : l ≠ []) : PySem.intText? (tx l) = some (valL l : Int) := by
  have dg : ∀ k, digit k = true → ∃ a, a < 10 ∧ k = 48 + a := fun k hk => by
    simp [digit] at hk; exact ⟨k - 48, by omega, by omega⟩
  match l, h1, h0 with
  | [k], _, _ =>
    obtain ⟨a, ha, rfl⟩ := dg k (by simpa using h)
    have : ∀ a, a < 10 → PySem.intText? (tx [48 + a]) = some (valL [48 + a] : Int) := by decide +kernel
    exact this a ha
  | [k, j], _, _ =>
    simp at h
    obtain ⟨a, ha, rfl⟩ := dg k h.1
    obtain ⟨b, hb, rfl⟩ := dg j h.2
    have : ∀ a, a < 10 → ∀ b, b < 10 → PySem.intText? (tx [48 + a, 48 + b]) = some (valL [48 + a, 48 + b] : Int) := by decide +kernel
    exact this a ha b hb
theorem termOf_none {l : List Nat} {n : Nat} {ch : Nat} (h : l.getLast? = some ch) (hn : ¬ (97 ≤ ch ∧ ch < 97 + n ∧ l.length ≤ 3 ∧ l.dropLast.all digit = true)) : termOfL l n = none := by
  unfold termOfL; rw [h]; simp only; rw [if_neg hn]
theorem termOf_some {l : List Nat} {n : Nat} {ch : Nat} (h : l.getLast? = some ch) (hn : 97 ≤ ch ∧ ch < 97 + n ∧ l.length ≤ 3 ∧ l.dropLast.all digit = true) : termOfL l n = some (ch - 97, if l.length = 1 then 1 else (valL l.dropLast : Int)) := by
  unfold termOfL; rw [h]; simp only; rw [if_pos hn]
theorem term_of_ {l : List Nat} {n : Nat} (T : Tp c B05 N05) (GS : Gt c S05) (E : Xs c Kx E05) (ra : Rai c "Unread") (hl : l.length ≤ 10000) (hn : n ≤ 5) (h : ∀ p w, termOfL l n = some (p, w) → Q (.tup [.int (p : Nat), .int w]) σ) (h' : termOfL l n = none → X 109 σ) : WF c (Room 1) "term_of" [.str (tx l), .int n] σ Q X := by
  refine WF.by 20 T rfl (bind2 fun _ _ _ _ _ => rfl) (by rfl) rfl fun A fr env r hh hs fe => ?_
  walk_at "m"
  have hlen : (tx l).length = l.length := by simp [Str.length]
  repeat walk_at "s"
  rw [sg_tx, show sg (Str.ofString "") = [] from rfl]
  cases hg : l.getLast? with
  | none =>
    have e : l = [] := by simpa using hg
    subst e
    rw [show (([] : List Nat) == []) = true from rfl]
    repeat walk_at "s"
    exact ⟨by simp [sizeLine], h' rfl⟩
  | some ch =>
    have hne : l ≠ [] := fun e => by rw [e] at hg; cases hg
    have h1 : 1 ≤ l.length := by cases l with | nil => exact absurd rfl hne | cons a r => simp
    rw [show (l == []) = false by simp [hne]]
    repeat walk_at "s"
    refine ⟨_, rfl, ?_⟩
    repeat walk_at "s"
    refine WSb.sign (x := tx l) (by decide) (by decide) (by rw [sg_tx]; omega) (by rw [sg_tx]; exact last_at hg) ?_
    repeat walk_at "s"
    refine At1.find ?_
    rw [find_letter]
    by_cases hc : 97 ≤ ch ∧ ch < 102
    · rw [if_pos hc]
      repeat walk_at "s"
      rw [decide_eq_false (by omega)]
      repeat walk_at "s"
      by_cases hn2 : ch < 97 + n
      · rw [decide_eq_false (by omega)]
        repeat walk_at "s"
        refine At1.lenS (by rw [hlen]; simp [sizeLine]; omega) ?_
        rw [hlen]
        repeat walk_at "s"
        by_cases h3 : l.length ≤ 3
        · rw [decide_eq_false (by omega)]
          repeat walk_at "s"
          refine ⟨_, rfl, _, rfl, by rw [hlen]; simp [sizeLine]; omega, ?_⟩
          rw [cut_to (i := -1) 1 rfl h1 (by decide), ← List.dropLast_eq_take]
          refine WIv.str hh ?_
          rw [sg_tx]
          refine Loop.of (fun k m' σ' => σ' = σ ∧ has m' "word" (.str (tx l)) ∧ has m' "place" (.int ((ch - 97 : Nat) : Int)) ∧ (l.dropLast.take k).all digit = true) (fun q hq => kinds1 (.inl (kindOf_of hs rfl))) ⟨rfl, ?_, lk_here, rfl⟩ (fun _ _ _ _ => trivial) (fun k q m' σ' hk hL fr' => ?_) fun m' σ' hL => ?_
          · exact lk_skip (by decide) lk_here
          · obtain ⟨rfl, hv1, hv2, hv3⟩ := hL
            repeat walk_at "s"
            refine WB.notInS ?_
            rw [figure_in]
            cases hd : digit q with
            | true =>
              repeat walk_at "s"
              refine ⟨rfl, lk_skip (by decide) hv1, lk_skip (by decide) hv2, ?_⟩
              rw [List.take_add_one, hk]
              simp [hv3, hd]
            | false =>
              repeat walk_at "s"
              refine ⟨by simp [sizeLine], h' (termOf_none hg fun z => ?_)⟩
              have := List.all_eq_true.mp z.2.2.2 q (List.mem_of_getElem? hk)
              rw [hd] at this; cases this
          · obtain ⟨rfl, hv1, hv2, hv3⟩ := hL
            rw [List.take_length] at hv3
            have ts := termOf_some (n := n) hg ⟨hc.1, hn2, h3, hv3⟩
            repeat walk_at "s"
            refine At1.lenS (by rw [hlen]; simp [sizeLine]; omega) ?_
            rw [hlen]
            repeat walk_at "s"
            by_cases hone : l.length = 1
            · rw [if_pos hone] at ts
              rw [show ((l.length : Int) == 1) = true by simp [hone]]
              repeat walk_at "s"
              exact ⟨by simp [sizeLine], h _ _ ts⟩
            · rw [if_neg hone] at ts
              rw [show ((l.length : Int) == 1) = false by simp; omega]
              repeat walk_at "s"
              refine ⟨_, rfl, _, rfl, by rw [hlen]; simp [sizeLine]; omega, ?_⟩
              rw [cut_to (i := -1) 1 rfl h1 (by decide), ← List.dropLast_eq_take]
              repeat walk_at "s"
              refine At1.intS (int_text hv3 (by simp; omega) fun e => ?_) (by simp [Str.length]; omega) ?_
              · have := congrArg List.length e; simp at this; omega
              repeat walk_at "s"
              exact ⟨by simp [sizeLine], h _ _ ts⟩
        · rw [decide_eq_true (by omega)]
          repeat walk_at "s"
          exact ⟨by simp [sizeLine], h' (termOf_none hg fun z => by omega)⟩
      · rw [decide_eq_true (by omega)]
        repeat walk_at "s"
        exact ⟨by simp [sizeLine], h' (termOf_none hg fun z => by omega)⟩
    · rw [if_neg hc]
      repeat walk_at "s"
      rw [show decide ((-1 : Int) < 0) = true from rfl]
      repeat walk_at "s"
      exact ⟨by simp [sizeLine], h' (termOf_none hg fun z => by omega)⟩
end
section
variable {c : Cx} {σ : Sto} {X : Addr → Sto → Prop} {Q : D → Sto → Prop} {K Kx : Frag} {C : Addr}
theorem wStep_none (n : Nat) (l : List (List Nat × Nat)) : l.foldl (wStep n) none = none := by
  induction l with
  | nil => rfl
  | cons q l ih => rw [List.foldl_cons]; exact ih
theorem fold_at {ws : List (List Nat)} {n k : Nat} {w : List Nat} (h : ws[k]? = some w) (a : Option (List Int × Int)) : (ws.take (k + 1)).zipIdx.foldl (wStep n) a = wStep n ((ws.take k).zipIdx.foldl (wStep n) a) (w, k) := by
  have hk : k < ws.length := (List.getElem?_eq_some_iff.mp h).1
  rw [List.take_add_one, h, Option.toList, zip_snoc', List.foldl_append]
  simp [Nat.min_eq_left (Nat.le_of_lt hk)]
theorem fold_none {ws : List (List Nat)} {n k : Nat} (h : (ws.take k).zipIdx.foldl (wStep n) (some (List.replicate n 0, 1)) = none) : weightsOfL ws n = none := by
  unfold weightsOfL
  have e : ws.zipIdx = (ws.take k).zipIdx ++ (ws.drop k).zipIdx (ws.take k).length := by
    have := List.zipIdx_append (xs := ws.take k) (ys := ws.drop k) (k := 0)
    rw [List.take_append_drop] at this
    simpa using this
  rw [e, List.foldl_append, h, wStep_none]; rfl
theorem cut_head {l : List Nat} : cut (tx l) none (some 1) = tx (l.take 1) := by
  unfold cut
  cases l with
  | nil => kernel_rfl
  | cons a r =>
    rw [StrLaws.sliceText_to ⟨by decide, by simp; omega⟩]
    rfl
theorem cut_tail {l : List Nat} (h : l ≠ []) : cut (tx l) (some 1) none = tx (l.drop 1) := by
  unfold cut
  have : 1 ≤ l.length := by cases l with | nil => exact absurd rfl h | cons a r => simp
  rw [StrLaws.sliceText_from ⟨by decide, by simp; omega⟩]
  show tx _ = tx _
  congr 1
  exact List.take_of_length_le (by simp)
theorem zeros_ints (n : Nat) : (List.range n).map (fun _ => D.int 0) = (List.replicate n (0 : Int)).map D.int := by
  induction n with
  | zero => rfl
  | succ n ih => rw [List.range_succ, List.map_append, ih, List.replicate_succ']; simp
theorem sg_plus : sg (Str.ofString "+") = [43] := by kernel_rfl
theorem sg_minus : sg (Str.ofString "-") = [45] := by kernel_rfl
theorem termOf_lt {l : List Nat} {n p : Nat} {w : Int} (h : termOfL l n = some (p, w)) : p < n := by
  unfold termOfL at h
  split at h
  · cases h
  · split at h
    · rename_i ch _ q
      injection h with h; injection h with h1 h2; omega
    · cases h
theorem wStep_len {n : Nat} {f f' : List Int} {s s' : Int} {q : List Nat × Nat} (h : wStep n (some (f, s)) q = some (f', s')) : f'.length = f.length := by
  unfold wStep at h
  simp only [Option.bind_some] at h
  split at h
  · split at h
    · cases h; rfl
    · split at h
      · cases h; rfl
      · cases h
  · split at h
    · obtain ⟨r, _, h2⟩ := Option.map_eq_some_iff.mp h; cases h2; simp
    · obtain ⟨r, _, h2⟩ := Option.map_eq_some_iff.mp h; cases h2; simp
theorem weights_of_ {ws : List (List Nat)} {n : Nat} (T : Tp c B05 N05) (GS : Gt c S05) (E : Xs c Kx E05) (ra : Rai c "Unread") (hl : ws.length ≤ 10000) (hl2 : ∀ w ∈ ws, w.length ≤ 10000) (hn : n ≤ 5) (h : ∀ f, weightsOfL ws n = some f → Q (il f) σ) (h' : weightsOfL ws n = none → ∀ σ', X 109 σ') : WF c (Room 2) "weights_of" [.lst (ws.map fun w => .str (tx w)), .int n] σ Q X := by
  refine WF.by 21 T rfl (bind2 fun _ _ _ _ _ => rfl) (by rfl) rfl fun A fr env r hh hs fe => ?_
  walk_at "m"
  have d1 : Dfn c "term_of" := Dfn.by 20 T rfl
  repeat walk_at "s"
  refine ⟨n, rfl, by omega, by omega, ?_⟩
  refine Turns.map (fun _ => .int 0) (fun _ _ => loc1 rfl) trivial (by simp [sizeLine]; omega) (fun x hx fr' cenv hc => ?_) (.inr fun a ha => ?_)
  · have hc := relab_of hc hs
    repeat walk_at "s"
    exact ⟨rfl, rfl⟩
  rw [show (List.range (n : Int).toNat).map (fun (_ : Nat) => D.int 0) = (List.replicate n (0 : Int)).map D.int from zeros_ints n]
  repeat walk_at "s"
  refine ⟨List Nat, .lst _, ws, fun w => D.str (tx w), rfl, rfl, rfl, trivial, ?_⟩
  refine Loop.of (fun k m' σ' => ∃ f s, (ws.take k).zipIdx.foldl (wStep n) (some (List.replicate n 0, 1)) = some (f, s) ∧ f.length = n ∧ (s = 1 ∨ s = -1) ∧ σ' = (a, .lst (f.map D.int)) :: σ ∧ has m' "found" (.ref a) ∧ has m' "size" (.int n) ∧ has m' "sign" (.int s)) (fun q hq => kinds2 (.inl (kindOf_of hs rfl)) (.inl (kindOf_of hs rfl))) ⟨_, 1, rfl, by simp, .inl rfl, rfl, ?_, ?_, lk_here⟩ (fun _ _ _ _ => trivial) (fun k q m' σ' hk hL fr' => ?_) fun m' σ' hL => ?_
  · exact lk_skip (by decide) lk_here
  · exact lk_skip (by decide) (lk_skip (by decide) (lk_skip (by decide) lk_here))
  · obtain ⟨f, s, hf, hfl, hs1, rfl, hv1, hv2, hv3⟩ := hL
    obtain ⟨w, k'⟩ := q
    obtain ⟨hwk, e⟩ := zipIdx_at hk
    simp only at hwk e
    subst e
    have hnx := fold_at (n := n) hwk (some (List.replicate n 0, 1))
    rw [hf] at hnx
    have hw1 := hl2 w (List.mem_of_getElem? hwk)
    have hlen : (tx w).length = w.length := by simp [Str.length]
    have wu : ∀ {P}, wStep n (some (f, s)) (w, k') = P → (ws.take (k' + 1)).zipIdx.foldl (wStep n) (some (List.replicate n 0, 1)) = P := fun e => hnx.trans e
    have bad : wStep n (some (f, s)) (w, k') = none → ∀ σ', X 109 σ' := fun e => h' (fold_none (wu e))
    repeat walk_at "s"
    by_cases hodd : k' % 2 = 1
    · rw [show ((k' : Int) % 2 == 1) = true by simp; omega]
      repeat walk_at "s"
      rw [sg_tx, sg_plus]
      by_cases hp : w = [43]
      · rw [show (w != [43]) = false by simp [hp]]
        repeat walk_at "s"
        rw [sg_tx, sg_minus, show (w == [45]) = false by simp [hp]]
        repeat walk_at "s"
        refine At1.intB ?_
        rw [if_neg (by decide)]
        refine WB.mul (mulOk_left (by decide)) ?_
        repeat walk_at "s"
        refine ⟨f, 1, wu (by simp [wStep, hodd, hp]), hfl, .inl rfl, rfl, ?_, ?_, lk_here⟩
        · exact lk_skip (by decide) (lk_skip (by decide) (lk_skip (by decide) hv1))
        · exact lk_skip (by decide) (lk_skip (by decide) (lk_skip (by decide) hv2))
      · rw [show (w != [43]) = true by simp [hp]]
        repeat walk_at "s"
        rw [sg_tx, sg_minus]
        by_cases hm : w = [45]
        · rw [show (w != [45]) = false by simp [hm]]
          repeat walk_at "s"
          rw [sg_tx, sg_minus, show (w == [45]) = true by simp [hm]]
          repeat walk_at "s"
          refine At1.intB ?_
          rw [if_pos rfl]
          refine WB.mul (mulOk_left (by decide)) ?_
          repeat walk_at "s"
          refine ⟨f, -1, wu (by simp [wStep, hodd, hm]), hfl, .inr rfl, rfl, ?_, ?_, lk_here⟩
          · exact lk_skip (by decide) (lk_skip (by decide) (lk_skip (by decide) hv1))
          · exact lk_skip (by decide) (lk_skip (by decide) (lk_skip (by decide) hv2))
        · rw [show (w != [45]) = true by simp [hm]]
          repeat walk_at "s"
          exact ⟨by simp [sizeLine], bad (by simp [wStep, hodd, hp, hm]) _⟩
    · rw [show ((k' : Int) % 2 == 1) = false by simp; omega]
      refine ite_f ?_
      refine WS.cons ?_
      refine W1.assign ?_ (by walk_at "k2") (by with_unfolding_all rfl)
      refine WE.nLocal (by walk_at "v") (by walk_at "k") ?_
      refine WS.cons ?_
      refine W1.join (fun m1 σ1 => ∃ s2 b2, σ1 = (a, .lst (f.map D.int)) :: σ ∧ has m1 "found" (.ref a) ∧ has m1 "size" (.int n) ∧ has m1 "sign" (.int s2) ∧ has m1 "bare" (.str (tx b2)) ∧ (s2 = 1 ∨ s2 = -1) ∧ b2.length ≤ 10000 ∧ wStep n (some (f, s)) (w, k') = (termOfL b2 n).map fun r => (f.set r.1 (s2 * r.2), s2)) ?_ fun m1 σ1 hJ => ?_
      · repeat walk_at "s"
        have keep : (k' ≠ 0 ∨ w.take 1 ≠ [45]) → wStep n (some (f, s)) (w, k') = (termOfL w n).map fun r => (f.set r.1 (s * r.2), s) := fun hq => by
          unfold wStep
          simp only [Option.bind_some]
          rw [if_neg hodd, if_neg fun z => ?_]
          rcases hq with hq | hq
          · exact hq z.1
          · exact hq z.2
        by_cases h0 : k' = 0
        · rw [show ((k' : Int) == 0) = true by simp [h0]]
          repeat walk_at "s"
          refine ⟨_, rfl, _, rfl, by rw [hlen]; simp [sizeLine]; omega, ?_⟩
          rw [cut_head]
          repeat walk_at "s"
          rw [sg_tx, sg_minus]
          by_cases hm : w.take 1 = [45]
          · rw [show (w.take 1 == [45]) = true by simp [hm]]
            have hne : w ≠ [] := fun e => by rw [e] at hm; cases hm
            repeat walk_at "s"
            refine ⟨_, rfl, ?_⟩
            repeat walk_at "s"
            refine ⟨_, rfl, by rw [hlen]; simp [sizeLine]; omega, ?_⟩
            rw [cut_tail hne]
            repeat walk_at "s"
            refine ⟨-1, w.drop 1, rfl, ?_, ?_, ?_, lk_here, .inr rfl, by simp; omega, ?_⟩
            · exact lk_skip (by decide) (lk_skip (by decide) (lk_skip (by decide) (lk_skip (by decide) (lk_skip (by decide) hv1))))
            · exact lk_skip (by decide) (lk_skip (by decide) (lk_skip (by decide) (lk_skip (by decide) (lk_skip (by decide) hv2))))
            · exact lk_skip (by decide) lk_here
            · unfold wStep
              simp only [Option.bind_some]
              rw [if_neg hodd, if_pos ⟨h0, hm⟩]
          · rw [show (w.take 1 == [45]) = false by simp [hm]]
            repeat walk_at "s"
            refine ⟨s, w, rfl, ?_, ?_, ?_, lk_here, hs1, hw1, keep (.inr hm)⟩
            · exact lk_skip (by decide) (lk_skip (by decide) (lk_skip (by decide) hv1))
            · exact lk_skip (by decide) (lk_skip (by decide) (lk_skip (by decide) hv2))
            · exact lk_skip (by decide) (lk_skip (by decide) (lk_skip (by decide) hv3))
        · rw [show ((k' : Int) == 0) = false by simp [h0]]
          repeat walk_at "s"
          refine ⟨s, w, rfl, ?_, ?_, ?_, lk_here, hs1, hw1, keep (.inl h0)⟩
          · exact lk_skip (by decide) (lk_skip (by decide) (lk_skip (by decide) hv1))
          · exact lk_skip (by decide) (lk_skip (by decide) (lk_skip (by decide) hv2))
          · exact lk_skip (by decide) (lk_skip (by decide) (lk_skip (by decide) hv3))
      · obtain ⟨s2, b2, rfl, j1, j2, j3, j4, hs2, hb2, hstep⟩ := hJ
        refine WS.cons ?_
        refine W1.unpack2 hh ?_ (by walk_at "k2") (by walk_at "k2") (hs := by with_unfolding_all rfl) (hw := by with_unfolding_all rfl)
        repeat walk_at "s"
        refine WF.at (term_of_ T GS E ra hb2 hn (fun p v hp => ?_) fun hno => ?_) (by decide)
        · refine ⟨_, _, rfl, ?_⟩
          have hpn := termOf_lt hp
          rw [hp] at hstep
          simp only [Option.map_some] at hstep
          refine WS.cons ?_
          refine W1.setL ?_ (by with_unfolding_all rfl)
          repeat walk_at "s"
          refine WB.mul (mulOk_left (by rcases hs2 with rfl | rfl <;> decide)) ?_
          repeat walk_at "s"
          refine ⟨a, _, p, [], σ, rfl, rfl, rfl, by simp; omega, by omega, ?_⟩
          rw [← List.map_set]
          repeat walk_at "s"
          refine ⟨_, s2, wu hstep, by simp [hfl], hs2, rfl, ?_, ?_, ?_⟩
          · exact lk_skip (by decide) (lk_skip (by decide) j1)
          · exact lk_skip (by decide) (lk_skip (by decide) j2)
          · exact lk_skip (by decide) (lk_skip (by decide) j3)
        · rw [hno] at hstep
          exact bad hstep _
  · obtain ⟨f, s, hf, hfl, hs1, rfl, hv1, hv2, hv3⟩ := hL
    rw [List.length_zipIdx, List.take_length] at hf
    refine WS.cons (W1.ret (WE.freeze ?_))
    repeat walk_at "s"
    exact ⟨a, _, [], σ, rfl, rfl, h f (by unfold weightsOfL; rw [hf]; rfl)⟩
end
section
variable {c : Cx} {σ : Sto} {X : Addr → Sto → Prop} {Q : D → Sto → Prop} {K Kx : Frag} {C : Addr}
theorem weightsOf_len {ws : List (List Nat)} {n : Nat} {f : List Int} (h : weightsOfL ws n = some f) : f.length = n := by
  have go : ∀ (l : List (List Nat × Nat)) (f0 : List Int) (s0 : Int) (f1 : List Int) (s1 : Int), l.foldl (wStep n) (some (f0, s0)) = some (f1, s1) → f1.length = f0.length := by
    intro l
    induction l with
    | nil => intro f0 s0 f1 s1 e; cases e; rfl
    | cons q l ih =>
      intro f0 s0 f1 s1 e
      rw [List.foldl_cons] at e
      cases hq : wStep n (some (f0, s0)) q with
      | none => rw [hq, wStep_none] at e; cases e
      | some r =>
        obtain ⟨f2, s2⟩ := r
        rw [hq] at e
        rw [ih f2 s2 f1 s1 e, wStep_len hq]
  unfold weightsOfL at h
  obtain ⟨⟨f1, s1⟩, h1, rfl⟩ := Option.map_eq_some_iff.mp h
  have := go _ _ _ _ _ h1
  simpa using this
theorem join_sg : ∀ ps : List Str, sg (Str.join (tx [32]) ps) = joinL (ps.map sg)
  | [] => rfl
  | [p] => rfl
  | p :: q :: r => by
    have ih := join_sg (q :: r)
    show sg (p ++ tx [32] ++ Str.join (tx [32]) (q :: r)) = _
    rw [sg_app, sg_app, ih]
    simp [joinL]
    rfl
theorem split_ne (x y : Str) : Txt.split x y ≠ [] := by
  unfold Txt.split
  split
  · simp
  · split
    · simp
    · rw [StrLaws.partsBetween_eq]
      obtain ⟨p, r, e⟩ := StrLaws.partsFrom_ne x y.length 0 (Builtin.Str.occurrences x y 0 x.length (x.length + 1))
      rw [e]; simp
theorem split_eq (l : List Nat) : Txt.split (tx l) (Str.ofString " ") = (splitL l).map tx := by
  have hb : Str.ofString " " = tx [32] := by kernel_rfl
  rw [hb]
  have h1 : joinL ((Txt.split (tx l) (tx [32])).map sg) = l := by
    rw [← join_sg, StrLaws.join_split]
  have h2 : ∀ p ∈ (Txt.split (tx l) (tx [32])).map sg, 32 ∉ p := fun p hp => by
    obtain ⟨q, hq, rfl⟩ := List.mem_map.mp hp
    exact StrLaws.split_free (tx l) 32 q hq
  have h3 := splitL_join (by simpa using split_ne (tx l) (tx [32])) h2
  rw [h1] at h3
  rw [h3, List.map_map]
  symm
  exact (List.map_congr_left (g := id) fun x _ => tx_sg x).trans (List.map_id _)
theorem splitL_len : ∀ l : List Nat, (splitL l).length ≤ l.length + 1 ∧ ∀ p ∈ splitL l, p.length ≤ l.length
  | [] => by simp [splitL]
  | a :: r => by
    obtain ⟨h1, h2⟩ := splitL_len r
    unfold splitL
    split
    · refine ⟨by simp; omega, fun p hp => ?_⟩
      rcases List.mem_cons.mp hp with rfl | hp
      · simp
      · have := h2 p hp; simp; omega
    · cases e : splitL r with
      | nil => exact absurd e (splitL_ne r)
      | cons h t =>
        rw [e] at h1 h2
        refine ⟨by simpa using Nat.le_succ_of_le h1, fun p hp => ?_⟩
        rcases List.mem_cons.mp hp with rfl | hp
        · have := h2 h (.head _); simp; omega
        · have := h2 p (.tail _ hp); simp; omega
theorem parts_small {x y : Str} (h : x.length ≤ 100000) : (Builtin.Str.partsBetween x (Builtin.Str.occurrences x y 0 x.length (x.length + 1)) y.length).length ≤ sizeLine := by
  have h1 := StrLaws.occ_length_le x y 0 x.length (x.length + 1)
  unfold Builtin.Str.partsBetween
  simp [sizeLine]; omega
theorem cut_end {l : List Nat} : cut (tx l) (some (-4)) none = tx (l.drop (l.length - 4)) := by
  by_cases h : 4 ≤ l.length
  · exact cut_last 4 rfl h (by decide)
  · match l, h with
    | [], _ => kernel_rfl
    | [a], _ => kernel_rfl
    | [a, b], _ => kernel_rfl
    | [a, b, e], _ => kernel_rfl
    | _ :: _ :: _ :: _ :: _, h => simp at h
def finL (l : List Nat) (f : List Int) : Option (List Int) := if (f.any fun w => decide (20 < w.natAbs)) = true ∨ shownL f ≠ l then none else some f
theorem read_ {l : List Nat} {n : Nat} (T : Tp c B05 N05) (G : Gi c G05) (GS : Gt c S05) (E : Xs c Kx E05) (ra : Rai c "Unread") (rb : Rai c "BadSystem") (h1 : 1 ≤ n) (h5 : n ≤ 5) (hl : l.length ≤ 5000) (h : ∀ f, readL l n = some f → Q (il f) σ) (h' : readL l n = none → ∀ σ', X 109 σ') : WF c (Room 5) "read" [.str (tx l), .int n] σ Q X := by
  refine WF.by 22 T rfl (bind2 fun _ _ _ _ _ => rfl) (by rfl) rfl fun A fr env r hh hs fe => ?_
  walk_at "m"
  have d1 : Dfn c "is_whole" := Dfn.by 12 T rfl
  have d2 : Dfn c "weights_of" := Dfn.by 21 T rfl
  have d3 : Dfn c "shown" := Dfn.by 19 T rfl
  have hlen : (tx l).length = l.length := by simp [Str.length]
  repeat walk_at "s"
  refine WF.at (is_whole_ T rfl ?_) (by decide)
  rw [show wholeD 1 5 (.int n) = true by simp [wholeD]; omega]
  repeat walk_at "s"
  refine At1.isi (b := true) (by decide) rfl ?_
  repeat walk_at "s"
  refine ⟨_, rfl, ?_⟩
  repeat walk_at "s"
  refine ⟨_, rfl, by rw [hlen]; simp [sizeLine]; omega, ?_⟩
  rw [cut_end]
  repeat walk_at "s"
  rw [sg_tx, sg_end]
  by_cases he : l.drop (l.length - 4) = endL
  · rw [show (l.drop (l.length - 4) != endL) = false by simp [he]]
    have h4 : 4 ≤ l.length := by
      have := congrArg List.length he
      simp at this; omega
    repeat walk_at "s"
    refine ⟨n, rfl, by omega, by omega, ?_⟩
    refine Turns.map (fun _ => .int 0) (fun _ _ => loc1 rfl) trivial (by simp [sizeLine]; omega) (fun x hx fr' cenv hc => ?_) (.inl ?_)
    · have hc := relab_of hc hs
      repeat walk_at "s"
      exact ⟨rfl, rfl⟩
    rw [show (List.range (n : Int).toNat).map (fun (_ : Nat) => D.int 0) = (List.replicate n (0 : Int)).map D.int from zeros_ints n]
    refine WS.cons ?_
    refine W1.join (fun m1 σ1 => ∃ f, σ1 = σ ∧ has m1 "found" (il f) ∧ has m1 "text" (.str (tx l)) ∧ f.length = n ∧ readL l n = finL l f) ?_ fun m1 σ1 hJ => ?_
    · repeat walk_at "s"
      refine ⟨_, rfl, _, rfl, by rw [hlen]; simp [sizeLine]; omega, ?_⟩
      rw [cut_to (i := -4) 4 rfl h4 (by decide)]
      repeat walk_at "s"
      rw [sg_tx, show sg (Str.ofString "0") = [48] from by kernel_rfl]
      by_cases h0 : l.take (l.length - 4) = [48]
      · rw [show (l.take (l.length - 4) != [48]) = false by simp [h0]]
        repeat walk_at "s"
        refine ⟨List.replicate n 0, rfl, lk_here, lk_skip (by decide) lk_here, by simp, ?_⟩
        unfold readL
        rw [if_neg (fun z => z he), if_pos h0]; rfl
      · rw [show (l.take (l.length - 4) != [48]) = true by simp [h0]]
        repeat walk_at "s"
        refine ⟨_, rfl, _, rfl, by rw [hlen]; simp [sizeLine]; omega, ?_⟩
        rw [cut_to (i := -4) 4 rfl h4 (by decide)]
        refine ⟨_, rfl, ?_⟩
        repeat walk_at "s"
        refine At1.split (by kernel_rfl) (by simp [Str.length, sizeLine]; omega) (parts_small (by simp [Str.length]; omega)) (.inl ?_)
        rw [split_eq, List.map_map]
        have hsl := splitL_len (l.take (l.length - 4))
        simp only [List.length_take] at hsl
        repeat walk_at "s"
        refine At1.len (sd := .lst _) trivial (by simp [SD.ds]; omega) ?_
        simp only [SD.ds, List.length_map]
        repeat walk_at "s"
        by_cases hev : (splitL (l.take (l.length - 4))).length % 2 = 0
        · rw [show (((splitL (l.take (l.length - 4))).length : Int) % 2 == 0) = true by simp; omega]
          repeat walk_at "s"
          refine ⟨by simp [sizeLine], h' ?_ _⟩
          unfold readL
          rw [if_neg (fun z => z he), if_neg h0, if_pos hev]; rfl
        · rw [show (((splitL (l.take (l.length - 4))).length : Int) % 2 == 0) = false by simp; omega]
          repeat walk_at "s"
          refine WF.at (weights_of_ T GS E ra (by omega) (fun w hw => by have := hsl.2 w hw; omega) h5 (fun f hf => ?_) fun hno => ?_) (by decide)
          · repeat walk_at "s"
            refine ⟨f, rfl, lk_here, ?_, weightsOf_len hf, ?_⟩
            · exact lk_skip (by decide) (lk_skip (by decide) (lk_skip (by decide) lk_here))
            · unfold readL
              rw [if_neg (fun z => z he), if_neg h0, if_neg hev, hf]; rfl
          · refine h' ?_
            unfold readL
            rw [if_neg (fun z => z he), if_neg h0, if_neg hev, hno]; rfl
    · obtain ⟨f, rfl, j1, j2, hfl, hrd⟩ := hJ
      repeat walk_at "s"
      refine WIv.seq (sd := .lst _) D.int hh rfl trivial (Turns.map (fun w => .bool (decide (20 < w.natAbs))) (fun _ _ => loc1 rfl) trivial (by simp [sizeLine]; omega) (fun w hw fr' cenv hc => ?_) (.inl ?_))
      · have hc := relab_of hc hs
        repeat walk_at "s"
        refine At1.abs ?_
        rw [abs_nat]
        repeat walk_at "s"
        refine ⟨rfl, ?_⟩
        congr 1
        simp; omega
      repeat walk_at "s"
      refine At1.any (sd := .lst _) (l := f.map fun w => decide (20 < w.natAbs)) hh (by simp [SD.ds, Function.comp_def]) trivial ?_
      rw [List.any_map]
      cases hany : f.any (id ∘ fun w : Int => decide (20 < w.natAbs)) with
      | true =>
        repeat walk_at "s"
        refine ⟨by simp [sizeLine], h' ?_ _⟩
        rw [hrd]; unfold finL; rw [if_pos (.inl hany)]
      | false =>
        have hw20 : ∀ w ∈ f, w.natAbs ≤ 20 := fun w hw => by
          have := List.any_eq_false.mp hany w hw
          simp at this; omega
        repeat walk_at "s"
        refine WF.at (shown_ T G GS E rb (by omega) (by omega) hw20 ?_) (by decide)
        repeat walk_at "s"
        rw [sg_tx, sg_tx]
        by_cases hsh : shownL f = l
        · rw [show (shownL f != l) = false by simp [hsh]]
          repeat walk_at "s"
          refine h f ?_
          rw [hrd]; unfold finL; rw [if_neg]
          rintro (z | z)
          · rw [show (f.any fun w => decide (20 < w.natAbs)) = false from hany] at z; cases z
          · exact z hsh
        · rw [show (shownL f != l) = true by simp [hsh]]
          repeat walk_at "s"
          refine ⟨by simp [sizeLine], h' ?_ _⟩
          rw [hrd]; unfold finL; rw [if_pos (.inr hsh)]
  · rw [show (l.drop (l.length - 4) != endL) = true by simp [he]]
    repeat walk_at "s"
    refine ⟨by simp [sizeLine], h' ?_ _⟩
    unfold readL; rw [if_pos he]
end
section
variable {c : Cx} {σ : Sto} {X : Addr → Sto → Prop} {Q : D → Sto → Prop} {K Kx : Frag} {C : Addr}
theorem cell_at_ {S : List Int} {k : Int} (T : Tp c B05 N05) (hS : S.length ≤ 63) (hk : 0 ≤ k) (hk2 : k < 2 ^ 60) (h : Q (.int (S.getD k.toNat 0)) σ) : WF c (Room 1) "_law_cell_at" [.lst (S.map .int), .int k] σ Q X := by
  refine WF.by 24 T rfl (bind2 fun _ _ _ _ _ => rfl) (by rfl) rfl fun A fr env r hh hs fe => ?_
  repeat walk_at "s"
  refine At1.len (sd := .lst _) trivial (by walk_at "z") ?_
  repeat walk_at "s"
  simp only [SD.ds, List.length_map]
  by_cases hl : k < S.length
  · simp only [hl, decide_true, if_true]
    repeat walk_at "s"
    have hi : k.toNat < S.length := by omega
    refine WSb.item (sd := .lst _) (d := .int (S.getD k.toNat 0)) trivial (by omega) (by omega) (by simp only [SD.ds, List.length_map]; omega) ?_ h
    have : ¬ k < 0 := by omega
    simp [SD.ds, idx, this, hi, List.getD_eq_getElem?_getD]
  · simp only [hl, decide_false, Bool.false_eq_true, if_false]
    repeat walk_at "s"
    have e : S.getD k.toNat 0 = 0 := by
      have : S.length ≤ k.toNat := by omega
      simp [List.getD_eq_getElem?_getD, this]
    rw [e] at h
    exact h

def wtC (x : Int) : Int := if x % 3 = 0 then x / 3 % 41 - 20 else if x % 3 = 1 then x / 3 % 3 - 1 else 0
theorem wtC_ok (x : Int) : (wtC x).natAbs ≤ 20 := by
  unfold wtC
  split
  · omega
  · split
    · omega
    · decide
theorem wt3 {x : Int} : [D.int (x / 3 % 41 - 20), D.int (x / 3 % 3 - 1), D.int 0][(x % 3).toNat]? = some (.int (wtC x)) := by
  have : x % 3 = 0 ∨ x % 3 = 1 ∨ x % 3 = 2 := by omega
  unfold wtC
  rcases this with h | h | h <;> simp [h]
theorem weight_by_ {x : Int} (T : Tp c B05 N05) (h : Q (.int (wtC x)) σ) : WF c (Room 1) "_law_weight_by" [.int x] σ Q X := by
  refine WF.by 25 T rfl (bind1 fun _ _ _ _ => rfl) (by rfl) rfl fun A fr env r hh hs fe => ?_
  walk_at "m"
  repeat walk_at "s"
  refine ⟨by simp [sizeLine], .inl ?_⟩
  repeat walk_at "s"
  refine WSb.item (sd := .lst _) trivial (by omega) (by omega) (by simp only [SD.ds, List.length_cons, List.length_nil]; omega) ?_ h
  have : ¬ x % 3 < 0 := by omega
  simp only [SD.ds, idx, this, if_false]
  exact wt3
theorem law_text_ {ws : List Int} (T : Tp c B05 N05) (h5 : ws.length ≤ 5) (hw : ∀ w ∈ ws, w.natAbs ≤ 20) (h : Q (.str (tx (shownL ws))) σ) : WF c (Room 2) "_law_text_of" [il ws] σ Q X := by
  refine WF.by 26 T rfl (bind1 fun _ _ _ _ => rfl) (by rfl) rfl fun A fr env r hh hs fe => ?_
  walk_at "m"
  repeat walk_at "s"
  refine ⟨Int, .lst _, ws, D.int, rfl, rfl, rfl, trivial, ?_⟩
  refine Loop.of (fun k m' σ' => σ' = σ ∧ has m' "_law_text_here" (.str (tx (bodyL (ws.take k)))) ) (fun q hq => kinds2 (.inl (kindOf_of hs rfl)) (.inl (kindOf_of hs rfl))) ⟨rfl, lk_here⟩ (fun _ _ _ _ => trivial) (fun k q m' σ' hk hL fr' => ?_) fun m' σ' hL => ?_
  · obtain ⟨rfl, ht⟩ := hL
    obtain ⟨w, k'⟩ := q
    obtain ⟨hwk, e⟩ := zipIdx_at hk
    simp only at hwk e
    subst e
    have hk5 : k' < 5 := by have := (List.getElem?_eq_some_iff.mp hwk).1; omega
    have hw1 := hw w (List.mem_of_getElem? hwk)
    have hnx := body_next hwk
    have hbl := body_len ws k'
    have hdl : (digs w.natAbs).length ≤ 2 := by unfold digs; split <;> simp
    unfold bodyStep at hnx
    simp only at hnx
    repeat walk_at "s"
    by_cases h0 : w = 0
    · rw [show (w != 0) = false by simp [h0]]
      rw [if_pos h0] at hnx
      repeat walk_at "s"
      refine ⟨rfl, ?_⟩
      rw [hnx]
      exact lk_skip (by decide) (lk_skip (by decide) ht)
    · rw [show (w != 0) = true by simp [h0]]
      rw [if_neg h0] at hnx
      have hsl : (signL (bodyL (ws.take k')) w).length ≤ 3 := by unfold signL; split <;> split <;> simp
      refine ite_t ?_
      refine WS.cons ?_
      refine W1.join (fun m1 σ1 => σ' = σ1 ∧ has m1 "_law_text_here" (.str (tx (bodyL (ws.take k')))) ∧ has m1 "_law_weight" (.int w) ∧ has m1 "_law_place" (.int k') ∧ has m1 "_law_sign" (.str (tx (if w < 0 then [45] else [43])))) ?_ fun mm σ1 hJ => ?_
      · repeat walk_at "s"
        refine ⟨by simp [sizeLine], .inl ?_⟩
        repeat walk_at "s"
        refine At1.intB ?_
        by_cases hneg : w < 0
        · rw [decide_eq_true hneg, if_pos rfl]
          refine WSb.item (sd := .lst _) trivial (by decide) (by decide) (by decide) (d := .str "-") rfl ?_
          refine ⟨rfl, lk_skip (by decide) (lk_skip (by decide) (lk_skip (by decide) ht)), lk_skip (by decide) lk_here, lk_skip (by decide) (lk_skip (by decide) lk_here), ?_⟩
          rw [if_pos hneg]; exact lk_here
        · rw [decide_eq_false hneg, if_neg (by decide)]
          refine WSb.item (sd := .lst _) trivial (by decide) (by decide) (by decide) (d := .str "+") rfl ?_
          refine ⟨rfl, lk_skip (by decide) (lk_skip (by decide) (lk_skip (by decide) ht)), lk_skip (by decide) lk_here, lk_skip (by decide) (lk_skip (by decide) lk_here), ?_⟩
          rw [if_neg hneg]; exact lk_here
      · obtain ⟨rfl, g1, g2, g3, g4⟩ := hJ
        refine WS.cons ?_
        refine W1.join (fun m1 σ1 => σ' = σ1 ∧ has m1 "_law_text_here" (.str (tx (bodyL (ws.take k') ++ signL (bodyL (ws.take k')) w))) ∧ has m1 "_law_weight" (.int w) ∧ has m1 "_law_place" (.int k')) ?_ fun m1 σ1 hJ => ?_
        · repeat walk_at "s"
          rw [sg_tx, show sg (Str.ofString "") = [] from rfl]
          by_cases hb : bodyL (ws.take k') = []
          · rw [show (bodyL (ws.take k') == []) = true by simp [hb]]
            repeat walk_at "s"
            refine ⟨by simp [sizeLine], .inl ?_⟩
            repeat walk_at "s"
            refine At1.intB ?_
            by_cases hneg : w < 0
            · rw [decide_eq_true hneg, if_pos rfl]
              refine WSb.item (sd := .lst _) trivial (by decide) (by decide) (by decide) (d := .str "-") rfl ?_
              refine WS.nil ⟨rfl, ?_, lk_skip (by decide) g2, lk_skip (by decide) g3⟩
              rw [signL, if_pos hb, if_pos hneg, hb]; exact lk_here
            · rw [decide_eq_false hneg, if_neg (by decide)]
              refine WSb.item (sd := .lst _) trivial (by decide) (by decide) (by decide) (d := .str "") rfl ?_
              refine WS.nil ⟨rfl, ?_, lk_skip (by decide) g2, lk_skip (by decide) g3⟩
              rw [signL, if_pos hb, if_neg hneg, hb]; exact lk_here
          · rw [show (bodyL (ws.take k') == []) = false by simp [hb]]
            have hb32 : Str.ofString " " = tx [32] := by kernel_rfl
            have hl1 : (if w < 0 then [45] else [43] : List Nat).length = 1 := by split <;> rfl
            repeat walk_at "s"
            rw [hb32]
            refine WB.addS (by simp [Str.length, sizeLine]; omega) ?_
            rw [tx_app]
            repeat walk_at "s"
            refine WB.addS (by simp [Str.length, sizeLine]; omega) ?_
            rw [tx_app]
            repeat walk_at "s"
            refine WB.addS (by simp [Str.length, sizeLine]; omega) ?_
            rw [tx_app]
            repeat walk_at "s"
            refine ⟨rfl, ?_, lk_skip (by decide) g2, lk_skip (by decide) g3⟩
            have e : bodyL (ws.take k') ++ [32] ++ (if w < 0 then [45] else [43]) ++ [32] = bodyL (ws.take k') ++ signL (bodyL (ws.take k')) w := by
              rw [signL, if_neg hb]; split <;> simp
            rw [e]; exact lk_here
        · obtain ⟨rfl, f1, f2, f3⟩ := hJ
          refine WS.cons ?_
          refine W1.join (fun m1 σ1 => σ' = σ1 ∧ has m1 "_law_text_here" (.str (tx (bodyL (ws.take k') ++ signL (bodyL (ws.take k')) w ++ (if w.natAbs = 1 then [] else digs w.natAbs)))) ∧ has m1 "_law_place" (.int k')) ?_ fun m1 σ1 hJ => ?_
          · repeat walk_at "s"
            refine ⟨by simp [sizeLine], ?_⟩
            refine WB.notInT r (.of (Py.int (n := 0))) (.of (Py.tup (n := 1) (.cons .int (.cons .int .nil)))) ?_
            by_cases h1 : w.natAbs = 1
            · have e : (!([PyData.int 1, PyData.int (-1)].any fun y => PyData.eqv y (.int w))) = false := by
                have : w = 1 ∨ w = -1 := by omega
                rcases this with rfl | rfl <;> rfl
              rw [e]
              repeat walk_at "s"
              refine ⟨rfl, ?_, f3⟩
              rw [if_pos h1, List.append_nil]; exact f1
            · have e : (!([PyData.int 1, PyData.int (-1)].any fun y => PyData.eqv y (.int w))) = true := by
                have a1 : w ≠ 1 := by omega
                have a2 : w ≠ -1 := by omega
                simp [PyData.eqv, Ne.symm a1, Ne.symm a2]
              rw [e]
              repeat walk_at "s"
              refine At1.abs ?_
              rw [abs_nat]
              repeat walk_at "s"
              refine At1.strI (log_small (by simpa using hw1)) ?_
              rw [digs_text hw1]
              refine WB.addS (by simp [Str.length, sizeLine]; omega) ?_
              rw [tx_app]
              repeat walk_at "s"
              refine ⟨rfl, ?_, lk_skip (by decide) f3⟩
              rw [if_neg h1]; exact lk_here
          · obtain ⟨rfl, e1, e2⟩ := hJ
            have hdl2 : (if w.natAbs = 1 then [] else digs w.natAbs : List Nat).length ≤ 2 := by split <;> simp_all
            repeat walk_at "s"
            refine WSb.sign (by omega) (by omega) (by rw [sg_letters]; omega) (letter_at hk5) ?_
            refine WB.addS (by simp [Str.length, sizeLine] at hdl2 ⊢; omega) ?_
            rw [tx_app]
            repeat walk_at "s"
            refine ⟨rfl, ?_⟩
            have e : bodyL (ws.take k') ++ signL (bodyL (ws.take k')) w ++ (if w.natAbs = 1 then [] else digs w.natAbs) ++ [97 + k'] = bodyL (ws.take (k' + 1)) := by
              rw [hnx, termL]; simp
            rw [e]; exact lk_here
  · obtain ⟨rfl, ht⟩ := hL
    rw [List.length_zipIdx, List.take_length] at ht
    have hbl := body_len ws ws.length
    rw [List.take_length] at hbl
    repeat walk_at "s"
    rw [sg_tx, show sg (Str.ofString "") = [] from rfl]
    unfold shownL at h
    by_cases hb : bodyL ws = []
    · rw [show (bodyL ws == []) = true by simp [hb]]
      rw [if_pos hb, ← tx_app] at h
      repeat walk_at "s"
      exact h
    · rw [show (bodyL ws == []) = false by simp [hb]]
      rw [if_neg hb, ← tx_app] at h
      repeat walk_at "s"
      refine WB.addS (by have := end_len; simp [Str.length, sizeLine] at this ⊢; omega) ?_
      exact h
theorem ve_type : typeOf (.type "ValueError") = pure (.type "type") := by kernel_rfl
theorem ve_is : isType (.type "ValueError") = pure true := by kernel_rfl

end
section
variable {c : Cx} {σ : Sto} {X : Addr → Sto → Prop} {Q : D → Sto → Prop} {K Kx : Frag} {C : Addr}
theorem number_of_ {l : List Nat} (T : Tp c B05 N05) (hl : l.length ≤ 5000) (h : Q (.int (numOfL l)) σ) : WF c (Room 1) "_law_number_of" [.str (tx l)] σ Q X := by
  refine WF.by 27 T rfl (bind1 fun _ _ _ _ => rfl) (by rfl) rfl fun A fr env r hh hs fe => ?_
  walk_at "m"
  have hlen : (tx l).length = l.length := by simp [Str.length]
  repeat walk_at "s"
  rw [sg_tx, show sg (Str.ofString "") = [] from rfl]
  by_cases h0 : l = []
  · rw [show (l == []) = true by simp [h0]]
    repeat walk_at "s"
    rw [numOfL, if_pos h0] at h; exact h
  · rw [show (l == []) = false by simp [h0]]
    rw [numOfL, if_neg h0] at h
    repeat walk_at "s"
    refine WIv.str hh ?_
    rw [sg_tx]
    refine Loop.of (fun k m' σ' => σ = σ' ∧ has m' "_law_figures" (.str (tx l)) ∧ (l.take k).all digit = true) (fun q hq => kinds1 (.inl (kindOf_of hs rfl))) ⟨rfl, lk_here, rfl⟩ (fun _ _ _ _ => trivial) (fun k q m' σ' hk hL fr' => ?_) fun m' σ' hL => ?_
    · obtain ⟨rfl, hv1, hv3⟩ := hL
      repeat walk_at "s"
      refine WB.notInS ?_
      rw [figure_in]
      cases hd : digit q with
      | true =>
        repeat walk_at "s"
        refine ⟨rfl, lk_skip (by decide) hv1, ?_⟩
        rw [List.take_add_one, hk]
        simp [hv3, hd]
      | false =>
        repeat walk_at "s"
        have : l.all digit ≠ true := fun z => by
          have := List.all_eq_true.mp z q (List.mem_of_getElem? hk)
          rw [hd] at this; cases this
        rw [if_neg this] at h
        exact h
    · obtain ⟨rfl, hv1, hv3⟩ := hL
      rw [List.take_length] at hv3
      rw [if_pos hv3] at h
      repeat walk_at "s"
      refine At1.lenS (by rw [hlen]; simp [sizeLine]; omega) ?_
      rw [hlen]
      repeat walk_at "s"
      by_cases h2 : 2 < l.length
      · rw [if_pos h2] at h
        rw [decide_eq_true (by omega)]
        repeat walk_at "s"
        exact h
      · rw [if_neg h2] at h
        rw [decide_eq_false (by omega)]
        repeat walk_at "s"
        exact At1.intS (int_text hv3 (by omega) h0) (by rw [hlen]; omega) h
theorem cut_last1 {l : List Nat} : cut (tx l) (some (-1)) none = tx l.getLast?.toList := by
  cases h : l.getLast? with
  | none =>
    have : l = [] := by simpa using h
    subst this
    kernel_rfl
  | some ch =>
    have hne : l ≠ [] := fun e => by rw [e] at h; cases h
    have h1 : 1 ≤ l.length := by cases l with | nil => exact absurd rfl hne | cons a r => simp
    rw [cut_last (i := -1) 1 rfl h1 (by decide)]
    congr 2
    obtain ⟨r, rfl⟩ : ∃ r, l = r ++ [ch] := ⟨l.dropLast, by
      have e1 := List.dropLast_concat_getLast hne
      rw [List.getLast?_eq_some_getLast hne] at h
      injection h with h
      rw [h] at e1
      exact e1.symm⟩
    simp
theorem letters_cut {n : Nat} (hn : n ≤ 5) : cut (Str.ofString "abcde") none (some (n : Int)) = tx ([97, 98, 99, 100, 101].take n) := by
  have : n = 0 ∨ n = 1 ∨ n = 2 ∨ n = 3 ∨ n = 4 ∨ n = 5 := by omega
  rcases this with rfl | rfl | rfl | rfl | rfl | rfl <;> kernel_rfl
theorem letter_in {n ch : Nat} (hn : n ≤ 5) : decide (ch ∈ sg (tx ([97, 98, 99, 100, 101].take n))) = decide (97 ≤ ch ∧ ch < 97 + n) := by
  rw [sg_tx]
  have : n = 0 ∨ n = 1 ∨ n = 2 ∨ n = 3 ∨ n = 4 ∨ n = 5 := by omega
  rcases this with rfl | rfl | rfl | rfl | rfl | rfl <;> (apply decide_eq_decide.mpr; simp; try omega)
theorem letter_index {ch : Nat} (h : 97 ≤ ch ∧ ch < 102) : Builtin.Str.occurrences (Str.ofString "abcde") (tx [ch]) 0 (Str.ofString "abcde").length 1 = [ch - 97] := by
  have : ∀ j, j < 5 → Builtin.Str.occurrences (Str.ofString "abcde") (tx [97 + j]) 0 (Str.ofString "abcde").length 1 = [j] := by decide +kernel
  have e := this (ch - 97) (by omega)
  rw [show 97 + (ch - 97) = ch by omega] at e
  exact e
theorem law_none {ws : List (List Nat)} {n k : Nat} (h : ((List.range k).map fun i => 2 * i + 1).foldl (lawStep n ws) (some (List.replicate n 0)) = none) (hk : k ≤ (ws.length - 2) / 2) : lawOf ws n = none := by
  have nn : ∀ l : List Nat, l.foldl (lawStep n ws) none = none := by
    intro l
    induction l with
    | nil => rfl
    | cons k l ih => rw [List.foldl_cons]; exact ih
  unfold lawOf
  obtain ⟨j, hj⟩ : ∃ j, (ws.length - 2) / 2 = k + j := ⟨(ws.length - 2) / 2 - k, by omega⟩
  rw [hj, List.range_add, List.map_append, List.foldl_append, h, nn]
theorem law_weights_of_ {t : List Nat} {n : Nat} (T : Tp c B05 N05) (h1 : 1 ≤ n) (h5 : n ≤ 5) (ht : t.length ≤ 4000) (h : ∀ f, lawOf (lawWords t) n = some f → Q (il f) σ) (h' : lawOf (lawWords t) n = none → ∀ σ', Q .none σ') : WF c (Room 2) "_law_weights_of" [.str (tx t), .int n] σ Q X := by
  refine WF.by 28 T rfl (bind2 fun _ _ _ _ _ => rfl) (by rfl) rfl fun A fr env r hh hs fe => ?_
  walk_at "m"
  have d1 : Dfn c "_law_number_of" := Dfn.by 27 T rfl
  have hsl := splitL_len t
  repeat walk_at "s"
  refine ⟨by simp [sizeLine], .inl ?_⟩
  repeat walk_at "s"
  refine WB.mulL (sd := .lst _) rfl trivial (by omega) (by omega) (by simp [SD.ds] <;> omega) (.inr fun a ha => ?_)
  rw [show (List.replicate ((n : Int)).toNat (SD.lst [D.int 0]).ds).flatten = (List.replicate n (0 : Int)).map D.int from by simp [SD.ds]]
  repeat walk_at "s"
  refine ⟨_, rfl, ?_⟩
  repeat walk_at "s"
  refine At1.split (by kernel_rfl) (by simp [Str.length, sizeLine]; omega) (parts_small (by simp [Str.length]; omega)) (.inl ?_)
  rw [split_eq, List.map_map]
  have hlw : ∀ w ∈ lawWords t, w.length ≤ 4000 := fun w hw => by
    unfold lawWords lawW2 at hw
    have hh0 : ((splitL t).headD []).length ≤ 4000 := by
      cases e : splitL t with
      | nil => simp
      | cons p q => have := hsl.2 p (by rw [e]; exact .head _); simp; omega
    split at hw
    · simp only [List.mem_cons] at hw
      rcases hw with rfl | rfl | hw
      · simp
      · simp only [List.length_drop]; omega
      · have := hsl.2 w (List.mem_of_mem_tail hw); omega
    · simp only [List.mem_cons] at hw
      rcases hw with rfl | hw
      · simp
      · have := hsl.2 w hw; omega
  have hll : 2 ≤ (lawWords t).length ∧ (lawWords t).length ≤ 4010 := by
    have h1 : 1 ≤ (splitL t).length := by cases e : splitL t with | nil => exact absurd e (splitL_ne t) | cons p q => simp
    unfold lawWords lawW2
    split <;> simp <;> omega
  refine WS.cons ?_
  refine W1.join (fun m1 σ1 => (a, O.lst ((List.replicate n (0 : Int)).map D.int)) :: σ = σ1 ∧ has m1 "_law_weights" (.ref a) ∧ has m1 "_law_size" (.int n) ∧ has m1 "_law_words" (.lst ((lawWords t).map fun w => .str (tx w)))) ?_ fun m1 σ1 hJ => ?_
  · obtain ⟨w0, rest, e0⟩ : ∃ w0 rest, splitL t = w0 :: rest := by
      cases e : splitL t with
      | nil => exact absurd e (splitL_ne t)
      | cons p q => exact ⟨p, q, rfl⟩
    have hw0 : w0.length ≤ 4000 := by have := hsl.2 w0 (by rw [e0]; exact .head _); omega
    have hrl : rest.length ≤ 4001 := by have := hsl.1; rw [e0] at this; simp at this; omega
    unfold lawWords
    rw [e0, lawW2_cons]
    repeat walk_at "s"
    refine WSb.item (sd := .lst _) (d := .str (tx w0)) trivial (by decide) (by decide) (by simp [SD.ds]; omega) (by simp [SD.ds, idx]) ?_
    repeat walk_at "s"
    refine ⟨_, rfl, _, rfl, by simp [Str.length, sizeLine]; omega, ?_⟩
    rw [cut_head]
    repeat walk_at "s"
    rw [sg_tx, sg_minus]
    by_cases hm : w0.take 1 = [45]
    · rw [show (w0.take 1 == [45]) = true by simp [hm], if_pos hm]
      have hne : w0 ≠ [] := fun e => by rw [e] at hm; cases hm
      repeat walk_at "s"
      refine WSb.item (sd := .lst _) (d := .str (tx w0)) trivial (by decide) (by decide) (by simp [SD.ds]; omega) (by simp [SD.ds, idx]) ?_
      repeat walk_at "s"
      refine ⟨_, rfl, ?_⟩
      repeat walk_at "s"
      refine ⟨_, rfl, by simp [Str.length, sizeLine]; omega, ?_⟩
      rw [cut_tail hne]
      repeat walk_at "s"
      refine ⟨by simp [sizeLine], .inl ?_⟩
      refine WE.sliceL ?_ (ht := by with_unfolding_all (intro _ _; rfl))
      repeat walk_at "s"
      refine ⟨_, rfl, ?_⟩
      repeat walk_at "s"
      refine ⟨.lst _, rfl, rfl, trivial, by simp [SD.ds, sizeLine]; omega, .inl ?_⟩
      rw [show pick (SD.lst (List.map (D.str ∘ tx) (w0 :: rest))).ds (some 1) none = rest.map (D.str ∘ tx) from by
        show pick ((w0 :: rest).map (D.str ∘ tx)) (some 1) none = _
        rw [pick_map]
        congr 1
        have e : clipAt (w0 :: rest).length 1 = 1 := by unfold clipAt; simp; omega
        simp only [Option.elim, e]
        exact List.take_of_length_le (by simp)]
      refine WB.addL (sd1 := .lst _) (sd2 := .lst _) rfl rfl trivial trivial (by simp [SD.ds, sizeLine]; omega) (.inl ?_)
      repeat walk_at "s"
      refine ⟨rfl, lk_skip (by decide) (lk_skip (by decide) lk_here), ?_, ?_⟩
      · exact lk_skip (by decide) (lk_skip (by decide) (lk_skip (by decide) (lk_skip (by decide) lk_here)))
      · exact lk_here
    · rw [show (w0.take 1 == [45]) = false by simp [hm], if_neg hm]
      repeat walk_at "s"
      refine ⟨by simp [sizeLine], .inl ?_⟩
      repeat walk_at "s"
      refine WB.addL (sd1 := .lst _) (sd2 := .lst _) rfl rfl trivial trivial (by simp [SD.ds, sizeLine]; omega) (.inl ?_)
      repeat walk_at "s"
      refine ⟨rfl, lk_skip (by decide) (lk_skip (by decide) lk_here), ?_, ?_⟩
      · exact lk_skip (by decide) (lk_skip (by decide) (lk_skip (by decide) (lk_skip (by decide) lk_here)))
      · exact lk_here
  · obtain ⟨rfl, j1, j2, j3⟩ := hJ
    generalize lawWords t = ws at *
    refine WS.cons ?_
    refine W1.forL fe ?_ (hs := by with_unfolding_all (intro _; rfl))
    refine WIt.rangeOdd T hh (by walk_at "k") rfl ?_ (hp := by with_unfolding_all rfl)
    repeat walk_at "s"
    refine At1.len (sd := .lst _) trivial (by simp [SD.ds]; omega) ?_
    rw [show (SD.lst (ws.map fun w => D.str (tx w))).ds.length = ws.length by simp [SD.ds]]
    repeat walk_at "s"
    refine ⟨(ws.length : Int) - 2, rfl, by omega, by omega, ?_⟩
    rw [show (((ws.length : Int) - 2) / 2).toNat = (ws.length - 2) / 2 by omega]
    refine Loop.of (fun k m' σ' => ∃ f, ((List.range k).map fun i => 2 * i + 1).foldl (lawStep n ws) (some (List.replicate n 0)) = some f ∧ f.length = n ∧ (a, O.lst (f.map D.int)) :: σ = σ' ∧ has m' "_law_weights" (.ref a) ∧ has m' "_law_size" (.int n) ∧ has m' "_law_words" (.lst (ws.map fun w => .str (tx w)))) (fun q hq => kinds1 (.inl (kindOf_of hs rfl))) ⟨_, rfl, by simp, rfl, j1, j2, j3⟩ (fun _ _ _ _ => trivial) (fun k q m' σ' hk hL fr' => ?_) fun m' σ' hL => ?_
    · obtain ⟨f, hf, hfl, rfl, g1, g2, g3⟩ := hL
      obtain ⟨hkl, hkq⟩ := List.getElem?_eq_some_iff.mp hk
      simp only [List.length_range, List.getElem_range] at hkl hkq
      subst hkq
      have hlt : 2 * k + 1 < ws.length := by omega
      obtain ⟨w, hw⟩ : ∃ w, ws[2 * k + 1]? = some w := ⟨ws[2 * k + 1], by simp [hlt]⟩
      obtain ⟨sw, hsw⟩ : ∃ w, ws[2 * k]? = some w := ⟨ws[2 * k], by simp⟩
      have hwl := hlw w (List.mem_of_getElem? hw)
      have gd : ws.getD (2 * k + 1) [] = w := by rw [List.getD_eq_getElem?_getD, hw]; rfl
      have gs : ws.getD (2 * k + 1 - 1) [] = sw := by rw [show 2 * k + 1 - 1 = 2 * k by omega, List.getD_eq_getElem?_getD, hsw]; rfl
      have nx : ((List.range (k + 1)).map fun i => 2 * i + 1).foldl (lawStep n ws) (some (List.replicate n 0)) = lawStep n ws (some f) (2 * k + 1) := by
        rw [List.range_succ, List.map_append, List.foldl_append, hf]; rfl
      have itw : ∀ (i : Nat) (u : List Nat), ws[i]? = some u → (SD.lst (ws.map fun w => D.str (tx w))).ds[i]? = some (.str (tx u)) := fun i u hu => by simp [SD.ds, hu]
      repeat walk_at "s"
      refine WSb.at (k := 2 * k + 1) (sd := .lst _) (by omega) trivial (itw _ w hw) (by omega) ?_
      repeat walk_at "s"
      refine ⟨_, rfl, ?_⟩
      repeat walk_at "s"
      refine ⟨_, rfl, by simp [Str.length, sizeLine]; omega, ?_⟩
      rw [cut_last1]
      unfold lawStep at nx
      simp only [Option.bind_some, gd, gs] at nx
      cases hg : w.getLast? with
      | none =>
        rw [hg] at nx
        repeat walk_at "s"
        rw [show (sg (tx (none : Option Nat).toList) == sg (Str.ofString "")) = true by kernel_rfl]
        repeat walk_at "s"
        exact h' (law_none nx (by omega)) _
      | some ch =>
        rw [hg] at nx
        simp only at nx
        rw [show (some ch).toList = [ch] from rfl]
        have hne : w ≠ [] := fun e => by rw [e] at hg; cases hg
        have h1w : 1 ≤ w.length := by cases w with | nil => exact absurd rfl hne | cons a r => simp
        repeat walk_at "s"
        rw [sg_tx, show sg (Str.ofString "") = [] from rfl, show ([ch] == ([] : List Nat)) = false from rfl]
        repeat walk_at "s"
        refine ⟨_, rfl, _, rfl, by decide +kernel, ?_⟩
        rw [letters_cut h5]
        refine WB.notInS ?_
        rw [letter_in h5]
        by_cases hch : 97 ≤ ch ∧ ch < 97 + n
        · rw [decide_eq_true hch]
          rw [if_pos hch] at nx
          repeat walk_at "s"
          refine WSb.at (k := 2 * k + 1) (sd := .lst _) (by omega) trivial (itw _ w hw) (by omega) ?_
          repeat walk_at "s"
          refine ⟨_, rfl, _, rfl, by simp [Str.length, sizeLine]; omega, ?_⟩
          rw [cut_to (i := -1) 1 rfl h1w (by decide), ← List.dropLast_eq_take]
          repeat walk_at "s"
          refine WF.at (number_of_ T (by simp; omega) ?_) (by decide)
          refine WS.cons ?_
          refine W1.join (fun m1 σ1 => (a, O.lst (f.map D.int)) :: σ = σ1 ∧ has m1 "_law_weights" (.ref a) ∧ has m1 "_law_size" (.int n) ∧ has m1 "_law_words" (.lst (ws.map fun w => .str (tx w))) ∧ has m1 "_law_letter" (.str (tx [ch])) ∧ has m1 "_law_number" (.int (if sw = [45] then -numOfL w.dropLast else numOfL w.dropLast))) ?_ fun m1 σ1 hJ => ?_
          · repeat walk_at "s"
            refine WSb.at (k := 2 * k) (sd := .lst _) (by omega) trivial (itw _ sw hsw) (by omega) ?_
            repeat walk_at "s"
            rw [sg_tx, sg_minus]
            by_cases hm : sw = [45]
            · rw [show (sw == [45]) = true by simp [hm]]
              repeat walk_at "s"
              refine ⟨rfl, ?_, ?_, ?_, ?_, ?_⟩
              · exact lk_skip (by decide) (lk_skip (by decide) (lk_skip (by decide) (lk_skip (by decide) g1)))
              · exact lk_skip (by decide) (lk_skip (by decide) (lk_skip (by decide) (lk_skip (by decide) g2)))
              · exact lk_skip (by decide) (lk_skip (by decide) (lk_skip (by decide) (lk_skip (by decide) g3)))
              · exact lk_skip (by decide) (lk_skip (by decide) lk_here)
              · rw [if_pos hm]; exact lk_here
            · rw [show (sw == [45]) = false by simp [hm]]
              repeat walk_at "s"
              refine ⟨rfl, ?_, ?_, ?_, ?_, ?_⟩
              · exact lk_skip (by decide) (lk_skip (by decide) (lk_skip (by decide) g1))
              · exact lk_skip (by decide) (lk_skip (by decide) (lk_skip (by decide) g2))
              · exact lk_skip (by decide) (lk_skip (by decide) (lk_skip (by decide) g3))
              · exact lk_skip (by decide) lk_here
              · rw [if_neg hm]; exact lk_here
          · obtain ⟨rfl, p1, p2, p3, p4, p5⟩ := hJ
            refine WS.cons ?_
            refine W1.setL ?_ (by with_unfolding_all rfl)
            repeat walk_at "s"
            refine ⟨_, rfl, ?_⟩
            repeat walk_at "s"
            refine At1.index (letter_index ⟨hch.1, by omega⟩) ?_
            refine ⟨a, _, ch - 97, [], σ, rfl, rfl, rfl, by simp; omega, by omega, ?_⟩
            rw [← List.map_set]
            repeat walk_at "s"
            exact ⟨_, nx, by simp [hfl], rfl, p1, p2, p3⟩
        · rw [decide_eq_false hch]
          rw [if_neg hch] at nx
          repeat walk_at "s"
          exact h' (law_none nx (by omega)) _
    · obtain ⟨f, hf, hfl, rfl, g1, g2, g3⟩ := hL
      rw [List.length_range] at hf
      refine WS.cons (W1.ret (WE.freeze ?_))
      repeat walk_at "s"
      exact ⟨a, _, [], σ, rfl, rfl, h f hf⟩
end
section
variable {c : Cx} {σ : Sto} {X : Addr → Sto → Prop} {Q : D → Sto → Prop} {K Kx : Frag} {C : Addr}
theorem word_Unread (T : Tp c B05 N05) (E : Xs c Kx E05) (h : Q (.str "unread") σ) : WF c (Room' 1) "_law_word_of" [.exc 109] σ Q X := by
  refine WF.byH 30 T rfl (bind1 fun _ _ _ _ => rfl) (by rfl) rfl fun A fr env r hs fe => ?_
  walk_at "m"
  repeat walk_at "s"
  refine At1.isiX (x := "Unread") (y := "BadSystem") (b := false) E rfl rfl (by decide) (by decide) ?_
  repeat walk_at "s"
  refine At1.isiX (x := "Unread") (y := "BadRow") (b := false) E rfl rfl (by decide) (by decide) ?_
  repeat walk_at "s"
  refine At1.isiX (x := "Unread") (y := "NotEven") (b := false) E rfl rfl (by decide) (by decide) ?_
  repeat walk_at "s"
  refine At1.isiX (x := "Unread") (y := "BadWants") (b := false) E rfl rfl (by decide) (by decide) ?_
  repeat walk_at "s"
  refine At1.isiX (x := "Unread") (y := "BadBound") (b := false) E rfl rfl (by decide) (by decide) ?_
  repeat walk_at "s"
  refine At1.isiX (x := "Unread") (y := "TooMany") (b := false) E rfl rfl (by decide) (by decide) ?_
  repeat walk_at "s"
  refine At1.isiX (x := "Unread") (y := "Unread") (b := true) E rfl rfl (by decide) (by decide) ?_
  repeat walk_at "s"
  refine At1.isiV (x := "Unread") (b := true) E rfl (by decide) ve_type ve_is ?_
  repeat walk_at "s"
  refine ⟨_, rfl, by with_unfolding_all decide, ?_⟩
  have e : Txt.rstrip (Str.ofString "" ++ Str.ofString "unread ") = Str.ofString "unread" := by kernel_rfl
  rw [e]
  exact h

theorem maxL_gt {b : Int} : ∀ {l : List Int}, l ≠ [] → decide (b < maxL l) = l.any fun x => decide (b < x)
  | [], h => absurd rfl h
  | a :: r, _ => by
    have go : ∀ (r : List Int) (a : Int), decide (b < r.foldl max a) = (decide (b < a) || r.any fun x => decide (b < x)) := by
      intro r
      induction r with
      | nil => intro a; rw [List.any_nil, Bool.or_false]; exact decide_eq_decide.mpr Iff.rfl
      | cons y r ih =>
        intro a
        rw [List.foldl_cons, ih, List.any_cons, ← Bool.or_assoc]
        congr 1
        rw [← Bool.decide_or]
        exact decide_eq_decide.mpr (by omega)
    rw [List.any_cons]
    exact go r a
theorem sg_zero : sg (Str.ofString "0 = 0") = zeroL := by kernel_rfl
theorem due_ {t : List Nat} {n : Nat} (T : Tp c B05 N05) (h1 : 1 ≤ n) (h5 : n ≤ 5) (ht : t.length ≤ 4000) (h : ∀ f, dueL t n = some f → ∀ σ', Q (il f) σ') (h' : dueL t n = none → ∀ σ', Q .none σ') : WF c (Room 3) "_law_due" [.str (tx t), .int n] σ Q X := by
  refine WF.by 29 T rfl (bind2 fun _ _ _ _ _ => rfl) (by rfl) rfl fun A fr env r hh hs fe => ?_
  walk_at "m"
  have d1 : Dfn c "_law_weights_of" := Dfn.by 28 T rfl
  have d2 : Dfn c "_law_text_of" := Dfn.by 26 T rfl
  unfold dueL at h h'
  repeat walk_at "s"
  rw [sg_tx, sg_zero]
  by_cases h0 : t = zeroL
  · rw [show (t == zeroL) = true by simp [h0]]
    rw [if_pos h0] at h
    repeat walk_at "s"
    refine ⟨by simp [sizeLine], .inl ?_⟩
    repeat walk_at "s"
    refine WB.mulL (sd := .lst _) rfl trivial (by omega) (by omega) (by simp [SD.ds] <;> omega) (.inl ?_)
    rw [show (List.replicate ((n : Int)).toNat (SD.lst [D.int 0]).ds).flatten = (List.replicate n (0 : Int)).map D.int from by simp [SD.ds]]
    exact h _ rfl _
  · rw [show (t == zeroL) = false by simp [h0]]
    rw [if_neg h0] at h h'
    repeat walk_at "s"
    refine WF.at (law_weights_of_ T h1 h5 ht (fun f hf => ?_) fun hno σ' => ?_) (by decide)
    · have hfl := lawOf_len hf
      rw [hf] at h h'
      simp only [Option.bind_some] at h h'
      repeat walk_at "s"
      rw [show isNone (il f) = false from rfl]
      repeat walk_at "s"
      refine WIv.seq (sd := .lst _) D.int hh rfl trivial (Turns.map (fun w => .int (w.natAbs : Int)) (fun _ _ => loc1 rfl) trivial (by simp [sizeLine]; omega) (fun w hw fr' cenv hc => ?_) (.inl ?_))
      · have hc := relab_of hc hs
        repeat walk_at "s"
        refine At1.abs ?_
        rw [abs_nat]
        exact ⟨rfl, rfl⟩
      repeat walk_at "s"
      refine At1.max (sd := .lst _) (l := f.map fun w => (w.natAbs : Int)) hh (by simp [SD.ds, Function.comp_def]) (fun e => by have := congrArg List.length e; simp at this; subst this; simp at hfl; omega) trivial ?_
      repeat walk_at "s"
      rw [maxL_gt (fun e => by have := congrArg List.length e; simp at this; subst this; simp at hfl; omega), List.any_map]
      have hany : f.any ((fun x : Int => decide (20 < x)) ∘ fun w : Int => (w.natAbs : Int)) = f.any fun w => decide (20 < w.natAbs) := by
        congr 1
        funext w
        exact decide_eq_decide.mpr (by simp; omega)
      rw [hany]
      cases ha : f.any fun w => decide (20 < w.natAbs) with
      | true =>
        rw [ha] at h'
        repeat walk_at "s"
        exact h' (by simp) _
      | false =>
        have hw20 : ∀ w ∈ f, w.natAbs ≤ 20 := fun w hw => by
          have := List.any_eq_false.mp ha w hw
          simp at this; omega
        rw [ha] at h h'
        repeat walk_at "s"
        refine WF.at (law_text_ T (by omega) hw20 ?_) (by decide)
        repeat walk_at "s"
        rw [sg_tx, sg_tx]
        by_cases hsh : shownL f = t
        · rw [show (shownL f != t) = false by simp [hsh]]
          repeat walk_at "s"
          exact h f (by simp [hsh]) _
        · rw [show (shownL f != t) = true by simp [hsh]]
          repeat walk_at "s"
          exact h' (by simp [hsh]) _
    · rw [hno] at h'
      repeat walk_at "s"
      rw [show isNone .none = true from rfl]
      repeat walk_at "s"
      exact h' rfl _
theorem unr_eq : (sg (Str.ofString "unread") == sg (Str.ofString "unread")) = true := by kernel_rfl
theorem found_ {t : List Nat} {n : Nat} (T : Tp c B05 N05) (G : Gi c G05) (GS : Gt c S05) (E : Xs c Kx E05) (ru : Rai c "Unread") (rb : Rai c "BadSystem") (h1 : 1 ≤ n) (h5 : n ≤ 5) (ht : t.length ≤ 4000) (h : ∀ f, readL t n = some f → ∀ σ', Q (il f) σ') (h' : readL t n = none → ∀ σ', Q .none σ') : WF c (Room 7) "_law_found" [.str (tx t), .int n] σ Q X := by
  refine WF.by 31 T rfl (bind2 fun _ _ _ _ _ => rfl) (by rfl) rfl fun A fr env r hh hs fe => ?_
  walk_at "m"
  have d1 : Dfn c "_law_word_of" := Dfn.by 30 T rfl
  have d2 : Dfn c "read" := Dfn.by 22 T rfl
  refine WS.cons (W1.join (fun m' σ' => False) ?_ fun m' σ' hF => hF.elim)
  refine W1.tryAs (Xb := fun C' σ' => C' = 109 ∧ readL t n = none) fe E (by walk_at "k") rfl (by walk_at "k") ?_ fun C' σ' ⟨e1, e2⟩ => ?_
  · repeat walk_at "s"
    exact WF.at (read_ T G GS E ru rb h1 h5 (by omega) (fun f hf => h f hf _) fun hno σ' => ⟨rfl, hno⟩) (by decide)
  · subst e1
    refine ⟨"Unread", up05 109, rfl, by decide, fun e => ?_⟩
    refine WS.cons (W1.ite (WT.compare (WE.callP (P := Room' 1) T (Room.mono r (by decide)).1.mark (by walk_at "k") d1 ?_) (hb := by with_unfolding_all rfl)))
    repeat walk_at "s"
    refine word_Unread T E ?_
    repeat walk_at "s"
    rw [unr_eq]
    repeat walk_at "s"
    exact h' e2 _
theorem read_no_text {d : D} {n : Nat} (T : Tp c B05 N05) (G : Gi c G05) (E : Xs c Kx E05) (ru : Rai c "Unread") (h1 : 1 ≤ n) (h5 : n ≤ 5) (hd : isT σ "str" d = some false) (h : X 109 σ) : WF c (Room 2) "read" [d, .int n] σ Q X := by
  refine WF.by 22 T rfl (bind2 fun _ _ _ _ _ => rfl) (by rfl) rfl fun A fr env r hh hs fe => ?_
  walk_at "m"
  have d1 : Dfn c "is_whole" := Dfn.by 12 T rfl
  repeat walk_at "s"
  refine WF.at (is_whole_ T rfl ?_) (by decide)
  rw [show wholeD 1 5 (.int n) = true by simp [wholeD]; omega]
  repeat walk_at "s"
  refine At1.isi (b := false) (by decide) hd ?_
  repeat walk_at "s"
  exact ⟨by simp [sizeLine], h⟩
theorem found_no {d : D} {n : Nat} (T : Tp c B05 N05) (G : Gi c G05) (E : Xs c Kx E05) (ru : Rai c "Unread") (h1 : 1 ≤ n) (h5 : n ≤ 5) (hd : isT σ "str" d = some false) (h : Q .none σ) : WF c (Room 7) "_law_found" [d, .int n] σ Q X := by
  refine WF.by 31 T rfl (bind2 fun _ _ _ _ _ => rfl) (by rfl) rfl fun A fr env r hh hs fe => ?_
  walk_at "m"
  have d1 : Dfn c "_law_word_of" := Dfn.by 30 T rfl
  have d2 : Dfn c "read" := Dfn.by 22 T rfl
  refine WS.cons (W1.join (fun m' σ' => False) ?_ fun m' σ' hF => hF.elim)
  refine W1.tryAs (Xb := fun C' σ' => C' = 109 ∧ σ' = σ) fe E (by walk_at "k") rfl (by walk_at "k") ?_ fun C' σ' ⟨e1, e2⟩ => ?_
  · repeat walk_at "s"
    exact WF.at (read_no_text T G E ru h1 h5 hd ⟨rfl, rfl⟩) (by decide)
  · subst e1 e2
    refine ⟨"Unread", up05 109, rfl, by decide, fun e => ?_⟩
    refine WS.cons (W1.ite (WT.compare (WE.callP (P := Room' 1) T (Room.mono r (by decide)).1.mark (by walk_at "k") d1 ?_) (hb := by with_unfolding_all rfl)))
    repeat walk_at "s"
    refine word_Unread T E ?_
    repeat walk_at "s"
    rw [unr_eq]
    repeat walk_at "s"
    exact h
end
section
variable {c : Cx} {σ : Sto} {X : Addr → Sto → Prop} {Q : D → Sto → Prop} {K Kx : Frag} {C : Addr}
theorem join_fits {sep : Str} {ts : List Str} {b : Nat} (hs : sep.length ≤ 1) (hl : ts.length ≤ 60) (hb : ∀ y ∈ ts, y.length ≤ 40) : JoinOk sep ts = true ∧ (Txt.join sep ts).length ≤ 4000 := by
  have h1 := StrLaws.sumLen_le ts hb
  have h2 : ts.length * 40 ≤ 60 * 40 := Nat.mul_le_mul_right _ hl
  have h3 : ts.length * sep.length ≤ 60 * 1 := Nat.mul_le_mul hl hs
  constructor
  · unfold JoinOk
    rw [StrLaws.joinFits hb (by omega)]; rfl
  · show (Builtin.Str.glued sep ts).length ≤ _
    rw [StrLaws.glued_eq_join]
    have := StrLaws.join_length_le sep ts
    omega
theorem signs24 : (sg (Str.ofString " +-=0123456789abcdefA*.\n")).length = 24 := by kernel_rfl
theorem len_blank : (Str.ofString " ").length = 1 := by kernel_rfl
def someW : List Str := ["", "0", "0a", "1a", "01b", "21c", "20c", "-a", "--a", "+", "-", "=", "a", "b", "2", "200a", "aa", "f", "3A", "\t", "2 a"]
theorem someW_ok : someW.length = 21 ∧ ∀ y ∈ someW, y.length ≤ 40 := by decide +kernel
theorem text_ {S : List Int} (T : Tp c B05 N05) (hS : S.length ≤ 63) (h : ∀ x : Str, x.length ≤ 4000 → ∀ σ', Q (.str x) σ') : WF c (Room 5) "_law_text" [.lst (S.map .int)] σ Q X := by
  refine WF.by 32 T rfl (bind1 fun _ _ _ _ => rfl) (by rfl) rfl fun A fr env r hh hs fe => ?_
  walk_at "m"
  have d1 : Dfn c "_law_cell_at" := Dfn.by 24 T rfl
  have d2 : Dfn c "_law_weight_by" := Dfn.by 25 T rfl
  have d3 : Dfn c "_law_text_of" := Dfn.by 26 T rfl
  repeat walk_at "s"
  refine WF.at (cell_at_ T hS (by decide) (by decide) ?_) (by decide)
  repeat walk_at "s"
  obtain ⟨n, hn⟩ : ∃ n : Nat, 1 + S.getD (0 : Int).toNat 0 % 5 = (n : Int) := ⟨(1 + S.getD (0 : Int).toNat 0 % 5).toNat, by omega⟩
  have hn1 : 1 ≤ n := by omega
  have hn5 : n ≤ 5 := by omega
  rw [hn]
  repeat walk_at "s"
  refine ⟨n, rfl, by omega, by omega, ?_⟩
  refine Turns.map (fun i => .int (wtC (S.getD (4 + (i : Int)).toNat 0))) (fun _ _ => loc1 rfl) trivial (by simp [sizeLine]; omega) (fun i hi fr' cenv hc => ?_) (.inl ?_)
  · have hc := relab_of hc hs
    have hi' : i < n := by simpa using hi
    repeat walk_at "s"
    refine WF.at (cell_at_ T hS (by omega) (by omega) ?_) (by decide)
    repeat walk_at "s"
    refine WF.at (weight_by_ T ?_) (by decide)
    exact ⟨rfl, rfl⟩
  obtain ⟨ws, ew, hwl, hw⟩ : ∃ ws : List Int, (List.range (n : Int).toNat).map (fun (i : Nat) => D.int (wtC (S.getD (4 + (i : Int)).toNat 0))) = ws.map D.int ∧ ws.length = n ∧ ∀ w ∈ ws, w.natAbs ≤ 20 := by
    refine ⟨(List.range n).map fun (i : Nat) => wtC (S.getD (4 + (i : Int)).toNat 0), by simp [Function.comp_def], by simp, fun w hw => ?_⟩
    obtain ⟨i, _, rfl⟩ := List.mem_map.mp hw
    exact wtC_ok _
  rw [ew]
  repeat walk_at "s"
  refine WF.at (law_text_ T (by omega) hw ?_) (by decide)
  have hlen : (shownL ws).length ≤ 34 := by
    have := body_len ws ws.length
    rw [List.take_length] at this
    unfold shownL
    split
    · simp
    · simp; omega
  generalize shownL ws = t at hlen
  have hsl := splitL_len t
  repeat walk_at "s"
  refine WF.at (cell_at_ T hS (by decide) (by decide) ?_) (by decide)
  generalize S.getD (1 : Int).toNat 0 = cell
  repeat walk_at "s"
  refine WF.at (cell_at_ T hS (by decide) (by decide) ?_) (by decide)
  repeat walk_at "s"
  generalize hkd : S.getD (2 : Int).toNat 0 % 4 = kind
  by_cases h1 : kind = 1
  · rw [show (kind == 1) = true by simp [h1]]
    repeat walk_at "s"
    refine ⟨_, rfl, ?_⟩
    repeat walk_at "s"
    refine At1.split (by kernel_rfl) (by simp [Str.length, sizeLine]; omega) (parts_small (by simp [Str.length]; omega)) (.inr fun a ha => ?_)
    rw [split_eq, List.map_map]
    obtain ⟨ts, ets, htl, hts⟩ : ∃ ts : List Str, List.map (D.str ∘ tx) (splitL t) = ts.map D.str ∧ (1 ≤ ts.length ∧ ts.length ≤ 35) ∧ ∀ y ∈ ts, y.length ≤ 34 := by
      refine ⟨(splitL t).map tx, by simp, ⟨?_, by simp; omega⟩, fun y hy => ?_⟩
      · cases e : splitL t with
        | nil => exact absurd e (splitL_ne t)
        | cons p q => simp
      · obtain ⟨p, hp, rfl⟩ := List.mem_map.mp hy
        have := hsl.2 p hp
        simp [Str.length]; omega
    rw [ets]
    have hin : (a, O.lst (ts.map D.str)) ∈ (a, O.lst (ts.map D.str)) :: σ := .head _
    have at_ : ∀ (i : Nat) (y : Str), ts[i]? = some y → (SD.ref a (ts.map D.str)).ds[i]? = some (.str y) := fun i y hy => by simp [SD.ds, hy]
    refine WS.cons ?_
    refine W1.join (fun m1 σ1 => (a, O.lst (ts.map D.str)) :: σ = σ1 ∧ has m1 "_law_words" (.ref a) ∧ has m1 "_law_cell" (.int cell)) ?_ fun m1 σ1 hJ => ?_
    · repeat walk_at "s"
      have keep : (a, O.lst (ts.map D.str)) :: σ = (a, O.lst (ts.map D.str)) :: σ := rfl
      by_cases hc1 : cell / 336 % 2 = 1
      · rw [show (cell / 336 % 2 == 1) = true by simp [hc1]]
        repeat walk_at "s"
        refine At1.len (sd := .ref a (ts.map D.str)) hin (by simp [SD.ds]; omega) ?_
        rw [show (SD.ref a (ts.map D.str)).ds.length = ts.length by simp [SD.ds]]
        repeat walk_at "s"
        by_cases hl4 : 4 < ts.length
        · rw [decide_eq_true (by omega)]
          obtain ⟨y0, e0⟩ : ∃ y, ts[0]? = some y := ⟨ts[0], by simp⟩
          obtain ⟨y1, e1⟩ : ∃ y, ts[1]? = some y := ⟨ts[1], by simp⟩
          obtain ⟨y2, e2⟩ : ∃ y, ts[2]? = some y := ⟨ts[2], by simp⟩
          repeat walk_at "s"
          refine ⟨_, rfl, ?_⟩
          repeat walk_at "s"
          refine WSb.at (k := 2) (sd := .ref a (ts.map D.str)) rfl hin (at_ 2 y2 e2) (by decide) ?_
          repeat walk_at "s"
          refine WSb.at (k := 1) (sd := .ref a (ts.map D.str)) rfl hin (at_ 1 y1 e1) (by decide) ?_
          repeat walk_at "s"
          refine WSb.at (k := 0) (sd := .ref a (ts.map D.str)) rfl hin (at_ 0 y0 e0) (by decide) ?_
          repeat walk_at "s"
          refine ⟨by simp [sizeLine], .inl ?_⟩
          refine WE.sliceL ?_ (ht := by with_unfolding_all (intro _ _; rfl))
          repeat walk_at "s"
          refine ⟨_, rfl, ?_⟩
          repeat walk_at "s"
          refine ⟨.ref a (ts.map D.str), rfl, rfl, hin, by simp [SD.ds, sizeLine]; omega, .inl ?_⟩
          rw [show pick (SD.ref a (ts.map D.str)).ds (some 3) none = (ts.drop 3).map D.str from by
            show pick (ts.map D.str) (some 3) none = _
            rw [pick_map]
            congr 1
            have e : clipAt ts.length 3 = 3 := by unfold clipAt; simp; omega
            simp only [Option.elim, e]
            exact List.take_of_length_le (by simp)]
          refine WB.addL (sd1 := .lst _) (sd2 := .lst _) rfl rfl trivial trivial (by simp [SD.ds, sizeLine]; omega) (.inl ?_)
          repeat walk_at "s"
          have jf := join_fits (b := 0) (sep := Str.ofString " ") (ts := [y2, y1, y0] ++ ts.drop 3) (Nat.le_of_eq len_blank) (by simp; omega) fun y hy => by
            rcases List.mem_append.mp hy with q | q
            · simp at q
              rcases q with rfl | rfl | rfl
              · have := hts _ (List.mem_of_getElem? e2); omega
              · have := hts _ (List.mem_of_getElem? e1); omega
              · have := hts _ (List.mem_of_getElem? e0); omega
            · have := hts y (List.mem_of_mem_drop q); omega
          exact At1.join (sd := .lst _) (ts := [y2, y1, y0] ++ ts.drop 3) rfl trivial (by simp [SD.ds]) jf.1 (h _ jf.2 _)
        · rw [decide_eq_false (by omega)]
          repeat walk_at "s"
          exact ⟨rfl, lk_here, lk_skip (by decide) (lk_skip (by decide) lk_here)⟩
      · rw [show (cell / 336 % 2 == 1) = false by simp; omega]
        repeat walk_at "s"
        exact ⟨rfl, lk_here, lk_skip (by decide) (lk_skip (by decide) lk_here)⟩
    · obtain ⟨rfl, j1, j2⟩ := hJ
      repeat walk_at "s"
      refine ⟨by simp [sizeLine], .inl ?_⟩
      refine WS.cons ?_
      refine W1.setL ?_ (by with_unfolding_all rfl)
      repeat walk_at "s"
      refine ⟨by simp [sizeLine], .inl ?_⟩
      refine WB.addL (sd1 := .lst _) (sd2 := .lst _) rfl rfl trivial trivial (by simp [SD.ds, sizeLine]) (.inl ?_)
      repeat walk_at "s"
      obtain ⟨y, ey⟩ : ∃ y, someW[(cell / 16 % 21).toNat]? = some y := ⟨someW[(cell / 16 % 21).toNat]'(by rw [someW_ok.1]; omega), by simp⟩
      refine WSb.item (sd := .lst (someW.map D.str)) (d := .str y) trivial (by omega) (by omega) (by simp only [SD.ds, List.length_map, someW_ok.1]; omega) (by rw [idx, if_neg (by omega)]; simp only [SD.ds, List.getElem?_map, ey]; rfl) ?_
      repeat walk_at "s"
      refine At1.len (sd := .ref a (ts.map D.str)) hin (by simp [SD.ds]; omega) ?_
      rw [show (SD.ref a (ts.map D.str)).ds.length = ts.length by simp [SD.ds]]
      refine WB.modE (by omega) (by omega) ?_
      have hm0 := Int.emod_nonneg cell (show (ts.length : Int) ≠ 0 by omega)
      have hm1 := Int.emod_lt_of_pos cell (show (0 : Int) < (ts.length : Int) by omega)
      refine ⟨a, _, (cell % (ts.length : Int)).toNat, [], σ, rfl, by rw [Int.toNat_of_nonneg hm0], rfl, by simp; omega, by omega, ?_⟩
      rw [← List.map_set]
      repeat walk_at "s"
      refine ⟨_, rfl, ?_⟩
      repeat walk_at "s"
      have jf := join_fits (b := 0) (sep := Str.ofString " ") (ts := ts.set (cell % (ts.length : Int)).toNat y) (Nat.le_of_eq len_blank) (by simp; omega) fun z hz => by
        rcases List.mem_or_eq_of_mem_set hz with q | rfl
        · have := hts z q; omega
        · exact someW_ok.2 _ (List.mem_of_getElem? ey)
      exact At1.join (sd := .ref a ((ts.set (cell % (ts.length : Int)).toNat y).map D.str)) rfl (.head _) rfl jf.1 (h _ jf.2 _)
  · rw [show (kind == 1) = false by simp [h1]]
    repeat walk_at "s"
    by_cases h2 : 1 < kind
    · rw [decide_eq_true h2]
      repeat walk_at "s"
      have h24 := signs24
      obtain ⟨j, ej⟩ : ∃ j, (sg (Str.ofString " +-=0123456789abcdefA*.\n"))[(cell / 3 % 24).toNat]? = some j := ⟨(sg (Str.ofString " +-=0123456789abcdefA*.\n"))[(cell / 3 % 24).toNat]'(by rw [signs24]; omega), by simp⟩
      refine WSb.sign (by omega) (by omega) (by rw [signs24]; omega) (by rw [idx, if_neg (by omega)]; exact ej) ?_
      repeat walk_at "s"
      refine At1.lenS (by simp [Str.length, sizeLine]; omega) ?_
      rw [show (tx t).length = t.length by simp [Str.length]]
      repeat walk_at "s"
      refine WB.modE (by omega) (by omega) ?_
      have hm0 := Int.emod_nonneg (cell / 72) (show ((t.length : Int) + 1) ≠ 0 by omega)
      have hm1 := Int.emod_lt_of_pos (cell / 72) (show (0 : Int) < (t.length : Int) + 1 by omega)
      generalize cell / 72 % ((t.length : Int) + 1) = at_ at hm0 hm1
      repeat walk_at "s"
      refine ⟨_, rfl, _, rfl, by simp [Str.length, sizeLine]; omega, ?_⟩
      have c1 := cut_le (tx t) none (some at_)
      rw [show (tx t).length = t.length by simp [Str.length]] at c1
      repeat walk_at "s"
      refine ⟨by simp [sizeLine], .inl ?_⟩
      repeat walk_at "s"
      obtain ⟨x, hx, ex⟩ : ∃ x : Str, x.length ≤ 1 ∧ ([D.str (tx [j]), D.str (Str.ofString ""), D.str (tx [j])] : List D)[idx (cell % 3) 3]? = some (.str x) := by
        have : cell % 3 = 0 ∨ cell % 3 = 1 ∨ cell % 3 = 2 := by omega
        rcases this with e | e | e <;> rw [e]
        · exact ⟨tx [j], by simp [Str.length], rfl⟩
        · exact ⟨Str.ofString "", by decide +kernel, rfl⟩
        · exact ⟨tx [j], by simp [Str.length], rfl⟩
      refine WSb.item (sd := .lst _) (d := .str x) trivial (by omega) (by omega) (by simp only [SD.ds, List.length_cons, List.length_nil]; omega) ex ?_
      refine WB.addS (by simp [sizeLine]; omega) ?_
      repeat walk_at "s"
      refine ⟨by simp [sizeLine], .inl ?_⟩
      repeat walk_at "s"
      obtain ⟨k, hk, ek⟩ : ∃ k : Int, (0 ≤ k ∧ k ≤ 1) ∧ ([D.int 0, D.int 1, D.int 1] : List D)[idx (cell % 3) 3]? = some (.int k) := by
        have : cell % 3 = 0 ∨ cell % 3 = 1 ∨ cell % 3 = 2 := by omega
        rcases this with e | e | e <;> rw [e]
        · exact ⟨0, by decide, rfl⟩
        · exact ⟨1, by decide, rfl⟩
        · exact ⟨1, by decide, rfl⟩
      refine WSb.item (sd := .lst _) (d := .int k) trivial (by omega) (by omega) (by simp only [SD.ds, List.length_cons, List.length_nil]; omega) ek ?_
      repeat walk_at "s"
      refine ⟨_, rfl, ?_⟩
      repeat walk_at "s"
      refine ⟨_, rfl, by simp [Str.length, sizeLine]; omega, ?_⟩
      have c2 := cut_le (tx t) (some (at_ + k)) none
      rw [show (tx t).length = t.length by simp [Str.length]] at c2
      have c3 : (cut (tx t) none (some at_) ++ x).length ≤ 35 := by rw [Str.length_append]; omega
      refine WB.addS (by simp [sizeLine]; omega) (h _ ?_ _)
      rw [Str.length_append]; omega
    · rw [decide_eq_false h2]
      repeat walk_at "s"
      exact h _ (by simp [Str.length]; omega) _
theorem readL_len {t : List Nat} {n : Nat} {ws : List Int} (h : readL t n = some ws) : ws.length = n := by
  unfold readL at h
  split at h
  · cases h
  · obtain ⟨f, h1, h2⟩ := Option.bind_eq_some_iff.mp h
    split at h2
    · cases h2
    · cases h2
      split at h1
      · cases h1; simp
      · split at h1
        · cases h1
        · exact weightsOf_len h1
theorem law_ {S : List Int} (T : Tp c B05 N05) (G : Gi c G05) (GS : Gt c S05) (E : Xs c Kx E05) (ra : Rai c "BadSystem") (ru : Rai c "Unread") (hS : S.length ≤ 63) : WF c (Room 14) "law" [.lst (S.map .int)] [] (fun d _ => d = .bool true) NoX := by
  refine WF.by 33 T rfl (bind1 fun _ _ _ _ => rfl) (by rfl) rfl fun A fr env r hh hs fe => ?_
  walk_at "m"
  have d1 : Dfn c "_law_cell_at" := Dfn.by 24 T rfl
  have d2 : Dfn c "_law_text" := Dfn.by 32 T rfl
  have d3 : Dfn c "_law_found" := Dfn.by 31 T rfl
  have d4 : Dfn c "_law_due" := Dfn.by 29 T rfl
  repeat walk_at "s"
  refine WF.at (text_ T hS fun x hx σ1 => ?_) (by decide)
  obtain ⟨t, rfl, ht⟩ : ∃ t, x = tx t ∧ t.length ≤ 4000 := ⟨sg x, (tx_sg x).symm, by rw [sg_len]; exact hx⟩
  obtain ⟨n, hn⟩ : ∃ n : Nat, 1 + (S.getD (0 : Int).toNat 0 + S.getD (3 : Int).toNat 0 % 3 / 2) % 5 = (n : Int) := ⟨(1 + (S.getD (0 : Int).toNat 0 + S.getD (3 : Int).toNat 0 % 3 / 2) % 5).toNat, by omega⟩
  have hn1 : 1 ≤ n := by omega
  have hn5 : n ≤ 5 := by omega
  have same := due_read (t := t) (n := n) fun ws h => readL_len h
  refine WS.cons ?_
  refine W1.join (fun m1 σ2 => has m1 "_law_script" (.lst (S.map D.int)) ∧ has m1 "_law_size" (.int n) ∧ has m1 "_law_text_here" (.str (tx t))) ?_ fun m0 σ0 hJ0 => ?_
  · repeat walk_at "s"
    refine WF.at (cell_at_ T hS (by decide) (by decide) ?_) (by decide)
    repeat walk_at "s"
    refine WF.at (cell_at_ T hS (by decide) (by decide) ?_) (by decide)
    repeat walk_at "s"
    rw [hn]
    exact ⟨lk_skip (by decide) (lk_skip (by decide) lk_here), lk_here, lk_skip (by decide) lk_here⟩
  obtain ⟨q1, q2, q3⟩ := hJ0
  refine WS.cons ?_
  refine W1.join (fun m1 σ2 => has m1 "_law_script" (.lst (S.map D.int)) ∧ has m1 "_law_size" (.int n)) ?_ fun m1 σ2 hJ => ?_
  · repeat walk_at "s"
    refine WF.at (found_ T G GS E ru ra hn1 hn5 ht (fun f hf σ2 => ?_) fun hno σ2 => ?_) (by decide)
    · repeat walk_at "s"
      refine WF.at (due_ T hn1 hn5 ht (fun g hg σ3 => ?_) fun hno σ3 => ?_) (by decide)
      · rw [same, hf] at hg
        cases hg
        refine WB.neD r (.of (Py.ints (n := 0))) (.of (Py.ints (n := 0))) ?_
        rw [eqv_ints, decide_eq_true rfl]
        repeat walk_at "s"
        exact ⟨q1, q2⟩
      · rw [same, hf] at hno; cases hno
    · repeat walk_at "s"
      refine WF.at (due_ T hn1 hn5 ht (fun g hg σ3 => ?_) fun hno2 σ3 => ?_) (by decide)
      · rw [same, hno] at hg; cases hg
      · refine WB.neD r (.of (Py.none (n := 0))) (.of (Py.none (n := 0))) ?_
        rw [show PyData.eqv .none .none = true from rfl]
        repeat walk_at "s"
        exact ⟨q1, q2⟩
  · obtain ⟨j1, j2⟩ := hJ
    repeat walk_at "s"
    refine ⟨by simp [sizeLine], .inl ?_⟩
    repeat walk_at "s"
    refine ⟨by simp [sizeLine], ?_⟩
    repeat walk_at "s"
    refine ⟨by simp [sizeLine], .inl ?_⟩
    repeat walk_at "s"
    refine ⟨by simp [sizeLine], .inl ?_⟩
    repeat walk_at "s"
    refine WF.at (cell_at_ T hS (by decide) (by decide) ?_) (by decide)
    repeat walk_at "s"
    obtain ⟨d, ed, hd⟩ : ∃ d, ([D.none, D.int 7, D.bool true, D.lst [D.str "a = 0"], D.tup [D.str "a", D.str "b"], D.lst []] : List D)[idx (S.getD (3 : Int).toNat 0 / 3 % 6) 6]? = some d ∧ ∀ σ', isT σ' "str" d = some false := by
      have : S.getD (3 : Int).toNat 0 / 3 % 6 = 0 ∨ S.getD (3 : Int).toNat 0 / 3 % 6 = 1 ∨ S.getD (3 : Int).toNat 0 / 3 % 6 = 2 ∨ S.getD (3 : Int).toNat 0 / 3 % 6 = 3 ∨ S.getD (3 : Int).toNat 0 / 3 % 6 = 4 ∨ S.getD (3 : Int).toNat 0 / 3 % 6 = 5 := by omega
      rcases this with e | e | e | e | e | e <;> rw [e] <;> exact ⟨_, rfl, fun _ => rfl⟩
    refine WSb.item (sd := .lst _) (d := d) trivial (by omega) (by omega) (by simp only [SD.ds, List.length_cons, List.length_nil]; omega) ed ?_
    repeat walk_at "s"
    refine WF.at (found_no T G E ru hn1 hn5 (hd _) ?_) (by decide)
    repeat walk_at "s"
    rw [show isNone .none = true from rfl]
    repeat walk_at "s"
    have hz : Str.ofString "0 = 0" = tx zeroL := by kernel_rfl
    rw [hz]
    have hrz : readL zeroL n = some (List.replicate n 0) := by
      rw [← due_read (t := zeroL) (n := n) fun ws h => readL_len h]
      unfold dueL; rw [if_pos rfl]
    refine WF.at (found_ T G GS E ru ra hn1 hn5 (by decide) (fun f hf σ3 => ?_) fun hno σ3 => ?_) (by decide)
    · rw [hrz] at hf
      cases hf
      repeat walk_at "s"
      refine ⟨by simp [sizeLine], .inl ?_⟩
      repeat walk_at "s"
      refine WB.mulL (sd := .lst _) rfl trivial (by omega) (by omega) (by simp [SD.ds] <;> omega) (.inl ?_)
      rw [show (List.replicate ((n : Int)).toNat (SD.lst [D.int 0]).ds).flatten = (List.replicate n (0 : Int)).map D.int from by simp [SD.ds]]
      refine WB.eqD r (.of (Py.ints (n := 0))) (.of (Py.ints (n := 0))) ?_
      rw [eqv_ints, decide_eq_true rfl]
    · rw [hrz] at hno; cases hno
end
end Mine
open PySem PySem.W PyProof.Rows
set_option maxRecDepth 100000
set_option maxHeartbeats 8000000
theorem PySem.Challenge.cw_uf050013_05_holds : PySem.Challenge.rw_uf050013_05.Holds := by
  w_on
  o_law
  refine holds_open (q := Mine.q05) (loose := []) (Xt := fun s => xlAt Mine.q05 [] s && recOk (RowW.records PySem.Challenge.rw_uf050013_05.row.toRowW) s) (XP := XL Mine.q05 []) (Yf := Hook.obs (Mine.xHook Mine.A05 Mine.E05)) (Ya := Hook.val (Mine.xHook Mine.A05 Mine.E05)) (YP := Hook.says (Mine.xHook Mine.A05 Mine.E05)) (N := 4654) Mine.left05 (Hook.of (Mine.xHook Mine.A05 Mine.E05)) (Hook.keeps (Mine.xHook Mine.A05 Mine.E05)) (fun s e => xl_of s (Bool.and_eq_true_iff.mp e).1) XL.keeps (by rfl) (by rfl) (by rfl) (fun s e => recFacts_of (Bool.and_eq_true_iff.mp e).2) (by rfl) (by assumption) (by decide +kernel) ⟨rfl, rfl, rfl, rfl, rfl, by decide +kernel⟩ ?hw ?hc
  (case hw => w_witness2)
  intro w s₀ s₁ mg mb G Y fa o pm cd doc dV kV ho hd hcd hD hmg hg args vals as hpre hlay hrd hwl hlo
  refine Ground.open G ?_
  intro T B D TE TW
  clear ho hd hcd hD
  wrow_args hpre hlay hrd hwl hlo
  rename_i S hs1 hlay0 hL1 hr1 hl2 w4 w3 l vs as' hL ra w1 r0 hI hr hc1 hc2
  have Tm : Mine.Tp ⟨PySem.Challenge.rw_uf050013_05.row.prog, w, s₁.heap, mg, mb⟩ Mine.B05 Mine.N05 := Mine.Tp.ofTop T (by kernel_rfl) (by kernel_rfl) (by kernel_rfl)
  have Gm : Mine.Gi ⟨PySem.Challenge.rw_uf050013_05.row.prog, w, s₁.heap, mg, mb⟩ Mine.G05 := Mine.Gi.ofTop T (by kernel_rfl)
  have Gs : Mine.Gt ⟨PySem.Challenge.rw_uf050013_05.row.prog, w, s₁.heap, mg, mb⟩ Mine.S05 := Mine.Gt.ofTop T (by kernel_rfl)
  have Xm := Mine.Xs.ofHook (c := ⟨PySem.Challenge.rw_uf050013_05.row.prog, w, s₁.heap, mg, mb⟩) Y Tm.good
  have R1 : Mine.Rai ⟨PySem.Challenge.rw_uf050013_05.row.prog, w, s₁.heap, mg, mb⟩ (Str.ofString "BadSystem") := Mine.Rai.ofTop T (by kernel_rfl)
  have R2 : Mine.Rai ⟨PySem.Challenge.rw_uf050013_05.row.prog, w, s₁.heap, mg, mb⟩ (Str.ofString "Unread") := Mine.Rai.ofTop T (by kernel_rfl)
  have w2 : Well w.params s₁.heap (.ref l) (.list (S.map WData.int)) := by
    have := w1
    simp only [ofPy, Mine.ofPys_ints] at this
    exact this
  exact Mine.last (c := ⟨PySem.Challenge.rw_uf050013_05.row.prog, w, s₁.heap, mg, mb⟩) (Mine.law_ Tm Gm Gs Xm R1 R2 (by omega)) (by decide) hmg (Mine.V.ofWell w2) rfl hg (Mine.post_ok _ _ _) (Mine.raises_ok _ _)
